/- What the functions compute, one contract each. -/
import Derived.Test.YtdehfecgpdphoaaGreatTakesCt2
set_option linter.unusedSimpArgs false
set_option linter.unusedVariables false
namespace Tev
open Go
set_option maxRecDepth 50000
set_option maxHeartbeats 20000000
theorem zA {E:aP} (J:Sys E) (s:Int):E 432 [iv s]=some ([ov 1 (bB (dS s))],[]):=by
 refine J.run rfl rfl fun W U=>?_
 conv=>lhs;whnf
 refine U.loop (σ:=Nat × List Int) (γ:=Nat) (fun i s=>(s.sl 4 (v1 (.t (.int .i64 i.1)))).bl ⟨50300,1, .own,bB i.2⟩) (fun i m=>i.1=m∧m≤40∧i.2.length≤m∧i.2++lI s m (40-m)=dS s) (fun m=>40-m) (fun _=>([ov 1 (bB (dS s))],[])) (0,[]) 0 ?_ ?_ ?_ ?_
 ·intro K
  conv=>lhs;whnf
  conv=>rhs;whnf
  try rfl
 ·exact⟨rfl,by omega,by simp,rfl⟩
 ·rintro kl ⟨m,acc⟩ _ ⟨rfl,hm,hl,hs⟩ ih
  simp only at hs hm hl
  conv=>lhs;whnf
  apply U.b<;>intro h1<;>conv=>lhs;whnf
  ·have h1:m<40:=by
    have:(m:Int)<40:=by simpa using h1
    omega
   rw[show 40-m=(40-(m+1))+1 from by omega,lI]at hs
   apply U.w (dE J s m)
   conv=>lhs;whnf
   try(apply U.q;exact aC;conv=>lhs;whnf)
   apply U.b<;>intro h3<;>conv=>lhs;whnf
   ·rw[if_pos h3]at hs
    refine U.q (by exact⟨by decide,by intro e he;simp at he;subst he;rfl,by simp[bB];omega,by simp[bB];omega⟩) ?_
    conv=>lhs;whnf
    repeat((first|apply U.t|apply U.f|(apply U.q;exact aC));conv=>lhs;whnf)
    refine ih (m+1,acc++[(m:Int)]) (m+1) _ ?_ ⟨rfl,by omega,by simp;omega,by simpa using hs⟩ (by omega)
    intro K
    conv=>lhs;whnf
    conv=>rhs;whnf
    try rfl
    rw[show IntKind.i64.wrap ((m:Int)+1)=_ from aL (by omega)]
    simp[bB,kQ]
   ·rw[if_neg (by rw[h3];decide)]at hs
    refine ih (m+1,acc) (m+1) _ ?_ ⟨rfl,by omega,by simp only;omega,hs⟩ (by omega)
    intro K
    conv=>lhs;whnf
    conv=>rhs;whnf
    try rfl
    rw[show IntKind.i64.wrap ((m:Int)+1)=_ from aL (by omega)]
    try rfl
  ·have:m=40:=by
    have:¬ (m:Int)<40:=by simpa using h1
    omega
   subst this
   simp only[Nat.sub_self,lI,List.append_nil]at hs
   rw[← hs];rfl
 ·rfl
def eF (m:Man) (x:Bld) (i:Int):Bool:=dU m x&&dI x.hav i
def gG (m:Man) (x:Bld) (i:Int):aD:=if eF m x i=true then eQ x.buf m.size i else[]
theorem aPt {a b:Nat} (ha:a<1099511627776) (hb:b<1099511627776) (h:aBz a b=0) {i:Nat} (hi:a.testBit i=true):b.testBit i=true:=by
 unfold aBz at h
 have e:(BitVec.ofInt IntKind.i64.bits (a:Int) &&& ~~~BitVec.ofInt IntKind.i64.bits (b:Int)).toNat≤a:=by
  rw[BitVec.toNat_and,BitVec.ofInt_natCast,BitVec.toNat_ofNat]
  refine Nat.le_trans Nat.and_le_left (Nat.mod_le _ _)
 rw[show IntKind.i64.wrap (((BitVec.ofInt IntKind.i64.bits (a:Int) &&& ~~~BitVec.ofInt IntKind.i64.bits (b:Int)).toNat:Nat):Int)=(((BitVec.ofInt IntKind.i64.bits (a:Int) &&& ~~~BitVec.ofInt IntKind.i64.bits (b:Int)).toNat:Nat):Int) from aK (by omega)]at h
 have h:(BitVec.ofInt IntKind.i64.bits (a:Int) &&& ~~~BitVec.ofInt IntKind.i64.bits (b:Int)).toNat=0:=by omega
 have hz:BitVec.ofInt IntKind.i64.bits (a:Int) &&& ~~~BitVec.ofInt IntKind.i64.bits (b:Int)=0#_:=by
  apply BitVec.eq_of_toNat_eq;rw[h];simp
 have hlt:i<40:=by
  by_cases h:i<40
  ·exact h
  ·exfalso
   have:a.testBit i=false:=Nat.testBit_lt_two_pow (Nat.lt_of_lt_of_le ha (show 2 ^ 40≤2 ^ i from Nat.pow_le_pow_right (by decide) (by omega)))
   rw[this]at hi;cases hi
 have hg:=congrArg (fun v=>v.getLsbD i) hz
 simp only[BitVec.getLsbD_and,BitVec.getLsbD_not,BitVec.getLsbD_zero,BitVec.ofInt_natCast,BitVec.getLsbD_ofNat]at hg
 have hb64:i<IntKind.i64.bits:=by simp only[IntKind.bits];omega
 simp[hb64,hi]at hg
 exact hg
theorem aN8 {m:Man} {x:Bld} {i:Int} (h:eF m x i=true):∃ n:Nat,i=n∧n<m.sums.length∧n<40∧(x.buf.length:Int)=m.len∧aX m=true∧bZ x.hav=true:=by
 unfold eF at h
 simp only[Bool.and_eq_true]at h
 obtain⟨h1,h2⟩:=h
 unfold dU at h1
 simp only[Bool.and_eq_true,decide_eq_true_eq]at h1
 obtain⟨h3,h4,h5,h6,h7⟩:=h1
 have h2':=h2
 unfold dI at h2'
 simp only[Bool.and_eq_true]at h2'
 have hi:=bP h2'.2.1
 have hc:=(eI h3).1
 obtain⟨n,rfl⟩:∃ n:Nat,i=n:=⟨i.toNat,by omega⟩
 have h4':=h4
 unfold bZ at h4'
 have hv:=bP h4'
 obtain⟨v,hv'⟩:∃ v:Nat,x.hav=v:=⟨x.hav.toNat,by omega⟩
 have hap:cQ m=((2 ^ m.sums.length-1:Nat):Int)∧(2 ^ m.sums.length-1:Nat)<1099511627776:=by
  unfold cQ nT
  rw[if_pos (by simp only[aS,Bool.and_eq_true,decide_eq_true_eq];omega)]
  generalize hn:m.sums.length=k at hc
  have hp:2 ^ k≤2 ^ 40:=Nat.pow_le_pow_right (by decide) (by omega)
  have h40:(2:Nat) ^ 40=1099511627776:=by decide
  have h1:1≤2 ^ k:=Nat.one_le_two_pow
  rw[show min ((k:Int).toNat) IntKind.i64.bits=k from by simp only[IntKind.bits];omega,show(1:Int)*2 ^ k=((2 ^ k:Nat):Int) from by push_cast;omega]
  generalize 2 ^ k=p at hp h1 ⊢
  rw[show IntKind.i64.wrap (p:Int)=p from aK (by omega),show IntKind.i64.wrap ((p:Int)-1)=(p:Int)-1 from aK (by omega)]
  omega
 rw[hap.1,hv']at h5
 rw[hv',aLb (by omega) (by omega)]at h2
 have:=aPt (by omega) hap.2 h5 h2
 rw[Nat.testBit_two_pow_sub_one]at this
 exact⟨n,rfl,by simpa using this,by omega,h6,h3,h4⟩
theorem aQp {m:Man} {x:Bld} {n:Nat} (h:(x.buf.length:Int)=m.len):eQ x.buf m.size n=(x.buf.drop (bH m.size m.len n).toNat).take (aZ m.size m.len n).toNat:=by unfold eQ;rw[h]
theorem zB {E:aP} (J:Sys E) (m:Man) (x:Bld) (i:Int) (hm:m.sums.length≤1048576) (hx:x.buf.length≤1048576):E 420 [gv (m.cs aG),gv (x.cs aG),iv i]=some ([ov 1 (aR (gG m x i)),bv (eF m x i)],[]):=by
 have a1:=yU J m x hm hx
 have a2:=dE J x.hav i
 unfold gG
 cases h:eF m x i
 ·have h':=h
  unfold eF at h'
  rw[Bool.and_eq_false_iff]at h'
  cases h1:dU m x
  ·rw[h1]at a1
   refine J.run rfl rfl fun W U=>?_
   conv=>lhs;whnf
   repeat'((first|apply U.t|apply U.f|(apply U.q;exact aC)|apply U.w (a1)|(apply U.b<;>intro h))<;>conv=>lhs;whnf)
   rfl
  ·have h2:dI x.hav i=false:=by rcases h' with h'|h';(rw[h1]at h';cases h');exact h'
   rw[h1]at a1
   rw[h2]at a2
   refine J.run rfl rfl fun W U=>?_
   conv=>lhs;whnf
   repeat'((first|apply U.t|apply U.f|(apply U.q;exact aC)|apply U.w (a1)|apply U.w (a2)|(apply U.b<;>intro h))<;>conv=>lhs;whnf)
   rfl
 ·obtain⟨n,rfl,h1,h2,h3,h4,h5⟩:=aN8 h
  have h':=h
  unfold eF at h'
  simp only[Bool.and_eq_true]at h'
  rw[h'.1]at a1
  rw[h'.2]at a2
  have hs:=jL (size:=m.size) (n:=m.len) (i:=n)
  obtain⟨a,ha⟩:∃ a:Nat,bH m.size m.len n=a:=⟨(bH m.size m.len n).toNat,by omega⟩
  obtain⟨w,hw⟩:∃ w:Nat,aZ m.size m.len n=w:=⟨(aZ m.size m.len n).toNat,by omega⟩
  have a3:=eW J m.size m.len n
  rw[ha,hw]at a3
  have hk:=aQp (m:=m) (x:=x) (n:=n) h3
  rw[ha,hw,Int.toNat_natCast,Int.toNat_natCast]at hk
  refine J.run rfl rfl fun W U=>?_
  conv=>lhs;whnf
  apply U.w (a1)
  conv=>lhs;whnf
  repeat((first|apply U.t|apply U.f|(apply U.q;exact aC));conv=>lhs;whnf)
  apply U.w (a2)
  conv=>lhs;whnf
  repeat((first|apply U.t|apply U.f|(apply U.q;exact aC));conv=>lhs;whnf)
  apply U.w (a3)
  conv=>lhs;whnf
  repeat((first|apply U.t|apply U.f|(apply U.q;exact aC));conv=>lhs;whnf)
  rw[show IntKind.i64.wrap ((a:Int)+(w:Int))=((a+w:Nat):Int) from(aK (by omega)).trans (by omega)]
  repeat((first|apply U.t|apply U.f|(apply U.q;exact aC));conv=>lhs;whnf)
  refine U.q (by exact⟨by omega,by rw[aI];omega,aY _⟩) ?_
  conv=>lhs;whnf
  rw[show((a:Int).toNat)=a from by omega,show(((a+w:Nat):Int)).toNat-a=w from by omega,gJ]
  refine U.q (by exact⟨by decide,aY _,by simp[aR];omega,by simp[aR];omega⟩) ?_
  conv=>lhs;whnf
  apply U.bt (cF _)
  conv=>lhs;whnf
  rw[hk]
  rfl
theorem zC {E:aP} (J:Sys E) (m:Man) (x:Bld) (i:Int) (hm:m.sums.length≤1048576) (hx:x.buf.length≤1048576):E 425 [gv (m.cs aG),gv (x.cs aG),iv i]=some ([ov 1 (aR (gG m x i)),bv (eF m x i)],[]):=by
 have a1:=yX J m x hm hx
 have a2:=eO J x.hav i
 unfold gG
 cases h:eF m x i
 ·have h':=h
  unfold eF at h'
  rw[Bool.and_eq_false_iff]at h'
  cases h1:dU m x
  ·rw[h1]at a1
   refine J.run rfl rfl fun W U=>?_
   conv=>lhs;whnf
   repeat'((first|apply U.t|apply U.f|(apply U.q;exact aC)|apply U.w (a1)|(apply U.b<;>intro h))<;>conv=>lhs;whnf)
   rfl
  ·have h2:dI x.hav i=false:=by rcases h' with h'|h';(rw[h1]at h';cases h');exact h'
   rw[h1]at a1
   rw[h2]at a2
   refine J.run rfl rfl fun W U=>?_
   conv=>lhs;whnf
   repeat'((first|apply U.t|apply U.f|(apply U.q;exact aC)|apply U.w (a1)|apply U.w (a2)|(apply U.b<;>intro h))<;>conv=>lhs;whnf)
   rfl
 ·obtain⟨n,rfl,h1,h2,h3,h4,h5⟩:=aN8 h
  have h':=h
  unfold eF at h'
  simp only[Bool.and_eq_true]at h'
  rw[h'.1]at a1
  rw[h'.2]at a2
  have hs:=jL (size:=m.size) (n:=m.len) (i:=n)
  obtain⟨a,ha⟩:∃ a:Nat,bH m.size m.len n=a:=⟨(bH m.size m.len n).toNat,by omega⟩
  obtain⟨w,hw⟩:∃ w:Nat,aZ m.size m.len n=w:=⟨(aZ m.size m.len n).toNat,by omega⟩
  have hk:=aQp (m:=m) (x:=x) (n:=n) h3
  rw[ha,hw,Int.toNat_natCast,Int.toNat_natCast]at hk
  refine J.run rfl rfl fun W U=>?_
  conv=>lhs;whnf
  apply U.w (a1)
  conv=>lhs;whnf
  repeat((first|apply U.t|apply U.f|(apply U.q;exact aC));conv=>lhs;whnf)
  apply U.w (a2)
  conv=>lhs;whnf
  repeat((first|apply U.t|apply U.f|(apply U.q;exact aC));conv=>lhs;whnf)
  apply U.w (sF J m x n a w ha hw (by omega) hx)
  conv=>lhs;whnf
  repeat((first|apply U.t|apply U.f|(apply U.q;exact aC));conv=>lhs;whnf)
  rw[gJ,← hk]
  apply U.w (dF J (eQ x.buf m.size n) (by have:=nU x.buf m.size n;omega))
  conv=>lhs;whnf
  repeat((first|apply U.t|apply U.f|(apply U.q;exact aC));conv=>lhs;whnf)
  rfl
def dK (gen i:Int) (b:aD):Msg:=⟨3,gen,⟨0,0,0,[]⟩,0,0,i,b⟩
theorem cW {E:aP} (J:Sys E) (gen i:Int) (b:aD) (hb:b.length≤1073741824):E 421 [iv gen,iv i,sv (aR b)]=some ([gv ((dK gen i b).cs bS)],[]):=by
 refine J.run rfl rfl fun W U=>?_
 conv=>lhs;whnf
 refine U.q (by exact⟨by decide,aY _,by simp[aR];omega,by simp[aR];omega⟩) ?_
 conv=>lhs;whnf
 apply U.bt (cF _)
 conv=>lhs;whnf
 rfl
theorem zD {E:aP} (J:Sys E) (gen i:Int) (b:aD) (hb:b.length≤1073741824):E 426 [iv gen,iv i,sv (aR b)]=some ([gv ((dK gen i b).cs bS)],[]):=by
 refine J.run rfl rfl fun W U=>?_
 conv=>lhs;whnf
 apply U.w (dF J b (by omega))
 conv=>lhs;whnf
 repeat((first|apply U.t|apply U.f|(apply U.q;exact aC));conv=>lhs;whnf)
 rfl
def aCq (n:Node) (k id i:Int):List Pkt:=if eF n.man n.bld i=true then[fE k id (dK n.man.gen i (gG n.man n.bld i))] else[]
def oB (n:Node) (k id:Int) (l:List Int):List Pkt:=l.flatMap (aCq n k id)
def gK (n:Node) (id:Int):Int:=lQ n.kids id n.bld.hav
def dB (n:Node) (k id:Int):Actn:=⟨{ n with kids:=bV n.kids id (gK n id) },oB n k id (dS (gK n id))⟩
theorem zE {E:aP} (J:Sys E) (n:Node):E 71 [gv (n.cs aG)]=some ([iv (aQj n)],[]):=by
 refine J.run rfl rfl fun W U=>?_
 conv=>lhs;whnf
 rfl
theorem zG {E:aP} (J:Sys E) (n:Node):E 72 [gv (n.cs aG)]=some ([iv (aQj n)],[]):=by
 refine J.run rfl rfl fun W U=>?_
 conv=>lhs;whnf
 rfl
theorem hZ (m:Man) (x:Bld) (i:Int):(gG m x i).length≤x.buf.length:=by
 unfold gG
 split
 ·exact nU x.buf m.size i
 ·exact Nat.zero_le _
theorem aPu (n:Node) (k id i:Int):(aCq n k id i).length≤1:=by
 unfold aCq;split<;>simp
theorem aLh (n:Node) (k id:Int) (l:List Int):(oB n k id l).length≤l.length:=by
 unfold oB
 induction l with
 |nil=>simp
 |cons a r ih =>
  have:=aPu n k id a
  simp only[List.flatMap_cons,List.length_append,List.length_cons];omega
theorem aRK (n:Node) (k id:Int) (l:List Int):∀ x∈oB n k id l,x.lim 4194304:=by
 intro x hx
 obtain⟨i,_,hx⟩:=List.mem_flatMap.mp hx
 unfold aCq at hx
 split at hx
 ·rw[List.mem_singleton.mp hx]
  exact Nat.le_trans (eR _) (by decide)
 ·cases hx
theorem aJw (n:Node) (k id:Int) (hn:n.limk):(dB n k id).lim 4194304:=by
 have hn':=hn.l4
 refine⟨⟨hn'.1,hn'.2.1,by show(bV _ _ _).length≤_;rw[eA];exact hn.2.2⟩,?_,aRK _ _ _ _⟩
 exact Nat.le_trans (aLh _ _ _ _) (Nat.le_trans kH (by decide))
theorem aLi {o:Bool} (l:List Pkt):∀ e∈l.map (Pkt.row o),e.length=3:=aB0 fun _=>rfl
theorem aGl {E:aP} (J:Sys E) (n:Node) (k id:Int) (hn:n.limk):E 430 [gv (n.cs aG),iv k,iv id]=some ([gv ((dB n k id).cs bS true)],[]):=by
 have hp:=kH (s:=gK n id)
 have hrl:(bB (dS (gK n id))).length=(dS (gK n id)).length:=List.length_map _
 have hrk:(n.kids.map Kid.row).length=n.kids.length:=List.length_map _
 refine J.run rfl rfl fun W U=>?_
 conv=>lhs;whnf
 apply U.w (dJ J n hn.l8)
 conv=>lhs;whnf
 repeat((first|apply U.t|apply U.f|(apply U.q;exact aC));conv=>lhs;whnf)
 apply U.w (zE J n)
 conv=>lhs;whnf
 repeat((first|apply U.t|apply U.f|(apply U.q;exact aC));conv=>lhs;whnf)
 apply U.w (aBH J n.kids id n.bld.hav (Nat.le_trans hn.2.2 (by decide)))
 conv=>lhs;whnf
 repeat((first|apply U.t|apply U.f|(apply U.q;exact aC));conv=>lhs;whnf)
 apply U.w (zA J (gK n id))
 conv=>lhs;whnf
 repeat((first|apply U.t|apply U.f|(apply U.q;exact aC));conv=>lhs;whnf)
 generalize hP:dS (gK n id)=l at hp hrl
 refine U.loop (σ:=Nat × List Pkt) (γ:=Nat) (fun i s=>(s.sl 10 (v1 (.t (.int .i64 i.1)))).bl ⟨50712,3, .own,i.2.map (Pkt.row true)⟩) (fun i m=>i.1=m∧m≤l.length∧i.2.length≤m∧i.2++oB n k id (l.drop m)=oB n k id l) (fun m=>l.length-m) (fun _=>([gv ((dB n k id).cs bS true)],[])) (0,[]) 0 ?_ ?_ ?_ ?_
 ·intro K
  conv=>lhs;whnf
  conv=>rhs;whnf
  try rfl
 ·exact⟨rfl,by omega,by simp,rfl⟩
 ·rintro kl ⟨m,acc⟩ _ ⟨rfl,hm,hl,hs⟩ ih
  simp only at hs hm hl
  conv=>lhs;whnf
  apply U.b<;>intro h1<;>conv=>lhs;whnf
  ·have h1:m<l.length:=by simpa[hrl] using h1
   rw[List.drop_eq_getElem_cons h1,oB,List.flatMap_cons,aCq]at hs
   repeat((first|apply U.t|apply U.f|(apply U.q;exact aC)|(refine U.w (cC ?_) ?_;omega));conv=>lhs;whnf)
   apply U.w (zB J n.man n.bld l[m] hn.1 hn.2.1)
   conv=>lhs;whnf
   repeat((first|apply U.t|apply U.f|(apply U.q;exact aC));conv=>lhs;whnf)
   apply U.b<;>intro h3<;>conv=>lhs;whnf
   ·rw[if_pos h3]at hs
    repeat((first|apply U.t|apply U.f|(apply U.q;exact aC)|(refine U.w (cC ?_) ?_;omega));conv=>lhs;whnf)
    apply U.w (cW J n.man.gen l[m] (gG n.man n.bld l[m]) (Nat.le_trans (hZ _ _ _) (Nat.le_trans hn.2.1 (by decide))))
    conv=>lhs;whnf
    repeat((first|apply U.t|apply U.f|(apply U.q;exact aC));conv=>lhs;whnf)
    apply U.w (cY J k id (dK n.man.gen l[m] (gG n.man n.bld l[m])) ⟨Nat.zero_le _,Nat.le_trans (hZ _ _ _) hn.2.1⟩)
    conv=>lhs;whnf
    repeat((first|apply U.t|apply U.f|(apply U.q;exact aC));conv=>lhs;whnf)
    refine U.q (by exact⟨by decide,by intro e he;simp at he;subst he;rfl,by simp;omega,by simp;omega⟩) ?_
    conv=>lhs;whnf
    repeat((first|apply U.t|apply U.f|(apply U.q;exact aC));conv=>lhs;whnf)
    refine ih (m+1,acc++[fE k id (dK n.man.gen l[m] (gG n.man n.bld l[m]))]) (m+1) _ ?_ ⟨rfl,by omega,by simp;omega,by rw[List.append_assoc];exact hs⟩ (by omega)
    intro K
    conv=>lhs;whnf
    conv=>rhs;whnf
    try rfl
    rw[show IntKind.i64.wrap ((m:Int)+1)=_ from aL (by omega)]
    rw[List.map_append]
    rfl
   ·rw[if_neg (by rw[h3];decide)]at hs
    refine ih (m+1,acc) (m+1) _ ?_ ⟨rfl,by omega,by simp only;omega,hs⟩ (by omega)
    intro K
    conv=>lhs;whnf
    conv=>rhs;whnf
    try rfl
    rw[show IntKind.i64.wrap ((m:Int)+1)=_ from aL (by omega)]
    try rfl
  ·have:m=l.length:=by simp[hrl]at h1;omega
   subst this
   simp only[List.drop_length,oB,List.flatMap_nil,List.append_nil]at hs
   apply U.w (jJ J n.kids id (gK n id) hn.2.2)
   conv=>lhs;whnf
   repeat((first|apply U.t|apply U.f|(apply U.q;exact aC));conv=>lhs;whnf)
   unfold dB
   rw[hP,oB,← hs]
   rfl
 ·rfl
theorem aGm {E:aP} (J:Sys E) (n:Node) (k id:Int) (hn:n.limk):E 431 [gv (n.cs aG),iv k,iv id]=some ([gv ((dB n k id).cs bS true)],[]):=by
 have hp:=kH (s:=gK n id)
 have hrl:(bB (dS (gK n id))).length=(dS (gK n id)).length:=List.length_map _
 have hrk:(n.kids.map Kid.row).length=n.kids.length:=List.length_map _
 refine J.run rfl rfl fun W U=>?_
 conv=>lhs;whnf
 apply U.w (cX J n hn.l8)
 conv=>lhs;whnf
 repeat((first|apply U.t|apply U.f|(apply U.q;exact aC));conv=>lhs;whnf)
 apply U.w (zG J n)
 conv=>lhs;whnf
 repeat((first|apply U.t|apply U.f|(apply U.q;exact aC));conv=>lhs;whnf)
 apply U.w (aBI J n.kids id n.bld.hav (Nat.le_trans hn.2.2 (by decide)))
 conv=>lhs;whnf
 repeat((first|apply U.t|apply U.f|(apply U.q;exact aC));conv=>lhs;whnf)
 apply U.w (aI3 J (gK n id))
 conv=>lhs;whnf
 repeat((first|apply U.t|apply U.f|(apply U.q;exact aC));conv=>lhs;whnf)
 rw[hrl]
 generalize hP:dS (gK n id)=l at hp hrl
 refine U.loop (σ:=Nat × List Pkt) (γ:=Nat) (fun i s=>(s.sl 25 (v1 (.t (.int .i64 i.1)))).bl ⟨50712,3, .own,i.2.map (Pkt.row true)⟩) (fun i m=>i.1=m∧m≤l.length∧i.2.length≤m∧i.2++oB n k id (l.drop m)=oB n k id l) (fun m=>l.length-m) (fun _=>([gv ((dB n k id).cs bS true)],[])) (0,[]) 0 ?_ ?_ ?_ ?_
 ·intro K
  conv=>lhs;whnf
  conv=>rhs;whnf
  try rfl
 ·exact⟨rfl,by omega,by simp,rfl⟩
 ·rintro kl ⟨m,acc⟩ _ ⟨rfl,hm,hl,hs⟩ ih
  simp only at hs hm hl
  conv=>lhs;whnf
  apply U.b<;>intro h1<;>conv=>lhs;whnf
  ·have h1:m<l.length:=by simpa using h1
   rw[List.drop_eq_getElem_cons h1,oB,List.flatMap_cons,aCq]at hs
   repeat((first|apply U.t|apply U.f|(apply U.q;exact aC)|(refine U.w (cC ?_) ?_;omega));conv=>lhs;whnf)
   apply U.w (zC J n.man n.bld l[m] hn.1 hn.2.1)
   conv=>lhs;whnf
   repeat((first|apply U.t|apply U.f|(apply U.q;exact aC));conv=>lhs;whnf)
   apply U.b<;>intro h3<;>conv=>lhs;whnf
   ·rw[if_pos h3]at hs
    apply U.w (zD J n.man.gen l[m] (gG n.man n.bld l[m]) (Nat.le_trans (hZ _ _ _) (Nat.le_trans hn.2.1 (by decide))))
    conv=>lhs;whnf
    repeat((first|apply U.t|apply U.f|(apply U.q;exact aC));conv=>lhs;whnf)
    apply U.w (gB J k id (dK n.man.gen l[m] (gG n.man n.bld l[m])) ⟨Nat.zero_le _,Nat.le_trans (hZ _ _ _) hn.2.1⟩)
    conv=>lhs;whnf
    repeat((first|apply U.t|apply U.f|(apply U.q;exact aC));conv=>lhs;whnf)
    refine U.q (by exact⟨by decide,by intro e he;simp at he;subst he;rfl,by simp;omega,by simp;omega⟩) ?_
    conv=>lhs;whnf
    repeat((first|apply U.t|apply U.f|(apply U.q;exact aC));conv=>lhs;whnf)
    refine ih (m+1,acc++[fE k id (dK n.man.gen l[m] (gG n.man n.bld l[m]))]) (m+1) _ ?_ ⟨rfl,by omega,by simp;omega,by rw[List.append_assoc];exact hs⟩ (by omega)
    intro K
    conv=>lhs;whnf
    conv=>rhs;whnf
    try rfl
    rw[show IntKind.i64.wrap ((m:Int)+1)=_ from aL (by omega)]
    rw[List.map_append]
    rfl
   ·rw[if_neg (by rw[h3];decide)]at hs
    refine ih (m+1,acc) (m+1) _ ?_ ⟨rfl,by omega,by simp only;omega,hs⟩ (by omega)
    intro K
    conv=>lhs;whnf
    conv=>rhs;whnf
    try rfl
    rw[show IntKind.i64.wrap ((m:Int)+1)=_ from aL (by omega)]
    try rfl
  ·have:m=l.length:=by simp at h1;omega
   subst this
   simp only[List.drop_length,oB,List.flatMap_nil,List.append_nil]at hs
   apply U.w (tW J n.kids id (gK n id) hn.2.2)
   conv=>lhs;whnf
   repeat((first|apply U.t|apply U.f|(apply U.q;exact aC));conv=>lhs;whnf)
   unfold dB
   rw[hP,oB,← hs]
   rfl
 ·rfl
theorem aE1 {b:aD}:∀ {s:Nat},s*256 ^ b.length≤fD b s:=by
 induction b with
 |nil=>intro s;simp[fD]
 |cons c r ih =>
  intro s
  simp only[fD,List.length_cons]
  refine Nat.le_trans ?_ ih
  rw[Nat.pow_succ,Nat.mul_comm (256 ^ r.length) 256,← Nat.mul_assoc]
  exact Nat.mul_le_mul_right _ (by omega)
theorem aMm {a b:aD} (h:fD a 1=fD b 1):a.length=b.length:=by
 have h1:=aE1 (b:=a) (s:=1)
 have h2:=aE1 (b:=b) (s:=1)
 have h3:=aH0 (b:=a) (s:=1)
 have h4:=aH0 (b:=b) (s:=1)
 rcases Nat.lt_trichotomy a.length b.length with hl|hl|hl
 ·exfalso
  have:256 ^ (a.length+1)≤256 ^ b.length:=Nat.pow_le_pow_right (by decide) hl
  rw[Nat.pow_succ]at this;omega
 ·exact hl
 ·exfalso
  have:256 ^ (b.length+1)≤256 ^ a.length:=Nat.pow_le_pow_right (by decide) hl
  rw[Nat.pow_succ]at this;omega
theorem aVV {m:Man} {l:List Sum}:∀ {i n:Nat} (h:aAA m i l=true) (hn:n<l.length),aBE m (i+n) l[n]=true:=by
 induction l with
 |nil=>intro i n _ hn;cases hn
 |cons x r ih =>
  intro i n h hn
  simp only[aAA,Bool.and_eq_true]at h
  cases n with
  |zero=>exact h.1
  |succ n =>
   rw[show i+(n+1)=(i+1)+n from by omega]
   exact ih h.2 (by simpa using hn)
theorem aUr {m:Man} (h:aX m=true) {n:Nat} (hn:n<m.sums.length):aBE m n m.sums[n]=true:=by
 unfold aX at h
 split at h
 ·have h3:m.sums=[]:=by simp[cG]at h;exact h.2.2.2
  rw[h3]at hn;cases hn
 ·simp only[Bool.and_eq_true]at h
  have:=aVV h.2.2.2 hn
  rwa [Nat.zero_add]at this
theorem aLj {m:Man} (h:aX m=true) {n:Nat} (hn:n<m.sums.length) {b:aD} (hb:bC b=m.sums[n]):(b.length:Int)=aZ m.size m.len n∧b.length≤6:=by
 have ha:=aUr h hn
 simp only[aBE,Bool.and_eq_true,decide_eq_true_eq]at ha
 obtain⟨h1,h2,h3⟩:=ha
 have hl:=jR m.sums[n].s
 have hb6:b.length≤6:=by
  rcases Nat.lt_or_ge 6 b.length with h6|h6
  ·exfalso
   unfold bC at hb
   rw[if_pos (by omega)]at hb
   rw[← hb]at h1
   exact absurd h1 (by decide)
  ·exact h6
 have e:=h3.trans hb.symm
 unfold bC at e
 rw[if_neg (by omega),if_neg (by omega)]at e
 have e:=congrArg Sum.s e
 simp only at e
 have e:fD (bO m.sums[n].s) 1=fD b 1:=by omega
 have:=aMm e
 omega
theorem aRL {m:Man} {x:Bld} (h:dU m x=true):aX m=true∧bZ x.hav=true∧(x.buf.length:Int)=m.len:=by
 unfold dU at h
 simp only[Bool.and_eq_true,decide_eq_true_eq]at h
 exact⟨h.1,h.2.1,h.2.2.2.1⟩
def lU (m:Man) (x:Bld) (i:Int) (b:aD):Bool:=dU m x&&(aS i 0 ((m.sums.length:Int)-1)&&(!dI x.hav i&&decide (bC b=m.sums.getD i.toNat ⟨0,0⟩)))
def fF (m:Man) (x:Bld) (i:Int) (b:aD):Bld:=if lU m x i b=true then aAD m x i.toNat b else x
theorem aPv {m:Man} {x:Bld} {i:Int} {b:aD} (h:lU m x i b=true):∃ n:Nat,∃ hn:n<m.sums.length,i=n∧n<40∧dU m x=true∧aX m=true∧bZ x.hav=true∧dI x.hav n=false∧bC b=m.sums[n]∧b.length≤6∧aZ m.size m.len n=b.length∧0≤bH m.size m.len n∧bH m.size m.len n+b.length≤x.buf.length:=by
 unfold lU at h
 simp only[Bool.and_eq_true,decide_eq_true_eq,Bool.not_eq_true']at h
 obtain⟨h1,h2,h3,h4⟩:=h
 have h2:=bP h2
 obtain⟨n,rfl⟩:∃ n:Nat,i=n:=⟨i.toNat,by omega⟩
 have hn:n<m.sums.length:=by omega
 obtain⟨hm,hs,hl⟩:=aRL h1
 have hc:=eI hm
 rw[Int.toNat_natCast,List.getD_eq_getElem?_getD,List.getElem?_eq_getElem hn,Option.getD_some]at h4
 have hp:=aLj hm hn h4
 have hsp:=jL (size:=m.size) (n:=m.len) (i:=n)
 refine⟨n,hn,rfl,by omega,h1,hm,hs,h3,h4,hp.2,hp.1.symm,by omega,by omega⟩
theorem aUs {m:Man} {x:Bld} {i:Int} {b:aD} (hb:dU m x=true) (h:lU m x i b=false):aS i 0 ((m.sums.length:Int)-1)=false∨∃ n:Nat,∃ hn:n<m.sums.length,i=n∧(dI x.hav n=true∨dI x.hav n=false∧¬ bC b=m.sums[n]):=by
 unfold lU at h
 rw[hb,Bool.true_and]at h
 cases h2:aS i 0 ((m.sums.length:Int)-1)
 ·exact .inl rfl
 ·right
  rw[h2,Bool.true_and]at h
  have h2:=bP h2
  obtain⟨n,rfl⟩:∃ n:Nat,i=n:=⟨i.toNat,by omega⟩
  have hn:n<m.sums.length:=by omega
  refine⟨n,hn,rfl,?_⟩
  rw[Int.toNat_natCast,List.getD_eq_getElem?_getD,List.getElem?_eq_getElem hn,Option.getD_some]at h
  cases h3:dI x.hav n
  ·rw[h3]at h
   right
   exact⟨rfl,by simpa using h⟩
  ·exact .inl rfl
theorem aKi {E:aP} (J:Sys E) (m:Man) (x:Bld) (i:Int) (b:aD) (hm:m.sums.length≤1048576) (hb:b.length≤1048576) (h:dU m x=true) (hf:lU m x i b=false):E 369 [gv (m.cs aG), .pt true (x.cs bS),iv i,sv (aR b)]=some ([bv false],x.cs bS):=by
 have hrl:(m.sums.map Sum.row).length=m.sums.length:=List.length_map _
 have a1:=bG J i 0 ((m.sums.length:Int)-1)
 have a2:=dE J x.hav i
 have a3:=eP J b (by omega)
 rcases aUs h hf with h1|⟨n,hn,rfl,h2|⟨h2,h3⟩⟩
 ·rw[h1]at a1
  refine J.run rfl rfl fun W U=>?_
  conv=>lhs;whnf
  rw[hrl,show IntKind.i64.wrap ((m.sums.length:Int)-1)=(m.sums.length:Int)-1 from aK (by omega)]
  apply U.w (a1)
  conv=>lhs;whnf
  repeat((first|apply U.t|apply U.f|(apply U.q;exact aC));conv=>lhs;whnf)
  rfl
 ·rw[show aS n 0 ((m.sums.length:Int)-1)=true from by simp[aS];omega]at a1
  rw[h2]at a2
  refine J.run rfl rfl fun W U=>?_
  conv=>lhs;whnf
  rw[hrl,show IntKind.i64.wrap ((m.sums.length:Int)-1)=(m.sums.length:Int)-1 from aK (by omega)]
  apply U.w (a1)
  conv=>lhs;whnf
  repeat((first|apply U.t|apply U.f|(apply U.q;exact aC));conv=>lhs;whnf)
  apply U.w (a2)
  conv=>lhs;whnf
  repeat((first|apply U.t|apply U.f|(apply U.q;exact aC));conv=>lhs;whnf)
  rfl
 ·rw[show aS n 0 ((m.sums.length:Int)-1)=true from by simp[aS];omega]at a1
  rw[h2]at a2
  refine J.run rfl rfl fun W U=>?_
  conv=>lhs;whnf
  rw[hrl,show IntKind.i64.wrap ((m.sums.length:Int)-1)=(m.sums.length:Int)-1 from aK (by omega)]
  apply U.w (a1)
  conv=>lhs;whnf
  repeat((first|apply U.t|apply U.f|(apply U.q;exact aC));conv=>lhs;whnf)
  apply U.w (a2)
  conv=>lhs;whnf
  repeat((first|apply U.t|apply U.f|(apply U.q;exact aC));conv=>lhs;whnf)
  repeat((first|apply U.t|apply U.f|(apply U.q;exact aC)|(refine U.w (cC ?_) ?_;omega));conv=>lhs;whnf)
  apply U.w (a3)
  conv=>lhs;whnf
  repeat((first|apply U.t|apply U.f|(apply U.q;exact aC));conv=>lhs;whnf)
  apply U.bt (by(revert h3;generalize bC b=y;generalize m.sums[n]=z;cases y;cases z;simp;exact fun h=>Decidable.or_iff_not_imp_left.mpr fun h'=>h (Decidable.not_not.mp h')))
  conv=>lhs;whnf
  repeat((first|apply U.t|apply U.f|(apply U.q;exact aC));conv=>lhs;whnf)
  rfl
theorem aHw {E:aP} (J:Sys E) (m:Man) (x:Bld) (i:Int) (b:aD) (hm:m.sums.length≤1048576) (hx:x.buf.length≤1048576) (hb:b.length≤1048576):E 418 [gv (m.cs aG),gv (x.cs aG),iv i,sv (aR b)]=some ([gv ((fF m x i b).cs bS),bv (lU m x i b)],[]):=by
 have a0:=aBA J x (by omega)
 have a1:=yU J m x hm hx
 unfold fF
 cases h1:dU m x
 ·rw[show lU m x i b=false from by unfold lU;rw[h1];rfl]
  rw[h1]at a1
  refine J.run rfl rfl fun W U=>?_
  conv=>lhs;whnf
  repeat'((first|apply U.t|apply U.f|(apply U.q;exact aC)|apply U.w (a0)|apply U.w (a1)|(apply U.b<;>intro h))<;>conv=>lhs;whnf)
  rfl
 ·rw[h1]at a1
  cases h2:lU m x i b
  ·have a2:=aKi J m x i b hm hb h1 h2
   refine J.run rfl rfl fun W U=>?_
   conv=>lhs;whnf
   repeat'((first|apply U.t|apply U.f|(apply U.q;exact aC)|apply U.w (a0)|apply U.w (a1)|apply U.w (a2)|(apply U.b<;>intro h))<;>conv=>lhs;whnf)
   rfl
  ·obtain⟨n,hn,rfl,h40,_,_,hs,hin,hsum,h6,hsp,hat,hfit⟩:=aPv h2
   have a2:=sG J m x n b hm hn h40 hs hin hsum h6 hat hfit hx
   refine J.run rfl rfl fun W U=>?_
   conv=>lhs;whnf
   repeat'((first|apply U.t|apply U.f|(apply U.q;exact aC)|apply U.w (a0)|apply U.w (a1)|apply U.w (a2)|(apply U.b<;>intro h))<;>conv=>lhs;whnf)
   rfl
theorem aHx {E:aP} (J:Sys E) (m:Man) (x:Bld) (i:Int) (b:aD) (hm:m.sums.length≤1048576) (hx:x.buf.length≤1048576) (hb:b.length≤1048576):E 423 [gv (m.cs aG),gv (x.cs aG),iv i,sv (aR b)]=some ([gv ((fF m x i b).cs bS),bv (lU m x i b)],[]):=by
 have hrl:(m.sums.map Sum.row).length=m.sums.length:=List.length_map _
 have a0:=qO J x (by omega)
 have a1:=yX J m x hm hx
 have a2:=bR J i 0 ((m.sums.length:Int)-1)
 have a3:=eO J x.hav i
 have a4:=kJ J b (by omega)
 have hw:IntKind.i64.wrap ((m.sums.length:Int)-1)=(m.sums.length:Int)-1:=aK (by omega)
 unfold fF
 cases h1:dU m x
 ·rw[show lU m x i b=false from by unfold lU;rw[h1];rfl]
  rw[h1]at a1
  refine J.run rfl rfl fun W U=>?_
  conv=>lhs;whnf
  repeat'((first|apply U.t|apply U.f|(apply U.q;exact aC)|apply U.w (a0)|apply U.w (a1)|(apply U.b<;>intro h))<;>conv=>lhs;whnf)
  rfl
 ·rw[h1]at a1
  cases h2:lU m x i b
  ·rcases aUs h1 h2 with h3|⟨n,hn,rfl,h3|⟨h3,h4⟩⟩
   ·rw[h3]at a2
    refine J.run rfl rfl fun W U=>?_
    conv=>lhs;whnf
    repeat'((first|apply U.t|apply U.f|(apply U.q;exact aC)|apply U.w (a0)|apply U.w (a1)|(apply U.b<;>intro h))<;>conv=>lhs;whnf)
    rw[hrl,hw]
    repeat'((first|apply U.t|apply U.f|(apply U.q;exact aC)|apply U.w (a2)|(apply U.b<;>intro h))<;>conv=>lhs;whnf)
    rfl
   ·rw[show aS n 0 ((m.sums.length:Int)-1)=true from by simp[aS];omega]at a2
    rw[h3]at a3
    refine J.run rfl rfl fun W U=>?_
    conv=>lhs;whnf
    repeat'((first|apply U.t|apply U.f|(apply U.q;exact aC)|apply U.w (a0)|apply U.w (a1)|(apply U.b<;>intro h))<;>conv=>lhs;whnf)
    rw[hrl,hw]
    repeat'((first|apply U.t|apply U.f|(apply U.q;exact aC)|apply U.w (a2)|apply U.w (a3)|(apply U.b<;>intro h))<;>conv=>lhs;whnf)
    rfl
   ·rw[show aS n 0 ((m.sums.length:Int)-1)=true from by simp[aS];omega]at a2
    rw[h3]at a3
    refine J.run rfl rfl fun W U=>?_
    conv=>lhs;whnf
    repeat'((first|apply U.t|apply U.f|(apply U.q;exact aC)|apply U.w (a0)|apply U.w (a1)|(apply U.b<;>intro h))<;>conv=>lhs;whnf)
    rw[hrl,hw]
    apply U.w (a2)
    conv=>lhs;whnf
    repeat((first|apply U.t|apply U.f|(apply U.q;exact aC));conv=>lhs;whnf)
    apply U.w (a3)
    conv=>lhs;whnf
    repeat((first|apply U.t|apply U.f|(apply U.q;exact aC)|(refine U.w (cC ?_) ?_;omega));conv=>lhs;whnf)
    apply U.w (a4)
    conv=>lhs;whnf
    repeat((first|apply U.t|apply U.f|(apply U.q;exact aC));conv=>lhs;whnf)
    apply U.bt (by(revert h4;generalize bC b=y;generalize m.sums[n]=z;cases y;cases z;simp;exact fun h=>Decidable.or_iff_not_imp_left.mpr fun h'=>h (Decidable.not_not.mp h')))
    conv=>lhs;whnf
    rfl
  ·obtain⟨n,hn,rfl,h40,_,_,hs,hin,hsum,h6,hsp,hat,hfit⟩:=aPv h2
   have a5:=aJo J m x n b h40 hsp hat hfit hx
   rw[show aS n 0 ((m.sums.length:Int)-1)=true from by simp[aS];omega]at a2
   rw[hin]at a3
   refine J.run rfl rfl fun W U=>?_
   conv=>lhs;whnf
   repeat'((first|apply U.t|apply U.f|(apply U.q;exact aC)|apply U.w (a0)|apply U.w (a1)|(apply U.b<;>intro h))<;>conv=>lhs;whnf)
   rw[hrl,hw]
   apply U.w (a2)
   conv=>lhs;whnf
   repeat((first|apply U.t|apply U.f|(apply U.q;exact aC));conv=>lhs;whnf)
   apply U.w (a3)
   conv=>lhs;whnf
   repeat((first|apply U.t|apply U.f|(apply U.q;exact aC)|(refine U.w (cC ?_) ?_;omega));conv=>lhs;whnf)
   apply U.w (a4)
   conv=>lhs;whnf
   repeat((first|apply U.t|apply U.f|(apply U.q;exact aC));conv=>lhs;whnf)
   apply U.bf (by rw[hsum];simp)
   conv=>lhs;whnf
   repeat((first|apply U.t|apply U.f|(apply U.q;exact aC));conv=>lhs;whnf)
   apply U.w (a5)
   conv=>lhs;whnf
   repeat((first|apply U.t|apply U.f|(apply U.q;exact aC));conv=>lhs;whnf)
   rfl
theorem aRM {s:Int} (h:bZ s=true):∃ n:Nat,s=n∧n<1099511627776:=by
 unfold bZ aS at h
 simp only[Bool.and_eq_true,decide_eq_true_eq]at h
 exact⟨s.toNat,by omega,by omega⟩
theorem aRN {n:Nat} (h:n<1099511627776):bZ (n:Int)=true:=by
 unfold bZ aS
 simp only[Bool.and_eq_true,decide_eq_true_eq]
 omega
theorem aRO {p:aD} {c:UInt8}:∀ {s:Nat},fD (p++[c]) s=256*fD p s+c.toNat:=by
 induction p with
 |nil=>intro s;rfl
 |cons a r ih=>intro s;simp only[List.cons_append,fD];exact ih
theorem aUt:∀ {n k:Nat} {p acc:aD},p.length=n→n≤k→aJT k (fD p 1) acc=some (p++acc):=by
 intro n
 induction n with
 |zero =>
  intro k p acc hp _
  obtain rfl:=List.eq_nil_of_length_eq_zero hp
  cases k<;>rfl
 |succ n ih =>
  intro k p acc hp hk
  obtain⟨j,rfl⟩:∃ j,k=j+1:=⟨k-1,by omega⟩
  rcases List.eq_nil_or_concat p with rfl|⟨q,c,rfl⟩
  ·cases hp
  ·rw[List.concat_eq_append,List.length_append,List.length_singleton]at hp
   rw[List.concat_eq_append,aRO]
   have h1:=aE1 (b:=q) (s:=1)
   have h2:1≤256 ^ q.length:=Nat.one_le_pow _ _ (by decide)
   have hc:=UInt8.toNat_lt c
   rw[aJT,if_neg (by omega),if_neg (by omega),show(256*fD q 1+c.toNat)/256=fD q 1 by omega,ih (by omega) (by omega)]
   have hb:dN ((256*fD q 1+c.toNat:Nat):Int)=c:=by
    apply UInt8.toNat_inj.mp
    unfold dN
    rw[UInt8.toNat_ofNat']
    omega
   rw[hb,List.append_assoc]
   rfl
theorem aJx {p:aD} (h:p.length≤6):eE (fD p 1:Nat)=some p:=by
 unfold eE
 have h1:=aE1 (b:=p) (s:=1)
 have h2:1≤256 ^ p.length:=Nat.one_le_pow _ _ (by decide)
 have h3:=aH0 (b:=p) (s:=1)
 have h4:256 ^ p.length≤256 ^ 6:=Nat.pow_le_pow_right (by decide) h
 have h5:(256:Nat) ^ 6=281474976710656:=by decide
 rw[if_pos (by simp only[aS,Bool.and_eq_true,decide_eq_true_eq];omega),Int.toNat_natCast,aUt rfl h,List.append_nil]
theorem aN9 {b:aD} {size i:Int}:((eQ b size i).length:Int)=aZ size b.length i:=by
 have h:=jL (size:=size) (n:=(b.length:Int)) (i:=i)
 unfold eQ
 rw[List.length_take,List.length_drop]
 omega
theorem aRP {b:aD} {g size:Int} {s:List Sum} {n:Nat}:aBE ⟨g,size,b.length,s⟩ n (bC (eQ b size (n:Int)))=true:=by
 have h:=jL (size:=size) (n:=(b.length:Int)) (i:=(n:Int))
 have hl:=aN9 (b:=b) (size:=size) (i:=(n:Int))
 have h6:(eQ b size (n:Int)).length≤6:=by omega
 have e:bC (eQ b size (n:Int))=⟨bE (eQ b size (n:Int)),(fD (eQ b size (n:Int)) 1:Nat)⟩:=by
  unfold bC
  rw[if_neg (by omega)]
 have hb:bO (bC (eQ b size (n:Int))).s=eQ b size (n:Int):=by rw[e];unfold bO;rw[aJx h6];rfl
 have hk:bU (bC (eQ b size (n:Int))).s=true:=by rw[e];unfold bU;rw[aJx h6];rfl
 unfold aBE
 rw[hk,hb,hl]
 simp
theorem aRQ {b:aD} {g size:Int} {s:List Sum}:∀ (n i:Nat),aAA ⟨g,size,b.length,s⟩ i ((List.range' i n).map fun i:Nat=>bC (eQ b size (i:Int)))=true:=by
 intro n
 induction n with
 |zero=>intro i;rfl
 |succ n ih =>
  intro i
  rw[List.range'_succ,List.map_cons,aAA,aRP,ih (i+1)]
  rfl
theorem aUu {g size:Int} {b:aD} (hg:aS g 1 1000000=true) (hs:cR size b.length=true):mF g b size=⟨g,size,b.length,fU b size⟩∧aX (mF g b size)=true:=by
 have e:mF g b size=⟨g,size,b.length,fU b size⟩:=by unfold mF;rw[if_pos ⟨hg,hs⟩]
 refine⟨e,?_⟩
 rw[e]
 have hg':=bP hg
 have hb:=(sD hs).2
 unfold aX
 simp only
 rw[if_neg (by omega),hg,hs]
 have hn:(((fU b size).length:Nat):Int)=bK size b.length:=by
  unfold fU aCl
  rw[mY]
  omega
 rw[hn]
 simp only[decide_true,Bool.true_and]
 unfold fU aEQ
 rw[List.range_eq_range']
 exact aRQ _ _
theorem aPw {size:Int} {n:Nat} (h1:2≤size) (h2:size≤6) (hn:n≤80):cR size n=true:=by
 unfold cR
 rw[show IntKind.i64.wrap (size*40)=size*40 from aK (by omega)]
 simp only[aS,Bool.and_eq_true,decide_eq_true_eq]
 omega
def aRR (m:Man) (x:Bld):Prop:=bZ x.hav=true∧(x.buf.length:Int)=m.len
theorem zH {m:Man} {old:aD} (h:aX m=true):aRR m (cL m old):=by
 have hc:=eI h
 unfold cL
 rw[if_pos h]
 obtain⟨⟨n,hn,hlt⟩,hl⟩:=aEZ (old:=old) h (Nat.le_refl m.sums.length)
 have hp:2 ^ m.sums.length≤2 ^ 40:=Nat.pow_le_pow_right (by decide) hc.1
 have hp2:(2:Nat) ^ 40=1099511627776:=by decide
 refine⟨?_,hl⟩
 rw[hn]
 simp only[bZ,aS,Bool.and_eq_true,decide_eq_true_eq];omega
theorem aXd {m:Man} {x:Bld} {n:Nat} {b:aD} (h40:n<40) (h:aRR m x) (hb:bH m.size m.len n+b.length≤x.buf.length) (h0:0≤bH m.size m.len n):aRR m (aAD m x n b):=by
 obtain⟨hs,hl⟩:=h
 obtain⟨k,hk,hlt⟩:=aRM hs
 have hp:2 ^ n≤2 ^ 39:=Nat.pow_le_pow_right (by decide) (by omega)
 have hp2:(2:Nat) ^ 39=549755813888:=by decide
 refine⟨?_,?_⟩
 ·unfold aAD
  simp only
  rw[hk,(aMi (by omega)).1,(aEY (by omega) (by omega)).1]
  refine aRN ?_
  have h3:=Nat.or_lt_two_pow (n:=40) (x:=k) (y:=2 ^ n) (by omega) (by omega)
  omega
 ·unfold aAD
  simp only
  rw[aMj (by omega)]
  exact hl
theorem aKj {E:aP} (J:Sys E) (m:Man) (x:Bld) (n:Nat) (b:aD) (hn:n<m.sums.length) (hm:aX m=true) (hb:b.length≤1048576) (h:aRR m x):∃ (r:Bool) (y:Bld),aRR m y∧E 369 [gv (m.cs aG), .pt true (x.cs bS),iv n,sv (aR b)]=some ([bv r],y.cs bS):=by
 have hc:=eI hm
 have hrl:(m.sums.map Sum.row).length=m.sums.length:=List.length_map _
 have a1:=bG J n 0 ((m.sums.length:Int)-1)
 have a2:=dE J x.hav n
 have a3:=eP J b (by omega)
 rw[show aS n 0 ((m.sums.length:Int)-1)=true from by simp[aS];omega]at a1
 cases h2:dI x.hav n
 ·by_cases h3:bC b=m.sums[n]
  ·have hp:=aLj hm hn h3
   have hsp:=jL (size:=m.size) (n:=m.len) (i:=n)
   have hl:=h.2
   exact⟨true,aAD m x n b,aXd (by omega) h (by omega) (by omega),sG J m x n b (by omega) hn (by omega) h.1 h2 h3 hp.2 (by omega) (by omega) (by omega)⟩
  ·rw[h2]at a2
   refine⟨false,x,h,?_⟩
   refine J.run rfl rfl fun W U=>?_
   conv=>lhs;whnf
   rw[hrl,show IntKind.i64.wrap ((m.sums.length:Int)-1)=(m.sums.length:Int)-1 from aK (by omega)]
   apply U.w (a1)
   conv=>lhs;whnf
   repeat((first|apply U.t|apply U.f|(apply U.q;exact aC));conv=>lhs;whnf)
   apply U.w (a2)
   conv=>lhs;whnf
   repeat((first|apply U.t|apply U.f|(apply U.q;exact aC));conv=>lhs;whnf)
   repeat((first|apply U.t|apply U.f|(apply U.q;exact aC)|(refine U.w (cC ?_) ?_;omega));conv=>lhs;whnf)
   apply U.w (a3)
   conv=>lhs;whnf
   repeat((first|apply U.t|apply U.f|(apply U.q;exact aC));conv=>lhs;whnf)
   apply U.bt (by(revert h3;generalize bC b=y;generalize m.sums[n]=z;cases y;cases z;simp;exact fun h=>Decidable.or_iff_not_imp_left.mpr fun h'=>h (Decidable.not_not.mp h')))
   conv=>lhs;whnf
   repeat((first|apply U.t|apply U.f|(apply U.q;exact aC));conv=>lhs;whnf)
   rfl
 ·rw[h2]at a2
  refine⟨false,x,h,?_⟩
  refine J.run rfl rfl fun W U=>?_
  conv=>lhs;whnf
  rw[hrl,show IntKind.i64.wrap ((m.sums.length:Int)-1)=(m.sums.length:Int)-1 from aK (by omega)]
  apply U.w (a1)
  conv=>lhs;whnf
  repeat((first|apply U.t|apply U.f|(apply U.q;exact aC));conv=>lhs;whnf)
  apply U.w (a2)
  conv=>lhs;whnf
  repeat((first|apply U.t|apply U.f|(apply U.q;exact aC));conv=>lhs;whnf)
  rfl
theorem aLk {E:aP} (J:Sys E) {es:List (List T)} {b:aD} (he:es=aR b) (c:Cur) (hb:b.length≤1048576) (t:Tree) (k:Int) (ht:kO t.up):∃ (l:List Kid) (c':Cur),l.length≤3∧E 549 [iH es c,gv (t.cs aG),iv k]=some ([sv (l.map Kid.row)],dV c'):=by
 have hr:=cH b c (n:=4) (by decide)
 obtain⟨n,hn⟩:=Int.eq_ofNat_of_zero_le hr.1
 have a0:=aW J he c hb 4
 rw[hn]at a0 hr
 have hrl:(bB t.up).length=t.up.length:=List.length_map _
 have key:yE (E 549 [iH es c,gv (t.cs aG),iv k]) fun r=>∃ (l:List Kid) (c':Cur),l.length≤3∧r=([sv (l.map Kid.row)],dV c'):=by
  refine J.runS rfl rfl fun W U=>?_
  conv=>lhs;whnf
  repeat((first|apply U.t|apply U.f|(apply U.q;exact aC));conv=>lhs;whnf)
  apply U.w (a0)
  conv=>lhs;whnf
  repeat((first|apply U.t|apply U.f|(apply U.q;exact aC));conv=>lhs;whnf)
  refine U.loop (σ:=Nat × List Kid × Cur) (γ:=Nat) (fun i s=>((s.sl 8 (v1 (.t (.int .i64 i.1)))).sl 0 (.box true [.blk 0, .t (.int .i64 i.2.2.i), .t (.int .i64 i.2.2.h)])).bl ⟨50700,5, .own,i.2.1.map Kid.row⟩) (fun i m=>i.1=m∧i.1≤n∧i.2.1.length+m≤n) (fun m=>m) (n,[],(aF b c 4).2) n ?_ ?_ ?_
  ·intro K
   conv=>lhs;whnf
   conv=>rhs;whnf
   try rfl
  ·exact⟨rfl,Nat.le_refl _,by simp⟩
  ·rintro kl ⟨m,l,q⟩ _ ⟨rfl,hm,hl⟩ ih
   simp only at hm hl
   conv=>lhs;whnf
   apply U.b<;>intro g1<;>conv=>lhs;whnf
   ·have g1:0<m:=by have g1:=of_decide_eq_true g1;omega
    obtain⟨j,rfl⟩:∃ k,m=k+1:=⟨m-1,by omega⟩
    repeat((first|apply U.t|apply U.f|(apply U.q;exact aC));conv=>lhs;whnf)
    have a1:=aW J he q hb ((bB t.up).length:Int)
    generalize aF b q ((bB t.up).length:Int)=u at a1
    obtain⟨id,q1⟩:=u
    simp only at a1
    apply U.w (a1)
    conv=>lhs;whnf
    repeat((first|apply U.t|apply U.f|(apply U.q;exact aC));conv=>lhs;whnf)
    apply U.b<;>intro g2<;>conv=>lhs;whnf
    ·repeat((first|apply U.t|apply U.f|(apply U.q;exact aC));conv=>lhs;whnf)
     have a2:=aW J he q1 hb 64
     generalize aF b q1 64=u at a2
     obtain⟨w,q2⟩:=u
     simp only at a2
     apply U.w (a2)
     conv=>lhs;whnf
     repeat((first|apply U.t|apply U.f|(apply U.q;exact aC));conv=>lhs;whnf)
     have a3:=aW J he q2 hb (IntKind.i64.wrap (1*2 ^ min (((bB t.up).length:Nat):Int).toNat IntKind.i64.bits))
     generalize aF b q2 (IntKind.i64.wrap (1*2 ^ min (((bB t.up).length:Nat):Int).toNat IntKind.i64.bits))=u at a3
     obtain⟨v,q3⟩:=u
     simp only at a3
     apply U.w (a3)
     conv=>lhs;whnf
     repeat((first|apply U.t|apply U.f|(apply U.q;exact aC));conv=>lhs;whnf)
     apply U.w (yV J l id w v (by omega))
     conv=>lhs;whnf
     repeat((first|apply U.t|apply U.f|(apply U.q;exact aC));conv=>lhs;whnf)
     have hl1:=qU l id w v
     refine ih (j,lA l id w v,q3) j _ ?_ ⟨rfl,by omega,by simp only;omega⟩ (by omega)
     intro K
     conv=>lhs;whnf
     conv=>rhs;whnf
     try rfl
     rw[show IntKind.i64.wrap (((j+1:Nat):Int)-1)=(j:Int) from oV (by omega)]
    ·repeat((first|apply U.t|apply U.f|(apply U.q;exact aC));conv=>lhs;whnf)
     refine ih (j,l,q1) j _ ?_ ⟨rfl,by omega,by simp only;omega⟩ (by omega)
     intro K
     conv=>lhs;whnf
     conv=>rhs;whnf
     try rfl
     rw[show IntKind.i64.wrap (((j+1:Nat):Int)-1)=(j:Int) from oV (by omega)]
   ·repeat((first|apply U.t|apply U.f|(apply U.q;exact aC));conv=>lhs;whnf)
    exact⟨_,rfl,l,q,by omega,rfl⟩
 obtain⟨r,h1,l,c',h2,rfl⟩:=key
 exact⟨l,c',h2,h1⟩
theorem aUv {E:aP} (J:Sys E) {es:List (List T)} {b:aD} (he:es=aR b) (c:Cur) (hb:b.length≤1048576):∃ (m:Man) (x:Bld) (y:aD) (c':Cur),m.sums.length≤40∧x.buf.length≤240∧y.length≤16∧aX m=true∧E 548 [iH es c]=some ([gv (m.cs aG),gv (x.cs aG),sv (aR y)],dV c'):=by
 obtain⟨g,s,y,c1,hy,hg1,hg2,hs1,hs2,a0⟩:=aJt J he c hb
 obtain⟨hm0,hm1⟩:=aUu (g:=g) (size:=s) (b:=y) (by simp only[aS,Bool.and_eq_true,decide_eq_true_eq];omega) (aPw hs1 hs2 (by omega))
 have hml:=aCp g y s
 generalize mF g y s=m at a0 hm0 hm1 hml
 have hmc:=eI hm1
 have hrl:(m.sums.map Sum.row).length=m.sums.length:=List.length_map _
 obtain⟨z,c2,hz,a1⟩:=aVU J he c1 hb y (by omega)
 have a2:=iJ J m z (by omega) (by omega)
 have hx:=zH (old:=z) hm1
 generalize cL m z=x at a2 hx
 have key:yE (E 548 [iH es c]) fun r=>∃ (m:Man) (x:Bld) (y:aD) (c':Cur),m.sums.length≤40∧x.buf.length≤240∧y.length≤16∧aX m=true∧r=([gv (m.cs aG),gv (x.cs aG),sv (aR y)],dV c'):=by
  refine J.runS rfl rfl fun W U=>?_
  conv=>lhs;whnf
  repeat((first|apply U.t|apply U.f|(apply U.q;exact aC));conv=>lhs;whnf)
  apply U.w (a0)
  conv=>lhs;whnf
  try(apply U.q;exact aC;conv=>lhs;whnf)
  rw[show(Man.cs bS m).length=4 from rfl]
  repeat((first|apply U.t|apply U.f|(apply U.q;exact aC));conv=>lhs;whnf)
  apply U.w (a1)
  conv=>lhs;whnf
  repeat((first|apply U.t|apply U.f|(apply U.q;exact aC));conv=>lhs;whnf)
  apply U.w (a2)
  conv=>lhs;whnf
  repeat((first|apply U.t|apply U.f|(apply U.q;exact aC));conv=>lhs;whnf)
  refine U.loop (σ:=Nat × Bld × Cur) (γ:=Nat) (fun i s=>⟨aQ (aQ (aQ s.t 8 (v1 (.t (.int .i64 i.1)))) 0 (.box true [.blk 0, .t (.int .i64 i.2.2.i), .t (.int .i64 i.2.2.h)])) 7 (.box true [.t (.int .i64 i.2.1.hav), .blk 50701]),cZ s.h ⟨50701,1, .own,aR i.2.1.buf⟩⟩) (fun i k=>i.1=k∧k≤m.sums.length∧aRR m i.2.1) (fun k=>m.sums.length-k) (0,x,c2) 0 ?_ ?_ ?_
  ·intro K
   conv=>lhs;whnf
   conv=>rhs;whnf
   try rfl
  ·exact⟨rfl,Nat.zero_le _,hx⟩
  ·rintro kl ⟨k,x,q⟩ _ ⟨rfl,hk,hx⟩ ih
   simp only at hk hx
   conv=>lhs;whnf
   apply U.b<;>intro g1<;>conv=>lhs;whnf
   ·have g1:k<m.sums.length:=by
     have g1:(k:Int)<((m.sums.map Sum.row).length:Nat):=of_decide_eq_true g1
     omega
    repeat((first|apply U.t|apply U.f|(apply U.q;exact aC));conv=>lhs;whnf)
    have a3:=eV J he q hb 3
    generalize aF b q 3=u at a3
    obtain⟨w,q2⟩:=u
    simp only at a3
    apply U.w (a3)
    conv=>lhs;whnf
    repeat((first|apply U.t|apply U.f|(apply U.q;exact aC));conv=>lhs;whnf)
    apply U.b<;>intro g2<;>conv=>lhs;whnf
    ·repeat((first|apply U.t|apply U.f|(apply U.q;exact aC));conv=>lhs;whnf)
     apply U.w (yO J y m.size k (by omega))
     conv=>lhs;whnf
     repeat((first|apply U.t|apply U.f|(apply U.q;exact aC));conv=>lhs;whnf)
     have hbk:=nU y m.size k
     obtain⟨r,x2,hx2,a5⟩:=aKj J m x k (eQ y m.size k) g1 hm1 (by omega) hx
     apply U.w (a5)
     conv=>lhs;whnf
     repeat((first|apply U.t|apply U.f|(apply U.q;exact aC));conv=>lhs;whnf)
     refine ih (k+1,x2,q2) (k+1) _ ?_ ⟨rfl,by omega,hx2⟩ (by omega)
     intro K
     conv=>lhs;whnf
     conv=>rhs;whnf
     try rfl
     rw[show IntKind.i64.wrap ((k:Int)+1)=_ from aL (by omega)]
     try rfl
    ·repeat((first|apply U.t|apply U.f|(apply U.q;exact aC));conv=>lhs;whnf)
     refine ih (k+1,x,q2) (k+1) _ ?_ ⟨rfl,by omega,hx⟩ (by omega)
     intro K
     conv=>lhs;whnf
     conv=>rhs;whnf
     try rfl
     rw[show IntKind.i64.wrap ((k:Int)+1)=_ from aL (by omega)]
     try rfl
   ·have h2:=hx.2
    exact⟨_,rfl,m,x,y,q,by omega,by omega,hy,hm1,rfl⟩
 obtain⟨r,h1,m,x,y,c',h2,h3,h4,h5,rfl⟩:=key
 exact⟨m,x,y,c',h2,h3,h4,h5,h1⟩
def aUw:List Kid→List Kid
 |[]=>[]
 |x::r=>{ x with sent := -1 }::r
def oC (b:aD) (c:Cur):List Kid × Cur :=
 if(aF b (iP b c).2 10).1=0 then((iP b c).1++[⟨(aIX b (aF b (iP b c).2 10).2 [-1,0,7]).1,(aPi b (aIX b (aF b (iP b c).2 10).2 [-1,0,7]).2).1,0,0,0⟩],(aPi b (aIX b (aF b (iP b c).2 10).2 [-1,0,7]).2).2)
 else if(aF b (iP b c).2 10).1=1 then((iP b c).1++(iP b c).1,(aF b (iP b c).2 10).2)
 else if(aF b (iP b c).2 10).1=2 then(aUw (iP b c).1,(aF b (iP b c).2 10).2)
 else((iP b c).1,(aF b (iP b c).2 10).2)
theorem aMn (b:aD) (c:Cur):(oC b c).1.length≤10:=by
 have:=aLf b c
 unfold oC
 split
 ·simp only[List.length_append,List.length_cons,List.length_nil];omega
 ·split
  ·simp only[List.length_append];omega
  ·split
   ·simp only
    cases h:(iP b c).1 with
    |nil=>exact Nat.zero_le _
    |cons x r=>rw[h]at this;simp only[aUw,List.length_cons]at this ⊢;omega
   ·simp only;omega
theorem aRS {E:aP} (J:Sys E) {es:List (List T)} {b:aD} (he:es=aR b) (c:Cur) (hb:b.length≤1048576):E 156 [iH es c]=some ([ov 5 ((oC b c).1.map Kid.row)],dV (oC b c).2):=by
 have hl:=aLf b c
 have a0:=aXc J he c hb
 have a1:=aW J he (iP b c).2 hb 10
 unfold oC
 generalize iP b c=p at a0 a1 hl ⊢
 obtain⟨l,c1⟩:=p
 simp only at a0 a1 hl ⊢
 have hrl:(l.map Kid.row).length=l.length:=List.length_map _
 generalize aF b c1 10=q at a1 ⊢
 obtain⟨k,c2⟩:=q
 simp only at a1 ⊢
 by_cases h0:k=0
 ·rw[if_pos h0]
  refine J.run rfl rfl fun W U=>?_
  conv=>lhs;whnf
  repeat((first|apply U.t|apply U.f|(apply U.q;exact aC));conv=>lhs;whnf)
  apply U.w (a0)
  conv=>lhs;whnf
  repeat((first|apply U.t|apply U.f|(apply U.q;exact aC));conv=>lhs;whnf)
  apply U.w (a1)
  conv=>lhs;whnf
  try(apply U.q;exact aC;conv=>lhs;whnf)
  repeat'((first|with_reducible apply U.bt (decide_eq_true h0)|apply U.t|apply U.f|(apply U.q;exact aC)|(apply U.b<;>intro h))<;>conv=>lhs;whnf)
  apply U.w (aIY J he c2 hb [-1,0,7] (by decide))
  conv=>lhs;whnf
  repeat((first|apply U.t|apply U.f|(apply U.q;exact aC));conv=>lhs;whnf)
  apply U.w (aWl J he (aIX b c2 [-1,0,7]).2 hb)
  conv=>lhs;whnf
  repeat((first|apply U.t|apply U.f|(apply U.q;exact aC));conv=>lhs;whnf)
  refine U.q (by exact⟨by decide,fun e he=>by rw[List.mem_singleton.mp he];rfl,by simp;omega,by simp;omega⟩) ?_
  conv=>lhs;whnf
  repeat((first|apply U.t|apply U.f|(apply U.q;exact aC));conv=>lhs;whnf)
  refine congrArg (fun x=>(some ([ov 5 x],_):Option cO)) ?_
  rw[List.map_append]
  rfl
 ·rw[if_neg h0]
  by_cases h1:k=1
  ·rw[if_pos h1]
   refine J.run rfl rfl fun W U=>?_
   conv=>lhs;whnf
   repeat((first|apply U.t|apply U.f|(apply U.q;exact aC));conv=>lhs;whnf)
   apply U.w (a0)
   conv=>lhs;whnf
   repeat((first|apply U.t|apply U.f|(apply U.q;exact aC));conv=>lhs;whnf)
   apply U.w (a1)
   conv=>lhs;whnf
   try(apply U.q;exact aC;conv=>lhs;whnf)
   repeat'((first|with_reducible apply U.bf (decide_eq_false h0)|with_reducible apply U.bt (decide_eq_true h1)|apply U.t|apply U.f|(apply U.q;exact aC)|(apply U.b<;>intro h))<;>conv=>lhs;whnf)
   refine U.q (by exact⟨by decide,kids_rows l,by simp;omega,by simp;omega⟩) ?_
   conv=>lhs;whnf
   apply U.bt (mU l)
   conv=>lhs;whnf
   refine congrArg (fun x=>(some ([ov 5 x],_):Option cO)) ?_
   rw[List.map_append]
  ·rw[if_neg h1]
   by_cases h2:k=2
   ·rw[if_pos h2]
    cases l with
    |nil =>
     refine J.run rfl rfl fun W U=>?_
     conv=>lhs;whnf
     repeat((first|apply U.t|apply U.f|(apply U.q;exact aC));conv=>lhs;whnf)
     apply U.w (a0)
     conv=>lhs;whnf
     repeat((first|apply U.t|apply U.f|(apply U.q;exact aC));conv=>lhs;whnf)
     apply U.w (a1)
     conv=>lhs;whnf
     try(apply U.q;exact aC;conv=>lhs;whnf)
     repeat'((first|with_reducible apply U.bf (decide_eq_false h0)|with_reducible apply U.bf (decide_eq_false h1)|with_reducible apply U.bt (decide_eq_true h2)|apply U.t|apply U.f|(apply U.q;exact aC)|(apply U.b<;>intro h))<;>conv=>lhs;whnf)
     rfl
    |cons x l =>
     refine J.run rfl rfl fun W U=>?_
     conv=>lhs;whnf
     repeat((first|apply U.t|apply U.f|(apply U.q;exact aC));conv=>lhs;whnf)
     apply U.w (a0)
     conv=>lhs;whnf
     repeat((first|apply U.t|apply U.f|(apply U.q;exact aC));conv=>lhs;whnf)
     apply U.w (a1)
     conv=>lhs;whnf
     try(apply U.q;exact aC;conv=>lhs;whnf)
     have hlen:decide (((((x::l).map Kid.row).length:Nat):Int)>0)=true:=by simp
     repeat'((first|with_reducible apply U.bf (decide_eq_false h0)|with_reducible apply U.bf (decide_eq_false h1)|with_reducible apply U.bt (decide_eq_true h2)|with_reducible apply U.bt (hlen)|apply U.t|apply U.f|(apply U.q;exact aC)|(apply U.b<;>intro h))<;>conv=>lhs;whnf)
     apply U.w ((show((x::l).map Kid.row)[(0:Int).toNat]?=some (Kid.row x) from rfl))
     conv=>lhs;whnf
     repeat((first|apply U.t|apply U.f|(apply U.q;exact aC));conv=>lhs;whnf)
     apply U.w ((show((x::l).map Kid.row)[(0:Int).toNat]?=some (Kid.row x) from rfl))
     conv=>lhs;whnf
     repeat((first|apply U.t|apply U.f|(apply U.q;exact aC));conv=>lhs;whnf)
     rfl
   ·rw[if_neg h2]
    refine J.run rfl rfl fun W U=>?_
    conv=>lhs;whnf
    repeat((first|apply U.t|apply U.f|(apply U.q;exact aC));conv=>lhs;whnf)
    apply U.w (a0)
    conv=>lhs;whnf
    repeat((first|apply U.t|apply U.f|(apply U.q;exact aC));conv=>lhs;whnf)
    apply U.w (a1)
    conv=>lhs;whnf
    try(apply U.q;exact aC;conv=>lhs;whnf)
    repeat'((first|with_reducible apply U.bf (decide_eq_false h0)|with_reducible apply U.bf (decide_eq_false h1)|with_reducible apply U.bf (decide_eq_false h2)|apply U.t|apply U.f|(apply U.q;exact aC)|(apply U.b<;>intro h))<;>conv=>lhs;whnf)
    rfl
def Node.sm (n:Node):Prop:=n.man.sums.length≤41∧n.bld.buf.length≤240∧n.kids.length≤10
theorem aOa {m:Man} {b:aD} (hm:m.sums.length≤41):(qW m b).sm:=by
 have hz:aN3.sm:=⟨Nat.zero_le _,Nat.zero_le _,Nat.zero_le _⟩
 unfold qW
 split
 ·exact hz
 ·split
  ·exact hz
  ·split
   ·exact hz
   ·rename_i h1 h2 h3
    have h2:aX m=true:=by simpa using h2
    have:=(zH (old:=b) h2).2
    have:=eI h2
    exact⟨hm,by show(cL m b).buf.length≤240;omega,Nat.zero_le _⟩
theorem iL (t:Tree) (k:Int) (n:Node) (c:Cur) (ht:kO t.up) (h0:0≤k) (hk:k<t.up.length) (hn:n.sm):∃ (t':Tree) (k':Int) (n':Node) (c':Cur),kO t'.up∧0≤k'∧k'<t'.up.length∧n'.sm∧([gv (t.cs aG),iv k,gv (n.cs aG)],dV c)=([gv (t'.cs aG),iv k',gv (n'.cs aG)],dV c'):=⟨t,k,n,c,ht,h0,hk,hn,rfl⟩
theorem aLl {E:aP} (J:Sys E) {es:List (List T)} {b:aD} (he:es=aR b) (c:Cur) (hb:b.length≤1048576):∃ (t:Tree) (k:Int) (n:Node) (c':Cur),kO t.up∧0≤k∧k<t.up.length∧n.sm∧E 541 [iH es c]=some ([gv (t.cs aG),iv k,gv (n.cs aG)],dV c'):=by
 obtain⟨t,c1,ht,a0⟩:=aRJ J he c hb
 have htl:=ht.1
 have ht1:=ht.2.1
 have hrl:(bB t.up).length=t.up.length:=List.length_map _
 have hr:=cH b c1 (n:=((bB t.up).length:Int)) (by omega)
 have a1:=aW J he c1 hb ((bB t.up).length:Int)
 generalize aF b c1 ((bB t.up).length:Int)=u at a1 hr
 obtain⟨k,c2⟩:=u
 simp only at a1 hr
 obtain⟨m,x,y,c3,hm,hx,hy,hmo,a2⟩:=aUv J he c2 hb
 have key:yE (E 541 [iH es c]) fun r=>∃ (t:Tree) (k:Int) (n:Node) (c':Cur),kO t.up∧0≤k∧k<t.up.length∧n.sm∧r=([gv (t.cs aG),iv k,gv (n.cs aG)],dV c'):=by
  refine J.runS rfl rfl fun W U=>?_
  conv=>lhs;whnf
  repeat((first|apply U.t|apply U.f|(apply U.q;exact aC));conv=>lhs;whnf)
  apply U.w (a0)
  conv=>lhs;whnf
  repeat((first|apply U.t|apply U.f|(apply U.q;exact aC));conv=>lhs;whnf)
  apply U.w (a1)
  conv=>lhs;whnf
  repeat((first|apply U.t|apply U.f|(apply U.q;exact aC));conv=>lhs;whnf)
  apply U.w (a2)
  conv=>lhs;whnf
  repeat((first|apply U.t|apply U.f|(apply U.q;exact aC));conv=>lhs;whnf)
  apply U.b<;>intro g1<;>conv=>lhs;whnf
  ·repeat((first|apply U.t|apply U.f|(apply U.q;exact aC));conv=>lhs;whnf)
   apply U.w (aHv J m y (Nat.le_trans hm (by decide)) (by omega))
   conv=>lhs;whnf
   repeat((first|apply U.t|apply U.f|(apply U.q;exact aC));conv=>lhs;whnf)
   obtain⟨l,c4,hl,a4⟩:=aLk J he c3 hb t k ht
   apply U.w (a4)
   conv=>lhs;whnf
   repeat((first|apply U.t|apply U.f|(apply U.q;exact aC));conv=>lhs;whnf)
   have hn:=aOa (m:=m) (b:=y) (by omega)
   exact⟨_,rfl,iL t k { qW m y with kids:=l } c4 ht hr.1 (by omega) ⟨hn.1,hn.2.1,by show l.length≤10;omega⟩⟩
  ·have g1:k≠0:=of_decide_eq_false g1
   repeat((first|apply U.t|apply U.f|(apply U.q;exact aC));conv=>lhs;whnf)
   have a3:=eV J he c3 hb 8
   generalize aF b c3 8=u at a3
   obtain⟨w,c4⟩:=u
   simp only at a3
   apply U.w (a3)
   conv=>lhs;whnf
   repeat((first|apply U.t|apply U.f|(apply U.q;exact aC));conv=>lhs;whnf)
   apply U.b<;>intro g2<;>conv=>lhs;whnf
   ·repeat((first|apply U.t|apply U.f|(apply U.q;exact aC));conv=>lhs;whnf)
    exact⟨_,rfl,iL t k aN3 c4 ht hr.1 (by omega) ⟨Nat.zero_le _,Nat.zero_le _,Nat.zero_le _⟩⟩
   ·repeat((first|apply U.t|apply U.f|(apply U.q;exact aC));conv=>lhs;whnf)
    apply U.w (aKe J t k (Nat.le_trans htl (by decide)))
    conv=>lhs;whnf
    repeat((first|apply U.t|apply U.f|(apply U.q;exact aC));conv=>lhs;whnf)
    obtain⟨kn,rfl⟩:=Int.eq_ofNat_of_zero_le hr.1
    have hp:=aUq ht (k:=kn) (by omega) (by omega)
    have hpl:=aRH (up:=t.up) (f:=t.up.length) (k:=kn)
    change (oU t kn).length≤_ at hpl
    generalize oU t kn=p at hp hpl
    have hpr:(bB p).length=p.length:=List.length_map _
    have hw1:IntKind.i64.wrap (((bB p).length:Int)-1)=((bB p).length:Int)-1:=aK (by omega)
    have hr5:=cH b c4 (n:=((bB p).length:Int)-1) (by omega)
    have a5:=aW J he c4 hb (((bB p).length:Int)-1)
    generalize aF b c4 (((bB p).length:Int)-1)=u at a5 hr5
    rw[← hw1]at a5
    obtain⟨v,c5⟩:=u
    simp only at a5 hr5
    apply U.w (a5)
    conv=>lhs;whnf
    repeat((first|apply U.t|apply U.f|(apply U.q;exact aC));conv=>lhs;whnf)
    have hix:(bB p)[(IntKind.i64.wrap (1+v)).toNat]?=some (kQ (p.getD (1+v).toNat 0)):=by
     rw[show IntKind.i64.wrap (1+v)=1+v from aK (by omega)]
     unfold bB
     rw[List.getElem?_map,List.getElem?_eq_getElem (by omega),List.getD_eq_getElem?_getD,List.getElem?_eq_getElem (by omega)]
     rfl
    refine U.q (by(rw[show IntKind.i64.wrap (1+v)=1+v from aK (by omega)];omega)) ?_
    conv=>lhs;whnf
    repeat'((first|apply U.t|apply U.f|(apply U.q;exact aC)|apply U.w (hix)|apply U.w (aF6 J (p.getD (1+v).toNat 0))|(apply U.b<;>intro h))<;>conv=>lhs;whnf)
    have a6:=aW J he c5 hb 3
    generalize aF b c5 3=u at a6
    obtain⟨qu,c6⟩:=u
    simp only at a6
    apply U.w (a6)
    conv=>lhs;whnf
    repeat((first|apply U.t|apply U.f|(apply U.q;exact aC));conv=>lhs;whnf)
    obtain⟨l,c7,hl,a7⟩:=aLk J he c6 hb t kn ht
    apply U.w (a7)
    conv=>lhs;whnf
    repeat((first|apply U.t|apply U.f|(apply U.q;exact aC));conv=>lhs;whnf)
    have a8:=aW J he c7 hb 4
    generalize aF b c7 4=u at a8
    obtain⟨ca,c8⟩:=u
    simp only at a8
    apply U.w (a8)
    conv=>lhs;whnf
    repeat((first|apply U.t|apply U.f|(apply U.q;exact aC));conv=>lhs;whnf)
    have hl10:l.length≤10:=by omega
    apply U.b<;>intro g3<;>conv=>lhs;whnf
    ·repeat((first|apply U.t|apply U.f|(apply U.q;exact aC));conv=>lhs;whnf)
     exact⟨_,rfl,iL t kn ⟨true,p.getD (1+v).toNat 0,qu,⟨0,0,0,[]⟩,⟨0,[]⟩,0,l,0⟩ c8 ht (by omega) (by omega) ⟨Nat.zero_le _,Nat.zero_le _,hl10⟩⟩
    ·apply U.b<;>intro g4<;>conv=>lhs;whnf
     ·repeat((first|apply U.t|apply U.f|(apply U.q;exact aC));conv=>lhs;whnf)
      have a9:=aW J he c8 hb 4
      generalize aF b c8 4=u at a9
      obtain⟨ph,c9⟩:=u
      simp only at a9
      apply U.w (a9)
      conv=>lhs;whnf
      repeat((first|apply U.t|apply U.f|(apply U.q;exact aC));conv=>lhs;whnf)
      apply U.w (iJ J m y (by omega) (by omega))
      conv=>lhs;whnf
      repeat((first|apply U.t|apply U.f|(apply U.q;exact aC));conv=>lhs;whnf)
      have hbf:=(zH (old:=y) hmo).2
      have hmc:=eI hmo
      exact⟨_,rfl,iL t kn ⟨true,p.getD (1+v).toNat 0,qu,m,cL m y,IntKind.i64.wrap (2+ph),l,0⟩ c9 ht (by omega) (by omega) ⟨by show m.sums.length≤41;omega,by show(cL m y).buf.length≤240;omega,hl10⟩⟩
     ·repeat((first|apply U.t|apply U.f|(apply U.q;exact aC));conv=>lhs;whnf)
      exact⟨_,rfl,iL t kn ⟨true,p.getD (1+v).toNat 0,qu,m,x,1,l,0⟩ c8 ht (by omega) (by omega) ⟨by show m.sums.length≤41;omega,hx,hl10⟩⟩
 obtain⟨r,h1,t,k,n,c',h2,h3,h4,h5,rfl⟩:=key
 exact⟨t,k,n,c',h2,h3,h4,h5,h1⟩
theorem aOb {E:aP} (J:Sys E) {es:List (List T)} {b:aD} (he:es=aR b) (c:Cur) (hb:b.length≤1048576):∃ (t:Tree) (k:Int) (n:Node) (c':Cur),kO t.up∧0≤k∧k<t.up.length∧n.sm∧E 542 [iH es c]=some ([gv (t.cs aG),iv k,gv (n.cs aG)],dV c'):=by
 obtain⟨t,k,n,c1,ht,hk0,hk,hn,a0⟩:=aLl J he c hb
 obtain⟨hn1,hn2,hn3⟩:=hn
 have a1:=aW J he c1 hb 14
 generalize aF b c1 14=u at a1
 obtain⟨ca,c2⟩:=u
 simp only at a1
 have key:yE (E 542 [iH es c]) fun r=>∃ (t:Tree) (k:Int) (n:Node) (c':Cur),kO t.up∧0≤k∧k<t.up.length∧n.sm∧r=([gv (t.cs aG),iv k,gv (n.cs aG)],dV c'):=by
  refine J.runS rfl rfl fun W U=>?_
  conv=>lhs;whnf
  repeat((first|apply U.t|apply U.f|(apply U.q;exact aC));conv=>lhs;whnf)
  apply U.w (a0)
  conv=>lhs;whnf
  repeat((first|apply U.t|apply U.f|(apply U.q;exact aC));conv=>lhs;whnf)
  apply U.w (a1)
  conv=>lhs;whnf
  repeat((first|apply U.t|apply U.f|(apply U.q;exact aC));conv=>lhs;whnf)
  apply U.b<;>intro g1<;>conv=>lhs;whnf
  ·repeat((first|apply U.t|apply U.f|(apply U.q;exact aC));conv=>lhs;whnf)
   apply U.w (aW J he c2 hb 8)
   conv=>lhs;whnf
   repeat((first|apply U.t|apply U.f|(apply U.q;exact aC));conv=>lhs;whnf)
   exact⟨_,rfl,iL t k { n with boss:=IntKind.i64.wrap ((aF b c2 8).1-1) } (aF b c2 8).2 ht hk0 hk ⟨hn1,hn2,hn3⟩⟩
  ·apply U.b<;>intro g2<;>conv=>lhs;whnf
   ·repeat((first|apply U.t|apply U.f|(apply U.q;exact aC));conv=>lhs;whnf)
    apply U.w (aW J he c2 hb 9)
    conv=>lhs;whnf
    repeat((first|apply U.t|apply U.f|(apply U.q;exact aC));conv=>lhs;whnf)
    exact⟨_,rfl,iL t k { n with phase:=IntKind.i64.wrap ((aF b c2 9).1-1) } (aF b c2 9).2 ht hk0 hk ⟨hn1,hn2,hn3⟩⟩
   ·apply U.b<;>intro g3<;>conv=>lhs;whnf
    ·repeat((first|apply U.t|apply U.f|(apply U.q;exact aC));conv=>lhs;whnf)
     obtain⟨m,c3,hm,a2⟩:=aVT J he c2 hb
     apply U.w (a2)
     conv=>lhs;whnf
     repeat((first|apply U.t|apply U.f|(apply U.q;exact aC));conv=>lhs;whnf)
     exact⟨_,rfl,iL t k { n with man:=m } c3 ht hk0 hk ⟨hm,hn2,hn3⟩⟩
    ·apply U.b<;>intro g4<;>conv=>lhs;whnf
     ·repeat((first|apply U.t|apply U.f|(apply U.q;exact aC));conv=>lhs;whnf)
      apply U.w (aWl J he c2 hb)
      conv=>lhs;whnf
      repeat((first|apply U.t|apply U.f|(apply U.q;exact aC));conv=>lhs;whnf)
      exact⟨_,rfl,iL t k { n with bld:=⟨(aPi b c2).1,n.bld.buf⟩ } (aPi b c2).2 ht hk0 hk ⟨hn1,hn2,hn3⟩⟩
     ·apply U.b<;>intro g5<;>conv=>lhs;whnf
      ·repeat((first|apply U.t|apply U.f|(apply U.q;exact aC));conv=>lhs;whnf)
       apply U.w (aRS J he c2 hb)
       conv=>lhs;whnf
       repeat((first|apply U.t|apply U.f|(apply U.q;exact aC));conv=>lhs;whnf)
       exact⟨_,rfl,iL t k { n with kids:=(oC b c2).1 } (oC b c2).2 ht hk0 hk ⟨hn1,hn2,aMn b c2⟩⟩
      ·apply U.b<;>intro g6<;>conv=>lhs;whnf
       ·repeat((first|apply U.t|apply U.f|(apply U.q;exact aC));conv=>lhs;whnf)
        exact⟨_,rfl,iL t k { n with on := !n.on } c2 ht hk0 hk ⟨hn1,hn2,hn3⟩⟩
       ·apply U.b<;>intro g7<;>conv=>lhs;whnf
        ·repeat((first|apply U.t|apply U.f|(apply U.q;exact aC));conv=>lhs;whnf)
         exact⟨_,rfl,iL t k { n with quiet := -1 } c2 ht hk0 hk ⟨hn1,hn2,hn3⟩⟩
        ·repeat((first|apply U.t|apply U.f|(apply U.q;exact aC));conv=>lhs;whnf)
         exact⟨_,rfl,iL t k n c2 ht hk0 hk ⟨hn1,hn2,hn3⟩⟩
 obtain⟨r,h1,t,k,n,c',h2,h3,h4,h5,rfl⟩:=key
 exact⟨t,k,n,c',h2,h3,h4,h5,h1⟩
def aWs:Disk:=⟨[],[],⟨0,0,0⟩,[]⟩
def qZ (gen:Int) (b:aD):Disk:=if aS gen 0 1000000=false then aWs else if(b.length:Int)>240 then aWs else⟨b,[],⟨gen,0,b.length⟩,[]⟩
theorem zI {E:aP} (J:Sys E) (gen:Int) (b:aD) (hb:b.length≤8388608):E 469 [iv gen,sv (aR b)]=some ([gv ((qZ gen b).cs bS true)],[]):=by
 have a1:=bG J gen 0 1000000
 unfold qZ
 cases h:aS gen 0 1000000
 ·rw[h]at a1
  refine J.run rfl rfl fun W U=>?_
  conv=>lhs;whnf
  repeat'((first|apply U.t|apply U.f|(apply U.q;exact aC)|apply U.w (a1)|(apply U.b<;>intro h))<;>conv=>lhs;whnf)
  rfl
 ·rw[h]at a1
  refine J.run rfl rfl fun W U=>?_
  conv=>lhs;whnf
  apply U.w (a1)
  conv=>lhs;whnf
  repeat((first|apply U.t|apply U.f|(apply U.q;exact aC));conv=>lhs;whnf)
  rw[bA]
  apply U.b<;>intro g1<;>conv=>lhs;whnf
  ·rw[if_neg (by decide),if_pos (by simpa using g1)]
   rfl
  ·rw[if_neg (by decide),if_neg (by simpa using g1)]
   refine U.q (by exact⟨by decide,aY _,by simp[aR];omega,by simp[aR];omega⟩) ?_
   conv=>lhs;whnf
   apply U.bt (cF _)
   conv=>lhs;whnf
   rw[bA]
   rfl
def Msg.sm (m:Msg):Prop:=m.man.sums.length≤41∧m.b.length≤1101
def Disk.sm (d:Disk):Prop:=d.a.length≤1100∧d.b=[]∧d.p=[]
theorem mH (m:Msg) (c:Cur) (hm:m.sm):∃ (m':Msg) (c':Cur),m'.sm∧([gv (m.cs aG)],dV c)=([gv (m'.cs aG)],dV c'):=⟨m,c,hm,rfl⟩
theorem aJy {g:Int} {b:aD} (hb:b.length≤1100):(qZ g b).sm:=by
 unfold qZ
 split
 ·exact⟨Nat.zero_le _,rfl,rfl⟩
 ·split
  ·exact⟨Nat.zero_le _,rfl,rfl⟩
  ·exact⟨hb,rfl,rfl⟩
theorem aGn {E:aP} (J:Sys E) {es:List (List T)} {b:aD} (he:es=aR b) (c:Cur) (hb:b.length≤1048576):∃ (m:Msg) (c':Cur),m.sm∧E 553 [iH es c]=some ([gv (m.cs aG)],dV c'):=by
 have key:yE (E 553 [iH es c]) fun r=>∃ (m:Msg) (c':Cur),m.sm∧r=([gv (m.cs aG)],dV c'):=by
  have a0:=aW J he c hb 4
  generalize aF b c 4=u at a0
  obtain⟨v,c1⟩:=u
  simp only at a0
  refine J.runS rfl rfl fun W U=>?_
  conv=>lhs;whnf
  repeat((first|apply U.t|apply U.f|(apply U.q;exact aC));conv=>lhs;whnf)
  apply U.w (a0)
  conv=>lhs;whnf
  repeat((first|apply U.t|apply U.f|(apply U.q;exact aC));conv=>lhs;whnf)
  apply U.b<;>intro g1<;>conv=>lhs;whnf
  ·repeat((first|apply U.t|apply U.f|(apply U.q;exact aC));conv=>lhs;whnf)
   obtain⟨g,s,x,c2,hx,_,_,_,_,a1⟩:=aJt J he c1 hb
   have hl:=aCp g x s
   generalize mF g x s=m at a1 hl
   apply U.w (a1)
   conv=>lhs;whnf
   repeat((first|apply U.t|apply U.f|(apply U.q;exact aC));conv=>lhs;whnf)
   exact⟨_,rfl,mH ⟨1,0,m,0,0,0,[]⟩ c2 ⟨by show m.sums.length≤41;omega,Nat.zero_le _⟩⟩
  ·apply U.b<;>intro g2<;>conv=>lhs;whnf
   ·repeat((first|apply U.t|apply U.f|(apply U.q;exact aC));conv=>lhs;whnf)
    have a1:=aNK J he c1 hb
    generalize eH b c1=u at a1
    obtain⟨s,c2⟩:=u
    simp only at a1
    apply U.w (a1)
    conv=>lhs;whnf
    repeat((first|apply U.t|apply U.f|(apply U.q;exact aC));conv=>lhs;whnf)
    have a2:=aW J he c2 hb 3
    generalize aF b c2 3=u at a2
    obtain⟨g,c3⟩:=u
    simp only at a2
    apply U.w (a2)
    conv=>lhs;whnf
    repeat((first|apply U.t|apply U.f|(apply U.q;exact aC));conv=>lhs;whnf)
    have a3:=aW J he c3 hb 64
    generalize aF b c3 64=u at a3
    obtain⟨d,c4⟩:=u
    simp only at a3
    apply U.w (a3)
    conv=>lhs;whnf
    repeat((first|apply U.t|apply U.f|(apply U.q;exact aC));conv=>lhs;whnf)
    apply U.w (yY J g s d)
    conv=>lhs;whnf
    repeat((first|apply U.t|apply U.f|(apply U.q;exact aC));conv=>lhs;whnf)
    exact⟨_,rfl,mH (aE0 g s d) c4 ⟨Nat.zero_le _,Nat.zero_le _⟩⟩
   ·apply U.b<;>intro g3<;>conv=>lhs;whnf
    ·repeat((first|apply U.t|apply U.f|(apply U.q;exact aC));conv=>lhs;whnf)
     obtain⟨x,c2,hx,a1⟩:=nA J he c1 hb 5 (by decide)
     apply U.w (a1)
     conv=>lhs;whnf
     repeat((first|apply U.t|apply U.f|(apply U.q;exact aC));conv=>lhs;whnf)
     have hxl:=dA x
     refine U.q (by exact⟨by decide,aY x,by simp only[hxl];show(1+_)*1≤_;omega,by simp only[hxl];show 1+_≤_;omega⟩) ?_
     conv=>lhs;whnf
     apply U.bt (cF x)
     conv=>lhs;whnf
     repeat((first|apply U.t|apply U.f|(apply U.q;exact aC));conv=>lhs;whnf)
     have a2:=aW J he c2 hb 3
     generalize aF b c2 3=u at a2
     obtain⟨g,c3⟩:=u
     simp only at a2
     apply U.w (a2)
     conv=>lhs;whnf
     repeat((first|apply U.t|apply U.f|(apply U.q;exact aC));conv=>lhs;whnf)
     have a3:=aW J he c3 hb 9
     generalize aF b c3 9=u at a3
     obtain⟨i,c4⟩:=u
     simp only at a3
     apply U.w (a3)
     conv=>lhs;whnf
     repeat((first|apply U.t|apply U.f|(apply U.q;exact aC));conv=>lhs;whnf)
     apply U.w (cW J (IntKind.i64.wrap (1+g)) i (112::x) (by simp;omega))
     conv=>lhs;whnf
     repeat((first|apply U.t|apply U.f|(apply U.q;exact aC));conv=>lhs;whnf)
     exact⟨_,rfl,mH (dK (IntKind.i64.wrap (1+g)) i (112::x)) c4 ⟨Nat.zero_le _,by show(112::x).length≤1101;simp;omega⟩⟩
    ·repeat((first|apply U.t|apply U.f|(apply U.q;exact aC));conv=>lhs;whnf)
     have a2:=aW J he c1 hb 3
     generalize aF b c1 3=u at a2
     obtain⟨g,c3⟩:=u
     simp only at a2
     apply U.w (a2)
     conv=>lhs;whnf
     repeat((first|apply U.t|apply U.f|(apply U.q;exact aC));conv=>lhs;whnf)
     exact⟨_,rfl,mH ⟨4,g,⟨0,0,0,[]⟩,0,0,0,[]⟩ c3 ⟨Nat.zero_le _,Nat.zero_le _⟩⟩
 obtain⟨r,h1,m,c',h2,rfl⟩:=key
 exact⟨m,c',h2,h1⟩
theorem Node.sm.lim {n:Node} (h:n.sm):n.lim 1048576:=⟨Nat.le_trans h.1 (by decide),Nat.le_trans h.2.1 (by decide),Nat.le_trans h.2.2 (by decide)⟩
theorem Msg.sm.lim {m:Msg} (h:m.sm):m.lim 1048576:=⟨Nat.le_trans h.1 (by decide),Nat.le_trans h.2 (by decide)⟩
theorem Disk.sm.lim {d:Disk} (h:d.sm):d.lim 1048576:=⟨Nat.le_trans h.1 (by decide),by rw[h.2.1];exact Nat.zero_le _,by rw[h.2.2];exact⟨Nat.zero_le _,by simp⟩⟩
theorem aRT {E:aP} (J:Sys E) {es:List (List T)} {b:aD} (he:es=aR b) (c:Cur) (hb:b.length≤1048576) (n:Node) (hn:n.sm):∃ (m:Msg) (c':Cur),m.sm∧E 552 [iH es c,gv (n.cs aG)]=some ([gv (m.cs aG)],dV c'):=by
 have hq:=kH (s:=aAe n)
 have hq0:∀ x∈dS (aAe n),0≤x:=aRv
 have a1:=zA J (aAe n)
 generalize dS (aAe n)=l at a1 hq hq0
 have hrl:(bB l).length=l.length:=List.length_map _
 have hrs:(n.man.sums.map Sum.row).length=n.man.sums.length:=List.length_map _
 have key:yE (E 552 [iH es c,gv (n.cs aG)]) fun r=>∃ (m:Msg) (c':Cur),m.sm∧r=([gv (m.cs aG)],dV c'):=by
  refine J.runS rfl rfl fun W U=>?_
  conv=>lhs;whnf
  apply U.w (aJ0 J n hn.lim)
  conv=>lhs;whnf
  repeat((first|apply U.t|apply U.f|(apply U.q;exact aC));conv=>lhs;whnf)
  apply U.w (a1)
  conv=>lhs;whnf
  repeat((first|apply U.t|apply U.f|(apply U.q;exact aC));conv=>lhs;whnf)
  apply U.b<;>intro g1<;>conv=>lhs;whnf
  ·repeat((first|apply U.t|apply U.f|(apply U.q;exact aC));conv=>lhs;whnf)
   obtain⟨m,c2,hm,a2⟩:=aGn J he c hb
   apply U.w (a2)
   conv=>lhs;whnf
   repeat((first|apply U.t|apply U.f|(apply U.q;exact aC));conv=>lhs;whnf)
   apply U.b<;>intro g3<;>conv=>lhs;whnf
   ·repeat((first|apply U.t|apply U.f|(apply U.q;exact aC));conv=>lhs;whnf)
    have a3:=aW J he c2 hb 4
    generalize aF b c2 4=u at a3
    obtain⟨i,c3⟩:=u
    simp only at a3
    apply U.w (a3)
    conv=>lhs;whnf
    repeat((first|apply U.t|apply U.f|(apply U.q;exact aC));conv=>lhs;whnf)
    apply U.w (cW J 1 i [97,98] (by decide))
    conv=>lhs;whnf
    repeat((first|apply U.t|apply U.f|(apply U.q;exact aC));conv=>lhs;whnf)
    exact⟨_,rfl,mH (dK 1 i [97,98]) c3 ⟨Nat.zero_le _,(by decide:([97,98]:aD).length≤1101)⟩⟩
   ·repeat((first|apply U.t|apply U.f|(apply U.q;exact aC));conv=>lhs;whnf)
    exact⟨_,rfl,mH m c2 hm⟩
  ·have hl:0<l.length:=by
    have g1:=of_decide_eq_false g1
    omega
   repeat((first|apply U.t|apply U.f|(apply U.q;exact aC));conv=>lhs;whnf)
   have a2:=eV J he c hb 4
   generalize aF b c 4=u at a2
   obtain⟨v2,c1⟩:=u
   simp only at a2
   apply U.w (a2)
   conv=>lhs;whnf
   repeat((first|apply U.t|apply U.f|(apply U.q;exact aC));conv=>lhs;whnf)
   apply U.b<;>intro g2<;>conv=>lhs;whnf
   ·repeat((first|apply U.t|apply U.f|(apply U.q;exact aC));conv=>lhs;whnf)
    obtain⟨m,c2,hm,a2⟩:=aGn J he c1 hb
    apply U.w (a2)
    conv=>lhs;whnf
    repeat((first|apply U.t|apply U.f|(apply U.q;exact aC));conv=>lhs;whnf)
    apply U.b<;>intro g3<;>conv=>lhs;whnf
    ·repeat((first|apply U.t|apply U.f|(apply U.q;exact aC));conv=>lhs;whnf)
     have a3:=aW J he c2 hb 4
     generalize aF b c2 4=u at a3
     obtain⟨i,c3⟩:=u
     simp only at a3
     apply U.w (a3)
     conv=>lhs;whnf
     repeat((first|apply U.t|apply U.f|(apply U.q;exact aC));conv=>lhs;whnf)
     apply U.w (cW J 1 i [97,98] (by decide))
     conv=>lhs;whnf
     repeat((first|apply U.t|apply U.f|(apply U.q;exact aC));conv=>lhs;whnf)
     exact⟨_,rfl,mH (dK 1 i [97,98]) c3 ⟨Nat.zero_le _,(by decide:([97,98]:aD).length≤1101)⟩⟩
    ·repeat((first|apply U.t|apply U.f|(apply U.q;exact aC));conv=>lhs;whnf)
     exact⟨_,rfl,mH m c2 hm⟩
   ·repeat((first|apply U.t|apply U.f|(apply U.q;exact aC));conv=>lhs;whnf)
    have hr:=cH b c1 (n:=((bB l).length:Int)) (by omega)
    have a5:=aW J he c1 hb ((bB l).length:Int)
    generalize aF b c1 ((bB l).length:Int)=u at a5 hr
    obtain⟨j,c3⟩:=u
    simp only at a5 hr
    obtain⟨jn,rfl⟩:=Int.eq_ofNat_of_zero_le hr.1
    apply U.w (a5)
    conv=>lhs;whnf
    repeat((first|apply U.t|apply U.f|(apply U.q;exact aC));conv=>lhs;whnf)
    have hj:jn<l.length:=by omega
    have hi0:=hq0 l[jn] (List.getElem_mem hj)
    have hix:(bB l)[((jn:Nat):Int).toNat]?=some (kQ l[jn]):=cC hj
    generalize hi:l[jn]=i at hi0 hix
    obtain⟨iN,rfl⟩:=Int.eq_ofNat_of_zero_le hi0
    apply U.w (hix)
    conv=>lhs;whnf
    repeat((first|apply U.t|apply U.f|(apply U.q;exact aC));conv=>lhs;whnf)
    apply U.w (hix)
    conv=>lhs;whnf
    repeat((first|apply U.t|apply U.f|(apply U.q;exact aC));conv=>lhs;whnf)
    apply U.b<;>intro g4<;>conv=>lhs;whnf
    ·have g4:(iN:Int)<((n.man.sums.map Sum.row).length:Nat):=of_decide_eq_true g4
     have hiN:iN<n.man.sums.length:=by omega
     have hiy:(n.man.sums.map Sum.row)[((iN:Nat):Int).toNat]?=some (Sum.row n.man.sums[iN]):=cC hiN
     have hx:=jR n.man.sums[iN].s
     have a8:=nV J n.man.sums[iN].s
     generalize bO n.man.sums[iN].s=x at hx a8
     repeat'((first|apply U.t|apply U.f|(apply U.q;exact aC)|apply U.w (hiy)|apply U.w (a8)|(apply U.b<;>intro h))<;>conv=>lhs;whnf)
     have a6:=eV J he c3 hb 6
     generalize aF b c3 6=u at a6
     obtain⟨v6,c4⟩:=u
     simp only at a6
     apply U.w (a6)
     conv=>lhs;whnf
     repeat((first|apply U.t|apply U.f|(apply U.q;exact aC));conv=>lhs;whnf)
     apply U.b<;>intro g5<;>conv=>lhs;whnf
     ·repeat((first|apply U.t|apply U.f|(apply U.q;exact aC));conv=>lhs;whnf)
      obtain⟨y,c5,hy,a7⟩:=qY J he c4 hb x (Nat.le_trans hx (by decide))
      apply U.w (a7)
      conv=>lhs;whnf
      repeat((first|apply U.t|apply U.f|(apply U.q;exact aC));conv=>lhs;whnf)
      apply U.w (cW J n.man.gen iN y (by omega))
      conv=>lhs;whnf
      repeat((first|apply U.t|apply U.f|(apply U.q;exact aC));conv=>lhs;whnf)
      exact⟨_,rfl,mH (dK n.man.gen iN y) c5 ⟨Nat.zero_le _,by show y.length≤1101;omega⟩⟩
     ·repeat((first|apply U.t|apply U.f|(apply U.q;exact aC));conv=>lhs;whnf)
      apply U.w (cW J n.man.gen iN x (Nat.le_trans hx (by decide)))
      conv=>lhs;whnf
      repeat((first|apply U.t|apply U.f|(apply U.q;exact aC));conv=>lhs;whnf)
      exact⟨_,rfl,mH (dK n.man.gen iN x) c4 ⟨Nat.zero_le _,Nat.le_trans hx (by decide)⟩⟩
    ·repeat((first|apply U.t|apply U.f|(apply U.q;exact aC));conv=>lhs;whnf)
     have hx:([]:aD).length≤6:=by decide
     have a6:=eV J he c3 hb 6
     generalize aF b c3 6=u at a6
     obtain⟨v6,c4⟩:=u
     simp only at a6
     apply U.w (a6)
     conv=>lhs;whnf
     repeat((first|apply U.t|apply U.f|(apply U.q;exact aC));conv=>lhs;whnf)
     apply U.b<;>intro g5<;>conv=>lhs;whnf
     ·repeat((first|apply U.t|apply U.f|(apply U.q;exact aC));conv=>lhs;whnf)
      obtain⟨y,c5,hy,a7⟩:=qY J he c4 hb [] (Nat.le_trans hx (by decide))
      apply U.w (a7)
      conv=>lhs;whnf
      repeat((first|apply U.t|apply U.f|(apply U.q;exact aC));conv=>lhs;whnf)
      apply U.w (cW J n.man.gen iN y (by omega))
      conv=>lhs;whnf
      repeat((first|apply U.t|apply U.f|(apply U.q;exact aC));conv=>lhs;whnf)
      exact⟨_,rfl,mH (dK n.man.gen iN y) c5 ⟨Nat.zero_le _,by show y.length≤1101;omega⟩⟩
     ·repeat((first|apply U.t|apply U.f|(apply U.q;exact aC));conv=>lhs;whnf)
      apply U.w (cW J n.man.gen iN [] (Nat.le_trans hx (by decide)))
      conv=>lhs;whnf
      repeat((first|apply U.t|apply U.f|(apply U.q;exact aC));conv=>lhs;whnf)
      exact⟨_,rfl,mH (dK n.man.gen iN []) c4 ⟨Nat.zero_le _,Nat.le_trans hx (by decide)⟩⟩
 obtain⟨r,h1,m,c',h2,rfl⟩:=key
 exact⟨m,c',h2,h1⟩
theorem aPx {E:aP} (J:Sys E) (l m:List Kid) (h0:l.length≤1099511627776):E 288 [sv (l.map Kid.row),sv (m.map Kid.row)]=some ([bv (decide (l=m))],[]):=by
 refine J.run rfl rfl fun W U=>?_
 conv=>lhs;whnf
 apply U.b<;>intro h<;>conv=>lhs;whnf
 ·have:l≠m:=by rintro rfl;simp at h
  rw[decide_eq_false this];rfl
 ·have h:l.length=m.length:=by simp at h;omega
  refine U.loop (σ:=Nat) (γ:=Nat) (fun i s=>s.sl 5 (v1 (.t (.int .i64 i)))) (fun i n=>i=n∧n≤l.length) (fun n=>l.length-n) (fun n=>([bv (decide (l.drop n=m.drop n))],[])) 0 0 ?_ ?_ ?_ ?_
  ·intro K
   conv=>lhs;whnf
   conv=>rhs;whnf
   try rfl
  ·simp
  ·rintro kl n _ ⟨rfl,hn⟩ ih
   conv=>lhs;whnf
   apply U.b<;>intro h2<;>conv=>lhs;whnf
   ·have h2:n<l.length:=by simpa using h2
    rw[List.drop_eq_getElem_cons h2,List.drop_eq_getElem_cons (l:=m) (i:=n) (by omega)]
    repeat((first|apply U.t|apply U.f|(apply U.q;exact aC)|(refine U.w (cC ?_) ?_;omega));conv=>lhs;whnf)
    apply U.b<;>intro h3<;>conv=>lhs;whnf
    ·have h3:l[n]≠m[n]:=by intro e;rw[e]at h3;simp at h3
     rw[decide_eq_false fun e=>h3 (List.cons.inj e).1];rfl
    ·have h3:l[n]=m[n]:=by
      revert h3
      generalize l[n]=x
      generalize m[n]=y
      cases x;cases y
      simp
     simp only[h3,List.cons.injEq,true_and]
     refine ih (n+1) (n+1) _ ?_ ⟨rfl,by omega⟩ (by omega)
     intro K
     conv=>lhs;whnf
     conv=>rhs;whnf
     try rfl
     rw[show IntKind.i64.wrap ((n:Int)+1)=_ from aL (by omega)]
     try rfl
   ·have:n=l.length:=by simp at h2;omega
    subst this
    rw[List.drop_length,h,List.drop_length];rfl
  ·rfl
theorem aXU {E:aP} (J:Sys E) (b:aD):E 149 [sv (aR b)]=some ([bv (decide (b.length>1048576))],[]):=by
 have hl:=dA b
 refine J.run rfl rfl fun W U=>?_
 conv=>lhs;whnf
 rw[hl]
 refine congrArg (fun x=>(some ([bv x],[]):Option cO)) ?_
 exact decide_eq_decide.mpr ⟨fun h=>by omega,fun h=>by omega⟩
theorem aOc {E:aP} (J:Sys E) (l m:List Sum) (h0:l.length≤1099511627776):E 558 [sv (l.map Sum.row),sv (m.map Sum.row)]=some ([bv (decide (l=m))],[]):=by
 refine J.run rfl rfl fun W U=>?_
 conv=>lhs;whnf
 apply U.b<;>intro h<;>conv=>lhs;whnf
 ·have:l≠m:=by rintro rfl;simp at h
  rw[decide_eq_false this];rfl
 ·have h:l.length=m.length:=by simp at h;omega
  refine U.loop (σ:=Nat) (γ:=Nat) (fun i s=>s.sl 5 (v1 (.t (.int .i64 i)))) (fun i n=>i=n∧n≤l.length) (fun n=>l.length-n) (fun n=>([bv (decide (l.drop n=m.drop n))],[])) 0 0 ?_ ?_ ?_ ?_
  ·intro K
   conv=>lhs;whnf
   conv=>rhs;whnf
   try rfl
  ·simp
  ·rintro kl n _ ⟨rfl,hn⟩ ih
   conv=>lhs;whnf
   apply U.b<;>intro h2<;>conv=>lhs;whnf
   ·have h2:n<l.length:=by simpa using h2
    rw[List.drop_eq_getElem_cons h2,List.drop_eq_getElem_cons (l:=m) (i:=n) (by omega)]
    repeat((first|apply U.t|apply U.f|(apply U.q;exact aC)|(refine U.w (cC ?_) ?_;omega));conv=>lhs;whnf)
    apply U.b<;>intro h3<;>conv=>lhs;whnf
    ·have h3:l[n]≠m[n]:=by intro e;rw[e]at h3;simp at h3
     rw[decide_eq_false fun e=>h3 (List.cons.inj e).1];rfl
    ·have h3:l[n]=m[n]:=by
      revert h3
      generalize l[n]=x
      generalize m[n]=y
      cases x;cases y
      simp
     simp only[h3,List.cons.injEq,true_and]
     refine ih (n+1) (n+1) _ ?_ ⟨rfl,by omega⟩ (by omega)
     intro K
     conv=>lhs;whnf
     conv=>rhs;whnf
     try rfl
     rw[show IntKind.i64.wrap ((n:Int)+1)=_ from aL (by omega)]
     try rfl
   ·have:n=l.length:=by simp at h2;omega
    subst this
    rw[List.drop_length,h,List.drop_length];rfl
  ·rfl
theorem aUx {E:aP} (J:Sys E) (l m:aD) (h0:l.length≤1099511627776):E 559 [sv (aR l),sv (aR m)]=some ([bv (decide (l=m))],[]):=by
 refine J.run rfl rfl fun W U=>?_
 conv=>lhs;whnf
 apply U.b<;>intro h<;>conv=>lhs;whnf
 ·have:l≠m:=by rintro rfl;simp[aR,bB]at h
  rw[decide_eq_false this];rfl
 ·have h:l.length=m.length:=by simp[aR,bB]at h;omega
  refine U.loop (σ:=Nat) (γ:=Nat) (fun i s=>s.sl 5 (v1 (.t (.int .i64 i)))) (fun i n=>i=n∧n≤l.length) (fun n=>l.length-n) (fun n=>([bv (decide (l.drop n=m.drop n))],[])) 0 0 ?_ ?_ ?_ ?_
  ·intro K
   conv=>lhs;whnf
   conv=>rhs;whnf
   try rfl
  ·simp
  ·rintro kl n _ ⟨rfl,hn⟩ ih
   conv=>lhs;whnf
   apply U.b<;>intro h2<;>conv=>lhs;whnf
   ·have h2:n<l.length:=by simpa[aR,bB] using h2
    rw[List.drop_eq_getElem_cons h2,List.drop_eq_getElem_cons (l:=m) (i:=n) (by omega)]
    repeat((first|apply U.t|apply U.f|(apply U.q;exact aC)|(refine U.w (cC ?_) ?_;omega));conv=>lhs;whnf)
    apply U.b<;>intro h3<;>conv=>lhs;whnf
    ·have h3:l[n]≠m[n]:=fun e=>by rw[e]at h3;simp at h3
     rw[decide_eq_false fun e=>h3 (List.cons.inj e).1];rfl
    ·have h3:l[n]=m[n]:=by
      simp at h3
      exact UInt8.toNat_inj.mp (by omega)
     simp only[h3,List.cons.injEq,true_and]
     refine ih (n+1) (n+1) _ ?_ ⟨rfl,by omega⟩ (by omega)
     intro K
     conv=>lhs;whnf
     conv=>rhs;whnf
     try rfl
     rw[show IntKind.i64.wrap ((n:Int)+1)=_ from aL (by omega)]
   ·have:n=l.length:=by simp[aR,bB]at h2;omega
    subst this
    rw[List.drop_length,h,List.drop_length];rfl
  ·rfl
theorem aJz {E:aP} (J:Sys E) {o o':Bool} (l m:List Pkt) (hb:uM (fun B=>Pkt.lim B) 1099511627776 l):E 555 [sv (l.map (Pkt.row o)),sv (m.map (Pkt.row o'))]=some ([bv (decide (l=m))],[]):=by
 obtain⟨h0,hb⟩:=hb
 refine J.run rfl rfl fun W U=>?_
 conv=>lhs;whnf
 apply U.b<;>intro h<;>conv=>lhs;whnf
 ·have:l≠m:=by rintro rfl;simp[aR,bB]at h
  rw[decide_eq_false this];rfl
 ·have h:l.length=m.length:=by simp[aR,bB]at h;omega
  refine U.loop (σ:=Nat) (γ:=Nat) (fun i s=>s.sl 5 (v1 (.t (.int .i64 i)))) (fun i n=>i=n∧n≤l.length) (fun n=>l.length-n) (fun n=>([bv (decide (l.drop n=m.drop n))],[])) 0 0 ?_ ?_ ?_ ?_
  ·intro K
   conv=>lhs;whnf
   conv=>rhs;whnf
   try rfl
  ·simp
  ·rintro kl n _ ⟨rfl,hn⟩ ih
   conv=>lhs;whnf
   apply U.b<;>intro h2<;>conv=>lhs;whnf
   ·have h2:n<l.length:=by simpa[aR,bB] using h2
    rw[List.drop_eq_getElem_cons h2,List.drop_eq_getElem_cons (l:=m) (i:=n) (by omega)]
    have hbn:=hb _ (List.getElem_mem h2)
    have q1:(l.map (Pkt.row o))[((n:Nat):Int).toNat]?=some (Pkt.row o l[n]):=cC h2
    have q2:(m.map (Pkt.row o'))[((n:Nat):Int).toNat]?=some (Pkt.row o' (m[n]'(by omega))):=cC (by omega)
    have ac:=aUx J l[n].b (m[n]'(by omega)).b hbn
    generalize l[n]=x at q1 ac
    generalize (m[n]'(by omega))=y at q2 ac
    have fin:x≠y→some ([bv false],[])=(some ([bv (decide (x::l.drop (n+1)=y::m.drop (n+1)))],[]):Option cO):=fun h=>by rw[decide_eq_false fun e=>h (List.cons.inj e).1]
    repeat((first|apply U.t|apply U.f|(apply U.q;exact aC));conv=>lhs;whnf)
    apply U.w (q1)
    conv=>lhs;whnf
    repeat((first|apply U.t|apply U.f|(apply U.q;exact aC));conv=>lhs;whnf)
    apply U.w (q2)
    conv=>lhs;whnf
    repeat((first|apply U.t|apply U.f|(apply U.q;exact aC));conv=>lhs;whnf)
    by_cases e1:x.frm=y.frm
    ·apply U.bf ((by rw[decide_eq_true e1];rfl))
     conv=>lhs;whnf
     repeat((first|apply U.t|apply U.f|(apply U.q;exact aC));conv=>lhs;whnf)
     apply U.w (q1)
     conv=>lhs;whnf
     repeat((first|apply U.t|apply U.f|(apply U.q;exact aC));conv=>lhs;whnf)
     apply U.w (q2)
     conv=>lhs;whnf
     repeat((first|apply U.t|apply U.f|(apply U.q;exact aC));conv=>lhs;whnf)
     by_cases e2:x.to=y.to
     ·apply U.bf ((by rw[decide_eq_true e2];rfl))
      conv=>lhs;whnf
      repeat((first|apply U.t|apply U.f|(apply U.q;exact aC));conv=>lhs;whnf)
      apply U.w (q1)
      conv=>lhs;whnf
      repeat((first|apply U.t|apply U.f|(apply U.q;exact aC));conv=>lhs;whnf)
      apply U.w (q2)
      conv=>lhs;whnf
      repeat((first|apply U.t|apply U.f|(apply U.q;exact aC));conv=>lhs;whnf)
      apply U.w (ac)
      conv=>lhs;whnf
      repeat((first|apply U.t|apply U.f|(apply U.q;exact aC));conv=>lhs;whnf)
      by_cases e3:x.b=y.b
      ·have e:x=y:=by cases x;cases y;simp_all
       apply U.bf ((by rw[decide_eq_true e3];rfl))
       conv=>lhs;whnf
       subst e
       simp only[List.cons.injEq,true_and]
       refine ih (n+1) (n+1) _ ?_ ⟨rfl,by omega⟩ (by omega)
       intro K
       conv=>lhs;whnf
       conv=>rhs;whnf
       try rfl
       rw[show IntKind.i64.wrap ((n:Int)+1)=_ from aL (by omega)]
      ·apply U.bt ((by rw[decide_eq_false e3];rfl))
       conv=>lhs;whnf
       exact fin (fun e=>e3 (by rw[e]))
     ·apply U.bt ((by rw[decide_eq_false e2];rfl))
      conv=>lhs;whnf
      repeat((first|apply U.t|apply U.f|(apply U.q;exact aC));conv=>lhs;whnf)
      exact fin (fun e=>e2 (by rw[e]))
    ·apply U.bt ((by rw[decide_eq_false e1];rfl))
     conv=>lhs;whnf
     repeat((first|apply U.t|apply U.f|(apply U.q;exact aC));conv=>lhs;whnf)
     exact fin (fun e=>e1 (by rw[e]))
   ·have:n=l.length:=by simp[aR,bB]at h2;omega
    subst this
    rw[List.drop_length,h,List.drop_length];rfl
  ·rfl
theorem aPy {E:aP} (J:Sys E) (x y:Man) (hb:x.lim 1099511627776):E 556 [gv (x.cs aG),gv (y.cs aG)]=some ([bv (decide (x=y))],[]):=by
 refine J.run rfl rfl fun W U=>?_
 conv=>lhs;whnf
 apply U.b<;>intro e0<;>conv=>lhs;whnf
 ·have e0:x.gen=y.gen:=by simpa using e0
  repeat((first|apply U.t|apply U.f|(apply U.q;exact aC));conv=>lhs;whnf)
  apply U.b<;>intro e1<;>conv=>lhs;whnf
  ·have e1:x.size=y.size:=by simpa using e1
   repeat((first|apply U.t|apply U.f|(apply U.q;exact aC));conv=>lhs;whnf)
   apply U.b<;>intro e2<;>conv=>lhs;whnf
   ·have e2:x.len=y.len:=by simpa using e2
    repeat((first|apply U.t|apply U.f|(apply U.q;exact aC));conv=>lhs;whnf)
    apply U.w (aOc J x.sums y.sums hb)
    conv=>lhs;whnf
    repeat((first|apply U.t|apply U.f|(apply U.q;exact aC));conv=>lhs;whnf)
    refine congrArg (fun b=>(some ([bv b],[]):Option cO)) (decide_eq_decide.mpr ⟨fun h=>?_,fun h=>by rw[h]⟩)
    cases x;cases y;simp_all
   ·have e2:x.len≠y.len:=by simpa using e2
    repeat((first|apply U.t|apply U.f|(apply U.q;exact aC));conv=>lhs;whnf)
    rw[decide_eq_false fun e=>e2 (by rw[e])]
    first|rfl|skip
  ·have e1:x.size≠y.size:=by simpa using e1
   repeat((first|apply U.t|apply U.f|(apply U.q;exact aC));conv=>lhs;whnf)
   rw[decide_eq_false fun e=>e1 (by rw[e])]
   first|rfl|skip
 ·have e0:x.gen≠y.gen:=by simpa using e0
  repeat((first|apply U.t|apply U.f|(apply U.q;exact aC));conv=>lhs;whnf)
  rw[decide_eq_false fun e=>e0 (by rw[e])]
  first|rfl|skip
theorem aMo {E:aP} (J:Sys E) (x y:Bld) (hb:x.lim 1099511627776):E 557 [gv (x.cs aG),gv (y.cs aG)]=some ([bv (decide (x=y))],[]):=by
 refine J.run rfl rfl fun W U=>?_
 conv=>lhs;whnf
 apply U.b<;>intro e0<;>conv=>lhs;whnf
 ·have e0:x.hav=y.hav:=by simpa using e0
  repeat((first|apply U.t|apply U.f|(apply U.q;exact aC));conv=>lhs;whnf)
  apply U.w (aUx J x.buf y.buf hb)
  conv=>lhs;whnf
  repeat((first|apply U.t|apply U.f|(apply U.q;exact aC));conv=>lhs;whnf)
  refine congrArg (fun b=>(some ([bv b],[]):Option cO)) (decide_eq_decide.mpr ⟨fun h=>?_,fun h=>by rw[h]⟩)
  cases x;cases y;simp_all
 ·have e0:x.hav≠y.hav:=by simpa using e0
  repeat((first|apply U.t|apply U.f|(apply U.q;exact aC));conv=>lhs;whnf)
  rw[decide_eq_false fun e=>e0 (by rw[e])]
  first|rfl|skip
theorem aGW {E:aP} (J:Sys E) (x y:Node) (hb:x.lim 1099511627776):E 538 [gv (x.cs aG),gv (y.cs aG)]=some ([bv (decide (x=y))],[]):=by
 refine J.run rfl rfl fun W U=>?_
 conv=>lhs;whnf
 apply U.b<;>intro e0<;>conv=>lhs;whnf
 ·have e0:x.on=y.on:=by simpa using e0
  repeat((first|apply U.t|apply U.f|(apply U.q;exact aC));conv=>lhs;whnf)
  apply U.b<;>intro e1<;>conv=>lhs;whnf
  ·have e1:x.boss=y.boss:=by simpa using e1
   repeat((first|apply U.t|apply U.f|(apply U.q;exact aC));conv=>lhs;whnf)
   apply U.b<;>intro e2<;>conv=>lhs;whnf
   ·have e2:x.quiet=y.quiet:=by simpa using e2
    repeat((first|apply U.t|apply U.f|(apply U.q;exact aC));conv=>lhs;whnf)
    apply U.w (aPy J x.man y.man hb.1)
    conv=>lhs;whnf
    repeat((first|apply U.t|apply U.f|(apply U.q;exact aC));conv=>lhs;whnf)
    apply U.b<;>intro e3<;>conv=>lhs;whnf
    ·have e3:x.man=y.man:=by simpa using e3
     repeat((first|apply U.t|apply U.f|(apply U.q;exact aC));conv=>lhs;whnf)
     apply U.w (aMo J x.bld y.bld hb.2.1)
     conv=>lhs;whnf
     repeat((first|apply U.t|apply U.f|(apply U.q;exact aC));conv=>lhs;whnf)
     apply U.b<;>intro e4<;>conv=>lhs;whnf
     ·have e4:x.bld=y.bld:=by simpa using e4
      repeat((first|apply U.t|apply U.f|(apply U.q;exact aC));conv=>lhs;whnf)
      apply U.b<;>intro e5<;>conv=>lhs;whnf
      ·have e5:x.phase=y.phase:=by simpa using e5
       repeat((first|apply U.t|apply U.f|(apply U.q;exact aC));conv=>lhs;whnf)
       apply U.w (aPx J x.kids y.kids hb.2.2)
       conv=>lhs;whnf
       repeat((first|apply U.t|apply U.f|(apply U.q;exact aC));conv=>lhs;whnf)
       apply U.b<;>intro e6<;>conv=>lhs;whnf
       ·have e6:x.kids=y.kids:=by simpa using e6
        repeat((first|apply U.t|apply U.f|(apply U.q;exact aC));conv=>lhs;whnf)
        refine congrArg (fun b=>(some ([bv b],[]):Option cO)) (decide_eq_decide.mpr ⟨fun h=>?_,fun h=>by rw[h]⟩)
        cases x;cases y;simp_all
       ·have e6:x.kids≠y.kids:=by simpa using e6
        repeat((first|apply U.t|apply U.f|(apply U.q;exact aC));conv=>lhs;whnf)
        rw[decide_eq_false fun e=>e6 (by rw[e])]
        first|rfl|skip
      ·have e5:x.phase≠y.phase:=by simpa using e5
       repeat((first|apply U.t|apply U.f|(apply U.q;exact aC));conv=>lhs;whnf)
       rw[decide_eq_false fun e=>e5 (by rw[e])]
       first|rfl|skip
     ·have e4:x.bld≠y.bld:=by simpa using e4
      repeat((first|apply U.t|apply U.f|(apply U.q;exact aC));conv=>lhs;whnf)
      rw[decide_eq_false fun e=>e4 (by rw[e])]
      first|rfl|skip
    ·have e3:x.man≠y.man:=by simpa using e3
     repeat((first|apply U.t|apply U.f|(apply U.q;exact aC));conv=>lhs;whnf)
     rw[decide_eq_false fun e=>e3 (by rw[e])]
     first|rfl|skip
   ·have e2:x.quiet≠y.quiet:=by simpa using e2
    repeat((first|apply U.t|apply U.f|(apply U.q;exact aC));conv=>lhs;whnf)
    rw[decide_eq_false fun e=>e2 (by rw[e])]
    first|rfl|skip
  ·have e1:x.boss≠y.boss:=by simpa using e1
   repeat((first|apply U.t|apply U.f|(apply U.q;exact aC));conv=>lhs;whnf)
   rw[decide_eq_false fun e=>e1 (by rw[e])]
   first|rfl|skip
 ·have e0:x.on≠y.on:=by simpa using e0
  repeat((first|apply U.t|apply U.f|(apply U.q;exact aC));conv=>lhs;whnf)
  rw[decide_eq_false fun e=>e0 (by rw[e])]
  first|rfl|skip
theorem aJA {E:aP} (J:Sys E) {o o':Bool} (x y:Actn) (hb:x.lim 1099511627776):E 535 [gv (x.cs aG o),gv (y.cs aG o')]=some ([bv (decide (x=y))],[]):=by
 refine J.run rfl rfl fun W U=>?_
 conv=>lhs;whnf
 apply U.w (aGW J x.n y.n hb.1)
 conv=>lhs;whnf
 repeat((first|apply U.t|apply U.f|(apply U.q;exact aC));conv=>lhs;whnf)
 apply U.b<;>intro e0<;>conv=>lhs;whnf
 ·have e0:x.n=y.n:=by simpa using e0
  repeat((first|apply U.t|apply U.f|(apply U.q;exact aC));conv=>lhs;whnf)
  apply U.w (aJz J x.out y.out hb.2)
  conv=>lhs;whnf
  repeat((first|apply U.t|apply U.f|(apply U.q;exact aC));conv=>lhs;whnf)
  refine congrArg (fun b=>(some ([bv b],[]):Option cO)) (decide_eq_decide.mpr ⟨fun h=>?_,fun h=>by rw[h]⟩)
  cases x;cases y;simp_all
 ·have e0:x.n≠y.n:=by simpa using e0
  repeat((first|apply U.t|apply U.f|(apply U.q;exact aC));conv=>lhs;whnf)
  rw[decide_eq_false fun e=>e0 (by rw[e])]
  first|rfl|skip
def aPz (l:List Pkt):Prop:=l.length≤4∧∀ p∈l,p.b.length≤1010
theorem aOd {l:List Pkt} (h:aPz l):uM (fun B=>Pkt.lim B) 1048576 l:=⟨Nat.le_trans h.1 (by decide),fun p hp=>Nat.le_trans (h.2 p hp) (by decide)⟩
theorem aVW (l:List Pkt) (p:Pkt):(l++[p]).map (Pkt.row true)=l.map (Pkt.row true)++[[ti p.frm,ti p.to, .sl true (aR p.b)]]:=by rw[List.map_append];rfl
theorem mI (p:Pkt) (c:Cur) (h:p.b.length≤1010):∃ (p':Pkt) (c':Cur),p'.b.length≤1010∧([gv (p.cs bS)],dV c)=([gv (p'.cs bS)],dV c'):=⟨p,c,h,rfl⟩
theorem aGX {E:aP} (J:Sys E) {es:List (List T)} {b:aD} (he:es=aR b) (c:Cur) (hb:b.length≤1048576) (t:Tree) (k:Int) (n:Node) (ht:kO t.up) (hn:n.sm):∃ (p:Pkt) (c':Cur),p.b.length≤1010∧E 540 [iH es c,gv (t.cs aG),iv k,gv (n.cs aG)]=some ([gv (p.cs bS)],dV c'):=by
 have htl:=ht.1
 have hrl:(bB t.up).length=t.up.length:=List.length_map _
 obtain⟨m,c1,hm,a1⟩:=aRT J he c hb n hn
 have key:yE (E 540 [iH es c,gv (t.cs aG),iv k,gv (n.cs aG)]) fun r=>∃ (p:Pkt) (c':Cur),p.b.length≤1010∧r=([gv (p.cs bS)],dV c'):=by
  refine J.runS rfl rfl fun W U=>?_
  conv=>lhs;whnf
  repeat((first|apply U.t|apply U.f|(apply U.q;exact aC));conv=>lhs;whnf)
  apply U.w (a1)
  conv=>lhs;whnf
  repeat((first|apply U.t|apply U.f|(apply U.q;exact aC));conv=>lhs;whnf)
  have a2:=aW J he c1 hb 4
  generalize aF b c1 4=u at a2
  obtain⟨v2,c2⟩:=u
  simp only at a2
  apply U.w (a2)
  conv=>lhs;whnf
  repeat((first|apply U.t|apply U.f|(apply U.q;exact aC));conv=>lhs;whnf)
  apply U.b<;>intro g1<;>conv=>lhs;whnf
  ·repeat((first|apply U.t|apply U.f|(apply U.q;exact aC));conv=>lhs;whnf)
   have a3:=aW J he c2 hb 64
   generalize aF b c2 64=u at a3
   obtain⟨v3,c3⟩:=u
   simp only at a3
   apply U.w (a3)
   conv=>lhs;whnf
   repeat((first|apply U.t|apply U.f|(apply U.q;exact aC));conv=>lhs;whnf)
   apply U.w (yY J n.man.gen v3 0)
   conv=>lhs;whnf
   repeat((first|apply U.t|apply U.f|(apply U.q;exact aC));conv=>lhs;whnf)
   have hw:IntKind.i64.wrap (((bB t.up).length:Int)+1)=((bB t.up).length:Int)+1:=aK (by omega)
   have a4:=aW J he c3 hb (((bB t.up).length:Int)+1)
   generalize aF b c3 (((bB t.up).length:Int)+1)=u at a4
   rw[← hw]at a4
   obtain⟨fr,c4⟩:=u
   simp only at a4
   apply U.w (a4)
   conv=>lhs;whnf
   repeat((first|apply U.t|apply U.f|(apply U.q;exact aC));conv=>lhs;whnf)
   have hm:(aE0 n.man.gen v3 0).sm:=⟨Nat.zero_le _,Nat.zero_le _⟩
   generalize aE0 n.man.gen v3 0=m at hm ⊢
   apply U.w (cY J fr k m hm.lim)
   conv=>lhs;whnf
   repeat((first|apply U.t|apply U.f|(apply U.q;exact aC));conv=>lhs;whnf)
   have hpl:(bL m).length≤1009:=eR m
   have a8:=eV J he c4 hb 6
   generalize aF b c4 6=u at a8
   obtain⟨v8,c8⟩:=u
   simp only at a8
   apply U.w (a8)
   conv=>lhs;whnf
   repeat((first|apply U.t|apply U.f|(apply U.q;exact aC));conv=>lhs;whnf)
   apply U.b<;>intro g8<;>conv=>lhs;whnf
   ·repeat((first|apply U.t|apply U.f|(apply U.q;exact aC));conv=>lhs;whnf)
    obtain⟨y,e8,hy,b8⟩:=qY J he c8 hb (bL m) (by omega)
    apply U.w (b8)
    conv=>lhs;whnf
    repeat((first|apply U.t|apply U.f|(apply U.q;exact aC));conv=>lhs;whnf)
    have hq:y.length≤1010:=by omega
    have a9:=eV J he e8 hb 8
    generalize aF b e8 8=u at a9
    obtain⟨v9,c9⟩:=u
    simp only at a9
    apply U.w (a9)
    conv=>lhs;whnf
    repeat((first|apply U.t|apply U.f|(apply U.q;exact aC));conv=>lhs;whnf)
    apply U.b<;>intro g9<;>conv=>lhs;whnf
    ·repeat((first|apply U.t|apply U.f|(apply U.q;exact aC));conv=>lhs;whnf)
     have b9:=aW J he c9 hb 9
     generalize aF b c9 9=u at b9
     obtain⟨w9,d9⟩:=u
     simp only at b9
     apply U.w (b9)
     conv=>lhs;whnf
     repeat((first|apply U.t|apply U.f|(apply U.q;exact aC));conv=>lhs;whnf)
     exact⟨_,rfl,mI { (⟨fr,k,y⟩:Pkt) with frm:=IntKind.i64.wrap (w9-1) } d9 hq⟩
    ·repeat((first|apply U.t|apply U.f|(apply U.q;exact aC));conv=>lhs;whnf)
     exact⟨_,rfl,mI (⟨fr,k,y⟩:Pkt) c9 hq⟩
   ·repeat((first|apply U.t|apply U.f|(apply U.q;exact aC));conv=>lhs;whnf)
    have hq:(bL m).length≤1010:=by omega
    have a9:=eV J he c8 hb 8
    generalize aF b c8 8=u at a9
    obtain⟨v9,c9⟩:=u
    simp only at a9
    apply U.w (a9)
    conv=>lhs;whnf
    repeat((first|apply U.t|apply U.f|(apply U.q;exact aC));conv=>lhs;whnf)
    apply U.b<;>intro g9<;>conv=>lhs;whnf
    ·repeat((first|apply U.t|apply U.f|(apply U.q;exact aC));conv=>lhs;whnf)
     have b9:=aW J he c9 hb 9
     generalize aF b c9 9=u at b9
     obtain⟨w9,d9⟩:=u
     simp only at b9
     apply U.w (b9)
     conv=>lhs;whnf
     repeat((first|apply U.t|apply U.f|(apply U.q;exact aC));conv=>lhs;whnf)
     exact⟨_,rfl,mI { (⟨fr,k,bL m⟩:Pkt) with frm:=IntKind.i64.wrap (w9-1) } d9 hq⟩
    ·repeat((first|apply U.t|apply U.f|(apply U.q;exact aC));conv=>lhs;whnf)
     exact⟨_,rfl,mI (⟨fr,k,bL m⟩:Pkt) c9 hq⟩
  ·apply U.b<;>intro g2<;>conv=>lhs;whnf
   ·repeat((first|apply U.t|apply U.f|(apply U.q;exact aC));conv=>lhs;whnf)
    obtain⟨m,c3,hm,a3⟩:=aGn J he c2 hb
    apply U.w (a3)
    conv=>lhs;whnf
    repeat((first|apply U.t|apply U.f|(apply U.q;exact aC));conv=>lhs;whnf)
    apply U.w (cY J n.boss k m hm.lim)
    conv=>lhs;whnf
    repeat((first|apply U.t|apply U.f|(apply U.q;exact aC));conv=>lhs;whnf)
    have hpl:(bL m).length≤1009:=eR m
    have a8:=eV J he c3 hb 6
    generalize aF b c3 6=u at a8
    obtain⟨v8,c8⟩:=u
    simp only at a8
    apply U.w (a8)
    conv=>lhs;whnf
    repeat((first|apply U.t|apply U.f|(apply U.q;exact aC));conv=>lhs;whnf)
    apply U.b<;>intro g8<;>conv=>lhs;whnf
    ·repeat((first|apply U.t|apply U.f|(apply U.q;exact aC));conv=>lhs;whnf)
     obtain⟨y,e8,hy,b8⟩:=qY J he c8 hb (bL m) (by omega)
     apply U.w (b8)
     conv=>lhs;whnf
     repeat((first|apply U.t|apply U.f|(apply U.q;exact aC));conv=>lhs;whnf)
     have hq:y.length≤1010:=by omega
     have a9:=eV J he e8 hb 8
     generalize aF b e8 8=u at a9
     obtain⟨v9,c9⟩:=u
     simp only at a9
     apply U.w (a9)
     conv=>lhs;whnf
     repeat((first|apply U.t|apply U.f|(apply U.q;exact aC));conv=>lhs;whnf)
     apply U.b<;>intro g9<;>conv=>lhs;whnf
     ·repeat((first|apply U.t|apply U.f|(apply U.q;exact aC));conv=>lhs;whnf)
      have b9:=aW J he c9 hb 9
      generalize aF b c9 9=u at b9
      obtain⟨w9,d9⟩:=u
      simp only at b9
      apply U.w (b9)
      conv=>lhs;whnf
      repeat((first|apply U.t|apply U.f|(apply U.q;exact aC));conv=>lhs;whnf)
      exact⟨_,rfl,mI { (⟨n.boss,k,y⟩:Pkt) with frm:=IntKind.i64.wrap (w9-1) } d9 hq⟩
     ·repeat((first|apply U.t|apply U.f|(apply U.q;exact aC));conv=>lhs;whnf)
      exact⟨_,rfl,mI (⟨n.boss,k,y⟩:Pkt) c9 hq⟩
    ·repeat((first|apply U.t|apply U.f|(apply U.q;exact aC));conv=>lhs;whnf)
     have hq:(bL m).length≤1010:=by omega
     have a9:=eV J he c8 hb 8
     generalize aF b c8 8=u at a9
     obtain⟨v9,c9⟩:=u
     simp only at a9
     apply U.w (a9)
     conv=>lhs;whnf
     repeat((first|apply U.t|apply U.f|(apply U.q;exact aC));conv=>lhs;whnf)
     apply U.b<;>intro g9<;>conv=>lhs;whnf
     ·repeat((first|apply U.t|apply U.f|(apply U.q;exact aC));conv=>lhs;whnf)
      have b9:=aW J he c9 hb 9
      generalize aF b c9 9=u at b9
      obtain⟨w9,d9⟩:=u
      simp only at b9
      apply U.w (b9)
      conv=>lhs;whnf
      repeat((first|apply U.t|apply U.f|(apply U.q;exact aC));conv=>lhs;whnf)
      exact⟨_,rfl,mI { (⟨n.boss,k,bL m⟩:Pkt) with frm:=IntKind.i64.wrap (w9-1) } d9 hq⟩
     ·repeat((first|apply U.t|apply U.f|(apply U.q;exact aC));conv=>lhs;whnf)
      exact⟨_,rfl,mI (⟨n.boss,k,bL m⟩:Pkt) c9 hq⟩
   ·repeat((first|apply U.t|apply U.f|(apply U.q;exact aC));conv=>lhs;whnf)
    apply U.w (cY J n.boss k m hm.lim)
    conv=>lhs;whnf
    repeat((first|apply U.t|apply U.f|(apply U.q;exact aC));conv=>lhs;whnf)
    have hpl:(bL m).length≤1009:=eR m
    have a8:=eV J he c2 hb 6
    generalize aF b c2 6=u at a8
    obtain⟨v8,c8⟩:=u
    simp only at a8
    apply U.w (a8)
    conv=>lhs;whnf
    repeat((first|apply U.t|apply U.f|(apply U.q;exact aC));conv=>lhs;whnf)
    apply U.b<;>intro g8<;>conv=>lhs;whnf
    ·repeat((first|apply U.t|apply U.f|(apply U.q;exact aC));conv=>lhs;whnf)
     obtain⟨y,e8,hy,b8⟩:=qY J he c8 hb (bL m) (by omega)
     apply U.w (b8)
     conv=>lhs;whnf
     repeat((first|apply U.t|apply U.f|(apply U.q;exact aC));conv=>lhs;whnf)
     have hq:y.length≤1010:=by omega
     have a9:=eV J he e8 hb 8
     generalize aF b e8 8=u at a9
     obtain⟨v9,c9⟩:=u
     simp only at a9
     apply U.w (a9)
     conv=>lhs;whnf
     repeat((first|apply U.t|apply U.f|(apply U.q;exact aC));conv=>lhs;whnf)
     apply U.b<;>intro g9<;>conv=>lhs;whnf
     ·repeat((first|apply U.t|apply U.f|(apply U.q;exact aC));conv=>lhs;whnf)
      have b9:=aW J he c9 hb 9
      generalize aF b c9 9=u at b9
      obtain⟨w9,d9⟩:=u
      simp only at b9
      apply U.w (b9)
      conv=>lhs;whnf
      repeat((first|apply U.t|apply U.f|(apply U.q;exact aC));conv=>lhs;whnf)
      exact⟨_,rfl,mI { (⟨n.boss,k,y⟩:Pkt) with frm:=IntKind.i64.wrap (w9-1) } d9 hq⟩
     ·repeat((first|apply U.t|apply U.f|(apply U.q;exact aC));conv=>lhs;whnf)
      exact⟨_,rfl,mI (⟨n.boss,k,y⟩:Pkt) c9 hq⟩
    ·repeat((first|apply U.t|apply U.f|(apply U.q;exact aC));conv=>lhs;whnf)
     have hq:(bL m).length≤1010:=by omega
     have a9:=eV J he c8 hb 8
     generalize aF b c8 8=u at a9
     obtain⟨v9,c9⟩:=u
     simp only at a9
     apply U.w (a9)
     conv=>lhs;whnf
     repeat((first|apply U.t|apply U.f|(apply U.q;exact aC));conv=>lhs;whnf)
     apply U.b<;>intro g9<;>conv=>lhs;whnf
     ·repeat((first|apply U.t|apply U.f|(apply U.q;exact aC));conv=>lhs;whnf)
      have b9:=aW J he c9 hb 9
      generalize aF b c9 9=u at b9
      obtain⟨w9,d9⟩:=u
      simp only at b9
      apply U.w (b9)
      conv=>lhs;whnf
      repeat((first|apply U.t|apply U.f|(apply U.q;exact aC));conv=>lhs;whnf)
      exact⟨_,rfl,mI { (⟨n.boss,k,bL m⟩:Pkt) with frm:=IntKind.i64.wrap (w9-1) } d9 hq⟩
     ·repeat((first|apply U.t|apply U.f|(apply U.q;exact aC));conv=>lhs;whnf)
      exact⟨_,rfl,mI (⟨n.boss,k,bL m⟩:Pkt) c9 hq⟩
 obtain⟨r,h1,p,c',h2,rfl⟩:=key
 exact⟨p,c',h2,h1⟩
def aXe (b:aD) (c:Cur):A := .pt true [.alias 0 0 0 b.length,ci c.i,ci c.h]
theorem aRU {E:aP} (J:Sys E) {b:aD} (hb:b.length≤1048576):∃ (n:Node) (c:Cur),n.sm∧E 554 [sv (aR b)]=some ([aXe b c,gv (n.cs aG)],[]):=by
 obtain⟨t,k,n,c,z1,z2,z3,hn,a1⟩:=aOb J (kG b) (aVH b) hb
 clear z1 z2 z3
 refine⟨n,c,hn,?_⟩
 refine J.run rfl rfl fun W U=>?_
 conv=>lhs;whnf
 apply U.w (aWm J hb)
 conv=>lhs;whnf
 repeat((first|apply U.t|apply U.f|(apply U.q;exact aC));conv=>lhs;whnf)
 apply U.w (a1)
 conv=>lhs;whnf
 try(apply U.q;exact aC;conv=>lhs;whnf)
 refine U.q aC ?_
 conv=>lhs;whnf
 refine U.q (by(show 0+b.length≤(aR b).length;rw[dA];omega)) ?_
 conv=>lhs;whnf
 rfl
theorem aKk {E:aP} (J:Sys E) {b:aD} (hb:b.length≤1048576):∃ (n:Node),n.sm∧E 533 [sv (aR b)]=some ([gv (n.cs aG)],[]):=by
 obtain⟨n,c,hn,a1⟩:=aRU J hb
 refine⟨{ n with drops:=(((aR b).length:Int)).tmod 5 },hn,?_⟩
 refine J.run rfl rfl fun W U=>?_
 conv=>lhs;whnf
 apply U.w (a1)
 conv=>lhs;whnf
 repeat((first|apply U.t|apply U.f|(apply U.q;exact aC));conv=>lhs;whnf)
 rfl
theorem aLm {E:aP} (J:Sys E) {b:aD} (hb:b.length≤1048576):∃ (t:Tree) (k:Int) (n:Node) (d:Disk) (c:Cur),kO t.up∧n.sm∧d.sm∧E 539 [sv (aR b)]=some ([aXe b c,gv (t.cs aG),iv k,gv (n.cs aG),gv (d.cs aG true)],[]):=by
 have key:yE (E 539 [sv (aR b)]) fun r=>∃ (t:Tree) (k:Int) (n:Node) (d:Disk) (c:Cur),kO t.up∧n.sm∧d.sm∧r=([aXe b c,gv (t.cs aG),iv k,gv (n.cs aG),gv (d.cs aG true)],[]):=by
  obtain⟨t,k,n,c1,ht,z1,z2,hn,a1⟩:=aLl J (kG b) (aVH b) hb
  clear z1 z2
  refine J.runS rfl rfl fun W U=>?_
  conv=>lhs;whnf
  apply U.w (aWm J hb)
  conv=>lhs;whnf
  repeat((first|apply U.t|apply U.f|(apply U.q;exact aC));conv=>lhs;whnf)
  apply U.w (a1)
  conv=>lhs;whnf
  repeat((first|apply U.t|apply U.f|(apply U.q;exact aC));conv=>lhs;whnf)
  have a2:=eV J (kG b) c1 hb 8
  generalize aF b c1 8=u at a2
  obtain⟨v,c2⟩:=u
  simp only at a2
  apply U.w (a2)
  conv=>lhs;whnf
  repeat((first|apply U.t|apply U.f|(apply U.q;exact aC));conv=>lhs;whnf)
  apply U.b<;>intro g1<;>conv=>lhs;whnf
  ·repeat((first|apply U.t|apply U.f|(apply U.q;exact aC));conv=>lhs;whnf)
   obtain⟨t,k,n,c3,ht,z1,z2,hn,a3⟩:=aOb J (kG b) c2 hb
   clear z1 z2
   apply U.w (a3)
   conv=>lhs;whnf
   repeat((first|apply U.t|apply U.f|(apply U.q;exact aC));conv=>lhs;whnf)
   obtain⟨x,c4,hx,a4⟩:=nA J (kG b) c3 hb 9 (by decide)
   apply U.w (a4)
   conv=>lhs;whnf
   repeat((first|apply U.t|apply U.f|(apply U.q;exact aC));conv=>lhs;whnf)
   apply U.w (zI J 0 x (by omega))
   conv=>lhs;whnf
   try(apply U.q;exact aC;conv=>lhs;whnf)
   refine U.q (by(show 0+b.length≤(aR b).length;rw[dA];omega)) ?_
   conv=>lhs;whnf
   exact⟨_,rfl,t,k,n,qZ 0 x,c4,ht,hn,aJy (by omega),rfl⟩
  ·repeat((first|apply U.t|apply U.f|(apply U.q;exact aC));conv=>lhs;whnf)
   obtain⟨x,c4,hx,a4⟩:=nA J (kG b) c2 hb 9 (by decide)
   apply U.w (a4)
   conv=>lhs;whnf
   repeat((first|apply U.t|apply U.f|(apply U.q;exact aC));conv=>lhs;whnf)
   apply U.w (zI J 0 x (by omega))
   conv=>lhs;whnf
   try(apply U.q;exact aC;conv=>lhs;whnf)
   refine U.q (by(show 0+b.length≤(aR b).length;rw[dA];omega)) ?_
   conv=>lhs;whnf
   exact⟨_,rfl,t,k,n,qZ 0 x,c4,ht,hn,aJy (by omega),rfl⟩
 obtain⟨r,h1,t,k,n,d,c,h2,h3,h4,rfl⟩:=key
 exact⟨t,k,n,d,c,h2,h3,h4,h1⟩
theorem aJB {E:aP} (J:Sys E) {b:aD} (hb:b.length≤1048576):∃ (t:Tree) (k:Int) (n:Node) (d:Disk) (p:Pkt),kO t.up∧n.sm∧d.sm∧p.b.length≤1010∧E 531 [sv (aR b)]=some ([gv (t.cs aG),iv k,gv (n.cs aG),gv (d.cs aG true),gv (p.cs aG)],[]):=by
 obtain⟨t,k,n,d,c,ht,hn,hd,a1⟩:=aLm J hb
 obtain⟨p,c2,hp,a2⟩:=aGX J (kG b) c hb t k n ht hn
 refine⟨t,k,n,d,p,ht,hn,hd,hp,?_⟩
 refine J.run rfl rfl fun W U=>?_
 conv=>lhs;whnf
 apply U.w (a1)
 conv=>lhs;whnf
 repeat((first|apply U.t|apply U.f|(apply U.q;exact aC));conv=>lhs;whnf)
 apply U.w (a2)
 conv=>lhs;whnf
 repeat((first|apply U.t|apply U.f|(apply U.q;exact aC));conv=>lhs;whnf)
 rfl
theorem aKl {E:aP} (J:Sys E) {b:aD} (hb:b.length≤1048576):∃ (t:Tree) (k:Int) (n:Node) (d:Disk) (p:Pkt),kO t.up∧n.sm∧d.sm∧p.b.length≤1010∧E 534 [sv (aR b)]=some ([gv (t.cs aG),iv k,gv (n.cs aG),gv (d.cs aG true),gv (p.cs aG)],[]):=by
 obtain⟨t,k,n,d,p,ht,hn,hd,hp,a1⟩:=aJB J hb
 refine⟨t,k,n,d,p,ht,hn,hd,hp,?_⟩
 refine J.run rfl rfl fun W U=>?_
 conv=>lhs;whnf
 apply U.w (a1)
 conv=>lhs;whnf
 repeat((first|apply U.t|apply U.f|(apply U.q;exact aC));conv=>lhs;whnf)
 rfl
theorem aKm {E:aP} (J:Sys E) {b:aD} (hb:b.length≤1048576):∃ (t:Tree) (k:Int) (n:Node) (d:Disk) (l:List Pkt),kO t.up∧n.sm∧d.sm∧aPz l∧E 532 [sv (aR b)]=some ([gv (t.cs aG),iv k,gv (n.cs aG),gv (d.cs aG true),sv (l.map (Pkt.row true))],[]):=by
 obtain⟨t,k,n,d,c,ht,hn,hd,a1⟩:=aLm J hb
 have hr:=cH b c (n:=4) (by decide)
 obtain⟨m0,hm0⟩:=Int.eq_ofNat_of_zero_le hr.1
 have a2:=aW J (kG b) c hb 4
 rw[hm0]at a2 hr
 generalize (aF b c 4).2=c1 at a2
 have key:yE (E 532 [sv (aR b)]) fun r=>∃ (l:List Pkt),aPz l∧r=([gv (t.cs aG),iv k,gv (n.cs aG),gv (d.cs aG true),sv (l.map (Pkt.row true))],[]):=by
  refine J.runS rfl rfl fun W U=>?_
  conv=>lhs;whnf
  apply U.w (a1)
  conv=>lhs;whnf
  repeat((first|apply U.t|apply U.f|(apply U.q;exact aC));conv=>lhs;whnf)
  apply U.w (a2)
  conv=>lhs;whnf
  repeat((first|apply U.t|apply U.f|(apply U.q;exact aC));conv=>lhs;whnf)
  refine U.loop (σ:=Nat × List Pkt × Cur) (γ:=Nat) (fun i s=>⟨aQ (aQ s.t 13 (v1 (.t (.int .i64 i.1)))) 18 (.box true [.part 0 0 b.length, .t (.int .i64 i.2.2.i), .t (.int .i64 i.2.2.h)]),cZ s.h ⟨51200,3, .own,i.2.1.map (Pkt.row true)⟩⟩) (fun i m=>i.1=m∧i.1≤m0∧i.2.1.length+m≤m0∧∀ p∈i.2.1,p.b.length≤1010) (fun m=>m) (m0,[],c1) m0 ?_ ?_ ?_
  ·intro K
   conv=>lhs;whnf
   conv=>rhs;whnf
   try rfl
  ·exact⟨rfl,Nat.le_refl _,by simp,fun p hp=>by cases hp⟩
  ·rintro kl ⟨m,l,q⟩ _ ⟨rfl,hm,hl,hp⟩ ih
   simp only at hm hl hp
   have hrl:(l.map (Pkt.row true)).length=l.length:=List.length_map _
   conv=>lhs;whnf
   apply U.b<;>intro g1<;>conv=>lhs;whnf
   ·have g1:0<m:=by have g1:=of_decide_eq_true g1;omega
    obtain⟨j,rfl⟩:∃ k,m=k+1:=⟨m-1,by omega⟩
    repeat((first|apply U.t|apply U.f|(apply U.q;exact aC));conv=>lhs;whnf)
    obtain⟨p,q1,hpl,a3⟩:=aGX J (kG b) q hb t k n ht hn
    apply U.w (a3)
    conv=>lhs;whnf
    repeat((first|apply U.t|apply U.f|(apply U.q;exact aC));conv=>lhs;whnf)
    refine U.q (by exact⟨by decide,fun e he=>by rw[List.mem_singleton.mp he];rfl,by simp only[hrl];show(_+1)*40≤_;omega,by simp only[hrl];show _+1≤_;omega⟩) ?_
    conv=>lhs;whnf
    repeat((first|apply U.t|apply U.f|(apply U.q;exact aC));conv=>lhs;whnf)
    refine ih (j,l++[p],q1) j _ ?_ ⟨rfl,by omega,by simp;omega,fun x h=>(?_:x.b.length≤1010)⟩ (by omega)
    ·intro K
     conv=>lhs;whnf
     conv=>rhs;whnf
     try rfl
     rw[show IntKind.i64.wrap (((j+1:Nat):Int)-1)=(j:Int) from oV (by omega),aVW]
     rfl
    ·rcases List.mem_append.mp h with h|h
     ·exact hp x h
     ·rw[List.mem_singleton.mp h];exact hpl
   ·repeat((first|apply U.t|apply U.f|(apply U.q;exact aC));conv=>lhs;whnf)
    exact⟨_,rfl,l,⟨by omega,hp⟩,rfl⟩
 obtain⟨r,h1,l,h2,rfl⟩:=key
 exact⟨t,k,n,d,l,ht,hn,hd,h2,h1⟩
def aQq (n:Node) (k i id:Int):Pkt:=fE k id (dK n.man.gen i (gG n.man n.bld i))
def oD (n:Node) (k i:Int):List Kid→List Kid→List Pkt→List Kid × List Pkt
 |[],c,o=>(c,o)
 |x::r,c,o=>if dI (lQ c x.id n.bld.hav) i=true then oD n k i r (bV c x.id (aF7 i)) (o++[aQq n k i x.id]) else oD n k i r c o
def jI (n:Node) (k i:Int):Actn:=if eF n.man n.bld i=true then⟨{ n with kids:=(oD n k i n.kids n.kids []).1 },(oD n k i n.kids n.kids []).2⟩ else⟨n,[]⟩
theorem aOe {n:Node} {k i:Int} {l:List Kid}:∀ {c:List Kid} {o:List Pkt},(oD n k i l c o).1.length=c.length∧(oD n k i l c o).2.length≤o.length+l.length:=by
 induction l with
 |nil=>intro c o;exact⟨rfl,Nat.le_refl _⟩
 |cons x r ih =>
  intro c o
  simp only[oD]
  split
  ·have:=ih (c:=bV c x.id (aF7 i)) (o:=o++[aQq n k i x.id])
   rw[eA]at this
   simp only[List.length_append,List.length_cons,List.length_nil]at this ⊢
   omega
  ·have:=ih (c:=c) (o:=o)
   simp only[List.length_cons]
   omega
theorem aUy {n:Node} {k i:Int} {l:List Kid}:∀ {c:List Kid} {o:List Pkt},(∀ x∈o,x.lim 4194304)→∀ x∈(oD n k i l c o).2,x.lim 4194304:=by
 induction l with
 |nil=>intro c o h;exact h
 |cons x r ih =>
  intro c o h
  simp only[oD]
  split
  ·refine ih fun y hy=>?_
   rcases List.mem_append.mp hy with hy|hy
   ·exact h y hy
   ·rw[List.mem_singleton.mp hy]
    exact Nat.le_trans (eR _) (by decide)
  ·exact ih h
theorem aMp (n:Node) (k i:Int) (hn:n.limk):(jI n k i).lim 4194304:=by
 have hn':=hn.l4
 have hl:=aOe (n:=n) (k:=k) (i:=i) (l:=n.kids) (c:=n.kids) (o:=[])
 have hk:=hn.2.2
 unfold jI
 split
 ·refine⟨⟨hn'.1,hn'.2.1,?_⟩,?_,aUy fun _ h=>by cases h⟩
  ·simp only;omega
  ·simp only[List.length_nil]at hl ⊢;omega
 ·exact⟨hn',Nat.zero_le _,fun _ h=>by cases h⟩
theorem aRV {i:Int} (h:aS i 0 39=true):mV 0 i=aF7 i:=by
 unfold mV
 rw[if_pos ⟨by decide,h⟩]
 have h:=bP h
 obtain⟨n,rfl⟩:∃ n:Nat,i=n:=⟨i.toNat,by omega⟩
 have hw:=aMi (i:=n) (by omega)
 rw[hw.1]
 have:=(aEY (a:=0) (b:=2 ^ n) (by omega) (by omega)).1
 rw[Nat.zero_or]at this
 exact this
theorem aOf {s i:Int} (h:dI s i=true):aS i 0 39=true:=by
 unfold dI at h
 simp only[Bool.and_eq_true]at h
 exact h.2.1
theorem aJC {E:aP} (J:Sys E) (n:Node) (k i:Int) (hn:n.limk):E 419 [gv (n.cs aG),iv k,iv i]=some ([gv ((jI n k i).cs bS true)],[]):=by
 have hrk:(n.kids.map Kid.row).length=n.kids.length:=List.length_map _
 have hkl:=hn.2.2
 have a0:=dJ J n hn.l8
 have a1:=zB J n.man n.bld i hn.1 hn.2.1
 unfold jI
 cases hok:eF n.man n.bld i
 ·rw[hok]at a1
  refine J.run rfl rfl fun W U=>?_
  conv=>lhs;whnf
  apply U.w (a0)
  conv=>lhs;whnf
  repeat((first|apply U.t|apply U.f|(apply U.q;exact aC));conv=>lhs;whnf)
  apply U.w (a1)
  conv=>lhs;whnf
  repeat((first|apply U.t|apply U.f|(apply U.q;exact aC));conv=>lhs;whnf)
  refine U.loop (σ:=Unit) (γ:=Unit) (fun _ s=>s.sl 10 (v1 (.t (.int .i64 0)))) (fun _ _=>True) (fun _=>0) (fun _=>([gv (Actn.cs bS true ⟨n,[]⟩)],[])) () () ?_ ?_ ?_ ?_
  ·intro K
   conv=>lhs;whnf
   conv=>rhs;whnf
   try rfl
  ·trivial
  ·rintro kl _ _ _ ih
   conv=>lhs;whnf
   apply U.b<;>intro h1<;>conv=>lhs;whnf
   ·repeat((first|apply U.t|apply U.f|(apply U.q;exact aC));conv=>lhs;whnf)
    rfl
   ·repeat((first|apply U.t|apply U.f|(apply U.q;exact aC));conv=>lhs;whnf)
    rfl
  ·rfl
 ·rw[hok]at a1
  refine J.run rfl rfl fun W U=>?_
  conv=>lhs;whnf
  apply U.w (a0)
  conv=>lhs;whnf
  repeat((first|apply U.t|apply U.f|(apply U.q;exact aC));conv=>lhs;whnf)
  apply U.w (a1)
  conv=>lhs;whnf
  repeat((first|apply U.t|apply U.f|(apply U.q;exact aC));conv=>lhs;whnf)
  refine U.loop (σ:=Nat × List Kid × List Pkt) (γ:=Nat) (fun i s=>((s.sl 10 (v1 (.t (.int .i64 i.1)))).bl ⟨50710,5, .own,i.2.1.map Kid.row⟩).bl ⟨50712,3, .own,i.2.2.map (Pkt.row true)⟩) (fun j m=>j.1=m∧m≤n.kids.length∧j.2.1.length=n.kids.length∧j.2.2.length≤m∧oD n k i (n.kids.drop m) j.2.1 j.2.2=oD n k i n.kids n.kids []) (fun m=>n.kids.length-m) (fun _=>([gv (Actn.cs bS true ⟨{ n with kids:=(oD n k i n.kids n.kids []).1 },(oD n k i n.kids n.kids []).2⟩)],[])) (0,n.kids,[]) 0 ?_ ?_ ?_ ?_
  ·intro K
   conv=>lhs;whnf
   conv=>rhs;whnf
   try rfl
  ·exact⟨rfl,by omega,rfl,by simp,rfl⟩
  ·rintro kl ⟨m,c,o⟩ _ ⟨rfl,hm,hc,ho,hs⟩ ih
   simp only at hs hm hc ho
   conv=>lhs;whnf
   rw[hrk]
   apply U.b<;>intro h1<;>conv=>lhs;whnf
   ·have h1:m<n.kids.length:=by simpa using h1
    rw[List.drop_eq_getElem_cons h1,oD]at hs
    repeat((first|apply U.t|apply U.f|(apply U.q;exact aC)|(refine U.w (cC ?_) ?_;omega));conv=>lhs;whnf)
    apply U.w (zE J n)
    conv=>lhs;whnf
    repeat((first|apply U.t|apply U.f|(apply U.q;exact aC));conv=>lhs;whnf)
    apply U.w (aBH J c n.kids[m].id n.bld.hav (by omega))
    conv=>lhs;whnf
    repeat((first|apply U.t|apply U.f|(apply U.q;exact aC));conv=>lhs;whnf)
    apply U.w (dE J (lQ c n.kids[m].id n.bld.hav) i)
    conv=>lhs;whnf
    repeat((first|apply U.t|apply U.f|(apply U.q;exact aC));conv=>lhs;whnf)
    apply U.b<;>intro h3<;>conv=>lhs;whnf
    ·rw[if_pos h3]at hs
     have h4:=aRV (aOf h3)
     apply U.w (cW J n.man.gen i (gG n.man n.bld i) (Nat.le_trans (hZ _ _ _) (Nat.le_trans hn.2.1 (by decide))))
     conv=>lhs;whnf
     repeat((first|apply U.t|apply U.f|(apply U.q;exact aC));conv=>lhs;whnf)
     apply U.w (cY J k n.kids[m].id (dK n.man.gen i (gG n.man n.bld i)) ⟨Nat.zero_le _,Nat.le_trans (hZ _ _ _) hn.2.1⟩)
     conv=>lhs;whnf
     repeat((first|apply U.t|apply U.f|(apply U.q;exact aC));conv=>lhs;whnf)
     refine U.q (by exact⟨by decide,by intro e he;simp at he;subst he;rfl,by simp;omega,by simp;omega⟩) ?_
     conv=>lhs;whnf
     repeat((first|apply U.t|apply U.f|(apply U.q;exact aC));conv=>lhs;whnf)
     apply U.w (tY J 0 i)
     conv=>lhs;whnf
     repeat((first|apply U.t|apply U.f|(apply U.q;exact aC));conv=>lhs;whnf)
     rw[h4]
     apply U.w (jJ J c n.kids[m].id (aF7 i) (by omega))
     conv=>lhs;whnf
     repeat((first|apply U.t|apply U.f|(apply U.q;exact aC));conv=>lhs;whnf)
     refine ih (m+1,bV c n.kids[m].id (aF7 i),o++[aQq n k i n.kids[m].id]) (m+1) _ ?_ ⟨rfl,by omega,by simp only;rw[eA];exact hc,by simp;omega,hs⟩ (by omega)
     intro K
     conv=>lhs;whnf
     conv=>rhs;whnf
     try rfl
     rw[show IntKind.i64.wrap ((m:Int)+1)=_ from aL (by omega)]
     rw[List.map_append]
     rfl
    ·rw[if_neg (by rw[h3];decide)]at hs
     refine ih (m+1,c,o) (m+1) _ ?_ ⟨rfl,by omega,hc,by simp only;omega,hs⟩ (by omega)
     intro K
     conv=>lhs;whnf
     conv=>rhs;whnf
     try rfl
     rw[show IntKind.i64.wrap ((m:Int)+1)=_ from aL (by omega)]
     try rfl
   ·have:m=n.kids.length:=by simp at h1;omega
    subst this
    simp only[List.drop_length,oD]at hs
    repeat((first|apply U.t|apply U.f|(apply U.q;exact aC));conv=>lhs;whnf)
    rw[← hs]
    rfl
  ·rfl
theorem aJD {E:aP} (J:Sys E) (n:Node) (k i:Int) (hn:n.limk):E 424 [gv (n.cs aG),iv k,iv i]=some ([gv ((jI n k i).cs bS true)],[]):=by
 have hrk:(n.kids.map Kid.row).length=n.kids.length:=List.length_map _
 have hkl:=hn.2.2
 have a0:=cX J n hn.l8
 have a1:=zC J n.man n.bld i hn.1 hn.2.1
 unfold jI
 cases hok:eF n.man n.bld i
 ·rw[hok]at a1
  refine J.run rfl rfl fun W U=>?_
  conv=>lhs;whnf
  repeat'((first|apply U.t|apply U.f|(apply U.q;exact aC)|apply U.w (a0)|apply U.w (a1)|(apply U.b<;>intro h))<;>conv=>lhs;whnf)
  rfl
 ·rw[hok]at a1
  refine J.run rfl rfl fun W U=>?_
  conv=>lhs;whnf
  apply U.w (a0)
  conv=>lhs;whnf
  repeat((first|apply U.t|apply U.f|(apply U.q;exact aC));conv=>lhs;whnf)
  apply U.w (a1)
  conv=>lhs;whnf
  repeat((first|apply U.t|apply U.f|(apply U.q;exact aC));conv=>lhs;whnf)
  rw[hrk]
  refine U.loop (σ:=Nat × List Kid × List Pkt) (γ:=Nat) (fun i s=>((s.sl 30 (v1 (.t (.int .i64 i.1)))).bl ⟨50710,5, .own,i.2.1.map Kid.row⟩).bl ⟨50712,3, .own,i.2.2.map (Pkt.row true)⟩) (fun j m=>j.1=m∧m≤n.kids.length∧j.2.1.length=n.kids.length∧j.2.2.length≤m∧oD n k i (n.kids.drop m) j.2.1 j.2.2=oD n k i n.kids n.kids []) (fun m=>n.kids.length-m) (fun _=>([gv (Actn.cs bS true ⟨{ n with kids:=(oD n k i n.kids n.kids []).1 },(oD n k i n.kids n.kids []).2⟩)],[])) (0,n.kids,[]) 0 ?_ ?_ ?_ ?_
  ·intro K
   conv=>lhs;whnf
   conv=>rhs;whnf
   try rfl
  ·exact⟨rfl,by omega,rfl,by simp,rfl⟩
  ·rintro kl ⟨m,c,o⟩ _ ⟨rfl,hm,hc,ho,hs⟩ ih
   simp only at hs hm hc ho
   conv=>lhs;whnf
   apply U.b<;>intro h1<;>conv=>lhs;whnf
   ·have h1:m<n.kids.length:=by simpa using h1
    rw[List.drop_eq_getElem_cons h1,oD]at hs
    repeat((first|apply U.t|apply U.f|(apply U.q;exact aC)|(refine U.w (cC ?_) ?_;omega));conv=>lhs;whnf)
    apply U.w (zG J n)
    conv=>lhs;whnf
    repeat((first|apply U.t|apply U.f|(apply U.q;exact aC));conv=>lhs;whnf)
    apply U.w (aBI J c n.kids[m].id n.bld.hav (by omega))
    conv=>lhs;whnf
    repeat((first|apply U.t|apply U.f|(apply U.q;exact aC));conv=>lhs;whnf)
    apply U.w (eO J (lQ c n.kids[m].id n.bld.hav) i)
    conv=>lhs;whnf
    repeat((first|apply U.t|apply U.f|(apply U.q;exact aC));conv=>lhs;whnf)
    apply U.b<;>intro h3<;>conv=>lhs;whnf
    ·rw[if_pos h3]at hs
     have h4:=bP (aOf h3)
     apply U.w (zD J n.man.gen i (gG n.man n.bld i) (Nat.le_trans (hZ _ _ _) (Nat.le_trans hn.2.1 (by decide))))
     conv=>lhs;whnf
     repeat((first|apply U.t|apply U.f|(apply U.q;exact aC));conv=>lhs;whnf)
     apply U.w (gB J k n.kids[m].id (dK n.man.gen i (gG n.man n.bld i)) ⟨Nat.zero_le _,Nat.le_trans (hZ _ _ _) hn.2.1⟩)
     conv=>lhs;whnf
     repeat((first|apply U.t|apply U.f|(apply U.q;exact aC));conv=>lhs;whnf)
     refine U.q (by exact⟨by decide,by intro e he;simp at he;subst he;rfl,by simp;omega,by simp;omega⟩) ?_
     conv=>lhs;whnf
     repeat((first|apply U.t|apply U.f|(apply U.q;exact aC));conv=>lhs;whnf)
     apply U.w (tW J c n.kids[m].id (aF7 i) (by omega))
     conv=>lhs;whnf
     repeat((first|apply U.t|apply U.f|(apply U.q;exact aC));conv=>lhs;whnf)
     refine ih (m+1,bV c n.kids[m].id (aF7 i),o++[aQq n k i n.kids[m].id]) (m+1) _ ?_ ⟨rfl,by omega,by simp only;rw[eA];exact hc,by simp;omega,hs⟩ (by omega)
     intro K
     conv=>lhs;whnf
     conv=>rhs;whnf
     try rfl
     rw[show IntKind.i64.wrap ((m:Int)+1)=_ from aL (by omega)]
     rw[List.map_append]
     rfl
    ·rw[if_neg (by rw[h3];decide)]at hs
     refine ih (m+1,c,o) (m+1) _ ?_ ⟨rfl,by omega,hc,by simp only;omega,hs⟩ (by omega)
     intro K
     conv=>lhs;whnf
     conv=>rhs;whnf
     try rfl
     rw[show IntKind.i64.wrap ((m:Int)+1)=_ from aL (by omega)]
     try rfl
   ·have:m=n.kids.length:=by simp at h1;omega
    subst this
    simp only[List.drop_length,oD]at hs
    rw[← hs]
    rfl
  ·rfl
def fG (n:Node) (k:Int) (m:Msg):Actn :=
 if n.phase=0 then⟨lT n,[]⟩ else if ¬ m.gen=n.man.gen then⟨lT n,[]⟩ else if dI n.bld.hav m.i=true then⟨n,[]⟩
 else if lU n.man n.bld m.i m.b=false then⟨lT n,[]⟩ else jI { n with bld:=fF n.man n.bld m.i m.b } k m.i
theorem aMq (m:Man) (x:Bld) (i:Int) (b:aD):(fF m x i b).buf.length=x.buf.length:=by
 unfold fF
 split
 ·rename_i h
  obtain⟨n,hn,rfl,h40,_,_,hs,hin,hsum,h6,hsp,hat,hfit⟩:=aPv h
  unfold aAD
  rw[Int.toNat_natCast]
  exact aMj (by omega)
 ·rfl
theorem aE2 {n:Node} {i:Int} {b:aD} (hn:n.limk):({ n with bld:=fF n.man n.bld i b }:Node).limk:=⟨hn.1,by show(fF n.man n.bld i b).buf.length≤_;rw[aMq];exact hn.2.1,hn.2.2⟩
theorem lV {n:Node} {B:Nat} (hn:n.lim B):(lT n).lim B:=⟨hn.1,hn.2.1,hn.2.2⟩
theorem aKn (n:Node) (k:Int) (m:Msg) (hn:n.limk) (_:m.lim 1048576):(fG n k m).lim 4194304:=by
 have hn':=hn.l4
 have hz:uM (fun B=>Pkt.lim B) 4194304 ([]:List Pkt):=⟨Nat.zero_le _,fun _ h=>by cases h⟩
 unfold fG
 split
 ·exact⟨lV hn',hz⟩
 ·split
  ·exact⟨lV hn',hz⟩
  ·split
   ·exact⟨hn',hz⟩
   ·split
    ·exact⟨lV hn',hz⟩
    ·exact aMp _ k m.i (aE2 hn)
theorem aJE {E:aP} (J:Sys E) (x:Node) (h0:x.lim 8388608):E 212 [gv (x.cs aG)]=some ([gv (x.cs bS)],[]):=dJ J x h0
theorem aJF {E:aP} (J:Sys E) (x:Node) (h0:x.lim 8388608):E 215 [gv (x.cs aG)]=some ([gv (x.cs bS)],[]):=cX J x h0
theorem aRW {E:aP} (J:Sys E) (x:Node) (h0:x.lim 8388608):E 417 [gv (x.cs aG)]=some ([gv ((lT x).cs bS)],[]):=oA J x h0
theorem aRX {E:aP} (J:Sys E) (x:Node) (h0:x.lim 8388608):E 215 [gv (x.cs aG)]=some ([gv (x.cs bS)],[]):=cX J x h0
theorem aHy {E:aP} (J:Sys E) (n:Node) (k:Int) (m:Msg) (hn:n.limk) (hm:m.lim 1048576):E 416 [gv (n.cs aG),iv k,gv (m.cs aG)]=some ([gv ((fG n k m).cs bS true)],[]):=by
 have c0:=aJE J n hn.l8
 have c1:=aRW J n hn.l8
 have a1:=dE J n.bld.hav m.i
 have a2:=aHw J n.man n.bld m.i m.b hn.1 hn.2.1 hm.2
 have a3:=aJC J { n with bld:=fF n.man n.bld m.i m.b } k m.i (aE2 hn)
 unfold fG
 by_cases h1:n.phase=0
 ·rw[if_pos h1]
  refine J.run rfl rfl fun W U=>?_
  conv=>lhs;whnf
  repeat'((first|with_reducible apply U.bt (nZ h1)|apply U.t|apply U.f|(apply U.q;exact aC)|apply U.w (c0)|apply U.w (c1)|(apply U.b<;>intro h))<;>conv=>lhs;whnf)
  rfl
 ·rw[if_neg h1]
  by_cases h2:m.gen=n.man.gen
  ·rw[if_neg (fun h=>h h2)]
   cases h3:dI n.bld.hav m.i
   ·rw[h3]at a1
    cases h4:lU n.man n.bld m.i m.b
    ·rw[h4]at a2
     refine J.run rfl rfl fun W U=>?_
     conv=>lhs;whnf
     repeat'((first|with_reducible apply U.bf (dG h1)|with_reducible apply U.bf (qX h2)|apply U.t|apply U.f|(apply U.q;exact aC)|apply U.w (c0)|apply U.w (a1)|apply U.w (a2)|apply U.w (c1)|(apply U.b<;>intro h))<;>conv=>lhs;whnf)
     rfl
    ·rw[h4]at a2
     refine J.run rfl rfl fun W U=>?_
     conv=>lhs;whnf
     repeat'((first|with_reducible apply U.bf (dG h1)|with_reducible apply U.bf (qX h2)|apply U.t|apply U.f|(apply U.q;exact aC)|apply U.w (c0)|apply U.w (a1)|apply U.w (a2)|apply U.w (a3)|(apply U.b<;>intro h))<;>conv=>lhs;whnf)
     rfl
   ·rw[h3]at a1
    refine J.run rfl rfl fun W U=>?_
    conv=>lhs;whnf
    repeat'((first|with_reducible apply U.bf (dG h1)|with_reducible apply U.bf (qX h2)|apply U.t|apply U.f|(apply U.q;exact aC)|apply U.w (c0)|apply U.w (a1)|(apply U.b<;>intro h))<;>conv=>lhs;whnf)
    rfl
  ·rw[if_pos h2]
   refine J.run rfl rfl fun W U=>?_
   conv=>lhs;whnf
   repeat'((first|with_reducible apply U.bf (dG h1)|with_reducible apply U.bt (aKg h2)|apply U.t|apply U.f|(apply U.q;exact aC)|apply U.w (c0)|apply U.w (c1)|(apply U.b<;>intro h))<;>conv=>lhs;whnf)
   rfl
theorem aHz {E:aP} (J:Sys E) (n:Node) (k:Int) (m:Msg) (hn:n.limk) (hm:m.lim 1048576):E 422 [gv (n.cs aG),iv k,gv (m.cs aG)]=some ([gv ((fG n k m).cs bS true)],[]):=by
 have c0:=aJF J n hn.l8
 have c1:=aRX J n hn.l8
 have a1:=eO J n.bld.hav m.i
 have a2:=aHx J n.man n.bld m.i m.b hn.1 hn.2.1 hm.2
 have a3:=aJD J { n with bld:=fF n.man n.bld m.i m.b } k m.i (aE2 hn)
 unfold fG
 by_cases h1:n.phase=0
 ·rw[if_pos h1]
  refine J.run rfl rfl fun W U=>?_
  conv=>lhs;whnf
  repeat'((first|with_reducible apply U.bt (nZ h1)|apply U.t|apply U.f|(apply U.q;exact aC)|apply U.w (c0)|apply U.w (c1)|(apply U.b<;>intro h))<;>conv=>lhs;whnf)
  rfl
 ·rw[if_neg h1]
  by_cases h2:m.gen=n.man.gen
  ·rw[if_neg (fun h=>h h2)]
   cases h3:dI n.bld.hav m.i
   ·rw[h3]at a1
    cases h4:lU n.man n.bld m.i m.b
    ·rw[h4]at a2
     refine J.run rfl rfl fun W U=>?_
     conv=>lhs;whnf
     repeat'((first|with_reducible apply U.bf (dG h1)|with_reducible apply U.bf (qX h2)|apply U.t|apply U.f|(apply U.q;exact aC)|apply U.w (c0)|apply U.w (a1)|apply U.w (a2)|apply U.w (c1)|(apply U.b<;>intro h))<;>conv=>lhs;whnf)
     rfl
    ·rw[h4]at a2
     refine J.run rfl rfl fun W U=>?_
     conv=>lhs;whnf
     repeat'((first|with_reducible apply U.bf (dG h1)|with_reducible apply U.bf (qX h2)|apply U.t|apply U.f|(apply U.q;exact aC)|apply U.w (c0)|apply U.w (a1)|apply U.w (a2)|apply U.w (a3)|(apply U.b<;>intro h))<;>conv=>lhs;whnf)
     rfl
   ·rw[h3]at a1
    refine J.run rfl rfl fun W U=>?_
    conv=>lhs;whnf
    repeat'((first|with_reducible apply U.bf (dG h1)|with_reducible apply U.bf (qX h2)|apply U.t|apply U.f|(apply U.q;exact aC)|apply U.w (c0)|apply U.w (a1)|(apply U.b<;>intro h))<;>conv=>lhs;whnf)
    rfl
  ·rw[if_pos h2]
   refine J.run rfl rfl fun W U=>?_
   conv=>lhs;whnf
   repeat'((first|with_reducible apply U.bf (dG h1)|with_reducible apply U.bt (aKg h2)|apply U.t|apply U.f|(apply U.q;exact aC)|apply U.w (c0)|apply U.w (c1)|(apply U.b<;>intro h))<;>conv=>lhs;whnf)
   rfl
def uE (n:Node):Node:={ n with quiet:=0 }
def gF (n:Node) (k:Int) (d:Disk) (m:Msg):Actn :=
 if m.kind=1 then⟨hY (uE n) d m.man,[]⟩ else if m.kind=3 then fG (uE n) k m else if m.kind=2 then⟨lT (uE n),[]⟩ else⟨uE n,[]⟩
theorem jT {n:Node} (hn:n.limk):(uE n).limk:=⟨hn.1,hn.2.1,hn.2.2⟩
theorem aUz {n:Node} {B:Nat} (hn:n.lim B):(uE n).lim B:=⟨hn.1,hn.2.1,hn.2.2⟩
theorem aKo (n:Node) (k:Int) (d:Disk) (m:Msg) (hn:n.limk) (hd:d.lim 1048576) (hm:m.lim 1048576):(gF n k d m).lim 4194304:=by
 have hz:uM (fun B=>Pkt.lim B) 4194304 ([]:List Pkt):=⟨Nat.zero_le _,fun _ h=>by cases h⟩
 have hn':=aUz hn.l4
 unfold gF
 split
 ·exact⟨aMk _ d m.man (jT hn) hd hm.1,hz⟩
 ·split
  ·exact aKn _ k m (jT hn) hm
  ·split
   ·exact⟨lV hn',hz⟩
   ·exact⟨hn',hz⟩
theorem aHA {E:aP} (J:Sys E) (n:Node) (k:Int) (d:Disk) (m:Msg) (hn:n.limk) (hd:d.lim 1048576) (hm:m.lim 1048576):E 453 [gv (n.cs aG),iv k,gv (d.cs aG true),gv (m.cs aG)]=some ([gv ((gF n k d m).cs bS true)],[]):=by
 have c0:=aJE J n hn.l8
 have a1:=aJp J (uE n) d m.man (jT hn) hd hm.1
 have a2:=aHy J (uE n) k m (jT hn) hm
 unfold gF
 by_cases h1:m.kind=1
 ·rw[if_pos h1]
  refine J.run rfl rfl fun W U=>?_
  conv=>lhs;whnf
  repeat'((first|with_reducible apply U.bt (nZ h1)|apply U.t|apply U.f|(apply U.q;exact aC)|apply U.w (c0)|apply U.w (a1)|(apply U.b<;>intro h))<;>conv=>lhs;whnf)
  rfl
 ·rw[if_neg h1]
  by_cases h2:m.kind=3
  ·rw[if_pos h2]
   refine J.run rfl rfl fun W U=>?_
   conv=>lhs;whnf
   repeat'((first|with_reducible apply U.bf (dG h1)|with_reducible apply U.bt (nZ h2)|apply U.t|apply U.f|(apply U.q;exact aC)|apply U.w (c0)|apply U.w (a2)|(apply U.b<;>intro h))<;>conv=>lhs;whnf)
   rfl
  ·rw[if_neg h2]
   by_cases h3:m.kind=2
   ·rw[if_pos h3]
    refine J.run rfl rfl fun W U=>?_
    conv=>lhs;whnf
    repeat'((first|with_reducible apply U.bf (dG h1)|with_reducible apply U.bf (dG h2)|with_reducible apply U.bt (nZ h3)|apply U.t|apply U.f|(apply U.q;exact aC)|apply U.w (c0)|(apply U.b<;>intro h))<;>conv=>lhs;whnf)
    rfl
   ·rw[if_neg h3]
    refine J.run rfl rfl fun W U=>?_
    conv=>lhs;whnf
    repeat'((first|with_reducible apply U.bf (dG h1)|with_reducible apply U.bf (dG h2)|with_reducible apply U.bf (dG h3)|apply U.t|apply U.f|(apply U.q;exact aC)|apply U.w (c0)|(apply U.b<;>intro h))<;>conv=>lhs;whnf)
    rfl
theorem aHB {E:aP} (J:Sys E) (n:Node) (k:Int) (d:Disk) (m:Msg) (hn:n.limk) (hd:d.lim 1048576) (hm:m.lim 1048576):E 456 [gv (n.cs aG),iv k,gv (d.cs aG true),gv (m.cs aG)]=some ([gv ((gF n k d m).cs bS true)],[]):=by
 have c0:=aJF J n hn.l8
 have a1:=aJq J (uE n) d m.man (jT hn) hd hm.1
 have a2:=aHz J (uE n) k m (jT hn) hm
 unfold gF
 by_cases h1:m.kind=1
 ·rw[if_pos h1]
  refine J.run rfl rfl fun W U=>?_
  conv=>lhs;whnf
  repeat'((first|with_reducible apply U.bt (nZ h1)|apply U.t|apply U.f|(apply U.q;exact aC)|apply U.w (c0)|apply U.w (a1)|(apply U.b<;>intro h))<;>conv=>lhs;whnf)
  rfl
 ·rw[if_neg h1]
  by_cases h2:m.kind=3
  ·rw[if_pos h2]
   refine J.run rfl rfl fun W U=>?_
   conv=>lhs;whnf
   repeat'((first|with_reducible apply U.bf (dG h1)|with_reducible apply U.bt (nZ h2)|apply U.t|apply U.f|(apply U.q;exact aC)|apply U.w (c0)|apply U.w (a2)|(apply U.b<;>intro h))<;>conv=>lhs;whnf)
   rfl
  ·rw[if_neg h2]
   by_cases h3:m.kind=2
   ·rw[if_pos h3]
    refine J.run rfl rfl fun W U=>?_
    conv=>lhs;whnf
    repeat'((first|with_reducible apply U.bf (dG h1)|with_reducible apply U.bf (dG h2)|with_reducible apply U.bt (nZ h3)|apply U.t|apply U.f|(apply U.q;exact aC)|apply U.w (c0)|(apply U.b<;>intro h))<;>conv=>lhs;whnf)
    rfl
   ·rw[if_neg h3]
    refine J.run rfl rfl fun W U=>?_
    conv=>lhs;whnf
    repeat'((first|with_reducible apply U.bf (dG h1)|with_reducible apply U.bf (dG h2)|with_reducible apply U.bf (dG h3)|apply U.t|apply U.f|(apply U.q;exact aC)|apply U.w (c0)|(apply U.b<;>intro h))<;>conv=>lhs;whnf)
    rfl
def aCr:Nat→Nat→Nat→aD→Option (Nat × Nat × Bool)
 |0,_,_,_=>none
 |_+1,_,_,[]=>none
 |m+1,k,n,x::t=>if x.toNat<128 then some (n+x.toNat*128 ^ k,k+1,decide (k=0)||decide (0<x.toNat)) else aCr m (k+1) (n+(x.toNat%128)*128 ^ k) t
def aH3 (most:Nat) (b:aD) (a:Nat):Option (Nat × Nat × Bool):=aCr most 0 0 (b.drop a)
def rN (o:Option (Nat × Nat × Bool)):Int:=match o with|some p=>p.1|none=>0
def rP (a:Nat) (o:Option (Nat × Nat × Bool)):Int:=match o with|some p=>((a+p.2.1:Nat):Int)|none=>0
def rO (o:Option (Nat × Nat × Bool)):Bool:=match o with|some p=>p.2.2|none=>false
theorem aPA {x:UInt8}:IntKind.i64.wrap (BitVec.ofInt IntKind.i64.bits (IntKind.i64.wrap (x.toNat:Int)) &&& BitVec.ofInt IntKind.i64.bits 127).toNat=((x.toNat%128:Nat):Int):=by
 have hx:x.toNat<256:=x.toNat_lt
 rw[show IntKind.i64.wrap (x.toNat:Int)=(x.toNat:Int) from aK (by omega)]
 rw[BitVec.toNat_and,BitVec.ofInt_natCast,show BitVec.ofInt IntKind.i64.bits 127=BitVec.ofNat IntKind.i64.bits 127 from rfl,BitVec.toNat_ofNat,BitVec.toNat_ofNat]
 rw[Nat.mod_eq_of_lt (show x.toNat<2 ^ IntKind.i64.bits from by simp only[IntKind.bits];omega),Nat.mod_eq_of_lt (show 127<2 ^ IntKind.i64.bits from by decide),Nat.and_two_pow_sub_one_eq_mod x.toNat 7]
 exact aK (by omega)
theorem aMr (k:Nat):(128:Nat) ^ k=2 ^ (7*k):=by rw[Nat.pow_mul]
theorem aLn {k:Nat} (h:k≤7):128 ^ k≤562949953421312:=by
 have:(128:Nat) ^ k≤128 ^ 7:=Nat.pow_le_pow_right (by decide) h
 have e:(128:Nat) ^ 7=562949953421312:=by decide
 omega
theorem sH {n k a:Nat} (hk:k≤7) (hn:n<128 ^ k) (ha:a<128):IntKind.i64.wrap (BitVec.ofInt IntKind.i64.bits (n:Int) ||| BitVec.ofInt IntKind.i64.bits (IntKind.i64.wrap ((a:Int)*2 ^ (min (IntKind.i64.wrap (7*(k:Int))).toNat IntKind.i64.bits)))).toNat=((n+a*128 ^ k:Nat):Int)∧n+a*128 ^ k<128 ^ (k+1):=by
 have h7:=aLn hk
 have hb:n+a*128 ^ k<128 ^ (k+1):=by
  rw[Nat.pow_succ]
  have:a*128 ^ k≤127*128 ^ k:=Nat.mul_le_mul_right _ (by omega)
  omega
 refine⟨?_,hb⟩
 have hm:a*128 ^ k≤127*562949953421312:=Nat.mul_le_mul (by omega) h7
 rw[show IntKind.i64.wrap (7*(k:Int))=((7*k:Nat):Int) from(aK (by omega)).trans (by omega),Int.toNat_natCast,show min (7*k) IntKind.i64.bits=7*k from by simp only[IntKind.bits];omega]
 rw[show(a:Int)*2 ^ (7*k)=((a*128 ^ k:Nat):Int) from by rw[aMr];push_cast;rfl]
 rw[show IntKind.i64.wrap ((a*128 ^ k:Nat):Int)=((a*128 ^ k:Nat):Int) from aK (by omega)]
 rw[BitVec.toNat_or,BitVec.ofInt_natCast,BitVec.ofInt_natCast,BitVec.toNat_ofNat,BitVec.toNat_ofNat]
 rw[Nat.mod_eq_of_lt (show n<2 ^ IntKind.i64.bits from by simp only[IntKind.bits];omega),Nat.mod_eq_of_lt (show a*128 ^ k<2 ^ IntKind.i64.bits from by simp only[IntKind.bits];omega)]
 rw[Nat.or_comm,aMr,Nat.mul_comm a,← Nat.two_pow_add_eq_or_of_lt (by rw[← aMr];exact hn)]
 rw[Nat.add_comm]
 exact aK (by rw[← aMr,Nat.mul_comm];omega)
theorem aJG (x:UInt8):IntKind.i64.wrap (x.toNat:Int)=(x.toNat:Int):=aK (by have:x.toNat<256:=x.toNat_lt;omega)
theorem zJ {E:aP} (J:Sys E) (b:aD) (a most:Nat) (hb:b.length≤1099511627776) (ha:a≤1099511627776) (hm:most≤8):E 332 [sv (aR b),iv a,iv most]=some ([iv (rN (aH3 most b a)),iv (rP a (aH3 most b a)),bv (rO (aH3 most b a))],[]):=by
 refine J.run rfl rfl fun W U=>?_
 conv=>lhs;whnf
 refine U.loop (σ:=Nat × Nat) (γ:=Nat) (fun i s=>(s.sl 13 (v1 (.t (.int .i64 i.1)))).sl 9 (v1 (.t (.int .i64 i.2)))) (fun i k=>i.1=k∧k≤most∧i.2<128 ^ k∧aCr (most-k) k i.2 (b.drop (a+k))=aH3 most b a) (fun k=>most-k) (fun _=>([iv (rN (aH3 most b a)),iv (rP a (aH3 most b a)),bv (rO (aH3 most b a))],[])) (0,0) 0 ?_ ?_ ?_ ?_
 ·intro K
  conv=>lhs;whnf
  conv=>rhs;whnf
  try rfl
 ·exact⟨rfl,by omega,by decide,rfl⟩
 ·rintro kl ⟨k,n⟩ _ ⟨rfl,hk,hn,hs⟩ ih
  simp only at hk hn hs
  conv=>lhs;whnf
  apply U.b<;>intro g1<;>conv=>lhs;whnf
  ·have g1:k<most:=by simpa using g1
   rw[show most-k=(most-(k+1))+1 from by omega]at hs
   rw[bA,show IntKind.i64.wrap ((b.length:Int)-1)=(b.length:Int)-1 from aK (by omega),show IntKind.i64.wrap ((b.length:Int)-1-k)=(b.length:Int)-1-k from aK (by omega)]
   apply U.w (bR J a 0 ((b.length:Int)-1-k))
   conv=>lhs;whnf
   repeat((first|apply U.t|apply U.f|(apply U.q;exact aC));conv=>lhs;whnf)
   apply U.b<;>intro g2<;>conv=>lhs;whnf
   ·have g2:=kY g2
    have hl:b.length≤a+k:=by simp[aS]at g2;omega
    rw[List.drop_eq_nil_of_le hl,aCr]at hs
    rw[← hs]
    rfl
   ·have g2:=bP (hJ g2)
    have hl:a+k<b.length:=by omega
    rw[List.drop_eq_getElem_cons hl,aCr]at hs
    rw[show IntKind.i64.wrap ((a:Int)+(k:Int))=((a+k:Nat):Int) from(aK (by omega)).trans (by omega)]
    repeat((first|apply U.t|apply U.f|(apply U.q;exact aC)|(refine U.w (cC ?_) ?_;omega));conv=>lhs;whnf)
    have hx:(b[a+k]).toNat<256:=(b[a+k]).toNat_lt
    refine U.q (by exact(show(0:Int)≤aXw (7*(k:Int)) from by rw[aK (by omega)];omega)) ?_
    conv=>lhs;whnf
    rw[aPA,(sH (a:=(b[a+k]).toNat%128) (by omega) hn (by omega)).1,aJG]
    apply U.b<;>intro g3<;>conv=>lhs;whnf
    ·have g3:(b[a+k]).toNat<128:=by simp at g3;omega
     rw[if_pos g3]at hs
     rw[Nat.mod_eq_of_lt g3,show IntKind.i64.wrap ((a:Int)+(k:Int))=((a+k:Nat):Int) from(aK (by omega)).trans (by omega),show IntKind.i64.wrap (((a+k:Nat):Int)+1)=((a+(k+1):Nat):Int) from(aK (by omega)).trans (by omega)]
     apply U.b<;>intro g4<;>conv=>lhs;whnf
     ·have k0:k=0:=by simp at g4;omega
      subst k0
      repeat((first|apply U.t|apply U.f|(apply U.q;exact aC));conv=>lhs;whnf)
      rw[← hs]
      rfl
     ·repeat((first|apply U.t|apply U.f|(apply U.q;exact aC));conv=>lhs;whnf)
      rw[← hs,show decide (k=0)=false from by simp at g4 ⊢;omega,Bool.false_or]
      simp only[rN,rP,rO]
      rw[show decide (((b[a+k]).toNat:Int)>0)=decide (0<(b[a+k]).toNat) from decide_eq_decide.mpr (by omega)]
      rfl
    ·have g3:¬ (b[a+k]).toNat<128:=by simp at g3;omega
     rw[if_neg g3]at hs
     refine ih (k+1,n+(b[a+k]).toNat%128*128 ^ k) (k+1) _ ?_ ⟨rfl,by omega,(sH (by omega) hn (by omega)).2,hs⟩ (by omega)
     intro K
     conv=>lhs;whnf
     conv=>rhs;whnf
     try rfl
     rw[show IntKind.i64.wrap ((k:Int)+1)=_ from aL (by omega)]
     try rfl
  ·have:k=most:=by simp at g1;omega
   subst this
   rw[Nat.sub_self,aCr]at hs
   rw[← hs]
   rfl
 ·rfl
def gV (l:aD):Option (Nat × Nat):=match aCr 6 0 0 l with|some (n,c,true)=>if n≤1000000000000 then some (n,c) else none|_=>none
def gS (l:aD):Option (Nat × Nat):=match aCr 8 0 0 l with|some (n,c,true)=>some (n,c)|_=>none
def vN (o:Option (Nat × Nat)):Int:=match o with|some p=>p.1|none=>0
def vP (a:Nat) (o:Option (Nat × Nat)):Int:=match o with|some p=>((a+p.2:Nat):Int)|none=>0
theorem lR {E:aP} (J:Sys E) (b:aD) (a:Nat) (hb:b.length≤1099511627776) (ha:a≤1099511627776):E 330 [sv (aR b),iv a]=some ([iv (vN (gV (b.drop a))),iv (vP a (gV (b.drop a))),bv (gV (b.drop a)).isSome],[]):=by
 have hr:=zJ J b a 6 hb ha (by decide)
 unfold gV
 rw[show aH3 6 b a=aCr 6 0 0 (b.drop a) from rfl]at hr
 cases hd:aCr 6 0 0 (b.drop a) with
 |none =>
  rw[hd]at hr
  refine J.run rfl rfl fun W U=>?_
  conv=>lhs;whnf
  apply U.w (hr)
  conv=>lhs;whnf
  repeat((first|apply U.t|apply U.f|(apply U.q;exact aC)|(refine U.w (cC ?_) ?_;omega));conv=>lhs;whnf)
  rfl
 |some p =>
  obtain⟨n,c,ok⟩:=p
  rw[hd]at hr
  cases ok with
  |false =>
   refine J.run rfl rfl fun W U=>?_
   conv=>lhs;whnf
   apply U.w (hr)
   conv=>lhs;whnf
   repeat((first|apply U.t|apply U.f|(apply U.q;exact aC)|(refine U.w (cC ?_) ?_;omega));conv=>lhs;whnf)
   rfl
  |true =>
   refine J.run rfl rfl fun W U=>?_
   conv=>lhs;whnf
   apply U.w (hr)
   conv=>lhs;whnf
   repeat((first|apply U.t|apply U.f|(apply U.q;exact aC));conv=>lhs;whnf)
   apply U.b<;>intro g1<;>conv=>lhs;whnf
   ·have g1:¬ n≤1000000000000:=by simp[rN]at g1;omega
    rw[show(match (some (n,c,true):Option (Nat × Nat × Bool)) with|some (n,c,true)=>if n≤1000000000000 then some (n,c) else none|_=>none)=none from if_neg g1]
    rfl
   ·have g1:n≤1000000000000:=by simp[rN]at g1;omega
    rw[show(match (some (n,c,true):Option (Nat × Nat × Bool)) with|some (n,c,true)=>if n≤1000000000000 then some (n,c) else none|_=>none)=some (n,c) from if_pos g1]
    rfl
theorem aQr {b:aD} {a:Nat} (h:aH3 6 b a=none):gV (b.drop a)=none:=by unfold gV;rw[show aCr 6 0 0 (b.drop a)=none from h]
theorem aXf {b:aD} {a n c:Nat} {o:Bool} (h:aH3 6 b a=some (n,c,o)) (ho:o=false):gV (b.drop a)=none:=by unfold gV;rw[show aCr 6 0 0 (b.drop a)=_ from h,ho]
theorem aUA {b:aD} {a n c:Nat} {o:Bool} (h:aH3 6 b a=some (n,c,o)) (hn:¬ n≤1000000000000):gV (b.drop a)=none:=by
 unfold gV;rw[show aCr 6 0 0 (b.drop a)=_ from h];cases o
 ·rfl
 ·exact if_neg hn
theorem aQs {b:aD} {a n c:Nat} {o:Bool} (h:aH3 6 b a=some (n,c,o)) (ho:o=true) (hn:n≤1000000000000):gV (b.drop a)=some (n,c):=by
 unfold gV;rw[show aCr 6 0 0 (b.drop a)=_ from h,ho];exact if_pos hn
theorem aHC {E:aP} (J:Sys E) (b:aD) (a:Nat) (hb:b.length≤1099511627776) (ha:a≤1099511627776):E 328 [sv (aR b),iv a]=some ([iv (rN (aH3 8 b a)),iv (rP a (aH3 8 b a)),bv (rO (aH3 8 b a))],[]):=by
 refine J.run rfl rfl fun W U=>?_
 conv=>lhs;whnf
 refine U.loop (σ:=Nat × Nat) (γ:=Nat) (fun i s=>(s.sl 8 (v1 (.t (.int .i64 i.1)))).sl 7 (v1 (.t (.int .i64 i.2)))) (fun i k=>i.1=k∧k≤8∧i.2<128 ^ k∧aCr (8-k) k i.2 (b.drop (a+k))=aH3 8 b a) (fun k=>8-k) (fun _=>([iv (rN (aH3 8 b a)),iv (rP a (aH3 8 b a)),bv (rO (aH3 8 b a))],[])) (0,0) 0 ?_ ?_ ?_ ?_
 ·intro K
  conv=>lhs;whnf
  conv=>rhs;whnf
  try rfl
 ·exact⟨rfl,by omega,by decide,rfl⟩
 ·rintro kl ⟨k,n⟩ _ ⟨rfl,hk,hn,hs⟩ ih
  simp only at hk hn hs
  conv=>lhs;whnf
  apply U.b<;>intro g1<;>conv=>lhs;whnf
  ·have g1:k<8:=by simp at g1;omega
   rw[show 8-k=(8-(k+1))+1 from by omega]at hs
   rw[bA,show IntKind.i64.wrap ((b.length:Int)-k)=(b.length:Int)-k from aK (by omega)]
   apply U.b<;>intro g2<;>conv=>lhs;whnf
   ·have hl:b.length≤a+k:=by simp at g2;omega
    rw[List.drop_eq_nil_of_le hl,aCr]at hs
    rw[← hs]
    rfl
   ·have hl:a+k<b.length:=by simp at g2;omega
    rw[List.drop_eq_getElem_cons hl,aCr]at hs
    rw[show IntKind.i64.wrap ((a:Int)+(k:Int))=((a+k:Nat):Int) from(aK (by omega)).trans (by omega)]
    repeat((first|apply U.t|apply U.f|(apply U.q;exact aC)|(refine U.w (cC ?_) ?_;omega));conv=>lhs;whnf)
    have hx:(b[a+k]).toNat<256:=(b[a+k]).toNat_lt
    refine U.q (by exact(show(0:Int)≤aXw (7*(k:Int)) from by rw[aK (by omega)];omega)) ?_
    conv=>lhs;whnf
    rw[aPA,(sH (a:=(b[a+k]).toNat%128) (by omega) hn (by omega)).1,aJG]
    apply U.b<;>intro g3<;>conv=>lhs;whnf
    ·have g3:(b[a+k]).toNat<128:=by simp at g3;omega
     rw[if_pos g3]at hs
     rw[Nat.mod_eq_of_lt g3,show IntKind.i64.wrap ((a:Int)+(k:Int))=((a+k:Nat):Int) from(aK (by omega)).trans (by omega),show IntKind.i64.wrap (((a+k:Nat):Int)+1)=((a+(k+1):Nat):Int) from(aK (by omega)).trans (by omega)]
     apply U.b<;>intro g4<;>conv=>lhs;whnf
     ·repeat((first|apply U.t|apply U.f|(apply U.q;exact aC));conv=>lhs;whnf)
      rw[← hs,show decide (0<(b[a+k]).toNat)=true from by simp at g4 ⊢;omega,Bool.or_true]
      rfl
     ·repeat((first|apply U.t|apply U.f|(apply U.q;exact aC));conv=>lhs;whnf)
      rw[← hs,show decide (0<(b[a+k]).toNat)=false from by simp at g4 ⊢;omega,Bool.or_false]
      simp only[rN,rP,rO]
      rw[show decide ((k:Int)=0)=decide (k=0) from decide_eq_decide.mpr (by omega)]
      rfl
    ·have g3:¬ (b[a+k]).toNat<128:=by simp at g3;omega
     rw[if_neg g3]at hs
     refine ih (k+1,n+(b[a+k]).toNat%128*128 ^ k) (k+1) _ ?_ ⟨rfl,by omega,(sH (by omega) hn (by omega)).2,hs⟩ (by omega)
     intro K
     conv=>lhs;whnf
     conv=>rhs;whnf
     try rfl
     rw[show IntKind.i64.wrap ((k:Int)+1)=_ from aL (by omega)]
     try rfl
  ·have:k=8:=by simp at g1;omega
   subst this
   rw[Nat.sub_self,aCr]at hs
   rw[← hs]
   rfl
 ·rfl
theorem cN {E:aP} (J:Sys E) (b:aD) (a:Nat) (hb:b.length≤1099511627776) (ha:a≤1099511627776):E 324 [sv (aR b),iv a]=some ([iv (vN (gV (b.drop a))),iv (vP a (gV (b.drop a))),bv (gV (b.drop a)).isSome],[]):=by
 refine J.run rfl rfl fun W U=>?_
 conv=>lhs;whnf
 refine U.loop (σ:=Nat × Nat) (γ:=Nat) (fun i s=>(s.sl 8 (v1 (.t (.int .i64 i.1)))).sl 7 (v1 (.t (.int .i64 i.2)))) (fun i k=>i.1=k∧k≤6∧i.2<128 ^ k∧aCr (6-k) k i.2 (b.drop (a+k))=aH3 6 b a) (fun k=>6-k) (fun _=>([iv (vN (gV (b.drop a))),iv (vP a (gV (b.drop a))),bv (gV (b.drop a)).isSome],[])) (0,0) 0 ?_ ?_ ?_ ?_
 ·intro K
  conv=>lhs;whnf
  conv=>rhs;whnf
  try rfl
 ·exact⟨rfl,by omega,by decide,rfl⟩
 ·rintro kl ⟨k,n⟩ _ ⟨rfl,hk,hn,hs⟩ ih
  simp only at hk hn hs
  conv=>lhs;whnf
  apply U.b<;>intro g1<;>conv=>lhs;whnf
  ·have g1:k<6:=by simp at g1;omega
   rw[show 6-k=(6-(k+1))+1 from by omega]at hs
   repeat((first|apply U.t|apply U.f|(apply U.q;exact aC));conv=>lhs;whnf)
   rw[bA,show IntKind.i64.wrap ((b.length:Int)-k)=(b.length:Int)-k from aK (by omega)]
   apply U.b<;>intro g2<;>conv=>lhs;whnf
   ·have hl:b.length≤a+k:=by simp at g2;omega
    rw[List.drop_eq_nil_of_le hl,aCr]at hs
    rw[aQr hs.symm]
    rfl
   ·have hl:a+k<b.length:=by simp at g2;omega
    rw[List.drop_eq_getElem_cons hl,aCr]at hs
    rw[show IntKind.i64.wrap ((a:Int)+(k:Int))=((a+k:Nat):Int) from(aK (by omega)).trans (by omega)]
    repeat((first|apply U.t|apply U.f|(apply U.q;exact aC)|(refine U.w (cC ?_) ?_;omega));conv=>lhs;whnf)
    have hx:(b[a+k]).toNat<256:=(b[a+k]).toNat_lt
    refine U.q (by exact(show(0:Int)≤aXw (7*(k:Int)) from by rw[aK (by omega)];omega)) ?_
    conv=>lhs;whnf
    rw[aPA,(sH (a:=(b[a+k]).toNat%128) (by omega) hn (by omega)).1,aJG]
    apply U.b<;>intro g3<;>conv=>lhs;whnf
    ·have g3:(b[a+k]).toNat<128:=by simp at g3;omega
     rw[if_pos g3]at hs
     rw[Nat.mod_eq_of_lt g3]
     have hq:n+(b[a+k]).toNat*128 ^ k<562949953421312:=by
      have:=(sH (a:=(b[a+k]).toNat) (by omega) hn g3).2
      have:=aLn (k:=k+1) (by omega)
      omega
     apply U.b<;>intro g4<;>conv=>lhs;whnf
     ·repeat((first|apply U.t|apply U.f|(apply U.q;exact aC));conv=>lhs;whnf)
      apply U.b<;>intro g5<;>conv=>lhs;whnf
      ·repeat((first|apply U.t|apply U.f|(apply U.q;exact aC));conv=>lhs;whnf)
       rw[aXf hs.symm (by simp at g4 g5 ⊢;omega)]
       rfl
      ·repeat((first|apply U.t|apply U.f|(apply U.q;exact aC));conv=>lhs;whnf)
       apply U.b<;>intro g6<;>conv=>lhs;whnf
       ·repeat((first|apply U.t|apply U.f|(apply U.q;exact aC));conv=>lhs;whnf)
        rw[aUA hs.symm (by have g6:=of_decide_eq_true g6;omega)]
        rfl
       ·repeat((first|apply U.t|apply U.f|(apply U.q;exact aC));conv=>lhs;whnf)
        rw[show IntKind.i64.wrap ((a:Int)+(k:Int))=((a+k:Nat):Int) from(aK (by omega)).trans (by omega),show IntKind.i64.wrap (((a+k:Nat):Int)+1)=((a+(k+1):Nat):Int) from(aK (by omega)).trans (by omega),aQs hs.symm (by simp at g4 g5 ⊢;omega) (by have g6:=of_decide_eq_false g6;omega)]
        rfl
     ·repeat((first|apply U.t|apply U.f|(apply U.q;exact aC));conv=>lhs;whnf)
      apply U.b<;>intro g6<;>conv=>lhs;whnf
      ·repeat((first|apply U.t|apply U.f|(apply U.q;exact aC));conv=>lhs;whnf)
       rw[aUA hs.symm (by have g6:=of_decide_eq_true g6;omega)]
       rfl
      ·repeat((first|apply U.t|apply U.f|(apply U.q;exact aC));conv=>lhs;whnf)
       rw[show IntKind.i64.wrap ((a:Int)+(k:Int))=((a+k:Nat):Int) from(aK (by omega)).trans (by omega),show IntKind.i64.wrap (((a+k:Nat):Int)+1)=((a+(k+1):Nat):Int) from(aK (by omega)).trans (by omega),aQs hs.symm (by simp at g4 ⊢;omega) (by have g6:=of_decide_eq_false g6;omega)]
       rfl
    ·have g3:¬ (b[a+k]).toNat<128:=by simp at g3;omega
     rw[if_neg g3]at hs
     refine ih (k+1,n+(b[a+k]).toNat%128*128 ^ k) (k+1) _ ?_ ⟨rfl,by omega,(sH (by omega) hn (by omega)).2,hs⟩ (by omega)
     intro K
     conv=>lhs;whnf
     conv=>rhs;whnf
     try rfl
     rw[show IntKind.i64.wrap ((k:Int)+1)=_ from aL (by omega)]
     try rfl
  ·have:k=6:=by simp at g1;omega
   subst this
   rw[Nat.sub_self,aCr]at hs
   rw[aQr hs.symm]
   rfl
 ·rfl
theorem aUB:∀ {m k n:Nat} {l:aD} {x c:Nat} {o:Bool},aCr m k n l=some (x,c,o)→k<c∧c≤k+m∧c≤k+l.length:=by
 intro m
 induction m with
 |zero=>intro k n l x c o h;cases h
 |succ m ih =>
  intro k n l x c o h
  cases l with
  |nil=>cases h
  |cons y t =>
   simp only[aCr]at h
   split at h
   ·obtain⟨rfl,rfl,rfl⟩:_∧_∧_:=by simpa using h
    simp only[List.length_cons];omega
   ·have:=ih h
    simp only[List.length_cons];omega
theorem pF {b:aD} {a n c:Nat} (h:gV (b.drop a)=some (n,c)):1≤c∧c≤6∧a+c≤b.length∧n≤1000000000000:=by
 unfold gV at h
 split at h
 ·rename_i x y he
  split at h
  ·obtain⟨rfl,rfl⟩:_∧_:=by simpa using h
   have:=aUB he
   simp only[List.length_drop]at this
   omega
  ·cases h
 ·cases h
def aHD:Nat→aD→Nat→List Int→Option (List Int × Nat)
 |0,_,a,acc=>some (acc,a)
 |k+1,b,a,acc=>match gV (b.drop a) with|none=>none|some p=>aHD k b (a+p.2) (acc++[(p.1:Int)])
def aXV (o:Option (List Int × Nat)):List Int:=match o with|some p=>p.1|none=>[]
def aXW (o:Option (List Int × Nat)):Int:=match o with|some p=>(p.2:Int)|none=>0
theorem mJ {E:aP} (J:Sys E) (b:aD) (a k:Nat) (hb:b.length≤1048576) (ha:a≤1048576) (hk:k≤8):E 334 [sv (aR b),iv a,iv k]=some ([ov 1 (bB (aXV (aHD k b a []))),iv (aXW (aHD k b a [])),bv (aHD k b a []).isSome],[]):=by
 refine J.run rfl rfl fun W U=>?_
 conv=>lhs;whnf
 refine U.loop (σ:=Nat × Nat × List Int) (γ:=Nat) (fun i s=>((s.sl 15 (v1 (.t (.int .i64 i.1)))).sl 1 (v1 (.t (.int .i64 i.2.1)))).bl ⟨50900,1, .own,bB i.2.2⟩) (fun i m=>i.1=m∧m≤k∧i.2.1≤1048576∧i.2.2.length≤m∧aHD (k-m) b i.2.1 i.2.2=aHD k b a []) (fun m=>k-m) (fun _=>([ov 1 (bB (aXV (aHD k b a []))),iv (aXW (aHD k b a [])),bv (aHD k b a []).isSome],[])) (0,a,[]) 0 ?_ ?_ ?_ ?_
 ·intro K
  conv=>lhs;whnf
  conv=>rhs;whnf
  try rfl
 ·exact⟨rfl,by omega,ha,by simp,rfl⟩
 ·rintro kl ⟨m,p,acc⟩ _ ⟨rfl,hm,hp,hl,hs⟩ ih
  simp only at hs hm hl hp
  conv=>lhs;whnf
  apply U.b<;>intro h1<;>conv=>lhs;whnf
  ·have h1:m<k:=by simp at h1;omega
   rw[show k-m=(k-(m+1))+1 from by omega,aHD]at hs
   apply U.w (lR J b p (by omega) (by omega))
   conv=>lhs;whnf
   try(apply U.q;exact aC;conv=>lhs;whnf)
   cases hg:gV (b.drop p) with
   |none =>
    rw[hg]at hs
    repeat((first|apply U.t|apply U.f|(apply U.q;exact aC));conv=>lhs;whnf)
    rw[← hs]
    rfl
   |some q =>
    obtain⟨n,c⟩:=q
    rw[hg]at hs
    have hc:=pF hg
    repeat((first|apply U.t|apply U.f|(apply U.q;exact aC));conv=>lhs;whnf)
    refine U.q (by exact⟨by decide,by intro e he;simp at he;subst he;rfl,by simp[bB];omega,by simp[bB];omega⟩) ?_
    conv=>lhs;whnf
    repeat((first|apply U.t|apply U.f|(apply U.q;exact aC));conv=>lhs;whnf)
    refine ih (m+1,p+c,acc++[(n:Int)]) (m+1) _ ?_ ⟨rfl,by omega,by simp only;omega,by simp;omega,hs⟩ (by omega)
    intro K
    conv=>lhs;whnf
    conv=>rhs;whnf
    try rfl
    rw[show IntKind.i64.wrap ((m:Int)+1)=_ from aL (by omega)]
    simp[bB,kQ,vN,vP]
  ·have:m=k:=by simp at h1;omega
   subst this
   rw[Nat.sub_self,aHD]at hs
   rw[← hs]
   rfl
 ·rfl
def gP (b:aD) (a most:Nat):Option (aD × Nat):=match gV (b.drop a) with|none=>none|some q=>if q.1≤most∧q.1+(a+q.2)≤b.length then some ((b.drop (a+q.2)).take q.1,a+q.2+q.1) else none
def aX7 (o:Option (aD × Nat)):aD:=match o with|some p=>p.1|none=>[]
def aX8 (o:Option (aD × Nat)):Int:=match o with|some p=>(p.2:Int)|none=>0
theorem aHE {E:aP} (J:Sys E) (b:aD) (a n:Nat) (h0:b.length≤1048576) (h1:a≤b.length) (h3:¬ a+n≤b.length):E 255 [sv (aR b),iv a,iv n]=some ([ov 1 (aR []),bv false],[]):=by
 have ha:=bR J a 0 b.length
 have hb:=bR J n 0 (b.length-a)
 rw[show aS a 0 b.length=true from by simp[aS];omega]at ha
 rw[show aS n 0 (b.length-a)=false from by simp[aS];omega]at hb
 refine J.run rfl rfl fun W U=>?_
 conv=>lhs;whnf
 rw[bA]
 apply U.w (ha)
 conv=>lhs;whnf
 repeat((first|apply U.t|apply U.f|(apply U.q;exact aC));conv=>lhs;whnf)
 rw[bA]
 rw[show IntKind.i64.wrap ((b.length:Int)-a)=b.length-a from aK (by omega)]
 apply U.w (hb)
 conv=>lhs;whnf
 repeat((first|apply U.t|apply U.f|(apply U.q;exact aC));conv=>lhs;whnf)
 rfl
theorem aJH {E:aP} (J:Sys E) (b:aD) (a most:Nat) (hb:b.length≤1048576) (ha:a≤1048576) (hm:most≤1048576):E 335 [sv (aR b),iv a,iv most]=some ([ov 1 (aR (aX7 (gP b a most))),iv (aX8 (gP b a most)),bv (gP b a most).isSome],[]):=by
 have hr:=lR J b a (by omega) (by omega)
 unfold gP
 cases hg:gV (b.drop a) with
 |none =>
  rw[hg]at hr
  refine J.run rfl rfl fun W U=>?_
  conv=>lhs;whnf
  apply U.w (hr)
  conv=>lhs;whnf
  repeat((first|apply U.t|apply U.f|(apply U.q;exact aC));conv=>lhs;whnf)
  rfl
 |some q =>
  obtain⟨n,c⟩:=q
  rw[hg]at hr
  have hc:=pF hg
  simp only
  refine J.run rfl rfl fun W U=>?_
  conv=>lhs;whnf
  apply U.w (hr)
  conv=>lhs;whnf
  repeat((first|apply U.t|apply U.f|(apply U.q;exact aC));conv=>lhs;whnf)
  apply U.b<;>intro g1<;>conv=>lhs;whnf
  ·have g1:¬ n≤most:=by simp[vN]at g1;omega
   rw[if_neg (by omega)]
   rfl
  ·have g1:n≤most:=by simp[vN]at g1;omega
   by_cases g2:a+c+n≤b.length
   ·apply U.w (aEP J b (a+c:Nat) n (by omega) (by omega) (by omega) (by omega))
    conv=>lhs;whnf
    repeat((first|apply U.t|apply U.f|(apply U.q;exact aC));conv=>lhs;whnf)
    rw[if_pos ⟨g1,by omega⟩,show IntKind.i64.wrap (vP a (some (n,c))+vN (some (n,c)))=((a+c+n:Nat):Int) from by simp only[vP,vN];exact(aK (by omega)).trans (by omega)]
    rfl
   ·apply U.w (aHE J b (a+c) n (by omega) (by omega) (by omega))
    conv=>lhs;whnf
    repeat((first|apply U.t|apply U.f|(apply U.q;exact aC));conv=>lhs;whnf)
    rw[if_neg (by omega)]
    rfl
theorem zK {E:aP} (J:Sys E) (b:aD) (a most:Nat) (hb:b.length≤1048576) (ha:a≤1048576) (hm:most≤1048576):E 327 [sv (aR b),iv a,iv most]=some ([ov 1 (aR (aX7 (gP b a most))),iv (aX8 (gP b a most)),bv (gP b a most).isSome],[]):=by
 have hr:=cN J b a (by omega) (by omega)
 unfold gP
 cases hg:gV (b.drop a) with
 |none =>
  rw[hg]at hr
  refine J.run rfl rfl fun W U=>?_
  conv=>lhs;whnf
  apply U.w (hr)
  conv=>lhs;whnf
  repeat((first|apply U.t|apply U.f|(apply U.q;exact aC));conv=>lhs;whnf)
  rfl
 |some q =>
  obtain⟨n,c⟩:=q
  rw[hg]at hr
  have hc:=pF hg
  simp only
  refine J.run rfl rfl fun W U=>?_
  conv=>lhs;whnf
  apply U.w (hr)
  conv=>lhs;whnf
  repeat((first|apply U.t|apply U.f|(apply U.q;exact aC));conv=>lhs;whnf)
  apply U.b<;>intro g1<;>conv=>lhs;whnf
  ·have g1:¬ n≤most:=by simp[vN]at g1;omega
   repeat((first|apply U.t|apply U.f|(apply U.q;exact aC));conv=>lhs;whnf)
   rw[if_neg (by omega)]
   rfl
  ·have g1:n≤most:=by simp[vN]at g1;omega
   repeat((first|apply U.t|apply U.f|(apply U.q;exact aC));conv=>lhs;whnf)
   rw[bA,show IntKind.i64.wrap ((b.length:Int)-vP a (some (n,c)))=((b.length-(a+c):Nat):Int) from by simp only[vP];exact(aK (by omega)).trans (by omega)]
   apply U.b<;>intro g2<;>conv=>lhs;whnf
   ·have g2:¬ a+c+n≤b.length:=by simp[vN]at g2;omega
    rw[if_neg (by omega)]
    rfl
   ·have g2:a+c+n≤b.length:=by simp[vN]at g2;omega
    rw[if_pos ⟨g1,by omega⟩]
    repeat((first|apply U.t|apply U.f|(apply U.q;exact aC));conv=>lhs;whnf)
    rw[show IntKind.i64.wrap (vP a (some (n,c))+vN (some (n,c)))=((a+c+n:Nat):Int) from by simp only[vP,vN];exact(aK (by omega)).trans (by omega),show vP a (some (n,c))=((a+c:Nat):Int) from rfl]
    repeat((first|apply U.t|apply U.f|(apply U.q;exact aC));conv=>lhs;whnf)
    refine U.q (by exact⟨by omega,by rw[aI];omega,aY b⟩) ?_
    conv=>lhs;whnf
    rw[gJ]
    refine U.q (by exact⟨by decide,aY _,by simp[aI];omega,by simp[aI];omega⟩) ?_
    conv=>lhs;whnf
    rw[show((a+c+n:Nat):Int).toNat-((a+c:Nat):Int).toNat=n from by omega]
    apply U.bt (cF _)
    conv=>lhs;whnf
    rw[show IntKind.i64.wrap (((a+c:Nat):Int)+vN (some (n,c)))=((a+c+n:Nat):Int) from by simp only[vN];exact(aK (by omega)).trans (by omega)]
    rfl
def vQ (a:Nat) (o:Option (Nat × Nat)):Nat:=match o with|some p=>a+p.2|none=>0
theorem aYg (a:Nat) (o:Option (Nat × Nat)):vP a o=(vQ a o:Int):=by cases o<;>rfl
theorem aWt {b:aD} {a:Nat}:vQ a (gV (b.drop a))≤b.length:=by
 cases h:gV (b.drop a) with
 |none=>exact Nat.zero_le _
 |some q=>exact(pF h).2.2.1
theorem aXg {b:aD} {a n c:Nat} (h:gS (b.drop a)=some (n,c)):1≤c∧a+c≤b.length∧aH3 8 b a=some (n,c,true):=by
 unfold gS at h
 split at h
 ·rename_i x y he
  obtain⟨rfl,rfl⟩:_∧_:=by simpa using h
  have:=aUB he
  simp only[List.length_drop]at this
  exact⟨by omega,by omega,he⟩
 ·cases h
theorem aWu {b:aD} {a:Nat} (h:gS (b.drop a)=none):rO (aH3 8 b a)=false:=by
 unfold gS at h
 unfold aH3
 split at h
 ·cases h
 ·rename_i hn
  cases hr:aCr 8 0 0 (b.drop a) with
  |none=>rfl
  |some p =>
   obtain⟨x,c,o⟩:=p
   cases o with
   |false=>rfl
   |true=>exact absurd hr (hn _ _)
def aOg (s:Nat):Sum:=⟨(bC (bO s)).w,s⟩
def aQt:Nat→aD→Nat→List Sum→Option (List Sum × Nat)
 |0,_,a,acc=>some (acc,a)
 |k+1,b,a,acc=>match gS (b.drop a) with|none=>none|some p=>aQt k b (a+p.2) (acc++[aOg p.1])
def aVX:Nat→aD→Nat→List Sum→Option (List Sum × Nat)
 |0,_,a,acc=>some (acc,a)
 |k+1,b,a,acc=>match gS (b.drop a) with|none=>none|some p=>if bU p.1=true then aVX k b (a+p.2) (acc++[bC (bO p.1)]) else none
def aBJ (g s n:Int) (o:Option (List Sum × Nat)):Option (Man × Nat):=match o with|none=>none|some (l,q)=>if aX ⟨g,s,n,l⟩=true then some (⟨g,s,n,l⟩,q) else none
theorem aH4 {g s n:Int} {l:List Sum} {q:Nat} (h:aX ⟨g,s,n,l⟩=true):aBJ g s n (some (l,q))=some (⟨g,s,n,l⟩,q):=if_pos h
theorem aMs {g s n:Int} {l:List Sum} {q:Nat} (h:aX ⟨g,s,n,l⟩=false):aBJ g s n (some (l,q))=none:=if_neg (by rw[h];decide)
def uN (b:aD) (a:Nat):Option (Man × Nat) :=
 match gV (b.drop a) with
 |none=>none
 |some (g,c1)=>match gV (b.drop (a+c1)) with
  |none=>none
  |some (s,c2)=>match gV (b.drop (a+c1+c2)) with
   |none=>none
   |some (n,c3)=>aBJ g s n (aQt (if 0<g then(bK s n).toNat else 0) b (a+c1+c2+c3) [])
def aXX (o:Option (Man × Nat)):Man:=match o with|some p=>p.1|none=>⟨0,0,0,[]⟩
def aXY (o:Option (Man × Nat)):Int:=match o with|some p=>(p.2:Int)|none=>0
theorem aKp {E:aP} (J:Sys E) (b:aD) (a:Nat) (hb:b.length≤1048576) (ha:a≤1048576):E 326 [sv (aR b),iv a]=some ([gv ((aXX (uN b a)).cs bS),iv (aXY (uN b a)),bv (uN b a).isSome],[]):=by
 have r1:=cN J b a (by omega) (by omega)
 have q1:vQ a (gV (b.drop a))≤b.length:=aWt
 have r2:=cN J b (vQ a (gV (b.drop a))) (by omega) (by omega)
 have q2:vQ (vQ a (gV (b.drop a))) (gV (b.drop (vQ a (gV (b.drop a)))))≤b.length:=aWt
 have r3:=cN J b (vQ (vQ a (gV (b.drop a))) (gV (b.drop (vQ a (gV (b.drop a)))))) (by omega) (by omega)
 rw[aYg]at r1 r2 r3
 unfold uN
 cases h1:gV (b.drop a) with
 |none =>
  rw[h1]at r1 r2 r3
  simp only
  refine J.run rfl rfl fun W U=>?_
  conv=>lhs;whnf
  repeat'((first|apply U.t|apply U.f|(apply U.q;exact aC)|apply U.w (r1)|apply U.w (r2)|apply U.w (r3)|(apply U.b<;>intro h))<;>conv=>lhs;whnf)
  rfl
 |some p1 =>
  obtain⟨g,c1⟩:=p1
  have f1:=pF h1
  rw[h1]at r1 r2 r3 q1 q2
  rw[show vQ a (some (g,c1))=a+c1 from rfl]at r1 r2 r3 q2
  simp only
  cases h2:gV (b.drop (a+c1)) with
  |none =>
   rw[h2]at r2 r3
   simp only
   refine J.run rfl rfl fun W U=>?_
   conv=>lhs;whnf
   repeat'((first|apply U.t|apply U.f|(apply U.q;exact aC)|apply U.w (r1)|apply U.w (r2)|apply U.w (r3)|(apply U.b<;>intro h))<;>conv=>lhs;whnf)
   rfl
  |some p2 =>
   obtain⟨s,c2⟩:=p2
   have f2:=pF h2
   rw[h2]at r2 r3 q2
   rw[show vQ (a+c1) (some (s,c2))=a+c1+c2 from rfl]at r2 r3
   simp only
   cases h3:gV (b.drop (a+c1+c2)) with
   |none =>
    rw[h3]at r3
    simp only
    refine J.run rfl rfl fun W U=>?_
    conv=>lhs;whnf
    repeat'((first|apply U.t|apply U.f|(apply U.q;exact aC)|apply U.w (r1)|apply U.w (r2)|apply U.w (r3)|(apply U.b<;>intro h))<;>conv=>lhs;whnf)
    rfl
   |some p3 =>
    obtain⟨n,c3⟩:=p3
    have f3:=pF h3
    rw[h3]at r3
    rw[show vQ (a+c1+c2) (some (n,c3))=a+c1+c2+c3 from rfl]at r3
    simp only
    have hB:=mX (s:Int) (n:Int)
    obtain⟨nb,hnb⟩:∃ nb:Nat,bK (s:Int) (n:Int)=nb:=⟨(bK (s:Int) (n:Int)).toNat,by omega⟩
    rw[hnb,Int.toNat_natCast]
    refine J.run rfl rfl fun W U=>?_
    conv=>lhs;whnf
    repeat'((first|apply U.t|apply U.f|(apply U.q;exact aC)|apply U.w (r1)|apply U.w (r2)|apply U.w (r3)|(apply U.b<;>intro h))<;>conv=>lhs;whnf)
    obtain⟨K,hK⟩:∃ K:Nat,K=if 0<g then nb else 0:=⟨_,rfl⟩
    rw[← hK]
    have hK40:K≤40:=by rw[hK];split<;>omega
    have fv:vN (some (g,c1))=(g:Int):=rfl
    have fs:vN (some (s,c2))=(s:Int):=rfl
    have fn:vN (some (n,c3))=(n:Int):=rfl
    rw[fv,fs,fn]
    generalize hR:aBJ g s n (aQt K b (a+c1+c2+c3) [])=R
    refine U.loop (σ:=Nat × Nat × List Sum) (γ:=Nat) (fun i s'=>(((s'.sl 18 (v1 (.t (.int .i64 i.1)))).sl 15 (v1 (.t (.int .i64 i.2.1)))).sl 17 (.box true [.t (.int .i64 g), .t (.int .i64 s), .t (.int .i64 n), .blk 51703])).bl ⟨51703,2, .own,i.2.2.map Sum.row⟩) (fun i m=>i.1=m∧m≤K∧i.2.1≤1048576∧i.2.2.length≤m∧aBJ g s n (aQt (K-m) b i.2.1 i.2.2)=R) (fun m=>K-m) (fun _=>([gv ((aXX R).cs bS),iv (aXY R),bv R.isSome],[])) (0,a+c1+c2+c3,[]) 0 ?_ ?_ ?_ ?_
    ·intro K
     conv=>lhs;whnf
     conv=>rhs;whnf
     try rfl
    ·exact⟨rfl,by omega,by simp only;omega,by simp,hR⟩
    ·rintro kl ⟨m,p,acc⟩ _ ⟨rfl,hm,hp,hl,hs⟩ ih
     simp only at hs hm hl hp
     conv=>lhs;whnf
     apply U.w ((jF J s n))
     conv=>lhs;whnf
     try(apply U.q;exact aC;conv=>lhs;whnf)
     rw[hnb]
     apply U.b<;>intro g1<;>conv=>lhs;whnf
     ·have g1:m<nb:=by simp at g1;omega
      repeat((first|apply U.t|apply U.f|(apply U.q;exact aC));conv=>lhs;whnf)
      apply U.b<;>intro g2<;>conv=>lhs;whnf
      ·have g2:0<g:=by simp at g2;omega
       rw[if_pos g2]at hK
       rw[show K-m=(K-(m+1))+1 from by omega,aQt]at hs
       have rg:=aHC J b p (by omega) (by omega)
       cases hg:gS (b.drop p) with
       |none =>
        rw[hg]at hs
        rw[aWu hg]at rg
        apply U.w (rg)
        conv=>lhs;whnf
        repeat((first|apply U.t|apply U.f|(apply U.q;exact aC));conv=>lhs;whnf)
        rw[← hs]
        rfl
       |some q =>
        obtain⟨x,c⟩:=q
        rw[hg]at hs
        have hc:=aXg hg
        rw[hc.2.2]at rg
        apply U.w (rg)
        conv=>lhs;whnf
        repeat((first|apply U.t|apply U.f|(apply U.q;exact aC));conv=>lhs;whnf)
        apply U.w (nV J x)
        conv=>lhs;whnf
        repeat((first|apply U.t|apply U.f|(apply U.q;exact aC));conv=>lhs;whnf)
        apply U.w (eP J (bO x) (Nat.le_trans (jR x) (by decide)))
        conv=>lhs;whnf
        repeat((first|apply U.t|apply U.f|(apply U.q;exact aC));conv=>lhs;whnf)
        refine U.q (by exact⟨by decide,by intro e he;simp at he;subst he;rfl,by simp;omega,by simp;omega⟩) ?_
        conv=>lhs;whnf
        repeat((first|apply U.t|apply U.f|(apply U.q;exact aC));conv=>lhs;whnf)
        refine ih (m+1,p+c,acc++[aOg x]) (m+1) _ ?_ ⟨rfl,by omega,by simp only;omega,by simp;omega,hs⟩ (by omega)
        intro K
        conv=>lhs;whnf
        conv=>rhs;whnf
        try rfl
        rw[show IntKind.i64.wrap ((m:Int)+1)=_ from aL (by omega)]
        rw[List.map_append]
        rfl
      ·have g2:¬ 0<g:=by simp at g2;omega
       rw[if_neg g2]at hK
       have:m=K:=by omega
       subst this
       rw[Nat.sub_self,aQt]at hs
       have rm:=dW J ⟨g,s,n,acc⟩ (by simp only;omega)
       cases hok:aX ⟨g,s,n,acc⟩ with
       |true =>
        rw[hok]at rm
        rw[aH4 hok]at hs
        apply U.w (rm)
        conv=>lhs;whnf
        repeat((first|apply U.t|apply U.f|(apply U.q;exact aC));conv=>lhs;whnf)
        rw[← hs]
        rfl
       |false =>
        rw[hok]at rm
        rw[aMs hok]at hs
        apply U.w (rm)
        conv=>lhs;whnf
        repeat((first|apply U.t|apply U.f|(apply U.q;exact aC));conv=>lhs;whnf)
        rw[← hs]
        rfl
     ·have g1:¬ m<nb:=by simp at g1;omega
      have:m=K:=by
       have:K≤nb:=by rw[hK];split<;>omega
       omega
      subst this
      rw[Nat.sub_self,aQt]at hs
      repeat((first|apply U.t|apply U.f|(apply U.q;exact aC));conv=>lhs;whnf)
      have rm:=dW J ⟨g,s,n,acc⟩ (by simp only;omega)
      cases hok:aX ⟨g,s,n,acc⟩ with
      |true =>
       rw[hok]at rm
       rw[aH4 hok]at hs
       apply U.w (rm)
       conv=>lhs;whnf
       repeat((first|apply U.t|apply U.f|(apply U.q;exact aC));conv=>lhs;whnf)
       rw[← hs]
       rfl
      |false =>
       rw[hok]at rm
       rw[aMs hok]at hs
       apply U.w (rm)
       conv=>lhs;whnf
       repeat((first|apply U.t|apply U.f|(apply U.q;exact aC));conv=>lhs;whnf)
       rw[← hs]
       rfl
    ·rfl
def aHF (b:aD) (a:Nat):Option (Man × Nat) :=
 match gV (b.drop a) with
 |none=>none
 |some (g,c1)=>match gV (b.drop (a+c1)) with
  |none=>none
  |some (s,c2)=>match gV (b.drop (a+c1+c2)) with
   |none=>none
   |some (n,c3)=>aBJ g s n (aVX (bK s n).toNat b (a+c1+c2+c3) [])
end Tev
