/- What the functions compute, one contract each. -/
import Derived.Test.YtaoogeodghhnkaaGreatIgnoredCt2
set_option linter.unusedSimpArgs false
set_option linter.unusedVariables false
namespace Tev
open Go
set_option maxRecDepth 50000
set_option maxHeartbeats 20000000
theorem mY {E:Env} (hE:Sys E) (m:Man) (x:Bld) (i:Int) (hm:m.sums.length≤1048576) (hx:x.buf.length≤1048576):E 425 [gv (m.cs aL),gv (x.cs aL),iv i]=some ([ov 1 (bys (eZ m x i)),bv (dG m x i)],[]):=by
 have a1:=mW hE m x hm hx
 have a2:=dA hE x.hav i
 unfold eZ
 cases h:dG m x i
 ·have h':=h
  unfold dG at h'
  rw[Bool.and_eq_false_iff]at h'
  cases h1:cX m x
  ·rw[h1]at a1
   refine hE.run rfl rfl fun W hW=>?_
   conv=>lhs;whnf
   repeat'((first|apply hW.t|apply hW.f|(apply hW.q;exact rqc)|apply hW.w (a1)|(apply hW.b<;>intro h))<;>conv=>lhs;whnf)
   rfl
  ·have h2:dI x.hav i=false:=by rcases h' with h'|h';(rw[h1]at h';cases h');exact h'
   rw[h1]at a1
   rw[h2]at a2
   refine hE.run rfl rfl fun W hW=>?_
   conv=>lhs;whnf
   repeat'((first|apply hW.t|apply hW.f|(apply hW.q;exact rqc)|apply hW.w (a1)|apply hW.w (a2)|(apply hW.b<;>intro h))<;>conv=>lhs;whnf)
   rfl
 ·obtain⟨n,rfl,h1,h2,h3,h4,h5⟩:=aEf h
  have h':=h
  unfold dG at h'
  simp only[Bool.and_eq_true]at h'
  rw[h'.1]at a1
  rw[h'.2]at a2
  have hs:=jH (size:=m.size) (n:=m.len) (i:=n)
  obtain⟨a,ha⟩:∃ a:Nat,bE m.size m.len n=a:=⟨(bE m.size m.len n).toNat,by omega⟩
  obtain⟨w,hw⟩:∃ w:Nat,aS m.size m.len n=w:=⟨(aS m.size m.len n).toNat,by omega⟩
  have hk:=aHf (m:=m) (x:=x) (n:=n) h3
  rw[ha,hw,Int.toNat_natCast,Int.toNat_natCast]at hk
  refine hE.run rfl rfl fun W hW=>?_
  conv=>lhs;whnf
  apply hW.w (a1)
  conv=>lhs;whnf
  repeat((first|apply hW.t|apply hW.f|(apply hW.q;exact rqc));conv=>lhs;whnf)
  apply hW.w (a2)
  conv=>lhs;whnf
  repeat((first|apply hW.t|apply hW.f|(apply hW.q;exact rqc));conv=>lhs;whnf)
  apply hW.w (lJ hE m x n a w ha hw (by omega) hx)
  conv=>lhs;whnf
  repeat((first|apply hW.t|apply hW.f|(apply hW.q;exact rqc));conv=>lhs;whnf)
  rw[eU,← hk]
  apply hW.w (cF hE (mO x.buf m.size n) (by have:=lY x.buf m.size n;omega))
  conv=>lhs;whnf
  repeat((first|apply hW.t|apply hW.f|(apply hW.q;exact rqc));conv=>lhs;whnf)
  rfl
def fJ (gen i:Int) (b:aE):Msg:=⟨3,gen,⟨0,0,0,[]⟩,0,0,i,b⟩
theorem mZ {E:Env} (hE:Sys E) (gen i:Int) (b:aE) (hb:b.length≤1073741824):E 421 [iv gen,iv i,sv (bys b)]=some ([gv ((fJ gen i b).cs dY)],[]):=by
 refine hE.run rfl rfl fun W hW=>?_
 conv=>lhs;whnf
 repeat((first|apply hW.t|apply hW.f|(apply hW.q;exact rqc));conv=>lhs;whnf)
 refine hW.q (by exact⟨by decide,bA _,by simp[bys];omega,by simp[bys];omega⟩) ?_
 conv=>lhs;whnf
 apply hW.bt (cW _)
 conv=>lhs;whnf
 repeat((first|apply hW.t|apply hW.f|(apply hW.q;exact rqc));conv=>lhs;whnf)
 rfl
theorem nA {E:Env} (hE:Sys E) (gen i:Int) (b:aE) (hb:b.length≤1073741824):E 426 [iv gen,iv i,sv (bys b)]=some ([gv ((fJ gen i b).cs dY)],[]):=by
 refine hE.run rfl rfl fun W hW=>?_
 conv=>lhs;whnf
 apply hW.w (cF hE b (by omega))
 conv=>lhs;whnf
 repeat((first|apply hW.t|apply hW.f|(apply hW.q;exact rqc));conv=>lhs;whnf)
 rfl
def zS (n:Node) (k id i:Int):List Pkt:=if dG n.man n.bld i=true then[eD k id (fJ n.man.gen i (eZ n.man n.bld i))] else[]
def pR (n:Node) (k id:Int) (l:List Int):List Pkt:=l.flatMap (zS n k id)
def eW (n:Node) (id:Int):Int:=iE n.kids id n.bld.hav
def cP (n:Node) (k id:Int):Actn:=⟨{ n with kids:=cT n.kids id (eW n id) },pR n k id (dL (eW n id))⟩
theorem nB {E:Env} (hE:Sys E) (n:Node):E 71 [gv (n.cs aL)]=some ([iv (aGW n)],[]):=by
 refine hE.run rfl rfl fun W hW=>?_
 conv=>lhs;whnf
 rfl
theorem nC {E:Env} (hE:Sys E) (n:Node):E 72 [gv (n.cs aL)]=some ([iv (aGW n)],[]):=by
 refine hE.run rfl rfl fun W hW=>?_
 conv=>lhs;whnf
 rfl
theorem eJ (m:Man) (x:Bld) (i:Int):(eZ m x i).length≤x.buf.length:=by
 unfold eZ
 split
 ·exact lY x.buf m.size i
 ·exact Nat.zero_le _
theorem aFm (n:Node) (k id i:Int):(zS n k id i).length≤1:=by
 unfold zS;split<;>simp
theorem aHg (n:Node) (k id:Int) (l:List Int):(pR n k id l).length≤l.length:=by
 unfold pR
 induction l with
 |nil=>simp
 |cons a r ih =>
  have:=aFm n k id a
  simp only[List.flatMap_cons,List.length_append,List.length_cons];omega
theorem aHh (n:Node) (k id:Int) (l:List Int):∀ x∈pR n k id l,x.lim 4194304:=by
 intro x hx
 obtain⟨i,_,hx⟩:=List.mem_flatMap.mp hx
 unfold zS at hx
 split at hx
 ·rw[List.mem_singleton.mp hx]
  exact Nat.le_trans (nT _) (by decide)
 ·cases hx
theorem xX (n:Node) (k id:Int) (hn:n.limk):(cP n k id).lim 4194304:=by
 have hn':=hn.l4
 refine⟨⟨hn'.1,hn'.2.1,by show(cT _ _ _).length≤_;rw[gF];exact hn.2.2⟩,?_,aHh _ _ _ _⟩
 exact Nat.le_trans (aHg _ _ _ _) (Nat.le_trans lC (by decide))
theorem sR {E:Env} (hE:Sys E) (n:Node) (k id:Int) (hn:n.limk):E 430 [gv (n.cs aL),iv k,iv id]=some ([gv ((cP n k id).cs dY true)],[]):=by
 have hp:=lC (s:=eW n id)
 have hrl:(bZ (dL (eW n id))).length=(dL (eW n id)).length:=List.length_map _
 have hrk:(n.kids.map Kid.row).length=n.kids.length:=List.length_map _
 refine hE.run rfl rfl fun W hW=>?_
 conv=>lhs;whnf
 apply hW.w (cV hE n hn.l8)
 conv=>lhs;whnf
 repeat((first|apply hW.t|apply hW.f|(apply hW.q;exact rqc));conv=>lhs;whnf)
 apply hW.w (nB hE n)
 conv=>lhs;whnf
 repeat((first|apply hW.t|apply hW.f|(apply hW.q;exact rqc));conv=>lhs;whnf)
 apply hW.w (pP hE n.kids id n.bld.hav (Nat.le_trans hn.2.2 (by decide)))
 conv=>lhs;whnf
 repeat((first|apply hW.t|apply hW.f|(apply hW.q;exact rqc));conv=>lhs;whnf)
 apply hW.w (xW hE (eW n id))
 conv=>lhs;whnf
 repeat((first|apply hW.t|apply hW.f|(apply hW.q;exact rqc));conv=>lhs;whnf)
 generalize hP:dL (eW n id)=l at hp hrl
 refine hW.loop (σ:=Nat × List Pkt) (γ:=Nat) (fun i s=>(s.sl 10 (v1 (.t (.int .i64 i.1)))).bl ⟨50712,3, .own,i.2.map (Pkt.row true)⟩) (fun i m=>i.1=m∧m≤l.length∧i.2.length≤m∧i.2++pR n k id (l.drop m)=pR n k id l) (fun m=>l.length-m) (fun _=>([gv ((cP n k id).cs dY true)],[])) (0,[]) 0 ?_ ?_ ?_ ?_
 ·intro K
  conv=>lhs;whnf
  conv=>rhs;whnf
  try rfl
 ·exact⟨rfl,by omega,by simp,rfl⟩
 ·rintro kl ⟨m,acc⟩ _ ⟨rfl,hm,hl,hs⟩ ih
  simp only at hs hm hl
  conv=>lhs;whnf
  apply hW.b<;>intro h1<;>conv=>lhs;whnf
  ·have h1:m<l.length:=by simpa[hrl] using h1
   rw[List.drop_eq_getElem_cons h1,pR,List.flatMap_cons,zS]at hs
   repeat((first|apply hW.t|apply hW.f|(apply hW.q;exact rqc)|(refine hW.w (cA ?_) ?_;omega));conv=>lhs;whnf)
   apply hW.w (mX hE n.man n.bld l[m] hn.1 hn.2.1)
   conv=>lhs;whnf
   repeat((first|apply hW.t|apply hW.f|(apply hW.q;exact rqc));conv=>lhs;whnf)
   apply hW.b<;>intro h3<;>conv=>lhs;whnf
   ·rw[if_pos h3]at hs
    repeat((first|apply hW.t|apply hW.f|(apply hW.q;exact rqc)|(refine hW.w (cA ?_) ?_;omega));conv=>lhs;whnf)
    apply hW.w (mZ hE n.man.gen l[m] (eZ n.man n.bld l[m]) (Nat.le_trans (eJ _ _ _) (Nat.le_trans hn.2.1 (by decide))))
    conv=>lhs;whnf
    repeat((first|apply hW.t|apply hW.f|(apply hW.q;exact rqc));conv=>lhs;whnf)
    apply hW.w (dQ hE k id (fJ n.man.gen l[m] (eZ n.man n.bld l[m])) ⟨Nat.zero_le _,Nat.le_trans (eJ _ _ _) hn.2.1⟩)
    conv=>lhs;whnf
    repeat((first|apply hW.t|apply hW.f|(apply hW.q;exact rqc));conv=>lhs;whnf)
    refine hW.q (by exact⟨by decide,by intro e he;simp at he;subst he;rfl,by simp;omega,by simp;omega⟩) ?_
    conv=>lhs;whnf
    repeat((first|apply hW.t|apply hW.f|(apply hW.q;exact rqc));conv=>lhs;whnf)
    refine ih (m+1,acc++[eD k id (fJ n.man.gen l[m] (eZ n.man n.bld l[m]))]) (m+1) _ ?_ ⟨rfl,by omega,by simp;omega,by rw[List.append_assoc];exact hs⟩ (by omega)
    intro K
    conv=>lhs;whnf
    conv=>rhs;whnf
    try rfl
    rw[show IntKind.i64.wrap ((m:Int)+1)=_ from aI (by omega)]
    rw[List.map_append]
    rfl
   ·rw[if_neg (by rw[h3];decide)]at hs
    repeat((first|apply hW.t|apply hW.f|(apply hW.q;exact rqc));conv=>lhs;whnf)
    refine ih (m+1,acc) (m+1) _ ?_ ⟨rfl,by omega,by simp only;omega,hs⟩ (by omega)
    intro K
    conv=>lhs;whnf
    conv=>rhs;whnf
    try rfl
    rw[show IntKind.i64.wrap ((m:Int)+1)=_ from aI (by omega)]
    try rfl
  ·have:m=l.length:=by simp[hrl]at h1;omega
   subst this
   simp only[List.drop_length,pR,List.flatMap_nil,List.append_nil]at hs
   repeat((first|apply hW.t|apply hW.f|(apply hW.q;exact rqc));conv=>lhs;whnf)
   apply hW.w (kV hE n.kids id (eW n id) hn.2.2)
   conv=>lhs;whnf
   repeat((first|apply hW.t|apply hW.f|(apply hW.q;exact rqc));conv=>lhs;whnf)
   unfold cP
   rw[hP,pR,← hs]
   rfl
 ·rfl
theorem sS {E:Env} (hE:Sys E) (n:Node) (k id:Int) (hn:n.limk):E 431 [gv (n.cs aL),iv k,iv id]=some ([gv ((cP n k id).cs dY true)],[]):=by
 have hp:=lC (s:=eW n id)
 have hrl:(bZ (dL (eW n id))).length=(dL (eW n id)).length:=List.length_map _
 have hrk:(n.kids.map Kid.row).length=n.kids.length:=List.length_map _
 refine hE.run rfl rfl fun W hW=>?_
 conv=>lhs;whnf
 apply hW.w (cY hE n hn.l8)
 conv=>lhs;whnf
 repeat((first|apply hW.t|apply hW.f|(apply hW.q;exact rqc));conv=>lhs;whnf)
 apply hW.w (nC hE n)
 conv=>lhs;whnf
 repeat((first|apply hW.t|apply hW.f|(apply hW.q;exact rqc));conv=>lhs;whnf)
 apply hW.w (pQ hE n.kids id n.bld.hav (Nat.le_trans hn.2.2 (by decide)))
 conv=>lhs;whnf
 repeat((first|apply hW.t|apply hW.f|(apply hW.q;exact rqc));conv=>lhs;whnf)
 apply hW.w (xF hE (eW n id))
 conv=>lhs;whnf
 repeat((first|apply hW.t|apply hW.f|(apply hW.q;exact rqc));conv=>lhs;whnf)
 rw[hrl]
 generalize hP:dL (eW n id)=l at hp hrl
 refine hW.loop (σ:=Nat × List Pkt) (γ:=Nat) (fun i s=>(s.sl 25 (v1 (.t (.int .i64 i.1)))).bl ⟨50712,3, .own,i.2.map (Pkt.row true)⟩) (fun i m=>i.1=m∧m≤l.length∧i.2.length≤m∧i.2++pR n k id (l.drop m)=pR n k id l) (fun m=>l.length-m) (fun _=>([gv ((cP n k id).cs dY true)],[])) (0,[]) 0 ?_ ?_ ?_ ?_
 ·intro K
  conv=>lhs;whnf
  conv=>rhs;whnf
  try rfl
 ·exact⟨rfl,by omega,by simp,rfl⟩
 ·rintro kl ⟨m,acc⟩ _ ⟨rfl,hm,hl,hs⟩ ih
  simp only at hs hm hl
  conv=>lhs;whnf
  apply hW.b<;>intro h1<;>conv=>lhs;whnf
  ·have h1:m<l.length:=by simpa using h1
   rw[List.drop_eq_getElem_cons h1,pR,List.flatMap_cons,zS]at hs
   repeat((first|apply hW.t|apply hW.f|(apply hW.q;exact rqc)|(refine hW.w (cA ?_) ?_;omega));conv=>lhs;whnf)
   apply hW.w (mY hE n.man n.bld l[m] hn.1 hn.2.1)
   conv=>lhs;whnf
   repeat((first|apply hW.t|apply hW.f|(apply hW.q;exact rqc));conv=>lhs;whnf)
   apply hW.b<;>intro h3<;>conv=>lhs;whnf
   ·rw[if_pos h3]at hs
    repeat((first|apply hW.t|apply hW.f|(apply hW.q;exact rqc)|(refine hW.w (cA ?_) ?_;omega));conv=>lhs;whnf)
    apply hW.w (nA hE n.man.gen l[m] (eZ n.man n.bld l[m]) (Nat.le_trans (eJ _ _ _) (Nat.le_trans hn.2.1 (by decide))))
    conv=>lhs;whnf
    repeat((first|apply hW.t|apply hW.f|(apply hW.q;exact rqc));conv=>lhs;whnf)
    apply hW.w (dR hE k id (fJ n.man.gen l[m] (eZ n.man n.bld l[m])) ⟨Nat.zero_le _,Nat.le_trans (eJ _ _ _) hn.2.1⟩)
    conv=>lhs;whnf
    repeat((first|apply hW.t|apply hW.f|(apply hW.q;exact rqc));conv=>lhs;whnf)
    refine hW.q (by exact⟨by decide,by intro e he;simp at he;subst he;rfl,by simp;omega,by simp;omega⟩) ?_
    conv=>lhs;whnf
    repeat((first|apply hW.t|apply hW.f|(apply hW.q;exact rqc));conv=>lhs;whnf)
    refine ih (m+1,acc++[eD k id (fJ n.man.gen l[m] (eZ n.man n.bld l[m]))]) (m+1) _ ?_ ⟨rfl,by omega,by simp;omega,by rw[List.append_assoc];exact hs⟩ (by omega)
    intro K
    conv=>lhs;whnf
    conv=>rhs;whnf
    try rfl
    rw[show IntKind.i64.wrap ((m:Int)+1)=_ from aI (by omega)]
    rw[List.map_append]
    rfl
   ·rw[if_neg (by rw[h3];decide)]at hs
    repeat((first|apply hW.t|apply hW.f|(apply hW.q;exact rqc));conv=>lhs;whnf)
    refine ih (m+1,acc) (m+1) _ ?_ ⟨rfl,by omega,by simp only;omega,hs⟩ (by omega)
    intro K
    conv=>lhs;whnf
    conv=>rhs;whnf
    try rfl
    rw[show IntKind.i64.wrap ((m:Int)+1)=_ from aI (by omega)]
    try rfl
  ·have:m=l.length:=by simp at h1;omega
   subst this
   simp only[List.drop_length,pR,List.flatMap_nil,List.append_nil]at hs
   repeat((first|apply hW.t|apply hW.f|(apply hW.q;exact rqc));conv=>lhs;whnf)
   apply hW.w (kW hE n.kids id (eW n id) hn.2.2)
   conv=>lhs;whnf
   repeat((first|apply hW.t|apply hW.f|(apply hW.q;exact rqc));conv=>lhs;whnf)
   unfold cP
   rw[hP,pR,← hs]
   rfl
 ·rfl
theorem aEg {b:aE}:∀ {s:Nat},s*256 ^ b.length≤mN b s:=by
 induction b with
 |nil=>intro s;simp[mN]
 |cons c r ih =>
  intro s
  simp only[mN,List.length_cons]
  refine Nat.le_trans ?_ ih
  rw[Nat.pow_succ,Nat.mul_comm (256 ^ r.length) 256,← Nat.mul_assoc]
  exact Nat.mul_le_mul_right _ (by omega)
theorem aCc {a b:aE} (h:mN a 1=mN b 1):a.length=b.length:=by
 have h1:=aEg (b:=a) (s:=1)
 have h2:=aEg (b:=b) (s:=1)
 have h3:=aC3 (b:=a) (s:=1)
 have h4:=aC3 (b:=b) (s:=1)
 rcases Nat.lt_trichotomy a.length b.length with hl|hl|hl
 ·exfalso
  have:256 ^ (a.length+1)≤256 ^ b.length:=Nat.pow_le_pow_right (by decide) hl
  rw[Nat.pow_succ]at this;omega
 ·exact hl
 ·exfalso
  have:256 ^ (b.length+1)≤256 ^ a.length:=Nat.pow_le_pow_right (by decide) hl
  rw[Nat.pow_succ]at this;omega
theorem aLF {m:Man} {l:List Sum}:∀ {i n:Nat} (h:aEc m i l=true) (hn:n<l.length),aB6 m (i+n) l[n]=true:=by
 induction l with
 |nil=>intro i n _ hn;cases hn
 |cons x r ih =>
  intro i n h hn
  simp only[aEc,Bool.and_eq_true]at h
  cases n with
  |zero=>exact h.1
  |succ n =>
   rw[show i+(n+1)=(i+1)+n from by omega]
   exact ih h.2 (by simpa using hn)
theorem aJw {m:Man} (h:aZ m=true) {n:Nat} (hn:n<m.sums.length):aB6 m n m.sums[n]=true:=by
 unfold aZ at h
 split at h
 ·have h3:m.sums=[]:=by simp[bS]at h;exact h.2.2.2
  rw[h3]at hn;cases hn
 ·simp only[Bool.and_eq_true]at h
  have:=aLF h.2.2.2 hn
  rwa [Nat.zero_add]at this
theorem aHi {m:Man} (h:aZ m=true) {n:Nat} (hn:n<m.sums.length) {b:aE} (hb:bG b=m.sums[n]):(b.length:Int)=aS m.size m.len n∧b.length≤6:=by
 have ha:=aJw h hn
 simp only[aB6,Bool.and_eq_true,decide_eq_true_eq]at ha
 obtain⟨h1,h2,h3⟩:=ha
 have hl:=gK m.sums[n].s
 have hb6:b.length≤6:=by
  rcases Nat.lt_or_ge 6 b.length with h6|h6
  ·exfalso
   unfold bG at hb
   rw[if_pos (by omega)]at hb
   rw[← hb]at h1
   exact absurd h1 (by decide)
  ·exact h6
 have e:=h3.trans hb.symm
 unfold bG at e
 rw[if_neg (by omega),if_neg (by omega)]at e
 have e:=congrArg Sum.s e
 simp only at e
 have e:mN (bN m.sums[n].s) 1=mN b 1:=by omega
 have:=aCc e
 omega
theorem aHj {m:Man} {x:Bld} (h:cX m x=true):aZ m=true∧cN x.hav=true∧(x.buf.length:Int)=m.len:=by
 unfold cX at h
 simp only[Bool.and_eq_true,decide_eq_true_eq]at h
 exact⟨h.1,h.2.1,h.2.2.2.1⟩
def lK (m:Man) (x:Bld) (i:Int) (b:aE):Bool:=cX m x&&(bK i 0 ((m.sums.length:Int)-1)&&(!dI x.hav i&&decide (bG b=m.sums.getD i.toNat ⟨0,0⟩)))
def dS (m:Man) (x:Bld) (i:Int) (b:aE):Bld:=if lK m x i b=true then aFs m x i.toNat b else x
theorem aHk {m:Man} {x:Bld} {i:Int} {b:aE} (h:lK m x i b=true):∃ n:Nat,∃ hn:n<m.sums.length,i=n∧n<40∧cX m x=true∧aZ m=true∧cN x.hav=true∧dI x.hav n=false∧bG b=m.sums[n]∧b.length≤6∧aS m.size m.len n=b.length∧0≤bE m.size m.len n∧bE m.size m.len n+b.length≤x.buf.length:=by
 unfold lK at h
 simp only[Bool.and_eq_true,decide_eq_true_eq,Bool.not_eq_true']at h
 obtain⟨h1,h2,h3,h4⟩:=h
 have h2:=bP h2
 obtain⟨n,rfl⟩:∃ n:Nat,i=n:=⟨i.toNat,by omega⟩
 have hn:n<m.sums.length:=by omega
 obtain⟨hm,hs,hl⟩:=aHj h1
 have hc:=iS hm
 rw[Int.toNat_natCast,List.getD_eq_getElem?_getD,List.getElem?_eq_getElem hn,Option.getD_some]at h4
 have hp:=aHi hm hn h4
 have hsp:=jH (size:=m.size) (n:=m.len) (i:=n)
 refine⟨n,hn,rfl,by omega,h1,hm,hs,h3,h4,hp.2,hp.1.symm,by omega,by omega⟩
theorem aKn {m:Man} {x:Bld} {i:Int} {b:aE} (hb:cX m x=true) (h:lK m x i b=false):bK i 0 ((m.sums.length:Int)-1)=false∨∃ n:Nat,∃ hn:n<m.sums.length,i=n∧(dI x.hav n=true∨dI x.hav n=false∧¬ bG b=m.sums[n]):=by
 unfold lK at h
 rw[hb,Bool.true_and]at h
 cases h2:bK i 0 ((m.sums.length:Int)-1)
 ·exact .inl rfl
 ·right
  rw[h2,Bool.true_and]at h
  have h2:=bP h2
  obtain⟨n,rfl⟩:∃ n:Nat,i=n:=⟨i.toNat,by omega⟩
  have hn:n<m.sums.length:=by omega
  refine⟨n,hn,rfl,?_⟩
  rw[Int.toNat_natCast,List.getD_eq_getElem?_getD,List.getElem?_eq_getElem hn,Option.getD_some]at h
  cases h3:dI x.hav n
  ·rw[h3]at h
   right
   exact⟨rfl,by simpa using h⟩
  ·exact .inl rfl
theorem aAV {E:Env} (hE:Sys E) (m:Man) (x:Bld) (i:Int) (b:aE) (hm:m.sums.length≤1048576) (hb:b.length≤1048576) (h:cX m x=true) (hf:lK m x i b=false):E 369 [gv (m.cs aL), .pt true (x.cs dY),iv i,sv (bys b)]=some ([bv false],x.cs dY):=by
 have hrl:(m.sums.map Sum.row).length=m.sums.length:=List.length_map _
 have a1:=bF hE i 0 ((m.sums.length:Int)-1)
 have a2:=cU hE x.hav i
 have a3:=dO hE b (by omega)
 rcases aKn h hf with h1|⟨n,hn,rfl,h2|⟨h2,h3⟩⟩
 ·rw[h1]at a1
  refine hE.run rfl rfl fun W hW=>?_
  conv=>lhs;whnf
  repeat((first|apply hW.t|apply hW.f|(apply hW.q;exact rqc));conv=>lhs;whnf)
  rw[hrl,show IntKind.i64.wrap ((m.sums.length:Int)-1)=(m.sums.length:Int)-1 from aH (by omega)]
  apply hW.w (a1)
  conv=>lhs;whnf
  repeat((first|apply hW.t|apply hW.f|(apply hW.q;exact rqc));conv=>lhs;whnf)
  rfl
 ·rw[show bK n 0 ((m.sums.length:Int)-1)=true from by simp[bK];omega]at a1
  rw[h2]at a2
  refine hE.run rfl rfl fun W hW=>?_
  conv=>lhs;whnf
  repeat((first|apply hW.t|apply hW.f|(apply hW.q;exact rqc));conv=>lhs;whnf)
  rw[hrl,show IntKind.i64.wrap ((m.sums.length:Int)-1)=(m.sums.length:Int)-1 from aH (by omega)]
  apply hW.w (a1)
  conv=>lhs;whnf
  repeat((first|apply hW.t|apply hW.f|(apply hW.q;exact rqc));conv=>lhs;whnf)
  apply hW.w (a2)
  conv=>lhs;whnf
  repeat((first|apply hW.t|apply hW.f|(apply hW.q;exact rqc));conv=>lhs;whnf)
  rfl
 ·rw[show bK n 0 ((m.sums.length:Int)-1)=true from by simp[bK];omega]at a1
  rw[h2]at a2
  refine hE.run rfl rfl fun W hW=>?_
  conv=>lhs;whnf
  repeat((first|apply hW.t|apply hW.f|(apply hW.q;exact rqc));conv=>lhs;whnf)
  rw[hrl,show IntKind.i64.wrap ((m.sums.length:Int)-1)=(m.sums.length:Int)-1 from aH (by omega)]
  apply hW.w (a1)
  conv=>lhs;whnf
  repeat((first|apply hW.t|apply hW.f|(apply hW.q;exact rqc));conv=>lhs;whnf)
  apply hW.w (a2)
  conv=>lhs;whnf
  repeat((first|apply hW.t|apply hW.f|(apply hW.q;exact rqc));conv=>lhs;whnf)
  repeat((first|apply hW.t|apply hW.f|(apply hW.q;exact rqc)|(refine hW.w (cA ?_) ?_;omega));conv=>lhs;whnf)
  apply hW.w (a3)
  conv=>lhs;whnf
  repeat((first|apply hW.t|apply hW.f|(apply hW.q;exact rqc));conv=>lhs;whnf)
  apply hW.bt (by(revert h3;generalize bG b=y;generalize m.sums[n]=z;cases y;cases z;simp;exact fun h=>Decidable.or_iff_not_imp_left.mpr fun h'=>h (Decidable.not_not.mp h')))
  conv=>lhs;whnf
  repeat((first|apply hW.t|apply hW.f|(apply hW.q;exact rqc));conv=>lhs;whnf)
  rfl
theorem vS {E:Env} (hE:Sys E) (m:Man) (x:Bld) (i:Int) (b:aE) (hm:m.sums.length≤1048576) (hx:x.buf.length≤1048576) (hb:b.length≤1048576):E 418 [gv (m.cs aL),gv (x.cs aL),iv i,sv (bys b)]=some ([gv ((dS m x i b).cs dY),bv (lK m x i b)],[]):=by
 have a0:=pE hE x (by omega)
 have a1:=mT hE m x hm hx
 unfold dS
 cases h1:cX m x
 ·rw[show lK m x i b=false from by unfold lK;rw[h1];rfl]
  rw[h1]at a1
  refine hE.run rfl rfl fun W hW=>?_
  conv=>lhs;whnf
  repeat'((first|apply hW.t|apply hW.f|(apply hW.q;exact rqc)|apply hW.w (a0)|apply hW.w (a1)|(apply hW.b<;>intro h))<;>conv=>lhs;whnf)
  rfl
 ·rw[h1]at a1
  cases h2:lK m x i b
  ·have a2:=aAV hE m x i b hm hb h1 h2
   refine hE.run rfl rfl fun W hW=>?_
   conv=>lhs;whnf
   repeat'((first|apply hW.t|apply hW.f|(apply hW.q;exact rqc)|apply hW.w (a0)|apply hW.w (a1)|apply hW.w (a2)|(apply hW.b<;>intro h))<;>conv=>lhs;whnf)
   rfl
  ·obtain⟨n,hn,rfl,h40,_,_,hs,hin,hsum,h6,hsp,hat,hfit⟩:=aHk h2
   have a2:=rZ hE m x n b hm hn h40 hs hin hsum h6 hat hfit hx
   refine hE.run rfl rfl fun W hW=>?_
   conv=>lhs;whnf
   repeat'((first|apply hW.t|apply hW.f|(apply hW.q;exact rqc)|apply hW.w (a0)|apply hW.w (a1)|apply hW.w (a2)|(apply hW.b<;>intro h))<;>conv=>lhs;whnf)
   rfl
theorem vT {E:Env} (hE:Sys E) (m:Man) (x:Bld) (i:Int) (b:aE) (hm:m.sums.length≤1048576) (hx:x.buf.length≤1048576) (hb:b.length≤1048576):E 423 [gv (m.cs aL),gv (x.cs aL),iv i,sv (bys b)]=some ([gv ((dS m x i b).cs dY),bv (lK m x i b)],[]):=by
 have hrl:(m.sums.map Sum.row).length=m.sums.length:=List.length_map _
 have a0:=jP hE x (by omega)
 have a1:=mW hE m x hm hx
 have a2:=bI hE i 0 ((m.sums.length:Int)-1)
 have a3:=dA hE x.hav i
 have a4:=fR hE b (by omega)
 have hw:IntKind.i64.wrap ((m.sums.length:Int)-1)=(m.sums.length:Int)-1:=aH (by omega)
 unfold dS
 cases h1:cX m x
 ·rw[show lK m x i b=false from by unfold lK;rw[h1];rfl]
  rw[h1]at a1
  refine hE.run rfl rfl fun W hW=>?_
  conv=>lhs;whnf
  repeat'((first|apply hW.t|apply hW.f|(apply hW.q;exact rqc)|apply hW.w (a0)|apply hW.w (a1)|(apply hW.b<;>intro h))<;>conv=>lhs;whnf)
  rfl
 ·rw[h1]at a1
  cases h2:lK m x i b
  ·rcases aKn h1 h2 with h3|⟨n,hn,rfl,h3|⟨h3,h4⟩⟩
   ·rw[h3]at a2
    refine hE.run rfl rfl fun W hW=>?_
    conv=>lhs;whnf
    repeat'((first|apply hW.t|apply hW.f|(apply hW.q;exact rqc)|apply hW.w (a0)|apply hW.w (a1)|(apply hW.b<;>intro h))<;>conv=>lhs;whnf)
    rw[hrl,hw]
    repeat'((first|apply hW.t|apply hW.f|(apply hW.q;exact rqc)|apply hW.w (a2)|(apply hW.b<;>intro h))<;>conv=>lhs;whnf)
    rfl
   ·rw[show bK n 0 ((m.sums.length:Int)-1)=true from by simp[bK];omega]at a2
    rw[h3]at a3
    refine hE.run rfl rfl fun W hW=>?_
    conv=>lhs;whnf
    repeat'((first|apply hW.t|apply hW.f|(apply hW.q;exact rqc)|apply hW.w (a0)|apply hW.w (a1)|(apply hW.b<;>intro h))<;>conv=>lhs;whnf)
    rw[hrl,hw]
    repeat'((first|apply hW.t|apply hW.f|(apply hW.q;exact rqc)|apply hW.w (a2)|apply hW.w (a3)|(apply hW.b<;>intro h))<;>conv=>lhs;whnf)
    rfl
   ·rw[show bK n 0 ((m.sums.length:Int)-1)=true from by simp[bK];omega]at a2
    rw[h3]at a3
    refine hE.run rfl rfl fun W hW=>?_
    conv=>lhs;whnf
    repeat'((first|apply hW.t|apply hW.f|(apply hW.q;exact rqc)|apply hW.w (a0)|apply hW.w (a1)|(apply hW.b<;>intro h))<;>conv=>lhs;whnf)
    rw[hrl,hw]
    apply hW.w (a2)
    conv=>lhs;whnf
    repeat((first|apply hW.t|apply hW.f|(apply hW.q;exact rqc));conv=>lhs;whnf)
    apply hW.w (a3)
    conv=>lhs;whnf
    repeat((first|apply hW.t|apply hW.f|(apply hW.q;exact rqc)|(refine hW.w (cA ?_) ?_;omega));conv=>lhs;whnf)
    apply hW.w (a4)
    conv=>lhs;whnf
    repeat((first|apply hW.t|apply hW.f|(apply hW.q;exact rqc));conv=>lhs;whnf)
    apply hW.bt (by(revert h4;generalize bG b=y;generalize m.sums[n]=z;cases y;cases z;simp;exact fun h=>Decidable.or_iff_not_imp_left.mpr fun h'=>h (Decidable.not_not.mp h')))
    conv=>lhs;whnf
    repeat((first|apply hW.t|apply hW.f|(apply hW.q;exact rqc));conv=>lhs;whnf)
    rfl
  ·obtain⟨n,hn,rfl,h40,_,_,hs,hin,hsum,h6,hsp,hat,hfit⟩:=aHk h2
   have a5:=zP hE m x n b h40 hsp hat hfit hx
   rw[show bK n 0 ((m.sums.length:Int)-1)=true from by simp[bK];omega]at a2
   rw[hin]at a3
   refine hE.run rfl rfl fun W hW=>?_
   conv=>lhs;whnf
   repeat'((first|apply hW.t|apply hW.f|(apply hW.q;exact rqc)|apply hW.w (a0)|apply hW.w (a1)|(apply hW.b<;>intro h))<;>conv=>lhs;whnf)
   rw[hrl,hw]
   apply hW.w (a2)
   conv=>lhs;whnf
   repeat((first|apply hW.t|apply hW.f|(apply hW.q;exact rqc));conv=>lhs;whnf)
   apply hW.w (a3)
   conv=>lhs;whnf
   repeat((first|apply hW.t|apply hW.f|(apply hW.q;exact rqc)|(refine hW.w (cA ?_) ?_;omega));conv=>lhs;whnf)
   apply hW.w (a4)
   conv=>lhs;whnf
   repeat((first|apply hW.t|apply hW.f|(apply hW.q;exact rqc));conv=>lhs;whnf)
   apply hW.bf (by rw[hsum];simp)
   conv=>lhs;whnf
   repeat((first|apply hW.t|apply hW.f|(apply hW.q;exact rqc));conv=>lhs;whnf)
   apply hW.w (a5)
   conv=>lhs;whnf
   repeat((first|apply hW.t|apply hW.f|(apply hW.q;exact rqc));conv=>lhs;whnf)
   rfl
def aJx (n:Node) (k i id:Int):Pkt:=eD k id (fJ n.man.gen i (eZ n.man n.bld i))
def xY (n:Node) (k i:Int):List Kid→List Kid→List Pkt→List Kid × List Pkt
 |[],c,o=>(c,o)
 |x::r,c,o=>if dI (iE c x.id n.bld.hav) i=true then xY n k i r (cT c x.id (aFa i)) (o++[aJx n k i x.id]) else xY n k i r c o
def jK (n:Node) (k i:Int):Actn:=if dG n.man n.bld i=true then⟨{ n with kids:=(xY n k i n.kids n.kids []).1 },(xY n k i n.kids n.kids []).2⟩ else⟨n,[]⟩
theorem aJy {n:Node} {k i:Int} {l:List Kid}:∀ {c:List Kid} {o:List Pkt},(xY n k i l c o).1.length=c.length∧(xY n k i l c o).2.length≤o.length+l.length:=by
 induction l with
 |nil=>intro c o;exact⟨rfl,Nat.le_refl _⟩
 |cons x r ih =>
  intro c o
  simp only[xY]
  split
  ·have:=ih (c:=cT c x.id (aFa i)) (o:=o++[aJx n k i x.id])
   rw[gF]at this
   simp only[List.length_append,List.length_cons,List.length_nil]at this ⊢
   omega
  ·have:=ih (c:=c) (o:=o)
   simp only[List.length_cons]
   omega
theorem aJz {n:Node} {k i:Int} {l:List Kid}:∀ {c:List Kid} {o:List Pkt},(∀ x∈o,x.lim 4194304)→∀ x∈(xY n k i l c o).2,x.lim 4194304:=by
 induction l with
 |nil=>intro c o h;exact h
 |cons x r ih =>
  intro c o h
  simp only[xY]
  split
  ·refine ih fun y hy=>?_
   rcases List.mem_append.mp hy with hy|hy
   ·exact h y hy
   ·rw[List.mem_singleton.mp hy]
    exact Nat.le_trans (nT _) (by decide)
  ·exact ih h
theorem aCd (n:Node) (k i:Int) (hn:n.limk):(jK n k i).lim 4194304:=by
 have hn':=hn.l4
 have hl:=aJy (n:=n) (k:=k) (i:=i) (l:=n.kids) (c:=n.kids) (o:=[])
 have hk:=hn.2.2
 unfold jK
 split
 ·refine⟨⟨hn'.1,hn'.2.1,?_⟩,?_,aJz fun _ h=>by cases h⟩
  ·simp only;omega
  ·simp only[List.length_nil]at hl ⊢;omega
 ·exact⟨hn',Nat.zero_le _,fun _ h=>by cases h⟩
theorem aHl {i:Int} (h:bK i 0 39=true):iO 0 i=aFa i:=by
 unfold iO
 rw[if_pos ⟨by decide,h⟩]
 have h:=bP h
 obtain⟨n,rfl⟩:∃ n:Nat,i=n:=⟨i.toNat,by omega⟩
 have hw:=aG4 (i:=n) (by omega)
 rw[hw.1]
 have:=(aAU (a:=0) (b:=2 ^ n) (by omega) (by omega)).1
 rw[Nat.zero_or]at this
 exact this
theorem aEh {s i:Int} (h:dI s i=true):bK i 0 39=true:=by
 unfold dI at h
 simp only[Bool.and_eq_true]at h
 exact h.2.1
theorem xZ {E:Env} (hE:Sys E) (n:Node) (k i:Int) (hn:n.limk):E 419 [gv (n.cs aL),iv k,iv i]=some ([gv ((jK n k i).cs dY true)],[]):=by
 have hrk:(n.kids.map Kid.row).length=n.kids.length:=List.length_map _
 have hkl:=hn.2.2
 have a0:=cV hE n hn.l8
 have a1:=mX hE n.man n.bld i hn.1 hn.2.1
 unfold jK
 cases hok:dG n.man n.bld i
 ·rw[hok]at a1
  refine hE.run rfl rfl fun W hW=>?_
  conv=>lhs;whnf
  apply hW.w (a0)
  conv=>lhs;whnf
  repeat((first|apply hW.t|apply hW.f|(apply hW.q;exact rqc));conv=>lhs;whnf)
  apply hW.w (a1)
  conv=>lhs;whnf
  repeat((first|apply hW.t|apply hW.f|(apply hW.q;exact rqc));conv=>lhs;whnf)
  refine hW.loop (σ:=Unit) (γ:=Unit) (fun _ s=>s.sl 10 (v1 (.t (.int .i64 0)))) (fun _ _=>True) (fun _=>0) (fun _=>([gv (Actn.cs dY true ⟨n,[]⟩)],[])) () () ?_ ?_ ?_ ?_
  ·intro K
   conv=>lhs;whnf
   conv=>rhs;whnf
   try rfl
  ·trivial
  ·rintro kl _ _ _ ih
   conv=>lhs;whnf
   apply hW.b<;>intro h1<;>conv=>lhs;whnf
   ·repeat((first|apply hW.t|apply hW.f|(apply hW.q;exact rqc));conv=>lhs;whnf)
    rfl
   ·repeat((first|apply hW.t|apply hW.f|(apply hW.q;exact rqc));conv=>lhs;whnf)
    rfl
  ·rfl
 ·rw[hok]at a1
  refine hE.run rfl rfl fun W hW=>?_
  conv=>lhs;whnf
  apply hW.w (a0)
  conv=>lhs;whnf
  repeat((first|apply hW.t|apply hW.f|(apply hW.q;exact rqc));conv=>lhs;whnf)
  apply hW.w (a1)
  conv=>lhs;whnf
  repeat((first|apply hW.t|apply hW.f|(apply hW.q;exact rqc));conv=>lhs;whnf)
  refine hW.loop (σ:=Nat × List Kid × List Pkt) (γ:=Nat) (fun i s=>((s.sl 10 (v1 (.t (.int .i64 i.1)))).bl ⟨50710,5, .own,i.2.1.map Kid.row⟩).bl ⟨50712,3, .own,i.2.2.map (Pkt.row true)⟩) (fun j m=>j.1=m∧m≤n.kids.length∧j.2.1.length=n.kids.length∧j.2.2.length≤m∧xY n k i (n.kids.drop m) j.2.1 j.2.2=xY n k i n.kids n.kids []) (fun m=>n.kids.length-m) (fun _=>([gv (Actn.cs dY true ⟨{ n with kids:=(xY n k i n.kids n.kids []).1 },(xY n k i n.kids n.kids []).2⟩)],[])) (0,n.kids,[]) 0 ?_ ?_ ?_ ?_
  ·intro K
   conv=>lhs;whnf
   conv=>rhs;whnf
   try rfl
  ·exact⟨rfl,by omega,rfl,by simp,rfl⟩
  ·rintro kl ⟨m,c,o⟩ _ ⟨rfl,hm,hc,ho,hs⟩ ih
   simp only at hs hm hc ho
   conv=>lhs;whnf
   rw[hrk]
   apply hW.b<;>intro h1<;>conv=>lhs;whnf
   ·have h1:m<n.kids.length:=by simpa using h1
    rw[List.drop_eq_getElem_cons h1,xY]at hs
    repeat((first|apply hW.t|apply hW.f|(apply hW.q;exact rqc)|(refine hW.w (cA ?_) ?_;omega));conv=>lhs;whnf)
    apply hW.w (nB hE n)
    conv=>lhs;whnf
    repeat((first|apply hW.t|apply hW.f|(apply hW.q;exact rqc));conv=>lhs;whnf)
    apply hW.w (pP hE c n.kids[m].id n.bld.hav (by omega))
    conv=>lhs;whnf
    repeat((first|apply hW.t|apply hW.f|(apply hW.q;exact rqc));conv=>lhs;whnf)
    apply hW.w (cU hE (iE c n.kids[m].id n.bld.hav) i)
    conv=>lhs;whnf
    repeat((first|apply hW.t|apply hW.f|(apply hW.q;exact rqc));conv=>lhs;whnf)
    apply hW.b<;>intro h3<;>conv=>lhs;whnf
    ·rw[if_pos h3]at hs
     have h4:=aHl (aEh h3)
     repeat((first|apply hW.t|apply hW.f|(apply hW.q;exact rqc)|(refine hW.w (cA ?_) ?_;omega));conv=>lhs;whnf)
     apply hW.w (mZ hE n.man.gen i (eZ n.man n.bld i) (Nat.le_trans (eJ _ _ _) (Nat.le_trans hn.2.1 (by decide))))
     conv=>lhs;whnf
     repeat((first|apply hW.t|apply hW.f|(apply hW.q;exact rqc));conv=>lhs;whnf)
     apply hW.w (dQ hE k n.kids[m].id (fJ n.man.gen i (eZ n.man n.bld i)) ⟨Nat.zero_le _,Nat.le_trans (eJ _ _ _) hn.2.1⟩)
     conv=>lhs;whnf
     repeat((first|apply hW.t|apply hW.f|(apply hW.q;exact rqc));conv=>lhs;whnf)
     refine hW.q (by exact⟨by decide,by intro e he;simp at he;subst he;rfl,by simp;omega,by simp;omega⟩) ?_
     conv=>lhs;whnf
     repeat((first|apply hW.t|apply hW.f|(apply hW.q;exact rqc));conv=>lhs;whnf)
     apply hW.w (kX hE 0 i)
     conv=>lhs;whnf
     repeat((first|apply hW.t|apply hW.f|(apply hW.q;exact rqc));conv=>lhs;whnf)
     rw[h4]
     apply hW.w (kV hE c n.kids[m].id (aFa i) (by omega))
     conv=>lhs;whnf
     repeat((first|apply hW.t|apply hW.f|(apply hW.q;exact rqc));conv=>lhs;whnf)
     refine ih (m+1,cT c n.kids[m].id (aFa i),o++[aJx n k i n.kids[m].id]) (m+1) _ ?_ ⟨rfl,by omega,by simp only;rw[gF];exact hc,by simp;omega,hs⟩ (by omega)
     intro K
     conv=>lhs;whnf
     conv=>rhs;whnf
     try rfl
     rw[show IntKind.i64.wrap ((m:Int)+1)=_ from aI (by omega)]
     rw[List.map_append]
     rfl
    ·rw[if_neg (by rw[h3];decide)]at hs
     repeat((first|apply hW.t|apply hW.f|(apply hW.q;exact rqc));conv=>lhs;whnf)
     refine ih (m+1,c,o) (m+1) _ ?_ ⟨rfl,by omega,hc,by simp only;omega,hs⟩ (by omega)
     intro K
     conv=>lhs;whnf
     conv=>rhs;whnf
     try rfl
     rw[show IntKind.i64.wrap ((m:Int)+1)=_ from aI (by omega)]
     try rfl
   ·have:m=n.kids.length:=by simp at h1;omega
    subst this
    simp only[List.drop_length,xY]at hs
    repeat((first|apply hW.t|apply hW.f|(apply hW.q;exact rqc));conv=>lhs;whnf)
    rw[← hs]
    rfl
  ·rfl
theorem yA {E:Env} (hE:Sys E) (n:Node) (k i:Int) (hn:n.limk):E 424 [gv (n.cs aL),iv k,iv i]=some ([gv ((jK n k i).cs dY true)],[]):=by
 have hrk:(n.kids.map Kid.row).length=n.kids.length:=List.length_map _
 have hkl:=hn.2.2
 have a0:=cY hE n hn.l8
 have a1:=mY hE n.man n.bld i hn.1 hn.2.1
 unfold jK
 cases hok:dG n.man n.bld i
 ·rw[hok]at a1
  refine hE.run rfl rfl fun W hW=>?_
  conv=>lhs;whnf
  repeat'((first|apply hW.t|apply hW.f|(apply hW.q;exact rqc)|apply hW.w (a0)|apply hW.w (a1)|(apply hW.b<;>intro h))<;>conv=>lhs;whnf)
  rfl
 ·rw[hok]at a1
  refine hE.run rfl rfl fun W hW=>?_
  conv=>lhs;whnf
  apply hW.w (a0)
  conv=>lhs;whnf
  repeat((first|apply hW.t|apply hW.f|(apply hW.q;exact rqc));conv=>lhs;whnf)
  apply hW.w (a1)
  conv=>lhs;whnf
  repeat((first|apply hW.t|apply hW.f|(apply hW.q;exact rqc));conv=>lhs;whnf)
  rw[hrk]
  refine hW.loop (σ:=Nat × List Kid × List Pkt) (γ:=Nat) (fun i s=>((s.sl 30 (v1 (.t (.int .i64 i.1)))).bl ⟨50710,5, .own,i.2.1.map Kid.row⟩).bl ⟨50712,3, .own,i.2.2.map (Pkt.row true)⟩) (fun j m=>j.1=m∧m≤n.kids.length∧j.2.1.length=n.kids.length∧j.2.2.length≤m∧xY n k i (n.kids.drop m) j.2.1 j.2.2=xY n k i n.kids n.kids []) (fun m=>n.kids.length-m) (fun _=>([gv (Actn.cs dY true ⟨{ n with kids:=(xY n k i n.kids n.kids []).1 },(xY n k i n.kids n.kids []).2⟩)],[])) (0,n.kids,[]) 0 ?_ ?_ ?_ ?_
  ·intro K
   conv=>lhs;whnf
   conv=>rhs;whnf
   try rfl
  ·exact⟨rfl,by omega,rfl,by simp,rfl⟩
  ·rintro kl ⟨m,c,o⟩ _ ⟨rfl,hm,hc,ho,hs⟩ ih
   simp only at hs hm hc ho
   conv=>lhs;whnf
   apply hW.b<;>intro h1<;>conv=>lhs;whnf
   ·have h1:m<n.kids.length:=by simpa using h1
    rw[List.drop_eq_getElem_cons h1,xY]at hs
    repeat((first|apply hW.t|apply hW.f|(apply hW.q;exact rqc)|(refine hW.w (cA ?_) ?_;omega));conv=>lhs;whnf)
    apply hW.w (nC hE n)
    conv=>lhs;whnf
    repeat((first|apply hW.t|apply hW.f|(apply hW.q;exact rqc));conv=>lhs;whnf)
    apply hW.w (pQ hE c n.kids[m].id n.bld.hav (by omega))
    conv=>lhs;whnf
    repeat((first|apply hW.t|apply hW.f|(apply hW.q;exact rqc));conv=>lhs;whnf)
    apply hW.w (dA hE (iE c n.kids[m].id n.bld.hav) i)
    conv=>lhs;whnf
    repeat((first|apply hW.t|apply hW.f|(apply hW.q;exact rqc));conv=>lhs;whnf)
    apply hW.b<;>intro h3<;>conv=>lhs;whnf
    ·rw[if_pos h3]at hs
     have h4:=bP (aEh h3)
     repeat((first|apply hW.t|apply hW.f|(apply hW.q;exact rqc)|(refine hW.w (cA ?_) ?_;omega));conv=>lhs;whnf)
     apply hW.w (nA hE n.man.gen i (eZ n.man n.bld i) (Nat.le_trans (eJ _ _ _) (Nat.le_trans hn.2.1 (by decide))))
     conv=>lhs;whnf
     repeat((first|apply hW.t|apply hW.f|(apply hW.q;exact rqc));conv=>lhs;whnf)
     apply hW.w (dR hE k n.kids[m].id (fJ n.man.gen i (eZ n.man n.bld i)) ⟨Nat.zero_le _,Nat.le_trans (eJ _ _ _) hn.2.1⟩)
     conv=>lhs;whnf
     repeat((first|apply hW.t|apply hW.f|(apply hW.q;exact rqc));conv=>lhs;whnf)
     refine hW.q (by exact⟨by decide,by intro e he;simp at he;subst he;rfl,by simp;omega,by simp;omega⟩) ?_
     conv=>lhs;whnf
     repeat((first|apply hW.t|apply hW.f|(apply hW.q;exact rqc));conv=>lhs;whnf)
     apply hW.w (kW hE c n.kids[m].id (aFa i) (by omega))
     conv=>lhs;whnf
     repeat((first|apply hW.t|apply hW.f|(apply hW.q;exact rqc));conv=>lhs;whnf)
     refine ih (m+1,cT c n.kids[m].id (aFa i),o++[aJx n k i n.kids[m].id]) (m+1) _ ?_ ⟨rfl,by omega,by simp only;rw[gF];exact hc,by simp;omega,hs⟩ (by omega)
     intro K
     conv=>lhs;whnf
     conv=>rhs;whnf
     try rfl
     rw[show IntKind.i64.wrap ((m:Int)+1)=_ from aI (by omega)]
     rw[List.map_append]
     rfl
    ·rw[if_neg (by rw[h3];decide)]at hs
     repeat((first|apply hW.t|apply hW.f|(apply hW.q;exact rqc));conv=>lhs;whnf)
     refine ih (m+1,c,o) (m+1) _ ?_ ⟨rfl,by omega,hc,by simp only;omega,hs⟩ (by omega)
     intro K
     conv=>lhs;whnf
     conv=>rhs;whnf
     try rfl
     rw[show IntKind.i64.wrap ((m:Int)+1)=_ from aI (by omega)]
     try rfl
   ·have:m=n.kids.length:=by simp at h1;omega
    subst this
    simp only[List.drop_length,xY]at hs
    repeat((first|apply hW.t|apply hW.f|(apply hW.q;exact rqc));conv=>lhs;whnf)
    rw[← hs]
    rfl
  ·rfl
def gU (n:Node) (k:Int) (m:Msg):Actn :=
 if n.phase=0 then⟨vO n,[]⟩ else if ¬ m.gen=n.man.gen then⟨vO n,[]⟩ else if dI n.bld.hav m.i=true then⟨n,[]⟩
 else if lK n.man n.bld m.i m.b=false then⟨vO n,[]⟩ else jK { n with bld:=dS n.man n.bld m.i m.b } k m.i
theorem aCe (m:Man) (x:Bld) (i:Int) (b:aE):(dS m x i b).buf.length=x.buf.length:=by
 unfold dS
 split
 ·rename_i h
  obtain⟨n,hn,rfl,h40,_,_,hs,hin,hsum,h6,hsp,hat,hfit⟩:=aHk h
  unfold aFs
  rw[Int.toNat_natCast]
  exact aHd (by omega)
 ·rfl
theorem aAW {n:Node} {i:Int} {b:aE} (hn:n.limk):({ n with bld:=dS n.man n.bld i b }:Node).limk:=⟨hn.1,by show(dS n.man n.bld i b).buf.length≤_;rw[aCe];exact hn.2.1,hn.2.2⟩
theorem hY {n:Node} {B:Nat} (hn:n.lim B):(vO n).lim B:=⟨hn.1,hn.2.1,hn.2.2⟩
theorem aAX (n:Node) (k:Int) (m:Msg) (hn:n.limk) (_:m.lim 1048576):(gU n k m).lim 4194304:=by
 have hn':=hn.l4
 have hz:aAw (fun B=>Pkt.lim B) 4194304 ([]:List Pkt):=⟨Nat.zero_le _,fun _ h=>by cases h⟩
 unfold gU
 split
 ·exact⟨hY hn',hz⟩
 ·split
  ·exact⟨hY hn',hz⟩
  ·split
   ·exact⟨hn',hz⟩
   ·split
    ·exact⟨hY hn',hz⟩
    ·exact aCd _ k m.i (aAW hn)
theorem zT {E:Env} (hE:Sys E) (x:Node) (h0:x.lim 8388608):E 212 [gv (x.cs aL)]=some ([gv (x.cs dY)],[]):=cV hE x h0
theorem zU {E:Env} (hE:Sys E) (x:Node) (h0:x.lim 8388608):E 215 [gv (x.cs aL)]=some ([gv (x.cs dY)],[]):=cY hE x h0
theorem vU {E:Env} (hE:Sys E) (n:Node) (k:Int) (m:Msg) (hn:n.limk) (hm:m.lim 1048576):E 416 [gv (n.cs aL),iv k,gv (m.cs aL)]=some ([gv ((gU n k m).cs dY true)],[]):=by
 have c0:=zT hE n hn.l8
 have c1:=fI hE n hn.l8
 have a1:=cU hE n.bld.hav m.i
 have a2:=vS hE n.man n.bld m.i m.b hn.1 hn.2.1 hm.2
 have a3:=xZ hE { n with bld:=dS n.man n.bld m.i m.b } k m.i (aAW hn)
 unfold gU
 by_cases h1:n.phase=0
 ·rw[if_pos h1]
  refine hE.run rfl rfl fun W hW=>?_
  conv=>lhs;whnf
  repeat'((first|with_reducible apply hW.bt (wQ h1)|apply hW.t|apply hW.f|(apply hW.q;exact rqc)|apply hW.w (c0)|apply hW.w (c1)|(apply hW.b<;>intro h))<;>conv=>lhs;whnf)
  rfl
 ·rw[if_neg h1]
  by_cases h2:m.gen=n.man.gen
  ·rw[if_neg (fun h=>h h2)]
   cases h3:dI n.bld.hav m.i
   ·rw[h3]at a1
    cases h4:lK n.man n.bld m.i m.b
    ·rw[h4]at a2
     refine hE.run rfl rfl fun W hW=>?_
     conv=>lhs;whnf
     repeat'((first|with_reducible apply hW.bf (gA h1)|with_reducible apply hW.bf (zQ h2)|apply hW.t|apply hW.f|(apply hW.q;exact rqc)|apply hW.w (c0)|apply hW.w (a1)|apply hW.w (a2)|apply hW.w (c1)|(apply hW.b<;>intro h))<;>conv=>lhs;whnf)
     rfl
    ·rw[h4]at a2
     refine hE.run rfl rfl fun W hW=>?_
     conv=>lhs;whnf
     repeat'((first|with_reducible apply hW.bf (gA h1)|with_reducible apply hW.bf (zQ h2)|apply hW.t|apply hW.f|(apply hW.q;exact rqc)|apply hW.w (c0)|apply hW.w (a1)|apply hW.w (a2)|apply hW.w (a3)|(apply hW.b<;>intro h))<;>conv=>lhs;whnf)
     rfl
   ·rw[h3]at a1
    refine hE.run rfl rfl fun W hW=>?_
    conv=>lhs;whnf
    repeat'((first|with_reducible apply hW.bf (gA h1)|with_reducible apply hW.bf (zQ h2)|apply hW.t|apply hW.f|(apply hW.q;exact rqc)|apply hW.w (c0)|apply hW.w (a1)|(apply hW.b<;>intro h))<;>conv=>lhs;whnf)
    rfl
  ·rw[if_pos h2]
   refine hE.run rfl rfl fun W hW=>?_
   conv=>lhs;whnf
   repeat'((first|with_reducible apply hW.bf (gA h1)|with_reducible apply hW.bt (aHK h2)|apply hW.t|apply hW.f|(apply hW.q;exact rqc)|apply hW.w (c0)|apply hW.w (c1)|(apply hW.b<;>intro h))<;>conv=>lhs;whnf)
   rfl
theorem vV {E:Env} (hE:Sys E) (n:Node) (k:Int) (m:Msg) (hn:n.limk) (hm:m.lim 1048576):E 422 [gv (n.cs aL),iv k,gv (m.cs aL)]=some ([gv ((gU n k m).cs dY true)],[]):=by
 have c0:=zU hE n hn.l8
 have c1:=fI hE n hn.l8
 have a1:=dA hE n.bld.hav m.i
 have a2:=vT hE n.man n.bld m.i m.b hn.1 hn.2.1 hm.2
 have a3:=yA hE { n with bld:=dS n.man n.bld m.i m.b } k m.i (aAW hn)
 unfold gU
 by_cases h1:n.phase=0
 ·rw[if_pos h1]
  refine hE.run rfl rfl fun W hW=>?_
  conv=>lhs;whnf
  repeat'((first|with_reducible apply hW.bt (wQ h1)|apply hW.t|apply hW.f|(apply hW.q;exact rqc)|apply hW.w (c0)|apply hW.w (c1)|(apply hW.b<;>intro h))<;>conv=>lhs;whnf)
  rfl
 ·rw[if_neg h1]
  by_cases h2:m.gen=n.man.gen
  ·rw[if_neg (fun h=>h h2)]
   cases h3:dI n.bld.hav m.i
   ·rw[h3]at a1
    cases h4:lK n.man n.bld m.i m.b
    ·rw[h4]at a2
     refine hE.run rfl rfl fun W hW=>?_
     conv=>lhs;whnf
     repeat'((first|with_reducible apply hW.bf (gA h1)|with_reducible apply hW.bf (zQ h2)|apply hW.t|apply hW.f|(apply hW.q;exact rqc)|apply hW.w (c0)|apply hW.w (a1)|apply hW.w (a2)|apply hW.w (c1)|(apply hW.b<;>intro h))<;>conv=>lhs;whnf)
     rfl
    ·rw[h4]at a2
     refine hE.run rfl rfl fun W hW=>?_
     conv=>lhs;whnf
     repeat'((first|with_reducible apply hW.bf (gA h1)|with_reducible apply hW.bf (zQ h2)|apply hW.t|apply hW.f|(apply hW.q;exact rqc)|apply hW.w (c0)|apply hW.w (a1)|apply hW.w (a2)|apply hW.w (a3)|(apply hW.b<;>intro h))<;>conv=>lhs;whnf)
     rfl
   ·rw[h3]at a1
    refine hE.run rfl rfl fun W hW=>?_
    conv=>lhs;whnf
    repeat'((first|with_reducible apply hW.bf (gA h1)|with_reducible apply hW.bf (zQ h2)|apply hW.t|apply hW.f|(apply hW.q;exact rqc)|apply hW.w (c0)|apply hW.w (a1)|(apply hW.b<;>intro h))<;>conv=>lhs;whnf)
    rfl
  ·rw[if_pos h2]
   refine hE.run rfl rfl fun W hW=>?_
   conv=>lhs;whnf
   repeat'((first|with_reducible apply hW.bf (gA h1)|with_reducible apply hW.bt (aHK h2)|apply hW.t|apply hW.f|(apply hW.q;exact rqc)|apply hW.w (c0)|apply hW.w (c1)|(apply hW.b<;>intro h))<;>conv=>lhs;whnf)
   rfl
def yB (n:Node):Node:={ n with quiet:=0 }
def gW (n:Node) (k:Int) (d:Disk) (m:Msg):Actn :=
 if m.kind=1 then⟨jJ (yB n) d m.man,[]⟩ else if m.kind=3 then gU (yB n) k m else if m.kind=2 then⟨vO (yB n),[]⟩ else⟨yB n,[]⟩
theorem iT {n:Node} (hn:n.limk):(yB n).limk:=⟨hn.1,hn.2.1,hn.2.2⟩
theorem aJA {n:Node} {B:Nat} (hn:n.lim B):(yB n).lim B:=⟨hn.1,hn.2.1,hn.2.2⟩
theorem aAY (n:Node) (k:Int) (d:Disk) (m:Msg) (hn:n.limk) (hd:d.lim 1048576) (hm:m.lim 1048576):(gW n k d m).lim 4194304:=by
 have hz:aAw (fun B=>Pkt.lim B) 4194304 ([]:List Pkt):=⟨Nat.zero_le _,fun _ h=>by cases h⟩
 have hn':=aJA hn.l4
 unfold gW
 split
 ·exact⟨aCb _ d m.man (iT hn) hd hm.1,hz⟩
 ·split
  ·exact aAX _ k m (iT hn) hm
  ·split
   ·exact⟨hY hn',hz⟩
   ·exact⟨hn',hz⟩
theorem vW {E:Env} (hE:Sys E) (n:Node) (k:Int) (d:Disk) (m:Msg) (hn:n.limk) (hd:d.lim 1048576) (hm:m.lim 1048576):E 453 [gv (n.cs aL),iv k,gv (d.cs aL true),gv (m.cs aL)]=some ([gv ((gW n k d m).cs dY true)],[]):=by
 have c0:=zT hE n hn.l8
 have a1:=xU hE (yB n) d m.man (iT hn) hd hm.1
 have a2:=vU hE (yB n) k m (iT hn) hm
 unfold gW
 by_cases h1:m.kind=1
 ·rw[if_pos h1]
  refine hE.run rfl rfl fun W hW=>?_
  conv=>lhs;whnf
  repeat'((first|with_reducible apply hW.bt (wQ h1)|apply hW.t|apply hW.f|(apply hW.q;exact rqc)|apply hW.w (c0)|apply hW.w (a1)|(apply hW.b<;>intro h))<;>conv=>lhs;whnf)
  rfl
 ·rw[if_neg h1]
  by_cases h2:m.kind=3
  ·rw[if_pos h2]
   refine hE.run rfl rfl fun W hW=>?_
   conv=>lhs;whnf
   repeat'((first|with_reducible apply hW.bf (gA h1)|with_reducible apply hW.bt (wQ h2)|apply hW.t|apply hW.f|(apply hW.q;exact rqc)|apply hW.w (c0)|apply hW.w (a2)|(apply hW.b<;>intro h))<;>conv=>lhs;whnf)
   rfl
  ·rw[if_neg h2]
   by_cases h3:m.kind=2
   ·rw[if_pos h3]
    refine hE.run rfl rfl fun W hW=>?_
    conv=>lhs;whnf
    repeat'((first|with_reducible apply hW.bf (gA h1)|with_reducible apply hW.bf (gA h2)|with_reducible apply hW.bt (wQ h3)|apply hW.t|apply hW.f|(apply hW.q;exact rqc)|apply hW.w (c0)|(apply hW.b<;>intro h))<;>conv=>lhs;whnf)
    rfl
   ·rw[if_neg h3]
    refine hE.run rfl rfl fun W hW=>?_
    conv=>lhs;whnf
    repeat'((first|with_reducible apply hW.bf (gA h1)|with_reducible apply hW.bf (gA h2)|with_reducible apply hW.bf (gA h3)|apply hW.t|apply hW.f|(apply hW.q;exact rqc)|apply hW.w (c0)|(apply hW.b<;>intro h))<;>conv=>lhs;whnf)
    rfl
theorem vX {E:Env} (hE:Sys E) (n:Node) (k:Int) (d:Disk) (m:Msg) (hn:n.limk) (hd:d.lim 1048576) (hm:m.lim 1048576):E 456 [gv (n.cs aL),iv k,gv (d.cs aL true),gv (m.cs aL)]=some ([gv ((gW n k d m).cs dY true)],[]):=by
 have c0:=zU hE n hn.l8
 have a1:=xV hE (yB n) d m.man (iT hn) hd hm.1
 have a2:=vV hE (yB n) k m (iT hn) hm
 unfold gW
 by_cases h1:m.kind=1
 ·rw[if_pos h1]
  refine hE.run rfl rfl fun W hW=>?_
  conv=>lhs;whnf
  repeat'((first|with_reducible apply hW.bt (wQ h1)|apply hW.t|apply hW.f|(apply hW.q;exact rqc)|apply hW.w (c0)|apply hW.w (a1)|(apply hW.b<;>intro h))<;>conv=>lhs;whnf)
  rfl
 ·rw[if_neg h1]
  by_cases h2:m.kind=3
  ·rw[if_pos h2]
   refine hE.run rfl rfl fun W hW=>?_
   conv=>lhs;whnf
   repeat'((first|with_reducible apply hW.bf (gA h1)|with_reducible apply hW.bt (wQ h2)|apply hW.t|apply hW.f|(apply hW.q;exact rqc)|apply hW.w (c0)|apply hW.w (a2)|(apply hW.b<;>intro h))<;>conv=>lhs;whnf)
   rfl
  ·rw[if_neg h2]
   by_cases h3:m.kind=2
   ·rw[if_pos h3]
    refine hE.run rfl rfl fun W hW=>?_
    conv=>lhs;whnf
    repeat'((first|with_reducible apply hW.bf (gA h1)|with_reducible apply hW.bf (gA h2)|with_reducible apply hW.bt (wQ h3)|apply hW.t|apply hW.f|(apply hW.q;exact rqc)|apply hW.w (c0)|(apply hW.b<;>intro h))<;>conv=>lhs;whnf)
    rfl
   ·rw[if_neg h3]
    refine hE.run rfl rfl fun W hW=>?_
    conv=>lhs;whnf
    repeat'((first|with_reducible apply hW.bf (gA h1)|with_reducible apply hW.bf (gA h2)|with_reducible apply hW.bf (gA h3)|apply hW.t|apply hW.f|(apply hW.q;exact rqc)|apply hW.w (c0)|(apply hW.b<;>intro h))<;>conv=>lhs;whnf)
    rfl
def rdF:Nat→Nat→Nat→aE→Option (Nat × Nat × Bool)
 |0,_,_,_=>none
 |_+1,_,_,[]=>none
 |m+1,k,n,x::t=>if x.toNat<128 then some (n+x.toNat*128 ^ k,k+1,decide (k=0)||decide (0<x.toNat)) else rdF m (k+1) (n+(x.toNat%128)*128 ^ k) t
def rdN (most:Nat) (b:aE) (a:Nat):Option (Nat × Nat × Bool):=rdF most 0 0 (b.drop a)
def rN (o:Option (Nat × Nat × Bool)):Int:=match o with|some p=>p.1|none=>0
def rP (a:Nat) (o:Option (Nat × Nat × Bool)):Int:=match o with|some p=>((a+p.2.1:Nat):Int)|none=>0
def rO (o:Option (Nat × Nat × Bool)):Bool:=match o with|some p=>p.2.2|none=>false
theorem aHm {x:UInt8}:IntKind.i64.wrap (BitVec.ofInt IntKind.i64.bits (IntKind.i64.wrap (x.toNat:Int)) &&& BitVec.ofInt IntKind.i64.bits 127).toNat=((x.toNat%128:Nat):Int):=by
 have hx:x.toNat<256:=x.toNat_lt
 rw[show IntKind.i64.wrap (x.toNat:Int)=(x.toNat:Int) from aH (by omega)]
 rw[BitVec.toNat_and,BitVec.ofInt_natCast,show BitVec.ofInt IntKind.i64.bits 127=BitVec.ofNat IntKind.i64.bits 127 from rfl,BitVec.toNat_ofNat,BitVec.toNat_ofNat]
 rw[Nat.mod_eq_of_lt (show x.toNat<2 ^ IntKind.i64.bits from by simp only[IntKind.bits];omega),Nat.mod_eq_of_lt (show 127<2 ^ IntKind.i64.bits from by decide),Nat.and_two_pow_sub_one_eq_mod x.toNat 7]
 exact aH (by omega)
theorem aEi (k:Nat):(128:Nat) ^ k=2 ^ (7*k):=by rw[Nat.pow_mul]
theorem aCf {k:Nat} (h:k≤7):128 ^ k≤562949953421312:=by
 have:(128:Nat) ^ k≤128 ^ 7:=Nat.pow_le_pow_right (by decide) h
 have e:(128:Nat) ^ 7=562949953421312:=by decide
 omega
theorem nV {n k a:Nat} (hk:k≤7) (hn:n<128 ^ k) (ha:a<128):IntKind.i64.wrap (BitVec.ofInt IntKind.i64.bits (n:Int) ||| BitVec.ofInt IntKind.i64.bits (IntKind.i64.wrap ((a:Int)*2 ^ (min (IntKind.i64.wrap (7*(k:Int))).toNat IntKind.i64.bits)))).toNat=((n+a*128 ^ k:Nat):Int)∧n+a*128 ^ k<128 ^ (k+1):=by
 have h7:=aCf hk
 have hb:n+a*128 ^ k<128 ^ (k+1):=by
  rw[Nat.pow_succ]
  have:a*128 ^ k≤127*128 ^ k:=Nat.mul_le_mul_right _ (by omega)
  omega
 refine⟨?_,hb⟩
 have hm:a*128 ^ k≤127*562949953421312:=Nat.mul_le_mul (by omega) h7
 rw[show IntKind.i64.wrap (7*(k:Int))=((7*k:Nat):Int) from(aH (by omega)).trans (by omega),Int.toNat_natCast,show min (7*k) IntKind.i64.bits=7*k from by simp only[IntKind.bits];omega]
 rw[show(a:Int)*2 ^ (7*k)=((a*128 ^ k:Nat):Int) from by rw[aEi];push_cast;rfl]
 rw[show IntKind.i64.wrap ((a*128 ^ k:Nat):Int)=((a*128 ^ k:Nat):Int) from aH (by omega)]
 rw[BitVec.toNat_or,BitVec.ofInt_natCast,BitVec.ofInt_natCast,BitVec.toNat_ofNat,BitVec.toNat_ofNat]
 rw[Nat.mod_eq_of_lt (show n<2 ^ IntKind.i64.bits from by simp only[IntKind.bits];omega),Nat.mod_eq_of_lt (show a*128 ^ k<2 ^ IntKind.i64.bits from by simp only[IntKind.bits];omega)]
 rw[Nat.or_comm,aEi,Nat.mul_comm a,← Nat.two_pow_add_eq_or_of_lt (by rw[← aEi];exact hn)]
 rw[Nat.add_comm]
 exact aH (by rw[← aEi,Nat.mul_comm];omega)
theorem aAZ (x:UInt8):IntKind.i64.wrap (x.toNat:Int)=(x.toNat:Int):=aH (by have:x.toNat<256:=x.toNat_lt;omega)
theorem nD {E:Env} (hE:Sys E) (b:aE) (a most:Nat) (hb:b.length≤1099511627776) (ha:a≤1099511627776) (hm:most≤8):E 332 [sv (bys b),iv a,iv most]=some ([iv (rN (rdN most b a)),iv (rP a (rdN most b a)),bv (rO (rdN most b a))],[]):=by
 refine hE.run rfl rfl fun W hW=>?_
 conv=>lhs;whnf
 refine hW.loop (σ:=Nat × Nat) (γ:=Nat) (fun i s=>(s.sl 13 (v1 (.t (.int .i64 i.1)))).sl 9 (v1 (.t (.int .i64 i.2)))) (fun i k=>i.1=k∧k≤most∧i.2<128 ^ k∧rdF (most-k) k i.2 (b.drop (a+k))=rdN most b a) (fun k=>most-k) (fun _=>([iv (rN (rdN most b a)),iv (rP a (rdN most b a)),bv (rO (rdN most b a))],[])) (0,0) 0 ?_ ?_ ?_ ?_
 ·intro K
  conv=>lhs;whnf
  conv=>rhs;whnf
  try rfl
 ·exact⟨rfl,by omega,by decide,rfl⟩
 ·rintro kl ⟨k,n⟩ _ ⟨rfl,hk,hn,hs⟩ ih
  simp only at hk hn hs
  conv=>lhs;whnf
  apply hW.b<;>intro g1<;>conv=>lhs;whnf
  ·have g1:k<most:=by simpa using g1
   rw[show most-k=(most-(k+1))+1 from by omega]at hs
   repeat((first|apply hW.t|apply hW.f|(apply hW.q;exact rqc));conv=>lhs;whnf)
   rw[aY,show IntKind.i64.wrap ((b.length:Int)-1)=(b.length:Int)-1 from aH (by omega),show IntKind.i64.wrap ((b.length:Int)-1-k)=(b.length:Int)-1-k from aH (by omega)]
   apply hW.w (bI hE a 0 ((b.length:Int)-1-k))
   conv=>lhs;whnf
   repeat((first|apply hW.t|apply hW.f|(apply hW.q;exact rqc));conv=>lhs;whnf)
   apply hW.b<;>intro g2<;>conv=>lhs;whnf
   ·have g2:=jU g2
    have hl:b.length≤a+k:=by simp[bK]at g2;omega
    rw[List.drop_eq_nil_of_le hl,rdF]at hs
    repeat((first|apply hW.t|apply hW.f|(apply hW.q;exact rqc));conv=>lhs;whnf)
    rw[← hs]
    rfl
   ·have g2:=bP (gR g2)
    have hl:a+k<b.length:=by omega
    rw[List.drop_eq_getElem_cons hl,rdF]at hs
    repeat((first|apply hW.t|apply hW.f|(apply hW.q;exact rqc));conv=>lhs;whnf)
    rw[show IntKind.i64.wrap ((a:Int)+(k:Int))=((a+k:Nat):Int) from(aH (by omega)).trans (by omega)]
    repeat((first|apply hW.t|apply hW.f|(apply hW.q;exact rqc)|(refine hW.w (cA ?_) ?_;omega));conv=>lhs;whnf)
    have hx:(b[a+k]).toNat<256:=(b[a+k]).toNat_lt
    refine hW.q (by exact(show(0:Int)≤w64 (7*(k:Int)) from by rw[aH (by omega)];omega)) ?_
    conv=>lhs;whnf
    repeat((first|apply hW.t|apply hW.f|(apply hW.q;exact rqc));conv=>lhs;whnf)
    rw[aHm,(nV (a:=(b[a+k]).toNat%128) (by omega) hn (by omega)).1,aAZ]
    apply hW.b<;>intro g3<;>conv=>lhs;whnf
    ·have g3:(b[a+k]).toNat<128:=by simp at g3;omega
     rw[if_pos g3]at hs
     rw[Nat.mod_eq_of_lt g3,show IntKind.i64.wrap ((a:Int)+(k:Int))=((a+k:Nat):Int) from(aH (by omega)).trans (by omega),show IntKind.i64.wrap (((a+k:Nat):Int)+1)=((a+(k+1):Nat):Int) from(aH (by omega)).trans (by omega)]
     apply hW.b<;>intro g4<;>conv=>lhs;whnf
     ·have k0:k=0:=by simp at g4;omega
      subst k0
      repeat((first|apply hW.t|apply hW.f|(apply hW.q;exact rqc));conv=>lhs;whnf)
      rw[← hs]
      rfl
     ·repeat((first|apply hW.t|apply hW.f|(apply hW.q;exact rqc));conv=>lhs;whnf)
      rw[← hs,show decide (k=0)=false from by simp at g4 ⊢;omega,Bool.false_or]
      simp only[rN,rP,rO]
      rw[show decide (((b[a+k]).toNat:Int)>0)=decide (0<(b[a+k]).toNat) from decide_eq_decide.mpr (by omega)]
      rfl
    ·have g3:¬ (b[a+k]).toNat<128:=by simp at g3;omega
     rw[if_neg g3]at hs
     repeat((first|apply hW.t|apply hW.f|(apply hW.q;exact rqc));conv=>lhs;whnf)
     refine ih (k+1,n+(b[a+k]).toNat%128*128 ^ k) (k+1) _ ?_ ⟨rfl,by omega,(nV (by omega) hn (by omega)).2,hs⟩ (by omega)
     intro K
     conv=>lhs;whnf
     conv=>rhs;whnf
     try rfl
     rw[show IntKind.i64.wrap ((k:Int)+1)=_ from aI (by omega)]
     try rfl
  ·have:k=most:=by simp at g1;omega
   subst this
   rw[Nat.sub_self,rdF]at hs
   repeat((first|apply hW.t|apply hW.f|(apply hW.q;exact rqc));conv=>lhs;whnf)
   rw[← hs]
   rfl
 ·rfl
def gV (l:aE):Option (Nat × Nat):=match rdF 6 0 0 l with|some (n,c,true)=>if n≤1000000000000 then some (n,c) else none|_=>none
def gS (l:aE):Option (Nat × Nat):=match rdF 8 0 0 l with|some (n,c,true)=>some (n,c)|_=>none
def vN (o:Option (Nat × Nat)):Int:=match o with|some p=>p.1|none=>0
def vP (a:Nat) (o:Option (Nat × Nat)):Int:=match o with|some p=>((a+p.2:Nat):Int)|none=>0
theorem gI {E:Env} (hE:Sys E) (b:aE) (a:Nat) (hb:b.length≤1099511627776) (ha:a≤1099511627776):E 330 [sv (bys b),iv a]=some ([iv (vN (gV (b.drop a))),iv (vP a (gV (b.drop a))),bv (gV (b.drop a)).isSome],[]):=by
 have hr:=nD hE b a 6 hb ha (by decide)
 unfold gV
 rw[show rdN 6 b a=rdF 6 0 0 (b.drop a) from rfl]at hr
 cases hd:rdF 6 0 0 (b.drop a) with
 |none =>
  rw[hd]at hr
  refine hE.run rfl rfl fun W hW=>?_
  conv=>lhs;whnf
  apply hW.w (hr)
  conv=>lhs;whnf
  repeat((first|apply hW.t|apply hW.f|(apply hW.q;exact rqc)|(refine hW.w (cA ?_) ?_;omega));conv=>lhs;whnf)
  rfl
 |some p =>
  obtain⟨n,c,ok⟩:=p
  rw[hd]at hr
  cases ok with
  |false =>
   refine hE.run rfl rfl fun W hW=>?_
   conv=>lhs;whnf
   apply hW.w (hr)
   conv=>lhs;whnf
   repeat((first|apply hW.t|apply hW.f|(apply hW.q;exact rqc)|(refine hW.w (cA ?_) ?_;omega));conv=>lhs;whnf)
   rfl
  |true =>
   refine hE.run rfl rfl fun W hW=>?_
   conv=>lhs;whnf
   apply hW.w (hr)
   conv=>lhs;whnf
   repeat((first|apply hW.t|apply hW.f|(apply hW.q;exact rqc));conv=>lhs;whnf)
   apply hW.b<;>intro g1<;>conv=>lhs;whnf
   ·have g1:¬ n≤1000000000000:=by simp[rN]at g1;omega
    repeat((first|apply hW.t|apply hW.f|(apply hW.q;exact rqc));conv=>lhs;whnf)
    rw[show(match (some (n,c,true):Option (Nat × Nat × Bool)) with|some (n,c,true)=>if n≤1000000000000 then some (n,c) else none|_=>none)=none from if_neg g1]
    rfl
   ·have g1:n≤1000000000000:=by simp[rN]at g1;omega
    repeat((first|apply hW.t|apply hW.f|(apply hW.q;exact rqc));conv=>lhs;whnf)
    rw[show(match (some (n,c,true):Option (Nat × Nat × Bool)) with|some (n,c,true)=>if n≤1000000000000 then some (n,c) else none|_=>none)=some (n,c) from if_pos g1]
    rfl
theorem aHn {b:aE} {a:Nat} (h:rdN 6 b a=none):gV (b.drop a)=none:=by unfold gV;rw[show rdF 6 0 0 (b.drop a)=none from h]
theorem aMK {b:aE} {a n c:Nat} {o:Bool} (h:rdN 6 b a=some (n,c,o)) (ho:o=false):gV (b.drop a)=none:=by unfold gV;rw[show rdF 6 0 0 (b.drop a)=_ from h,ho]
theorem aKo {b:aE} {a n c:Nat} {o:Bool} (h:rdN 6 b a=some (n,c,o)) (hn:¬ n≤1000000000000):gV (b.drop a)=none:=by
 unfold gV;rw[show rdF 6 0 0 (b.drop a)=_ from h];cases o
 ·rfl
 ·exact if_neg hn
theorem aHo {b:aE} {a n c:Nat} {o:Bool} (h:rdN 6 b a=some (n,c,o)) (ho:o=true) (hn:n≤1000000000000):gV (b.drop a)=some (n,c):=by
 unfold gV;rw[show rdF 6 0 0 (b.drop a)=_ from h,ho];exact if_pos hn
theorem vY {E:Env} (hE:Sys E) (b:aE) (a:Nat) (hb:b.length≤1099511627776) (ha:a≤1099511627776):E 328 [sv (bys b),iv a]=some ([iv (rN (rdN 8 b a)),iv (rP a (rdN 8 b a)),bv (rO (rdN 8 b a))],[]):=by
 refine hE.run rfl rfl fun W hW=>?_
 conv=>lhs;whnf
 refine hW.loop (σ:=Nat × Nat) (γ:=Nat) (fun i s=>(s.sl 8 (v1 (.t (.int .i64 i.1)))).sl 7 (v1 (.t (.int .i64 i.2)))) (fun i k=>i.1=k∧k≤8∧i.2<128 ^ k∧rdF (8-k) k i.2 (b.drop (a+k))=rdN 8 b a) (fun k=>8-k) (fun _=>([iv (rN (rdN 8 b a)),iv (rP a (rdN 8 b a)),bv (rO (rdN 8 b a))],[])) (0,0) 0 ?_ ?_ ?_ ?_
 ·intro K
  conv=>lhs;whnf
  conv=>rhs;whnf
  try rfl
 ·exact⟨rfl,by omega,by decide,rfl⟩
 ·rintro kl ⟨k,n⟩ _ ⟨rfl,hk,hn,hs⟩ ih
  simp only at hk hn hs
  conv=>lhs;whnf
  apply hW.b<;>intro g1<;>conv=>lhs;whnf
  ·have g1:k<8:=by simp at g1;omega
   rw[show 8-k=(8-(k+1))+1 from by omega]at hs
   repeat((first|apply hW.t|apply hW.f|(apply hW.q;exact rqc));conv=>lhs;whnf)
   rw[aY,show IntKind.i64.wrap ((b.length:Int)-k)=(b.length:Int)-k from aH (by omega)]
   apply hW.b<;>intro g2<;>conv=>lhs;whnf
   ·have hl:b.length≤a+k:=by simp at g2;omega
    rw[List.drop_eq_nil_of_le hl,rdF]at hs
    repeat((first|apply hW.t|apply hW.f|(apply hW.q;exact rqc));conv=>lhs;whnf)
    rw[← hs]
    rfl
   ·have hl:a+k<b.length:=by simp at g2;omega
    rw[List.drop_eq_getElem_cons hl,rdF]at hs
    repeat((first|apply hW.t|apply hW.f|(apply hW.q;exact rqc));conv=>lhs;whnf)
    rw[show IntKind.i64.wrap ((a:Int)+(k:Int))=((a+k:Nat):Int) from(aH (by omega)).trans (by omega)]
    repeat((first|apply hW.t|apply hW.f|(apply hW.q;exact rqc)|(refine hW.w (cA ?_) ?_;omega));conv=>lhs;whnf)
    have hx:(b[a+k]).toNat<256:=(b[a+k]).toNat_lt
    refine hW.q (by exact(show(0:Int)≤w64 (7*(k:Int)) from by rw[aH (by omega)];omega)) ?_
    conv=>lhs;whnf
    repeat((first|apply hW.t|apply hW.f|(apply hW.q;exact rqc));conv=>lhs;whnf)
    rw[aHm,(nV (a:=(b[a+k]).toNat%128) (by omega) hn (by omega)).1,aAZ]
    apply hW.b<;>intro g3<;>conv=>lhs;whnf
    ·have g3:(b[a+k]).toNat<128:=by simp at g3;omega
     rw[if_pos g3]at hs
     rw[Nat.mod_eq_of_lt g3,show IntKind.i64.wrap ((a:Int)+(k:Int))=((a+k:Nat):Int) from(aH (by omega)).trans (by omega),show IntKind.i64.wrap (((a+k:Nat):Int)+1)=((a+(k+1):Nat):Int) from(aH (by omega)).trans (by omega)]
     apply hW.b<;>intro g4<;>conv=>lhs;whnf
     ·repeat((first|apply hW.t|apply hW.f|(apply hW.q;exact rqc));conv=>lhs;whnf)
      rw[← hs,show decide (0<(b[a+k]).toNat)=true from by simp at g4 ⊢;omega,Bool.or_true]
      rfl
     ·repeat((first|apply hW.t|apply hW.f|(apply hW.q;exact rqc));conv=>lhs;whnf)
      rw[← hs,show decide (0<(b[a+k]).toNat)=false from by simp at g4 ⊢;omega,Bool.or_false]
      simp only[rN,rP,rO]
      rw[show decide ((k:Int)=0)=decide (k=0) from decide_eq_decide.mpr (by omega)]
      rfl
    ·have g3:¬ (b[a+k]).toNat<128:=by simp at g3;omega
     rw[if_neg g3]at hs
     repeat((first|apply hW.t|apply hW.f|(apply hW.q;exact rqc));conv=>lhs;whnf)
     refine ih (k+1,n+(b[a+k]).toNat%128*128 ^ k) (k+1) _ ?_ ⟨rfl,by omega,(nV (by omega) hn (by omega)).2,hs⟩ (by omega)
     intro K
     conv=>lhs;whnf
     conv=>rhs;whnf
     try rfl
     rw[show IntKind.i64.wrap ((k:Int)+1)=_ from aI (by omega)]
     try rfl
  ·have:k=8:=by simp at g1;omega
   subst this
   rw[Nat.sub_self,rdF]at hs
   repeat((first|apply hW.t|apply hW.f|(apply hW.q;exact rqc));conv=>lhs;whnf)
   rw[← hs]
   rfl
 ·rfl
theorem bU {E:Env} (hE:Sys E) (b:aE) (a:Nat) (hb:b.length≤1099511627776) (ha:a≤1099511627776):E 324 [sv (bys b),iv a]=some ([iv (vN (gV (b.drop a))),iv (vP a (gV (b.drop a))),bv (gV (b.drop a)).isSome],[]):=by
 refine hE.run rfl rfl fun W hW=>?_
 conv=>lhs;whnf
 refine hW.loop (σ:=Nat × Nat) (γ:=Nat) (fun i s=>(s.sl 8 (v1 (.t (.int .i64 i.1)))).sl 7 (v1 (.t (.int .i64 i.2)))) (fun i k=>i.1=k∧k≤6∧i.2<128 ^ k∧rdF (6-k) k i.2 (b.drop (a+k))=rdN 6 b a) (fun k=>6-k) (fun _=>([iv (vN (gV (b.drop a))),iv (vP a (gV (b.drop a))),bv (gV (b.drop a)).isSome],[])) (0,0) 0 ?_ ?_ ?_ ?_
 ·intro K
  conv=>lhs;whnf
  conv=>rhs;whnf
  try rfl
 ·exact⟨rfl,by omega,by decide,rfl⟩
 ·rintro kl ⟨k,n⟩ _ ⟨rfl,hk,hn,hs⟩ ih
  simp only at hk hn hs
  conv=>lhs;whnf
  apply hW.b<;>intro g1<;>conv=>lhs;whnf
  ·have g1:k<6:=by simp at g1;omega
   rw[show 6-k=(6-(k+1))+1 from by omega]at hs
   repeat((first|apply hW.t|apply hW.f|(apply hW.q;exact rqc));conv=>lhs;whnf)
   rw[aY,show IntKind.i64.wrap ((b.length:Int)-k)=(b.length:Int)-k from aH (by omega)]
   apply hW.b<;>intro g2<;>conv=>lhs;whnf
   ·have hl:b.length≤a+k:=by simp at g2;omega
    rw[List.drop_eq_nil_of_le hl,rdF]at hs
    repeat((first|apply hW.t|apply hW.f|(apply hW.q;exact rqc));conv=>lhs;whnf)
    rw[aHn hs.symm]
    rfl
   ·have hl:a+k<b.length:=by simp at g2;omega
    rw[List.drop_eq_getElem_cons hl,rdF]at hs
    repeat((first|apply hW.t|apply hW.f|(apply hW.q;exact rqc));conv=>lhs;whnf)
    rw[show IntKind.i64.wrap ((a:Int)+(k:Int))=((a+k:Nat):Int) from(aH (by omega)).trans (by omega)]
    repeat((first|apply hW.t|apply hW.f|(apply hW.q;exact rqc)|(refine hW.w (cA ?_) ?_;omega));conv=>lhs;whnf)
    have hx:(b[a+k]).toNat<256:=(b[a+k]).toNat_lt
    refine hW.q (by exact(show(0:Int)≤w64 (7*(k:Int)) from by rw[aH (by omega)];omega)) ?_
    conv=>lhs;whnf
    repeat((first|apply hW.t|apply hW.f|(apply hW.q;exact rqc));conv=>lhs;whnf)
    rw[aHm,(nV (a:=(b[a+k]).toNat%128) (by omega) hn (by omega)).1,aAZ]
    apply hW.b<;>intro g3<;>conv=>lhs;whnf
    ·have g3:(b[a+k]).toNat<128:=by simp at g3;omega
     rw[if_pos g3]at hs
     rw[Nat.mod_eq_of_lt g3]
     have hq:n+(b[a+k]).toNat*128 ^ k<562949953421312:=by
      have:=(nV (a:=(b[a+k]).toNat) (by omega) hn g3).2
      have:=aCf (k:=k+1) (by omega)
      omega
     apply hW.b<;>intro g4<;>conv=>lhs;whnf
     ·repeat((first|apply hW.t|apply hW.f|(apply hW.q;exact rqc));conv=>lhs;whnf)
      apply hW.b<;>intro g5<;>conv=>lhs;whnf
      ·repeat((first|apply hW.t|apply hW.f|(apply hW.q;exact rqc));conv=>lhs;whnf)
       rw[aMK hs.symm (by simp at g4 g5 ⊢;omega)]
       rfl
      ·repeat((first|apply hW.t|apply hW.f|(apply hW.q;exact rqc));conv=>lhs;whnf)
       apply hW.b<;>intro g6<;>conv=>lhs;whnf
       ·repeat((first|apply hW.t|apply hW.f|(apply hW.q;exact rqc));conv=>lhs;whnf)
        rw[aKo hs.symm (by have g6:=of_decide_eq_true g6;omega)]
        rfl
       ·repeat((first|apply hW.t|apply hW.f|(apply hW.q;exact rqc));conv=>lhs;whnf)
        rw[show IntKind.i64.wrap ((a:Int)+(k:Int))=((a+k:Nat):Int) from(aH (by omega)).trans (by omega),show IntKind.i64.wrap (((a+k:Nat):Int)+1)=((a+(k+1):Nat):Int) from(aH (by omega)).trans (by omega),aHo hs.symm (by simp at g4 g5 ⊢;omega) (by have g6:=of_decide_eq_false g6;omega)]
        rfl
     ·repeat((first|apply hW.t|apply hW.f|(apply hW.q;exact rqc));conv=>lhs;whnf)
      apply hW.b<;>intro g6<;>conv=>lhs;whnf
      ·repeat((first|apply hW.t|apply hW.f|(apply hW.q;exact rqc));conv=>lhs;whnf)
       rw[aKo hs.symm (by have g6:=of_decide_eq_true g6;omega)]
       rfl
      ·repeat((first|apply hW.t|apply hW.f|(apply hW.q;exact rqc));conv=>lhs;whnf)
       rw[show IntKind.i64.wrap ((a:Int)+(k:Int))=((a+k:Nat):Int) from(aH (by omega)).trans (by omega),show IntKind.i64.wrap (((a+k:Nat):Int)+1)=((a+(k+1):Nat):Int) from(aH (by omega)).trans (by omega),aHo hs.symm (by simp at g4 ⊢;omega) (by have g6:=of_decide_eq_false g6;omega)]
       rfl
    ·have g3:¬ (b[a+k]).toNat<128:=by simp at g3;omega
     rw[if_neg g3]at hs
     repeat((first|apply hW.t|apply hW.f|(apply hW.q;exact rqc));conv=>lhs;whnf)
     refine ih (k+1,n+(b[a+k]).toNat%128*128 ^ k) (k+1) _ ?_ ⟨rfl,by omega,(nV (by omega) hn (by omega)).2,hs⟩ (by omega)
     intro K
     conv=>lhs;whnf
     conv=>rhs;whnf
     try rfl
     rw[show IntKind.i64.wrap ((k:Int)+1)=_ from aI (by omega)]
     try rfl
  ·have:k=6:=by simp at g1;omega
   subst this
   rw[Nat.sub_self,rdF]at hs
   repeat((first|apply hW.t|apply hW.f|(apply hW.q;exact rqc));conv=>lhs;whnf)
   rw[aHn hs.symm]
   rfl
 ·rfl
theorem aLG:∀ {m k n:Nat} {l:aE} {x c:Nat} {o:Bool},rdF m k n l=some (x,c,o)→k<c∧c≤k+m∧c≤k+l.length:=by
 intro m
 induction m with
 |zero=>intro k n l x c o h;cases h
 |succ m ih =>
  intro k n l x c o h
  cases l with
  |nil=>cases h
  |cons y t =>
   simp only[rdF]at h
   split at h
   ·obtain⟨rfl,rfl,rfl⟩:_∧_∧_:=by simpa using h
    simp only[List.length_cons];omega
   ·have:=ih h
    simp only[List.length_cons];omega
theorem yC {b:aE} {a n c:Nat} (h:gV (b.drop a)=some (n,c)):1≤c∧c≤6∧a+c≤b.length∧n≤1000000000000:=by
 unfold gV at h
 split at h
 ·rename_i x y he
  split at h
  ·obtain⟨rfl,rfl⟩:_∧_:=by simpa using h
   have:=aLG he
   simp only[List.length_drop]at this
   omega
  ·cases h
 ·cases h
def gVa:Nat→aE→Nat→List Int→Option (List Int × Nat)
 |0,_,a,acc=>some (acc,a)
 |k+1,b,a,acc=>match gV (b.drop a) with|none=>none|some p=>gVa k b (a+p.2) (acc++[(p.1:Int)])
def laL (o:Option (List Int × Nat)):List Int:=match o with|some p=>p.1|none=>[]
def laP (o:Option (List Int × Nat)):Int:=match o with|some p=>(p.2:Int)|none=>0
theorem gX {E:Env} (hE:Sys E) (b:aE) (a k:Nat) (hb:b.length≤1048576) (ha:a≤1048576) (hk:k≤8):E 334 [sv (bys b),iv a,iv k]=some ([ov 1 (bZ (laL (gVa k b a []))),iv (laP (gVa k b a [])),bv (gVa k b a []).isSome],[]):=by
 refine hE.run rfl rfl fun W hW=>?_
 conv=>lhs;whnf
 refine hW.loop (σ:=Nat × Nat × List Int) (γ:=Nat) (fun i s=>((s.sl 15 (v1 (.t (.int .i64 i.1)))).sl 1 (v1 (.t (.int .i64 i.2.1)))).bl ⟨50900,1, .own,bZ i.2.2⟩) (fun i m=>i.1=m∧m≤k∧i.2.1≤1048576∧i.2.2.length≤m∧gVa (k-m) b i.2.1 i.2.2=gVa k b a []) (fun m=>k-m) (fun _=>([ov 1 (bZ (laL (gVa k b a []))),iv (laP (gVa k b a [])),bv (gVa k b a []).isSome],[])) (0,a,[]) 0 ?_ ?_ ?_ ?_
 ·intro K
  conv=>lhs;whnf
  conv=>rhs;whnf
  try rfl
 ·exact⟨rfl,by omega,ha,by simp,rfl⟩
 ·rintro kl ⟨m,p,acc⟩ _ ⟨rfl,hm,hp,hl,hs⟩ ih
  simp only at hs hm hl hp
  conv=>lhs;whnf
  apply hW.b<;>intro h1<;>conv=>lhs;whnf
  ·have h1:m<k:=by simp at h1;omega
   rw[show k-m=(k-(m+1))+1 from by omega,gVa]at hs
   repeat((first|apply hW.t|apply hW.f|(apply hW.q;exact rqc));conv=>lhs;whnf)
   apply hW.w (gI hE b p (by omega) (by omega))
   conv=>lhs;whnf
   try(apply hW.q;exact rqc;conv=>lhs;whnf)
   cases hg:gV (b.drop p) with
   |none =>
    rw[hg]at hs
    repeat((first|apply hW.t|apply hW.f|(apply hW.q;exact rqc));conv=>lhs;whnf)
    rw[← hs]
    rfl
   |some q =>
    obtain⟨n,c⟩:=q
    rw[hg]at hs
    have hc:=yC hg
    repeat((first|apply hW.t|apply hW.f|(apply hW.q;exact rqc));conv=>lhs;whnf)
    refine hW.q (by exact⟨by decide,by intro e he;simp at he;subst he;rfl,by simp[bZ];omega,by simp[bZ];omega⟩) ?_
    conv=>lhs;whnf
    repeat((first|apply hW.t|apply hW.f|(apply hW.q;exact rqc));conv=>lhs;whnf)
    refine ih (m+1,p+c,acc++[(n:Int)]) (m+1) _ ?_ ⟨rfl,by omega,by simp only;omega,by simp;omega,hs⟩ (by omega)
    intro K
    conv=>lhs;whnf
    conv=>rhs;whnf
    try rfl
    rw[show IntKind.i64.wrap ((m:Int)+1)=_ from aI (by omega)]
    simp[bZ,rM,vN,vP]
  ·have:m=k:=by simp at h1;omega
   subst this
   rw[Nat.sub_self,gVa]at hs
   repeat((first|apply hW.t|apply hW.f|(apply hW.q;exact rqc));conv=>lhs;whnf)
   rw[← hs]
   rfl
 ·rfl
def gP (b:aE) (a most:Nat):Option (aE × Nat):=match gV (b.drop a) with|none=>none|some q=>if q.1≤most∧q.1+(a+q.2)≤b.length then some ((b.drop (a+q.2)).take q.1,a+q.2+q.1) else none
def paB (o:Option (aE × Nat)):aE:=match o with|some p=>p.1|none=>[]
def paP (o:Option (aE × Nat)):Int:=match o with|some p=>(p.2:Int)|none=>0
theorem vZ {E:Env} (hE:Sys E) (b:aE) (a n:Nat) (h0:b.length≤1048576) (h1:a≤b.length) (h3:¬ a+n≤b.length):E 255 [sv (bys b),iv a,iv n]=some ([ov 1 (bys []),bv false],[]):=by
 have ha:=bI hE a 0 b.length
 have hb:=bI hE n 0 (b.length-a)
 rw[show bK a 0 b.length=true from by simp[bK];omega]at ha
 rw[show bK n 0 (b.length-a)=false from by simp[bK];omega]at hb
 refine hE.run rfl rfl fun W hW=>?_
 conv=>lhs;whnf
 rw[aY]
 apply hW.w (ha)
 conv=>lhs;whnf
 repeat((first|apply hW.t|apply hW.f|(apply hW.q;exact rqc));conv=>lhs;whnf)
 rw[aY]
 rw[show IntKind.i64.wrap ((b.length:Int)-a)=b.length-a from aH (by omega)]
 apply hW.w (hb)
 conv=>lhs;whnf
 repeat((first|apply hW.t|apply hW.f|(apply hW.q;exact rqc));conv=>lhs;whnf)
 rfl
theorem yD {E:Env} (hE:Sys E) (b:aE) (a most:Nat) (hb:b.length≤1048576) (ha:a≤1048576) (hm:most≤1048576):E 335 [sv (bys b),iv a,iv most]=some ([ov 1 (bys (paB (gP b a most))),iv (paP (gP b a most)),bv (gP b a most).isSome],[]):=by
 have hr:=gI hE b a (by omega) (by omega)
 unfold gP
 cases hg:gV (b.drop a) with
 |none =>
  rw[hg]at hr
  refine hE.run rfl rfl fun W hW=>?_
  conv=>lhs;whnf
  apply hW.w (hr)
  conv=>lhs;whnf
  repeat((first|apply hW.t|apply hW.f|(apply hW.q;exact rqc));conv=>lhs;whnf)
  rfl
 |some q =>
  obtain⟨n,c⟩:=q
  rw[hg]at hr
  have hc:=yC hg
  simp only
  refine hE.run rfl rfl fun W hW=>?_
  conv=>lhs;whnf
  apply hW.w (hr)
  conv=>lhs;whnf
  repeat((first|apply hW.t|apply hW.f|(apply hW.q;exact rqc));conv=>lhs;whnf)
  apply hW.b<;>intro g1<;>conv=>lhs;whnf
  ·have g1:¬ n≤most:=by simp[vN]at g1;omega
   repeat((first|apply hW.t|apply hW.f|(apply hW.q;exact rqc));conv=>lhs;whnf)
   rw[if_neg (by omega)]
   rfl
  ·have g1:n≤most:=by simp[vN]at g1;omega
   repeat((first|apply hW.t|apply hW.f|(apply hW.q;exact rqc));conv=>lhs;whnf)
   by_cases g2:a+c+n≤b.length
   ·apply hW.w (rV hE b (a+c:Nat) n (by omega) (by omega) (by omega) (by omega))
    conv=>lhs;whnf
    repeat((first|apply hW.t|apply hW.f|(apply hW.q;exact rqc));conv=>lhs;whnf)
    rw[if_pos ⟨g1,by omega⟩,show IntKind.i64.wrap (vP a (some (n,c))+vN (some (n,c)))=((a+c+n:Nat):Int) from by simp only[vP,vN];exact(aH (by omega)).trans (by omega)]
    rfl
   ·apply hW.w (vZ hE b (a+c) n (by omega) (by omega) (by omega))
    conv=>lhs;whnf
    repeat((first|apply hW.t|apply hW.f|(apply hW.q;exact rqc));conv=>lhs;whnf)
    rw[if_neg (by omega)]
    rfl
theorem nE {E:Env} (hE:Sys E) (b:aE) (a most:Nat) (hb:b.length≤1048576) (ha:a≤1048576) (hm:most≤1048576):E 327 [sv (bys b),iv a,iv most]=some ([ov 1 (bys (paB (gP b a most))),iv (paP (gP b a most)),bv (gP b a most).isSome],[]):=by
 have hr:=bU hE b a (by omega) (by omega)
 unfold gP
 cases hg:gV (b.drop a) with
 |none =>
  rw[hg]at hr
  refine hE.run rfl rfl fun W hW=>?_
  conv=>lhs;whnf
  apply hW.w (hr)
  conv=>lhs;whnf
  repeat((first|apply hW.t|apply hW.f|(apply hW.q;exact rqc));conv=>lhs;whnf)
  rfl
 |some q =>
  obtain⟨n,c⟩:=q
  rw[hg]at hr
  have hc:=yC hg
  simp only
  refine hE.run rfl rfl fun W hW=>?_
  conv=>lhs;whnf
  apply hW.w (hr)
  conv=>lhs;whnf
  repeat((first|apply hW.t|apply hW.f|(apply hW.q;exact rqc));conv=>lhs;whnf)
  apply hW.b<;>intro g1<;>conv=>lhs;whnf
  ·have g1:¬ n≤most:=by simp[vN]at g1;omega
   repeat((first|apply hW.t|apply hW.f|(apply hW.q;exact rqc));conv=>lhs;whnf)
   rw[if_neg (by omega)]
   rfl
  ·have g1:n≤most:=by simp[vN]at g1;omega
   repeat((first|apply hW.t|apply hW.f|(apply hW.q;exact rqc));conv=>lhs;whnf)
   rw[aY,show IntKind.i64.wrap ((b.length:Int)-vP a (some (n,c)))=((b.length-(a+c):Nat):Int) from by simp only[vP];exact(aH (by omega)).trans (by omega)]
   apply hW.b<;>intro g2<;>conv=>lhs;whnf
   ·have g2:¬ a+c+n≤b.length:=by simp[vN]at g2;omega
    repeat((first|apply hW.t|apply hW.f|(apply hW.q;exact rqc));conv=>lhs;whnf)
    rw[if_neg (by omega)]
    rfl
   ·have g2:a+c+n≤b.length:=by simp[vN]at g2;omega
    rw[if_pos ⟨g1,by omega⟩]
    repeat((first|apply hW.t|apply hW.f|(apply hW.q;exact rqc));conv=>lhs;whnf)
    rw[show IntKind.i64.wrap (vP a (some (n,c))+vN (some (n,c)))=((a+c+n:Nat):Int) from by simp only[vP,vN];exact(aH (by omega)).trans (by omega),show vP a (some (n,c))=((a+c:Nat):Int) from rfl]
    repeat((first|apply hW.t|apply hW.f|(apply hW.q;exact rqc));conv=>lhs;whnf)
    refine hW.q (by exact⟨by omega,by rw[aF];omega,bA b⟩) ?_
    conv=>lhs;whnf
    rw[eU]
    repeat((first|apply hW.t|apply hW.f|(apply hW.q;exact rqc));conv=>lhs;whnf)
    refine hW.q (by exact⟨by decide,bA _,by simp[aF];omega,by simp[aF];omega⟩) ?_
    conv=>lhs;whnf
    repeat((first|apply hW.t|apply hW.f|(apply hW.q;exact rqc));conv=>lhs;whnf)
    rw[show((a+c+n:Nat):Int).toNat-((a+c:Nat):Int).toNat=n from by omega]
    apply hW.bt (cW _)
    conv=>lhs;whnf
    repeat((first|apply hW.t|apply hW.f|(apply hW.q;exact rqc));conv=>lhs;whnf)
    rw[show IntKind.i64.wrap (((a+c:Nat):Int)+vN (some (n,c)))=((a+c+n:Nat):Int) from by simp only[vN];exact(aH (by omega)).trans (by omega)]
    rfl
def vQ (a:Nat) (o:Option (Nat × Nat)):Nat:=match o with|some p=>a+p.2|none=>0
theorem vP_q (a:Nat) (o:Option (Nat × Nat)):vP a o=(vQ a o:Int):=by cases o<;>rfl
theorem aML {b:aE} {a:Nat}:vQ a (gV (b.drop a))≤b.length:=by
 cases h:gV (b.drop a) with
 |none=>exact Nat.zero_le _
 |some q=>exact(yC h).2.2.1
theorem aNz {b:aE} {a n c:Nat} (h:gS (b.drop a)=some (n,c)):1≤c∧a+c≤b.length∧rdN 8 b a=some (n,c,true):=by
 unfold gS at h
 split at h
 ·rename_i x y he
  obtain⟨rfl,rfl⟩:_∧_:=by simpa using h
  have:=aLG he
  simp only[List.length_drop]at this
  exact⟨by omega,by omega,he⟩
 ·cases h
theorem aMM {b:aE} {a:Nat} (h:gS (b.drop a)=none):rO (rdN 8 b a)=false:=by
 unfold gS at h
 unfold rdN
 split at h
 ·cases h
 ·rename_i hn
  cases hr:rdF 8 0 0 (b.drop a) with
  |none=>rfl
  |some p =>
   obtain⟨x,c,o⟩:=p
   cases o with
   |false=>rfl
   |true=>exact absurd hr (hn _ _)
def aHp (s:Nat):Sum:=⟨(bG (bN s)).w,s⟩
def sMs:Nat→aE→Nat→List Sum→Option (List Sum × Nat)
 |0,_,a,acc=>some (acc,a)
 |k+1,b,a,acc=>match gS (b.drop a) with|none=>none|some p=>sMs k b (a+p.2) (acc++[aHp p.1])
def iMs:Nat→aE→Nat→List Sum→Option (List Sum × Nat)
 |0,_,a,acc=>some (acc,a)
 |k+1,b,a,acc=>match gS (b.drop a) with|none=>none|some p=>if bR p.1=true then iMs k b (a+p.2) (acc++[bG (bN p.1)]) else none
def yE (g s n:Int) (o:Option (List Sum × Nat)):Option (Man × Nat):=match o with|none=>none|some (l,q)=>if aZ ⟨g,s,n,l⟩=true then some (⟨g,s,n,l⟩,q) else none
theorem aA0 {g s n:Int} {l:List Sum} {q:Nat} (h:aZ ⟨g,s,n,l⟩=true):yE g s n (some (l,q))=some (⟨g,s,n,l⟩,q):=if_pos h
theorem aDc {g s n:Int} {l:List Sum} {q:Nat} (h:aZ ⟨g,s,n,l⟩=false):yE g s n (some (l,q))=none:=if_neg (by rw[h];decide)
def aA9 (b:aE) (a:Nat):Option (Man × Nat) :=
 match gV (b.drop a) with
 |none=>none
 |some (g,c1)=>match gV (b.drop (a+c1)) with
  |none=>none
  |some (s,c2)=>match gV (b.drop (a+c1+c2)) with
   |none=>none
   |some (n,c3)=>yE g s n (sMs (if 0<g then(bD s n).toNat else 0) b (a+c1+c2+c3) [])
def maM (o:Option (Man × Nat)):Man:=match o with|some p=>p.1|none=>⟨0,0,0,[]⟩
def maP (o:Option (Man × Nat)):Int:=match o with|some p=>(p.2:Int)|none=>0
theorem aA1 {E:Env} (hE:Sys E) (b:aE) (a:Nat) (hb:b.length≤1048576) (ha:a≤1048576):E 326 [sv (bys b),iv a]=some ([gv ((maM (aA9 b a)).cs dY),iv (maP (aA9 b a)),bv (aA9 b a).isSome],[]):=by
 have r1:=bU hE b a (by omega) (by omega)
 have q1:vQ a (gV (b.drop a))≤b.length:=aML
 have r2:=bU hE b (vQ a (gV (b.drop a))) (by omega) (by omega)
 have q2:vQ (vQ a (gV (b.drop a))) (gV (b.drop (vQ a (gV (b.drop a)))))≤b.length:=aML
 have r3:=bU hE b (vQ (vQ a (gV (b.drop a))) (gV (b.drop (vQ a (gV (b.drop a)))))) (by omega) (by omega)
 rw[vP_q]at r1 r2 r3
 unfold aA9
 cases h1:gV (b.drop a) with
 |none =>
  rw[h1]at r1 r2 r3
  simp only
  refine hE.run rfl rfl fun W hW=>?_
  conv=>lhs;whnf
  repeat'((first|apply hW.t|apply hW.f|(apply hW.q;exact rqc)|apply hW.w (r1)|apply hW.w (r2)|apply hW.w (r3)|(apply hW.b<;>intro h))<;>conv=>lhs;whnf)
  rfl
 |some p1 =>
  obtain⟨g,c1⟩:=p1
  have f1:=yC h1
  rw[h1]at r1 r2 r3 q1 q2
  rw[show vQ a (some (g,c1))=a+c1 from rfl]at r1 r2 r3 q2
  simp only
  cases h2:gV (b.drop (a+c1)) with
  |none =>
   rw[h2]at r2 r3
   simp only
   refine hE.run rfl rfl fun W hW=>?_
   conv=>lhs;whnf
   repeat'((first|apply hW.t|apply hW.f|(apply hW.q;exact rqc)|apply hW.w (r1)|apply hW.w (r2)|apply hW.w (r3)|(apply hW.b<;>intro h))<;>conv=>lhs;whnf)
   rfl
  |some p2 =>
   obtain⟨s,c2⟩:=p2
   have f2:=yC h2
   rw[h2]at r2 r3 q2
   rw[show vQ (a+c1) (some (s,c2))=a+c1+c2 from rfl]at r2 r3
   simp only
   cases h3:gV (b.drop (a+c1+c2)) with
   |none =>
    rw[h3]at r3
    simp only
    refine hE.run rfl rfl fun W hW=>?_
    conv=>lhs;whnf
    repeat'((first|apply hW.t|apply hW.f|(apply hW.q;exact rqc)|apply hW.w (r1)|apply hW.w (r2)|apply hW.w (r3)|(apply hW.b<;>intro h))<;>conv=>lhs;whnf)
    rfl
   |some p3 =>
    obtain⟨n,c3⟩:=p3
    have f3:=yC h3
    rw[h3]at r3
    rw[show vQ (a+c1+c2) (some (n,c3))=a+c1+c2+c3 from rfl]at r3
    simp only
    have hB:=iP (s:Int) (n:Int)
    obtain⟨nb,hnb⟩:∃ nb:Nat,bD (s:Int) (n:Int)=nb:=⟨(bD (s:Int) (n:Int)).toNat,by omega⟩
    rw[hnb,Int.toNat_natCast]
    refine hE.run rfl rfl fun W hW=>?_
    conv=>lhs;whnf
    repeat'((first|apply hW.t|apply hW.f|(apply hW.q;exact rqc)|apply hW.w (r1)|apply hW.w (r2)|apply hW.w (r3)|(apply hW.b<;>intro h))<;>conv=>lhs;whnf)
    obtain⟨K,hK⟩:∃ K:Nat,K=if 0<g then nb else 0:=⟨_,rfl⟩
    rw[← hK]
    have hK40:K≤40:=by rw[hK];split<;>omega
    have fv:vN (some (g,c1))=(g:Int):=rfl
    have fs:vN (some (s,c2))=(s:Int):=rfl
    have fn:vN (some (n,c3))=(n:Int):=rfl
    rw[fv,fs,fn]
    generalize hR:yE g s n (sMs K b (a+c1+c2+c3) [])=R
    refine hW.loop (σ:=Nat × Nat × List Sum) (γ:=Nat) (fun i s'=>(((s'.sl 18 (v1 (.t (.int .i64 i.1)))).sl 15 (v1 (.t (.int .i64 i.2.1)))).sl 17 (.box true [.t (.int .i64 g), .t (.int .i64 s), .t (.int .i64 n), .blk 51703])).bl ⟨51703,2, .own,i.2.2.map Sum.row⟩) (fun i m=>i.1=m∧m≤K∧i.2.1≤1048576∧i.2.2.length≤m∧yE g s n (sMs (K-m) b i.2.1 i.2.2)=R) (fun m=>K-m) (fun _=>([gv ((maM R).cs dY),iv (maP R),bv R.isSome],[])) (0,a+c1+c2+c3,[]) 0 ?_ ?_ ?_ ?_
    ·intro K
     conv=>lhs;whnf
     conv=>rhs;whnf
     try rfl
    ·exact⟨rfl,by omega,by simp only;omega,by simp,hR⟩
    ·rintro kl ⟨m,p,acc⟩ _ ⟨rfl,hm,hp,hl,hs⟩ ih
     simp only at hs hm hl hp
     conv=>lhs;whnf
     apply hW.w ((eR hE s n))
     conv=>lhs;whnf
     try(apply hW.q;exact rqc;conv=>lhs;whnf)
     rw[hnb]
     apply hW.b<;>intro g1<;>conv=>lhs;whnf
     ·have g1:m<nb:=by simp at g1;omega
      repeat((first|apply hW.t|apply hW.f|(apply hW.q;exact rqc));conv=>lhs;whnf)
      apply hW.b<;>intro g2<;>conv=>lhs;whnf
      ·have g2:0<g:=by simp at g2;omega
       rw[if_pos g2]at hK
       rw[show K-m=(K-(m+1))+1 from by omega,sMs]at hs
       repeat((first|apply hW.t|apply hW.f|(apply hW.q;exact rqc));conv=>lhs;whnf)
       have rg:=vY hE b p (by omega) (by omega)
       cases hg:gS (b.drop p) with
       |none =>
        rw[hg]at hs
        rw[aMM hg]at rg
        apply hW.w (rg)
        conv=>lhs;whnf
        repeat((first|apply hW.t|apply hW.f|(apply hW.q;exact rqc));conv=>lhs;whnf)
        rw[← hs]
        rfl
       |some q =>
        obtain⟨x,c⟩:=q
        rw[hg]at hs
        have hc:=aNz hg
        rw[hc.2.2]at rg
        apply hW.w (rg)
        conv=>lhs;whnf
        repeat((first|apply hW.t|apply hW.f|(apply hW.q;exact rqc));conv=>lhs;whnf)
        apply hW.w (mR hE x)
        conv=>lhs;whnf
        repeat((first|apply hW.t|apply hW.f|(apply hW.q;exact rqc));conv=>lhs;whnf)
        apply hW.w (dO hE (bN x) (Nat.le_trans (gK x) (by decide)))
        conv=>lhs;whnf
        repeat((first|apply hW.t|apply hW.f|(apply hW.q;exact rqc));conv=>lhs;whnf)
        refine hW.q (by exact⟨by decide,by intro e he;simp at he;subst he;rfl,by simp;omega,by simp;omega⟩) ?_
        conv=>lhs;whnf
        repeat((first|apply hW.t|apply hW.f|(apply hW.q;exact rqc));conv=>lhs;whnf)
        refine ih (m+1,p+c,acc++[aHp x]) (m+1) _ ?_ ⟨rfl,by omega,by simp only;omega,by simp;omega,hs⟩ (by omega)
        intro K
        conv=>lhs;whnf
        conv=>rhs;whnf
        try rfl
        rw[show IntKind.i64.wrap ((m:Int)+1)=_ from aI (by omega)]
        rw[List.map_append]
        rfl
      ·have g2:¬ 0<g:=by simp at g2;omega
       rw[if_neg g2]at hK
       have:m=K:=by omega
       subst this
       rw[Nat.sub_self,sMs]at hs
       repeat((first|apply hW.t|apply hW.f|(apply hW.q;exact rqc));conv=>lhs;whnf)
       have rm:=dB hE ⟨g,s,n,acc⟩ (by simp only;omega)
       cases hok:aZ ⟨g,s,n,acc⟩ with
       |true =>
        rw[hok]at rm
        rw[aA0 hok]at hs
        apply hW.w (rm)
        conv=>lhs;whnf
        repeat((first|apply hW.t|apply hW.f|(apply hW.q;exact rqc));conv=>lhs;whnf)
        rw[← hs]
        rfl
       |false =>
        rw[hok]at rm
        rw[aDc hok]at hs
        apply hW.w (rm)
        conv=>lhs;whnf
        repeat((first|apply hW.t|apply hW.f|(apply hW.q;exact rqc));conv=>lhs;whnf)
        rw[← hs]
        rfl
     ·have g1:¬ m<nb:=by simp at g1;omega
      have:m=K:=by
       have:K≤nb:=by rw[hK];split<;>omega
       omega
      subst this
      rw[Nat.sub_self,sMs]at hs
      repeat((first|apply hW.t|apply hW.f|(apply hW.q;exact rqc));conv=>lhs;whnf)
      have rm:=dB hE ⟨g,s,n,acc⟩ (by simp only;omega)
      cases hok:aZ ⟨g,s,n,acc⟩ with
      |true =>
       rw[hok]at rm
       rw[aA0 hok]at hs
       apply hW.w (rm)
       conv=>lhs;whnf
       repeat((first|apply hW.t|apply hW.f|(apply hW.q;exact rqc));conv=>lhs;whnf)
       rw[← hs]
       rfl
      |false =>
       rw[hok]at rm
       rw[aDc hok]at hs
       apply hW.w (rm)
       conv=>lhs;whnf
       repeat((first|apply hW.t|apply hW.f|(apply hW.q;exact rqc));conv=>lhs;whnf)
       rw[← hs]
       rfl
    ·rfl
def aFt (b:aE) (a:Nat):Option (Man × Nat) :=
 match gV (b.drop a) with
 |none=>none
 |some (g,c1)=>match gV (b.drop (a+c1)) with
  |none=>none
  |some (s,c2)=>match gV (b.drop (a+c1+c2)) with
   |none=>none
   |some (n,c3)=>yE g s n (iMs (bD s n).toNat b (a+c1+c2+c3) [])
theorem aA2 {E:Env} (hE:Sys E) (b:aE) (a:Nat) (hb:b.length≤1048576) (ha:a≤1048576):E 333 [sv (bys b),iv a]=some ([gv ((maM (aFt b a)).cs dY),iv (maP (aFt b a)),bv (aFt b a).isSome],[]):=by
 have r1:=gX hE b a 3 hb ha (by decide)
 unfold aFt
 cases h1:gV (b.drop a) with
 |none =>
  simp only[gVa,h1]at r1
  simp only
  refine hE.run rfl rfl fun W hW=>?_
  conv=>lhs;whnf
  repeat'((first|apply hW.t|apply hW.f|(apply hW.q;exact rqc)|apply hW.w (r1)|(apply hW.b<;>intro h))<;>conv=>lhs;whnf)
  rfl
 |some p1 =>
  obtain⟨g,c1⟩:=p1
  have f1:=yC h1
  simp only
  cases h2:gV (b.drop (a+c1)) with
  |none =>
   simp only[gVa,h1,h2]at r1
   simp only
   refine hE.run rfl rfl fun W hW=>?_
   conv=>lhs;whnf
   repeat'((first|apply hW.t|apply hW.f|(apply hW.q;exact rqc)|apply hW.w (r1)|(apply hW.b<;>intro h))<;>conv=>lhs;whnf)
   rfl
  |some p2 =>
   obtain⟨s,c2⟩:=p2
   have f2:=yC h2
   simp only
   cases h3:gV (b.drop (a+c1+c2)) with
   |none =>
    simp only[gVa,h1,h2,h3]at r1
    simp only
    refine hE.run rfl rfl fun W hW=>?_
    conv=>lhs;whnf
    repeat'((first|apply hW.t|apply hW.f|(apply hW.q;exact rqc)|apply hW.w (r1)|(apply hW.b<;>intro h))<;>conv=>lhs;whnf)
    rfl
   |some p3 =>
    obtain⟨n,c3⟩:=p3
    have f3:=yC h3
    simp only[gVa,h1,h2,h3,List.nil_append,List.cons_append]at r1
    simp only
    have hB:=iP (s:Int) (n:Int)
    obtain⟨K,hK⟩:∃ K:Nat,bD (s:Int) (n:Int)=K:=⟨(bD (s:Int) (n:Int)).toNat,by omega⟩
    have r2:=eS hE s n
    rw[hK]at r2
    rw[hK,Int.toNat_natCast]
    refine hE.run rfl rfl fun W hW=>?_
    conv=>lhs;whnf
    rw[show laL (some ([(g:Int),s,n],a+c1+c2+c3))=[(g:Int),s,n] from rfl,show laP (some ([(g:Int),s,n],a+c1+c2+c3))=((a+c1+c2+c3:Nat):Int) from rfl]at r1
    have l0:(bZ [(g:Int),s,n])[Int.toNat 0]?=some (rM g):=rfl
    have l1:(bZ [(g:Int),s,n])[Int.toNat 1]?=some (rM s):=rfl
    have l2:(bZ [(g:Int),s,n])[Int.toNat 2]?=some (rM n):=rfl
    repeat'((first|apply hW.t|apply hW.f|(apply hW.q;exact rqc)|apply hW.w (r1)|apply hW.w (r2)|apply hW.w (l0)|apply hW.w (l1)|apply hW.w (l2)|(apply hW.b<;>intro h))<;>conv=>lhs;whnf)
    generalize hR:yE g s n (iMs K b (a+c1+c2+c3) [])=R
    refine hW.loop (σ:=Nat × Nat × List Sum) (γ:=Nat) (fun i s'=>(((s'.sl 40 (v1 (.t (.int .i64 i.1)))).sl 1 (v1 (.t (.int .i64 i.2.1)))).sl 9 (.box true [.t (.int .i64 g), .t (.int .i64 s), .t (.int .i64 n), .blk 50903])).bl ⟨50903,2, .own,i.2.2.map Sum.row⟩) (fun i m=>i.1=m∧m≤K∧i.2.1≤1048576∧i.2.2.length≤m∧yE g s n (iMs (K-m) b i.2.1 i.2.2)=R) (fun m=>K-m) (fun _=>([gv ((maM R).cs dY),iv (maP R),bv R.isSome],[])) (0,a+c1+c2+c3,[]) 0 ?_ ?_ ?_ ?_
    ·intro K
     conv=>lhs;whnf
     conv=>rhs;whnf
     try rfl
    ·exact⟨rfl,by omega,by simp only;omega,by simp,hR⟩
    ·rintro kl ⟨m,p,acc⟩ _ ⟨rfl,hm,hp,hl,hs⟩ ih
     simp only at hs hm hl hp
     conv=>lhs;whnf
     apply hW.b<;>intro g1<;>conv=>lhs;whnf
     ·have g1:m<K:=by simp at g1;omega
      rw[show K-m=(K-(m+1))+1 from by omega,iMs]at hs
      repeat((first|apply hW.t|apply hW.f|(apply hW.q;exact rqc));conv=>lhs;whnf)
      have rg:=nD hE b p 8 (by omega) (by omega) (by decide)
      cases hg:gS (b.drop p) with
      |none =>
       rw[hg]at hs
       rw[aMM hg]at rg
       apply hW.w (rg)
       conv=>lhs;whnf
       repeat((first|apply hW.t|apply hW.f|(apply hW.q;exact rqc));conv=>lhs;whnf)
       apply hW.w (iD hE (rN (rdN 8 b p)))
       conv=>lhs;whnf
       repeat((first|apply hW.t|apply hW.f|(apply hW.q;exact rqc));conv=>lhs;whnf)
       rw[← hs]
       rfl
      |some q =>
       obtain⟨x,c⟩:=q
       rw[hg]at hs
       simp only at hs
       have hc:=aNz hg
       rw[hc.2.2]at rg
       apply hW.w (rg)
       conv=>lhs;whnf
       repeat((first|apply hW.t|apply hW.f|(apply hW.q;exact rqc));conv=>lhs;whnf)
       have rb:=iD hE x
       cases hk:bR (x:Int) with
       |false =>
        rw[hk]at rb
        rw[if_neg (by rw[hk];decide)]at hs
        apply hW.w (rb)
        conv=>lhs;whnf
        repeat((first|apply hW.t|apply hW.f|(apply hW.q;exact rqc));conv=>lhs;whnf)
        rw[← hs]
        rfl
       |true =>
        rw[hk]at rb
        rw[if_pos hk]at hs
        apply hW.w (rb)
        conv=>lhs;whnf
        repeat((first|apply hW.t|apply hW.f|(apply hW.q;exact rqc));conv=>lhs;whnf)
        apply hW.w (fR hE (bN x) (Nat.le_trans (gK x) (by decide)))
        conv=>lhs;whnf
        repeat((first|apply hW.t|apply hW.f|(apply hW.q;exact rqc));conv=>lhs;whnf)
        refine hW.q (by exact⟨by decide,by intro e he;simp at he;subst he;rfl,by simp;omega,by simp;omega⟩) ?_
        conv=>lhs;whnf
        repeat((first|apply hW.t|apply hW.f|(apply hW.q;exact rqc));conv=>lhs;whnf)
        refine ih (m+1,p+c,acc++[bG (bN x)]) (m+1) _ ?_ ⟨rfl,by omega,by simp only;omega,by simp;omega,hs⟩ (by omega)
        intro K
        conv=>lhs;whnf
        conv=>rhs;whnf
        try rfl
        rw[show IntKind.i64.wrap ((m:Int)+1)=_ from aI (by omega)]
        rw[List.map_append]
        rfl
     ·have:m=K:=by simp at g1;omega
      subst this
      rw[Nat.sub_self,iMs]at hs
      repeat((first|apply hW.t|apply hW.f|(apply hW.q;exact rqc));conv=>lhs;whnf)
      have rm:=dP hE ⟨g,s,n,acc⟩ (by simp only;omega)
      cases hok:aZ ⟨g,s,n,acc⟩ with
      |true =>
       rw[hok]at rm
       rw[aA0 hok]at hs
       apply hW.w (rm)
       conv=>lhs;whnf
       repeat((first|apply hW.t|apply hW.f|(apply hW.q;exact rqc));conv=>lhs;whnf)
       rw[← hs]
       rfl
      |false =>
       rw[hok]at rm
       rw[aDc hok]at hs
       apply hW.w (rm)
       conv=>lhs;whnf
       repeat((first|apply hW.t|apply hW.f|(apply hW.q;exact rqc));conv=>lhs;whnf)
       rw[← hs]
       rfl
    ·rfl
def gWa:Nat→aE→Nat→List Int→Option (List Int × Nat)
 |0,_,a,acc=>some (acc,a)
 |k+1,b,a,acc=>match gV (b.drop a) with|none=>none|some p=>if p.1<1048576 then gWa k b (a+p.2) (acc++[(p.1:Int)]) else none
def lL:Man:=⟨0,0,0,[]⟩
def aLH (g:Nat) (o:Option (List Int × Nat)):Option (Msg × Nat):=match o with|some ([w0,w1,d0,d1],q)=>some (⟨2,g,lL,w0+w1*1048576,d0+d1*1048576,0,[]⟩,q)|_=>none
def aNA (g i:Nat) (o:Option (aE × Nat)):Option (Msg × Nat):=match o with|some (p,q)=>some (⟨3,g,lL,0,0,i,p⟩,q)|none=>none
def mMsg (o:Option (Man × Nat)):Option (Msg × Nat):=match o with|some (x,q)=>some (⟨1,0,x,0,0,0,[]⟩,q)|none=>none
def dW (b:aE) (a k:Nat):Option (Msg × Nat) :=
 if k=1 then mMsg (aA9 b a) else
 match gV (b.drop a) with
 |none=>none
 |some (g,c) =>
  if k=2 then aLH g (gWa 4 b (a+c) [])
  else if k=3 then(match gV (b.drop (a+c)) with|none=>none|some (i,d)=>aNA g i (gP b (a+c+d) 6))
  else some (⟨k,g,lL,0,0,0,[]⟩,a+c)
def aCg (E:Env) (b:aE) (a k:Nat):Prop:=∃ r p,E 325 [sv (bys b),iv a,iv k]=some ([gv (Msg.cs dY r),iv p,bv (dW b a k).isSome],[])∧∀ m q,dW b a k=some (m,q)→r=m∧p=(q:Nat)
theorem wA {E:Env} (hE:Sys E) (b:aE) (a:Nat) (hb:b.length≤1048576) (ha:a≤1048576):aCg E b a 1:=by
 have r1:=aA1 hE b a hb ha
 refine⟨⟨1,0,maM (aA9 b a),0,0,0,[]⟩,maP (aA9 b a),?_,?_⟩
 ·rw[show(dW b a 1).isSome=(aA9 b a).isSome from by unfold dW;rw[if_pos rfl];cases aA9 b a<;>rfl]
  refine hE.run rfl rfl fun W hW=>?_
  conv=>lhs;whnf
  repeat'((first|apply hW.t|apply hW.f|(apply hW.q;exact rqc)|apply hW.w (r1)|(apply hW.b<;>intro h))<;>conv=>lhs;whnf)
  rfl
 ·intro m q h
  unfold dW at h
  rw[if_pos rfl]at h
  cases hm:aA9 b a with
  |none=>rw[hm]at h;cases h
  |some x =>
   rw[hm]at h
   obtain⟨x,y⟩:=x
   have h:(⟨1,0,x,0,0,0,[]⟩,y)=(m,q):=Option.some.inj h
   cases h
   exact⟨rfl,rfl⟩
theorem wB {E:Env} (hE:Sys E) (b:aE) (a:Nat) (hb:b.length≤1048576) (ha:a≤1048576):aCg E b a 3:=by
 have r1:=bU hE b a (by omega) (by omega)
 unfold aCg
 cases h1:gV (b.drop a) with
 |none =>
  rw[h1]at r1
  rw[show dW b a 3=none from by unfold dW;rw[if_neg (by decide),h1]]
  refine⟨⟨3,0,lL,0,0,0,[]⟩,0,?_,by intro m q h;cases h⟩
  refine hE.run rfl rfl fun W hW=>?_
  conv=>lhs;whnf
  repeat'((first|apply hW.t|apply hW.f|(apply hW.q;exact rqc)|apply hW.w (r1)|(apply hW.b<;>intro h))<;>conv=>lhs;whnf)
  rfl
 |some p1 =>
  obtain⟨g,c⟩:=p1
  have f1:=yC h1
  rw[h1]at r1
  rw[show dW b a 3=(match gV (b.drop (a+c)) with|none=>none|some (i,d)=>aNA g i (gP b (a+c+d) 6)) from by unfold dW;rw[if_neg (by decide),h1];rfl]
  have r2:=bU hE b (a+c) (by omega) (by omega)
  cases h2:gV (b.drop (a+c)) with
  |none =>
   rw[h2]at r2
   have r3:=nE hE b 0 6 (by omega) (by omega) (by decide)
   refine⟨⟨3,g,lL,0,0,0,paB (gP b 0 6)⟩,paP (gP b 0 6),?_,by intro m q h;cases h⟩
   refine hE.run rfl rfl fun W hW=>?_
   conv=>lhs;whnf
   repeat'((first|apply hW.t|apply hW.f|(apply hW.q;exact rqc)|apply hW.w (r1)|apply hW.w (r2)|apply hW.w (r3)|(apply hW.b<;>intro h))<;>conv=>lhs;whnf)
   rfl
  |some p2 =>
   obtain⟨i,d⟩:=p2
   have f2:=yC h2
   rw[h2]at r2
   simp only
   have r3:=nE hE b (a+c+d) 6 (by omega) (by omega) (by decide)
   refine⟨⟨3,g,lL,0,0,i,paB (gP b (a+c+d) 6)⟩,paP (gP b (a+c+d) 6),?_,?_⟩
   ·rw[show(aNA g i (gP b (a+c+d) 6)).isSome=(gP b (a+c+d) 6).isSome from by cases gP b (a+c+d) 6<;>rfl]
    refine hE.run rfl rfl fun W hW=>?_
    conv=>lhs;whnf
    repeat'((first|apply hW.t|apply hW.f|(apply hW.q;exact rqc)|apply hW.w (r1)|apply hW.w (r2)|apply hW.w (r3)|(apply hW.b<;>intro h))<;>conv=>lhs;whnf)
    rfl
   ·intro m q h
    cases hm:gP b (a+c+d) 6 with
    |none=>rw[hm]at h;cases h
    |some x =>
     rw[hm]at h
     obtain⟨x,y⟩:=x
     have h:(⟨3,g,lL,0,0,i,x⟩,y)=(m,q):=Option.some.inj h
     cases h
     exact⟨rfl,rfl⟩
theorem wC {E:Env} (hE:Sys E) (b:aE) (a k:Nat) (hb:b.length≤1048576) (ha:a≤1048576) (k1:k≠1) (k2:k≠2) (k3:k≠3):aCg E b a k:=by
 have r1:=bU hE b a (by omega) (by omega)
 have e1:decide ((k:Int)=1)=false:=decide_eq_false (by omega)
 have e2:decide ((k:Int)=2)=false:=decide_eq_false (by omega)
 have e3:decide ((k:Int)=3)=false:=decide_eq_false (by omega)
 unfold aCg
 cases h1:gV (b.drop a) with
 |none =>
  rw[h1]at r1
  rw[show dW b a k=none from by unfold dW;rw[if_neg k1,h1]]
  refine⟨⟨k,0,lL,0,0,0,[]⟩,0,?_,by intro m q h;cases h⟩
  refine hE.run rfl rfl fun W hW=>?_
  conv=>lhs;whnf
  repeat'((first|with_reducible apply hW.bf (e1)|with_reducible apply hW.bf (e2)|with_reducible apply hW.bf (e3)|apply hW.t|apply hW.f|(apply hW.q;exact rqc)|apply hW.w (r1)|(apply hW.b<;>intro h))<;>conv=>lhs;whnf)
  rfl
 |some p1 =>
  obtain⟨g,c⟩:=p1
  have f1:=yC h1
  rw[h1]at r1
  rw[show dW b a k=some (⟨k,g,lL,0,0,0,[]⟩,a+c) from by unfold dW;rw[if_neg k1,h1];simp only;rw[if_neg k2,if_neg k3]]
  refine⟨⟨k,g,lL,0,0,0,[]⟩,((a+c:Nat):Int),?_,?_⟩
  ·refine hE.run rfl rfl fun W hW=>?_
   conv=>lhs;whnf
   repeat'((first|with_reducible apply hW.bf (e1)|with_reducible apply hW.bf (e2)|with_reducible apply hW.bf (e3)|apply hW.t|apply hW.f|(apply hW.q;exact rqc)|apply hW.w (r1)|(apply hW.b<;>intro h))<;>conv=>lhs;whnf)
   rfl
  ·intro m q h
   have h:=Option.some.inj h
   cases h
   exact⟨rfl,rfl⟩
def wR (g:Nat) (o:Option (Msg × Nat)):Msg:=match o with|some p=>p.1|none=>⟨2,g,lL,0,0,0,[]⟩
def wP (o:Option (Msg × Nat)):Int:=match o with|some p=>(p.2:Nat)|none=>0
theorem aLI {x:Int} (h0:0≤x) (h1:x<1048576):IntKind.i64.wrap (x*2 ^ (min (20:Int).toNat IntKind.i64.bits))=x*1048576:=by
 rw[show min (20:Int).toNat IntKind.i64.bits=20 from by decide,show(2:Int) ^ 20=1048576 from by decide]
 exact aH (by omega)
theorem aMN {x y:Int} (h0:0≤x) (h1:x<1048576) (h2:0≤y) (h3:y<1048576):IntKind.i64.wrap (x+y*1048576)=x+y*1048576:=aH (by omega)
theorem wD {E:Env} (hE:Sys E) (b:aE) (a:Nat) (hb:b.length≤1048576) (ha:a≤1048576):aCg E b a 2:=by
 have r1:=bU hE b a (by omega) (by omega)
 unfold aCg
 cases h1:gV (b.drop a) with
 |none =>
  rw[h1]at r1
  rw[show dW b a 2=none from by unfold dW;rw[if_neg (by decide),h1]]
  refine⟨⟨2,0,lL,0,0,0,[]⟩,0,?_,by intro m q h;cases h⟩
  refine hE.run rfl rfl fun W hW=>?_
  conv=>lhs;whnf
  repeat'((first|apply hW.t|apply hW.f|(apply hW.q;exact rqc)|apply hW.w (r1)|(apply hW.b<;>intro h))<;>conv=>lhs;whnf)
  rfl
 |some p1 =>
  obtain⟨g,c⟩:=p1
  have f1:=yC h1
  rw[h1]at r1
  rw[show vP a (some (g,c))=((a+c:Nat):Int) from rfl,show vN (some (g,c))=(g:Int) from rfl]at r1
  rw[show dW b a 2=aLH g (gWa 4 b (a+c) []) from by unfold dW;rw[if_neg (by decide),h1];rfl]
  generalize hR:aLH g (gWa 4 b (a+c) [])=R
  refine⟨wR g R,wP R,?_,by rintro m q rfl;exact⟨rfl,rfl⟩⟩
  refine hE.run rfl rfl fun W hW=>?_
  conv=>lhs;whnf
  repeat'((first|apply hW.t|apply hW.f|(apply hW.q;exact rqc)|apply hW.w (r1)|(apply hW.b<;>intro h))<;>conv=>lhs;whnf)
  refine hW.loop (σ:=Nat × Nat × List Int) (γ:=Nat) (fun i s'=>(((s'.sl 17 (v1 (.t (.int .i64 i.1)))).sl 14 (v1 (.t (.int .i64 i.2.1))))).bl ⟨51600,1, .own,bZ i.2.2⟩) (fun i m=>i.1=m∧m≤4∧i.2.1≤1048576∧i.2.2.length=m∧(∀ x∈i.2.2,0≤x∧x<1048576)∧aLH g (gWa (4-m) b i.2.1 i.2.2)=R) (fun m=>4-m) (fun _=>([gv ((wR g R).cs dY),iv (wP R),bv R.isSome],[])) (0,a+c,[]) 0 ?_ ?_ ?_ ?_
  ·intro K
   conv=>lhs;whnf
   conv=>rhs;whnf
   try rfl
  ·exact⟨rfl,by omega,by simp only;omega,rfl,by simp,hR⟩
  ·rintro kl ⟨m,p,acc⟩ _ ⟨rfl,hm,hp,hl,hx,hs⟩ ih
   simp only at hs hm hl hp hx
   conv=>lhs;whnf
   apply hW.b<;>intro g1<;>conv=>lhs;whnf
   ·have g1:m<4:=by simp at g1;omega
    rw[show 4-m=(4-(m+1))+1 from by omega,gWa]at hs
    repeat((first|apply hW.t|apply hW.f|(apply hW.q;exact rqc));conv=>lhs;whnf)
    have r2:=bU hE b p (by omega) (by omega)
    cases hg:gV (b.drop p) with
    |none =>
     rw[hg]at hs r2
     apply hW.w (r2)
     conv=>lhs;whnf
     repeat((first|apply hW.t|apply hW.f|(apply hW.q;exact rqc));conv=>lhs;whnf)
     rw[← hs]
     rfl
    |some q =>
     obtain⟨n,d⟩:=q
     have hc:=yC hg
     rw[hg]at hs r2
     simp only at hs
     apply hW.w (r2)
     conv=>lhs;whnf
     repeat((first|apply hW.t|apply hW.f|(apply hW.q;exact rqc));conv=>lhs;whnf)
     apply hW.b<;>intro g2<;>conv=>lhs;whnf
     ·have g2:¬ n<1048576:=by simp[vN]at g2;omega
      rw[if_neg g2]at hs
      repeat((first|apply hW.t|apply hW.f|(apply hW.q;exact rqc));conv=>lhs;whnf)
      rw[← hs]
      rfl
     ·have g2:n<1048576:=by simp[vN]at g2;omega
      rw[if_pos g2]at hs
      repeat((first|apply hW.t|apply hW.f|(apply hW.q;exact rqc));conv=>lhs;whnf)
      refine hW.q (by exact⟨by decide,by intro e he;simp at he;subst he;rfl,by simp[bZ];omega,by simp[bZ];omega⟩) ?_
      conv=>lhs;whnf
      repeat((first|apply hW.t|apply hW.f|(apply hW.q;exact rqc));conv=>lhs;whnf)
      refine ih (m+1,p+d,acc++[(n:Int)]) (m+1) _ ?_ ⟨rfl,by omega,by simp only;omega,by simp;omega,?_,hs⟩ (by omega)
      ·intro K
       conv=>lhs;whnf
       conv=>rhs;whnf
       try rfl
       rw[show IntKind.i64.wrap ((m:Int)+1)=_ from aI (by omega)]
       simp[bZ,rM,vN,vP]
      ·intro x h
       rcases List.mem_append.mp h with h|h
       ·exact hx x h
       ·simp at h;omega
   ·have:m=4:=by simp at g1;omega
    subst this
    match acc,hl,hx,hs with
    |[w0,w1,d0,d1],hl,hx,hs =>
    rw[Nat.sub_self,gWa]at hs
    have x0:=hx w0 (by simp)
    have x1:=hx w1 (by simp)
    have x2:=hx d0 (by simp)
    have x3:=hx d1 (by simp)
    have l0:(bZ [w0,w1,d0,d1])[Int.toNat 0]?=some (rM w0):=rfl
    have l1:(bZ [w0,w1,d0,d1])[Int.toNat 1]?=some (rM w1):=rfl
    have l2:(bZ [w0,w1,d0,d1])[Int.toNat 2]?=some (rM d0):=rfl
    have l3:(bZ [w0,w1,d0,d1])[Int.toNat 3]?=some (rM d1):=rfl
    repeat'((first|apply hW.t|apply hW.f|(apply hW.q;exact rqc)|apply hW.w (l0)|apply hW.w (l1)|apply hW.w (l2)|apply hW.w (l3)|(apply hW.b<;>intro h))<;>conv=>lhs;whnf)
    rw[aLI x1.1 x1.2,aMN x0.1 x0.2 x1.1 x1.2,aLI x3.1 x3.2,aMN x2.1 x2.2 x3.1 x3.2]
    rw[← hs]
    rfl
  ·rfl
theorem yF {E:Env} (hE:Sys E) (b:aE) (a k:Nat) (hb:b.length≤1048576) (ha:a≤1048576):aCg E b a k:=by
 by_cases k1:k=1
 ·subst k1;exact wA hE b a hb ha
 by_cases k2:k=2
 ·subst k2;exact wD hE b a hb ha
 by_cases k3:k=3
 ·subst k3;exact wB hE b a hb ha
 exact wC hE b a k hb ha k1 k2 k3
theorem aHq:∀ {k:Nat} {b:aE} {a:Nat} {acc l:List Int} {q:Nat},gVa k b a acc=some (l,q)→l.length=acc.length+k∧(k≠0→q≤b.length):=by
 intro k
 induction k with
 |zero=>intro b a acc l q h;cases h;exact⟨rfl,fun h=>absurd rfl h⟩
 |succ k ih =>
  intro b a acc l q h
  rw[gVa]at h
  cases hg:gV (b.drop a) with
  |none=>rw[hg]at h;cases h
  |some p =>
   rw[hg]at h
   have:=ih h
   simp only[List.length_append,List.length_cons,List.length_nil]at this
   refine⟨by omega,fun _=>?_⟩
   by_cases hk:k=0
   ·subst hk
    cases h
    exact(yC hg).2.2.1
   ·exact this.2 hk
def aLJ (x:Int):Int:=IntKind.i64.wrap (x*2 ^ (min (20:Int).toNat IntKind.i64.bits))
def aJB (o:Option (List Int × Nat)):Option Msg:=match o with|some ([g,w0,w1,d0,d1],_)=>some ⟨2,g,lL,wor w0 (aLJ w1),wor d0 (aLJ d1),0,[]⟩|_=>none
def aHr (b:aE) (o:Option (List Int × Nat)):Option Msg:=match o with|some ([g,i],q)=>(match gP b q 6 with|some (p,_)=>some ⟨3,g,lL,0,0,i,p⟩|none=>none)|_=>none
def hJ (b:aE) (a k:Nat):Option Msg :=
 if k=1 then(match aFt b a with|some (x,_)=>some ⟨1,0,x,0,0,0,[]⟩|none=>none)
 else if k=2 then aJB (gVa 5 b a [])
 else if k=3 then aHr b (gVa 2 b a [])
 else if k=4 then(match gV (b.drop a) with|some (g,_)=>some ⟨4,g,lL,0,0,0,[]⟩|none=>none)
 else none
def wE (E:Env) (b:aE) (a k:Nat):Prop:=∃ r,E 331 [sv (bys b),iv k,iv a]=some ([gv (Msg.cs dY r),bv (hJ b a k).isSome],[])∧∀ m,hJ b a k=some m→r=m
theorem wF {E:Env} (hE:Sys E) (b:aE) (a:Nat) (hb:b.length≤1048576) (ha:a≤1048576):wE E b a 1:=by
 have r1:=aA2 hE b a hb ha
 unfold wE
 rw[show hJ b a 1=(match aFt b a with|some (x,_)=>some ⟨1,0,x,0,0,0,[]⟩|none=>none) from rfl]
 cases h1:aFt b a with
 |none =>
  rw[h1]at r1
  refine⟨⟨1,0,lL,0,0,0,[]⟩,?_,by intro m h;cases h⟩
  refine hE.run rfl rfl fun W hW=>?_
  conv=>lhs;whnf
  repeat'((first|apply hW.t|apply hW.f|(apply hW.q;exact rqc)|apply hW.w (r1)|(apply hW.b<;>intro h))<;>conv=>lhs;whnf)
  rfl
 |some p =>
  obtain⟨x,q⟩:=p
  rw[h1]at r1
  refine⟨⟨1,0,x,0,0,0,[]⟩,?_,by intro m h;exact Option.some.inj h⟩
  refine hE.run rfl rfl fun W hW=>?_
  conv=>lhs;whnf
  repeat'((first|apply hW.t|apply hW.f|(apply hW.q;exact rqc)|apply hW.w (r1)|(apply hW.b<;>intro h))<;>conv=>lhs;whnf)
  rfl
theorem wG {E:Env} (hE:Sys E) (b:aE) (a:Nat) (hb:b.length≤1048576) (ha:a≤1048576):wE E b a 2:=by
 have r1:=gX hE b a 5 hb ha (by decide)
 unfold wE
 rw[show hJ b a 2=aJB (gVa 5 b a []) from rfl]
 cases h1:gVa 5 b a [] with
 |none =>
  rw[h1]at r1
  refine⟨⟨0,0,lL,0,0,0,[]⟩,?_,by intro m h;cases h⟩
  refine hE.run rfl rfl fun W hW=>?_
  conv=>lhs;whnf
  repeat'((first|apply hW.t|apply hW.f|(apply hW.q;exact rqc)|apply hW.w (r1)|(apply hW.b<;>intro h))<;>conv=>lhs;whnf)
  rfl
 |some p =>
  obtain⟨l,q⟩:=p
  have hl:=aHq h1
  rw[h1]at r1
  match l,hl,r1 with
  |[g,w0,w1,d0,d1],hl,r1 =>
  rw[show laL (some ([g,w0,w1,d0,d1],q))=[g,w0,w1,d0,d1] from rfl,show laP (some ([g,w0,w1,d0,d1],q))=(q:Int) from rfl]at r1
  have l0:(bZ [g,w0,w1,d0,d1])[Int.toNat 0]?=some (rM g):=rfl
  have l1:(bZ [g,w0,w1,d0,d1])[Int.toNat 1]?=some (rM w0):=rfl
  have l2:(bZ [g,w0,w1,d0,d1])[Int.toNat 2]?=some (rM w1):=rfl
  have l3:(bZ [g,w0,w1,d0,d1])[Int.toNat 3]?=some (rM d0):=rfl
  have l4:(bZ [g,w0,w1,d0,d1])[Int.toNat 4]?=some (rM d1):=rfl
  refine⟨⟨2,g,lL,wor w0 (aLJ w1),wor d0 (aLJ d1),0,[]⟩,?_,by intro m h;exact Option.some.inj h⟩
  refine hE.run rfl rfl fun W hW=>?_
  conv=>lhs;whnf
  repeat'((first|apply hW.t|apply hW.f|(apply hW.q;exact rqc)|apply hW.w (r1)|apply hW.w (l0)|apply hW.w (l1)|apply hW.w (l2)|apply hW.w (l3)|apply hW.w (l4)|(apply hW.b<;>intro h))<;>conv=>lhs;whnf)
  rfl
theorem wH {E:Env} (hE:Sys E) (b:aE) (a:Nat) (hb:b.length≤1048576) (ha:a≤1048576):wE E b a 3:=by
 have r1:=gX hE b a 2 hb ha (by decide)
 unfold wE
 rw[show hJ b a 3=aHr b (gVa 2 b a []) from rfl]
 cases h1:gVa 2 b a [] with
 |none =>
  rw[h1]at r1
  refine⟨⟨0,0,lL,0,0,0,[]⟩,?_,by intro m h;cases h⟩
  refine hE.run rfl rfl fun W hW=>?_
  conv=>lhs;whnf
  repeat'((first|apply hW.t|apply hW.f|(apply hW.q;exact rqc)|apply hW.w (r1)|(apply hW.b<;>intro h))<;>conv=>lhs;whnf)
  rfl
 |some p =>
  obtain⟨l,q⟩:=p
  have hl:=aHq h1
  rw[h1]at r1
  have hq:q≤b.length:=hl.2 (by decide)
  match l,hl,r1 with
  |[g,i],hl,r1 =>
  rw[show laL (some ([g,i],q))=[g,i] from rfl,show laP (some ([g,i],q))=(q:Int) from rfl]at r1
  have l0:(bZ [g,i])[Int.toNat 0]?=some (rM g):=rfl
  have l1:(bZ [g,i])[Int.toNat 1]?=some (rM i):=rfl
  have r2:=yD hE b q 6 hb (by omega) (by decide)
  rw[show aHr b (some ([g,i],q))=(match gP b q 6 with|some (p,_)=>some ⟨3,g,lL,0,0,i,p⟩|none=>none) from rfl]
  cases h2:gP b q 6 with
  |none =>
   rw[h2]at r2
   refine⟨⟨3,g,lL,0,0,i,[]⟩,?_,by intro m h;cases h⟩
   refine hE.run rfl rfl fun W hW=>?_
   conv=>lhs;whnf
   repeat'((first|apply hW.t|apply hW.f|(apply hW.q;exact rqc)|apply hW.w (r1)|apply hW.w (l0)|apply hW.w (l1)|apply hW.w (r2)|(apply hW.b<;>intro h))<;>conv=>lhs;whnf)
   rfl
  |some y =>
   obtain⟨y,z⟩:=y
   rw[h2]at r2
   refine⟨⟨3,g,lL,0,0,i,y⟩,?_,by intro m h;exact Option.some.inj h⟩
   refine hE.run rfl rfl fun W hW=>?_
   conv=>lhs;whnf
   repeat'((first|apply hW.t|apply hW.f|(apply hW.q;exact rqc)|apply hW.w (r1)|apply hW.w (l0)|apply hW.w (l1)|apply hW.w (r2)|(apply hW.b<;>intro h))<;>conv=>lhs;whnf)
   rfl
theorem wI {E:Env} (hE:Sys E) (b:aE) (a:Nat) (hb:b.length≤1048576) (ha:a≤1048576):wE E b a 4:=by
 have r1:=gI hE b a (by omega) (by omega)
 unfold wE
 rw[show hJ b a 4=(match gV (b.drop a) with|some (g,_)=>some ⟨4,g,lL,0,0,0,[]⟩|none=>none) from rfl]
 cases h1:gV (b.drop a) with
 |none =>
  rw[h1]at r1
  refine⟨⟨4,0,lL,0,0,0,[]⟩,?_,by intro m h;cases h⟩
  refine hE.run rfl rfl fun W hW=>?_
  conv=>lhs;whnf
  repeat'((first|apply hW.t|apply hW.f|(apply hW.q;exact rqc)|apply hW.w (r1)|(apply hW.b<;>intro h))<;>conv=>lhs;whnf)
  rfl
 |some p =>
  obtain⟨g,c⟩:=p
  rw[h1]at r1
  refine⟨⟨4,g,lL,0,0,0,[]⟩,?_,by intro m h;exact Option.some.inj h⟩
  refine hE.run rfl rfl fun W hW=>?_
  conv=>lhs;whnf
  repeat'((first|apply hW.t|apply hW.f|(apply hW.q;exact rqc)|apply hW.w (r1)|(apply hW.b<;>intro h))<;>conv=>lhs;whnf)
  rfl
theorem wJ {E:Env} (hE:Sys E) (b:aE) (a k:Nat) (k1:k≠1) (k2:k≠2) (k3:k≠3) (k4:k≠4):wE E b a k:=by
 have e1:decide ((k:Int)=1)=false:=decide_eq_false (by omega)
 have e2:decide ((k:Int)=2)=false:=decide_eq_false (by omega)
 have e3:decide ((k:Int)=3)=false:=decide_eq_false (by omega)
 have e4:decide ((k:Int)=4)=false:=decide_eq_false (by omega)
 unfold wE
 rw[show hJ b a k=none from by unfold hJ;rw[if_neg k1,if_neg k2,if_neg k3,if_neg k4]]
 refine⟨⟨k,0,lL,0,0,0,[]⟩,?_,by intro m h;cases h⟩
 refine hE.run rfl rfl fun W hW=>?_
 conv=>lhs;whnf
 repeat'((first|with_reducible apply hW.bf (e1)|with_reducible apply hW.bf (e2)|with_reducible apply hW.bf (e3)|with_reducible apply hW.bf (e4)|apply hW.t|apply hW.f|(apply hW.q;exact rqc)|(apply hW.b<;>intro h))<;>conv=>lhs;whnf)
 rfl
theorem yG {E:Env} (hE:Sys E) (b:aE) (a k:Nat) (hb:b.length≤1048576) (ha:a≤1048576):wE E b a k:=by
 by_cases k1:k=1
 ·subst k1;exact wF hE b a hb ha
 by_cases k2:k=2
 ·subst k2;exact wG hE b a hb ha
 by_cases k3:k=3
 ·subst k3;exact wH hE b a hb ha
 by_cases k4:k=4
 ·subst k4;exact wI hE b a hb ha
 exact wJ hE b a k k1 k2 k3 k4
theorem aLK:∀ {k:Nat} {b:aE} {a:Nat} {acc l:List Sum} {q:Nat},sMs k b a acc=some (l,q)→a≤b.length→q≤b.length:=by
 intro k
 induction k with
 |zero=>intro b a acc l q h ha;cases h;exact ha
 |succ k ih =>
  intro b a acc l q h ha
  rw[sMs]at h
  cases hg:gS (b.drop a) with
  |none=>rw[hg]at h;cases h
  |some p =>
   rw[hg]at h
   exact ih h (aNz hg).2.1
theorem qT {g s n:Int} {o:Option (List Sum × Nat)} {x:Man} {q:Nat} (h:yE g s n o=some (x,q)):∃ l,o=some (l,q)∧x=⟨g,s,n,l⟩∧aZ x=true:=by
 unfold yE at h
 cases o with
 |none=>cases h
 |some p =>
  obtain⟨l,q'⟩:=p
  simp only at h
  split at h
  ·rename_i hk
   cases h
   exact⟨l,rfl,rfl,hk⟩
  ·cases h
theorem aCh {b:aE} {a:Nat} {x:Man} {q:Nat} (h:aA9 b a=some (x,q)):aZ x=true∧q≤b.length:=by
 unfold aA9 at h
 cases h1:gV (b.drop a) with
 |none=>rw[h1]at h;cases h
 |some p1 =>
  obtain⟨g,c1⟩:=p1
  rw[h1]at h
  simp only at h
  cases h2:gV (b.drop (a+c1)) with
  |none=>rw[h2]at h;cases h
  |some p2 =>
   obtain⟨s,c2⟩:=p2
   rw[h2]at h
   simp only at h
   cases h3:gV (b.drop (a+c1+c2)) with
   |none=>rw[h3]at h;cases h
   |some p3 =>
    obtain⟨n,c3⟩:=p3
    rw[h3]at h
    obtain⟨l,e1,e2,e3⟩:=qT h
    exact⟨e3,aLK e1 (yC h3).2.2.1⟩
theorem aHs {b:aE} {a:Nat} {x:Man} {q:Nat} (h:aFt b a=some (x,q)):aZ x=true:=by
 unfold aFt at h
 cases h1:gV (b.drop a) with
 |none=>rw[h1]at h;cases h
 |some p1 =>
  obtain⟨g,c1⟩:=p1
  rw[h1]at h
  simp only at h
  cases h2:gV (b.drop (a+c1)) with
  |none=>rw[h2]at h;cases h
  |some p2 =>
   obtain⟨s,c2⟩:=p2
   rw[h2]at h
   simp only at h
   cases h3:gV (b.drop (a+c1+c2)) with
   |none=>rw[h3]at h;cases h
   |some p3 =>
    obtain⟨n,c3⟩:=p3
    rw[h3]at h
    obtain⟨l,e1,e2,e3⟩:=qT h
    exact e3
theorem aKp {b:aE} {a most:Nat} {p:aE} {q:Nat} (h:gP b a most=some (p,q)):p.length≤most∧q≤b.length:=by
 unfold gP at h
 cases h1:gV (b.drop a) with
 |none=>rw[h1]at h;cases h
 |some x =>
  rw[h1]at h
  simp only at h
  split at h
  ·rename_i hk
   cases h
   simp only[List.length_take,List.length_drop]
   omega
  ·cases h
theorem aLL:∀ {k:Nat} {b:aE} {a:Nat} {acc l:List Int} {q:Nat},gWa k b a acc=some (l,q)→a≤b.length→q≤b.length:=by
 intro k
 induction k with
 |zero=>intro b a acc l q h ha;cases h;exact ha
 |succ k ih =>
  intro b a acc l q h ha
  rw[gWa]at h
  cases hg:gV (b.drop a) with
  |none=>rw[hg]at h;cases h
  |some p =>
   rw[hg]at h
   simp only at h
   split at h
   ·exact ih h (yC hg).2.2.1
   ·cases h
theorem aCi {g:Nat} {o:Option (List Int × Nat)} {m:Msg} {q:Nat} (h:aLH g o=some (m,q)):∃ w0 w1 d0 d1,o=some ([w0,w1,d0,d1],q)∧m=⟨2,g,lL,w0+w1*1048576,d0+d1*1048576,0,[]⟩:=by
 unfold aLH at h
 split at h
 ·cases h;exact⟨_,_,_,_,rfl,rfl⟩
 ·cases h
theorem zV {b:aE} {a k:Nat} {m:Msg} {q:Nat} (h:dW b a k=some (m,q)):m.lim 1048576∧q≤b.length:=by
 unfold dW at h
 split at h
 ·cases hm:aA9 b a with
  |none=>rw[hm]at h;cases h
  |some x =>
   rw[hm]at h
   obtain⟨x,y⟩:=x
   have h:=Option.some.inj h
   cases h
   have hx:=aCh hm
   exact⟨⟨Nat.le_trans (iR hx.1).1 (by decide),Nat.zero_le _⟩,hx.2⟩
 ·cases h1:gV (b.drop a) with
  |none=>rw[h1]at h;cases h
  |some p1 =>
   obtain⟨g,c⟩:=p1
   rw[h1]at h
   simp only at h
   have hc:=yC h1
   split at h
   ·obtain⟨w0,w1,d0,d1,e,rfl⟩:=aCi h
    exact⟨⟨Nat.zero_le _,Nat.zero_le _⟩,aLL e hc.2.2.1⟩
   ·split at h
    ·cases h2:gV (b.drop (a+c)) with
     |none=>rw[h2]at h;cases h
     |some p2 =>
      obtain⟨i,d⟩:=p2
      rw[h2]at h
      simp only at h
      cases h3:gP b (a+c+d) 6 with
      |none=>rw[h3]at h;cases h
      |some x =>
       obtain⟨p,y⟩:=x
       rw[h3]at h
       have h:=Option.some.inj h
       cases h
       have hp:=aKp h3
       exact⟨⟨Nat.zero_le _,Nat.le_trans hp.1 (by decide)⟩,hp.2⟩
    ·cases h
     exact⟨⟨Nat.zero_le _,Nat.zero_le _⟩,hc.2.2.1⟩
theorem aFn {b:aE} {a k:Nat} {m:Msg} (h:hJ b a k=some m):m.lim 1048576:=by
 unfold hJ at h
 split at h
 ·cases hm:aFt b a with
  |none=>rw[hm]at h;cases h
  |some x =>
   rw[hm]at h
   have h:=Option.some.inj h
   cases h
   exact⟨Nat.le_trans (iR (aHs (q:=x.2) hm)).1 (by decide),Nat.zero_le _⟩
 ·split at h
  ·unfold aJB at h
   split at h
   ·cases h;exact⟨Nat.zero_le _,Nat.zero_le _⟩
   ·cases h
  ·split at h
   ·unfold aHr at h
    split at h
    ·split at h
     ·rename_i e
      cases h
      exact⟨Nat.zero_le _,Nat.le_trans (aKp e).1 (by decide)⟩
     ·cases h
    ·cases h
   ·split at h
    ·split at h
     ·cases h;exact⟨Nat.zero_le _,Nat.zero_le _⟩
     ·cases h
    ·cases h
def aHt (b:aE) (m:Msg) (q:Nat):Option Msg:=if bT m=true then(match gV (b.drop q) with|some (w,c)=>if q+c=b.length∧(w:Int)=aX (b.take q) then some m else none|none=>none) else none
def pS (b:aE):Option Msg:=match gV (b.drop 0) with
 |none=>none
 |some (k,c)=>if b.length≤400 then(match dW b c k with|none=>none|some (m,q)=>aHt b m q) else none
def pI (b:aE):Option Msg:=match gV (b.drop 0) with
 |none=>none
 |some (k,c)=>if b.length≤400 then(match hJ b c k with|none=>none|some m=>if bT m=true∧cO m=b then some m else none) else none
def gM (o:Option Msg):Msg:=match o with|some m=>m|none=>⟨0,0,lL,0,0,0,[]⟩
theorem yH {E:Env} (hE:Sys E) (b:aE) (hb:b.length≤1048576):E 329 [sv (bys b)]=some ([gv ((gM (pI b)).cs dY),bv (pI b).isSome],[]):=by
 have r1:=gI hE b 0 (by omega) (by omega)
 unfold pI
 cases h1:gV (b.drop 0) with
 |none =>
  rw[h1]at r1
  refine hE.run rfl rfl fun W hW=>?_
  conv=>lhs;whnf
  repeat'((first|apply hW.t|apply hW.f|(apply hW.q;exact rqc)|apply hW.w (r1)|(apply hW.b<;>intro h))<;>conv=>lhs;whnf)
  rfl
 |some p1 =>
  obtain⟨k,c⟩:=p1
  have f1:=yC h1
  rw[h1]at r1
  rw[show vP 0 (some (k,c))=((c:Nat):Int) from congrArg Int.ofNat (Nat.zero_add c),show vN (some (k,c))=(k:Int) from rfl]at r1
  simp only
  by_cases hl:b.length≤400
  ·rw[if_pos hl]
   have el:decide (((bys b).length:Int)>400)=false:=decide_eq_false (by rw[aF];omega)
   obtain⟨r,r2,hr⟩:=yG hE b c k hb (by omega)
   cases h2:hJ b c k with
   |none =>
    rw[h2]at r2
    refine hE.run rfl rfl fun W hW=>?_
    conv=>lhs;whnf
    repeat'((first|with_reducible apply hW.bf (el)|apply hW.t|apply hW.f|(apply hW.q;exact rqc)|apply hW.w (r1)|apply hW.w (r2)|(apply hW.b<;>intro h))<;>conv=>lhs;whnf)
    rfl
   |some m =>
    obtain rfl:=hr m h2
    rw[h2]at r2
    have hm:=aFn h2
    have r3:=rY hE r hm
    have r4:=pO hE r hm
    have r5:=jO hE (cO r) b
    simp only
    cases ho:bT r with
    |false =>
     rw[ho]at r3
     rw[if_neg (fun h=>by cases h.1)]
     refine hE.run rfl rfl fun W hW=>?_
     conv=>lhs;whnf
     repeat'((first|with_reducible apply hW.bf (el)|apply hW.t|apply hW.f|(apply hW.q;exact rqc)|apply hW.w (r1)|apply hW.w (r2)|apply hW.w (r3)|(apply hW.b<;>intro h))<;>conv=>lhs;whnf)
     rfl
    |true =>
     rw[ho]at r3
     by_cases hp:cO r=b
     ·rw[if_pos ⟨rfl,hp⟩]
      rw[decide_eq_true hp]at r5
      refine hE.run rfl rfl fun W hW=>?_
      conv=>lhs;whnf
      repeat'((first|with_reducible apply hW.bf (el)|apply hW.t|apply hW.f|(apply hW.q;exact rqc)|apply hW.w (r1)|apply hW.w (r2)|apply hW.w (r3)|apply hW.w (r4)|apply hW.w (r5)|(apply hW.b<;>intro h))<;>conv=>lhs;whnf)
      rfl
     ·rw[if_neg (fun h=>hp h.2)]
      rw[decide_eq_false hp]at r5
      refine hE.run rfl rfl fun W hW=>?_
      conv=>lhs;whnf
      repeat'((first|with_reducible apply hW.bf (el)|apply hW.t|apply hW.f|(apply hW.q;exact rqc)|apply hW.w (r1)|apply hW.w (r2)|apply hW.w (r3)|apply hW.w (r4)|apply hW.w (r5)|(apply hW.b<;>intro h))<;>conv=>lhs;whnf)
      rfl
  ·rw[if_neg hl]
   have el:decide (((bys b).length:Int)>400)=true:=decide_eq_true (by rw[aF];omega)
   refine hE.run rfl rfl fun W hW=>?_
   conv=>lhs;whnf
   repeat'((first|with_reducible apply hW.bt (el)|apply hW.t|apply hW.f|(apply hW.q;exact rqc)|apply hW.w (r1)|(apply hW.b<;>intro h))<;>conv=>lhs;whnf)
   rfl
theorem yI {E:Env} (hE:Sys E) (b:aE) (hb:b.length≤1048576):E 323 [sv (bys b)]=some ([gv ((gM (pS b)).cs dY),bv (pS b).isSome],[]):=by
 have r1:=bU hE b 0 (by omega) (by omega)
 unfold pS
 cases h1:gV (b.drop 0) with
 |none =>
  rw[h1]at r1
  refine hE.run rfl rfl fun W hW=>?_
  conv=>lhs;whnf
  repeat'((first|apply hW.t|apply hW.f|(apply hW.q;exact rqc)|apply hW.w (r1)|(apply hW.b<;>intro h))<;>conv=>lhs;whnf)
  rfl
 |some p1 =>
  obtain⟨k,c⟩:=p1
  have f1:=yC h1
  rw[h1]at r1
  rw[show vP 0 (some (k,c))=((c:Nat):Int) from congrArg Int.ofNat (Nat.zero_add c),show vN (some (k,c))=(k:Int) from rfl]at r1
  simp only
  by_cases hl:b.length≤400
  ·rw[if_pos hl]
   have el:decide (((bys b).length:Int)>400)=false:=decide_eq_false (by rw[aF];omega)
   obtain⟨r,p,r2,hr⟩:=yF hE b c k hb (by omega)
   cases h2:dW b c k with
   |none =>
    rw[h2]at r2
    refine hE.run rfl rfl fun W hW=>?_
    conv=>lhs;whnf
    repeat'((first|with_reducible apply hW.bf (el)|apply hW.t|apply hW.f|(apply hW.q;exact rqc)|apply hW.w (r1)|apply hW.w (r2)|(apply hW.b<;>intro h))<;>conv=>lhs;whnf)
    rfl
   |some mq =>
    obtain⟨m,q⟩:=mq
    obtain⟨rfl,rfl⟩:=hr m q h2
    rw[h2]at r2
    have hm:=zV h2
    have r3:=rX hE r hm.1
    simp only
    unfold aHt
    cases ho:bT r with
    |false =>
     rw[ho]at r3
     rw[if_neg (by decide)]
     refine hE.run rfl rfl fun W hW=>?_
     conv=>lhs;whnf
     repeat'((first|with_reducible apply hW.bf (el)|apply hW.t|apply hW.f|(apply hW.q;exact rqc)|apply hW.w (r1)|apply hW.w (r2)|apply hW.w (r3)|(apply hW.b<;>intro h))<;>conv=>lhs;whnf)
     rfl
    |true =>
     rw[ho]at r3
     rw[if_pos rfl]
     have r4:=bU hE b q (by omega) (by omega)
     cases h3:gV (b.drop q) with
     |none =>
      rw[h3]at r4
      refine hE.run rfl rfl fun W hW=>?_
      conv=>lhs;whnf
      repeat'((first|with_reducible apply hW.bf (el)|apply hW.t|apply hW.f|(apply hW.q;exact rqc)|apply hW.w (r1)|apply hW.w (r2)|apply hW.w (r3)|apply hW.w (r4)|(apply hW.b<;>intro h))<;>conv=>lhs;whnf)
      rfl
     |some wc =>
      obtain⟨w,d⟩:=wc
      rw[h3]at r4
      rw[show vP q (some (w,d))=((q+d:Nat):Int) from rfl,show vN (some (w,d))=(w:Int) from rfl]at r4
      simp only
      by_cases g1:q+d=b.length
      ·have e1:(!decide (((q+d:Nat):Int)=((bys b).length:Int)))=false:=by rw[aF,decide_eq_true (by omega)];rfl
       refine hE.run rfl rfl fun W hW=>?_
       conv=>lhs;whnf
       repeat'((first|with_reducible apply hW.bf (el)|with_reducible apply hW.bf (e1)|apply hW.t|apply hW.f|(apply hW.q;exact rqc)|apply hW.w (r1)|apply hW.w (r2)|apply hW.w (r3)|apply hW.w (r4)|(apply hW.b<;>intro h))<;>conv=>lhs;whnf)
       refine hW.q (by exact⟨by omega,by rw[aF];omega,bA b⟩) ?_
       conv=>lhs;whnf
       repeat((first|apply hW.t|apply hW.f|(apply hW.q;exact rqc));conv=>lhs;whnf)
       rw[show((bys b).drop 0).take ((q:Int).toNat-0)=bys (b.take q) from by rw[eU];rfl]
       have r5:=dE hE (b.take q) (by simp;omega)
       apply hW.w (r5)
       conv=>lhs;whnf
       try(apply hW.q;exact rqc;conv=>lhs;whnf)
       by_cases g2:(w:Int)=aX (b.take q)
       ·rw[if_pos ⟨g1,g2⟩]
        have e2:(!decide ((w:Int)=aX (b.take q)))=false:=by rw[decide_eq_true g2];rfl
        repeat'((first|with_reducible apply hW.bf (e2)|apply hW.t|apply hW.f|(apply hW.q;exact rqc)|(apply hW.b<;>intro h))<;>conv=>lhs;whnf)
        rfl
       ·rw[if_neg (fun h=>g2 h.2)]
        have e2:(!decide ((w:Int)=aX (b.take q)))=true:=by rw[decide_eq_false g2];rfl
        repeat'((first|with_reducible apply hW.bt (e2)|apply hW.t|apply hW.f|(apply hW.q;exact rqc)|(apply hW.b<;>intro h))<;>conv=>lhs;whnf)
        rfl
      ·rw[if_neg (fun h=>g1 h.1)]
       have e1:(!decide (((q+d:Nat):Int)=((bys b).length:Int)))=true:=by rw[aF,decide_eq_false (by omega)];rfl
       refine hE.run rfl rfl fun W hW=>?_
       conv=>lhs;whnf
       repeat'((first|with_reducible apply hW.bf (el)|with_reducible apply hW.bt (e1)|apply hW.t|apply hW.f|(apply hW.q;exact rqc)|apply hW.w (r1)|apply hW.w (r2)|apply hW.w (r3)|apply hW.w (r4)|(apply hW.b<;>intro h))<;>conv=>lhs;whnf)
       rfl
  ·rw[if_neg hl]
   have el:decide (((bys b).length:Int)>400)=true:=decide_eq_true (by rw[aF];omega)
   refine hE.run rfl rfl fun W hW=>?_
   conv=>lhs;whnf
   repeat'((first|with_reducible apply hW.bt (el)|apply hW.t|apply hW.f|(apply hW.q;exact rqc)|apply hW.w (r1)|(apply hW.b<;>intro h))<;>conv=>lhs;whnf)
   rfl
theorem aA3 {n:Nat} (h:n<256):(fY (n:Int)).toNat=n:=by
 unfold fY;rw[UInt8.toNat_ofNat'];omega
theorem aA4 (x:UInt8):fY (x.toNat:Int)=x:=by
 apply UInt8.toNat_inj.mp
 exact aA3 x.toNat_lt
theorem aKq:∀ {f m k acc n:Nat} {t:aE},n<128 ^ (f+1)→n<128 ^ m→0<m→rdF m k acc (pL f n++t)=some (acc+n*128 ^ k,k+(pL f n).length,decide (k=0)||decide (0<n)):=by
 intro f
 induction f with
 |zero =>
  intro m k acc n t hf hm h0
  obtain⟨m,rfl⟩:∃ j,m=j+1:=⟨m-1,by omega⟩
  have hn:n<128:=hf
  simp only[pL,List.cons_append,List.nil_append,rdF]
  rw[aA3 (by omega),if_pos hn]
  rfl
 |succ f ih =>
  intro m k acc n t hf hm h0
  obtain⟨m,rfl⟩:∃ j,m=j+1:=⟨m-1,by omega⟩
  simp only[pL]
  split
  ·rename_i hn
   simp only[List.cons_append,List.nil_append,rdF]
   rw[aA3 (by omega),if_pos hn]
   rfl
  ·rename_i hn
   simp only[List.cons_append,rdF]
   rw[aA3 (by omega),if_neg (by omega)]
   have hd:n/128<128 ^ (f+1):=by
    rw[Nat.pow_succ]at hf
    exact Nat.div_lt_of_lt_mul (by rw[Nat.mul_comm];exact hf)
   have hd2:n/128<128 ^ m:=by
    rw[Nat.pow_succ]at hm
    exact Nat.div_lt_of_lt_mul (by rw[Nat.mul_comm];exact hm)
   have hm0:0<m:=by
    rcases Nat.eq_zero_or_pos m with h|h
    ·subst h;simp at hm;omega
    ·exact h
   rw[ih hd hd2 hm0]
   congr 2
   ·have e:(n%128+128)%128=n%128:=by omega
    rw[e,Nat.pow_succ,Nat.add_assoc,Nat.add_left_cancel_iff]
    have:n=n%128+n/128*128:=by omega
    have e2:n%128*128 ^ k+n/128*(128 ^ k*128)=(n%128+n/128*128)*128 ^ k:=by rw[Nat.add_mul,Nat.mul_comm (128 ^ k),← Nat.mul_assoc]
    rw[e2,← this]
   ·congr 1
    ·simp only[List.length_cons];omega
    ·rw[show decide (0<n/128)=true from decide_eq_true (by omega),show decide (0<n)=true from decide_eq_true (by omega)]
     simp
theorem aKr:∀ {m k acc x c:Nat} {l:aE},rdF m k acc l=some (x,c,true)→∃ n,x=acc+n*128 ^ k∧n<128 ^ m∧(k=0∨0<n)∧∀ f,m≤f+1→pL f n++l.drop (c-k)=l∧(pL f n).length=c-k:=by
 intro m
 induction m with
 |zero=>intro k acc x c l h;cases h
 |succ m ih =>
  intro k acc x c l h
  cases l with
  |nil=>cases h
  |cons y t =>
   simp only[rdF]at h
   have hy:y.toNat<256:=y.toNat_lt
   split at h
   ·rename_i hs
    obtain⟨h1,h2,h3⟩:acc+y.toNat*128 ^ k=x∧k+1=c∧(k=0∨0<y.toNat):=by simpa using h
    subst h1 h2
    refine⟨y.toNat,rfl,?_,h3,?_⟩
    ·have:128 ^ 1≤128 ^ (m+1):=Nat.pow_le_pow_right (by decide) (by omega)
     omega
    ·intro f _
     have e:pL f y.toNat=[y]:=by
      cases f with
      |zero=>simp only[pL];rw[aA4]
      |succ f=>simp only[pL];rw[if_pos hs,aA4]
     rw[e,show k+1-k=1 from by omega]
     exact⟨rfl,rfl⟩
   ·rename_i hs
    have hc:=aLG h
    obtain⟨n,e1,e2,e3,e4⟩:=ih h
    have hn:0<n:=by omega
    refine⟨y.toNat%128+128*n,?_,?_, .inr (by omega),?_⟩
    ·rw[e1,Nat.pow_succ,Nat.add_mul,Nat.add_assoc]
     congr 2
     rw[Nat.mul_comm (128 ^ k),← Nat.mul_assoc,Nat.mul_comm n]
    ·rw[Nat.pow_succ]
     omega
    ·intro f hf
     obtain⟨f,rfl⟩:∃ j,f=j+1:=by
      cases f with
      |zero =>
       have:m=0:=by omega
       subst this
       cases h
      |succ f=>exact⟨f,rfl⟩
     have e:=e4 f (by omega)
     have hv:pL (f+1) (y.toNat%128+128*n)=y::pL f n:=by
      simp only[pL]
      rw[if_neg (by omega),show(y.toNat%128+128*n)%128+128=y.toNat from by omega,aA4,show(y.toNat%128+128*n)/128=n from by omega]
     rw[hv,show c-k=(c-(k+1))+1 from by omega,List.drop_succ_cons,List.cons_append,e.1,List.length_cons,e.2]
     exact⟨rfl,rfl⟩
theorem aMO {n:Nat} (h:n≤1000000000000) (t:aE):gV (qO n++t)=some (n,(qO n).length):=by
 unfold gV qO
 rw[aKq (by
  have:(128:Nat) ^ 9=9223372036854775808:=by decide
  omega) (by
   have:(128:Nat) ^ 6=4398046511104:=by decide
   omega) (by decide)]
 simp[h]
theorem aMP {n:Nat} (h:n≤562949953421311) (t:aE):gS (qO n++t)=some (n,(qO n).length):=by
 unfold gS qO
 rw[aKq (by
  have:(128:Nat) ^ 9=9223372036854775808:=by decide
  omega) (by
   have:(128:Nat) ^ 8=72057594037927936:=by decide
   omega) (by decide)]
 simp
theorem aMQ {l:aE} {n c:Nat} (h:gV l=some (n,c)):qO n++l.drop c=l∧(qO n).length=c∧n≤1000000000000:=by
 unfold gV at h
 split at h
 ·rename_i x y he
  split at h
  ·rename_i hn
   cases h
   obtain⟨n',e1,e2,e3,e4⟩:=aKr he
   have e:=e4 8 (by decide)
   have:n'=n:=by simp at e1;omega
   subst this
   exact⟨e.1,e.2,hn⟩
  ·cases h
 ·cases h
theorem aMR {l:aE} {n c:Nat} (h:gS l=some (n,c)):qO n++l.drop c=l∧(qO n).length=c:=by
 unfold gS at h
 split at h
 ·rename_i x y he
  cases h
  obtain⟨n',e1,e2,e3,e4⟩:=aKr he
  have e:=e4 8 (by decide)
  have:n'=n:=by simp at e1;omega
  subst this
  exact e
 ·cases h
theorem aEj {b:aE} {a c:Nat} {v:aE} (h:v++(b.drop a).drop c=b.drop a) (hc:v.length=c):b.take (a+c)=b.take a++v:=by
 rw[List.take_add,← h,List.take_append_of_le_length (by omega),← hc,List.take_length]
theorem eX {b:aE} {a n c:Nat} (h:gV (b.drop a)=some (n,c)):b.take (a+c)=aC (b.take a) n:=by
 have e:=aMQ h
 unfold aC
 rw[if_pos (by simp[bK];omega),Int.toNat_natCast]
 exact aEj e.1 e.2.1
theorem aJC (p:aE) {n:Nat} (h:n≤1000000000000):aC p n=p++qO n:=by
 unfold aC
 rw[if_pos (by simp[bK];omega),Int.toNat_natCast]
theorem aJD:∀ {k:Nat} {b:aE} {a:Nat} {acc l:List Sum} {q:Nat},sMs k b a acc=some (l,q)→∃ r,l=acc++r∧b.take q=b.take a++gT r∧r.length=k:=by
 intro k
 induction k with
 |zero=>intro b a acc l q h;cases h;exact⟨[],by simp,by simp[gT],rfl⟩
 |succ k ih =>
  intro b a acc l q h
  rw[sMs]at h
  cases hg:gS (b.drop a) with
  |none=>rw[hg]at h;cases h
  |some p =>
   obtain⟨n,c⟩:=p
   rw[hg]at h
   obtain⟨r,e1,e2,e3⟩:=ih h
   have e:=aMR hg
   refine⟨aHp n::r,by rw[e1];simp,?_,by simp[e3]⟩
   rw[e2,aEj e.1 e.2,gT,List.append_assoc]
   rfl
theorem aHu {b:aE} {a:Nat} {x:Man} {q:Nat} (h:aA9 b a=some (x,q)):b.take q=cG (b.take a) x:=by
 have hx:=(aCh h).1
 unfold aA9 at h
 cases h1:gV (b.drop a) with
 |none=>rw[h1]at h;cases h
 |some p1 =>
  obtain⟨g,c1⟩:=p1
  rw[h1]at h
  simp only at h
  cases h2:gV (b.drop (a+c1)) with
  |none=>rw[h2]at h;cases h
  |some p2 =>
   obtain⟨s,c2⟩:=p2
   rw[h2]at h
   simp only at h
   cases h3:gV (b.drop (a+c1+c2)) with
   |none=>rw[h3]at h;cases h
   |some p3 =>
    obtain⟨n,c3⟩:=p3
    rw[h3]at h
    obtain⟨l,e1,e2,e3⟩:=qT h
    obtain⟨r,f1,f2,f3⟩:=aJD e1
    rw[f2,eX h3,eX h2,eX h1]
    unfold cG qQ
    rw[if_pos hx,e2]
    simp only[List.nil_append]at f1
    rw[f1]
theorem tL {k:Nat} {b:aE} {a:Nat} {acc l:List Int} {q:Nat} (h:gWa (k+1) b a acc=some (l,q)):∃ n c,gV (b.drop a)=some (n,c)∧n<1048576∧gWa k b (a+c) (acc++[(n:Int)])=some (l,q):=by
 rw[gWa]at h
 cases hg:gV (b.drop a) with
 |none=>rw[hg]at h;cases h
 |some p =>
  obtain⟨n,c⟩:=p
  rw[hg]at h
  simp only at h
  split at h
  ·rename_i hn;exact⟨n,c,rfl,hn,h⟩
  ·cases h
theorem aDd {n:Nat} (h:n<1099511627776):vG (n:Int)=((n%1048576:Nat):Int):=by
 unfold vG
 rw[BitVec.toNat_and,BitVec.ofInt_natCast,show BitVec.ofInt IntKind.i64.bits 1048575=BitVec.ofNat IntKind.i64.bits 1048575 from rfl,BitVec.toNat_ofNat,BitVec.toNat_ofNat]
 rw[Nat.mod_eq_of_lt (show n<2 ^ IntKind.i64.bits from by simp only[IntKind.bits];omega),Nat.mod_eq_of_lt (show 1048575<2 ^ IntKind.i64.bits from by decide),Nat.and_two_pow_sub_one_eq_mod n 20]
 exact aH (by omega)
theorem aDe {n:Nat}:aCn (n:Int)=((n/1048576:Nat):Int):=by
 unfold aCn
 rw[show min (20:Int).toNat IntKind.i64.bits=20 from by decide,show(2:Int) ^ 20=1048576 from by decide]
 rw[Int.fdiv_eq_ediv_of_nonneg _ (by decide)]
 omega
theorem aEk (p:aE) {w0 w1:Nat} (h0:w0<1048576) (h1:w1<1048576):bL p ((w0:Int)+(w1:Int)*1048576)=aC (aC p w0) w1:=by
 unfold bL
 rw[show(w0:Int)+(w1:Int)*1048576=((w0+w1*1048576:Nat):Int) from by omega,aDd (by omega),aDe,show(w0+w1*1048576)%1048576=w0 from by omega,show(w0+w1*1048576)/1048576=w1 from by omega]
theorem aLM {b:aE} {a most:Nat} {p:aE} {q:Nat} (h:gP b a most=some (p,q)):b.take q=cB (b.take a) p:=by
 unfold gP at h
 cases h1:gV (b.drop a) with
 |none=>rw[h1]at h;cases h
 |some x =>
  obtain⟨n,c⟩:=x
  rw[h1]at h
  simp only at h
  split at h
  ·rename_i hk
   cases h
   have hl:((b.drop (a+c)).take n).length=n:=by simp;omega
   unfold cB
   rw[hl,← eX h1,List.take_add]
  ·cases h
theorem aFo {b:aE} {a k:Nat} {m:Msg} {q:Nat} (h:dW b a k=some (m,q)) (hk:b.take a=aC [] k):b.take q=pV m:=by
 unfold dW at h
 unfold pV
 split at h
 ·rename_i k1
  subst k1
  cases hm:aA9 b a with
  |none=>rw[hm]at h;cases h
  |some x =>
   rw[hm]at h
   obtain⟨x,y⟩:=x
   have h:=Option.some.inj h
   cases h
   rw[if_pos rfl,aHu hm,hk]
   rfl
 ·rename_i k1
  cases h1:gV (b.drop a) with
  |none=>rw[h1]at h;cases h
  |some p1 =>
   obtain⟨g,c⟩:=p1
   rw[h1]at h
   simp only at h
   split at h
   ·rename_i k2
    subst k2
    obtain⟨w0,w1,d0,d1,e,rfl⟩:=aCi h
    obtain⟨n0,c0,g0,l0,e⟩:=tL e
    obtain⟨n1,c1,g1,l1,e⟩:=tL e
    obtain⟨n2,c2,g2,l2,e⟩:=tL e
    obtain⟨n3,c3,g3,l3,e⟩:=tL e
    rw[gWa]at e
    cases e
    rw[if_neg (by simp),if_pos rfl]
    rw[eX g3,eX g2,eX g1,eX g0,eX h1,hk]
    simp only
    rw[aEk _ l0 l1,aEk _ l2 l3]
    rfl
   ·split at h
    ·rename_i k2 k3
     subst k3
     cases h2:gV (b.drop (a+c)) with
     |none=>rw[h2]at h;cases h
     |some p2 =>
      obtain⟨i,d⟩:=p2
      rw[h2]at h
      simp only at h
      cases h3:gP b (a+c+d) 6 with
      |none=>rw[h3]at h;cases h
      |some x =>
       obtain⟨p,y⟩:=x
       rw[h3]at h
       have h:=Option.some.inj h
       cases h
       rw[if_neg (by simp),if_neg (by simp),if_pos rfl]
       rw[aLM h3,eX h2,eX h1,hk]
       rfl
    ·rename_i k2 k3
     cases h
     rw[if_neg (by simp;omega),if_neg (by simp;omega),if_neg (by simp;omega),eX h1,hk]
theorem aEl {b:aE} {m:Msg} (h:pS b=some m):bT m=true∧cO m=b∧b.length≤400:=by
 unfold pS at h
 cases h1:gV (b.drop 0) with
 |none=>rw[h1]at h;cases h
 |some p1 =>
  obtain⟨k,c⟩:=p1
  rw[h1]at h
  simp only at h
  split at h
  ·rename_i hl
   cases h2:dW b c k with
   |none=>rw[h2]at h;cases h
   |some mq =>
    obtain⟨m',q⟩:=mq
    rw[h2]at h
    simp only[aHt]at h
    split at h
    ·rename_i ho
     cases h3:gV (b.drop q) with
     |none=>rw[h3]at h;cases h
     |some wd =>
      obtain⟨w,d⟩:=wd
      rw[h3]at h
      simp only at h
      split at h
      ·rename_i hq
       cases h
       refine⟨ho,?_,hl⟩
       have e1:=eX h1
       rw[Nat.zero_add,List.take_zero]at e1
       have e2:=aFo h2 e1
       have e3:=eX h3
       unfold cO
       rw[if_pos ho,← e2,← hq.2,← e3,hq.1,List.take_length]
      ·cases h
    ·cases h
  ·cases h
theorem dH (p:aE) (n:Int):p <+: aC p n:=by
 unfold aC
 split
 ·exact List.prefix_append _ _
 ·exact List.prefix_rfl
theorem hZ {p b:aE} {n:Nat} (h:n≤1000000000000) (hp:aC p n <+: b):∃ c,gV (b.drop p.length)=some (n,c)∧(aC p n).length=p.length+c:=by
 rw[aJC p h]at hp ⊢
 obtain⟨t,rfl⟩:=hp
 rw[List.append_assoc,List.drop_left]
 exact⟨_,aMO h t,List.length_append⟩
theorem aMS {p b r:aE} {n:Nat} (h:n≤562949953421311) (hp:p++(qO n++r) <+: b):gS (b.drop p.length)=some (n,(qO n).length):=by
 obtain⟨t,rfl⟩:=hp
 rw[List.append_assoc,List.drop_left,List.append_assoc]
 exact aMP h _
theorem aHv {m:Man} {l:List Sum}:∀ {i:Nat},aEc m i l=true→∀ x∈l,bR x.s=true∧bG (bN x.s)=x:=by
 induction l with
 |nil=>intro i _ x hx;cases hx
 |cons y r ih =>
  intro i h x hx
  simp only[aEc,Bool.and_eq_true]at h
  rcases List.mem_cons.mp hx with rfl|hx
  ·have h1:=h.1
   simp only[aB6,Bool.and_eq_true,decide_eq_true_eq]at h1
   exact⟨h1.1,h1.2.2⟩
  ·exact ih h.2 x hx
theorem aLN {b:aE}:∀ {l:List Sum} {p:aE} {acc:List Sum},(∀ y∈l,bR y.s=true∧bG (bN y.s)=y)→p++gT l <+: b→sMs l.length b p.length acc=some (acc++l,(p++gT l).length)∧iMs l.length b p.length acc=some (acc++l,(p++gT l).length):=by
 intro l
 induction l with
 |nil=>intro p acc _ _;simp[sMs,iMs,gT]
 |cons y r ih =>
  intro p acc hy hp
  have h1:=hy y (by simp)
  have hr:=zO h1.1
  obtain⟨n,hn⟩:∃ n:Nat,y.s=n:=⟨y.s.toNat,by omega⟩
  rw[gT,hn,Int.toNat_natCast]at hp ⊢
  have hg:=aMS (by omega) hp
  have e:=ih (p:=p++qO n) (acc:=acc++[y]) (fun z hz=>hy z (by simp[hz])) (by rw[List.append_assoc];exact hp)
  rw[List.length_append,List.append_assoc,List.append_assoc]at e
  have hs:aHp n=y:=by
   unfold aHp
   rw[← hn,h1.2]
  constructor
  ·rw[List.length_cons,sMs,hg]
   simp only
   rw[hs]
   exact e.1
  ·rw[List.length_cons,iMs,hg]
   simp only
   rw[← hn,if_pos h1.1,h1.2]
   exact e.2
theorem aJE {b p:aE} {x:Man} (hx:aZ x=true) (h0:x.gen≠0) (hp:cG p x <+: b):aA9 b p.length=some (x,(cG p x).length)∧aFt b p.length=some (x,(cG p x).length):=by
 have hx':=hx
 obtain⟨gen,size,len,sums⟩:=x
 unfold cG at hp ⊢
 rw[if_pos hx]at hp ⊢
 unfold aZ at hx'
 rw[if_neg h0]at hx'
 simp only[Bool.and_eq_true,decide_eq_true_eq]at hx'
 obtain⟨a1,a2,a3,a4⟩:=hx'
 have a1:=bP a1
 unfold dC at a2
 simp only[Bool.and_eq_true]at a2
 have b1:=bP a2.1
 have b2:=bP a2.2
 rw[show IntKind.i64.wrap (size*40)=size*40 from aH (by omega)]at b2
 obtain⟨g,rfl⟩:∃ g:Nat,gen=g:=⟨gen.toNat,by omega⟩
 obtain⟨s,rfl⟩:∃ g:Nat,size=g:=⟨size.toNat,by omega⟩
 obtain⟨n,rfl⟩:∃ g:Nat,len=g:=⟨len.toNat,by omega⟩
 have hh:qQ p ⟨g,s,n,sums⟩ <+: b:=List.IsPrefix.trans (List.prefix_append _ _) hp
 unfold qQ at hh
 simp only at hh
 obtain⟨c3,e3,l3⟩:=hZ (by omega) hh
 have hh2:=List.IsPrefix.trans (dH _ _) hh
 obtain⟨c2,e2,l2⟩:=hZ (by omega) hh2
 have hh1:=List.IsPrefix.trans (dH _ _) hh2
 obtain⟨c1,e1,l1⟩:=hZ (by omega) hh1
 have hs:=aLN (acc:=[]) (aHv a4) hp
 rw[List.nil_append]at hs
 rw[l1]at e2 l2
 rw[l2]at e3 l3
 rw[show(qQ p ⟨g,s,n,sums⟩).length=p.length+c1+c2+c3 from l3]at hs
 unfold aA9 aFt
 rw[e1]
 simp only
 rw[e2]
 simp only
 rw[e3]
 simp only
 rw[if_pos (show 0<g from by omega),← a3,Int.toNat_natCast,hs.1,hs.2,aA0 hx]
 exact⟨rfl,rfl⟩
theorem aHw (p:aE) (s:Int):p <+: bL p s:=List.IsPrefix.trans (dH _ _) (dH _ _)
theorem aEm {n:Nat} (h:n<1099511627776):wor ((n%1048576:Nat):Int) (aLJ ((n/1048576:Nat):Int))=(n:Int):=by
 have hs:aLJ ((n/1048576:Nat):Int)=((n/1048576*1048576:Nat):Int):=by
  unfold aLJ
  rw[aLI (by omega) (by omega)]
  omega
 rw[hs,(aAU (by omega) (by omega)).1]
 congr 1
 rw[Nat.or_comm,Nat.mul_comm,show(1048576:Nat)=2 ^ 20 from rfl,← Nat.two_pow_add_eq_or_of_lt (Nat.mod_lt _ (by decide))]
 exact Nat.div_add_mod n (2 ^ 20)
theorem aDf {x:Man} (h:bS x=true):x=lL:=by
 rw[← pM]at h
 exact of_decide_eq_true h
theorem aMT {b p s:aE} {most:Nat} (hs:s.length≤most) (hm:most≤1000000) (hp:cB p s <+: b):gP b p.length most=some (s,(cB p s).length):=by
 unfold cB at hp ⊢
 have h1:aC p (s.length:Nat) <+: b:=List.IsPrefix.trans (List.prefix_append _ _) hp
 obtain⟨c,e,l⟩:=hZ (by omega) h1
 obtain⟨t,rfl⟩:=hp
 unfold gP
 rw[e]
 simp only
 rw[← l,if_pos ⟨hs,by simp only[List.length_append];omega⟩,List.append_assoc,List.drop_left,List.take_left,List.length_append]
theorem aHx {b:aE} {man:Man} (ho:aZ man=true) (h0:man.gen≠0) (hp:cG (aC [] 1) man <+: b) :
 dW b (aC [] 1).length 1=some (⟨1,0,man,0,0,0,[]⟩,(cG (aC [] 1) man).length)∧hJ b (aC [] 1).length 1=some ⟨1,0,man,0,0,0,[]⟩:=by
 have e:=aJE ho h0 hp
 constructor
 ·unfold dW
  rw[if_pos rfl,e.1]
  rfl
 ·unfold hJ
  rw[if_pos rfl,e.2]
theorem aHy {b:aE} {g w d:Nat} (hg:g≤1000000) (hw:w<1099511627776) (hd:d<1099511627776) (hp:bL (bL (aC (aC [] 2) g) w) d <+: b) :
 dW b (aC [] 2).length 2=some (⟨2,g,lL,w,d,0,[]⟩,(bL (bL (aC (aC [] 2) g) w) d).length)∧hJ b (aC [] 2).length 2=some ⟨2,g,lL,w,d,0,[]⟩:=by
 unfold bL at hp ⊢
 rw[aDd hw,aDd hd,aDe,aDe]at hp ⊢
 have p5:=hp
 have p4:=List.IsPrefix.trans (dH _ _) p5
 have p3:=List.IsPrefix.trans (dH _ _) p4
 have p2:=List.IsPrefix.trans (dH _ _) p3
 have p1:=List.IsPrefix.trans (dH _ _) p2
 obtain⟨c1,e1,l1⟩:=hZ (by omega) p1
 obtain⟨c2,e2,l2⟩:=hZ (by omega) p2
 obtain⟨c3,e3,l3⟩:=hZ (by omega) p3
 obtain⟨c4,e4,l4⟩:=hZ (by omega) p4
 obtain⟨c5,e5,l5⟩:=hZ (by omega) p5
 rw[l5]
 rw[l4]at e5 ⊢
 rw[l3]at e4 e5 ⊢
 rw[l2]at e3 e4 e5 ⊢
 rw[l1]at e2 e3 e4 e5 ⊢
 constructor
 ·unfold dW
  rw[if_neg (by decide),e1]
  simp only
  rw[if_pos trivial]
  simp only[gWa,e2,e3,e4,e5]
  rw[if_pos (by omega),if_pos (by omega),if_pos (by omega),if_pos (by omega)]
  simp only[List.nil_append,List.cons_append,aLH]
  congr 3
  ·omega
  ·omega
 ·unfold hJ
  rw[if_neg (by decide),if_pos rfl]
  simp only[gVa,e1,e2,e3,e4,e5,List.nil_append,List.cons_append,aJB]
  rw[aEm hw,aEm hd]
theorem aHz {b s:aE} {g i:Nat} (hg:g≤1000000) (hi:i≤39) (hs:s.length≤6) (hp:cB (aC (aC (aC [] 3) g) i) s <+: b) :
 dW b (aC [] 3).length 3=some (⟨3,g,lL,0,0,i,s⟩,(cB (aC (aC (aC [] 3) g) i) s).length)∧hJ b (aC [] 3).length 3=some ⟨3,g,lL,0,0,i,s⟩:=by
 have e3:=aMT hs (by decide) hp
 have p2:aC (aC (aC [] 3) g) i <+: b:=List.IsPrefix.trans (List.IsPrefix.trans (dH _ _) (List.prefix_append _ _)) hp
 have p1:=List.IsPrefix.trans (dH _ _) p2
 obtain⟨c1,e1,l1⟩:=hZ (by omega) p1
 obtain⟨c2,e2,l2⟩:=hZ (by omega) p2
 rw[l2]at e3
 rw[l1]at e2 e3
 constructor
 ·unfold dW
  rw[if_neg (by decide),e1]
  simp only
  rw[if_neg (by decide),if_pos trivial,e2]
  simp only
  rw[e3]
  rfl
 ·unfold hJ
  rw[if_neg (by decide),if_neg (by decide),if_pos rfl]
  simp only[gVa,e1,e2,List.nil_append,List.cons_append,aHr,e3]
theorem aHA {b:aE} {g:Nat} (hg:g≤1000000) (hp:aC (aC [] 4) g <+: b) :
 dW b (aC [] 4).length 4=some (⟨4,g,lL,0,0,0,[]⟩,(aC (aC [] 4) g).length)∧hJ b (aC [] 4).length 4=some ⟨4,g,lL,0,0,0,[]⟩:=by
 obtain⟨c1,e1,l1⟩:=hZ (by omega) hp
 constructor
 ·unfold dW
  rw[if_neg (by decide),e1]
  simp only
  rw[if_neg (by decide),if_neg (by decide),l1]
  rfl
 ·unfold hJ
  rw[if_neg (by decide),if_neg (by decide),if_neg (by decide),if_pos rfl,e1]
theorem aJF {b:aE} {m:Msg} (ho:bT m=true) (hp:pV m <+: b):∃ k:Nat,m.kind=k∧k≤4∧aC [] k <+: b∧dW b (aC [] k).length k=some (m,(pV m).length)∧hJ b (aC [] k).length k=some m:=by
 have hk:=qR ho
 obtain⟨kind,gen,man,want,done,i,s⟩:=m
 unfold bT at ho
 unfold pV at hp ⊢
 simp only at hk ho hp ⊢
 rcases hk with rfl|rfl|rfl|rfl
 ·rw[if_pos rfl]at hp ho ⊢
  simp only[gZ,Bool.and_eq_true,Bool.true_or,Bool.false_or,decide_eq_true_eq,Bool.not_eq_true',decide_eq_false_iff_not,true_and]at ho
  obtain⟨rfl,h0,hm,⟨rfl,rfl⟩,rfl,rfl⟩:=ho
  refine⟨1,rfl,by decide,?_,aHx hm h0 hp⟩
  refine List.IsPrefix.trans ?_ hp
  unfold cG
  rw[if_pos hm]
  exact List.IsPrefix.trans (List.IsPrefix.trans (dH _ _) (List.IsPrefix.trans (dH _ _) (dH _ _))) (List.prefix_append _ _)
 ·rw[if_neg (by decide),if_pos rfl]at hp ho ⊢
  simp only[Bool.and_eq_true,decide_eq_true_eq,cN]at ho
  obtain⟨hg,hz,hw,hd,rfl,rfl⟩:=ho
  obtain rfl:=aDf hz
  have hg:=bP hg
  have hw:=bP hw
  have hd:=bP hd
  obtain⟨g,rfl⟩:∃ g:Nat,gen=g:=⟨gen.toNat,by omega⟩
  obtain⟨w,rfl⟩:∃ g:Nat,want=g:=⟨want.toNat,by omega⟩
  obtain⟨d,rfl⟩:∃ g:Nat,done=g:=⟨done.toNat,by omega⟩
  refine⟨2,rfl,by decide,?_,aHy (by omega) (by omega) (by omega) hp⟩
  exact List.IsPrefix.trans (List.IsPrefix.trans (dH _ _) (List.IsPrefix.trans (aHw _ _) (aHw _ _))) hp
 ·rw[if_neg (by decide),if_neg (by decide),if_pos rfl]at hp ho ⊢
  simp only[Bool.and_eq_true,decide_eq_true_eq]at ho
  obtain⟨hg,hz,rfl,rfl,hi,hs⟩:=ho
  obtain rfl:=aDf hz
  have hg:=bP hg
  have hi:=bP hi
  have hs:=bP hs
  obtain⟨g,rfl⟩:∃ g:Nat,gen=g:=⟨gen.toNat,by omega⟩
  obtain⟨j,rfl⟩:∃ g:Nat,i=g:=⟨i.toNat,by omega⟩
  refine⟨3,rfl,by decide,?_,aHz (by omega) (by omega) (by omega) hp⟩
  exact List.IsPrefix.trans (List.IsPrefix.trans (List.IsPrefix.trans (dH _ _) (dH _ _)) (List.IsPrefix.trans (dH _ _) (List.prefix_append _ _))) hp
 ·rw[if_neg (by decide),if_neg (by decide),if_neg (by decide)]at hp ho ⊢
  simp only[gZ,Bool.and_eq_true,Bool.false_or,decide_eq_true_eq,true_and]at ho
  obtain⟨hg,hz,⟨rfl,rfl⟩,rfl,rfl⟩:=ho
  obtain rfl:=aDf hz
  have hg:=bP hg
  obtain⟨g,rfl⟩:∃ g:Nat,gen=g:=⟨gen.toNat,by omega⟩
  refine⟨4,rfl,by decide,?_,aHA (by omega) hp⟩
  exact List.IsPrefix.trans (dH _ _) hp
theorem aLO (b:aE):∃ n:Nat,aX b=n∧n≤100000:=by
 rw[lZ]
 exact⟨(smS b%251+251*(smP b%251)).toNat,by omega,by omega⟩
theorem aHB {b:aE} {m:Msg} (ho:bT m=true) (hp:cO m=b) (hl:b.length≤400):pS b=some m∧pI b=some m:=by
 unfold cO at hp
 rw[if_pos ho]at hp
 obtain⟨w,hw,hw2⟩:=aLO (pV m)
 rw[hw]at hp
 have hpre:pV m <+: b:=by rw[← hp];exact dH _ _
 obtain⟨k,hk,hk4,h1,h2,h3⟩:=aJF ho hpre
 obtain⟨c,e1,l1⟩:=hZ (p:=[]) (by omega) h1
 rw[l1,List.length_nil,Nat.zero_add]at h2 h3
 rw[List.length_nil]at e1
 obtain⟨d,e2,l2⟩:=hZ (p:=pV m) (b:=b) (n:=w) (by omega) (by rw[hp];exact List.prefix_rfl)
 rw[hp]at l2
 constructor
 ·unfold pS
  rw[e1]
  simp only
  rw[if_pos hl,h2]
  simp only[aHt]
  rw[if_pos ho,e2]
  simp only
  have ht:b.take (pV m).length=pV m:=(List.prefix_iff_eq_take.mp hpre).symm
  rw[ht,if_pos ⟨l2.symm,hw.symm⟩]
 ·unfold pI
  rw[e1]
  simp only
  rw[if_pos hl,h3]
  simp only
  rw[if_pos ⟨ho,by unfold cO;rw[if_pos ho,hw,hp]⟩]
theorem aJG {b:aE} {m:Msg} (h:pI b=some m):bT m=true∧cO m=b∧b.length≤400:=by
 unfold pI at h
 cases h1:gV (b.drop 0) with
 |none=>rw[h1]at h;cases h
 |some p1 =>
  obtain⟨k,c⟩:=p1
  rw[h1]at h
  simp only at h
  split at h
  ·rename_i hl
   cases h2:hJ b c k with
   |none=>rw[h2]at h;cases h
   |some x =>
    rw[h2]at h
    simp only at h
    split at h
    ·rename_i hq
     cases h
     exact⟨hq.1,hq.2,hl⟩
    ·cases h
  ·cases h
theorem aNB (b:aE):pI b=pS b:=by
 cases h:pS b with
 |some m =>
  have e:=aEl h
  exact(aHB e.1 e.2.1 e.2.2).2
 |none =>
  cases h2:pI b with
  |none=>rfl
  |some m =>
   have e:=aJG h2
   rw[(aHB e.1 e.2.1 e.2.2).1]at h
   cases h
theorem aA5 {E:Env} (hE:Sys E) (b:aE) (hb:b.length≤1048576):E 323 [sv (bys b)]=some ([gv ((gM (pS b)).cs dY),bv (pS b).isSome],[]):=yI hE b hb
theorem aA6 {E:Env} (hE:Sys E) (b:aE) (hb:b.length≤1048576):E 329 [sv (bys b)]=some ([gv ((gM (pS b)).cs dY),bv (pS b).isSome],[]):=by
 rw[← aNB];exact yH hE b hb
theorem aEn {b:aE} {m:Msg} (h:pS b=some m):m.lim 1048576:=by
 have e:=aEl h
 have:=aAQ e.1
 unfold pS at h
 cases h1:gV (b.drop 0) with
 |none=>rw[h1]at h;cases h
 |some p1 =>
  obtain⟨k,c⟩:=p1
  rw[h1]at h
  simp only at h
  split at h
  ·cases h2:dW b c k with
   |none=>rw[h2]at h;cases h
   |some mq =>
    obtain⟨m',q⟩:=mq
    rw[h2]at h
    simp only[aHt]at h
    split at h
    ·split at h
     ·split at h
      ·cases h;exact(zV h2).1
      ·cases h
     ·cases h
    ·cases h
  ·cases h
def lM (n:Node) (id:Int) (m:Msg):Node:={ n with kids:=sO n.kids id m.want m.done }
def qU (g:Int):Msg:=⟨4,g,⟨0,0,0,[]⟩,0,0,0,[]⟩
def aHC (x:Man):Msg:=⟨1,0,x,0,0,0,[]⟩
def eG (n:Node) (k id:Int) (m:Msg):Actn :=
 if id=k then⟨n,[]⟩
 else if n.phase=0 then⟨lM n id m,[eD k id (qU 0)]⟩
 else if ¬ m.gen=n.man.gen then⟨lM n id m,[eD k id (aHC n.man)]⟩
 else if(cP (lM n id m) k id).out=[] then⟨(cP (lM n id m) k id).n,[eD k id (qU n.man.gen)]⟩
 else cP (lM n id m) k id
theorem aDg {n:Node} {id:Int} {m:Msg} (hn:n.man.sums.length≤1048576∧n.bld.buf.length≤1048576∧n.kids.length+1≤4194304):(lM n id m).limk:=by
 refine⟨hn.1,hn.2.1,?_⟩
 show(sO n.kids id m.want m.done).length≤_
 have:=aHa n.kids id m.want m.done
 omega
theorem pT {E:Env} (hE:Sys E) (n:Node) (k id:Int) (m:Msg) (hn:n.man.sums.length≤1048576∧n.bld.buf.length≤1048576∧n.kids.length+1≤4194304):E 452 [gv (n.cs aL),iv k,iv id,gv (m.cs aL)]=some ([gv ((eG n k id m).cs dY true)],[]):=by
 have hk:n.limk:=⟨hn.1,hn.2.1,by omega⟩
 have a0:=cV hE n hk.l8
 have a1:=aC9 hE n.kids id m.want m.done hk.2.2
 have a2:=dQ hE k id (qU 0) ⟨Nat.zero_le _,Nat.zero_le _⟩
 have a3:=dQ hE k id (aHC n.man) ⟨hn.1,Nat.zero_le _⟩
 have a4:=sR hE (lM n id m) k id (aDg hn)
 have a5:=dQ hE k id (qU n.man.gen) ⟨Nat.zero_le _,Nat.zero_le _⟩
 unfold eG
 by_cases h1:id=k
 ·rw[if_pos h1]
  refine hE.run rfl rfl fun W hW=>?_
  conv=>lhs;whnf
  repeat'((first|with_reducible apply hW.bt (wQ h1)|apply hW.t|apply hW.f|(apply hW.q;exact rqc)|apply hW.w (a0)|(apply hW.b<;>intro h))<;>conv=>lhs;whnf)
  rfl
 ·rw[if_neg h1]
  by_cases h2:n.phase=0
  ·rw[if_pos h2]
   refine hE.run rfl rfl fun W hW=>?_
   conv=>lhs;whnf
   repeat'((first|with_reducible apply hW.bf (gA h1)|with_reducible apply hW.bt (wQ h2)|apply hW.t|apply hW.f|(apply hW.q;exact rqc)|apply hW.w (a0)|apply hW.w (a1)|apply hW.w (a2)|(apply hW.b<;>intro h))<;>conv=>lhs;whnf)
   rfl
  ·rw[if_neg h2]
   by_cases h3:m.gen=n.man.gen
   ·rw[if_neg (fun h=>h h3)]
    generalize cP (lM n id m) k id=x at a4 ⊢
    obtain⟨xn,xo⟩:=x
    cases xo with
    |nil =>
     rw[if_pos rfl]
     refine hE.run rfl rfl fun W hW=>?_
     conv=>lhs;whnf
     repeat'((first|with_reducible apply hW.bf (gA h1)|with_reducible apply hW.bf (gA h2)|with_reducible apply hW.bf (zQ h3)|apply hW.t|apply hW.f|(apply hW.q;exact rqc)|apply hW.w (a0)|apply hW.w (a1)|apply hW.w (a4)|apply hW.w (a5)|(apply hW.b<;>intro h))<;>conv=>lhs;whnf)
     rfl
    |cons p xo =>
     rw[if_neg (by simp)]
     refine hE.run rfl rfl fun W hW=>?_
     conv=>lhs;whnf
     repeat'((first|with_reducible apply hW.bf (gA h1)|with_reducible apply hW.bf (gA h2)|with_reducible apply hW.bf (zQ h3)|apply hW.t|apply hW.f|(apply hW.q;exact rqc)|apply hW.w (a0)|apply hW.w (a1)|apply hW.w (a4)|(apply hW.b<;>intro h))<;>conv=>lhs;whnf)
     rfl
   ·rw[if_pos h3]
    refine hE.run rfl rfl fun W hW=>?_
    conv=>lhs;whnf
    repeat'((first|with_reducible apply hW.bf (gA h1)|with_reducible apply hW.bf (gA h2)|with_reducible apply hW.bt (aHK h3)|apply hW.t|apply hW.f|(apply hW.q;exact rqc)|apply hW.w (a0)|apply hW.w (a1)|apply hW.w (a3)|(apply hW.b<;>intro h))<;>conv=>lhs;whnf)
    rfl
theorem pU {E:Env} (hE:Sys E) (n:Node) (k id:Int) (m:Msg) (hn:n.man.sums.length≤1048576∧n.bld.buf.length≤1048576∧n.kids.length+1≤4194304):E 455 [gv (n.cs aL),iv k,iv id,gv (m.cs aL)]=some ([gv ((eG n k id m).cs dY true)],[]):=by
 have hk:n.limk:=⟨hn.1,hn.2.1,by omega⟩
 have a0:=cY hE n hk.l8
 have a1:=aDa hE n.kids id m.want m.done hk.2.2
 have a2:=dR hE k id (qU 0) ⟨Nat.zero_le _,Nat.zero_le _⟩
 have a3:=dR hE k id (aHC n.man) ⟨hn.1,Nat.zero_le _⟩
 have a4:=sS hE (lM n id m) k id (aDg hn)
 have a5:=dR hE k id (qU n.man.gen) ⟨Nat.zero_le _,Nat.zero_le _⟩
 unfold eG
 by_cases h1:id=k
 ·rw[if_pos h1]
  refine hE.run rfl rfl fun W hW=>?_
  conv=>lhs;whnf
  repeat'((first|with_reducible apply hW.bt (wQ h1)|apply hW.t|apply hW.f|(apply hW.q;exact rqc)|apply hW.w (a0)|(apply hW.b<;>intro h))<;>conv=>lhs;whnf)
  rfl
 ·rw[if_neg h1]
  by_cases h2:n.phase=0
  ·rw[if_pos h2]
   refine hE.run rfl rfl fun W hW=>?_
   conv=>lhs;whnf
   repeat'((first|with_reducible apply hW.bf (gA h1)|with_reducible apply hW.bt (wQ h2)|apply hW.t|apply hW.f|(apply hW.q;exact rqc)|apply hW.w (a0)|apply hW.w (a1)|apply hW.w (a2)|(apply hW.b<;>intro h))<;>conv=>lhs;whnf)
   rfl
  ·rw[if_neg h2]
   by_cases h3:m.gen=n.man.gen
   ·rw[if_neg (fun h=>h h3)]
    generalize cP (lM n id m) k id=x at a4 ⊢
    obtain⟨xn,xo⟩:=x
    cases xo with
    |nil =>
     rw[if_pos rfl]
     refine hE.run rfl rfl fun W hW=>?_
     conv=>lhs;whnf
     repeat'((first|with_reducible apply hW.bf (gA h1)|with_reducible apply hW.bf (gA h2)|with_reducible apply hW.bf (zQ h3)|apply hW.t|apply hW.f|(apply hW.q;exact rqc)|apply hW.w (a0)|apply hW.w (a1)|apply hW.w (a4)|apply hW.w (a5)|(apply hW.b<;>intro h))<;>conv=>lhs;whnf)
     rfl
    |cons p xo =>
     rw[if_neg (by simp)]
     refine hE.run rfl rfl fun W hW=>?_
     conv=>lhs;whnf
     repeat'((first|with_reducible apply hW.bf (gA h1)|with_reducible apply hW.bf (gA h2)|with_reducible apply hW.bf (zQ h3)|apply hW.t|apply hW.f|(apply hW.q;exact rqc)|apply hW.w (a0)|apply hW.w (a1)|apply hW.w (a4)|(apply hW.b<;>intro h))<;>conv=>lhs;whnf)
     all_goals first|rfl|(exfalso;have h:=of_decide_eq_false h;simp at h;done)|(exfalso;have h:=of_decide_eq_false h;simp at h;omega)
   ·rw[if_pos h3]
    refine hE.run rfl rfl fun W hW=>?_
    conv=>lhs;whnf
    repeat'((first|with_reducible apply hW.bf (gA h1)|with_reducible apply hW.bf (gA h2)|with_reducible apply hW.bt (aHK h3)|apply hW.t|apply hW.f|(apply hW.q;exact rqc)|apply hW.w (a0)|apply hW.w (a1)|apply hW.w (a3)|(apply hW.b<;>intro h))<;>conv=>lhs;whnf)
    rfl
theorem wK (n:Node) (k id:Int) (m:Msg) (hn:n.lim 1048576) (_:m.lim 1048576):(eG n k id m).lim 4194304:=by
 have hn':=hn.k.l4
 have hh:=(aDg (id:=id) (m:=m) ⟨hn.1,hn.2.1,by have:=hn.2.2;omega⟩)
 have hz:aAw (fun B=>Pkt.lim B) 4194304 ([]:List Pkt):=⟨Nat.zero_le _,fun _ h=>by cases h⟩
 have h1:∀ m:Msg,aAw (fun B=>Pkt.lim B) 4194304 [eD k id m]:=fun m=>⟨by simp,fun x hx=>by rw[List.mem_singleton.mp hx];exact Nat.le_trans (nT _) (by decide)⟩
 have hs:=xX (lM n id m) k id hh
 unfold eG
 split
 ·exact⟨hn',hz⟩
 ·split
  ·exact⟨hh.l4,h1 _⟩
  ·split
   ·exact⟨hh.l4,h1 _⟩
   ·split
    ·exact⟨hs.1,h1 _⟩
    ·exact hs
def sU (t:Tree) (k:Int) (n:Node) (d:Disk) (p:Pkt):Actn :=
 if n.on=false then⟨n,[]⟩ else
 match pS p.b with
 |none=>⟨vO n,[]⟩
 |some m =>
  if bK p.frm 0 ((t.up.length:Int)-1)=false then⟨vO n,[]⟩
  else if p.frm=k then⟨vO n,[]⟩
  else if m.kind=2 then eG n k p.frm m
  else if p.frm=n.boss then gW n k d m
  else⟨vO n,[]⟩
theorem aCj {E:Env} (hE:Sys E) (t:Tree) (k:Int) (n:Node) (d:Disk) (p:Pkt) (ht:t.lim 1048576) (hn:n.man.sums.length≤1048576∧n.bld.buf.length≤1048576∧n.kids.length+1≤4194304) (hd:d.lim 1048576) (hp:p.lim 1048576):E 450 [gv (t.cs aL),iv k,gv (n.cs aL),gv (d.cs aL true),gv (p.cs aL)]=some ([gv ((sU t k n d p).cs dY true)],[]):=by
 have hk:n.limk:=⟨hn.1,hn.2.1,by omega⟩
 have hrl:(bZ t.up).length=t.up.length:=List.length_map _
 have htl:t.up.length≤1048576:=ht
 have hw:IntKind.i64.wrap ((t.up.length:Int)-1)=(t.up.length:Int)-1:=aH (by omega)
 have a0:=cV hE n hk.l8
 have a1:=fI hE n hk.l8
 have a2:=aA5 hE p.b hp
 have a3:=bF hE p.frm 0 ((t.up.length:Int)-1)
 unfold sU
 cases hon:n.on with
 |false =>
  rw[if_pos rfl]
  have hon':(!n.on)=true:=by rw[hon];rfl
  refine hE.run rfl rfl fun W hW=>?_
  conv=>lhs;whnf
  repeat'((first|with_reducible apply hW.bt (hon')|apply hW.t|apply hW.f|(apply hW.q;exact rqc)|apply hW.w (a0)|(apply hW.b<;>intro h))<;>conv=>lhs;whnf)
  rfl
 |true =>
  rw[if_neg (by decide)]
  have hon':(!n.on)=false:=by rw[hon];rfl
  cases hm:pS p.b with
  |none =>
   rw[hm]at a2
   refine hE.run rfl rfl fun W hW=>?_
   conv=>lhs;whnf
   repeat'((first|with_reducible apply hW.bf (hon')|apply hW.t|apply hW.f|(apply hW.q;exact rqc)|apply hW.w (a2)|apply hW.w (a1)|(apply hW.b<;>intro h))<;>conv=>lhs;whnf)
   rfl
  |some m =>
   rw[hm,show gM (some m)=m from rfl]at a2
   have hml:=aEn hm
   simp only
   cases h1:bK p.frm 0 ((t.up.length:Int)-1) with
   |false =>
    rw[h1]at a3
    rw[if_pos rfl]
    refine hE.run rfl rfl fun W hW=>?_
    conv=>lhs;whnf
    repeat'((first|with_reducible apply hW.bf (hon')|apply hW.t|apply hW.f|(apply hW.q;exact rqc)|apply hW.w (a2)|(apply hW.b<;>intro h))<;>conv=>lhs;whnf)
    rw[hrl,hw]
    repeat'((first|apply hW.t|apply hW.f|(apply hW.q;exact rqc)|apply hW.w (a3)|apply hW.w (a1)|(apply hW.b<;>intro h))<;>conv=>lhs;whnf)
    rfl
   |true =>
    rw[h1]at a3
    rw[if_neg (by decide)]
    by_cases h2:p.frm=k
    ·rw[if_pos h2]
     refine hE.run rfl rfl fun W hW=>?_
     conv=>lhs;whnf
     repeat'((first|with_reducible apply hW.bf (hon')|apply hW.t|apply hW.f|(apply hW.q;exact rqc)|apply hW.w (a2)|(apply hW.b<;>intro h))<;>conv=>lhs;whnf)
     rw[hrl,hw]
     repeat'((first|with_reducible apply hW.bt (wQ h2)|apply hW.t|apply hW.f|(apply hW.q;exact rqc)|apply hW.w (a3)|apply hW.w (a1)|(apply hW.b<;>intro h))<;>conv=>lhs;whnf)
     rfl
    ·rw[if_neg h2]
     by_cases h3:m.kind=2
     ·rw[if_pos h3]
      have a4:=pT hE n k p.frm m hn
      refine hE.run rfl rfl fun W hW=>?_
      conv=>lhs;whnf
      repeat'((first|with_reducible apply hW.bf (hon')|apply hW.t|apply hW.f|(apply hW.q;exact rqc)|apply hW.w (a2)|(apply hW.b<;>intro h))<;>conv=>lhs;whnf)
      rw[hrl,hw]
      repeat'((first|with_reducible apply hW.bf (gA h2)|with_reducible apply hW.bt (wQ h3)|apply hW.t|apply hW.f|(apply hW.q;exact rqc)|apply hW.w (a3)|apply hW.w (a4)|(apply hW.b<;>intro h))<;>conv=>lhs;whnf)
      rfl
     ·rw[if_neg h3]
      by_cases h4:p.frm=n.boss
      ·rw[if_pos h4]
       have a5:=vW hE n k d m hk hd hml
       refine hE.run rfl rfl fun W hW=>?_
       conv=>lhs;whnf
       repeat'((first|with_reducible apply hW.bf (hon')|apply hW.t|apply hW.f|(apply hW.q;exact rqc)|apply hW.w (a2)|(apply hW.b<;>intro h))<;>conv=>lhs;whnf)
       rw[hrl,hw]
       repeat'((first|with_reducible apply hW.bf (gA h2)|with_reducible apply hW.bf (gA h3)|with_reducible apply hW.bt (wQ h4)|apply hW.t|apply hW.f|(apply hW.q;exact rqc)|apply hW.w (a3)|apply hW.w (a5)|(apply hW.b<;>intro h))<;>conv=>lhs;whnf)
       rfl
      ·rw[if_neg h4]
       refine hE.run rfl rfl fun W hW=>?_
       conv=>lhs;whnf
       repeat'((first|with_reducible apply hW.bf (hon')|apply hW.t|apply hW.f|(apply hW.q;exact rqc)|apply hW.w (a2)|(apply hW.b<;>intro h))<;>conv=>lhs;whnf)
       rw[hrl,hw]
       repeat'((first|with_reducible apply hW.bf (gA h2)|with_reducible apply hW.bf (gA h3)|with_reducible apply hW.bf (gA h4)|apply hW.t|apply hW.f|(apply hW.q;exact rqc)|apply hW.w (a3)|apply hW.w (a1)|(apply hW.b<;>intro h))<;>conv=>lhs;whnf)
       rfl
theorem aCk {E:Env} (hE:Sys E) (t:Tree) (k:Int) (n:Node) (d:Disk) (p:Pkt) (ht:t.lim 1048576) (hn:n.man.sums.length≤1048576∧n.bld.buf.length≤1048576∧n.kids.length+1≤4194304) (hd:d.lim 1048576) (hp:p.lim 1048576):E 451 [gv (t.cs aL),iv k,gv (n.cs aL),gv (d.cs aL true),gv (p.cs aL)]=some ([gv ((sU t k n d p).cs dY true)],[]):=by
 have hk:n.limk:=⟨hn.1,hn.2.1,by omega⟩
 have hrl:(bZ t.up).length=t.up.length:=List.length_map _
 have htl:t.up.length≤1048576:=ht
 have hw:IntKind.i64.wrap ((t.up.length:Int)-1)=(t.up.length:Int)-1:=aH (by omega)
 have a0:=cY hE n hk.l8
 have a2:=aA6 hE p.b hp
 have a3:=aAJ hE t p.frm ht
 unfold sU
 cases hon:n.on with
 |false =>
  rw[if_pos rfl]
  have hon':(!n.on)=true:=by rw[hon];rfl
  refine hE.run rfl rfl fun W hW=>?_
  conv=>lhs;whnf
  repeat'((first|with_reducible apply hW.bt (hon')|apply hW.t|apply hW.f|(apply hW.q;exact rqc)|apply hW.w (a0)|(apply hW.b<;>intro h))<;>conv=>lhs;whnf)
  rfl
 |true =>
  rw[if_neg (by decide)]
  have hon':(!n.on)=false:=by rw[hon];rfl
  cases hm:pS p.b with
  |none =>
   rw[hm]at a2
   refine hE.run rfl rfl fun W hW=>?_
   conv=>lhs;whnf
   repeat'((first|with_reducible apply hW.bf (hon')|apply hW.t|apply hW.f|(apply hW.q;exact rqc)|apply hW.w (a0)|apply hW.w (a2)|(apply hW.b<;>intro h))<;>conv=>lhs;whnf)
   rfl
  |some m =>
   rw[hm,show gM (some m)=m from rfl]at a2
   have hml:=aEn hm
   simp only
   cases h1:bK p.frm 0 ((t.up.length:Int)-1) with
   |false =>
    rw[h1]at a3
    rw[if_pos rfl]
    refine hE.run rfl rfl fun W hW=>?_
    conv=>lhs;whnf
    repeat'((first|with_reducible apply hW.bf (hon')|apply hW.t|apply hW.f|(apply hW.q;exact rqc)|apply hW.w (a0)|apply hW.w (a2)|(apply hW.b<;>intro h))<;>conv=>lhs;whnf)
    skip
    repeat'((first|apply hW.t|apply hW.f|(apply hW.q;exact rqc)|apply hW.w (a3)|(apply hW.b<;>intro h))<;>conv=>lhs;whnf)
    rfl
   |true =>
    rw[h1]at a3
    rw[if_neg (by decide)]
    by_cases h2:p.frm=k
    ·rw[if_pos h2]
     refine hE.run rfl rfl fun W hW=>?_
     conv=>lhs;whnf
     repeat'((first|with_reducible apply hW.bf (hon')|apply hW.t|apply hW.f|(apply hW.q;exact rqc)|apply hW.w (a0)|apply hW.w (a2)|(apply hW.b<;>intro h))<;>conv=>lhs;whnf)
     skip
     repeat'((first|with_reducible apply hW.bt (wQ h2)|apply hW.t|apply hW.f|(apply hW.q;exact rqc)|apply hW.w (a3)|(apply hW.b<;>intro h))<;>conv=>lhs;whnf)
     rfl
    ·rw[if_neg h2]
     by_cases h3:m.kind=2
     ·rw[if_pos h3]
      have a4:=pU hE n k p.frm m hn
      refine hE.run rfl rfl fun W hW=>?_
      conv=>lhs;whnf
      repeat'((first|with_reducible apply hW.bf (hon')|apply hW.t|apply hW.f|(apply hW.q;exact rqc)|apply hW.w (a0)|apply hW.w (a2)|(apply hW.b<;>intro h))<;>conv=>lhs;whnf)
      skip
      repeat'((first|with_reducible apply hW.bf (gA h2)|with_reducible apply hW.bt (wQ h3)|apply hW.t|apply hW.f|(apply hW.q;exact rqc)|apply hW.w (a3)|apply hW.w (a4)|(apply hW.b<;>intro h))<;>conv=>lhs;whnf)
      rfl
     ·rw[if_neg h3]
      by_cases h4:p.frm=n.boss
      ·rw[if_pos h4]
       have a5:=vX hE n k d m hk hd hml
       refine hE.run rfl rfl fun W hW=>?_
       conv=>lhs;whnf
       repeat'((first|with_reducible apply hW.bf (hon')|apply hW.t|apply hW.f|(apply hW.q;exact rqc)|apply hW.w (a0)|apply hW.w (a2)|(apply hW.b<;>intro h))<;>conv=>lhs;whnf)
       skip
       repeat'((first|with_reducible apply hW.bf (gA h2)|with_reducible apply hW.bf (gA h3)|with_reducible apply hW.bt (wQ h4)|apply hW.t|apply hW.f|(apply hW.q;exact rqc)|apply hW.w (a3)|apply hW.w (a5)|(apply hW.b<;>intro h))<;>conv=>lhs;whnf)
       rfl
      ·rw[if_neg h4]
       refine hE.run rfl rfl fun W hW=>?_
       conv=>lhs;whnf
       repeat'((first|with_reducible apply hW.bf (hon')|apply hW.t|apply hW.f|(apply hW.q;exact rqc)|apply hW.w (a0)|apply hW.w (a2)|(apply hW.b<;>intro h))<;>conv=>lhs;whnf)
       skip
       repeat'((first|with_reducible apply hW.bf (gA h2)|with_reducible apply hW.bf (gA h3)|with_reducible apply hW.bf (gA h4)|apply hW.t|apply hW.f|(apply hW.q;exact rqc)|apply hW.w (a3)|(apply hW.b<;>intro h))<;>conv=>lhs;whnf)
       rfl
theorem aCl (t:Tree) (k:Int) (n:Node) (d:Disk) (p:Pkt) (_:t.lim 1048576) (hn:n.lim 1048576) (hd:d.lim 1048576) (hp:p.lim 1048576):(sU t k n d p).lim 4194304:=by
 have hn':=hn.k.l4
 have hz:aAw (fun B=>Pkt.lim B) 4194304 ([]:List Pkt):=⟨Nat.zero_le _,fun _ h=>by cases h⟩
 unfold sU
 split
 ·exact⟨hn',hz⟩
 ·split
  ·exact⟨hY hn',hz⟩
  ·rename_i m hm
   split
   ·exact⟨hY hn',hz⟩
   ·split
    ·exact⟨hY hn',hz⟩
    ·split
     ·exact wK n k p.frm m hn (aEn hm)
     ·split
      ·exact aAY n k d m hn.k hd (aEn hm)
      ·exact⟨hY hn',hz⟩
theorem aDh {E:Env} (hE:Sys E) (t:Tree) (k:Int) (n:Node) (d:Disk) (p:Pkt) (ht:t.lim 1048576) (hn:n.lim 1048576) (hd:d.lim 1048576) (hp:p.lim 1048576):E 450 [gv (t.cs aL),iv k,gv (n.cs aL),gv (d.cs aL true),gv (p.cs aL)]=some ([gv ((sU t k n d p).cs dY true)],[]) :=
 aCj hE t k n d p ht ⟨hn.1,hn.2.1,by have:=hn.2.2;omega⟩ hd hp
theorem aDi {E:Env} (hE:Sys E) (t:Tree) (k:Int) (n:Node) (d:Disk) (p:Pkt) (ht:t.lim 1048576) (hn:n.lim 1048576) (hd:d.lim 1048576) (hp:p.lim 1048576):E 451 [gv (t.cs aL),iv k,gv (n.cs aL),gv (d.cs aL true),gv (p.cs aL)]=some ([gv ((sU t k n d p).cs dY true)],[]) :=
 aCk hE t k n d p ht ⟨hn.1,hn.2.1,by have:=hn.2.2;omega⟩ hd hp
def igN (t:Tree) (k:Int) (n:Node) (d:Disk) (p:Pkt):Node:={ (sU t k n d p).n with drops:=n.drops }
def tM (t:Tree) (k:Int) (n:Node) (d:Disk) (p:Pkt):Bool:=decide (((sU t k n d p).out.length:Int)=0)&&lA (igN t k n d p) n
theorem yJ {E:Env} (hE:Sys E) (t:Tree) (k:Int) (n:Node) (d:Disk) (p:Pkt) (ht:t.lim 1048576) (hn:n.lim 1048576) (hd:d.lim 1048576) (hp:p.lim 1048576):E 537 [gv (t.cs aL),iv k,gv (n.cs aL),gv (d.cs aL true),gv (p.cs aL)]=some ([bv (tM t k n d p)],[]):=by
 have a0:=aDh hE t k n d p ht hn hd hp
 have hl:=aCl t k n d p ht hn hd hp
 have hg:(igN t k n d p).lim 4194304:=⟨hl.1.1,hl.1.2.1,hl.1.2.2⟩
 have a1:=sK hE (igN t k n d p) n hg
 unfold tM
 unfold igN at a1 hg ⊢
 generalize sU t k n d p=x at a0 a1 hg ⊢
 have hrl:(x.out.map (Pkt.row true)).length=x.out.length:=List.length_map _
 refine hE.run rfl rfl fun W hW=>?_
 conv=>lhs;whnf
 apply hW.w (a0)
 conv=>lhs;whnf
 repeat((first|apply hW.t|apply hW.f|(apply hW.q;exact rqc));conv=>lhs;whnf)
 rw[hrl]
 apply hW.b<;>intro h<;>conv=>lhs;whnf
 ·rw[h]
  repeat((first|apply hW.t|apply hW.f|(apply hW.q;exact rqc));conv=>lhs;whnf)
  apply hW.w (a1)
  conv=>lhs;whnf
  repeat((first|apply hW.t|apply hW.f|(apply hW.q;exact rqc));conv=>lhs;whnf)
  rfl
 ·rw[h]
  repeat((first|apply hW.t|apply hW.f|(apply hW.q;exact rqc));conv=>lhs;whnf)
  rfl
theorem yK {E:Env} (hE:Sys E) (t:Tree) (k:Int) (n:Node) (d:Disk) (p:Pkt) (ht:t.lim 1048576) (hn:n.lim 1048576) (hd:d.lim 1048576) (hp:p.lim 1048576):E 536 [gv (t.cs aL),iv k,gv (n.cs aL),gv (d.cs aL true),gv (p.cs aL)]=some ([bv (tM t k n d p)],[]):=by
 have a0:=aDi hE t k n d p ht hn hd hp
 have hl:=aCl t k n d p ht hn hd hp
 have hg:(igN t k n d p).lim 4194304:=⟨hl.1.1,hl.1.2.1,hl.1.2.2⟩
 have a1:=sJ hE (igN t k n d p) n hg
 unfold tM
 unfold igN at a1 hg ⊢
 generalize sU t k n d p=x at a0 a1 hg ⊢
 have hrl:(x.out.map (Pkt.row true)).length=x.out.length:=List.length_map _
 refine hE.run rfl rfl fun W hW=>?_
 conv=>lhs;whnf
 apply hW.w (a0)
 conv=>lhs;whnf
 repeat((first|apply hW.t|apply hW.f|(apply hW.q;exact rqc));conv=>lhs;whnf)
 rw[hrl]
 apply hW.b<;>intro h<;>conv=>lhs;whnf
 ·rw[h]
  repeat((first|apply hW.t|apply hW.f|(apply hW.q;exact rqc));conv=>lhs;whnf)
  apply hW.w (a1)
  conv=>lhs;whnf
  repeat((first|apply hW.t|apply hW.f|(apply hW.q;exact rqc));conv=>lhs;whnf)
  rfl
 ·rw[h]
  repeat((first|apply hW.t|apply hW.f|(apply hW.q;exact rqc));conv=>lhs;whnf)
  rfl
end Tev
