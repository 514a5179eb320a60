/- What the functions compute, one contract each. -/
import Derived.Test.YtilhpmmecmeedaaGreatTwiceCt1
set_option linter.unusedSimpArgs false
set_option linter.unusedVariables false
namespace Tev
open Go
set_option maxRecDepth 50000
set_option maxHeartbeats 20000000
theorem wW {E:Env} (hE:Sys E) (b:aD) (n:Nat) (hb:b.length≤1099511627776) (hn:n<9223372036854775808):E 309 [ov 1 (bys b),iv n]=some ([ov 1 (bys (b++sE n))],[]):=by
 refine hE.run rfl rfl fun W hW=>?_
 conv=>lhs;whnf
 refine hW.loop (σ:=Nat × aD) (γ:=Nat) (fun i s=>(s.sl 1 (v1 (.t (.int .i64 i.1)))).bl ⟨50000,1, .own,bys i.2⟩) (fun i k=>k≤8∧i.1<128 ^ (k+1)∧i.1<9223372036854775808∧i.2.length+k≤b.length+8∧i.2++qT k i.1=b++sE n) (fun k=>k) (fun _=>([ov 1 (bys (b++sE n))],[])) (n,b) 8 ?_ ?_ ?_ ?_
 ·intro K
  conv=>lhs;whnf
  conv=>rhs;whnf
  try rfl
 ·refine⟨by omega,?_,hn,by simp only;omega,rfl⟩
  have:(128:Nat) ^ (8+1)=9223372036854775808:=by decide
  simp only;omega
 ·rintro kl ⟨m,acc⟩ k ⟨hk,hm,hm2,hl,hs⟩ ih
  simp only at hm hm2 hl hs
  conv=>lhs;whnf
  apply hW.b<;>intro g1<;>conv=>lhs;whnf
  ·have g1:127<m:=by
    have:(m:Int)>127:=by simpa using g1
    omega
   cases k with
   |zero=>simp at hm;omega
   |succ k =>
    rw[qT,if_neg (by omega)]at hs
    repeat((first|apply hW.t|apply hW.f|(apply hW.q;exact rqc));conv=>lhs;whnf)
    refine hW.q (by exact⟨by decide,by intro e he;simp at he;subst he;rfl,by simp[aH];omega,by simp[aH];omega⟩) ?_
    conv=>lhs;whnf
    repeat((first|apply hW.t|apply hW.f|(apply hW.q;exact rqc));conv=>lhs;whnf)
    rw[aL7 (by omega),aPF]
    refine ih (m/128,acc++[dX ((m%128+128:Nat):Int)]) k _ ?_ ⟨by omega,?_,by omega,by simp;omega,by simpa using hs⟩ (by omega)
    ·intro K
     conv=>lhs;whnf
     conv=>rhs;whnf
     try rfl
     rw[← nO]
     rfl
    ·have:128 ^ (k+1+1)=128 ^ (k+1)*128:=Nat.pow_succ ..
     simp only
     omega
  ·have g1:m<128:=by
    have:¬ (m:Int)>127:=by simpa using g1
    omega
   have:qT k m=[dX (m:Int)]:=by cases k<;>simp[qT,g1]
   rw[this]at hs
   repeat((first|apply hW.t|apply hW.f|(apply hW.q;exact rqc));conv=>lhs;whnf)
   refine hW.q (by exact⟨by decide,by intro e he;simp at he;subst he;rfl,by simp[aH];omega,by simp[aH];omega⟩) ?_
   conv=>lhs;whnf
   repeat((first|apply hW.t|apply hW.f|(apply hW.q;exact rqc));conv=>lhs;whnf)
   rw[← hs,← nO]
   rfl
 ·rfl
theorem lD {E:Env} (hE:Sys E) (b:aD) (n:Nat) (hb:b.length≤1099511627776) (hn:n<9223372036854775808):E 320 [ov 1 (bys b),iv n]=some ([ov 1 (bys (b++sE n))],[]):=by
 refine hE.run rfl rfl fun W hW=>?_
 conv=>lhs;whnf
 refine hW.loop (σ:=Nat × aD) (γ:=Nat) (fun i s=>(s.sl 1 (v1 (.t (.int .i64 i.1)))).bl ⟨50000,1, .own,bys i.2⟩) (fun i k=>k≤8∧i.1<128 ^ (k+1)∧i.1<9223372036854775808∧i.2.length+k≤b.length+8∧i.2++qT k i.1=b++sE n) (fun k=>k) (fun _=>([ov 1 (bys (b++sE n))],[])) (n,b) 8 ?_ ?_ ?_ ?_
 ·intro K
  conv=>lhs;whnf
  conv=>rhs;whnf
  try rfl
 ·refine⟨by omega,?_,hn,by simp only;omega,rfl⟩
  have:(128:Nat) ^ (8+1)=9223372036854775808:=by decide
  simp only;omega
 ·rintro kl ⟨m,acc⟩ k ⟨hk,hm,hm2,hl,hs⟩ ih
  simp only at hm hm2 hl hs
  conv=>lhs;whnf
  apply hW.b<;>intro g1<;>conv=>lhs;whnf
  ·have g1:127<m:=by
    have:(m:Int)≥128:=by simpa using g1
    omega
   cases k with
   |zero=>simp at hm;omega
   |succ k =>
    rw[qT,if_neg (by omega)]at hs
    repeat((first|apply hW.t|apply hW.f|(apply hW.q;exact rqc));conv=>lhs;whnf)
    refine hW.q (by exact⟨by decide,by intro e he;simp at he;subst he;rfl,by simp[aH];omega,by simp[aH];omega⟩) ?_
    conv=>lhs;whnf
    repeat((first|apply hW.t|apply hW.f|(apply hW.q;exact rqc));conv=>lhs;whnf)
    rw[aOx,aPF]
    refine ih (m/128,acc++[dX ((m%128+128:Nat):Int)]) k _ ?_ ⟨by omega,?_,by omega,by simp;omega,by simpa using hs⟩ (by omega)
    ·intro K
     conv=>lhs;whnf
     conv=>rhs;whnf
     try rfl
     rw[← nO]
     rfl
    ·have:128 ^ (k+1+1)=128 ^ (k+1)*128:=Nat.pow_succ ..
     simp only
     omega
  ·have g1:m<128:=by
    have:¬ (m:Int)≥128:=by simpa using g1
    omega
   have:qT k m=[dX (m:Int)]:=by cases k<;>simp[qT,g1]
   rw[this]at hs
   repeat((first|apply hW.t|apply hW.f|(apply hW.q;exact rqc));conv=>lhs;whnf)
   refine hW.q (by exact⟨by decide,by intro e he;simp at he;subst he;rfl,by simp[aH];omega,by simp[aH];omega⟩) ?_
   conv=>lhs;whnf
   repeat((first|apply hW.t|apply hW.f|(apply hW.q;exact rqc));conv=>lhs;whnf)
   rw[← hs,← nO]
   rfl
 ·rfl
def aC (b:aD) (n:Int):aD:=if bK n 0 1000000000000=true then b++sE n.toNat else b
theorem aK (b:aD) (n:Int):(aC b n).length≤b.length+9:=by
 unfold aC;split
 ·have:=uW (n:=n.toNat);simp;omega
 ·omega
theorem aS {E:Env} (hE:Sys E) (b:aD) (n:Int) (hb:b.length≤1099511627776):E 303 [sv (bys b),iv n]=some ([ov 1 (bys (aC b n))],[]):=by
 have a:=bJ hE n 0 1000000000000
 unfold aC
 cases hr:bK n 0 1000000000000
 ·rw[hr]at a
  refine hE.run rfl rfl fun W hW=>?_
  conv=>lhs;whnf
  refine hW.q (by exact⟨by decide,aX _,by simp[aH];omega,by simp[aH];omega⟩) ?_
  conv=>lhs;whnf
  apply hW.bt (cL _)
  conv=>lhs;whnf
  repeat((first|apply hW.t|apply hW.f|(apply hW.q;exact rqc));conv=>lhs;whnf)
  apply hW.w (a)
  conv=>lhs;whnf
  repeat((first|apply hW.t|apply hW.f|(apply hW.q;exact rqc));conv=>lhs;whnf)
  rfl
 ·rw[hr]at a
  have hr:=bU hr
  obtain⟨n,rfl⟩:∃ k:Nat,n=k:=⟨n.toNat,by omega⟩
  simp only[if_true]
  rw[show((n:Int).toNat)=n from by omega]
  refine hE.run rfl rfl fun W hW=>?_
  conv=>lhs;whnf
  refine hW.q (by exact⟨by decide,aX _,by simp[aH];omega,by simp[aH];omega⟩) ?_
  conv=>lhs;whnf
  apply hW.bt (cL _)
  conv=>lhs;whnf
  repeat((first|apply hW.t|apply hW.f|(apply hW.q;exact rqc));conv=>lhs;whnf)
  apply hW.w (a)
  conv=>lhs;whnf
  repeat((first|apply hW.t|apply hW.f|(apply hW.q;exact rqc));conv=>lhs;whnf)
  refine hW.loop (σ:=Nat × aD) (γ:=Nat) (fun i s=>(s.sl 1 (v1 (.t (.int .i64 i.1)))).bl ⟨50500,1, .own,bys i.2⟩) (fun i k=>k≤8∧i.1<128 ^ (k+1)∧i.1<9223372036854775808∧i.2.length+k≤b.length+8∧i.2++qT k i.1=b++sE n) (fun k=>k) (fun _=>([ov 1 (bys (b++sE n))],[])) (n,b) 8 ?_ ?_ ?_ ?_
  ·intro K
   conv=>lhs;whnf
   conv=>rhs;whnf
   try rfl
  ·refine⟨by omega,?_,by simp only;omega,by simp only;omega,rfl⟩
   have:(128:Nat) ^ (8+1)=9223372036854775808:=by decide
   simp only;omega
  ·rintro kl ⟨m,acc⟩ k ⟨hk,hm,hm2,hl,hs⟩ ih
   simp only at hm hm2 hl hs
   conv=>lhs;whnf
   apply hW.b<;>intro g1<;>conv=>lhs;whnf
   ·have g1:127<m:=by
     have:(m:Int)>127:=by simpa using g1
     omega
    cases k with
    |zero=>simp at hm;omega
    |succ k =>
     rw[qT,if_neg (by omega)]at hs
     repeat((first|apply hW.t|apply hW.f|(apply hW.q;exact rqc));conv=>lhs;whnf)
     refine hW.q (by exact⟨by decide,by intro e he;simp at he;subst he;rfl,by simp[aH];omega,by simp[aH];omega⟩) ?_
     conv=>lhs;whnf
     repeat((first|apply hW.t|apply hW.f|(apply hW.q;exact rqc));conv=>lhs;whnf)
     rw[aL7 (by omega),aPF]
     refine ih (m/128,acc++[dX ((m%128+128:Nat):Int)]) k _ ?_ ⟨by omega,?_,by omega,by simp;omega,by simpa using hs⟩ (by omega)
     ·intro K
      conv=>lhs;whnf
      conv=>rhs;whnf
      try rfl
      rw[← nO]
      rfl
     ·have:128 ^ (k+1+1)=128 ^ (k+1)*128:=Nat.pow_succ ..
      simp only
      omega
   ·have g1:m<128:=by
     have:¬ (m:Int)>127:=by simpa using g1
     omega
    have:qT k m=[dX (m:Int)]:=by cases k<;>simp[qT,g1]
    rw[this]at hs
    repeat((first|apply hW.t|apply hW.f|(apply hW.q;exact rqc));conv=>lhs;whnf)
    refine hW.q (by exact⟨by decide,by intro e he;simp at he;subst he;rfl,by simp[aH];omega,by simp[aH];omega⟩) ?_
    conv=>lhs;whnf
    repeat((first|apply hW.t|apply hW.f|(apply hW.q;exact rqc));conv=>lhs;whnf)
    rw[← hs,← nO]
    rfl
  ·rfl
theorem aW {E:Env} (hE:Sys E) (b:aD) (n:Int) (hb:b.length≤68719476736):E 312 [sv (bys b),iv n]=some ([ov 1 (bys (aC b n))],[]):=by
 have a:=bL hE n 0 1000000000000
 unfold aC
 cases hr:bK n 0 1000000000000
 ·rw[hr]at a
  refine hE.run rfl rfl fun W hW=>?_
  conv=>lhs;whnf
  apply hW.w (cM hE b hb)
  conv=>lhs;whnf
  repeat((first|apply hW.t|apply hW.f|(apply hW.q;exact rqc));conv=>lhs;whnf)
  apply hW.w (a)
  conv=>lhs;whnf
  repeat((first|apply hW.t|apply hW.f|(apply hW.q;exact rqc));conv=>lhs;whnf)
  rfl
 ·rw[hr]at a
  have hr:=bU hr
  obtain⟨n,rfl⟩:∃ k:Nat,n=k:=⟨n.toNat,by omega⟩
  simp only[if_true]
  rw[show((n:Int).toNat)=n from by omega]
  refine hE.run rfl rfl fun W hW=>?_
  conv=>lhs;whnf
  apply hW.w (cM hE b hb)
  conv=>lhs;whnf
  repeat((first|apply hW.t|apply hW.f|(apply hW.q;exact rqc));conv=>lhs;whnf)
  apply hW.w (a)
  conv=>lhs;whnf
  repeat((first|apply hW.t|apply hW.f|(apply hW.q;exact rqc));conv=>lhs;whnf)
  apply hW.w (lD hE b n (by omega) (by omega))
  conv=>lhs;whnf
  repeat((first|apply hW.t|apply hW.f|(apply hW.q;exact rqc));conv=>lhs;whnf)
  rfl
def cJ (b s:aD):aD:=aC b s.length++s
theorem zB {E:Env} (hE:Sys E) (b s:aD) (hb:b.length≤1073741824) (hs:s.length≤1073741824):E 306 [sv (bys b),sv (bys s)]=some ([ov 1 (bys (cJ b s))],[]):=by
 have hl:=aK b s.length
 refine hE.run rfl rfl fun W hW=>?_
 conv=>lhs;whnf
 rw[aY]
 apply hW.w (aS hE b s.length (by omega))
 conv=>lhs;whnf
 repeat((first|apply hW.t|apply hW.f|(apply hW.q;exact rqc));conv=>lhs;whnf)
 refine hW.q (by exact⟨by decide,aX _,by simp[aH];omega,by simp[aH];omega⟩) ?_
 conv=>lhs;whnf
 apply hW.bt (cL _)
 conv=>lhs;whnf
 repeat((first|apply hW.t|apply hW.f|(apply hW.q;exact rqc));conv=>lhs;whnf)
 unfold cJ
 rw[jP]
 rfl
theorem zC {E:Env} (hE:Sys E) (b s:aD) (hb:b.length≤1073741824) (hs:s.length≤1073741824):E 315 [sv (bys b),sv (bys s)]=some ([ov 1 (bys (cJ b s))],[]):=by
 have hl:=aK b s.length
 refine hE.run rfl rfl fun W hW=>?_
 conv=>lhs;whnf
 rw[aY]
 apply hW.w (aW hE b s.length (by omega))
 conv=>lhs;whnf
 repeat((first|apply hW.t|apply hW.f|(apply hW.q;exact rqc));conv=>lhs;whnf)
 refine hW.q (by exact⟨by decide,aX _,by simp[aH];omega,by simp[aH];omega⟩) ?_
 conv=>lhs;whnf
 apply hW.bt (cL _)
 conv=>lhs;whnf
 repeat((first|apply hW.t|apply hW.f|(apply hW.q;exact rqc));conv=>lhs;whnf)
 unfold cJ
 rw[jP]
 rfl
def wX (s:Int):Int:=IntKind.i64.wrap (BitVec.ofInt IntKind.i64.bits s &&& BitVec.ofInt IntKind.i64.bits 1048575).toNat
def aDf (s:Int):Int:=s.fdiv (2 ^ (min (20:Int).toNat IntKind.i64.bits))
theorem oG {E:Env} (hE:Sys E) (s:Int):E 305 [iv s]=some ([iv (wX s),iv (aDf s)],[]):=by
 refine hE.run rfl rfl fun W hW=>?_
 conv=>lhs;whnf
 repeat((first|apply hW.t|apply hW.f|(apply hW.q;exact rqc));conv=>lhs;whnf)
 rfl
def bS (b:aD) (s:Int):aD:=aC (aC b (wX s)) (aDf s)
theorem qV {E:Env} (hE:Sys E) (b:aD) (s:Int) (hb:b.length≤1073741824):E 314 [sv (bys b),iv s]=some ([ov 1 (bys (bS b s))],[]):=by
 have hl:=aK b (wX s)
 refine hE.run rfl rfl fun W hW=>?_
 conv=>lhs;whnf
 repeat((first|apply hW.t|apply hW.f|(apply hW.q;exact rqc));conv=>lhs;whnf)
 apply hW.w (aW hE b (wX s) (by omega))
 conv=>lhs;whnf
 repeat((first|apply hW.t|apply hW.f|(apply hW.q;exact rqc));conv=>lhs;whnf)
 apply hW.w (aW hE (aC b (wX s)) (aDf s) (by omega))
 conv=>lhs;whnf
 repeat((first|apply hW.t|apply hW.f|(apply hW.q;exact rqc));conv=>lhs;whnf)
 rfl
def iH:List Sum→aD
 |[]=>[]
 |x::r=>sE x.s.toNat++iH r
def sG (b:aD) (m:Man):aD:=aC (aC (aC b m.gen) m.size) m.len
def cO (b:aD) (m:Man):aD:=if aV m=true then sG b m++iH m.sums else b
theorem aAm {s:Int} (h:bQ s=true):1≤s∧s≤562949953421311:=by
 unfold bQ dJ at h
 split at h
 ·rename_i hr;exact bU hr
 ·cases h
theorem aLa {m:Man} {l:List Sum}:∀ {i:Nat},aDe m i l=true→∀ x∈l,1≤x.s∧x.s≤562949953421311:=by
 induction l with
 |nil=>intro i _ x hx;cases hx
 |cons y r ih =>
  intro i h x hx
  simp only[aDe,Bool.and_eq_true]at h
  rcases List.mem_cons.mp hx with rfl|hx
  ·have h1:=h.1
   simp only[zA,Bool.and_eq_true]at h1
   exact aAm h1.1
  ·exact ih h.2 x hx
theorem jV {m:Man} (h:aV m=true):m.sums.length≤40∧∀ x∈m.sums,1≤x.s∧x.s≤562949953421311:=by
 unfold aV at h
 split at h
 ·simp[cC]at h
  rw[h.2.2.2]
  exact⟨by simp,fun x hx=>by cases hx⟩
 ·simp only[Bool.and_eq_true,decide_eq_true_eq]at h
  obtain⟨_,_,h3,h4⟩:=h
  have:=jS m.size m.len
  exact⟨by omega,aLa h4⟩
theorem wY (b:aD) (m:Man):(sG b m).length≤b.length+27:=by
 unfold sG
 have h1:=aK b m.gen
 have h2:=aK (aC b m.gen) m.size
 have h3:=aK (aC (aC b m.gen) m.size) m.len
 omega
theorem aBq {E:Env} (hE:Sys E) (b:aD) (m:Man) (hb:b.length≤1073741824) (hm:m.sums.length≤1048576):E 304 [sv (bys b),gv (m.cs aN)]=some ([ov 1 (bys (cO b m))],[]):=by
 have a:=dR hE m hm
 have h1:=aK b m.gen
 have h2:=aK (aC b m.gen) m.size
 have h3:=wY b m
 have hrl:(m.sums.map Sum.row).length=m.sums.length:=List.length_map _
 unfold cO
 cases hr:aV m
 ·rw[hr]at a
  refine hE.run rfl rfl fun W hW=>?_
  conv=>lhs;whnf
  refine hW.q (by exact⟨by decide,aX _,by simp[aH];omega,by simp[aH];omega⟩) ?_
  conv=>lhs;whnf
  apply hW.bt (cL _)
  conv=>lhs;whnf
  repeat((first|apply hW.t|apply hW.f|(apply hW.q;exact rqc));conv=>lhs;whnf)
  apply hW.w (a)
  conv=>lhs;whnf
  repeat((first|apply hW.t|apply hW.f|(apply hW.q;exact rqc));conv=>lhs;whnf)
  rfl
 ·rw[hr]at a
  obtain⟨hs1,hs2⟩:=jV hr
  simp only[if_true]
  refine hE.run rfl rfl fun W hW=>?_
  conv=>lhs;whnf
  refine hW.q (by exact⟨by decide,aX _,by simp[aH];omega,by simp[aH];omega⟩) ?_
  conv=>lhs;whnf
  apply hW.bt (cL _)
  conv=>lhs;whnf
  repeat((first|apply hW.t|apply hW.f|(apply hW.q;exact rqc));conv=>lhs;whnf)
  apply hW.w (a)
  conv=>lhs;whnf
  repeat((first|apply hW.t|apply hW.f|(apply hW.q;exact rqc));conv=>lhs;whnf)
  apply hW.w (aS hE b m.gen (by omega))
  conv=>lhs;whnf
  repeat((first|apply hW.t|apply hW.f|(apply hW.q;exact rqc));conv=>lhs;whnf)
  apply hW.w (aS hE (aC b m.gen) m.size (by omega))
  conv=>lhs;whnf
  repeat((first|apply hW.t|apply hW.f|(apply hW.q;exact rqc));conv=>lhs;whnf)
  apply hW.w (aS hE (aC (aC b m.gen) m.size) m.len (by omega))
  conv=>lhs;whnf
  repeat((first|apply hW.t|apply hW.f|(apply hW.q;exact rqc));conv=>lhs;whnf)
  refine hW.loop (σ:=Nat × aD) (γ:=Nat) (fun i s=>(s.sl 6 (v1 (.t (.int .i64 i.1)))).bl ⟨50500,1, .own,bys i.2⟩) (fun i k=>i.1=k∧k≤m.sums.length∧i.2.length≤b.length+27+9*k∧i.2++iH (m.sums.drop k)=sG b m++iH m.sums) (fun k=>m.sums.length-k) (fun _=>([ov 1 (bys (sG b m++iH m.sums))],[])) (0,sG b m) 0 ?_ ?_ ?_ ?_
  ·intro K
   conv=>lhs;whnf
   conv=>rhs;whnf
   try rfl
  ·exact⟨rfl,by omega,by simp only;omega,rfl⟩
  ·rintro kl ⟨i,acc⟩ _ ⟨rfl,hi,hl,hs⟩ ih
   simp only at hi hl hs
   conv=>lhs;whnf
   rw[hrl]
   apply hW.b<;>intro g1<;>conv=>lhs;whnf
   ·have g1:i<m.sums.length:=by simpa using g1
    have hx:=hs2 _ (List.getElem_mem g1)
    rw[List.drop_eq_getElem_cons g1,iH]at hs
    repeat((first|apply hW.t|apply hW.f|(apply hW.q;exact rqc)|(refine hW.w (eR ?_) ?_;omega));conv=>lhs;whnf)
    obtain⟨q,hq⟩:∃ q:Nat,m.sums[i].s=q:=⟨m.sums[i].s.toNat,by omega⟩
    rw[hq]at hs ⊢
    rw[show((q:Int).toNat)=q from by omega]at hs
    apply hW.w (wW hE acc q (by omega) (by omega))
    conv=>lhs;whnf
    repeat((first|apply hW.t|apply hW.f|(apply hW.q;exact rqc));conv=>lhs;whnf)
    have hv:=uW (n:=q)
    refine ih (i+1,acc++sE q) (i+1) _ ?_ ⟨rfl,by omega,by simp;omega,by simpa using hs⟩ (by omega)
    intro K
    conv=>lhs;whnf
    conv=>rhs;whnf
    try rfl
    rw[show IntKind.i64.wrap ((i:Int)+1)=_ from aL (by omega)]
    try rfl
   ·have:i=m.sums.length:=by simp at g1;omega
    rw[this,List.drop_length,iH,List.append_nil]at hs
    repeat((first|apply hW.t|apply hW.f|(apply hW.q;exact rqc));conv=>lhs;whnf)
    rw[← hs];rfl
  ·rfl
theorem aBr {E:Env} (hE:Sys E) (b:aD) (m:Man) (hb:b.length≤1073741824) (hm:m.sums.length≤1048576):E 313 [sv (bys b),gv (m.cs aN)]=some ([ov 1 (bys (cO b m))],[]):=by
 have a:=dS hE m hm
 have h1:=aK b m.gen
 have h2:=aK (aC b m.gen) m.size
 have h3:=wY b m
 have hrl:(m.sums.map Sum.row).length=m.sums.length:=List.length_map _
 unfold cO
 cases hr:aV m
 ·rw[hr]at a
  refine hE.run rfl rfl fun W hW=>?_
  conv=>lhs;whnf
  apply hW.w (a)
  conv=>lhs;whnf
  repeat((first|apply hW.t|apply hW.f|(apply hW.q;exact rqc));conv=>lhs;whnf)
  apply hW.w (cM hE b (by omega))
  conv=>lhs;whnf
  repeat((first|apply hW.t|apply hW.f|(apply hW.q;exact rqc));conv=>lhs;whnf)
  rfl
 ·rw[hr]at a
  obtain⟨hs1,hs2⟩:=jV hr
  simp only[if_true]
  refine hE.run rfl rfl fun W hW=>?_
  conv=>lhs;whnf
  apply hW.w (a)
  conv=>lhs;whnf
  repeat((first|apply hW.t|apply hW.f|(apply hW.q;exact rqc));conv=>lhs;whnf)
  apply hW.w (aW hE b m.gen (by omega))
  conv=>lhs;whnf
  repeat((first|apply hW.t|apply hW.f|(apply hW.q;exact rqc));conv=>lhs;whnf)
  apply hW.w (aW hE (aC b m.gen) m.size (by omega))
  conv=>lhs;whnf
  repeat((first|apply hW.t|apply hW.f|(apply hW.q;exact rqc));conv=>lhs;whnf)
  apply hW.w (aW hE (aC (aC b m.gen) m.size) m.len (by omega))
  conv=>lhs;whnf
  repeat((first|apply hW.t|apply hW.f|(apply hW.q;exact rqc));conv=>lhs;whnf)
  rw[hrl]
  refine hW.loop (σ:=Nat × aD) (γ:=Nat) (fun i s=>(s.sl 26 (v1 (.t (.int .i64 i.1)))).bl ⟨50500,1, .own,bys i.2⟩) (fun i k=>i.1=k∧k≤m.sums.length∧i.2.length≤b.length+27+9*k∧i.2++iH (m.sums.drop k)=sG b m++iH m.sums) (fun k=>m.sums.length-k) (fun _=>([ov 1 (bys (sG b m++iH m.sums))],[])) (0,sG b m) 0 ?_ ?_ ?_ ?_
  ·intro K
   conv=>lhs;whnf
   conv=>rhs;whnf
   try rfl
  ·exact⟨rfl,by omega,by simp only;omega,rfl⟩
  ·rintro kl ⟨i,acc⟩ _ ⟨rfl,hi,hl,hs⟩ ih
   simp only at hi hl hs
   conv=>lhs;whnf
   apply hW.b<;>intro g1<;>conv=>lhs;whnf
   ·have g1:i<m.sums.length:=by simpa using g1
    have hx:=hs2 _ (List.getElem_mem g1)
    rw[List.drop_eq_getElem_cons g1,iH]at hs
    repeat((first|apply hW.t|apply hW.f|(apply hW.q;exact rqc)|(refine hW.w (eR ?_) ?_;omega));conv=>lhs;whnf)
    obtain⟨q,hq⟩:∃ q:Nat,m.sums[i].s=q:=⟨m.sums[i].s.toNat,by omega⟩
    rw[hq]at hs ⊢
    rw[show((q:Int).toNat)=q from by omega]at hs
    apply hW.w (lD hE acc q (by omega) (by omega))
    conv=>lhs;whnf
    repeat((first|apply hW.t|apply hW.f|(apply hW.q;exact rqc));conv=>lhs;whnf)
    have hv:=uW (n:=q)
    refine ih (i+1,acc++sE q) (i+1) _ ?_ ⟨rfl,by omega,by simp;omega,by simpa using hs⟩ (by omega)
    intro K
    conv=>lhs;whnf
    conv=>rhs;whnf
    try rfl
    rw[show IntKind.i64.wrap ((i:Int)+1)=_ from aL (by omega)]
    try rfl
   ·have:i=m.sums.length:=by simp at g1;omega
    rw[this,List.drop_length,iH,List.append_nil]at hs
    repeat((first|apply hW.t|apply hW.f|(apply hW.q;exact rqc));conv=>lhs;whnf)
    rw[← hs];rfl
  ·rfl
def rE (m:Msg):aD :=
 if m.kind=1 then cO (aC [] m.kind) m.man
 else if m.kind=2 then bS (bS (aC (aC [] m.kind) m.gen) m.want) m.done
 else if m.kind=3 then cJ (aC (aC (aC [] m.kind) m.gen) m.i) m.b
 else aC (aC [] m.kind) m.gen
def bE (m:Msg):aD:=if bY m=true then aC (rE m) (aZ (rE m)) else[]
theorem sH {m:Msg} (h:bY m=true):m.kind=1∨m.kind=2∨m.kind=3∨m.kind=4:=by
 unfold bY at h
 by_cases k1:m.kind=1
 ·exact .inl k1
 by_cases k2:m.kind=2
 ·exact .inr (.inl k2)
 by_cases k3:m.kind=3
 ·exact .inr (.inr (.inl k3))
 rw[if_neg k1,if_neg k2,if_neg k3]at h
 simp only[Bool.and_eq_true,decide_eq_true_eq]at h
 exact .inr (.inr (.inr h.1))
theorem aBs {m:Msg} (h:bY m=true):m.b.length≤6∨m.kind≠3:=by
 by_cases k3:m.kind=3
 ·left
  unfold bY at h
  rw[if_neg (by omega),if_neg (by omega),if_pos k3]at h
  simp only[Bool.and_eq_true]at h
  have:=bU h.2.2.2.2.2
  omega
 ·exact .inr k3
theorem aIL {l:List Sum}:(iH l).length≤9*l.length:=by
 induction l with
 |nil=>simp[iH]
 |cons x r ih =>
  have:=uW (n:=x.s.toNat)
  simp only[iH,List.length_append,List.length_cons];omega
theorem aDZ (b:aD) (m:Man):(cO b m).length≤b.length+387:=by
 unfold cO
 split
 ·rename_i h
  have h1:=(jV h).1
  have h2:=aIL (l:=m.sums)
  have h3:=wY b m
  simp only[List.length_append];omega
 ·omega
theorem wZ (b:aD) (s:Int):(bS b s).length≤b.length+18:=by
 unfold bS
 have h1:=aK b (wX s)
 have h2:=aK (aC b (wX s)) (aDf s)
 omega
theorem aBt {m:Msg} (h:bY m=true):(rE m).length≤1000:=by
 have hb:=aBs h
 have s0:=aK [] m.kind
 simp only[List.length_nil]at s0
 unfold rE
 split
 ·have:=aDZ (aC [] m.kind) m.man;omega
 ·split
  ·have h1:=aK (aC [] m.kind) m.gen
   have h2:=wZ (aC (aC [] m.kind) m.gen) m.want
   have h3:=wZ (bS (aC (aC [] m.kind) m.gen) m.want) m.done
   omega
  ·split
   ·have h1:=aK (aC [] m.kind) m.gen
    have h2:=aK (aC (aC [] m.kind) m.gen) m.i
    have h3:=aK (aC (aC (aC [] m.kind) m.gen) m.i) m.b.length
    unfold cJ
    simp only[List.length_append]
    omega
   ·have h1:=aK (aC [] m.kind) m.gen;omega
theorem aBu {E:Env} (hE:Sys E) (m:Msg) (hm:m.lim 1048576):E 301 [gv (m.cs aN)]=some ([ov 1 (bys (bE m))],[]):=by
 have a:=tQ hE m hm
 cases hr:bY m
 ·rw[hr]at a
  have e:bE m=[]:=by unfold bE;rw[if_neg (by rw[hr];decide)]
  rw[e]
  refine hE.run rfl rfl fun W hW=>?_
  conv=>lhs;whnf
  apply hW.w (a)
  conv=>lhs;whnf
  repeat((first|apply hW.t|apply hW.f|(apply hW.q;exact rqc));conv=>lhs;whnf)
  rfl
 ·rw[hr]at a
  have e:bE m=aC (rE m) (aZ (rE m)):=by unfold bE;rw[if_pos hr]
  have hk:=sH hr
  have hbl:=aBs hr
  have hL:=aBt hr
  rw[e]
  clear e
  obtain⟨kind,gen,man,want,done,i,b⟩:=m
  have hk:kind=1∨kind=2∨kind=3∨kind=4:=hk
  have hms:man.sums.length≤1048576:=hm.1
  have hbl:b.length≤6∨kind≠3:=hbl
  clear hm
  rcases hk with hk|hk|hk|hk
  ·subst hk
   have hB:rE ⟨1,gen,man,want,done,i,b⟩=cO (aC [] 1) man:=rfl
   rw[hB]at hL ⊢
   have s0:=aK [] 1
   refine hE.run rfl rfl fun W hW=>?_
   conv=>lhs;whnf
   apply hW.w (a)
   conv=>lhs;whnf
   repeat((first|apply hW.t|apply hW.f|(apply hW.q;exact rqc));conv=>lhs;whnf)
   apply hW.w (aS hE [] 1 (by simp))
   conv=>lhs;whnf
   repeat((first|apply hW.t|apply hW.f|(apply hW.q;exact rqc));conv=>lhs;whnf)
   apply hW.w (aBq hE (aC [] 1) man (by simp at s0;omega) hms)
   conv=>lhs;whnf
   repeat((first|apply hW.t|apply hW.f|(apply hW.q;exact rqc));conv=>lhs;whnf)
   apply hW.w (dH hE (cO (aC [] 1) man) (by omega))
   conv=>lhs;whnf
   repeat((first|apply hW.t|apply hW.f|(apply hW.q;exact rqc));conv=>lhs;whnf)
   apply hW.w (aS hE (cO (aC [] 1) man) (aZ (cO (aC [] 1) man)) (by omega))
   conv=>lhs;whnf
   repeat((first|apply hW.t|apply hW.f|(apply hW.q;exact rqc));conv=>lhs;whnf)
   rfl
  ·subst hk
   have hB:rE ⟨2,gen,man,want,done,i,b⟩=bS (bS (aC (aC [] 2) gen) want) done:=rfl
   rw[hB]at hL ⊢
   have s0:=aK [] 2
   have s1:=aK (aC [] 2) gen
   have s2:=aK (aC (aC [] 2) gen) (wX want)
   have s3:=aK (aC (aC (aC [] 2) gen) (wX want)) (aDf want)
   have s4:=aK (aC (aC (aC (aC [] 2) gen) (wX want)) (aDf want)) (wX done)
   have s5:=aK (aC (aC (aC (aC (aC [] 2) gen) (wX want)) (aDf want)) (wX done)) (aDf done)
   simp only[List.length_nil]at s0
   refine hE.run rfl rfl fun W hW=>?_
   conv=>lhs;whnf
   apply hW.w (a)
   conv=>lhs;whnf
   repeat((first|apply hW.t|apply hW.f|(apply hW.q;exact rqc));conv=>lhs;whnf)
   apply hW.w (aS hE [] 2 (by simp))
   conv=>lhs;whnf
   repeat((first|apply hW.t|apply hW.f|(apply hW.q;exact rqc));conv=>lhs;whnf)
   apply hW.w (oG hE want)
   conv=>lhs;whnf
   repeat((first|apply hW.t|apply hW.f|(apply hW.q;exact rqc));conv=>lhs;whnf)
   apply hW.w (aS hE _ gen (by omega))
   conv=>lhs;whnf
   repeat((first|apply hW.t|apply hW.f|(apply hW.q;exact rqc));conv=>lhs;whnf)
   apply hW.w (aS hE _ (wX want) (by omega))
   conv=>lhs;whnf
   repeat((first|apply hW.t|apply hW.f|(apply hW.q;exact rqc));conv=>lhs;whnf)
   apply hW.w (aS hE _ (aDf want) (by omega))
   conv=>lhs;whnf
   repeat((first|apply hW.t|apply hW.f|(apply hW.q;exact rqc));conv=>lhs;whnf)
   apply hW.w (oG hE done)
   conv=>lhs;whnf
   repeat((first|apply hW.t|apply hW.f|(apply hW.q;exact rqc));conv=>lhs;whnf)
   apply hW.w (aS hE _ (wX done) (by omega))
   conv=>lhs;whnf
   repeat((first|apply hW.t|apply hW.f|(apply hW.q;exact rqc));conv=>lhs;whnf)
   apply hW.w (aS hE _ (aDf done) (by omega))
   conv=>lhs;whnf
   repeat((first|apply hW.t|apply hW.f|(apply hW.q;exact rqc));conv=>lhs;whnf)
   apply hW.w (dH hE (bS (bS (aC (aC [] 2) gen) want) done) (by omega))
   conv=>lhs;whnf
   repeat((first|apply hW.t|apply hW.f|(apply hW.q;exact rqc));conv=>lhs;whnf)
   apply hW.w (aS hE (bS (bS (aC (aC [] 2) gen) want) done) (aZ (bS (bS (aC (aC [] 2) gen) want) done)) (by omega))
   conv=>lhs;whnf
   repeat((first|apply hW.t|apply hW.f|(apply hW.q;exact rqc));conv=>lhs;whnf)
   rfl
  ·subst hk
   have hB:rE ⟨3,gen,man,want,done,i,b⟩=cJ (aC (aC (aC [] 3) gen) i) b:=rfl
   rw[hB]at hL ⊢
   have s0:=aK [] 3
   have s1:=aK (aC [] 3) gen
   have s2:=aK (aC (aC [] 3) gen) i
   simp only[List.length_nil]at s0
   refine hE.run rfl rfl fun W hW=>?_
   conv=>lhs;whnf
   apply hW.w (a)
   conv=>lhs;whnf
   repeat((first|apply hW.t|apply hW.f|(apply hW.q;exact rqc));conv=>lhs;whnf)
   apply hW.w (aS hE [] 3 (by simp))
   conv=>lhs;whnf
   repeat((first|apply hW.t|apply hW.f|(apply hW.q;exact rqc));conv=>lhs;whnf)
   apply hW.w (aS hE _ gen (by omega))
   conv=>lhs;whnf
   repeat((first|apply hW.t|apply hW.f|(apply hW.q;exact rqc));conv=>lhs;whnf)
   apply hW.w (aS hE _ i (by omega))
   conv=>lhs;whnf
   repeat((first|apply hW.t|apply hW.f|(apply hW.q;exact rqc));conv=>lhs;whnf)
   apply hW.w (zB hE _ b (by omega) (by omega))
   conv=>lhs;whnf
   repeat((first|apply hW.t|apply hW.f|(apply hW.q;exact rqc));conv=>lhs;whnf)
   apply hW.w (dH hE (cJ (aC (aC (aC [] 3) gen) i) b) (by omega))
   conv=>lhs;whnf
   repeat((first|apply hW.t|apply hW.f|(apply hW.q;exact rqc));conv=>lhs;whnf)
   apply hW.w (aS hE (cJ (aC (aC (aC [] 3) gen) i) b) (aZ (cJ (aC (aC (aC [] 3) gen) i) b)) (by omega))
   conv=>lhs;whnf
   repeat((first|apply hW.t|apply hW.f|(apply hW.q;exact rqc));conv=>lhs;whnf)
   rfl
  ·subst hk
   have hB:rE ⟨4,gen,man,want,done,i,b⟩=aC (aC [] 4) gen:=rfl
   rw[hB]at hL ⊢
   have s0:=aK [] 4
   simp only[List.length_nil]at s0
   refine hE.run rfl rfl fun W hW=>?_
   conv=>lhs;whnf
   apply hW.w (a)
   conv=>lhs;whnf
   repeat((first|apply hW.t|apply hW.f|(apply hW.q;exact rqc));conv=>lhs;whnf)
   apply hW.w (aS hE [] 4 (by simp))
   conv=>lhs;whnf
   repeat((first|apply hW.t|apply hW.f|(apply hW.q;exact rqc));conv=>lhs;whnf)
   apply hW.w (aS hE _ gen (by omega))
   conv=>lhs;whnf
   repeat((first|apply hW.t|apply hW.f|(apply hW.q;exact rqc));conv=>lhs;whnf)
   apply hW.w (dH hE (aC (aC [] 4) gen) (by omega))
   conv=>lhs;whnf
   repeat((first|apply hW.t|apply hW.f|(apply hW.q;exact rqc));conv=>lhs;whnf)
   apply hW.w (aS hE (aC (aC [] 4) gen) (aZ (aC (aC [] 4) gen)) (by omega))
   conv=>lhs;whnf
   repeat((first|apply hW.t|apply hW.f|(apply hW.q;exact rqc));conv=>lhs;whnf)
   rfl
theorem qW {E:Env} (hE:Sys E) (m:Msg) (hm:m.lim 1048576):E 310 [gv (m.cs aN)]=some ([ov 1 (bys (bE m))],[]):=by
 have a:=tT hE m hm
 cases hr:bY m
 ·rw[hr]at a
  have e:bE m=[]:=by unfold bE;rw[if_neg (by rw[hr];decide)]
  rw[e]
  refine hE.run rfl rfl fun W hW=>?_
  conv=>lhs;whnf
  apply hW.w (a)
  conv=>lhs;whnf
  repeat((first|apply hW.t|apply hW.f|(apply hW.q;exact rqc));conv=>lhs;whnf)
  rfl
 ·rw[hr]at a
  have e:bE m=aC (rE m) (aZ (rE m)):=by unfold bE;rw[if_pos hr]
  have hk:=sH hr
  have hbl:=aBs hr
  have hL:=aBt hr
  rw[e]
  clear e
  obtain⟨kind,gen,man,want,done,i,b⟩:=m
  have hk:kind=1∨kind=2∨kind=3∨kind=4:=hk
  have hms:man.sums.length≤1048576:=hm.1
  have hbl:b.length≤6∨kind≠3:=hbl
  clear hm
  rcases hk with hk|hk|hk|hk
  ·subst hk
   have hB:rE ⟨1,gen,man,want,done,i,b⟩=cO (aC [] 1) man:=rfl
   rw[hB]at hL ⊢
   have s0:=aK [] 1
   refine hE.run rfl rfl fun W hW=>?_
   conv=>lhs;whnf
   apply hW.w (a)
   conv=>lhs;whnf
   repeat((first|apply hW.t|apply hW.f|(apply hW.q;exact rqc));conv=>lhs;whnf)
   apply hW.w (aW hE [] 1 (by simp))
   conv=>lhs;whnf
   repeat((first|apply hW.t|apply hW.f|(apply hW.q;exact rqc));conv=>lhs;whnf)
   apply hW.w (aBr hE (aC [] 1) man (by simp at s0;omega) hms)
   conv=>lhs;whnf
   repeat((first|apply hW.t|apply hW.f|(apply hW.q;exact rqc));conv=>lhs;whnf)
   apply hW.w (dZ hE (cO (aC [] 1) man) (by omega))
   conv=>lhs;whnf
   repeat((first|apply hW.t|apply hW.f|(apply hW.q;exact rqc));conv=>lhs;whnf)
   apply hW.w (aW hE (cO (aC [] 1) man) (aZ (cO (aC [] 1) man)) (by omega))
   conv=>lhs;whnf
   repeat((first|apply hW.t|apply hW.f|(apply hW.q;exact rqc));conv=>lhs;whnf)
   rfl
  ·subst hk
   have hB:rE ⟨2,gen,man,want,done,i,b⟩=bS (bS (aC (aC [] 2) gen) want) done:=rfl
   rw[hB]at hL ⊢
   have s0:=aK [] 2
   have s1:=aK (aC [] 2) gen
   have s2:=aK (aC (aC [] 2) gen) (wX want)
   have s3:=aK (aC (aC (aC [] 2) gen) (wX want)) (aDf want)
   have s4:=aK (aC (aC (aC (aC [] 2) gen) (wX want)) (aDf want)) (wX done)
   have s5:=aK (aC (aC (aC (aC (aC [] 2) gen) (wX want)) (aDf want)) (wX done)) (aDf done)
   simp only[List.length_nil]at s0
   refine hE.run rfl rfl fun W hW=>?_
   conv=>lhs;whnf
   apply hW.w (a)
   conv=>lhs;whnf
   repeat((first|apply hW.t|apply hW.f|(apply hW.q;exact rqc));conv=>lhs;whnf)
   apply hW.w (aW hE [] 2 (by simp))
   conv=>lhs;whnf
   repeat((first|apply hW.t|apply hW.f|(apply hW.q;exact rqc));conv=>lhs;whnf)
   apply hW.w (aW hE _ gen (by omega))
   conv=>lhs;whnf
   repeat((first|apply hW.t|apply hW.f|(apply hW.q;exact rqc));conv=>lhs;whnf)
   apply hW.w (qV hE (aC (aC [] 2) gen) want (by omega))
   conv=>lhs;whnf
   repeat((first|apply hW.t|apply hW.f|(apply hW.q;exact rqc));conv=>lhs;whnf)
   apply hW.w (qV hE (bS (aC (aC [] 2) gen) want) done (by unfold bS;omega))
   conv=>lhs;whnf
   repeat((first|apply hW.t|apply hW.f|(apply hW.q;exact rqc));conv=>lhs;whnf)
   apply hW.w (dZ hE (bS (bS (aC (aC [] 2) gen) want) done) (by omega))
   conv=>lhs;whnf
   repeat((first|apply hW.t|apply hW.f|(apply hW.q;exact rqc));conv=>lhs;whnf)
   apply hW.w (aW hE (bS (bS (aC (aC [] 2) gen) want) done) (aZ (bS (bS (aC (aC [] 2) gen) want) done)) (by omega))
   conv=>lhs;whnf
   repeat((first|apply hW.t|apply hW.f|(apply hW.q;exact rqc));conv=>lhs;whnf)
   rfl
  ·subst hk
   have hB:rE ⟨3,gen,man,want,done,i,b⟩=cJ (aC (aC (aC [] 3) gen) i) b:=rfl
   rw[hB]at hL ⊢
   have s0:=aK [] 3
   have s1:=aK (aC [] 3) gen
   have s2:=aK (aC (aC [] 3) gen) i
   simp only[List.length_nil]at s0
   refine hE.run rfl rfl fun W hW=>?_
   conv=>lhs;whnf
   apply hW.w (a)
   conv=>lhs;whnf
   repeat((first|apply hW.t|apply hW.f|(apply hW.q;exact rqc));conv=>lhs;whnf)
   apply hW.w (aW hE [] 3 (by simp))
   conv=>lhs;whnf
   repeat((first|apply hW.t|apply hW.f|(apply hW.q;exact rqc));conv=>lhs;whnf)
   apply hW.w (aW hE _ gen (by omega))
   conv=>lhs;whnf
   repeat((first|apply hW.t|apply hW.f|(apply hW.q;exact rqc));conv=>lhs;whnf)
   apply hW.w (aW hE _ i (by omega))
   conv=>lhs;whnf
   repeat((first|apply hW.t|apply hW.f|(apply hW.q;exact rqc));conv=>lhs;whnf)
   apply hW.w (zC hE _ b (by omega) (by omega))
   conv=>lhs;whnf
   repeat((first|apply hW.t|apply hW.f|(apply hW.q;exact rqc));conv=>lhs;whnf)
   apply hW.w (dZ hE (cJ (aC (aC (aC [] 3) gen) i) b) (by omega))
   conv=>lhs;whnf
   repeat((first|apply hW.t|apply hW.f|(apply hW.q;exact rqc));conv=>lhs;whnf)
   apply hW.w (aW hE (cJ (aC (aC (aC [] 3) gen) i) b) (aZ (cJ (aC (aC (aC [] 3) gen) i) b)) (by omega))
   conv=>lhs;whnf
   repeat((first|apply hW.t|apply hW.f|(apply hW.q;exact rqc));conv=>lhs;whnf)
   rfl
  ·subst hk
   have hB:rE ⟨4,gen,man,want,done,i,b⟩=aC (aC [] 4) gen:=rfl
   rw[hB]at hL ⊢
   have s0:=aK [] 4
   simp only[List.length_nil]at s0
   refine hE.run rfl rfl fun W hW=>?_
   conv=>lhs;whnf
   apply hW.w (a)
   conv=>lhs;whnf
   repeat((first|apply hW.t|apply hW.f|(apply hW.q;exact rqc));conv=>lhs;whnf)
   apply hW.w (aW hE [] 4 (by simp))
   conv=>lhs;whnf
   repeat((first|apply hW.t|apply hW.f|(apply hW.q;exact rqc));conv=>lhs;whnf)
   apply hW.w (aW hE _ gen (by omega))
   conv=>lhs;whnf
   repeat((first|apply hW.t|apply hW.f|(apply hW.q;exact rqc));conv=>lhs;whnf)
   apply hW.w (dZ hE (aC (aC [] 4) gen) (by omega))
   conv=>lhs;whnf
   repeat((first|apply hW.t|apply hW.f|(apply hW.q;exact rqc));conv=>lhs;whnf)
   apply hW.w (aW hE (aC (aC [] 4) gen) (aZ (aC (aC [] 4) gen)) (by omega))
   conv=>lhs;whnf
   repeat((first|apply hW.t|apply hW.f|(apply hW.q;exact rqc));conv=>lhs;whnf)
   rfl
theorem fW (m:Msg):(bE m).length≤1009:=by
 unfold bE
 split
 ·rename_i h
  have h1:=aBt h
  have h2:=aK (rE m) (aZ (rE m))
  omega
 ·simp
def cT (a b:Int) (m:Msg):Pkt:=⟨a,b,bE m⟩
theorem iI {E:Env} (hE:Sys E) (a b:Int) (m:Msg) (hm:m.lim 1048576):E 295 [iv a,iv b,gv (m.cs aN)]=some ([gv ((cT a b m).cs eQ)],[]):=by
 refine hE.run rfl rfl fun W hW=>?_
 conv=>lhs;whnf
 repeat((first|apply hW.t|apply hW.f|(apply hW.q;exact rqc));conv=>lhs;whnf)
 apply hW.w (aBu hE m hm)
 conv=>lhs;whnf
 repeat((first|apply hW.t|apply hW.f|(apply hW.q;exact rqc));conv=>lhs;whnf)
 rfl
theorem dU {E:Env} (hE:Sys E) (a b:Int) (m:Msg) (hm:m.lim 1048576):E 296 [iv a,iv b,gv (m.cs aN)]=some ([gv ((cT a b m).cs eQ)],[]):=by
 refine hE.run rfl rfl fun W hW=>?_
 conv=>lhs;whnf
 repeat((first|apply hW.t|apply hW.f|(apply hW.q;exact rqc));conv=>lhs;whnf)
 apply hW.w (qW hE m hm)
 conv=>lhs;whnf
 repeat((first|apply hW.t|apply hW.f|(apply hW.q;exact rqc));conv=>lhs;whnf)
 rfl
def aLb (b:aD):Bool:=b.all fun x=>decide (x=0)
theorem aIM (x:UInt8):decide ((x.toNat:Int)=0)=decide (x=0):=by
 rw[decide_eq_decide]
 constructor
 ·intro h;exact UInt8.toNat_inj.mp (by simpa using h)
 ·rintro rfl;rfl
theorem aD0 {E:Env} (hE:Sys E) (x:UInt8):E 363 [u8v x]=some ([bv (!decide (x=0))],[]):=by
 rw[← aIM]
 refine hE.run rfl rfl fun W hW=>?_
 conv=>lhs;whnf
 rfl
theorem uG {E:Env} (hE:Sys E) (l:List UInt8) (h0:l.length≤1099511627776)  : E 364 [sv (bys l), .fn 363 []]=some ([iv (nW (fun x:UInt8 => !decide (x=0)) 0 l)],[]):=by
 have hrl:(bys l).length=l.length:=by simp[bys,cG]
 refine hE.run rfl rfl fun W hW=>?_
 conv=>lhs;whnf
 refine hW.loop (σ:=Nat) (γ:=Nat) (fun i s=>s.sl 8 (v1 (.t (.int .i64 i)))) (fun i n=>i=n∧n≤l.length) (fun n=>l.length-n) (fun n=>([iv (nW (fun x:UInt8 => !decide (x=0)) n (l.drop n))],[])) 0 0 ?_ ?_ ?_ ?_
 ·intro K
  conv=>lhs;whnf
  conv=>rhs;whnf
  try rfl
 ·simp
 ·rintro kl n _ ⟨rfl,hn⟩ ih
  conv=>lhs;whnf
  apply hW.b<;>intro h2<;>conv=>lhs;whnf
  ·have h2:n<l.length:=by simpa[hrl] using h2
   rw[List.drop_eq_getElem_cons h2]
   repeat((first|apply hW.t|apply hW.f|(apply hW.q;exact rqc)|(refine hW.w (eR ?_) ?_;omega));conv=>lhs;whnf)
   apply hW.w (aD0 hE l[n])
   conv=>lhs;whnf
   try(apply hW.q;exact rqc;conv=>lhs;whnf)
   simp only[nW]
   apply hW.b<;>intro h3<;>conv=>lhs;whnf
   ·simp only[h3,if_true];rfl
   ·simp only[h3,if_false,Bool.false_eq_true]
    refine ih (n+1) (n+1) _ ?_ ⟨rfl,by omega⟩ (by omega)
    intro K
    conv=>lhs;whnf
    conv=>rhs;whnf
    try rfl
    rw[show IntKind.i64.wrap ((n:Int)+1)=_ from aL (by omega)]
    try rfl
  ·have:n=l.length:=by simp[hrl]at h2;omega
   subst this
   rw[List.drop_length];rfl
 ·rfl
theorem pE {E:Env} (hE:Sys E) (l:aD) (h0:l.length≤1099511627776):E 362 [sv (bys l), .fn 363 []]=some ([bv (!aLb l)],[]):=by
 have e:(!aLb l)=l.any fun x => !decide (x=0):=by
  unfold aLb
  rw[Bool.eq_iff_iff]
  simp
 rw[e]
 refine hE.run rfl rfl fun W hW=>?_
 conv=>lhs;whnf
 apply hW.w (uG hE l h0)
 conv=>lhs;whnf
 try(apply hW.q;exact rqc;conv=>lhs;whnf)
 rw[aFk]
 repeat((first|apply hW.t|apply hW.f|(apply hW.q;exact rqc));conv=>lhs;whnf)
 rfl
theorem ndf {a b:Int} (h:a=b):(!decide (a=b))=false:=by simp[h]
theorem ndt {a b:Int} (h:¬ a=b):(!decide (a=b))=true:=by simp[h]
def aOy (m:Man) (x:Bld) (i:Nat) (s:Sum):Bool:=if dF x.hav i=true then decide (bF (lL x.buf m.size i)=s) else aLb (lL x.buf m.size i)
def aPc (m:Man) (x:Bld):Nat→List Sum→Bool
 |_,[]=>true
 |i,s::r=>aOy m x i s&&aPc m x (i+1) r
def fI (m:Man) (x:Bld):Bool:=aV m&&(bN x.hav&&(decide (rY x.hav (dQ m)=0)&&(decide ((x.buf.length:Int)=m.len)&&aPc m x 0 m.sums)))
theorem jC {a b:Nat} (ha:a<1099511627776) (hb:b<1099511627776):wor (a:Int) (b:Int)=((a ||| b:Nat):Int)∧a ||| b<1099511627776:=by
 have h3:a ||| b<2 ^ 40:=Nat.or_lt_two_pow (by omega) (by omega)
 refine⟨?_,by omega⟩
 unfold wor
 rw[BitVec.toNat_or,BitVec.ofInt_natCast,BitVec.ofInt_natCast,BitVec.toNat_ofNat,BitVec.toNat_ofNat]
 rw[Nat.mod_eq_of_lt (show a<2 ^ IntKind.i64.bits from by simp only[IntKind.bits];omega),Nat.mod_eq_of_lt (show b<2 ^ IntKind.i64.bits from by simp only[IntKind.bits];omega)]
 exact aI (by omega)
theorem xA {n i:Nat} (hn:n<1099511627776) (hi:i<40):dF (n:Int) (i:Int)=n.testBit i:=by
 have h1:bN (n:Int)=true:=by simp only[bN,bK,Bool.and_eq_true,decide_eq_true_eq];omega
 have h2:bK (i:Int) 0 39=true:=by simp only[bK,Bool.and_eq_true,decide_eq_true_eq];omega
 unfold dF
 rw[h1,h2,show min ((i:Int).toNat) IntKind.i64.bits=i from by simp only[IntKind.bits];omega,Bool.true_and,Bool.true_and,Nat.testBit_eq_decide_div_mod_eq]
 have e:((n:Int).fdiv (2 ^ i))=((n/2 ^ i:Nat):Int):=by
  rw[Int.fdiv_eq_ediv_of_nonneg _ (by exact_mod_cast Nat.zero_le _)]
  push_cast;rfl
 have hle:n/2 ^ i≤n:=Nat.div_le_self _ _
 rw[e]
 generalize n/2 ^ i=q at hle ⊢
 rw[BitVec.toNat_and,BitVec.ofInt_natCast,BitVec.toNat_ofNat,show(BitVec.ofInt IntKind.i64.bits 1).toNat=1 from rfl,Nat.mod_eq_of_lt (show q<2 ^ IntKind.i64.bits from by simp only[IntKind.bits];omega),Nat.and_one_is_mod]
 rw[show IntKind.i64.wrap ((q%2:Nat):Int)=((q%2:Nat):Int) from aI (by omega)]
 congr 1
 exact propext ⟨fun h=>by omega,fun h=>by omega⟩
theorem aGx {p:Nat→Bool} {i k:Nat} {a:Nat} (h:aBi p i k=(a:Int)):i≤a∧a<i+k∧p a=true:=by
 induction k generalizing i with
 |zero=>simp[aBi]at h
 |succ k ih =>
  simp only[aBi]at h
  split at h
  ·rename_i hp
   have:i=a:=by omega
   subst this
   exact⟨by omega,by omega,hp⟩
  ·have:=ih h
   exact⟨by omega,by omega,this.2.2⟩
theorem aGy {b:aD} {m:Man} {n:Nat} (hn:n<m.sums.length) {a:Nat} (h:bM b m n=(a:Int)) :
 1≤bA m.size m.len n∧bA m.size m.len n≤6∧(a:Int)+bA m.size m.len n≤b.length∧bF ((b.drop a).take (bA m.size m.len n).toNat)=m.sums[n]:=by
 rw[aBj hn]at h
 unfold gX at h
 split at h
 ·rename_i hr
  have hr:=bU hr
  obtain⟨_,h2,h3⟩:=aGx h
  rw[dI,jU]at h2
  have h3:=of_decide_eq_true h3
  refine⟨hr.1,hr.2,?_,h3⟩
  split at h2<;>omega
 ·omega
theorem aD1 {E:Env} (hE:Sys E) (i:Int):E 115 [iv i]=some ([bv (bK i 0 6)],[]):=by
 refine hE.run rfl rfl fun W hW=>?_
 conv=>lhs;whnf
 repeat'((first|apply hW.t|apply hW.f|(apply hW.q;exact rqc)|apply hW.w (bL hE _ _ _)|(apply hW.b<;>intro h))<;>conv=>lhs;whnf)
 rfl
def hAt (id:Int):List Kid→Nat
 |[]=>0
 |x::r=>if x.id≤id then hAt id r+1 else 0
theorem aIN {id:Int} {l:List Kid}:hAt id l≤l.length:=by
 induction l with
 |nil=>exact Nat.le_refl _
 |cons x r ih=>simp only[hAt,List.length_cons];split<;>omega
theorem aLc {id:Int} {l:List Kid}:∀ {n:Nat},(nW (fun x:Kid=>decide (x.id>id)) n l = -1∧hAt id l=l.length)∨(nW (fun x:Kid=>decide (x.id>id)) n l=((n+hAt id l:Nat):Int)∧hAt id l<l.length):=by
 induction l with
 |nil=>intro n;exact .inl ⟨rfl,rfl⟩
 |cons x r ih =>
  intro n
  simp only[nW,hAt,List.length_cons]
  by_cases h:x.id≤id
  ·rw[if_pos h,if_neg (by simp;omega)]
   rcases ih (n:=n+1) with⟨h1,h2⟩|⟨h1,h2⟩
   ·exact .inl ⟨h1,by omega⟩
   ·exact .inr ⟨by rw[h1];congr 1;omega,by omega⟩
  ·rw[if_neg h,if_pos (by simp;omega)]
   exact .inr ⟨rfl,by omega⟩
def gR (id want done:Int):Bool:=bK id 0 6&&bN want&&bN done
def cU (l:List Kid) (id want done:Int):List Kid :=
 if gR id want done=true then
  (if fB l id<0 then l.take (hAt id l)++⟨id,want,done,0,0⟩::l.drop (hAt id l)
  else match l[(fB l id).toNat]? with
   |none=>l
   |some x=>l.set (fB l id).toNat { x with want:=want,done:=wor x.done done,age:=0 })
 else l
theorem mP (l:List Kid) (id want done:Int):(cU l id want done).length≤l.length+1:=by
 unfold cU
 have:=aIN (id:=id) (l:=l)
 split
 ·split
  ·simp only[List.length_append,List.length_cons,List.length_take,List.length_drop];omega
  ·split
   ·omega
   ·rw[List.length_set];omega
 ·omega
theorem uX {l:List Kid} {id want done:Int} {n:Nat} (ho:gR id want done=true) (hn:n<l.length) (h:fB l id=n):cU l id want done=l.set n { l[n] with want:=want,done:=wor l[n].done done,age:=0 }:=by
 unfold cU
 rw[if_pos ho,if_neg (by omega),h,Int.toNat_natCast,List.getElem?_eq_getElem hn]
theorem xB {l:List Kid} {id want done:Int} (ho:gR id want done=true) (h:fB l id<0):cU l id want done=l.take (hAt id l)++⟨id,want,done,0,0⟩::l.drop (hAt id l):=by
 unfold cU
 rw[if_pos ho,if_pos h]
theorem aFp {l:List Kid} {id want done:Int} (ho:gR id want done=false):cU l id want done=l:=by
 unfold cU
 rw[if_neg (by rw[ho];decide)]
theorem aIO {α:Type} (m:List α) (k:Nat) (r:α):(m.take k++[r])++(m.drop k).take (m.length-k)=m.take k++r::m.drop k:=by
 rw[List.take_of_length_le (l:=m.drop k) (by rw[List.length_drop];exact Nat.le_refl _),List.append_assoc]
 rfl
theorem xC {E:Env} (hE:Sys E) (l:List Kid) (id want done:Int) (h0:l.length≤4194304):E 113 [sv (l.map Kid.row),iv id,iv want,iv done]=some ([ov 5 ((cU l id want done).map Kid.row)],[]):=by
 have hrl:(l.map Kid.row).length=l.length:=List.length_map _
 refine hE.run rfl rfl fun W hW=>?_
 conv=>lhs;whnf
 repeat((first|apply hW.t|apply hW.f|(apply hW.q;exact rqc));conv=>lhs;whnf)
 refine hW.q (by exact⟨by decide,kids_rows l,by simp;omega,by simp;omega⟩) ?_
 conv=>lhs;whnf
 apply hW.bt (mE l)
 conv=>lhs;whnf
 have c1:=bJ hE id 0 6
 have c2:=dB hE want
 have c3:=dB hE done
 cases ho:gR id want done with
 |false =>
  rw[aFp ho]
  unfold gR at ho
  cases q1:bK id 0 6<;>rw[q1]at c1 ho
  ·apply hW.w (c1)
   conv=>lhs;whnf
   repeat((first|apply hW.t|apply hW.f|(apply hW.q;exact rqc));conv=>lhs;whnf)
   rfl
  ·cases q2:bN want<;>rw[q2]at c2 ho
   ·apply hW.w (c1)
    conv=>lhs;whnf
    repeat((first|apply hW.t|apply hW.f|(apply hW.q;exact rqc));conv=>lhs;whnf)
    apply hW.w (c2)
    conv=>lhs;whnf
    repeat((first|apply hW.t|apply hW.f|(apply hW.q;exact rqc));conv=>lhs;whnf)
    rfl
   ·cases q3:bN done<;>rw[q3]at c3 ho
    ·apply hW.w (c1)
     conv=>lhs;whnf
     repeat((first|apply hW.t|apply hW.f|(apply hW.q;exact rqc));conv=>lhs;whnf)
     apply hW.w (c2)
     conv=>lhs;whnf
     repeat((first|apply hW.t|apply hW.f|(apply hW.q;exact rqc));conv=>lhs;whnf)
     apply hW.w (c3)
     conv=>lhs;whnf
     repeat((first|apply hW.t|apply hW.f|(apply hW.q;exact rqc));conv=>lhs;whnf)
     rfl
    ·cases ho
 |true =>
  have hoo:=ho
  unfold gR at hoo
  simp only[Bool.and_eq_true]at hoo
  rw[hoo.1.1]at c1
  rw[hoo.1.2]at c2
  rw[hoo.2]at c3
  apply hW.w (c1)
  conv=>lhs;whnf
  repeat((first|apply hW.t|apply hW.f|(apply hW.q;exact rqc));conv=>lhs;whnf)
  apply hW.w (c2)
  conv=>lhs;whnf
  repeat((first|apply hW.t|apply hW.f|(apply hW.q;exact rqc));conv=>lhs;whnf)
  apply hW.w (c3)
  conv=>lhs;whnf
  repeat((first|apply hW.t|apply hW.f|(apply hW.q;exact rqc));conv=>lhs;whnf)
  have hle:hAt id l≤l.length:=aIN
  have hlr:hAt id l≤(l.map Kid.row).length:=by rw[hrl];exact hle
  have key:∀ m:List (List T),m.length≤l.length→(∀ e∈m,e∈l.map Kid.row)→0<5∧(∀ e∈m,e.length=5)∧m.length*40≤140737488355328∧m.length≤140737488355328∧mW m=true:=fun m hm hs =>
   ⟨by decide,fun e he=>kids_rows l e (hs e he),by omega,by omega,List.all_eq_true.mpr fun e he=>List.all_eq_true.mp (mE l) e (hs e he)⟩
  have key1:=key ((l.map Kid.row).take (hAt id l)) (by rw[List.length_take];omega) (fun e he=>List.mem_of_mem_take he)
  have key3:=key (((l.map Kid.row).drop (hAt id l)).take ((l.map Kid.row).length-hAt id l)) (by rw[List.length_take];omega) (fun e he=>List.mem_of_mem_drop (List.mem_of_mem_take he))
  have key2:0<5∧(∀ e∈[Kid.row ⟨id,want,done,0,0⟩],e.length=5)∧[Kid.row ⟨id,want,done,0,0⟩].length*40≤140737488355328∧[Kid.row ⟨id,want,done,0,0⟩].length≤140737488355328∧mW [Kid.row ⟨id,want,done,0,0⟩]=true :=
   ⟨by decide,fun e he=>by rw[List.mem_singleton.mp he];rfl,show 1*40≤140737488355328 by decide,show 1≤140737488355328 by decide,rfl⟩
  apply hW.w (tL hE l id (by omega))
  conv=>lhs;whnf
  repeat((first|apply hW.t|apply hW.f|(apply hW.q;exact rqc));conv=>lhs;whnf)
  apply hW.b<;>intro hk<;>conv=>lhs;whnf
  ·have hk:fB l id<0:=by simpa using hk
   repeat((first|apply hW.t|apply hW.f|(apply hW.q;exact rqc));conv=>lhs;whnf)
   rw[xB ho hk]
   refine hW.loop (σ:=Nat) (γ:=Nat) (fun i s=>s.sl 10 (v1 (.t (.int .i64 i)))) (fun i m=>i=m∧m≤l.length∧m+hAt id (l.drop m)=hAt id l) (fun m=>l.length-m) (fun _=>([ov 5 ((l.take (hAt id l)++⟨id,want,done,0,0⟩::l.drop (hAt id l)).map Kid.row)],[])) 0 0 ?_ ?_ ?_ ?_
   ·intro K
    conv=>lhs;whnf
    conv=>rhs;whnf
    try rfl
   ·exact⟨rfl,by omega,by simp⟩
   ·rintro kl m _ ⟨rfl,hm,hs⟩ ih
    conv=>lhs;whnf
    apply hW.b<;>intro g1<;>conv=>lhs;whnf
    ·have g1:m<l.length:=by simpa[hrl] using g1
     rw[List.drop_eq_getElem_cons g1,hAt]at hs
     repeat((first|apply hW.t|apply hW.f|(apply hW.q;exact rqc)|(refine hW.w (eR ?_) ?_;omega));conv=>lhs;whnf)
     apply hW.b<;>intro g2<;>conv=>lhs;whnf
     ·have g2:l[m].id≤id:=of_decide_eq_true g2
      rw[if_pos g2]at hs
      repeat((first|apply hW.t|apply hW.f|(apply hW.q;exact rqc));conv=>lhs;whnf)
      refine ih (m+1) (m+1) _ ?_ ⟨rfl,by omega,by omega⟩ (by omega)
      intro K
      conv=>lhs;whnf
      conv=>rhs;whnf
      try rfl
      rw[show IntKind.i64.wrap ((m:Int)+1)=_ from aL (by omega)]
     ·have g2:¬ l[m].id≤id:=of_decide_eq_false g2
      rw[if_neg g2]at hs
      obtain rfl:m=hAt id l:=by omega
      clear ih
      repeat((first|apply hW.t|apply hW.f|(apply hW.q;exact rqc));conv=>lhs;whnf)
      refine hW.q (by exact⟨Nat.zero_le _,hlr,kids_rows l⟩) ?_
      conv=>lhs;whnf
      repeat((first|apply hW.t|apply hW.f|(apply hW.q;exact rqc));conv=>lhs;whnf)
      refine hW.q (by exact⟨hlr,Nat.le_refl _,kids_rows l⟩) ?_
      conv=>lhs;whnf
      repeat((first|apply hW.t|apply hW.f|(apply hW.q;exact rqc));conv=>lhs;whnf)
      refine hW.q (by exact key1) ?_
      conv=>lhs;whnf
      repeat((first|apply hW.t|apply hW.f|(apply hW.q;exact rqc));conv=>lhs;whnf)
      refine hW.q (by exact⟨by decide,key2.2.1,by simp;omega,by simp;omega⟩) ?_
      conv=>lhs;whnf
      repeat((first|apply hW.t|apply hW.f|(apply hW.q;exact rqc));conv=>lhs;whnf)
      refine hW.q (by exact⟨by decide,key3.2.1,by simp;omega,by simp;omega⟩) ?_
      conv=>lhs;whnf
      apply hW.bt (key3.2.2.2.2)
      conv=>lhs;whnf
      repeat((first|apply hW.t|apply hW.f|(apply hW.q;exact rqc));conv=>lhs;whnf)
      refine congrArg (fun b=>(some ([ov 5 b],[]):Option Res)) ?_
      show((l.map Kid.row).take (hAt id l)++[Kid.row ⟨id,want,done,0,0⟩])++((l.map Kid.row).drop (hAt id l)).take ((l.map Kid.row).length-hAt id l)=_
      exact(aIO _ _ _).trans (by rw[List.map_append,List.map_cons,List.map_take,List.map_drop])
    ·have g1:m=l.length:=by simp[hrl]at g1;omega
     rw[g1,List.drop_length]at hs
     obtain rfl:m=hAt id l:=by simp only[hAt]at hs;omega
     clear ih
     repeat((first|apply hW.t|apply hW.f|(apply hW.q;exact rqc));conv=>lhs;whnf)
     refine hW.q (by exact⟨Nat.zero_le _,hlr,kids_rows l⟩) ?_
     conv=>lhs;whnf
     repeat((first|apply hW.t|apply hW.f|(apply hW.q;exact rqc));conv=>lhs;whnf)
     refine hW.q (by exact⟨hlr,Nat.le_refl _,kids_rows l⟩) ?_
     conv=>lhs;whnf
     repeat((first|apply hW.t|apply hW.f|(apply hW.q;exact rqc));conv=>lhs;whnf)
     refine hW.q (by exact key1) ?_
     conv=>lhs;whnf
     repeat((first|apply hW.t|apply hW.f|(apply hW.q;exact rqc));conv=>lhs;whnf)
     refine hW.q (by exact⟨by decide,key2.2.1,by simp;omega,by simp;omega⟩) ?_
     conv=>lhs;whnf
     repeat((first|apply hW.t|apply hW.f|(apply hW.q;exact rqc));conv=>lhs;whnf)
     refine hW.q (by exact⟨by decide,key3.2.1,by simp;omega,by simp;omega⟩) ?_
     conv=>lhs;whnf
     apply hW.bt (key3.2.2.2.2)
     conv=>lhs;whnf
     repeat((first|apply hW.t|apply hW.f|(apply hW.q;exact rqc));conv=>lhs;whnf)
     refine congrArg (fun b=>(some ([ov 5 b],[]):Option Res)) ?_
     show((l.map Kid.row).take (hAt id l)++[Kid.row ⟨id,want,done,0,0⟩])++((l.map Kid.row).drop (hAt id l)).take ((l.map Kid.row).length-hAt id l)=_
     exact(aIO _ _ _).trans (by rw[List.map_append,List.map_cons,List.map_take,List.map_drop])
   ·rfl
  ·obtain⟨n,hn,hk⟩:=kN (by simpa using hk)
   rw[uX ho hn hk,hk]
   repeat((first|apply hW.t|apply hW.f|(apply hW.q;exact rqc)|(refine hW.w (eR ?_) ?_;omega));conv=>lhs;whnf)
   rw[List.map_set]
   rfl
theorem aLd {E:Env} (hE:Sys E) (x:Kid) (id:Int):E 116 [gv x.cs, .pt false [ci id]]=some ([bv (decide (x.id>id))],[]):=by
 refine hE.run rfl rfl fun W hW=>?_
 conv=>lhs;whnf
 rfl
theorem lE {E:Env} (hE:Sys E) (l:List Kid) (h0:l.length≤1099511627776) (id:Int):E 29 [sv (l.map Kid.row), .fn 116 [[ci id]]]=some ([iv (nW (fun x:Kid=>decide (x.id>id)) 0 l)],[]):=by
 have hrl:(l.map Kid.row).length=l.length:=by simp[bys,cG]
 refine hE.run rfl rfl fun W hW=>?_
 conv=>lhs;whnf
 refine hW.loop (σ:=Nat) (γ:=Nat) (fun i s=>s.sl 8 (v1 (.t (.int .i64 i)))) (fun i n=>i=n∧n≤l.length) (fun n=>l.length-n) (fun n=>([iv (nW (fun x:Kid=>decide (x.id>id)) n (l.drop n))],[])) 0 0 ?_ ?_ ?_ ?_
 ·intro K
  conv=>lhs;whnf
  conv=>rhs;whnf
  try rfl
 ·simp
 ·rintro kl n _ ⟨rfl,hn⟩ ih
  conv=>lhs;whnf
  apply hW.b<;>intro h2<;>conv=>lhs;whnf
  ·have h2:n<l.length:=by simpa[hrl] using h2
   rw[List.drop_eq_getElem_cons h2]
   repeat((first|apply hW.t|apply hW.f|(apply hW.q;exact rqc)|(refine hW.w (eR ?_) ?_;omega));conv=>lhs;whnf)
   apply hW.w (aLd hE l[n] id)
   conv=>lhs;whnf
   try(apply hW.q;exact rqc;conv=>lhs;whnf)
   simp only[nW]
   apply hW.b<;>intro h3<;>conv=>lhs;whnf
   ·simp only[h3,if_true];rfl
   ·simp only[h3,if_false,Bool.false_eq_true]
    refine ih (n+1) (n+1) _ ?_ ⟨rfl,by omega⟩ (by omega)
    intro K
    conv=>lhs;whnf
    conv=>rhs;whnf
    try rfl
    rw[show IntKind.i64.wrap ((n:Int)+1)=_ from aL (by omega)]
    try rfl
  ·have:n=l.length:=by simp[hrl]at h2;omega
   subst this
   rw[List.drop_length];rfl
 ·rfl
theorem aOz {d:Int} (h:bN d=true):wor 0 d=d:=by
 unfold bN bK at h
 simp only[Bool.and_eq_true,decide_eq_true_eq]at h
 obtain⟨n,rfl⟩:=Int.eq_ofNat_of_zero_le h.1
 have:=(jC (a:=0) (b:=n) (by decide) (by omega)).1
 rw[Nat.zero_or]at this
 exact this
theorem aOA {E:Env} (hE:Sys E) (l:List Kid) (x:Kid) (k:Nat) (hk:k≤l.length) (h0:l.length≤4194304) (o:Bool):E 117 [ov 5 (l.map Kid.row),iv k, .v false [.t (.sl o [Kid.row x])]]=some ([ov 5 ((l.take k++x::l.drop k).map Kid.row)],[]):=by
 refine hE.ins _ _ ?_
 have hrl:(l.map Kid.row).length=l.length:=List.length_map _
 refine(if_pos (show(0≤(k:Int)∧(k:Int)≤((l.map Kid.row).length:Nat))∧(l.map Kid.row).length+1≤1099511627776∧mW (Kid.row x::l.map Kid.row)=true∧∀ r∈Kid.row x::l.map Kid.row,r.length=5 from
  ⟨⟨by omega,by rw[hrl];omega⟩,by rw[hrl];omega,mE (x::l),kids_rows (x::l)⟩)).trans ?_
 rw[List.map_append,List.map_cons,List.map_take,List.map_drop]
 rfl
theorem aGz {es:List (List T)} {n:Nat} {e:List T} (h:es[n]?=some e):es[(n:Int).toNat]?=some e:=h
theorem sI {es:List (List T)} {n:Nat} {e:List T} (h:n<es.length):(es.set n e)[n]?=some e:=by simp[h]
theorem aPG (m:List Kid) (n:Nat) (a b:List T) (x:Kid):((((m.map Kid.row).set n a).set n b).set n (Kid.row x))=(m.set n x).map Kid.row:=by
 rw[List.set_set,List.set_set,List.map_set]
theorem aNf {α:Type} {l:List α} {k:Nat} {x:α} (hk:k≤l.length):(l.take k++x::l.drop k)[k]?=some x:=by
 have:(l.take k).length=k:=by rw[List.length_take];omega
 rw[List.getElem?_append_right (by omega),this,Nat.sub_self]
 rfl
theorem aIP {α:Type} {l:List α} {k:Nat} {x y:α} (hk:k≤l.length):(l.take k++x::l.drop k).set k y=l.take k++y::l.drop k:=by
 have:(l.take k).length=k:=by rw[List.length_take];omega
 rw[List.set_append_right _ _ (by omega),this,Nat.sub_self]
 rfl
theorem aD2 {E:Env} (hE:Sys E) (l:List Kid) (id want done:Int) (h0:l.length≤4194304):E 114 [sv (l.map Kid.row),iv id,iv want,iv done]=some ([ov 5 ((cU l id want done).map Kid.row)],[]):=by
 have hrl:(l.map Kid.row).length=l.length:=List.length_map _
 refine hE.run rfl rfl fun W hW=>?_
 conv=>lhs;whnf
 apply hW.w (pC hE l (by omega))
 conv=>lhs;whnf
 repeat((first|apply hW.t|apply hW.f|(apply hW.q;exact rqc));conv=>lhs;whnf)
 have c1:=aD1 hE id
 have c2:=cP hE want
 have c3:=cP hE done
 cases ho:gR id want done with
 |false =>
  rw[aFp ho]
  unfold gR at ho
  cases q1:bK id 0 6<;>rw[q1]at c1 ho
  ·apply hW.w (c1)
   conv=>lhs;whnf
   repeat((first|apply hW.t|apply hW.f|(apply hW.q;exact rqc));conv=>lhs;whnf)
   rfl
  ·cases q2:bN want<;>rw[q2]at c2 ho
   ·apply hW.w (c1)
    conv=>lhs;whnf
    repeat((first|apply hW.t|apply hW.f|(apply hW.q;exact rqc));conv=>lhs;whnf)
    apply hW.w (c2)
    conv=>lhs;whnf
    repeat((first|apply hW.t|apply hW.f|(apply hW.q;exact rqc));conv=>lhs;whnf)
    rfl
   ·cases q3:bN done<;>rw[q3]at c3 ho
    ·apply hW.w (c1)
     conv=>lhs;whnf
     repeat((first|apply hW.t|apply hW.f|(apply hW.q;exact rqc));conv=>lhs;whnf)
     apply hW.w (c2)
     conv=>lhs;whnf
     repeat((first|apply hW.t|apply hW.f|(apply hW.q;exact rqc));conv=>lhs;whnf)
     apply hW.w (c3)
     conv=>lhs;whnf
     repeat((first|apply hW.t|apply hW.f|(apply hW.q;exact rqc));conv=>lhs;whnf)
     rfl
    ·cases ho
 |true =>
  have hoo:=ho
  unfold gR at hoo
  simp only[Bool.and_eq_true]at hoo
  rw[hoo.1.1]at c1
  rw[hoo.1.2]at c2
  rw[hoo.2]at c3
  apply hW.w (c1)
  conv=>lhs;whnf
  repeat((first|apply hW.t|apply hW.f|(apply hW.q;exact rqc));conv=>lhs;whnf)
  apply hW.w (c2)
  conv=>lhs;whnf
  repeat((first|apply hW.t|apply hW.f|(apply hW.q;exact rqc));conv=>lhs;whnf)
  apply hW.w (c3)
  conv=>lhs;whnf
  repeat((first|apply hW.t|apply hW.f|(apply hW.q;exact rqc));conv=>lhs;whnf)
  have hle:hAt id l≤l.length:=aIN
  apply hW.w (mC hE l id (by omega))
  conv=>lhs;whnf
  repeat((first|apply hW.t|apply hW.f|(apply hW.q;exact rqc));conv=>lhs;whnf)
  apply hW.b<;>intro hk<;>conv=>lhs;whnf
  ·have hk:fB l id<0:=by simpa using hk
   rw[xB ho hk]
   repeat((first|apply hW.t|apply hW.f|(apply hW.q;exact rqc));conv=>lhs;whnf)
   have mk:((l.take (hAt id l)++⟨id,0,0,0,0⟩::l.drop (hAt id l)).map Kid.row)[hAt id l]?=some (Kid.row ⟨id,0,0,0,0⟩):=by rw[List.getElem?_map,aNf hle];rfl
   have hm:hAt id l<((l.take (hAt id l)++⟨id,0,0,0,0⟩::l.drop (hAt id l)).map Kid.row).length:=(List.getElem?_eq_some_iff.mp mk).1
   rcases aLc (id:=id) (l:=l) (n:=0) with⟨i1,i2⟩|⟨i1,i2⟩
   ·have ci:=lE hE l (by omega) id
    rw[i1]at ci
    apply hW.w (ci)
    conv=>lhs;whnf
    repeat((first|apply hW.t|apply hW.f|(apply hW.q;exact rqc));conv=>lhs;whnf)
    rw[hrl]
    rw[← i2]
    have cx:=aOA hE l ⟨id,0,0,0,0⟩ (hAt id l) hle h0 false
    apply hW.w (cx)
    conv=>lhs;whnf
    repeat((first|apply hW.t|apply hW.f|(apply hW.q;exact rqc));conv=>lhs;whnf)
    apply hW.w ((aGz mk))
    conv=>lhs;whnf
    repeat((first|apply hW.t|apply hW.f|(apply hW.q;exact rqc));conv=>lhs;whnf)
    apply hW.w ((aGz mk))
    conv=>lhs;whnf
    repeat((first|apply hW.t|apply hW.f|(apply hW.q;exact rqc));conv=>lhs;whnf)
    apply hW.w ((aGz mk))
    conv=>lhs;whnf
    repeat((first|apply hW.t|apply hW.f|(apply hW.q;exact rqc));conv=>lhs;whnf)
    apply hW.w ((sI hm))
    conv=>lhs;whnf
    repeat((first|apply hW.t|apply hW.f|(apply hW.q;exact rqc));conv=>lhs;whnf)
    apply hW.w ((sI (show hAt id l<(List.set _ _ _).length by rw[List.length_set];exact hm)))
    conv=>lhs;whnf
    repeat((first|apply hW.t|apply hW.f|(apply hW.q;exact rqc));conv=>lhs;whnf)
    refine congrArg (fun b=>(some ([ov 5 b],[]):Option Res)) ((aPG _ (hAt id l) _ _ ⟨id,want,wor 0 done,0,0⟩).trans ?_)
    rw[aOz hoo.2,aIP hle]
   ·have ci:=lE hE l (by omega) id
    rw[i1,Nat.zero_add]at ci
    apply hW.w (ci)
    conv=>lhs;whnf
    repeat((first|apply hW.t|apply hW.f|(apply hW.q;exact rqc));conv=>lhs;whnf)
    try(apply hW.bf (by first|(exact decide_eq_false (by omega))|(simp;done)|(simp;omega));conv=>lhs;whnf)
    repeat((first|apply hW.t|apply hW.f|(apply hW.q;exact rqc));conv=>lhs;whnf)
    have cx:=aOA hE l ⟨id,0,0,0,0⟩ (hAt id l) hle h0 false
    apply hW.w (cx)
    conv=>lhs;whnf
    repeat((first|apply hW.t|apply hW.f|(apply hW.q;exact rqc));conv=>lhs;whnf)
    apply hW.w ((aGz mk))
    conv=>lhs;whnf
    repeat((first|apply hW.t|apply hW.f|(apply hW.q;exact rqc));conv=>lhs;whnf)
    apply hW.w ((aGz mk))
    conv=>lhs;whnf
    repeat((first|apply hW.t|apply hW.f|(apply hW.q;exact rqc));conv=>lhs;whnf)
    apply hW.w ((aGz mk))
    conv=>lhs;whnf
    repeat((first|apply hW.t|apply hW.f|(apply hW.q;exact rqc));conv=>lhs;whnf)
    apply hW.w ((sI hm))
    conv=>lhs;whnf
    repeat((first|apply hW.t|apply hW.f|(apply hW.q;exact rqc));conv=>lhs;whnf)
    apply hW.w ((sI (show hAt id l<(List.set _ _ _).length by rw[List.length_set];exact hm)))
    conv=>lhs;whnf
    repeat((first|apply hW.t|apply hW.f|(apply hW.q;exact rqc));conv=>lhs;whnf)
    refine congrArg (fun b=>(some ([ov 5 b],[]):Option Res)) ((aPG _ (hAt id l) _ _ ⟨id,want,wor 0 done,0,0⟩).trans ?_)
    rw[aOz hoo.2,aIP hle]
  ·obtain⟨n,hn,hk⟩:=kN (l:=l) (id:=id) (by simpa using hk)
   rw[uX ho hn hk,hk]
   have hm:n<(l.map Kid.row).length:=by rw[hrl];exact hn
   repeat((first|apply hW.t|apply hW.f|(apply hW.q;exact rqc)|(refine hW.w (eR ?_) ?_;omega));conv=>lhs;whnf)
   apply hW.w ((sI hm))
   conv=>lhs;whnf
   repeat((first|apply hW.t|apply hW.f|(apply hW.q;exact rqc));conv=>lhs;whnf)
   apply hW.w ((sI (show n<((l.map Kid.row).set n _).length by rw[List.length_set];exact hm)))
   conv=>lhs;whnf
   repeat((first|apply hW.t|apply hW.f|(apply hW.q;exact rqc));conv=>lhs;whnf)
   exact congrArg (fun b=>(some ([ov 5 b],[]):Option Res)) (aPG l n _ _ ⟨l[n].id,want,wor l[n].done done,0,l[n].sent⟩)
theorem mQ {E:Env} (hE:Sys E) (m:Man) (x:Bld) (i:Int) (a n:Nat) (ha:bP m.size m.len i=a) (hn:bA m.size m.len i=n) (hf:a+n≤x.buf.length) (hx:x.buf.length≤1048576):E 361 [gv (x.cs aN),gv (m.cs aN),iv i]=some ([.v false [.alias 0 1 a n]],[]):=by
 have a4:=fG hE m.size m.len i
 rw[ha,hn]at a4
 have hc:a+n≤(bys x.buf).length:=by rw[aH];exact hf
 refine hE.run rfl rfl fun W hW=>?_
 conv=>lhs;whnf
 apply hW.w (a4)
 conv=>lhs;whnf
 repeat((first|apply hW.t|apply hW.f|(apply hW.q;exact rqc));conv=>lhs;whnf)
 rw[show IntKind.i64.wrap ((a:Int)+(n:Int))=((a+n:Nat):Int) from(aI (by omega)).trans (by omega)]
 repeat((first|apply hW.t|apply hW.f|(apply hW.q;exact rqc));conv=>lhs;whnf)
 refine hW.q (by exact⟨by omega,by rw[aH];omega,aX _⟩) ?_
 conv=>lhs;whnf
 repeat((first|apply hW.t|apply hW.f|(apply hW.q;exact rqc));conv=>lhs;whnf)
 rw[show((a:Int).toNat)=a from by omega,show(((a+n:Nat):Int)).toNat-a=n from by omega]
 refine hW.q (by exact hc) ?_
 conv=>lhs;whnf
 repeat((first|apply hW.t|apply hW.f|(apply hW.q;exact rqc));conv=>lhs;whnf)
 rfl
def fJ (m:Man):Bld:=if aV m=true then⟨0,List.replicate m.len.toNat 0⟩ else⟨0,[]⟩
theorem xD {m:Man} (h:aV m=true):0≤m.len∧m.len≤240:=by
 unfold aV at h
 split at h
 ·simp[cC]at h;omega
 ·simp only[Bool.and_eq_true]at h
  obtain⟨_,h2,_⟩:=h
  have:=wN h2
  omega
theorem xE {E:Env} (hE:Sys E) (m:Man) (hm:m.sums.length≤1048576):E 368 [gv (m.cs aN)]=some ([gv ((fJ m).cs eQ)],[]):=by
 have a:=dR hE m hm
 unfold fJ
 cases h:aV m
 ·rw[h]at a
  refine hE.run rfl rfl fun W hW=>?_
  conv=>lhs;whnf
  repeat'((first|apply hW.t|apply hW.f|(apply hW.q;exact rqc)|apply hW.w (a)|(apply hW.b<;>intro h))<;>conv=>lhs;whnf)
  rfl
 ·rw[h]at a
  have hl:=xD h
  refine hE.run rfl rfl fun W hW=>?_
  conv=>lhs;whnf
  apply hW.w (a)
  conv=>lhs;whnf
  repeat((first|apply hW.t|apply hW.f|(apply hW.q;exact rqc));conv=>lhs;whnf)
  refine hW.q (by exact⟨by omega, .inl rfl,by omega,by omega,by omega,by decide,rfl⟩) ?_
  conv=>lhs;whnf
  repeat((first|apply hW.t|apply hW.f|(apply hW.q;exact rqc));conv=>lhs;whnf)
  simp only[if_true]
  rw[show(List.replicate m.len.toNat [T.int IntKind.u8 0])=bys (List.replicate m.len.toNat 0) from by simp[bys,wI]]
  rfl
theorem xF {E:Env} (hE:Sys E) (m:Man) (hm:m.sums.length≤1048576):E 371 [gv (m.cs aN)]=some ([gv ((fJ m).cs eQ)],[]):=by
 have a:=dS hE m hm
 unfold fJ
 cases h:aV m
 ·rw[h]at a
  refine hE.run rfl rfl fun W hW=>?_
  conv=>lhs;whnf
  repeat'((first|apply hW.t|apply hW.f|(apply hW.q;exact rqc)|apply hW.w (a)|(apply hW.b<;>intro h))<;>conv=>lhs;whnf)
  rfl
 ·rw[h]at a
  have hl:=xD h
  refine hE.run rfl rfl fun W hW=>?_
  conv=>lhs;whnf
  apply hW.w (a)
  conv=>lhs;whnf
  repeat((first|apply hW.t|apply hW.f|(apply hW.q;exact rqc));conv=>lhs;whnf)
  refine hW.q (by exact⟨by omega, .inl rfl,by omega,by omega,by omega,by decide,rfl⟩) ?_
  conv=>lhs;whnf
  repeat((first|apply hW.t|apply hW.f|(apply hW.q;exact rqc));conv=>lhs;whnf)
  simp only[if_true]
  rw[show(List.replicate m.len.toNat [T.int IntKind.u8 0])=bys (List.replicate m.len.toNat 0) from by simp[bys,wI]]
  rfl
def lay (b:aD) (at_:Nat) (x:aD):aD:=b.take at_++x++b.drop (at_+x.length)
theorem aD3 {b x:aD} {a:Nat} (h:a+x.length≤b.length):(lay b a x).length=b.length:=by
 unfold lay;simp;omega
theorem aCN {b x:aD} {a k:Nat} (h:a+x.length≤b.length) (hk:k<x.length):lay b a (x.take k)=(b.take a++x.take k)++b[a+k]::b.drop (a+k+1):=by
 unfold lay
 rw[List.length_take,show min k x.length=k from by omega,List.drop_eq_getElem_cons (show a+k<b.length by omega)]
theorem aIQ {b x:aD} {a k:Nat} (h:a+x.length≤b.length) (hk:k<x.length):(bys (lay b a (x.take k)))[a+k]?=some (wI b[a+k]):=by
 have hl:(b.take a++x.take k).length=a+k:=by simp;omega
 rw[aCN h hk,bys,List.getElem?_map,List.getElem?_append_right (by omega),hl,Nat.sub_self]
 rfl
theorem aNg {b x:aD} {a k:Nat} (h:a+x.length≤b.length) (hk:k<x.length):(bys (lay b a (x.take k))).set (a+k) (wI x[k])=bys (lay b a (x.take (k+1))):=by
 have hl:(b.take a++x.take k).length=a+k:=by simp;omega
 rw[bys,← List.map_set,aCN h hk,List.set_append,if_neg (by omega),hl,Nat.sub_self,List.set_cons_zero]
 unfold bys lay
 congr 1
 rw[List.length_take,show min (k+1) x.length=k+1 from by omega,show x.take (k+1)=x.take k++[x[k]] from by rw[List.take_add_one,List.getElem?_eq_getElem hk];rfl,Nat.add_assoc]
 simp only[List.append_assoc,List.singleton_append]
theorem aNh {b x:aD} {a:Nat}:lay b a (x.take x.length)=lay b a x:=by rw[List.take_length]
theorem aNi {b x:aD} {a:Nat} (h:a≤b.length):lay b a (x.take 0)=b:=by simp[lay]
def aCO (m:Man) (x:Bld) (i:Nat) (b:aD):Bld:=⟨wor x.hav (aJB i),lay x.buf (bP m.size m.len i).toNat b⟩
theorem tU {E:Env} (hE:Sys E) (m:Man) (x:Bld) (i:Nat) (b:aD) (hm:m.sums.length≤1048576) (hi:i<m.sums.length) (h40:i<40) (hs:bN x.hav=true) (hin:dF x.hav i=false) (hb:bF b=m.sums[i]) (hbl:b.length≤6) (hat:0≤bP m.size m.len i) (hfit:bP m.size m.len i+b.length≤x.buf.length) (hx:x.buf.length≤1048576):E 369 [gv (m.cs aN), .pt true (x.cs eQ),iv i,sv (bys b)]=some ([bv true],(aCO m x i b).cs eQ):=by
 have hrl:(m.sums.map Sum.row).length=m.sums.length:=List.length_map _
 have a1:=bJ hE i 0 ((m.sums.length:Int)-1)
 rw[show bK i 0 ((m.sums.length:Int)-1)=true from by simp[bK];omega]at a1
 have a2:=mI hE x.hav i
 rw[hin]at a2
 have a3:=eM hE b (by omega)
 have a4:=fF hE m.size m.len i
 have a5:=wL hE x.hav i
 rw[show qN x.hav i=wor x.hav (aJB i) from by unfold qN;rw[if_pos ⟨hs,by simp[bK];omega⟩]]at a5
 refine hE.run rfl rfl fun W hW=>?_
 conv=>lhs;whnf
 repeat((first|apply hW.t|apply hW.f|(apply hW.q;exact rqc));conv=>lhs;whnf)
 rw[hrl,show IntKind.i64.wrap ((m.sums.length:Int)-1)=(m.sums.length:Int)-1 from aI (by omega)]
 apply hW.w (a1)
 conv=>lhs;whnf
 repeat((first|apply hW.t|apply hW.f|(apply hW.q;exact rqc));conv=>lhs;whnf)
 apply hW.w (a2)
 conv=>lhs;whnf
 repeat((first|apply hW.t|apply hW.f|(apply hW.q;exact rqc));conv=>lhs;whnf)
 repeat((first|apply hW.t|apply hW.f|(apply hW.q;exact rqc)|(refine hW.w (eR ?_) ?_;omega));conv=>lhs;whnf)
 apply hW.w (a3)
 conv=>lhs;whnf
 repeat((first|apply hW.t|apply hW.f|(apply hW.q;exact rqc));conv=>lhs;whnf)
 apply hW.bf (by rw[hb];simp)
 conv=>lhs;whnf
 repeat((first|apply hW.t|apply hW.f|(apply hW.q;exact rqc));conv=>lhs;whnf)
 rw[aY]
 apply hW.bf (by simp;omega)
 conv=>lhs;whnf
 repeat((first|apply hW.t|apply hW.f|(apply hW.q;exact rqc));conv=>lhs;whnf)
 apply hW.w (a4)
 conv=>lhs;whnf
 repeat((first|apply hW.t|apply hW.f|(apply hW.q;exact rqc));conv=>lhs;whnf)
 obtain⟨a,ha⟩:∃ a:Nat,bP m.size m.len i=a:=⟨(bP m.size m.len i).toNat,by omega⟩
 have hfit':a+b.length≤x.buf.length:=by omega
 unfold aCO
 rw[ha,show((a:Int).toNat)=a from by omega]
 refine hW.loop (σ:=Nat) (γ:=Nat) (fun i s=>(s.sl 11 (v1 (.t (.int .i64 i)))).bl ⟨101,1, .own,bys (lay x.buf a (b.take i))⟩) (fun i k=>i=k∧k≤b.length) (fun k=>b.length-k) (fun _=>([bv true],Bld.cs eQ ⟨wor x.hav (aJB i),lay x.buf a b⟩)) 0 0 ?_ ?_ ?_ ?_
 ·intro K
  conv=>lhs;whnf
  conv=>rhs;whnf
  try rfl
  rw[aNi (by omega)]
  rfl
 ·exact⟨rfl,by omega⟩
 ·rintro kl k _ ⟨rfl,hk⟩ ih
  conv=>lhs;whnf
  rw[aY]
  apply hW.b<;>intro g1<;>conv=>lhs;whnf
  ·have g1:k<b.length:=by simpa using g1
   repeat((first|apply hW.t|apply hW.f|(apply hW.q;exact rqc)|(refine hW.w (eR ?_) ?_;omega));conv=>lhs;whnf)
   rw[show IntKind.i64.wrap ((a:Int)+(k:Int))=((a+k:Nat):Int) from(aI (by omega)).trans (by omega)]
   repeat((first|apply hW.t|apply hW.f|(apply hW.q;exact rqc));conv=>lhs;whnf)
   apply hW.w (aIQ hfit' g1)
   conv=>lhs;whnf
   repeat((first|apply hW.t|apply hW.f|(apply hW.q;exact rqc));conv=>lhs;whnf)
   apply hW.w (aIQ hfit' g1)
   conv=>lhs;whnf
   repeat((first|apply hW.t|apply hW.f|(apply hW.q;exact rqc));conv=>lhs;whnf)
   refine ih (k+1) (k+1) _ ?_ ⟨rfl,by omega⟩ (by omega)
   intro K
   conv=>lhs;whnf
   conv=>rhs;whnf
   try rfl
   rw[show IntKind.i64.wrap ((k:Int)+1)=_ from aL (by omega),← aNg hfit' g1]
   rfl
  ·have:k=b.length:=by simp at g1;omega
   subst this
   repeat((first|apply hW.t|apply hW.f|(apply hW.q;exact rqc));conv=>lhs;whnf)
   apply hW.w (a5)
   conv=>lhs;whnf
   repeat((first|apply hW.t|apply hW.f|(apply hW.q;exact rqc));conv=>lhs;whnf)
   rw[aNh]
   rfl
 ·rfl
theorem aAn {E:Env} (hE:Sys E) (m:Man) (x:Bld) (i:Nat) (b:aD) (h40:i<40) (hn:bA m.size m.len i=b.length) (hat:0≤bP m.size m.len i) (hfit:bP m.size m.len i+b.length≤x.buf.length) (hx:x.buf.length≤1048576):E 372 [.pt true (x.cs eQ),gv (m.cs aN),iv i,sv (bys b)]=some ([],(aCO m x i b).cs eQ):=by
 obtain⟨a,ha⟩:∃ a:Nat,bP m.size m.len i=a:=⟨(bP m.size m.len i).toNat,by omega⟩
 have hfit':a+b.length≤x.buf.length:=by omega
 unfold aCO
 rw[ha,show((a:Int).toNat)=a from by omega]
 have hb:=mQ hE m x i a b.length ha hn hfit' hx
 refine hE.run rfl rfl fun W hW=>?_
 conv=>lhs;whnf
 repeat((first|apply hW.t|apply hW.f|(apply hW.q;exact rqc));conv=>lhs;whnf)
 apply hW.w (hb)
 conv=>lhs;whnf
 repeat((first|apply hW.t|apply hW.f|(apply hW.q;exact rqc));conv=>lhs;whnf)
 have hl:(List.take b.length (List.drop a (bys x.buf))).length=b.length:=by simp[aH];omega
 refine hW.q (by exact⟨cL _,aX _,fun e he=>aX _ e (List.mem_of_mem_drop (List.mem_of_mem_take he))⟩) ?_
 conv=>lhs;whnf
 rw[hl,show(bys b).take b.length=bys b from List.take_of_length_le (by rw[aH];exact Nat.le_refl _)]
 repeat((first|apply hW.t|apply hW.f|(apply hW.q;exact rqc));conv=>lhs;whnf)
 rw[show splice (bys x.buf) (100*0+(0+1),a).snd (bys b)=bys (lay x.buf a b) from by simp[splice,lay,bys,List.map_take,List.map_drop]]
 rfl
def oH (m:Man) (old:aD) (i:Nat):aD:=(old.drop (bM old m i).toNat).take (bA m.size m.len i).toNat
def tV (m:Man) (old:aD) (x:Bld) (i:Nat):Bld:=if 0≤bM old m i then aCO m x i (oH m old i) else x
def aGA (m:Man) (old:aD):Nat→Bld
 |0=>fJ m
 |k+1=>tV m old (aGA m old k) k
def cH (m:Man) (old:aD):Bld:=if aV m=true then aGA m old m.sums.length else fJ m
theorem dV {m:Man} (h:aV m=true):m.sums.length≤40∧0≤m.len∧m.len≤240:=by
 have hl:=xD h
 refine⟨?_,hl⟩
 unfold aV at h
 split at h
 ·have h3:m.sums.length=0:=by simp[cC]at h;simp[h]
  omega
 ·simp only[Bool.and_eq_true,decide_eq_true_eq]at h
  obtain⟨_,h2,h3,_⟩:=h
  have:=(nL h2).2.2
  omega
structure BldIn (m:Man) (k:Nat) (x:Bld):Prop where
 hav:∃ h:Nat,x.hav=h∧h<2 ^ k
 len:(x.buf.length:Int)=m.len
theorem xG {m:Man} {old:aD} {k:Nat} (hk:k<m.sums.length) (hp:0≤bM old m k) :
 (oH m old k).length=(bA m.size m.len k).toNat∧bF (oH m old k)=m.sums[k]∧1≤bA m.size m.len k∧bA m.size m.len k≤6∧bM old m k+bA m.size m.len k≤old.length:=by
 obtain⟨a,ha⟩:∃ a:Nat,bM old m k=a:=⟨(bM old m k).toNat,by omega⟩
 obtain⟨h1,h2,h3,h4⟩:=aGy hk ha
 unfold oH
 rw[ha,show((a:Int).toNat)=a from by omega]
 refine⟨?_,h4,h1,h2,h3⟩
 rw[List.length_take,List.length_drop]
 omega
theorem aOB {m:Man} {k:Nat} {x:Bld} {b:aD} (h40:k<40) (h:BldIn m k x) (hb:(b.length:Int)=bA m.size m.len k) (h1:1≤bA m.size m.len k):BldIn m (k+1) (aCO m x k b):=by
 obtain⟨⟨n,hn,hlt⟩,hl⟩:=h
 have hp:2 ^ k≤2 ^ 39:=Nat.pow_le_pow_right (by decide) (by omega)
 have hp2:(2:Nat) ^ 39=549755813888:=by decide
 have hs:=iZ (size:=m.size) (n:=m.len) (i:=k)
 refine⟨⟨n ||| 2 ^ k,?_,Nat.or_lt_two_pow (by rw[Nat.pow_succ];omega) (by rw[Nat.pow_succ];have:=Nat.one_le_two_pow (n:=k);omega)⟩,?_⟩
 ·unfold aCO
  simp only
  rw[hn,(aDY (by omega)).1]
  exact(jC (by omega) (by omega)).1
 ·unfold aCO
  simp only
  rw[aD3 (by omega)]
  exact hl
theorem BldIn.up {m:Man} {k:Nat} {x:Bld} (h:BldIn m k x):BldIn m (k+1) x:=by
 obtain⟨⟨n,hn,hlt⟩,hl⟩:=h
 exact⟨⟨n,hn,by rw[Nat.pow_succ];omega⟩,hl⟩
theorem aBv {m:Man} {old:aD} (hm:aV m=true) {k:Nat} (hk:k≤m.sums.length):BldIn m k (aGA m old k):=by
 have hc:=dV hm
 induction k with
 |zero =>
  simp only[aGA,fJ,if_pos hm]
  exact⟨⟨0,rfl,by decide⟩,by simp;omega⟩
 |succ k ih =>
  simp only[aGA,tV]
  split
  ·rename_i hp
   have:=xG (by omega) hp
   exact aOB (by omega) (ih (by omega)) (by omega) (by omega)
  ·exact(ih (by omega)).up
theorem BldIn.facts {m:Man} {k:Nat} {x:Bld} (hk:k<40) (h:BldIn m k x) (hs:1≤bA m.size m.len k):bN x.hav=true∧dF x.hav k=false∧0≤bP m.size m.len k∧bP m.size m.len k+bA m.size m.len k≤x.buf.length∧x.buf.length≤1048576:=by
 obtain⟨⟨n,hn,hlt⟩,hl⟩:=h
 have hp:2 ^ k≤2 ^ 39:=Nat.pow_le_pow_right (by decide) (by omega)
 have hp2:(2:Nat) ^ 39=549755813888:=by decide
 have hs:=iZ (size:=m.size) (n:=m.len) (i:=k)
 rw[hn]
 refine⟨by simp only[bN,bK,Bool.and_eq_true,decide_eq_true_eq];omega,?_,by omega,by omega,by omega⟩
 rw[xA (by omega) hk]
 exact Nat.testBit_lt_two_pow hlt
theorem gL {E:Env} (hE:Sys E) (m:Man) (old:aD) (h0:m.sums.length≤1048576) (ho:old.length≤1048576):E 367 [gv (m.cs aN),sv (bys old)]=some ([gv ((cH m old).cs eQ)],[]):=by
 have a1:=xE hE m h0
 have a2:=dR hE m h0
 have hrl:(m.sums.map Sum.row).length=m.sums.length:=List.length_map _
 unfold cH
 cases hm:aV m
 ·rw[hm]at a2
  refine hE.run rfl rfl fun W hW=>?_
  conv=>lhs;whnf
  repeat'((first|apply hW.t|apply hW.f|(apply hW.q;exact rqc)|apply hW.w (a1)|apply hW.w (a2)|(apply hW.b<;>intro h))<;>conv=>lhs;whnf)
  rfl
 ·rw[hm]at a2
  have hc:=dV hm
  refine hE.run rfl rfl fun W hW=>?_
  conv=>lhs;whnf
  repeat'((first|apply hW.t|apply hW.f|(apply hW.q;exact rqc)|apply hW.w (a1)|apply hW.w (a2)|(apply hW.b<;>intro h))<;>conv=>lhs;whnf)
  refine hW.loop (σ:=Nat × Bld) (γ:=Nat) (fun i s=>((s.sl 6 (v1 (.t (.int .i64 i.1)))).sl 5 (.box true [.t (.int .i64 i.2.hav), .blk 50501])).bl ⟨50501,1, .own,bys i.2.buf⟩) (fun i k=>i.1=k∧k≤m.sums.length∧i.2=aGA m old k) (fun k=>m.sums.length-k) (fun _=>([gv ((aGA m old m.sums.length).cs eQ)],[])) (0,fJ m) 0 ?_ ?_ ?_ ?_
  ·intro K
   conv=>lhs;whnf
   conv=>rhs;whnf
   try rfl
  ·exact⟨rfl,by omega,rfl⟩
  ·rintro kl ⟨i,x⟩ k ⟨e1,hk,e2⟩ ih
   simp only at e1 e2 hk
   subst e1
   have hx:=aBv (old:=old) hm hk
   rw[← e2]at hx
   conv=>lhs;whnf
   rw[hrl]
   apply hW.b<;>intro g1<;>conv=>lhs;whnf
   ·have g1:i<m.sums.length:=by simpa using g1
    have e3:aGA m old (i+1)=tV m old x i:=by rw[aGA,← e2]
    repeat((first|apply hW.t|apply hW.f|(apply hW.q;exact rqc)|(refine hW.w (eR ?_) ?_;omega));conv=>lhs;whnf)
    apply hW.w (yY hE old m i ho (by omega))
    conv=>lhs;whnf
    repeat((first|apply hW.t|apply hW.f|(apply hW.q;exact rqc));conv=>lhs;whnf)
    apply hW.w (fF hE m.size m.len i)
    conv=>lhs;whnf
    repeat((first|apply hW.t|apply hW.f|(apply hW.q;exact rqc));conv=>lhs;whnf)
    apply hW.b<;>intro g2<;>conv=>lhs;whnf
    ·have g2:0≤bM old m i:=by simpa using g2
     obtain⟨b1,b2,b3,b4,b5⟩:=xG g1 g2
     obtain⟨f1,f2,f3,f4,f5⟩:=hx.facts (by omega) b3
     refine hW.q (by exact g2) ?_
     conv=>lhs;whnf
     rw[show IntKind.i64.wrap (bM old m i+bA m.size m.len i)=bM old m i+bA m.size m.len i from aI (by omega)]
     refine hW.q (by omega) ?_
     conv=>lhs;whnf
     refine hW.q (by exact⟨by omega,by rw[aH];omega,aX _⟩) ?_
     conv=>lhs;whnf
     rw[show(bM old m i+bA m.size m.len i).toNat-(bM old m i).toNat=(bA m.size m.len i).toNat from by omega]
     repeat((first|apply hW.t|apply hW.f|(apply hW.q;exact rqc));conv=>lhs;whnf)
     rw[show((bys old).drop (bM old m i).toNat).take (bA m.size m.len i).toNat=bys (oH m old i) from iG _ _ _]
     apply hW.w (tU hE m x i (oH m old i) h0 g1 (by omega) f1 f2 b2 (by omega) f3 (by omega) f5)
     conv=>lhs;whnf
     repeat((first|apply hW.t|apply hW.f|(apply hW.q;exact rqc));conv=>lhs;whnf)
     refine ih (i+1,aCO m x i (oH m old i)) (i+1) _ ?_ ⟨rfl,by omega,by rw[e3,tV,if_pos g2]⟩ (by omega)
     intro K
     conv=>lhs;whnf
     conv=>rhs;whnf
     try rfl
     try rw[show IntKind.i64.wrap ((i:Int)+1)=_ from aL (by omega)]
     try rfl
    ·have g2:¬ 0≤bM old m i:=by simpa using g2
     repeat((first|apply hW.t|apply hW.f|(apply hW.q;exact rqc));conv=>lhs;whnf)
     refine ih (i+1,x) (i+1) _ ?_ ⟨rfl,by omega,by rw[e3,tV,if_neg g2]⟩ (by omega)
     intro K
     conv=>lhs;whnf
     conv=>rhs;whnf
     try rfl
     rw[show IntKind.i64.wrap ((i:Int)+1)=_ from aL (by omega)]
     try rfl
   ·have:i=m.sums.length:=by simp at g1;omega
    subst this
    repeat((first|apply hW.t|apply hW.f|(apply hW.q;exact rqc));conv=>lhs;whnf)
    subst e2
    rfl
  ·rfl
theorem uH {E:Env} (hE:Sys E) (m:Man) (old:aD) (h0:m.sums.length≤1048576) (ho:old.length≤1048576):E 370 [gv (m.cs aN),sv (bys old)]=some ([gv ((cH m old).cs eQ)],[]):=by
 have a1:=xF hE m h0
 have a2:=dS hE m h0
 have hrl:(m.sums.map Sum.row).length=m.sums.length:=List.length_map _
 unfold cH
 cases hm:aV m
 ·rw[hm]at a2
  refine hE.run rfl rfl fun W hW=>?_
  conv=>lhs;whnf
  repeat'((first|apply hW.t|apply hW.f|(apply hW.q;exact rqc)|apply hW.w (a1)|apply hW.w (a2)|(apply hW.b<;>intro h))<;>conv=>lhs;whnf)
  rfl
 ·rw[hm]at a2
  have hc:=dV hm
  refine hE.run rfl rfl fun W hW=>?_
  conv=>lhs;whnf
  repeat'((first|apply hW.t|apply hW.f|(apply hW.q;exact rqc)|apply hW.w (a1)|apply hW.w (a2)|(apply hW.b<;>intro h))<;>conv=>lhs;whnf)
  rw[hrl]
  refine hW.loop (σ:=Nat × Bld) (γ:=Nat) (fun i s=>((s.sl 19 (v1 (.t (.int .i64 i.1)))).sl 5 (.box true [.t (.int .i64 i.2.hav), .blk 50501])).bl ⟨50501,1, .own,bys i.2.buf⟩) (fun i k=>i.1=k∧k≤m.sums.length∧i.2=aGA m old k) (fun k=>m.sums.length-k) (fun _=>([gv ((aGA m old m.sums.length).cs eQ)],[])) (0,fJ m) 0 ?_ ?_ ?_ ?_
  ·intro K
   conv=>lhs;whnf
   conv=>rhs;whnf
   try rfl
  ·exact⟨rfl,by omega,rfl⟩
  ·rintro kl ⟨i,x⟩ k ⟨e1,hk,e2⟩ ih
   simp only at e1 e2 hk
   subst e1
   have hx:=aBv (old:=old) hm hk
   rw[← e2]at hx
   conv=>lhs;whnf
   apply hW.b<;>intro g1<;>conv=>lhs;whnf
   ·have g1:i<m.sums.length:=by simpa using g1
    have e3:aGA m old (i+1)=tV m old x i:=by rw[aGA,← e2]
    repeat((first|apply hW.t|apply hW.f|(apply hW.q;exact rqc)|(refine hW.w (eR ?_) ?_;omega));conv=>lhs;whnf)
    apply hW.w (fG hE m.size m.len i)
    conv=>lhs;whnf
    repeat((first|apply hW.t|apply hW.f|(apply hW.q;exact rqc));conv=>lhs;whnf)
    apply hW.w (yZ hE old m i ho (by omega))
    conv=>lhs;whnf
    repeat((first|apply hW.t|apply hW.f|(apply hW.q;exact rqc));conv=>lhs;whnf)
    apply hW.b<;>intro g2<;>conv=>lhs;whnf
    ·have g2:0≤bM old m i:=by simpa using g2
     obtain⟨b1,b2,b3,b4,b5⟩:=xG g1 g2
     obtain⟨f1,f2,f3,f4,f5⟩:=hx.facts (by omega) b3
     refine hW.q (by exact g2) ?_
     conv=>lhs;whnf
     rw[show IntKind.i64.wrap (bM old m i+bA m.size m.len i)=bM old m i+bA m.size m.len i from aI (by omega)]
     refine hW.q (by omega) ?_
     conv=>lhs;whnf
     refine hW.q (by exact⟨by omega,by rw[aH];omega,aX _⟩) ?_
     conv=>lhs;whnf
     rw[show(bM old m i+bA m.size m.len i).toNat-(bM old m i).toNat=(bA m.size m.len i).toNat from by omega]
     repeat((first|apply hW.t|apply hW.f|(apply hW.q;exact rqc));conv=>lhs;whnf)
     rw[show((bys old).drop (bM old m i).toNat).take (bA m.size m.len i).toNat=bys (oH m old i) from iG _ _ _]
     apply hW.w (aAn hE m x i (oH m old i) (by omega) (by omega) f3 (by omega) f5)
     conv=>lhs;whnf
     repeat((first|apply hW.t|apply hW.f|(apply hW.q;exact rqc));conv=>lhs;whnf)
     refine ih (i+1,aCO m x i (oH m old i)) (i+1) _ ?_ ⟨rfl,by omega,by rw[e3,tV,if_pos g2]⟩ (by omega)
     intro K
     conv=>lhs;whnf
     conv=>rhs;whnf
     try rfl
     try rw[show IntKind.i64.wrap ((i:Int)+1)=_ from aL (by omega)]
     try rfl
    ·have g2:¬ 0≤bM old m i:=by simpa using g2
     repeat((first|apply hW.t|apply hW.f|(apply hW.q;exact rqc));conv=>lhs;whnf)
     refine ih (i+1,x) (i+1) _ ?_ ⟨rfl,by omega,by rw[e3,tV,if_neg g2]⟩ (by omega)
     intro K
     conv=>lhs;whnf
     conv=>rhs;whnf
     try rfl
     rw[show IntKind.i64.wrap ((i:Int)+1)=_ from aL (by omega)]
     try rfl
   ·have:i=m.sums.length:=by simp at g1;omega
    subst this
    repeat((first|apply hW.t|apply hW.f|(apply hW.q;exact rqc));conv=>lhs;whnf)
    subst e2
    rfl
  ·rfl
def aIR:Node:=⟨false,0,0,⟨0,0,0,[]⟩,⟨0,[]⟩,0,[],0⟩
def mR (m:Man) (b:aD):Node:=if m.gen=0 then aIR else if aV m=false then aIR else if lA m b=false then aIR else⟨true,-1,0,m,cH m b,6,[],0⟩
theorem aJC {a b:Int} (h:a=b):decide (a=b)=true:=decide_eq_true h
theorem tW {a b:Int} (h:¬ a=b):decide (a=b)=false:=decide_eq_false h
theorem aIS {E:Env} (hE:Sys E) (x:Man) (h0:x.sums.length≤8388608):E 213 [gv (x.cs aN)]=some ([gv (x.cs eQ)],[]):=aBd hE x h0
theorem xH {E:Env} (hE:Sys E) (m:Man) (b:aD) (hm:m.lim 1048576) (hb:b.length≤1048576):E 365 [gv (m.cs aN),sv (bys b)]=some ([gv ((mR m b).cs eQ)],[]):=by
 have h0:m.sums.length≤1048576:=hm
 have a1:=dR hE m h0
 have a2:=aCH hE m b hb
 have a3:=aIS hE m (by omega)
 have a4:=gL hE m b h0 hb
 unfold mR
 by_cases h1:m.gen=0
 ·rw[if_pos h1]
  refine hE.run rfl rfl fun W hW=>?_
  conv=>lhs;whnf
  repeat'((first|with_reducible apply hW.bt (aJC h1)|apply hW.t|apply hW.f|(apply hW.q;exact rqc)|(apply hW.b<;>intro h))<;>conv=>lhs;whnf)
  rfl
 ·rw[if_neg h1]
  cases h2:aV m
  ·rw[h2]at a1
   refine hE.run rfl rfl fun W hW=>?_
   conv=>lhs;whnf
   repeat'((first|with_reducible apply hW.bf (tW h1)|apply hW.t|apply hW.f|(apply hW.q;exact rqc)|apply hW.w (a1)|(apply hW.b<;>intro h))<;>conv=>lhs;whnf)
   rfl
  ·rw[h2]at a1
   cases h3:lA m b
   ·rw[h3]at a2
    refine hE.run rfl rfl fun W hW=>?_
    conv=>lhs;whnf
    repeat'((first|with_reducible apply hW.bf (tW h1)|apply hW.t|apply hW.f|(apply hW.q;exact rqc)|apply hW.w (a1)|apply hW.w (a2)|(apply hW.b<;>intro h))<;>conv=>lhs;whnf)
    rfl
   ·rw[h3]at a2
    refine hE.run rfl rfl fun W hW=>?_
    conv=>lhs;whnf
    repeat'((first|with_reducible apply hW.bf (tW h1)|apply hW.t|apply hW.f|(apply hW.q;exact rqc)|apply hW.w (a1)|apply hW.w (a2)|apply hW.w (a3)|apply hW.w (a4)|(apply hW.b<;>intro h))<;>conv=>lhs;whnf)
    rfl
def uI (up:List Int):Nat→Int→List Int
 |0,_=>[]
 |f+1,k=>if bK k 0 ((up.length:Int)-1)=true then k::uI up f (up.getD k.toNat 0) else[]
def mS (t:Tree) (k:Int):List Int:=uI t.up t.up.length k
theorem aIT {up:List Int} {f:Nat} {k:Int}:(uI up f k).length≤f:=by
 induction f generalizing k with
 |zero=>simp[uI]
 |succ f ih =>
  simp only[uI]
  split
  ·have:=ih (k:=up.getD k.toNat 0)
   simp only[List.length_cons];omega
  ·simp
theorem aBw {E:Env} (hE:Sys E) (t:Tree) (k:Int) (ht:t.lim 1048576):E 348 [gv (t.cs aN),iv k]=some ([ov 1 (cG (mS t k))],[]):=by
 have h0:t.up.length≤1048576:=ht
 have hrl:(cG t.up).length=t.up.length:=List.length_map _
 have hw:IntKind.i64.wrap ((t.up.length:Int)-1)=(t.up.length:Int)-1:=aI (by omega)
 refine hE.run rfl rfl fun W hW=>?_
 conv=>lhs;whnf
 refine hW.loop (σ:=Int × List Int) (γ:=Nat) (fun i s=>(s.sl 1 (v1 (.t (.int .i64 i.1)))).bl ⟨50500,1, .own,cG i.2⟩) (fun i f=>i.2.length+f=t.up.length∧i.2++uI t.up f i.1=mS t k) (fun f=>f) (fun _=>([ov 1 (cG (mS t k))],[])) (k,[]) t.up.length ?_ ?_ ?_ ?_
 ·intro K
  conv=>lhs;whnf
  conv=>rhs;whnf
  try rfl
 ·exact⟨by simp,rfl⟩
 ·rintro kl ⟨j,acc⟩ f ⟨hf,hs⟩ ih
  simp only at hf hs
  have hra:(cG acc).length=acc.length:=List.length_map _
  conv=>lhs;whnf
  rw[hrl,hw]
  apply hW.w (bJ hE j 0 ((t.up.length:Int)-1))
  conv=>lhs;whnf
  repeat((first|apply hW.t|apply hW.f|(apply hW.q;exact rqc));conv=>lhs;whnf)
  cases hj:bK j 0 ((t.up.length:Int)-1)
  ·repeat((first|apply hW.t|apply hW.f|(apply hW.q;exact rqc));conv=>lhs;whnf)
   have hs:acc=mS t k:=by
    rw[← hs]
    cases f with
    |zero=>simp[uI]
    |succ f=>simp[uI,hj]
   rw[hs]
   rfl
  ·repeat((first|apply hW.t|apply hW.f|(apply hW.q;exact rqc));conv=>lhs;whnf)
   rw[hra]
   try rw[hrl]
   apply hW.b<;>intro h2<;>conv=>lhs;whnf
   ·obtain⟨f,rfl⟩:∃ g,f=g+1:=⟨f-1,by simp at h2;omega⟩
    obtain⟨n,rfl⟩:∃ n:Nat,j=n:=⟨j.toNat,by have:=bU hj;omega⟩
    have hn:n<t.up.length:=by have:=bU hj;omega
    rw[uI,if_pos hj,Int.toNat_natCast,List.getD_eq_getElem?_getD,List.getElem?_eq_getElem hn,Option.getD_some]at hs
    repeat((first|apply hW.t|apply hW.f|(apply hW.q;exact rqc));conv=>lhs;whnf)
    refine hW.q (by exact⟨by decide,by intro e he;simp at he;subst he;rfl,by simp[cG];omega,by simp[cG];omega⟩) ?_
    conv=>lhs;whnf
    repeat((first|apply hW.t|apply hW.f|(apply hW.q;exact rqc)|(refine hW.w (eR ?_) ?_;omega));conv=>lhs;whnf)
    refine ih (t.up[n],acc++[(n:Int)]) f _ ?_ ⟨by simp;omega,by simpa using hs⟩ (by omega)
    intro K
    conv=>lhs;whnf
    conv=>rhs;whnf
    try rfl
    rw[show cG (acc++[(n:Int)])=cG acc++[[ti n]] from by simp[cG,rD]]
    rfl
   ·have:f=0:=by simp at h2;omega
    subst this
    simp only[uI,List.append_nil]at hs
    repeat((first|apply hW.t|apply hW.f|(apply hW.q;exact rqc));conv=>lhs;whnf)
    rw[hs]
    rfl
 ·rfl
def jD (n:Node):Node:={ n with drops:=IntKind.i64.wrap (n.drops+1) }
def bR (n:Node) (d:Disk) (m:Man):Node :=
 if n.phase=0 then
  if aV m=false then n else if m.gen=0 then n else
   { n with man:=m,bld:=cH m (qS d),phase:=if decide (sB d=m.gen)&&lA m (qS d) then 5 else 1 }
 else if n.man=m then n else jD n
theorem aBx (n:Node) (d:Disk) (m:Man) (hn:n.limk) (hm:m.lim 1048576):(bR n d m).limk∧(bR n d m).kids=n.kids:=by
 unfold bR
 split
 ·split
  ·exact⟨hn,rfl⟩
  ·split
   ·exact⟨hn,rfl⟩
   ·rename_i _ h _
    have h:aV m=true:=by simpa using h
    have:=(aBv (old:=qS d) h (Nat.le_refl _)).len
    have hc:=dV h
    refine⟨⟨hm,?_,hn.2.2⟩,rfl⟩
    show(cH m (qS d)).buf.length≤_
    unfold cH
    rw[if_pos h]
    omega
 ·split
  ·exact⟨hn,rfl⟩
  ·exact⟨hn,rfl⟩
theorem aJD {a b:Int} (h:a=b):(!decide (a=b))=false:=by simp[h]
theorem aNL {a b:Int} (h:¬ a=b):(!decide (a=b))=true:=by simp[h]
theorem zD {E:Env} (hE:Sys E) (n:Node) (d:Disk) (m:Man) (hn:n.limk) (hd:d.lim 1048576) (hm:m.lim 1048576):E 457 [gv (n.cs aN),gv (d.cs aN true),gv (m.cs aN)]=some ([gv ((bR n d m).cs eQ)],[]):=by
 have h0:m.sums.length≤1048576:=hm
 have c1:=cS hE n hn.l8
 have a1:=yP hE m n.man (by omega)
 have a2:=dS hE m h0
 have hl:=Nat.le_trans (aCK d) (show 240≤1048576 from by decide)
 have a3:=oF hE (o:=true) d hd
 have a4:=oC hE m (by omega)
 have a5:=uH hE m (qS d) h0 hl
 have a6:=uF hE d m hd
 unfold bR
 by_cases h1:n.phase=0
 ·rw[if_pos h1]
  cases h2:aV m
  ·rw[h2]at a2
   refine hE.run rfl rfl fun W hW=>?_
   conv=>lhs;whnf
   repeat'((first|with_reducible apply hW.bf (aJD h1)|apply hW.t|apply hW.f|(apply hW.q;exact rqc)|apply hW.w (c1)|apply hW.w (a2)|(apply hW.b<;>intro h))<;>conv=>lhs;whnf)
   rfl
  ·rw[h2]at a2
   by_cases h3:m.gen=0
   ·rw[if_neg (by decide),if_pos h3]
    refine hE.run rfl rfl fun W hW=>?_
    conv=>lhs;whnf
    repeat'((first|with_reducible apply hW.bf (aJD h1)|with_reducible apply hW.bf (aJD h3)|apply hW.t|apply hW.f|(apply hW.q;exact rqc)|apply hW.w (c1)|apply hW.w (a2)|(apply hW.b<;>intro h))<;>conv=>lhs;whnf)
    rfl
   ·rw[if_neg (by decide),if_neg h3]
    cases h5:decide (sB d=m.gen)&&lA m (qS d)
    ·rw[h5]at a6
     refine hE.run rfl rfl fun W hW=>?_
     conv=>lhs;whnf
     repeat'((first|with_reducible apply hW.bf (aJD h1)|with_reducible apply hW.bt (aNL h3)|apply hW.t|apply hW.f|(apply hW.q;exact rqc)|apply hW.w (c1)|apply hW.w (a2)|apply hW.w (a3)|apply hW.w (a4)|apply hW.w (a5)|apply hW.w (a6)|(apply hW.b<;>intro h))<;>conv=>lhs;whnf)
     rfl
    ·rw[h5]at a6
     refine hE.run rfl rfl fun W hW=>?_
     conv=>lhs;whnf
     repeat'((first|with_reducible apply hW.bf (aJD h1)|with_reducible apply hW.bt (aNL h3)|apply hW.t|apply hW.f|(apply hW.q;exact rqc)|apply hW.w (c1)|apply hW.w (a2)|apply hW.w (a3)|apply hW.w (a4)|apply hW.w (a5)|apply hW.w (a6)|(apply hW.b<;>intro h))<;>conv=>lhs;whnf)
     rfl
 ·rw[if_neg h1]
  by_cases h2:n.man=m
  ·rw[if_pos h2]
   rw[decide_eq_true h2.symm]at a1
   refine hE.run rfl rfl fun W hW=>?_
   conv=>lhs;whnf
   repeat'((first|with_reducible apply hW.bt (aNL h1)|apply hW.t|apply hW.f|(apply hW.q;exact rqc)|apply hW.w (c1)|apply hW.w (a1)|(apply hW.b<;>intro h))<;>conv=>lhs;whnf)
   rfl
  ·rw[if_neg h2]
   rw[decide_eq_false (fun e=>h2 e.symm)]at a1
   refine hE.run rfl rfl fun W hW=>?_
   conv=>lhs;whnf
   repeat'((first|with_reducible apply hW.bt (aNL h1)|apply hW.t|apply hW.f|(apply hW.q;exact rqc)|apply hW.w (c1)|apply hW.w (a1)|(apply hW.b<;>intro h))<;>conv=>lhs;whnf)
   rfl
theorem oI {E:Env} (hE:Sys E) (m:Man) (x:Bld) (hm:m.sums.length≤1048576) (hx:x.buf.length≤1048576):E 360 [gv (m.cs aN),gv (x.cs aN)]=some ([bv (fI m x)],[]):=by
 have a1:=dS hE m hm
 have a2:=cP hE x.hav
 have a3:=wK hE m
 have hrl:(m.sums.map Sum.row).length=m.sums.length:=List.length_map _
 unfold fI
 cases h1:aV m
 ·rw[h1]at a1
  refine hE.run rfl rfl fun W hW=>?_
  conv=>lhs;whnf
  repeat'((first|apply hW.t|apply hW.f|(apply hW.q;exact rqc)|apply hW.w (a1)|(apply hW.b<;>intro h))<;>conv=>lhs;whnf)
  rfl
 ·rw[h1]at a1
  cases h2:bN x.hav
  ·rw[h2]at a2
   refine hE.run rfl rfl fun W hW=>?_
   conv=>lhs;whnf
   repeat'((first|apply hW.t|apply hW.f|(apply hW.q;exact rqc)|apply hW.w (a1)|apply hW.w (a2)|(apply hW.b<;>intro h))<;>conv=>lhs;whnf)
   rfl
  ·rw[h2]at a2
   have h3w:∀ b,rY x.hav (dQ m)=b→IntKind.i64.wrap (BitVec.ofInt IntKind.i64.bits x.hav &&& ~~~BitVec.ofInt IntKind.i64.bits (dQ m)).toNat=b:=fun _ h=>h
   by_cases h3:rY x.hav (dQ m)=0
   ·by_cases h4:(x.buf.length:Int)=m.len
    ·have h4':((bys x.buf).length:Int)=m.len:=by rw[aY];exact h4
     rw[decide_eq_true h3,decide_eq_true h4]
     simp only[Bool.true_and]
     refine hE.run rfl rfl fun W hW=>?_
     conv=>lhs;whnf
     repeat'((first|with_reducible apply hW.bf (ndf (h3w 0 h3))|with_reducible apply hW.bf (ndf h4')|apply hW.t|apply hW.f|(apply hW.q;exact rqc)|apply hW.w (a1)|apply hW.w (a2)|apply hW.w (a3)|(apply hW.b<;>intro h))<;>conv=>lhs;whnf)
     rw[hrl]
     refine hW.loop (σ:=Nat) (γ:=Nat) (fun i s=>s.sl 36 (v1 (.t (.int .i64 i)))) (fun i k=>i=k∧k≤m.sums.length) (fun k=>m.sums.length-k) (fun k=>([bv (aPc m x k (m.sums.drop k))],[])) 0 0 ?_ ?_ ?_ ?_
     ·intro K
      conv=>lhs;whnf
      conv=>rhs;whnf
      try rfl
     ·exact⟨rfl,by omega⟩
     ·rintro kl n _ ⟨rfl,hn⟩ ih
      conv=>lhs;whnf
      apply hW.b<;>intro g1<;>conv=>lhs;whnf
      ·have g1:n<m.sums.length:=by simpa using g1
       have hs:=iZ (size:=m.size) (n:=m.len) (i:=n)
       have hk:lL x.buf m.size n=(x.buf.drop (bP m.size m.len n).toNat).take (bA m.size m.len n).toNat:=by unfold lL;rw[h4]
       have hkl:=nM x.buf m.size n
       rw[List.drop_eq_getElem_cons g1,aPc,aOy]
       obtain⟨a,ha⟩:∃ a:Nat,bP m.size m.len n=a:=⟨(bP m.size m.len n).toNat,by omega⟩
       obtain⟨w,hw⟩:∃ w:Nat,bA m.size m.len n=w:=⟨(bA m.size m.len n).toNat,by omega⟩
       have hc:((bys x.buf).drop a).take w=bys (lL x.buf m.size n):=by
        rw[iG,hk,ha,hw]
        rfl
       repeat((first|apply hW.t|apply hW.f|(apply hW.q;exact rqc)|(refine hW.w (eR ?_) ?_;omega));conv=>lhs;whnf)
       apply hW.w (mQ hE m x n a w ha hw (by omega) hx)
       conv=>lhs;whnf
       repeat((first|apply hW.t|apply hW.f|(apply hW.q;exact rqc));conv=>lhs;whnf)
       apply hW.w (dG hE x.hav n)
       conv=>lhs;whnf
       repeat((first|apply hW.t|apply hW.f|(apply hW.q;exact rqc));conv=>lhs;whnf)
       apply hW.b<;>intro gi<;>conv=>lhs;whnf
       ·rw[if_pos gi]
        repeat((first|apply hW.t|apply hW.f|(apply hW.q;exact rqc)|(refine hW.w (eR ?_) ?_;omega));conv=>lhs;whnf)
        rw[hc]
        apply hW.w (gK hE (lL x.buf m.size n) (by omega))
        conv=>lhs;whnf
        repeat((first|apply hW.t|apply hW.f|(apply hW.q;exact rqc));conv=>lhs;whnf)
        apply hW.b<;>intro g4<;>conv=>lhs;whnf
        ·have g4:¬ bF (lL x.buf m.size n)=m.sums[n]:=by intro e;rw[e]at g4;simp at g4
         rw[decide_eq_false g4]
         repeat((first|apply hW.t|apply hW.f|(apply hW.q;exact rqc));conv=>lhs;whnf)
         rfl
        ·have g4:bF (lL x.buf m.size n)=m.sums[n]:=by
          revert g4
          generalize bF (lL x.buf m.size n)=y
          generalize m.sums[n]=z
          cases y;cases z
          simp
         rw[decide_eq_true g4]
         simp only[Bool.true_and]
         repeat((first|apply hW.t|apply hW.f|(apply hW.q;exact rqc));conv=>lhs;whnf)
         apply hW.w (dG hE x.hav n)
         conv=>lhs;whnf
         repeat((first|apply hW.t|apply hW.f|(apply hW.q;exact rqc));conv=>lhs;whnf)
         rw[gi]
         repeat((first|apply hW.t|apply hW.f|(apply hW.q;exact rqc));conv=>lhs;whnf)
         refine ih (n+1) (n+1) _ ?_ ⟨rfl,by omega⟩ (by omega)
         intro K
         conv=>lhs;whnf
         conv=>rhs;whnf
         try rfl
         rw[show IntKind.i64.wrap ((n:Int)+1)=_ from aL (by omega)]
         try rfl
       ·rw[if_neg (by rw[gi];decide)]
        repeat((first|apply hW.t|apply hW.f|(apply hW.q;exact rqc));conv=>lhs;whnf)
        apply hW.w (dG hE x.hav n)
        conv=>lhs;whnf
        repeat((first|apply hW.t|apply hW.f|(apply hW.q;exact rqc));conv=>lhs;whnf)
        rw[gi]
        repeat((first|apply hW.t|apply hW.f|(apply hW.q;exact rqc));conv=>lhs;whnf)
        rw[hc]
        apply hW.w (pE hE (lL x.buf m.size n) (by omega))
        conv=>lhs;whnf
        repeat((first|apply hW.t|apply hW.f|(apply hW.q;exact rqc));conv=>lhs;whnf)
        apply hW.b<;>intro g5<;>conv=>lhs;whnf
        ·rw[uD g5]
         repeat((first|apply hW.t|apply hW.f|(apply hW.q;exact rqc));conv=>lhs;whnf)
         rfl
        ·rw[mH g5]
         simp only[Bool.true_and]
         repeat((first|apply hW.t|apply hW.f|(apply hW.q;exact rqc));conv=>lhs;whnf)
         refine ih (n+1) (n+1) _ ?_ ⟨rfl,by omega⟩ (by omega)
         intro K
         conv=>lhs;whnf
         conv=>rhs;whnf
         try rfl
         rw[show IntKind.i64.wrap ((n:Int)+1)=_ from aL (by omega)]
         try rfl
      ·have:n=m.sums.length:=by simp at g1;omega
       rw[this,List.drop_length]
       repeat((first|apply hW.t|apply hW.f|(apply hW.q;exact rqc));conv=>lhs;whnf)
       rfl
     ·rfl
    ·have h4':¬ ((bys x.buf).length:Int)=m.len:=by rw[aY];exact h4
     rw[decide_eq_true h3,decide_eq_false h4]
     refine hE.run rfl rfl fun W hW=>?_
     conv=>lhs;whnf
     repeat'((first|with_reducible apply hW.bf (ndf (h3w 0 h3))|with_reducible apply hW.bt (ndt h4')|apply hW.t|apply hW.f|(apply hW.q;exact rqc)|apply hW.w (a1)|apply hW.w (a2)|apply hW.w (a3)|(apply hW.b<;>intro h))<;>conv=>lhs;whnf)
     rfl
   ·have h3n:¬ IntKind.i64.wrap (BitVec.ofInt IntKind.i64.bits x.hav &&& ~~~BitVec.ofInt IntKind.i64.bits (dQ m)).toNat=0:=h3
    rw[decide_eq_false h3]
    refine hE.run rfl rfl fun W hW=>?_
    conv=>lhs;whnf
    repeat'((first|with_reducible apply hW.bt (ndt h3n)|apply hW.t|apply hW.f|(apply hW.q;exact rqc)|apply hW.w (a1)|apply hW.w (a2)|apply hW.w (a3)|(apply hW.b<;>intro h))<;>conv=>lhs;whnf)
    rfl
def aL8 (x:Kid):Kid:={ x with age:=IntKind.i64.wrap (x.age+1),sent:=0 }
def aPd (f:Int) (x:Kid):List Kid:=if x.age<f then[aL8 x] else[]
def fY (l:List Kid) (f:Int):List Kid:=l.flatMap (aPd f)
theorem aBy {E:Env} (hE:Sys E) (l:List Kid) (f:Int) (h0:l.length≤1048576):E 164 [sv (l.map Kid.row),iv f]=some ([ov 5 ((fY l f).map Kid.row)],[]):=by
 have hrl:(l.map Kid.row).length=l.length:=List.length_map _
 refine hE.run rfl rfl fun W hW=>?_
 conv=>lhs;whnf
 refine hW.loop (σ:=Nat × List Kid) (γ:=Nat) (fun i s=>(s.sl 6 (v1 (.t (.int .i64 i.1)))).bl ⟨50500,5, .own,i.2.map Kid.row⟩) (fun i m=>i.1=m∧m≤l.length∧i.2.length≤m∧i.2++fY (l.drop m) f=fY l f) (fun m=>l.length-m) (fun _=>([ov 5 ((fY l f).map Kid.row)],[])) (0,[]) 0 ?_ ?_ ?_ ?_
 ·intro K
  conv=>lhs;whnf
  conv=>rhs;whnf
  try rfl
 ·exact⟨rfl,by omega,by simp,rfl⟩
 ·rintro kl ⟨m,acc⟩ _ ⟨rfl,hm,hl,hs⟩ ih
  simp only at hs hm hl
  conv=>lhs;whnf
  rw[hrl]
  apply hW.b<;>intro h1<;>conv=>lhs;whnf
  ·have h1:m<l.length:=by simpa using h1
   rw[List.drop_eq_getElem_cons h1,fY,List.flatMap_cons,aPd]at hs
   repeat((first|apply hW.t|apply hW.f|(apply hW.q;exact rqc)|(refine hW.w (eR ?_) ?_;omega));conv=>lhs;whnf)
   apply hW.b<;>intro h3<;>conv=>lhs;whnf
   ·have h3:¬ l[m].age<f:=by
     have:l[m].age≥f:=by simpa using h3
     omega
    rw[if_neg h3]at hs
    repeat((first|apply hW.t|apply hW.f|(apply hW.q;exact rqc));conv=>lhs;whnf)
    refine ih (m+1,acc) (m+1) _ ?_ ⟨rfl,by omega,by simp only;omega,hs⟩ (by omega)
    intro K
    conv=>lhs;whnf
    conv=>rhs;whnf
    try rfl
    rw[show IntKind.i64.wrap ((m:Int)+1)=_ from aL (by omega)]
    try rfl
   ·have h3:l[m].age<f:=by
     have:¬ l[m].age≥f:=by simpa using h3
     omega
    rw[if_pos h3]at hs
    repeat((first|apply hW.t|apply hW.f|(apply hW.q;exact rqc));conv=>lhs;whnf)
    refine hW.q (by exact⟨by decide,by intro e he;simp at he;subst he;rfl,by simp;omega,by simp;omega⟩) ?_
    conv=>lhs;whnf
    repeat((first|apply hW.t|apply hW.f|(apply hW.q;exact rqc));conv=>lhs;whnf)
    refine ih (m+1,acc++[aL8 l[m]]) (m+1) _ ?_ ⟨rfl,by omega,by simp;omega,by rw[List.append_assoc];exact hs⟩ (by omega)
    intro K
    conv=>lhs;whnf
    conv=>rhs;whnf
    try rfl
    rw[show IntKind.i64.wrap ((m:Int)+1)=_ from aL (by omega),List.map_append]
    rfl
  ·have:m=l.length:=by simp at h1;omega
   subst this
   simp only[List.drop_length,fY,List.flatMap_nil,List.append_nil]at hs
   repeat((first|apply hW.t|apply hW.f|(apply hW.q;exact rqc));conv=>lhs;whnf)
   rw[hs];rfl
 ·rfl
def uY (gen want done:Int):Msg:=⟨2,gen,⟨0,0,0,[]⟩,want,done,0,[]⟩
theorem oJ {E:Env} (hE:Sys E) (gen want done:Int):E 498 [iv gen,iv want,iv done]=some ([gv ((uY gen want done).cs eQ)],[]):=by
 refine hE.run rfl rfl fun W hW=>?_
 conv=>lhs;whnf
 rfl
def lF (b:aD) (l:List Kid) (c:Cur):List Kid × Cur:=(if(aE b c 3).1=0 then fY l 3 else l,(aE b c 3).2)
def eK (b:aD) (l:List Kid) (c:Cur):List Kid × Cur :=
 if(aE b c 3).1=0 then(aR l (aE b (aE b c 3).2 7).1 (iO b (aE b (aE b c 3).2 7).2).1,(iO b (aE b (aE b c 3).2 7).2).2) else(l,(aE b c 3).2)
def kP (b:aD) (l:List Kid) (c:Cur):List Kid × Cur :=
 (cU l (aE b (iO b c).2 7).1 (iO b c).1 (aE b (aE b (iO b c).2 7).2 128).1,(aE b (aE b (iO b c).2 7).2 128).2)
def aBz (b:aD) (p:List Kid × Cur):List Kid × Cur:=eK b (lF b (kP b p.1 p.2).1 (kP b p.1 p.2).2).1 (lF b (kP b p.1 p.2).1 (kP b p.1 p.2).2).2
def iT (b:aD):Nat→List Kid × Cur→List Kid × Cur
 |0,p=>p
 |n+1,p=>iT b n (aBz b p)
def iQ (b:aD) (c:Cur):List Kid × Cur:=iT b (aE b c 5).1.toNat ([],(aE b c 5).2)
theorem aLe (f:Int) (x:Kid):(aPd f x).length≤1:=by unfold aPd;split<;>simp
theorem aAo (l:List Kid) (f:Int):(fY l f).length≤l.length:=by
 unfold fY
 induction l with
 |nil=>simp
 |cons a r ih =>
  have:=aLe f a
  simp only[List.flatMap_cons,List.length_append,List.length_cons];omega
theorem aD4 (b:aD) (l:List Kid) (c:Cur):(kP b l c).1.length≤l.length+1:=mP _ _ _ _
theorem aGB (b:aD) (l:List Kid) (c:Cur):(lF b l c).1.length≤l.length:=by
 unfold lF
 simp only
 split
 ·exact aAo _ _
 ·exact Nat.le_refl _
theorem aD5 (b:aD) (l:List Kid) (c:Cur):(eK b l c).1.length≤l.length:=by
 unfold eK
 split
 ·simp only;rw[dY];exact Nat.le_refl _
 ·exact Nat.le_refl _
theorem aD6 (b:aD) (p:List Kid × Cur):(aBz b p).1.length≤p.1.length+1:=Nat.le_trans (aD5 _ _ _) (Nat.le_trans (aGB _ _ _) (aD4 _ _ _))
theorem aAp (b:aD):∀ (n:Nat) (p:List Kid × Cur),(iT b n p).1.length≤p.1.length+n
 |0,_=>Nat.le_refl _
 |n+1,p=>by
  have h1:=aAp b n (aBz b p)
  have h2:=aD6 b p
  simp only[iT]
  omega
theorem aCP (b:aD) (c:Cur):(iQ b c).1.length≤5:=by
 have h:=cF b c (n:=5) (by decide)
 have:=aAp b (aE b c 5).1.toNat ([],(aE b c 5).2)
 unfold iQ
 simp only[List.length_nil]at this
 omega
theorem pF {k:Nat} (h:k+1<9223372036854775807):IntKind.i64.wrap (((k+1:Nat):Int)-1)=(k:Int):=by
 rw[show((k+1:Nat):Int)-1=(k:Int) by omega]
 exact aI (by omega)
theorem aOC {E:Env} (hE:Sys E) {es:List (List T)} {b:aD} (he:es=bys b) (c:Cur) (hb:b.length≤1048576):E 159 [nH es c]=some ([ov 5 ((iQ b c).1.map Kid.row)],gU (iQ b c).2):=by
 have hr:=cF b c (n:=5) (by decide)
 obtain⟨n,hn⟩:=Int.eq_ofNat_of_zero_le hr.1
 unfold iQ
 have a0:=aQ hE he c hb 5
 rw[hn]at a0 hr ⊢
 rw[Int.toNat_natCast]
 refine hE.run rfl rfl fun W hW=>?_
 conv=>lhs;whnf
 repeat((first|apply hW.t|apply hW.f|(apply hW.q;exact rqc));conv=>lhs;whnf)
 apply hW.w (a0)
 conv=>lhs;whnf
 repeat((first|apply hW.t|apply hW.f|(apply hW.q;exact rqc));conv=>lhs;whnf)
 generalize hfin:iT b n ([],(aE b c 5).2)=fin
 refine hW.loop (σ:=Nat × List Kid × Cur) (γ:=Nat) (fun i s=>((s.sl 4 (v1 (.t (.int .i64 i.1)))).sl 0 (.box true [.blk 0, .t (.int .i64 i.2.2.i), .t (.int .i64 i.2.2.h)])).bl ⟨50300,5, .own,i.2.1.map Kid.row⟩) (fun i m=>i.1=m∧m≤n∧i.2.1.length+m≤n∧iT b m i.2=fin) (fun m=>m) (fun _=>([ov 5 (fin.1.map Kid.row)],gU fin.2)) (n,[],(aE b c 5).2) n ?_ ?_ ?_ ?_
 ·intro K
  conv=>lhs;whnf
  conv=>rhs;whnf
  try rfl
 ·exact⟨rfl,Nat.le_refl _,by simp,hfin⟩
 ·rintro kl ⟨m,l,q⟩ _ ⟨rfl,hm,hl,hs⟩ ih
  simp only at hs hl hm
  conv=>lhs;whnf
  apply hW.b<;>intro g1<;>conv=>lhs;whnf
  ·have g1:0<m:=by have g1:=of_decide_eq_true g1;omega
   obtain⟨k,rfl⟩:∃ k,m=k+1:=⟨m-1,by omega⟩
   rw[iT]at hs
   have hstep:aBz b (l,q)=eK b (lF b (kP b l q).1 (kP b l q).2).1 (lF b (kP b l q).1 (kP b l q).2).2:=rfl
   rw[hstep]at hs
   repeat((first|apply hW.t|apply hW.f|(apply hW.q;exact rqc));conv=>lhs;whnf)
   apply hW.w (aIz hE he q hb)
   conv=>lhs;whnf
   repeat((first|apply hW.t|apply hW.f|(apply hW.q;exact rqc));conv=>lhs;whnf)
   apply hW.w (aQ hE he (iO b q).2 hb 7)
   conv=>lhs;whnf
   repeat((first|apply hW.t|apply hW.f|(apply hW.q;exact rqc));conv=>lhs;whnf)
   apply hW.w (aQ hE he (aE b (iO b q).2 7).2 hb 128)
   conv=>lhs;whnf
   repeat((first|apply hW.t|apply hW.f|(apply hW.q;exact rqc));conv=>lhs;whnf)
   apply hW.w (xC hE l (aE b (iO b q).2 7).1 (iO b q).1 (aE b (aE b (iO b q).2 7).2 128).1 (by omega))
   conv=>lhs;whnf
   repeat((first|apply hW.t|apply hW.f|(apply hW.q;exact rqc));conv=>lhs;whnf)
   have hs:iT b k (eK b (lF b (cU l (aE b (iO b q).2 7).1 (iO b q).1 (aE b (aE b (iO b q).2 7).2 128).1) (aE b (aE b (iO b q).2 7).2 128).2).1 (lF b (cU l (aE b (iO b q).2 7).1 (iO b q).1 (aE b (aE b (iO b q).2 7).2 128).1) (aE b (aE b (iO b q).2 7).2 128).2).2)=fin:=hs
   have hl1:(cU l (aE b (iO b q).2 7).1 (iO b q).1 (aE b (aE b (iO b q).2 7).2 128).1).length≤l.length+1:=mP _ _ _ _
   generalize (aE b (aE b (iO b q).2 7).2 128).2=c3 at hs ⊢
   generalize cU l (aE b (iO b q).2 7).1 (iO b q).1 (aE b (aE b (iO b q).2 7).2 128).1=l1 at hs hl1 ⊢
   have a5:=eF hE he c3 hb 3
   by_cases h4:(aE b c3 3).1=0
   ·have hs:iT b k (eK b (fY l1 3) (aE b c3 3).2)=fin:=by
     have e:lF b l1 c3=(fY l1 3,(aE b c3 3).2):=by unfold lF;rw[if_pos h4]
     rw[e]at hs
     exact hs
    rw[decide_eq_true h4]at a5
    apply hW.w (a5)
    conv=>lhs;whnf
    repeat((first|apply hW.t|apply hW.f|(apply hW.q;exact rqc));conv=>lhs;whnf)
    apply hW.w (aBy hE l1 3 (by omega))
    conv=>lhs;whnf
    repeat((first|apply hW.t|apply hW.f|(apply hW.q;exact rqc));conv=>lhs;whnf)
    have hl2:(fY l1 3).length≤l.length+1:=Nat.le_trans (aAo _ _) hl1
    generalize fY l1 3=l2 at hs hl2 ⊢
    generalize (aE b c3 3).2=c4 at hs ⊢
    have a6:=eF hE he c4 hb 3
    by_cases h5:(aE b c4 3).1=0
    ·rw[decide_eq_true h5]at a6
     have hs:iT b k (aR l2 (aE b (aE b c4 3).2 7).1 (iO b (aE b (aE b c4 3).2 7).2).1,(iO b (aE b (aE b c4 3).2 7).2).2)=fin:=by
      have e:eK b l2 c4=(aR l2 (aE b (aE b c4 3).2 7).1 (iO b (aE b (aE b c4 3).2 7).2).1,(iO b (aE b (aE b c4 3).2 7).2).2):=by unfold eK;rw[if_pos h5]
      rw[e]at hs
      exact hs
     apply hW.w (a6)
     conv=>lhs;whnf
     repeat((first|apply hW.t|apply hW.f|(apply hW.q;exact rqc));conv=>lhs;whnf)
     apply hW.w (aQ hE he (aE b c4 3).2 hb 7)
     conv=>lhs;whnf
     repeat((first|apply hW.t|apply hW.f|(apply hW.q;exact rqc));conv=>lhs;whnf)
     apply hW.w (aIz hE he (aE b (aE b c4 3).2 7).2 hb)
     conv=>lhs;whnf
     repeat((first|apply hW.t|apply hW.f|(apply hW.q;exact rqc));conv=>lhs;whnf)
     apply hW.w (mF hE l2 (aE b (aE b c4 3).2 7).1 (iO b (aE b (aE b c4 3).2 7).2).1 (by omega))
     conv=>lhs;whnf
     repeat((first|apply hW.t|apply hW.f|(apply hW.q;exact rqc));conv=>lhs;whnf)
     refine ih (k,aR l2 (aE b (aE b c4 3).2 7).1 (iO b (aE b (aE b c4 3).2 7).2).1,(iO b (aE b (aE b c4 3).2 7).2).2) k _ ?_ ⟨rfl,by omega,by simp only;rw[dY];omega,hs⟩ (by omega)
     intro K
     conv=>lhs;whnf
     conv=>rhs;whnf
     try rfl
     rw[show IntKind.i64.wrap (((k+1:Nat):Int)-1)=(k:Int) from pF (by omega)]
    ·rw[decide_eq_false h5]at a6
     have hs:iT b k (l2,(aE b c4 3).2)=fin:=by
      have e:eK b l2 c4=(l2,(aE b c4 3).2):=by unfold eK;rw[if_neg h5]
      rw[e]at hs
      exact hs
     apply hW.w (a6)
     conv=>lhs;whnf
     repeat((first|apply hW.t|apply hW.f|(apply hW.q;exact rqc));conv=>lhs;whnf)
     refine ih (k,l2,(aE b c4 3).2) k _ ?_ ⟨rfl,by omega,by simp only;omega,hs⟩ (by omega)
     intro K
     conv=>lhs;whnf
     conv=>rhs;whnf
     try rfl
     rw[show IntKind.i64.wrap (((k+1:Nat):Int)-1)=(k:Int) from pF (by omega)]
   ·have hs:iT b k (eK b (l1) (aE b c3 3).2)=fin:=by
     have e:lF b l1 c3=(l1,(aE b c3 3).2):=by unfold lF;rw[if_neg h4]
     rw[e]at hs
     exact hs
    rw[decide_eq_false h4]at a5
    apply hW.w (a5)
    conv=>lhs;whnf
    repeat((first|apply hW.t|apply hW.f|(apply hW.q;exact rqc));conv=>lhs;whnf)
    have hl2:(l1).length≤l.length+1:=hl1
    generalize (aE b c3 3).2=c4 at hs ⊢
    have a6:=eF hE he c4 hb 3
    by_cases h5:(aE b c4 3).1=0
    ·rw[decide_eq_true h5]at a6
     have hs:iT b k (aR l1 (aE b (aE b c4 3).2 7).1 (iO b (aE b (aE b c4 3).2 7).2).1,(iO b (aE b (aE b c4 3).2 7).2).2)=fin:=by
      have e:eK b l1 c4=(aR l1 (aE b (aE b c4 3).2 7).1 (iO b (aE b (aE b c4 3).2 7).2).1,(iO b (aE b (aE b c4 3).2 7).2).2):=by unfold eK;rw[if_pos h5]
      rw[e]at hs
      exact hs
     apply hW.w (a6)
     conv=>lhs;whnf
     repeat((first|apply hW.t|apply hW.f|(apply hW.q;exact rqc));conv=>lhs;whnf)
     apply hW.w (aQ hE he (aE b c4 3).2 hb 7)
     conv=>lhs;whnf
     repeat((first|apply hW.t|apply hW.f|(apply hW.q;exact rqc));conv=>lhs;whnf)
     apply hW.w (aIz hE he (aE b (aE b c4 3).2 7).2 hb)
     conv=>lhs;whnf
     repeat((first|apply hW.t|apply hW.f|(apply hW.q;exact rqc));conv=>lhs;whnf)
     apply hW.w (mF hE l1 (aE b (aE b c4 3).2 7).1 (iO b (aE b (aE b c4 3).2 7).2).1 (by omega))
     conv=>lhs;whnf
     repeat((first|apply hW.t|apply hW.f|(apply hW.q;exact rqc));conv=>lhs;whnf)
     refine ih (k,aR l1 (aE b (aE b c4 3).2 7).1 (iO b (aE b (aE b c4 3).2 7).2).1,(iO b (aE b (aE b c4 3).2 7).2).2) k _ ?_ ⟨rfl,by omega,by simp only;rw[dY];omega,hs⟩ (by omega)
     intro K
     conv=>lhs;whnf
     conv=>rhs;whnf
     try rfl
     rw[show IntKind.i64.wrap (((k+1:Nat):Int)-1)=(k:Int) from pF (by omega)]
    ·rw[decide_eq_false h5]at a6
     have hs:iT b k (l1,(aE b c4 3).2)=fin:=by
      have e:eK b l1 c4=(l1,(aE b c4 3).2):=by unfold eK;rw[if_neg h5]
      rw[e]at hs
      exact hs
     apply hW.w (a6)
     conv=>lhs;whnf
     repeat((first|apply hW.t|apply hW.f|(apply hW.q;exact rqc));conv=>lhs;whnf)
     refine ih (k,l1,(aE b c4 3).2) k _ ?_ ⟨rfl,by omega,by simp only;omega,hs⟩ (by omega)
     intro K
     conv=>lhs;whnf
     conv=>rhs;whnf
     try rfl
     rw[show IntKind.i64.wrap (((k+1:Nat):Int)-1)=(k:Int) from pF (by omega)]
  ·have g1:m=0:=by have g1:=of_decide_eq_false g1;omega
   subst g1
   have hs:(l,q)=fin:=hs
   repeat((first|apply hW.t|apply hW.f|(apply hW.q;exact rqc));conv=>lhs;whnf)
   rw[← hs]
   rfl
 ·rfl
theorem aCQ (l:aD) (k:Int):bys l++[[.int .u8 (IntKind.u8.wrap k)]]=bys (l++[dX k]):=by
 rw[jP]
 show _=bys l++[[.int .u8 ((dX k).toNat:Int)]]
 rw[gT]
theorem jW {E:Env} (hE:Sys E) {es:List (List T)} {b:aD} (he:es=bys b) (c:Cur) (hb:b.length≤1048576) (k:Nat) (hk:k≤250):∃ (x:aD) (c':Cur),x.length≤k∧E 543 [nH es c,iv k]=some ([ov 1 (bys x)],gU c'):=by
 have hr:=cF b c (n:=(k:Int)+1) (by omega)
 obtain⟨n,hn⟩:=Int.eq_ofNat_of_zero_le hr.1
 have a0:=aQ hE he c hb ((k:Int)+1)
 rw[hn]at a0 hr
 have key:Sat (E 543 [nH es c,iv k]) fun r=>∃ (x:aD) (c':Cur),x.length≤k∧r=([ov 1 (bys x)],gU c'):=by
  refine hE.runS rfl rfl fun W hW=>?_
  conv=>lhs;whnf
  repeat((first|apply hW.t|apply hW.f|(apply hW.q;exact rqc));conv=>lhs;whnf)
  rw[show IntKind.i64.wrap ((k:Int)+1)=(k:Int)+1 from aI (by omega)]
  apply hW.w (a0)
  conv=>lhs;whnf
  repeat((first|apply hW.t|apply hW.f|(apply hW.q;exact rqc));conv=>lhs;whnf)
  refine hW.loop (σ:=Nat × aD × Cur) (γ:=Nat) (fun i s=>((s.sl 6 (v1 (.t (.int .i64 i.1)))).sl 0 (.box true [.blk 0, .t (.int .i64 i.2.2.i), .t (.int .i64 i.2.2.h)])).bl ⟨50500,1, .own,bys i.2.1⟩) (fun i m=>i.1=m∧m≤n∧i.2.1.length+m≤n) (fun m=>m) (n,[],(aE b c ((k:Int)+1)).2) n ?_ ?_ ?_
  ·intro K
   conv=>lhs;whnf
   conv=>rhs;whnf
   try rfl
  ·exact⟨rfl,Nat.le_refl _,by simp⟩
  ·rintro kl ⟨m,l,q⟩ _ ⟨rfl,hm,hl⟩ ih
   simp only at hl hm
   conv=>lhs;whnf
   apply hW.b<;>intro g1<;>conv=>lhs;whnf
   ·have g1:0<m:=by have g1:=of_decide_eq_true g1;omega
    obtain⟨j,rfl⟩:∃ j,m=j+1:=⟨m-1,by omega⟩
    repeat((first|apply hW.t|apply hW.f|(apply hW.q;exact rqc));conv=>lhs;whnf)
    apply hW.w (aDS hE he q hb [97,98,99,0,255] (by decide))
    conv=>lhs;whnf
    repeat((first|apply hW.t|apply hW.f|(apply hW.q;exact rqc));conv=>lhs;whnf)
    have hbl:=cX l
    refine hW.q (by exact⟨by decide,fun e he=>by rw[List.mem_singleton.mp he];rfl,by simp;omega,by simp;omega⟩) ?_
    conv=>lhs;whnf
    repeat((first|apply hW.t|apply hW.f|(apply hW.q;exact rqc));conv=>lhs;whnf)
    refine ih (j,l++[dX (aIy b q [97,98,99,0,255]).1],(aIy b q [97,98,99,0,255]).2) j _ ?_ ⟨rfl,by omega,by simp only[List.length_append,List.length_singleton];omega⟩ (by omega)
    intro K
    conv=>lhs;whnf
    conv=>rhs;whnf
    try rfl
    rw[show IntKind.i64.wrap (((j+1:Nat):Int)-1)=(j:Int) from pF (by omega)]
    rw[← aCQ]
    rfl
   ·repeat((first|apply hW.t|apply hW.f|(apply hW.q;exact rqc));conv=>lhs;whnf)
    exact⟨_,rfl,l,q,by omega,rfl⟩
 obtain⟨r,h1,x,c',h2,rfl⟩:=key
 exact⟨x,c',h2,h1⟩
theorem aIU {E:Env} (hE:Sys E) {es:List (List T)} {b:aD} (he:es=bys b) (c:Cur) (hb:b.length≤1048576):∃ (x:aD) (c':Cur),x.length≤16∧E 546 [nH es c]=some ([ov 1 (bys x)],gU c'):=by
 obtain⟨x,c',hx,a0⟩:=jW hE he c hb 16 (by decide)
 refine⟨x,c',hx,?_⟩
 refine hE.run rfl rfl fun W hW=>?_
 conv=>lhs;whnf
 repeat((first|apply hW.t|apply hW.f|(apply hW.q;exact rqc));conv=>lhs;whnf)
 apply hW.w (a0)
 conv=>lhs;whnf
 repeat((first|apply hW.t|apply hW.f|(apply hW.q;exact rqc));conv=>lhs;whnf)
 rfl
theorem aBA {E:Env} (hE:Sys E) {es:List (List T)} {b:aD} (he:es=bys b) (c:Cur) (hb:b.length≤1048576):∃ (g s:Int) (x:aD) (c':Cur),x.length≤16∧1≤g∧g≤5∧2≤s∧s≤6∧E 545 [nH es c]=some ([gv ((lB g x s).cs eQ),ov 1 (bys x)],gU c'):=by
 obtain⟨x,c1,hx,a0⟩:=aIU hE he c hb
 have a1:=aQ hE he c1 hb 5
 have h1:=cF b c1 (n:=5) (by decide)
 generalize aE b c1 5=q at a1 h1
 obtain⟨g,c2⟩:=q
 simp only at a1 h1
 have a2:=aQ hE he c2 hb 5
 have h2:=cF b c2 (n:=5) (by decide)
 generalize aE b c2 5=q at a2 h2
 obtain⟨s,c3⟩:=q
 simp only at a2 h2
 refine⟨1+g,2+s,x,c3,hx,by omega,by omega,by omega,by omega,?_⟩
 refine hE.run rfl rfl fun W hW=>?_
 conv=>lhs;whnf
 repeat((first|apply hW.t|apply hW.f|(apply hW.q;exact rqc));conv=>lhs;whnf)
 apply hW.w (a0)
 conv=>lhs;whnf
 repeat((first|apply hW.t|apply hW.f|(apply hW.q;exact rqc));conv=>lhs;whnf)
 apply hW.w (a1)
 conv=>lhs;whnf
 repeat((first|apply hW.t|apply hW.f|(apply hW.q;exact rqc));conv=>lhs;whnf)
 apply hW.w (a2)
 conv=>lhs;whnf
 repeat((first|apply hW.t|apply hW.f|(apply hW.q;exact rqc));conv=>lhs;whnf)
 rw[show IntKind.i64.wrap (1+g)=1+g from aI (by omega),show IntKind.i64.wrap (2+s)=2+s from aI (by omega)]
 apply hW.w (aCL hE (1+g) x (2+s) (by omega))
 conv=>lhs;whnf
 repeat((first|apply hW.t|apply hW.f|(apply hW.q;exact rqc));conv=>lhs;whnf)
 rfl
theorem sJ (g:Int) (x:aD) (s:Int):(lB g x s).sums.length≤40:=by
 unfold lB
 split
 ·exact pD _ _
 ·exact Nat.zero_le _
theorem aFq (g s l:Int) (ss:List Sum) (h:ss.length≤41) (c:Cur):∃ (m:Man) (c':Cur),m.sums.length≤41∧([gv [ci g,ci s,ci l, .own 2 (ss.map Sum.row)]],gU c)=([gv (m.cs eQ)],gU c'):=⟨⟨g,s,l,ss⟩,c,h,rfl⟩
theorem aNj (g s l:Int) (ss:List Sum) (h:ss.length≤41) (c:Cur) {aFe:List (List T)} (hr:ss.map Sum.row=aFe):∃ (m:Man) (c':Cur),m.sums.length≤41∧([gv [ci g,ci s,ci l, .own 2 aFe]],gU c)=([gv (m.cs eQ)],gU c'):=⟨⟨g,s,l,ss⟩,c,h,by rw[← hr];rfl⟩
theorem aNk {E:Env} (hE:Sys E) {es:List (List T)} {b:aD} (he:es=bys b) (c:Cur) (hb:b.length≤1048576):∃ (m:Man) (c':Cur),m.sums.length≤41∧E 544 [nH es c]=some ([gv (m.cs eQ)],gU c'):=by
 obtain⟨g,s,x,c1,hx,_,_,_,_,a0⟩:=aBA hE he c hb
 have hl:=sJ g x s
 generalize lB g x s=m at a0 hl
 have hrl:(m.sums.map Sum.row).length=m.sums.length:=List.length_map _
 have key:Sat (E 544 [nH es c]) fun r=>∃ (m:Man) (c':Cur),m.sums.length≤41∧r=([gv (m.cs eQ)],gU c'):=by
  refine hE.runS rfl rfl fun W hW=>?_
  conv=>lhs;whnf
  repeat((first|apply hW.t|apply hW.f|(apply hW.q;exact rqc));conv=>lhs;whnf)
  apply hW.w (a0)
  conv=>lhs;whnf
  repeat((first|apply hW.t|apply hW.f|(apply hW.q;exact rqc));conv=>lhs;whnf)
  apply hW.w (aQ hE he c1 hb 10)
  conv=>lhs;whnf
  repeat((first|apply hW.t|apply hW.f|(apply hW.q;exact rqc));conv=>lhs;whnf)
  apply hW.b<;>intro g1<;>conv=>lhs;whnf
  ·repeat((first|apply hW.t|apply hW.f|(apply hW.q;exact rqc));conv=>lhs;whnf)
   apply hW.w (aDS hE he (aE b c1 10).2 hb [0,-1,1000000,1000001] (by decide))
   conv=>lhs;whnf
   repeat((first|apply hW.t|apply hW.f|(apply hW.q;exact rqc));conv=>lhs;whnf)
   exact⟨_,rfl,aFq _ _ _ _ (by omega) _⟩
  ·apply hW.b<;>intro g2<;>conv=>lhs;whnf
   ·repeat((first|apply hW.t|apply hW.f|(apply hW.q;exact rqc));conv=>lhs;whnf)
    apply hW.w (aDS hE he (aE b c1 10).2 hb [0,1,7] (by decide))
    conv=>lhs;whnf
    repeat((first|apply hW.t|apply hW.f|(apply hW.q;exact rqc));conv=>lhs;whnf)
    exact⟨_,rfl,aFq _ _ _ _ (by omega) _⟩
   ·apply hW.b<;>intro g3<;>conv=>lhs;whnf
    ·repeat((first|apply hW.t|apply hW.f|(apply hW.q;exact rqc));conv=>lhs;whnf)
     exact⟨_,rfl,aFq _ _ _ _ (by omega) _⟩
    ·apply hW.b<;>intro g4<;>conv=>lhs;whnf
     ·refine hW.q (by exact⟨by decide,fun e he=>by rw[List.mem_singleton.mp he];rfl,by simp;omega,by simp;omega⟩) ?_
      conv=>lhs;whnf
      repeat((first|apply hW.t|apply hW.f|(apply hW.q;exact rqc));conv=>lhs;whnf)
      exact⟨_,rfl,aNj _ _ _ (m.sums++[⟨1,257⟩]) (by simp only[List.length_append,List.length_singleton];omega) _ (by rw[List.map_append];rfl)⟩
     ·apply hW.b<;>intro g5<;>conv=>lhs;whnf
      ·cases hs:m.sums with
       |nil =>
        repeat((first|apply hW.t|apply hW.f|(apply hW.q;exact rqc));conv=>lhs;whnf)
        try(apply hW.bf (by first|(exact decide_eq_false (by omega))|(simp;done)|(simp;omega));conv=>lhs;whnf)
        refine⟨_,rfl,⟨m.gen,m.size,m.len,[]⟩,_,by simp,rfl⟩
       |cons y r =>
        have hlen:decide (((((y::r).map Sum.row).length:Nat):Int)>0)=true:=by simp
        apply hW.bt (hlen)
        conv=>lhs;whnf
        repeat((first|apply hW.t|apply hW.f|(apply hW.q;exact rqc));conv=>lhs;whnf)
        repeat'((first|apply hW.t|apply hW.f|(apply hW.q;exact rqc)|apply hW.w ((show((y::r).map Sum.row)[(0:Int).toNat]?=some (Sum.row y) from rfl))|(apply hW.b<;>intro h))<;>conv=>lhs;whnf)
        rw[hs]at hl
        exact⟨_,rfl,aFq _ _ _ (⟨_,y.s⟩::r) (by simp only[List.length_cons]at hl ⊢;omega) _⟩
      ·repeat((first|apply hW.t|apply hW.f|(apply hW.q;exact rqc));conv=>lhs;whnf)
       exact⟨_,rfl,m,_,by omega,rfl⟩
 obtain⟨r,h1,m,c',h2,rfl⟩:=key
 exact⟨m,c',h2,h1⟩
theorem aFr (l:aD) (n:Nat) (k:Int):bys (l.set n (dX k))=(bys l).set n [.int .u8 (IntKind.u8.wrap k)]:=by
 unfold bys
 rw[List.map_set]
 show _=(List.map wI l).set n [.int .u8 (IntKind.u8.wrap k)]
 rw[← gT]
 rfl
theorem qX (n:Nat) (aFe:List (List T)) (x:aD) (hl:x.length≤n) (c:Cur) (hr:bys x=aFe):∃ (x:aD) (c':Cur),x.length≤n∧([sv aFe],gU c)=([sv (bys x)],gU c'):=⟨x,c,hl,by rw[hr]⟩
theorem iJ (n:Nat) (aFe:List (List T)) (x:aD) (hl:x.length≤n) (c:Cur) (hr:bys x=aFe):∃ (x:aD) (c':Cur),x.length≤n∧([ov 1 aFe],gU c)=([ov 1 (bys x)],gU c'):=⟨x,c,hl,by rw[hr]⟩
theorem nP {E:Env} (hE:Sys E) {es:List (List T)} {b:aD} (he:es=bys b) (c:Cur) (hb:b.length≤1048576) (x:aD) (hx:x.length≤1048576):∃ (y:aD) (c':Cur),y.length≤x.length+1∧E 551 [nH es c,sv (bys x)]=some ([ov 1 (bys y)],gU c'):=by
 have hbl:=cX x
 have key:Sat (E 551 [nH es c,sv (bys x)]) fun r=>∃ (y:aD) (c':Cur),y.length≤x.length+1∧r=([ov 1 (bys y)],gU c'):=by
  refine hE.runS rfl rfl fun W hW=>?_
  conv=>lhs;whnf
  repeat((first|apply hW.t|apply hW.f|(apply hW.q;exact rqc));conv=>lhs;whnf)
  refine hW.q (by exact⟨by decide,aX x,by simp;omega,by simp;omega⟩) ?_
  conv=>lhs;whnf
  apply hW.bt (cL x)
  conv=>lhs;whnf
  repeat((first|apply hW.t|apply hW.f|(apply hW.q;exact rqc));conv=>lhs;whnf)
  apply hW.w (aQ hE he c hb 6)
  conv=>lhs;whnf
  repeat((first|apply hW.t|apply hW.f|(apply hW.q;exact rqc));conv=>lhs;whnf)
  apply hW.b<;>intro g1<;>conv=>lhs;whnf
  ·repeat((first|apply hW.t|apply hW.f|(apply hW.q;exact rqc));conv=>lhs;whnf)
   by_cases h0:x.length=0
   ·obtain rfl:=List.eq_nil_of_length_eq_zero h0
    repeat((first|apply hW.t|apply hW.f|(apply hW.q;exact rqc));conv=>lhs;whnf)
    exact⟨_,rfl,iJ _ _ [] (by simp) _ rfl⟩
   ·have hlen:decide ((((bys x).length:Nat):Int)>0)=true:=decide_eq_true (by omega)
    apply hW.bt (hlen)
    conv=>lhs;whnf
    repeat((first|apply hW.t|apply hW.f|(apply hW.q;exact rqc));conv=>lhs;whnf)
    have hr:=cF b (aE b c 6).2 (n:=((bys x).length:Int)) (by omega)
    have a1:=aQ hE he (aE b c 6).2 hb ((bys x).length:Int)
    generalize aE b (aE b c 6).2 ((bys x).length:Int)=q at a1 hr
    obtain⟨j,c2⟩:=q
    simp only at a1 hr
    obtain⟨n,rfl⟩:=Int.eq_ofNat_of_zero_le hr.1
    apply hW.w (a1)
    conv=>lhs;whnf
    repeat((first|apply hW.t|apply hW.f|(apply hW.q;exact rqc));conv=>lhs;whnf)
    apply hW.w (aQ hE he c2 hb 256)
    conv=>lhs;whnf
    repeat((first|apply hW.t|apply hW.f|(apply hW.q;exact rqc));conv=>lhs;whnf)
    have hn:n<x.length:=by omega
    have hget:(bys x)[((n:Nat):Int).toNat]?=some (wI x[n]):=eR hn
    repeat'((first|apply hW.t|apply hW.f|(apply hW.q;exact rqc)|apply hW.w (hget)|(apply hW.b<;>intro h))<;>conv=>lhs;whnf)
    exact⟨_,rfl,iJ _ _ (x.set n (dX (aE b c2 256).1)) (by simp) _ (aFr _ _ _)⟩
  ·apply hW.b<;>intro g2<;>conv=>lhs;whnf
   ·repeat((first|apply hW.t|apply hW.f|(apply hW.q;exact rqc));conv=>lhs;whnf)
    have hr:=cF b (aE b c 6).2 (n:=((bys x).length:Int)+1) (by omega)
    have a1:=aQ hE he (aE b c 6).2 hb (((bys x).length:Int)+1)
    generalize aE b (aE b c 6).2 (((bys x).length:Int)+1)=q at a1 hr
    obtain⟨j,c2⟩:=q
    simp only at a1 hr
    obtain⟨n,rfl⟩:=Int.eq_ofNat_of_zero_le hr.1
    have hw:IntKind.i64.wrap (((bys x).length:Int)+1)=((bys x).length:Int)+1:=aI (by omega)
    rw[← hw]at a1
    apply hW.w (a1)
    conv=>lhs;whnf
    repeat((first|apply hW.t|apply hW.f|(apply hW.q;exact rqc));conv=>lhs;whnf)
    have hle:((n:Nat):Int).toNat≤(bys x).length:=by omega
    refine hW.q (by exact⟨Nat.zero_le _,hle,aX x⟩) ?_
    conv=>lhs;whnf
    repeat((first|apply hW.t|apply hW.f|(apply hW.q;exact rqc));conv=>lhs;whnf)
    refine hW.q (by(show 0+(n-0)≤(bys x).length;omega)) ?_
    conv=>lhs;whnf
    exact⟨_,rfl,iJ _ _ (x.take n) (by simp;omega) _ (aFf _ _).symm⟩
   ·apply hW.b<;>intro g3<;>conv=>lhs;whnf
    ·repeat((first|apply hW.t|apply hW.f|(apply hW.q;exact rqc));conv=>lhs;whnf)
     apply hW.w (aDS hE he (aE b c 6).2 hb [0,1,128,255] (by decide))
     conv=>lhs;whnf
     repeat((first|apply hW.t|apply hW.f|(apply hW.q;exact rqc));conv=>lhs;whnf)
     refine hW.q (by exact⟨by decide,fun e he=>by rw[List.mem_singleton.mp he];rfl,by simp;omega,by simp;omega⟩) ?_
     conv=>lhs;whnf
     repeat((first|apply hW.t|apply hW.f|(apply hW.q;exact rqc));conv=>lhs;whnf)
     exact⟨_,rfl,iJ _ _ (x++[dX (aIy b (aE b c 6).2 [0,1,128,255]).1]) (by simp) _ (aCQ _ _).symm⟩
    ·apply hW.b<;>intro g4<;>conv=>lhs;whnf
     ·repeat((first|apply hW.t|apply hW.f|(apply hW.q;exact rqc));conv=>lhs;whnf)
      by_cases h0:x.length=0
      ·obtain rfl:=List.eq_nil_of_length_eq_zero h0
       repeat((first|apply hW.t|apply hW.f|(apply hW.q;exact rqc));conv=>lhs;whnf)
       exact⟨_,rfl,iJ _ _ [] (by simp) _ rfl⟩
      ·have hlen:decide ((((bys x).length:Nat):Int)>0)=true:=decide_eq_true (by omega)
       apply hW.bt (hlen)
       conv=>lhs;whnf
       repeat((first|apply hW.t|apply hW.f|(apply hW.q;exact rqc));conv=>lhs;whnf)
       have hr:=cF b (aE b c 6).2 (n:=((bys x).length:Int)) (by omega)
       have a1:=aQ hE he (aE b c 6).2 hb ((bys x).length:Int)
       generalize aE b (aE b c 6).2 ((bys x).length:Int)=q at a1 hr
       obtain⟨j,c2⟩:=q
       simp only at a1 hr
       obtain⟨n,rfl⟩:=Int.eq_ofNat_of_zero_le hr.1
       apply hW.w (a1)
       conv=>lhs;whnf
       repeat((first|apply hW.t|apply hW.f|(apply hW.q;exact rqc));conv=>lhs;whnf)
       have hn:n<x.length:=by omega
       have hget:(bys x)[((n:Nat):Int).toNat]?=some (wI x[n]):=eR hn
       have hr8:=cF b c2 (n:=8) (by decide)
       have a2:=aQ hE he c2 hb 8
       generalize aE b c2 8=q at a2 hr8
       obtain⟨m,c3⟩:=q
       simp only at a2 hr8
       repeat'((first|apply hW.t|apply hW.f|(apply hW.q;exact rqc)|apply hW.w (hget)|apply hW.w (a2)|(apply hW.b<;>intro h))<;>conv=>lhs;whnf)
       exact⟨_,rfl,iJ _ _ (x.set n (dX _)) (by simp) _ (aFr _ _ _)⟩
     ·repeat((first|apply hW.t|apply hW.f|(apply hW.q;exact rqc));conv=>lhs;whnf)
      exact⟨_,rfl,iJ _ _ x (by omega) _ rfl⟩
 obtain⟨r,h1,y,c',h2,rfl⟩:=key
 exact⟨y,c',h2,h1⟩
theorem aNl {E:Env} (hE:Sys E) {es:List (List T)} {b:aD} (he:es=bys b) (c:Cur) (hb:b.length≤1048576) (x:aD) (hx:x.length≤1000):∃ (y:aD) (c':Cur),y.length≤1100∧E 550 [nH es c,sv (bys x)]=some ([sv (bys y)],gU c'):=by
 have hbl:=cX x
 have key:Sat (E 550 [nH es c,sv (bys x)]) fun r=>∃ (y:aD) (c':Cur),y.length≤1100∧r=([sv (bys y)],gU c'):=by
  refine hE.runS rfl rfl fun W hW=>?_
  conv=>lhs;whnf
  repeat((first|apply hW.t|apply hW.f|(apply hW.q;exact rqc));conv=>lhs;whnf)
  apply hW.w (aQ hE he c hb 5)
  conv=>lhs;whnf
  repeat((first|apply hW.t|apply hW.f|(apply hW.q;exact rqc));conv=>lhs;whnf)
  apply hW.b<;>intro g1<;>conv=>lhs;whnf
  ·repeat((first|apply hW.t|apply hW.f|(apply hW.q;exact rqc));conv=>lhs;whnf)
   obtain⟨z,c2,hz,a2⟩:=jW hE he (aE b c 5).2 hb 16 (by decide)
   apply hW.w (a2)
   conv=>lhs;whnf
   repeat((first|apply hW.t|apply hW.f|(apply hW.q;exact rqc));conv=>lhs;whnf)
   exact⟨_,rfl,qX _ _ z (by omega) _ rfl⟩
  ·apply hW.b<;>intro g2<;>conv=>lhs;whnf
   ·repeat((first|apply hW.t|apply hW.f|(apply hW.q;exact rqc));conv=>lhs;whnf)
    refine hW.q (by exact⟨by decide,aX x,by simp;omega,by simp;omega⟩) ?_
    conv=>lhs;whnf
    apply hW.bt (cL x)
    conv=>lhs;whnf
    repeat((first|apply hW.t|apply hW.f|(apply hW.q;exact rqc));conv=>lhs;whnf)
    exact⟨_,rfl,qX _ _ x (by omega) _ rfl⟩
   ·apply hW.b<;>intro g3<;>conv=>lhs;whnf
    ·repeat((first|apply hW.t|apply hW.f|(apply hW.q;exact rqc));conv=>lhs;whnf)
     have hr:=cF b (aE b c 5).2 (n:=((bys x).length:Int)+1) (by omega)
     have a1:=aQ hE he (aE b c 5).2 hb (((bys x).length:Int)+1)
     generalize aE b (aE b c 5).2 (((bys x).length:Int)+1)=q at a1 hr
     obtain⟨j,c2⟩:=q
     simp only at a1 hr
     obtain⟨n,rfl⟩:=Int.eq_ofNat_of_zero_le hr.1
     have hw:IntKind.i64.wrap (((bys x).length:Int)+1)=((bys x).length:Int)+1:=aI (by omega)
     rw[← hw]at a1
     apply hW.w (a1)
     conv=>lhs;whnf
     repeat((first|apply hW.t|apply hW.f|(apply hW.q;exact rqc));conv=>lhs;whnf)
     have hle:((n:Nat):Int).toNat≤(bys x).length:=by omega
     refine hW.q (by exact⟨hle,Nat.le_refl _,aX x⟩) ?_
     conv=>lhs;whnf
     repeat((first|apply hW.t|apply hW.f|(apply hW.q;exact rqc));conv=>lhs;whnf)
     refine hW.q (by exact⟨Nat.zero_le _,hle,aX x⟩) ?_
     conv=>lhs;whnf
     repeat((first|apply hW.t|apply hW.f|(apply hW.q;exact rqc));conv=>lhs;whnf)
     have hq1:(List.take ((bys x).length-((n:Nat):Int).toNat) (List.drop ((n:Nat):Int).toNat (bys x))).length≤1000:=by rw[List.length_take,List.length_drop];omega
     refine hW.q (by exact⟨by decide,fun e he=>aX x e (List.mem_of_mem_drop (List.mem_of_mem_take he)),by change (1+List.length _)*1≤140737488355328;omega,by change 1+List.length _≤140737488355328;omega⟩) ?_
     conv=>lhs;whnf
     repeat((first|apply hW.t|apply hW.f|(apply hW.q;exact rqc));conv=>lhs;whnf)
     apply hW.bt (List.all_eq_true.mpr fun e he=>List.all_eq_true.mp (cL x) e (List.mem_of_mem_drop (List.mem_of_mem_take he)))
     conv=>lhs;whnf
     repeat((first|apply hW.t|apply hW.f|(apply hW.q;exact rqc));conv=>lhs;whnf)
     have hq2:(List.take (((n:Nat):Int).toNat-0) (List.drop 0 (bys x))).length≤1000:=by rw[List.length_take,List.length_drop];omega
     have hq3:([[T.int IntKind.u8 120]]++List.take ((bys x).length-((n:Nat):Int).toNat) (List.drop ((n:Nat):Int).toNat (bys x))).length+(List.take (((n:Nat):Int).toNat-0) (List.drop 0 (bys x))).length≤140737488355328:=by
      rw[List.length_append,List.length_singleton];omega
     refine hW.q (by exact⟨by decide,fun e he=>aX x e (List.mem_of_mem_drop (List.mem_of_mem_take he)),by rw[Nat.mul_one];exact hq3,hq3⟩) ?_
     conv=>lhs;whnf
     repeat((first|apply hW.t|apply hW.f|(apply hW.q;exact rqc));conv=>lhs;whnf)
     apply hW.bt (List.all_eq_true.mpr fun e he=>List.all_eq_true.mp (cL x) e (List.mem_of_mem_drop (List.mem_of_mem_take he)))
     conv=>lhs;whnf
     repeat((first|apply hW.t|apply hW.f|(apply hW.q;exact rqc));conv=>lhs;whnf)
     exact⟨_,rfl,qX _ _ (([120]++List.take ((bys x).length-n) (x.drop n))++List.take (n-0) (x.drop 0)) (by simp only[List.length_append,List.length_singleton,List.length_take,List.length_drop];omega) _ (by simp only[bys,List.map_append,List.map_take,List.map_drop,List.map_cons,List.map_nil];rfl)⟩
    ·apply hW.b<;>intro g4<;>conv=>lhs;whnf
     ·repeat((first|apply hW.t|apply hW.f|(apply hW.q;exact rqc));conv=>lhs;whnf)
      exact⟨_,rfl,qX _ _ [] (by simp) _ rfl⟩
     ·repeat((first|apply hW.t|apply hW.f|(apply hW.q;exact rqc));conv=>lhs;whnf)
      obtain⟨z,c2,hz,a2⟩:=jW hE he (aE b c 5).2 hb 3 (by decide)
      apply hW.w (a2)
      conv=>lhs;whnf
      repeat((first|apply hW.t|apply hW.f|(apply hW.q;exact rqc));conv=>lhs;whnf)
      obtain⟨y,c3,hy,a3⟩:=nP hE he c2 hb x (by omega)
      apply hW.w (a3)
      conv=>lhs;whnf
      repeat((first|apply hW.t|apply hW.f|(apply hW.q;exact rqc));conv=>lhs;whnf)
      have hzl:=cX z
      have hyl:=cX y
      refine hW.q (by exact⟨by decide,aX y,by simp only[hzl,hyl];omega,by simp only[hzl,hyl];omega⟩) ?_
      conv=>lhs;whnf
      repeat((first|apply hW.t|apply hW.f|(apply hW.q;exact rqc));conv=>lhs;whnf)
      apply hW.bt (cL y)
      conv=>lhs;whnf
      repeat((first|apply hW.t|apply hW.f|(apply hW.q;exact rqc));conv=>lhs;whnf)
      exact⟨_,rfl,qX _ _ (z++y) (by simp;omega) _ (jP _ _)⟩
 obtain⟨r,h1,y,c',h2,rfl⟩:=key
 exact⟨y,c',h2,h1⟩
def mT (l:List Int):Prop:=l.length≤7∧1≤l.length∧l[0]?=some (-1)∧∀ (i:Nat) (x:Int),0<i→l[i]?=some x→0≤x∧x<i
theorem aAq {l:List Int} {x:Int} (h:mT l) (hl:l.length≤6) (h0:0≤x) (h1:x<l.length):mT (l++[x]):=by
 obtain⟨a,b,c,d⟩:=h
 refine⟨by simp;omega,by simp,by rw[List.getElem?_append_left (by omega)];exact c,fun i y hi hy=>?_⟩
 by_cases hil:i<l.length
 ·rw[List.getElem?_append_left hil]at hy
  exact d i y hi hy
 ·rw[List.getElem?_append_right (by omega)]at hy
  by_cases hi2:i=l.length
  ·subst hi2
   simp at hy
   subst hy
   exact⟨h0,h1⟩
  ·rw[List.getElem?_eq_none (by simp;omega)]at hy
   cases hy
theorem aLf {t:Tree} (h:mT t.up) {k:Nat} (hk:0<k) (hl:k<t.up.length):2≤(mS t k).length:=by
 obtain⟨a,b,c,d⟩:=h
 have:=d k _ hk (List.getElem?_eq_getElem hl)
 unfold mS
 obtain⟨n,hn⟩:∃ n,t.up.length=n+1+1:=⟨t.up.length-2,by omega⟩
 rw[hn]
 have e1:bK (k:Int) 0 ((t.up.length:Int)-1)=true:=by simp[bK];omega
 have e2:bK t.up[k] 0 ((t.up.length:Int)-1)=true:=by simp[bK];omega
 have e3:t.up.getD (k:Int).toNat 0=t.up[k]:=by rw[Int.toNat_natCast,List.getD_eq_getElem?_getD,List.getElem?_eq_getElem hl];rfl
 rw[uI,if_pos e1,e3,uI,if_pos e2]
 simp
theorem aIV {E:Env} (hE:Sys E) {es:List (List T)} {b:aD} (he:es=bys b) (c:Cur) (hb:b.length≤1048576):∃ (t:Tree) (c':Cur),mT t.up∧E 547 [nH es c]=some ([gv (t.cs aN)],gU c'):=by
 have key:Sat (E 547 [nH es c]) fun r=>∃ (t:Tree) (c':Cur),mT t.up∧r=([gv (t.cs aN)],gU c'):=by
  refine hE.runS rfl rfl fun W hW=>?_
  conv=>lhs;whnf
  repeat((first|apply hW.t|apply hW.f|(apply hW.q;exact rqc));conv=>lhs;whnf)
  refine hW.loop (σ:=Nat × List Int × Cur) (γ:=Nat) (fun i s=>((s.sl 4 (v1 (.t (.int .i64 i.1)))).sl 0 (.box true [.blk 0, .t (.int .i64 i.2.2.i), .t (.int .i64 i.2.2.h)])).bl ⟨50300,1, .own,cG i.2.1⟩) (fun i m=>i.1+m=8∧i.2.1.length=i.1∧mT i.2.1) (fun m=>m) (1,[-1],c) 7 ?_ ?_ ?_
  ·intro K
   conv=>lhs;whnf
   conv=>rhs;whnf
   try rfl
  ·exact⟨rfl,rfl,(by decide:([-1]:List Int).length≤7),(by decide:1≤([-1]:List Int).length),rfl,fun i x hi hx=>by rw[List.getElem?_eq_none (by simp;omega)]at hx;cases hx⟩
  ·rintro kl ⟨k,l,q⟩ m ⟨hk,hl,ht⟩ ih
   simp only at hk hl ht
   have hil:(cG l).length=l.length:=List.length_map _
   conv=>lhs;whnf
   repeat((first|apply hW.t|apply hW.f|(apply hW.q;exact rqc));conv=>lhs;whnf)
   have h7:=cF b q (n:=7) (by decide)
   have a0:=aQ hE he q hb 7
   generalize aE b q 7=u at a0 h7
   obtain⟨v,q1⟩:=u
   simp only at a0 h7
   apply hW.w (a0)
   conv=>lhs;whnf
   repeat((first|apply hW.t|apply hW.f|(apply hW.q;exact rqc));conv=>lhs;whnf)
   rw[show IntKind.i64.wrap (1+v)=1+v from aI (by omega)]
   apply hW.b<;>intro g1<;>conv=>lhs;whnf
   ·have g1:k<1+v:=of_decide_eq_true g1
    obtain⟨m,rfl⟩:∃ n,m=n+1:=⟨m-1,by omega⟩
    have hk1:1≤k:=by have:=ht.2.1;omega
    repeat((first|apply hW.t|apply hW.f|(apply hW.q;exact rqc));conv=>lhs;whnf)
    rw[show IntKind.i64.wrap ((k:Int)-1)=(k:Int)-1 from aI (by omega)]
    have a1:=eF hE he q1 hb 2
    generalize aE b q1 2=u at a1
    obtain⟨w,q2⟩:=u
    simp only at a1
    apply hW.w (a1)
    conv=>lhs;whnf
    repeat((first|apply hW.t|apply hW.f|(apply hW.q;exact rqc));conv=>lhs;whnf)
    apply hW.b<;>intro g2<;>conv=>lhs;whnf
    ·repeat((first|apply hW.t|apply hW.f|(apply hW.q;exact rqc));conv=>lhs;whnf)
     have hr:=cF b q2 (n:=(k:Int)) (by omega)
     have a2:=aQ hE he q2 hb (k:Int)
     generalize aE b q2 (k:Int)=u at a2 hr
     obtain⟨y,q3⟩:=u
     simp only at a2 hr
     apply hW.w (a2)
     conv=>lhs;whnf
     repeat((first|apply hW.t|apply hW.f|(apply hW.q;exact rqc));conv=>lhs;whnf)
     refine hW.q (by exact⟨by decide,fun e he=>by rw[List.mem_singleton.mp he];rfl,by simp;omega,by simp;omega⟩) ?_
     conv=>lhs;whnf
     repeat((first|apply hW.t|apply hW.f|(apply hW.q;exact rqc));conv=>lhs;whnf)
     refine ih (k+1,l++[y],q3) m _ ?_ ⟨by simp only;omega,by simp;omega,aAq ht (by omega) (by omega) (by omega)⟩ (by omega)
     intro K
     conv=>lhs;whnf
     conv=>rhs;whnf
     try rfl
     rw[show IntKind.i64.wrap ((k:Int)+1)=_ from aL (by omega),show cG (l++[y])=cG l++[[ti y]] from by simp[cG,rD]]
     rfl
    ·repeat((first|apply hW.t|apply hW.f|(apply hW.q;exact rqc));conv=>lhs;whnf)
     refine hW.q (by exact⟨by decide,fun e he=>by rw[List.mem_singleton.mp he];rfl,by simp;omega,by simp;omega⟩) ?_
     conv=>lhs;whnf
     repeat((first|apply hW.t|apply hW.f|(apply hW.q;exact rqc));conv=>lhs;whnf)
     refine ih (k+1,l++[(k:Int)-1],q2) m _ ?_ ⟨by simp only;omega,by simp;omega,aAq ht (by omega) (by omega) (by omega)⟩ (by omega)
     intro K
     conv=>lhs;whnf
     conv=>rhs;whnf
     try rfl
     rw[show IntKind.i64.wrap ((k:Int)+1)=_ from aL (by omega),show cG (l++[(k:Int)-1])=cG l++[[ti ((k:Int)-1)]] from by simp[cG,rD]]
     rfl
   ·repeat((first|apply hW.t|apply hW.f|(apply hW.q;exact rqc));conv=>lhs;whnf)
    exact⟨_,rfl,⟨l⟩,_,ht,rfl⟩
 obtain⟨r,h1,t,c',h2,rfl⟩:=key
 exact⟨t,c',h2,h1⟩
def aOD (a b:Int):Int:=IntKind.i64.wrap (BitVec.ofInt IntKind.i64.bits a &&& BitVec.ofInt IntKind.i64.bits b).toNat
def cW (l:List Kid) (id have_:Int):Int :=
 match l[(fB l id).toNat]? with
 |none=>0
 |some x=>if fB l id<0∨bN have_=false∨bN x.want=false∨bN x.sent=false then 0 else rY (aOD x.want have_) x.sent
theorem xI {l:List Kid} {id h:Int} (hk:fB l id<0):cW l id h=0:=by
 unfold cW;split
 ·rfl
 ·rw[if_pos (.inl hk)]
theorem aAr {l:List Kid} {id h:Int} {n:Nat} (hn:n<l.length) (hk:fB l id=n):cW l id h=if bN h=false∨bN l[n].want=false∨bN l[n].sent=false then 0 else rY (aOD l[n].want h) l[n].sent:=by
 unfold cW
 rw[hk,Int.toNat_natCast,List.getElem?_eq_getElem hn]
 simp only[show ¬ ((n:Int)<0) from by omega,false_or]
theorem qY {E:Env} (hE:Sys E) (l:List Kid) (id h:Int) (h0:l.length≤1099511627776):E 290 [sv (l.map Kid.row),iv id,iv h]=some ([iv (cW l id h)],[]):=by
 refine hE.run rfl rfl fun W hW=>?_
 conv=>lhs;whnf
 apply hW.w (mC hE l id h0)
 conv=>lhs;whnf
 repeat((first|apply hW.t|apply hW.f|(apply hW.q;exact rqc));conv=>lhs;whnf)
 apply hW.b<;>intro h1<;>conv=>lhs;whnf
 ·have h1:fB l id<0:=by simpa using h1
  rw[xI h1]
  repeat((first|apply hW.t|apply hW.f|(apply hW.q;exact rqc));conv=>lhs;whnf)
  rfl
 ·obtain⟨n,hn,hk⟩:=kN (l:=l) (id:=id) (by simpa using h1)
  rw[aAr hn hk,hk]
  repeat((first|apply hW.t|apply hW.f|(apply hW.q;exact rqc));conv=>lhs;whnf)
  apply hW.w (cP hE h)
  conv=>lhs;whnf
  repeat((first|apply hW.t|apply hW.f|(apply hW.q;exact rqc));conv=>lhs;whnf)
  apply hW.b<;>intro h2<;>conv=>lhs;whnf
  ·repeat((first|apply hW.t|apply hW.f|(apply hW.q;exact rqc));conv=>lhs;whnf)
   rw[if_pos (.inl (uD h2))];rfl
  ·repeat((first|apply hW.t|apply hW.f|(apply hW.q;exact rqc)|(refine hW.w (eR ?_) ?_;omega));conv=>lhs;whnf)
   apply hW.w (cP hE l[n].want)
   conv=>lhs;whnf
   repeat((first|apply hW.t|apply hW.f|(apply hW.q;exact rqc));conv=>lhs;whnf)
   apply hW.b<;>intro h3<;>conv=>lhs;whnf
   ·repeat((first|apply hW.t|apply hW.f|(apply hW.q;exact rqc));conv=>lhs;whnf)
    rw[if_pos (.inr (.inl (uD h3)))];rfl
   ·repeat((first|apply hW.t|apply hW.f|(apply hW.q;exact rqc)|(refine hW.w (eR ?_) ?_;omega));conv=>lhs;whnf)
    apply hW.w (cP hE l[n].sent)
    conv=>lhs;whnf
    repeat((first|apply hW.t|apply hW.f|(apply hW.q;exact rqc));conv=>lhs;whnf)
    apply hW.b<;>intro h4<;>conv=>lhs;whnf
    ·repeat((first|apply hW.t|apply hW.f|(apply hW.q;exact rqc));conv=>lhs;whnf)
     rw[if_pos (.inr (.inr (uD h4)))];rfl
    ·rw[if_neg (by rw[mH h2,mH h3,mH h4];decide)]
     repeat((first|apply hW.t|apply hW.f|(apply hW.q;exact rqc)|(refine hW.w (eR ?_) ?_;omega));conv=>lhs;whnf)
     rfl
theorem zE {E:Env} (hE:Sys E) (s:Int):E 432 [iv s]=some ([ov 1 (cG (dL s))],[]):=by
 refine hE.run rfl rfl fun W hW=>?_
 conv=>lhs;whnf
 refine hW.loop (σ:=Nat × List Int) (γ:=Nat) (fun i s=>(s.sl 4 (v1 (.t (.int .i64 i.1)))).bl ⟨50300,1, .own,cG i.2⟩) (fun i m=>i.1=m∧m≤40∧i.2.length≤m∧i.2++jQ s m (40-m)=dL s) (fun m=>40-m) (fun _=>([ov 1 (cG (dL s))],[])) (0,[]) 0 ?_ ?_ ?_ ?_
 ·intro K
  conv=>lhs;whnf
  conv=>rhs;whnf
  try rfl
 ·exact⟨rfl,by omega,by simp,rfl⟩
 ·rintro kl ⟨m,acc⟩ _ ⟨rfl,hm,hl,hs⟩ ih
  simp only at hs hm hl
  conv=>lhs;whnf
  apply hW.b<;>intro h1<;>conv=>lhs;whnf
  ·have h1:m<40:=by
    have:(m:Int)<40:=by simpa using h1
    omega
   rw[show 40-m=(40-(m+1))+1 from by omega,jQ]at hs
   repeat((first|apply hW.t|apply hW.f|(apply hW.q;exact rqc));conv=>lhs;whnf)
   apply hW.w (mI hE s m)
   conv=>lhs;whnf
   try(apply hW.q;exact rqc;conv=>lhs;whnf)
   apply hW.b<;>intro h3<;>conv=>lhs;whnf
   ·rw[if_pos h3]at hs
    repeat((first|apply hW.t|apply hW.f|(apply hW.q;exact rqc));conv=>lhs;whnf)
    refine hW.q (by exact⟨by decide,by intro e he;simp at he;subst he;rfl,by simp[cG];omega,by simp[cG];omega⟩) ?_
    conv=>lhs;whnf
    repeat((first|apply hW.t|apply hW.f|(apply hW.q;exact rqc));conv=>lhs;whnf)
    refine ih (m+1,acc++[(m:Int)]) (m+1) _ ?_ ⟨rfl,by omega,by simp;omega,by simpa using hs⟩ (by omega)
    intro K
    conv=>lhs;whnf
    conv=>rhs;whnf
    try rfl
    rw[show IntKind.i64.wrap ((m:Int)+1)=_ from aL (by omega)]
    simp[cG,rD]
   ·rw[if_neg (by rw[h3];decide)]at hs
    repeat((first|apply hW.t|apply hW.f|(apply hW.q;exact rqc));conv=>lhs;whnf)
    refine ih (m+1,acc) (m+1) _ ?_ ⟨rfl,by omega,by simp only;omega,hs⟩ (by omega)
    intro K
    conv=>lhs;whnf
    conv=>rhs;whnf
    try rfl
    rw[show IntKind.i64.wrap ((m:Int)+1)=_ from aL (by omega)]
    try rfl
  ·have:m=40:=by
    have:¬ (m:Int)<40:=by simpa using h1
    omega
   subst this
   simp only[Nat.sub_self,jQ,List.append_nil]at hs
   repeat((first|apply hW.t|apply hW.f|(apply hW.q;exact rqc));conv=>lhs;whnf)
   rw[← hs];rfl
 ·rfl
def gG (m:Man) (x:Bld) (i:Int):Bool:=fI m x&&dF x.hav i
def mU (m:Man) (x:Bld) (i:Int):aD:=if gG m x i=true then lL x.buf m.size i else[]
theorem aGC {a b:Nat} (ha:a<1099511627776) (hb:b<1099511627776) (h:rY a b=0) {i:Nat} (hi:a.testBit i=true):b.testBit i=true:=by
 unfold rY at h
 have e:(BitVec.ofInt IntKind.i64.bits (a:Int) &&& ~~~BitVec.ofInt IntKind.i64.bits (b:Int)).toNat≤a:=by
  rw[BitVec.toNat_and,BitVec.ofInt_natCast,BitVec.toNat_ofNat]
  refine Nat.le_trans Nat.and_le_left (Nat.mod_le _ _)
 rw[show IntKind.i64.wrap (((BitVec.ofInt IntKind.i64.bits (a:Int) &&& ~~~BitVec.ofInt IntKind.i64.bits (b:Int)).toNat:Nat):Int)=(((BitVec.ofInt IntKind.i64.bits (a:Int) &&& ~~~BitVec.ofInt IntKind.i64.bits (b:Int)).toNat:Nat):Int) from aI (by omega)]at h
 have h:(BitVec.ofInt IntKind.i64.bits (a:Int) &&& ~~~BitVec.ofInt IntKind.i64.bits (b:Int)).toNat=0:=by omega
 have hz:BitVec.ofInt IntKind.i64.bits (a:Int) &&& ~~~BitVec.ofInt IntKind.i64.bits (b:Int)=0#_:=by
  apply BitVec.eq_of_toNat_eq;rw[h];simp
 have hlt:i<40:=by
  by_cases h:i<40
  ·exact h
  ·exfalso
   have:a.testBit i=false:=Nat.testBit_lt_two_pow (Nat.lt_of_lt_of_le ha (show 2 ^ 40≤2 ^ i from Nat.pow_le_pow_right (by decide) (by omega)))
   rw[this]at hi;cases hi
 have hg:=congrArg (fun v=>v.getLsbD i) hz
 simp only[BitVec.getLsbD_and,BitVec.getLsbD_not,BitVec.getLsbD_zero,BitVec.ofInt_natCast,BitVec.getLsbD_ofNat]at hg
 have hb64:i<IntKind.i64.bits:=by simp only[IntKind.bits];omega
 simp[hb64,hi]at hg
 exact hg
theorem aLg {m:Man} {x:Bld} {i:Int} (h:gG m x i=true):∃ n:Nat,i=n∧n<m.sums.length∧n<40∧(x.buf.length:Int)=m.len∧aV m=true∧bN x.hav=true:=by
 unfold gG at h
 simp only[Bool.and_eq_true]at h
 obtain⟨h1,h2⟩:=h
 unfold fI at h1
 simp only[Bool.and_eq_true,decide_eq_true_eq]at h1
 obtain⟨h3,h4,h5,h6,h7⟩:=h1
 have h2':=h2
 unfold dF at h2'
 simp only[Bool.and_eq_true]at h2'
 have hi:=bU h2'.2.1
 have hc:=(dV h3).1
 obtain⟨n,rfl⟩:∃ n:Nat,i=n:=⟨i.toNat,by omega⟩
 have h4':=h4
 unfold bN at h4'
 have hv:=bU h4'
 obtain⟨v,hv'⟩:∃ v:Nat,x.hav=v:=⟨x.hav.toNat,by omega⟩
 have hap:dQ m=((2 ^ m.sums.length-1:Nat):Int)∧(2 ^ m.sums.length-1:Nat)<1099511627776:=by
  unfold dQ nJ
  rw[if_pos (by simp only[bK,Bool.and_eq_true,decide_eq_true_eq];omega)]
  generalize hn:m.sums.length=k at hc
  have hp:2 ^ k≤2 ^ 40:=Nat.pow_le_pow_right (by decide) (by omega)
  have h40:(2:Nat) ^ 40=1099511627776:=by decide
  have h1:1≤2 ^ k:=Nat.one_le_two_pow
  rw[show min ((k:Int).toNat) IntKind.i64.bits=k from by simp only[IntKind.bits];omega,show(1:Int)*2 ^ k=((2 ^ k:Nat):Int) from by push_cast;omega]
  generalize 2 ^ k=p at hp h1 ⊢
  rw[show IntKind.i64.wrap (p:Int)=p from aI (by omega),show IntKind.i64.wrap ((p:Int)-1)=(p:Int)-1 from aI (by omega)]
  omega
 rw[hap.1,hv']at h5
 rw[hv',xA (by omega) (by omega)]at h2
 have:=aGC (by omega) hap.2 h5 h2
 rw[Nat.testBit_two_pow_sub_one]at this
 exact⟨n,rfl,by simpa using this,by omega,h6,h3,h4⟩
theorem aNm {m:Man} {x:Bld} {n:Nat} (h:(x.buf.length:Int)=m.len):lL x.buf m.size n=(x.buf.drop (bP m.size m.len n).toNat).take (bA m.size m.len n).toNat:=by unfold lL;rw[h]
theorem oK {E:Env} (hE:Sys E) (m:Man) (x:Bld) (i:Int) (hm:m.sums.length≤1048576) (hx:x.buf.length≤1048576):E 425 [gv (m.cs aN),gv (x.cs aN),iv i]=some ([ov 1 (bys (mU m x i)),bv (gG m x i)],[]):=by
 have a1:=oI hE m x hm hx
 have a2:=dG hE x.hav i
 unfold mU
 cases h:gG m x i
 ·have h':=h
  unfold gG at h'
  rw[Bool.and_eq_false_iff]at h'
  cases h1:fI m x
  ·rw[h1]at a1
   refine hE.run rfl rfl fun W hW=>?_
   conv=>lhs;whnf
   repeat'((first|apply hW.t|apply hW.f|(apply hW.q;exact rqc)|apply hW.w (a1)|(apply hW.b<;>intro h))<;>conv=>lhs;whnf)
   rfl
  ·have h2:dF x.hav i=false:=by rcases h' with h'|h';(rw[h1]at h';cases h');exact h'
   rw[h1]at a1
   rw[h2]at a2
   refine hE.run rfl rfl fun W hW=>?_
   conv=>lhs;whnf
   repeat'((first|apply hW.t|apply hW.f|(apply hW.q;exact rqc)|apply hW.w (a1)|apply hW.w (a2)|(apply hW.b<;>intro h))<;>conv=>lhs;whnf)
   rfl
 ·obtain⟨n,rfl,h1,h2,h3,h4,h5⟩:=aLg h
  have h':=h
  unfold gG at h'
  simp only[Bool.and_eq_true]at h'
  rw[h'.1]at a1
  rw[h'.2]at a2
  have hs:=iZ (size:=m.size) (n:=m.len) (i:=n)
  obtain⟨a,ha⟩:∃ a:Nat,bP m.size m.len n=a:=⟨(bP m.size m.len n).toNat,by omega⟩
  obtain⟨w,hw⟩:∃ w:Nat,bA m.size m.len n=w:=⟨(bA m.size m.len n).toNat,by omega⟩
  have hk:=aNm (m:=m) (x:=x) (n:=n) h3
  rw[ha,hw,Int.toNat_natCast,Int.toNat_natCast]at hk
  refine hE.run rfl rfl fun W hW=>?_
  conv=>lhs;whnf
  apply hW.w (a1)
  conv=>lhs;whnf
  repeat((first|apply hW.t|apply hW.f|(apply hW.q;exact rqc));conv=>lhs;whnf)
  apply hW.w (a2)
  conv=>lhs;whnf
  repeat((first|apply hW.t|apply hW.f|(apply hW.q;exact rqc));conv=>lhs;whnf)
  apply hW.w (mQ hE m x n a w ha hw (by omega) hx)
  conv=>lhs;whnf
  repeat((first|apply hW.t|apply hW.f|(apply hW.q;exact rqc));conv=>lhs;whnf)
  rw[iG,← hk]
  apply hW.w (cM hE (lL x.buf m.size n) (by have:=nM x.buf m.size n;omega))
  conv=>lhs;whnf
  repeat((first|apply hW.t|apply hW.f|(apply hW.q;exact rqc));conv=>lhs;whnf)
  rfl
def dM (gen i:Int) (b:aD):Msg:=⟨3,gen,⟨0,0,0,[]⟩,0,0,i,b⟩
theorem dC {E:Env} (hE:Sys E) (gen i:Int) (b:aD) (hb:b.length≤1073741824):E 421 [iv gen,iv i,sv (bys b)]=some ([gv ((dM gen i b).cs eQ)],[]):=by
 refine hE.run rfl rfl fun W hW=>?_
 conv=>lhs;whnf
 repeat((first|apply hW.t|apply hW.f|(apply hW.q;exact rqc));conv=>lhs;whnf)
 refine hW.q (by exact⟨by decide,aX _,by simp[bys];omega,by simp[bys];omega⟩) ?_
 conv=>lhs;whnf
 apply hW.bt (cL _)
 conv=>lhs;whnf
 repeat((first|apply hW.t|apply hW.f|(apply hW.q;exact rqc));conv=>lhs;whnf)
 rfl
theorem oL {E:Env} (hE:Sys E) (gen i:Int) (b:aD) (hb:b.length≤1073741824):E 426 [iv gen,iv i,sv (bys b)]=some ([gv ((dM gen i b).cs eQ)],[]):=by
 refine hE.run rfl rfl fun W hW=>?_
 conv=>lhs;whnf
 apply hW.w (cM hE b (by omega))
 conv=>lhs;whnf
 repeat((first|apply hW.t|apply hW.f|(apply hW.q;exact rqc));conv=>lhs;whnf)
 rfl
def aCR (n:Node) (k id i:Int):List Pkt:=if gG n.man n.bld i=true then[cT k id (dM n.man.gen i (mU n.man n.bld i))] else[]
def aBB (n:Node) (k id:Int) (l:List Int):List Pkt:=l.flatMap (aCR n k id)
def fZ (n:Node) (id:Int):Int:=cW n.kids id n.bld.hav
def bB (n:Node) (k id:Int):Actn:=⟨{ n with kids:=aR n.kids id (fZ n id) },aBB n k id (dL (fZ n id))⟩
theorem oM {E:Env} (hE:Sys E) (n:Node):E 72 [gv (n.cs aN)]=some ([iv (aM7 n)],[]):=by
 refine hE.run rfl rfl fun W hW=>?_
 conv=>lhs;whnf
 rfl
theorem nQ (m:Man) (x:Bld) (i:Int):(mU m x i).length≤x.buf.length:=by
 unfold mU
 split
 ·exact nM x.buf m.size i
 ·exact Nat.zero_le _
theorem aGD (n:Node) (k id i:Int):(aCR n k id i).length≤1:=by
 unfold aCR;split<;>simp
theorem aIW (n:Node) (k id:Int) (l:List Int):(aBB n k id l).length≤l.length:=by
 unfold aBB
 induction l with
 |nil=>simp
 |cons a r ih =>
  have:=aGD n k id a
  simp only[List.flatMap_cons,List.length_append,List.length_cons];omega
theorem uJ {E:Env} (hE:Sys E) (n:Node) (k id:Int) (hn:n.limk):E 431 [gv (n.cs aN),iv k,iv id]=some ([gv ((bB n k id).cs eQ true)],[]):=by
 have hp:=mL (s:=fZ n id)
 have hrl:(cG (dL (fZ n id))).length=(dL (fZ n id)).length:=List.length_map _
 have hrk:(n.kids.map Kid.row).length=n.kids.length:=List.length_map _
 refine hE.run rfl rfl fun W hW=>?_
 conv=>lhs;whnf
 apply hW.w (cS hE n hn.l8)
 conv=>lhs;whnf
 repeat((first|apply hW.t|apply hW.f|(apply hW.q;exact rqc));conv=>lhs;whnf)
 apply hW.w (oM hE n)
 conv=>lhs;whnf
 repeat((first|apply hW.t|apply hW.f|(apply hW.q;exact rqc));conv=>lhs;whnf)
 apply hW.w (qY hE n.kids id n.bld.hav (Nat.le_trans hn.2.2 (by decide)))
 conv=>lhs;whnf
 repeat((first|apply hW.t|apply hW.f|(apply hW.q;exact rqc));conv=>lhs;whnf)
 apply hW.w (yQ hE (fZ n id))
 conv=>lhs;whnf
 repeat((first|apply hW.t|apply hW.f|(apply hW.q;exact rqc));conv=>lhs;whnf)
 rw[hrl]
 generalize hP:dL (fZ n id)=l at hp hrl
 refine hW.loop (σ:=Nat × List Pkt) (γ:=Nat) (fun i s=>(s.sl 25 (v1 (.t (.int .i64 i.1)))).bl ⟨50712,3, .own,i.2.map (Pkt.row true)⟩) (fun i m=>i.1=m∧m≤l.length∧i.2.length≤m∧i.2++aBB n k id (l.drop m)=aBB n k id l) (fun m=>l.length-m) (fun _=>([gv ((bB n k id).cs eQ true)],[])) (0,[]) 0 ?_ ?_ ?_ ?_
 ·intro K
  conv=>lhs;whnf
  conv=>rhs;whnf
  try rfl
 ·exact⟨rfl,by omega,by simp,rfl⟩
 ·rintro kl ⟨m,acc⟩ _ ⟨rfl,hm,hl,hs⟩ ih
  simp only at hs hm hl
  conv=>lhs;whnf
  apply hW.b<;>intro h1<;>conv=>lhs;whnf
  ·have h1:m<l.length:=by simpa using h1
   rw[List.drop_eq_getElem_cons h1,aBB,List.flatMap_cons,aCR]at hs
   repeat((first|apply hW.t|apply hW.f|(apply hW.q;exact rqc)|(refine hW.w (eR ?_) ?_;omega));conv=>lhs;whnf)
   apply hW.w (oK hE n.man n.bld l[m] hn.1 hn.2.1)
   conv=>lhs;whnf
   repeat((first|apply hW.t|apply hW.f|(apply hW.q;exact rqc));conv=>lhs;whnf)
   apply hW.b<;>intro h3<;>conv=>lhs;whnf
   ·rw[if_pos h3]at hs
    repeat((first|apply hW.t|apply hW.f|(apply hW.q;exact rqc)|(refine hW.w (eR ?_) ?_;omega));conv=>lhs;whnf)
    apply hW.w (oL hE n.man.gen l[m] (mU n.man n.bld l[m]) (Nat.le_trans (nQ _ _ _) (Nat.le_trans hn.2.1 (by decide))))
    conv=>lhs;whnf
    repeat((first|apply hW.t|apply hW.f|(apply hW.q;exact rqc));conv=>lhs;whnf)
    apply hW.w (dU hE k id (dM n.man.gen l[m] (mU n.man n.bld l[m])) ⟨Nat.zero_le _,Nat.le_trans (nQ _ _ _) hn.2.1⟩)
    conv=>lhs;whnf
    repeat((first|apply hW.t|apply hW.f|(apply hW.q;exact rqc));conv=>lhs;whnf)
    refine hW.q (by exact⟨by decide,by intro e he;simp at he;subst he;rfl,by simp;omega,by simp;omega⟩) ?_
    conv=>lhs;whnf
    repeat((first|apply hW.t|apply hW.f|(apply hW.q;exact rqc));conv=>lhs;whnf)
    refine ih (m+1,acc++[cT k id (dM n.man.gen l[m] (mU n.man n.bld l[m]))]) (m+1) _ ?_ ⟨rfl,by omega,by simp;omega,by rw[List.append_assoc];exact hs⟩ (by omega)
    intro K
    conv=>lhs;whnf
    conv=>rhs;whnf
    try rfl
    rw[show IntKind.i64.wrap ((m:Int)+1)=_ from aL (by omega)]
    rw[List.map_append]
    rfl
   ·rw[if_neg (by rw[h3];decide)]at hs
    repeat((first|apply hW.t|apply hW.f|(apply hW.q;exact rqc));conv=>lhs;whnf)
    refine ih (m+1,acc) (m+1) _ ?_ ⟨rfl,by omega,by simp only;omega,hs⟩ (by omega)
    intro K
    conv=>lhs;whnf
    conv=>rhs;whnf
    try rfl
    rw[show IntKind.i64.wrap ((m:Int)+1)=_ from aL (by omega)]
    try rfl
  ·have:m=l.length:=by simp at h1;omega
   subst this
   simp only[List.drop_length,aBB,List.flatMap_nil,List.append_nil]at hs
   repeat((first|apply hW.t|apply hW.f|(apply hW.q;exact rqc));conv=>lhs;whnf)
   apply hW.w (mG hE n.kids id (fZ n id) hn.2.2)
   conv=>lhs;whnf
   repeat((first|apply hW.t|apply hW.f|(apply hW.q;exact rqc));conv=>lhs;whnf)
   unfold bB
   rw[hP,aBB,← hs]
   rfl
 ·rfl
theorem uZ {b:aD}:∀ {s:Nat},s*256 ^ b.length≤jR b s:=by
 induction b with
 |nil=>intro s;simp[jR]
 |cons c r ih =>
  intro s
  simp only[jR,List.length_cons]
  refine Nat.le_trans ?_ ih
  rw[Nat.pow_succ,Nat.mul_comm (256 ^ r.length) 256,← Nat.mul_assoc]
  exact Nat.mul_le_mul_right _ (by omega)
theorem aCS {a b:aD} (h:jR a 1=jR b 1):a.length=b.length:=by
 have h1:=uZ (b:=a) (s:=1)
 have h2:=uZ (b:=b) (s:=1)
 have h3:=aBf (b:=a) (s:=1)
 have h4:=aBf (b:=b) (s:=1)
 rcases Nat.lt_trichotomy a.length b.length with hl|hl|hl
 ·exfalso
  have:256 ^ (a.length+1)≤256 ^ b.length:=Nat.pow_le_pow_right (by decide) hl
  rw[Nat.pow_succ]at this;omega
 ·exact hl
 ·exfalso
  have:256 ^ (b.length+1)≤256 ^ a.length:=Nat.pow_le_pow_right (by decide) hl
  rw[Nat.pow_succ]at this;omega
theorem aNn {m:Man} {l:List Sum}:∀ {i n:Nat} (h:aDe m i l=true) (hn:n<l.length),zA m (i+n) l[n]=true:=by
 induction l with
 |nil=>intro i n _ hn;cases hn
 |cons x r ih =>
  intro i n h hn
  simp only[aDe,Bool.and_eq_true]at h
  cases n with
  |zero=>exact h.1
  |succ n =>
   rw[show i+(n+1)=(i+1)+n from by omega]
   exact ih h.2 (by simpa using hn)
theorem aLh {m:Man} (h:aV m=true) {n:Nat} (hn:n<m.sums.length):zA m n m.sums[n]=true:=by
 unfold aV at h
 split at h
 ·have h3:m.sums=[]:=by simp[cC]at h;exact h.2.2.2
  rw[h3]at hn;cases hn
 ·simp only[Bool.and_eq_true]at h
  have:=aNn h.2.2.2 hn
  rwa [Nat.zero_add]at this
theorem aCT {m:Man} (h:aV m=true) {n:Nat} (hn:n<m.sums.length) {b:aD} (hb:bF b=m.sums[n]):(b.length:Int)=bA m.size m.len n∧b.length≤6:=by
 have ha:=aLh h hn
 simp only[zA,Bool.and_eq_true,decide_eq_true_eq]at ha
 obtain⟨h1,h2,h3⟩:=ha
 have hl:=fU m.sums[n].s
 have hb6:b.length≤6:=by
  rcases Nat.lt_or_ge 6 b.length with h6|h6
  ·exfalso
   unfold bF at hb
   rw[if_pos (by omega)]at hb
   rw[← hb]at h1
   exact absurd h1 (by decide)
  ·exact h6
 have e:=h3.trans hb.symm
 unfold bF at e
 rw[if_neg (by omega),if_neg (by omega)]at e
 have e:=congrArg Sum.s e
 simp only at e
 have e:jR (bO m.sums[n].s) 1=jR b 1:=by omega
 have:=aCS e
 omega
theorem aIX {m:Man} {x:Bld} (h:fI m x=true):aV m=true∧bN x.hav=true∧(x.buf.length:Int)=m.len:=by
 unfold fI at h
 simp only[Bool.and_eq_true,decide_eq_true_eq]at h
 exact⟨h.1,h.2.1,h.2.2.2.1⟩
def sK (m:Man) (x:Bld) (i:Int) (b:aD):Bool:=fI m x&&(bK i 0 ((m.sums.length:Int)-1)&&(!dF x.hav i&&decide (bF b=m.sums.getD i.toNat ⟨0,0⟩)))
def dD (m:Man) (x:Bld) (i:Int) (b:aD):Bld:=if sK m x i b=true then aCO m x i.toNat b else x
theorem aIY {m:Man} {x:Bld} {i:Int} {b:aD} (h:sK m x i b=true):∃ n:Nat,∃ hn:n<m.sums.length,i=n∧n<40∧fI m x=true∧aV m=true∧bN x.hav=true∧dF x.hav n=false∧bF b=m.sums[n]∧b.length≤6∧bA m.size m.len n=b.length∧0≤bP m.size m.len n∧bP m.size m.len n+b.length≤x.buf.length:=by
 unfold sK at h
 simp only[Bool.and_eq_true,decide_eq_true_eq,Bool.not_eq_true']at h
 obtain⟨h1,h2,h3,h4⟩:=h
 have h2:=bU h2
 obtain⟨n,rfl⟩:∃ n:Nat,i=n:=⟨i.toNat,by omega⟩
 have hn:n<m.sums.length:=by omega
 obtain⟨hm,hs,hl⟩:=aIX h1
 have hc:=dV hm
 rw[Int.toNat_natCast,List.getD_eq_getElem?_getD,List.getElem?_eq_getElem hn,Option.getD_some]at h4
 have hp:=aCT hm hn h4
 have hsp:=iZ (size:=m.size) (n:=m.len) (i:=n)
 refine⟨n,hn,rfl,by omega,h1,hm,hs,h3,h4,hp.2,hp.1.symm,by omega,by omega⟩
theorem aOE {m:Man} {x:Bld} {i:Int} {b:aD} (hb:fI m x=true) (h:sK m x i b=false):bK i 0 ((m.sums.length:Int)-1)=false∨∃ n:Nat,∃ hn:n<m.sums.length,i=n∧(dF x.hav n=true∨dF x.hav n=false∧¬ bF b=m.sums[n]):=by
 unfold sK at h
 rw[hb,Bool.true_and]at h
 cases h2:bK i 0 ((m.sums.length:Int)-1)
 ·exact .inl rfl
 ·right
  rw[h2,Bool.true_and]at h
  have h2:=bU h2
  obtain⟨n,rfl⟩:∃ n:Nat,i=n:=⟨i.toNat,by omega⟩
  have hn:n<m.sums.length:=by omega
  refine⟨n,hn,rfl,?_⟩
  rw[Int.toNat_natCast,List.getD_eq_getElem?_getD,List.getElem?_eq_getElem hn,Option.getD_some]at h
  cases h3:dF x.hav n
  ·rw[h3]at h
   right
   exact⟨rfl,by simpa using h⟩
  ·exact .inl rfl
theorem xJ {E:Env} (hE:Sys E) (m:Man) (x:Bld) (i:Int) (b:aD) (hm:m.sums.length≤1048576) (hx:x.buf.length≤1048576) (hb:b.length≤1048576):E 423 [gv (m.cs aN),gv (x.cs aN),iv i,sv (bys b)]=some ([gv ((dD m x i b).cs eQ),bv (sK m x i b)],[]):=by
 have hrl:(m.sums.map Sum.row).length=m.sums.length:=List.length_map _
 have a0:=kY hE x (by omega)
 have a1:=oI hE m x hm hx
 have a2:=bL hE i 0 ((m.sums.length:Int)-1)
 have a3:=dG hE x.hav i
 have a4:=gK hE b (by omega)
 have hw:IntKind.i64.wrap ((m.sums.length:Int)-1)=(m.sums.length:Int)-1:=aI (by omega)
 unfold dD
 cases h1:fI m x
 ·rw[show sK m x i b=false from by unfold sK;rw[h1];rfl]
  rw[h1]at a1
  refine hE.run rfl rfl fun W hW=>?_
  conv=>lhs;whnf
  repeat'((first|apply hW.t|apply hW.f|(apply hW.q;exact rqc)|apply hW.w (a0)|apply hW.w (a1)|(apply hW.b<;>intro h))<;>conv=>lhs;whnf)
  rfl
 ·rw[h1]at a1
  cases h2:sK m x i b
  ·rcases aOE h1 h2 with h3|⟨n,hn,rfl,h3|⟨h3,h4⟩⟩
   ·rw[h3]at a2
    refine hE.run rfl rfl fun W hW=>?_
    conv=>lhs;whnf
    repeat'((first|apply hW.t|apply hW.f|(apply hW.q;exact rqc)|apply hW.w (a0)|apply hW.w (a1)|(apply hW.b<;>intro h))<;>conv=>lhs;whnf)
    rw[hrl,hw]
    repeat'((first|apply hW.t|apply hW.f|(apply hW.q;exact rqc)|apply hW.w (a2)|(apply hW.b<;>intro h))<;>conv=>lhs;whnf)
    rfl
   ·rw[show bK n 0 ((m.sums.length:Int)-1)=true from by simp[bK];omega]at a2
    rw[h3]at a3
    refine hE.run rfl rfl fun W hW=>?_
    conv=>lhs;whnf
    repeat'((first|apply hW.t|apply hW.f|(apply hW.q;exact rqc)|apply hW.w (a0)|apply hW.w (a1)|(apply hW.b<;>intro h))<;>conv=>lhs;whnf)
    rw[hrl,hw]
    repeat'((first|apply hW.t|apply hW.f|(apply hW.q;exact rqc)|apply hW.w (a2)|apply hW.w (a3)|(apply hW.b<;>intro h))<;>conv=>lhs;whnf)
    rfl
   ·rw[show bK n 0 ((m.sums.length:Int)-1)=true from by simp[bK];omega]at a2
    rw[h3]at a3
    refine hE.run rfl rfl fun W hW=>?_
    conv=>lhs;whnf
    repeat'((first|apply hW.t|apply hW.f|(apply hW.q;exact rqc)|apply hW.w (a0)|apply hW.w (a1)|(apply hW.b<;>intro h))<;>conv=>lhs;whnf)
    rw[hrl,hw]
    apply hW.w (a2)
    conv=>lhs;whnf
    repeat((first|apply hW.t|apply hW.f|(apply hW.q;exact rqc));conv=>lhs;whnf)
    apply hW.w (a3)
    conv=>lhs;whnf
    repeat((first|apply hW.t|apply hW.f|(apply hW.q;exact rqc)|(refine hW.w (eR ?_) ?_;omega));conv=>lhs;whnf)
    apply hW.w (a4)
    conv=>lhs;whnf
    repeat((first|apply hW.t|apply hW.f|(apply hW.q;exact rqc));conv=>lhs;whnf)
    apply hW.bt (by(revert h4;generalize bF b=y;generalize m.sums[n]=z;cases y;cases z;simp;exact fun h=>Decidable.or_iff_not_imp_left.mpr fun h'=>h (Decidable.not_not.mp h')))
    conv=>lhs;whnf
    repeat((first|apply hW.t|apply hW.f|(apply hW.q;exact rqc));conv=>lhs;whnf)
    rfl
  ·obtain⟨n,hn,rfl,h40,_,_,hs,hin,hsum,h6,hsp,hat,hfit⟩:=aIY h2
   have a5:=aAn hE m x n b h40 hsp hat hfit hx
   rw[show bK n 0 ((m.sums.length:Int)-1)=true from by simp[bK];omega]at a2
   rw[hin]at a3
   refine hE.run rfl rfl fun W hW=>?_
   conv=>lhs;whnf
   repeat'((first|apply hW.t|apply hW.f|(apply hW.q;exact rqc)|apply hW.w (a0)|apply hW.w (a1)|(apply hW.b<;>intro h))<;>conv=>lhs;whnf)
   rw[hrl,hw]
   apply hW.w (a2)
   conv=>lhs;whnf
   repeat((first|apply hW.t|apply hW.f|(apply hW.q;exact rqc));conv=>lhs;whnf)
   apply hW.w (a3)
   conv=>lhs;whnf
   repeat((first|apply hW.t|apply hW.f|(apply hW.q;exact rqc)|(refine hW.w (eR ?_) ?_;omega));conv=>lhs;whnf)
   apply hW.w (a4)
   conv=>lhs;whnf
   repeat((first|apply hW.t|apply hW.f|(apply hW.q;exact rqc));conv=>lhs;whnf)
   apply hW.bf (by rw[hsum];simp)
   conv=>lhs;whnf
   repeat((first|apply hW.t|apply hW.f|(apply hW.q;exact rqc));conv=>lhs;whnf)
   apply hW.w (a5)
   conv=>lhs;whnf
   repeat((first|apply hW.t|apply hW.f|(apply hW.q;exact rqc));conv=>lhs;whnf)
   rfl
theorem iK {s:Int} (h:bN s=true):∃ n:Nat,s=n∧n<1099511627776:=by
 unfold bN bK at h
 simp only[Bool.and_eq_true,decide_eq_true_eq]at h
 exact⟨s.toNat,by omega,by omega⟩
theorem xK {n:Nat} (h:n<1099511627776):bN (n:Int)=true:=by
 unfold bN bK
 simp only[Bool.and_eq_true,decide_eq_true_eq]
 omega
theorem aIZ {a b:Nat} (ha:a<1099511627776) (hb:b<1099511627776) (h:∀ i,a.testBit i=true→b.testBit i=true):rY a b=0:=by
 unfold rY
 have hz:BitVec.ofInt IntKind.i64.bits (a:Int) &&& ~~~BitVec.ofInt IntKind.i64.bits (b:Int)=0#_:=by
  apply BitVec.eq_of_getLsbD_eq
  intro i hi
  simp only[BitVec.getLsbD_and,BitVec.getLsbD_not,BitVec.getLsbD_zero,BitVec.ofInt_natCast,BitVec.getLsbD_ofNat,hi,decide_true,Bool.true_and]
  cases q:a.testBit i
  ·simp
  ·rw[h i q];simp
 rw[hz]
 rfl
theorem aI0 {p:aD} {c:UInt8}:∀ {s:Nat},jR (p++[c]) s=256*jR p s+c.toNat:=by
 induction p with
 |nil=>intro s;rfl
 |cons a r ih=>intro s;simp only[List.cons_append,jR];exact ih
theorem aLi:∀ {n k:Nat} {p acc:aD},p.length=n→n≤k→dig k (jR p 1) acc=some (p++acc):=by
 intro n
 induction n with
 |zero =>
  intro k p acc hp _
  obtain rfl:=List.eq_nil_of_length_eq_zero hp
  cases k<;>rfl
 |succ n ih =>
  intro k p acc hp hk
  obtain⟨j,rfl⟩:∃ j,k=j+1:=⟨k-1,by omega⟩
  rcases List.eq_nil_or_concat p with rfl|⟨q,c,rfl⟩
  ·cases hp
  ·rw[List.concat_eq_append,List.length_append,List.length_singleton]at hp
   rw[List.concat_eq_append,aI0]
   have h1:=uZ (b:=q) (s:=1)
   have h2:1≤256 ^ q.length:=Nat.one_le_pow _ _ (by decide)
   have hc:=UInt8.toNat_lt c
   rw[dig,if_neg (by omega),if_neg (by omega),show(256*jR q 1+c.toNat)/256=jR q 1 by omega,ih (by omega) (by omega)]
   have hb:dX ((256*jR q 1+c.toNat:Nat):Int)=c:=by
    apply UInt8.toNat_inj.mp
    unfold dX
    rw[UInt8.toNat_ofNat']
    omega
   rw[hb,List.append_assoc]
   rfl
theorem aAs {p:aD} (h:p.length≤6):dJ (jR p 1:Nat)=some p:=by
 unfold dJ
 have h1:=uZ (b:=p) (s:=1)
 have h2:1≤256 ^ p.length:=Nat.one_le_pow _ _ (by decide)
 have h3:=aBf (b:=p) (s:=1)
 have h4:256 ^ p.length≤256 ^ 6:=Nat.pow_le_pow_right (by decide) h
 have h5:(256:Nat) ^ 6=281474976710656:=by decide
 rw[if_pos (by simp only[bK,Bool.and_eq_true,decide_eq_true_eq];omega),Int.toNat_natCast,aLi rfl h,List.append_nil]
theorem aD7 {b:aD} {size i:Int}:((lL b size i).length:Int)=bA size b.length i:=by
 have h:=iZ (size:=size) (n:=(b.length:Int)) (i:=i)
 unfold lL
 rw[List.length_take,List.length_drop]
 omega
theorem aI1 {b:aD} {g size:Int} {s:List Sum} {n:Nat}:zA ⟨g,size,b.length,s⟩ n (bF (lL b size (n:Int)))=true:=by
 have h:=iZ (size:=size) (n:=(b.length:Int)) (i:=(n:Int))
 have hl:=aD7 (b:=b) (size:=size) (i:=(n:Int))
 have h6:(lL b size (n:Int)).length≤6:=by omega
 have e:bF (lL b size (n:Int))=⟨aZ (lL b size (n:Int)),(jR (lL b size (n:Int)) 1:Nat)⟩:=by
  unfold bF
  rw[if_neg (by omega)]
 have hb:bO (bF (lL b size (n:Int))).s=lL b size (n:Int):=by rw[e];unfold bO;rw[aAs h6];rfl
 have hk:bQ (bF (lL b size (n:Int))).s=true:=by rw[e];unfold bQ;rw[aAs h6];rfl
 unfold zA
 rw[hk,hb,hl]
 simp
theorem aI2 {b:aD} {g size:Int} {s:List Sum}:∀ (n i:Nat),aDe ⟨g,size,b.length,s⟩ i ((List.range' i n).map fun i:Nat=>bF (lL b size (i:Int)))=true:=by
 intro n
 induction n with
 |zero=>intro i;rfl
 |succ n ih =>
  intro i
  rw[List.range'_succ,List.map_cons,aDe,aI1,ih (i+1)]
  rfl
theorem aLj {g size:Int} {b:aD} (hg:bK g 1 1000000=true) (hs:cN size b.length=true):lB g b size=⟨g,size,b.length,eJ b size⟩∧aV (lB g b size)=true:=by
 have e:lB g b size=⟨g,size,b.length,eJ b size⟩:=by unfold lB;rw[if_pos ⟨hg,hs⟩]
 refine⟨e,?_⟩
 rw[e]
 have hg':=bU hg
 have hb:=(nL hs).2
 unfold aV
 simp only
 rw[if_neg (by omega),hg,hs]
 have hn:(((eJ b size).length:Nat):Int)=bH size b.length:=by
  unfold eJ aDW
  rw[jT]
  omega
 rw[hn]
 simp only[decide_true,Bool.true_and]
 unfold eJ aBg
 rw[List.range_eq_range']
 exact aI2 _ _
theorem aGE {size:Int} {n:Nat} (h1:2≤size) (h2:size≤6) (hn:n≤80):cN size n=true:=by
 unfold cN
 rw[show IntKind.i64.wrap (size*40)=size*40 from aI (by omega)]
 simp only[bK,Bool.and_eq_true,decide_eq_true_eq]
 omega
def aNM (m:Man) (x:Bld):Prop:=bN x.hav=true∧(x.buf.length:Int)=m.len
theorem pG {m:Man} {old:aD} (h:aV m=true):aNM m (cH m old):=by
 have hc:=dV h
 unfold cH
 rw[if_pos h]
 obtain⟨⟨n,hn,hlt⟩,hl⟩:=aBv (old:=old) h (Nat.le_refl m.sums.length)
 have hp:2 ^ m.sums.length≤2 ^ 40:=Nat.pow_le_pow_right (by decide) hc.1
 have hp2:(2:Nat) ^ 40=1099511627776:=by decide
 refine⟨?_,hl⟩
 rw[hn]
 simp only[bN,bK,Bool.and_eq_true,decide_eq_true_eq];omega
theorem aOF {m:Man} {x:Bld} {n:Nat} {b:aD} (h40:n<40) (h:aNM m x) (hb:bP m.size m.len n+b.length≤x.buf.length) (h0:0≤bP m.size m.len n):aNM m (aCO m x n b):=by
 obtain⟨hs,hl⟩:=h
 obtain⟨k,hk,hlt⟩:=iK hs
 have hp:2 ^ n≤2 ^ 39:=Nat.pow_le_pow_right (by decide) (by omega)
 have hp2:(2:Nat) ^ 39=549755813888:=by decide
 refine⟨?_,?_⟩
 ·unfold aCO
  simp only
  rw[hk,(aDY (by omega)).1,(jC (by omega) (by omega)).1]
  refine xK ?_
  have h3:=Nat.or_lt_two_pow (n:=40) (x:=k) (y:=2 ^ n) (by omega) (by omega)
  omega
 ·unfold aCO
  simp only
  rw[aD3 (by omega)]
  exact hl
end Tev
