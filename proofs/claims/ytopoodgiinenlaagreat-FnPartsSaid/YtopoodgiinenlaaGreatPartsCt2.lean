/- What the functions compute, one contract each. -/
import Derived.Test.YtopoodgiinenlaaGreatPartsCt1
set_option linter.unusedSimpArgs false
set_option linter.unusedVariables false
namespace Tev
open Go
set_option maxRecDepth 50000
set_option maxHeartbeats 20000000
theorem aFA {E:aS} (U:Sys E) (b:aC) (n:Nat) (hb:b.length≤1099511627776) (hn:n<9223372036854775808):E 309 [ov 1 (aT b),iv n]=some ([ov 1 (aT (b++kD n))],[]):=by
 refine U.run rfl rfl fun W Z=>?_
 conv=>lhs;whnf
 refine Z.loop (σ:=Nat × aC) (γ:=Nat) (fun i s=>(s.sl 1 (v1 (.t (.int .i64 i.1)))).bl ⟨50000,1, .own,aT i.2⟩) (fun i k=>k≤8∧i.1<128 ^ (k+1)∧i.1<9223372036854775808∧i.2.length+k≤b.length+8∧i.2++jF k i.1=b++kD n) (fun k=>k) (fun _=>([ov 1 (aT (b++kD n))],[])) (n,b) 8 ?_ ?_ ?_ ?_
 ·intro K
  conv=>lhs;whnf
  conv=>rhs;whnf
  try rfl
 ·refine⟨by omega,?_,hn,by simp only;omega,rfl⟩
  have:(128:Nat) ^ (8+1)=9223372036854775808:=by decide
  simp only;omega
 ·rintro kl ⟨m,acc⟩ k ⟨hk,hm,hm2,hl,hs⟩ ih
  simp only at hm hm2 hl hs
  conv=>lhs;whnf
  apply Z.b<;>intro g1<;>conv=>lhs;whnf
  ·have g1:127<m:=by
    have:(m:Int)>127:=by simpa using g1
    omega
   cases k with
   |zero=>simp at hm;omega
   |succ k =>
    rw[jF,if_neg (by omega)]at hs
    refine Z.q (by exact⟨by decide,by intro e he;simp at he;subst he;rfl,by simp[aI];omega,by simp[aI];omega⟩) ?_
    conv=>lhs;whnf
    repeat((first|apply Z.t|apply Z.f|(apply Z.q;exact aE));conv=>lhs;whnf)
    rw[aR7 (by omega),aUV]
    refine ih (m/128,acc++[dH ((m%128+128:Nat):Int)]) k _ ?_ ⟨by omega,?_,by omega,by simp;omega,by simpa using hs⟩ (by omega)
    ·intro K
     conv=>lhs;whnf
     conv=>rhs;whnf
     try rfl
     rw[← pC]
     rfl
    ·have:128 ^ (k+1+1)=128 ^ (k+1)*128:=Nat.pow_succ ..
     simp only
     omega
  ·have g1:m<128:=by
    have:¬ (m:Int)>127:=by simpa using g1
    omega
   have:jF k m=[dH (m:Int)]:=by cases k<;>simp[jF,g1]
   rw[this]at hs
   refine Z.q (by exact⟨by decide,by intro e he;simp at he;subst he;rfl,by simp[aI];omega,by simp[aI];omega⟩) ?_
   conv=>lhs;whnf
   repeat((first|apply Z.t|apply Z.f|(apply Z.q;exact aE));conv=>lhs;whnf)
   rw[← hs,← pC]
   rfl
 ·rfl
theorem pD {E:aS} (U:Sys E) (b:aC) (n:Nat) (hb:b.length≤1099511627776) (hn:n<9223372036854775808):E 320 [ov 1 (aT b),iv n]=some ([ov 1 (aT (b++kD n))],[]):=by
 refine U.run rfl rfl fun W Z=>?_
 conv=>lhs;whnf
 refine Z.loop (σ:=Nat × aC) (γ:=Nat) (fun i s=>(s.sl 1 (v1 (.t (.int .i64 i.1)))).bl ⟨50000,1, .own,aT i.2⟩) (fun i k=>k≤8∧i.1<128 ^ (k+1)∧i.1<9223372036854775808∧i.2.length+k≤b.length+8∧i.2++jF k i.1=b++kD n) (fun k=>k) (fun _=>([ov 1 (aT (b++kD n))],[])) (n,b) 8 ?_ ?_ ?_ ?_
 ·intro K
  conv=>lhs;whnf
  conv=>rhs;whnf
  try rfl
 ·refine⟨by omega,?_,hn,by simp only;omega,rfl⟩
  have:(128:Nat) ^ (8+1)=9223372036854775808:=by decide
  simp only;omega
 ·rintro kl ⟨m,acc⟩ k ⟨hk,hm,hm2,hl,hs⟩ ih
  simp only at hm hm2 hl hs
  conv=>lhs;whnf
  apply Z.b<;>intro g1<;>conv=>lhs;whnf
  ·have g1:127<m:=by
    have:(m:Int)≥128:=by simpa using g1
    omega
   cases k with
   |zero=>simp at hm;omega
   |succ k =>
    rw[jF,if_neg (by omega)]at hs
    refine Z.q (by exact⟨by decide,by intro e he;simp at he;subst he;rfl,by simp[aI];omega,by simp[aI];omega⟩) ?_
    conv=>lhs;whnf
    repeat((first|apply Z.t|apply Z.f|(apply Z.q;exact aE));conv=>lhs;whnf)
    rw[aUU,aUV]
    refine ih (m/128,acc++[dH ((m%128+128:Nat):Int)]) k _ ?_ ⟨by omega,?_,by omega,by simp;omega,by simpa using hs⟩ (by omega)
    ·intro K
     conv=>lhs;whnf
     conv=>rhs;whnf
     try rfl
     rw[← pC]
     rfl
    ·have:128 ^ (k+1+1)=128 ^ (k+1)*128:=Nat.pow_succ ..
     simp only
     omega
  ·have g1:m<128:=by
    have:¬ (m:Int)≥128:=by simpa using g1
    omega
   have:jF k m=[dH (m:Int)]:=by cases k<;>simp[jF,g1]
   rw[this]at hs
   refine Z.q (by exact⟨by decide,by intro e he;simp at he;subst he;rfl,by simp[aI];omega,by simp[aI];omega⟩) ?_
   conv=>lhs;whnf
   repeat((first|apply Z.t|apply Z.f|(apply Z.q;exact aE));conv=>lhs;whnf)
   rw[← hs,← pC]
   rfl
 ·rfl
def aD (b:aC) (n:Int):aC:=if aR n 0 1000000000000=true then b++kD n.toNat else b
theorem aL (b:aC) (n:Int):(aD b n).length≤b.length+9:=by
 unfold aD;split
 ·have:=aDk (n:=n.toNat);simp;omega
 ·omega
theorem bD {E:aS} (U:Sys E) (b:aC) (n:Int) (hb:b.length≤1099511627776):E 303 [sv (aT b),iv n]=some ([ov 1 (aT (aD b n))],[]):=by
 have a:=bK U n 0 1000000000000
 unfold aD
 cases hr:aR n 0 1000000000000
 ·rw[hr]at a
  refine U.run rfl rfl fun W Z=>?_
  conv=>lhs;whnf
  refine Z.q (by exact⟨by decide,bB _,by simp[aI];omega,by simp[aI];omega⟩) ?_
  conv=>lhs;whnf
  apply Z.bt (cI _)
  conv=>lhs;whnf
  apply Z.w (a)
  conv=>lhs;whnf
  repeat((first|apply Z.t|apply Z.f|(apply Z.q;exact aE));conv=>lhs;whnf)
  rfl
 ·rw[hr]at a
  have hr:=bL hr
  obtain⟨n,rfl⟩:∃ k:Nat,n=k:=⟨n.toNat,by omega⟩
  simp only[if_true]
  rw[show((n:Int).toNat)=n from by omega]
  refine U.run rfl rfl fun W Z=>?_
  conv=>lhs;whnf
  refine Z.q (by exact⟨by decide,bB _,by simp[aI];omega,by simp[aI];omega⟩) ?_
  conv=>lhs;whnf
  apply Z.bt (cI _)
  conv=>lhs;whnf
  apply Z.w (a)
  conv=>lhs;whnf
  repeat((first|apply Z.t|apply Z.f|(apply Z.q;exact aE));conv=>lhs;whnf)
  refine Z.loop (σ:=Nat × aC) (γ:=Nat) (fun i s=>(s.sl 1 (v1 (.t (.int .i64 i.1)))).bl ⟨50500,1, .own,aT i.2⟩) (fun i k=>k≤8∧i.1<128 ^ (k+1)∧i.1<9223372036854775808∧i.2.length+k≤b.length+8∧i.2++jF k i.1=b++kD n) (fun k=>k) (fun _=>([ov 1 (aT (b++kD n))],[])) (n,b) 8 ?_ ?_ ?_ ?_
  ·intro K
   conv=>lhs;whnf
   conv=>rhs;whnf
   try rfl
  ·refine⟨by omega,?_,by simp only;omega,by simp only;omega,rfl⟩
   have:(128:Nat) ^ (8+1)=9223372036854775808:=by decide
   simp only;omega
  ·rintro kl ⟨m,acc⟩ k ⟨hk,hm,hm2,hl,hs⟩ ih
   simp only at hm hm2 hl hs
   conv=>lhs;whnf
   apply Z.b<;>intro g1<;>conv=>lhs;whnf
   ·have g1:127<m:=by
     have:(m:Int)>127:=by simpa using g1
     omega
    cases k with
    |zero=>simp at hm;omega
    |succ k =>
     rw[jF,if_neg (by omega)]at hs
     refine Z.q (by exact⟨by decide,by intro e he;simp at he;subst he;rfl,by simp[aI];omega,by simp[aI];omega⟩) ?_
     conv=>lhs;whnf
     repeat((first|apply Z.t|apply Z.f|(apply Z.q;exact aE));conv=>lhs;whnf)
     rw[aR7 (by omega),aUV]
     refine ih (m/128,acc++[dH ((m%128+128:Nat):Int)]) k _ ?_ ⟨by omega,?_,by omega,by simp;omega,by simpa using hs⟩ (by omega)
     ·intro K
      conv=>lhs;whnf
      conv=>rhs;whnf
      try rfl
      rw[← pC]
      rfl
     ·have:128 ^ (k+1+1)=128 ^ (k+1)*128:=Nat.pow_succ ..
      simp only
      omega
   ·have g1:m<128:=by
     have:¬ (m:Int)>127:=by simpa using g1
     omega
    have:jF k m=[dH (m:Int)]:=by cases k<;>simp[jF,g1]
    rw[this]at hs
    refine Z.q (by exact⟨by decide,by intro e he;simp at he;subst he;rfl,by simp[aI];omega,by simp[aI];omega⟩) ?_
    conv=>lhs;whnf
    repeat((first|apply Z.t|apply Z.f|(apply Z.q;exact aE));conv=>lhs;whnf)
    rw[← hs,← pC]
    rfl
  ·rfl
theorem bI {E:aS} (U:Sys E) (b:aC) (n:Int) (hb:b.length≤68719476736):E 312 [sv (aT b),iv n]=some ([ov 1 (aT (aD b n))],[]):=by
 have a:=bW U n 0 1000000000000
 unfold aD
 cases hr:aR n 0 1000000000000
 ·rw[hr]at a
  refine U.run rfl rfl fun W Z=>?_
  conv=>lhs;whnf
  apply Z.w (dB U b hb)
  conv=>lhs;whnf
  repeat((first|apply Z.t|apply Z.f|(apply Z.q;exact aE));conv=>lhs;whnf)
  apply Z.w (a)
  conv=>lhs;whnf
  repeat((first|apply Z.t|apply Z.f|(apply Z.q;exact aE));conv=>lhs;whnf)
  rfl
 ·rw[hr]at a
  have hr:=bL hr
  obtain⟨n,rfl⟩:∃ k:Nat,n=k:=⟨n.toNat,by omega⟩
  simp only[if_true]
  rw[show((n:Int).toNat)=n from by omega]
  refine U.run rfl rfl fun W Z=>?_
  conv=>lhs;whnf
  apply Z.w (dB U b hb)
  conv=>lhs;whnf
  repeat((first|apply Z.t|apply Z.f|(apply Z.q;exact aE));conv=>lhs;whnf)
  apply Z.w (a)
  conv=>lhs;whnf
  repeat((first|apply Z.t|apply Z.f|(apply Z.q;exact aE));conv=>lhs;whnf)
  apply Z.w (pD U b n (by omega) (by omega))
  conv=>lhs;whnf
  repeat((first|apply Z.t|apply Z.f|(apply Z.q;exact aE));conv=>lhs;whnf)
  rfl
def cA (b s:aC):aC:=aD b s.length++s
theorem aHk {E:aS} (U:Sys E) (b s:aC) (hb:b.length≤1073741824) (hs:s.length≤1073741824):E 306 [sv (aT b),sv (aT s)]=some ([ov 1 (aT (cA b s))],[]):=by
 have hl:=aL b s.length
 refine U.run rfl rfl fun W Z=>?_
 conv=>lhs;whnf
 rw[bE]
 apply Z.w (bD U b s.length (by omega))
 conv=>lhs;whnf
 repeat((first|apply Z.t|apply Z.f|(apply Z.q;exact aE));conv=>lhs;whnf)
 refine Z.q (by exact⟨by decide,bB _,by simp[aI];omega,by simp[aI];omega⟩) ?_
 conv=>lhs;whnf
 apply Z.bt (cI _)
 conv=>lhs;whnf
 unfold cA
 rw[mL]
 rfl
theorem aHl {E:aS} (U:Sys E) (b s:aC) (hb:b.length≤1073741824) (hs:s.length≤1073741824):E 315 [sv (aT b),sv (aT s)]=some ([ov 1 (aT (cA b s))],[]):=by
 have hl:=aL b s.length
 refine U.run rfl rfl fun W Z=>?_
 conv=>lhs;whnf
 rw[bE]
 apply Z.w (bI U b s.length (by omega))
 conv=>lhs;whnf
 repeat((first|apply Z.t|apply Z.f|(apply Z.q;exact aE));conv=>lhs;whnf)
 refine Z.q (by exact⟨by decide,bB _,by simp[aI];omega,by simp[aI];omega⟩) ?_
 conv=>lhs;whnf
 apply Z.bt (cI _)
 conv=>lhs;whnf
 unfold cA
 rw[mL]
 rfl
def mQ (s:Int):Int:=IntKind.i64.wrap (BitVec.ofInt IntKind.i64.bits s &&& BitVec.ofInt IntKind.i64.bits 1048575).toNat
def yB (s:Int):Int:=s.fdiv (2 ^ (min (20:Int).toNat IntKind.i64.bits))
theorem wG {E:aS} (U:Sys E) (s:Int):E 305 [iv s]=some ([iv (mQ s),iv (yB s)],[]):=by
 refine U.run rfl rfl fun W Z=>?_
 conv=>lhs;whnf
 repeat((first|apply Z.t|apply Z.f|(apply Z.q;exact aE));conv=>lhs;whnf)
 rfl
def bR (b:aC) (s:Int):aC:=aD (aD b (mQ s)) (yB s)
theorem aAn {E:aS} (U:Sys E) (b:aC) (s:Int) (hb:b.length≤1073741824):E 314 [sv (aT b),iv s]=some ([ov 1 (aT (bR b s))],[]):=by
 have hl:=aL b (mQ s)
 refine U.run rfl rfl fun W Z=>?_
 conv=>lhs;whnf
 apply Z.w (bI U b (mQ s) (by omega))
 conv=>lhs;whnf
 repeat((first|apply Z.t|apply Z.f|(apply Z.q;exact aE));conv=>lhs;whnf)
 apply Z.w (bI U (aD b (mQ s)) (yB s) (by omega))
 conv=>lhs;whnf
 repeat((first|apply Z.t|apply Z.f|(apply Z.q;exact aE));conv=>lhs;whnf)
 rfl
def gD:List Sum→aC
 |[]=>[]
 |x::r=>kD x.s.toNat++gD r
def pE (b:aC) (m:Man):aC:=aD (aD (aD b m.gen) m.size) m.len
def cR (b:aC) (m:Man):aC:=if aX m=true then pE b m++gD m.sums else b
theorem aHm {s:Int} (h:bU s=true):1≤s∧s≤562949953421311:=by
 unfold bU dT at h
 split at h
 ·rename_i hr;exact bL hr
 ·cases h
theorem aR9 {m:Man} {l:List Sum}:∀ {i:Nat},yA m i l=true→∀ x∈l,1≤x.s∧x.s≤562949953421311:=by
 induction l with
 |nil=>intro i _ x hx;cases hx
 |cons y r ih =>
  intro i h x hx
  simp only[yA,Bool.and_eq_true]at h
  rcases List.mem_cons.mp hx with rfl|hx
  ·have h1:=h.1
   simp only[aAm,Bool.and_eq_true]at h1
   exact aHm h1.1
  ·exact ih h.2 x hx
theorem mR {m:Man} (h:aX m=true):m.sums.length≤40∧∀ x∈m.sums,1≤x.s∧x.s≤562949953421311:=by
 unfold aX at h
 split at h
 ·simp[bV]at h
  rw[h.2.2.2]
  exact⟨by simp,fun x hx=>by cases hx⟩
 ·simp only[Bool.and_eq_true,decide_eq_true_eq]at h
  obtain⟨_,_,h3,h4⟩:=h
  have:=pA m.size m.len
  exact⟨by omega,aR9 h4⟩
theorem aEo (b:aC) (m:Man):(pE b m).length≤b.length+27:=by
 unfold pE
 have h1:=aL b m.gen
 have h2:=aL (aD b m.gen) m.size
 have h3:=aL (aD (aD b m.gen) m.size) m.len
 omega
theorem aIi {E:aS} (U:Sys E) (b:aC) (m:Man) (hb:b.length≤1073741824) (hm:m.sums.length≤1048576):E 304 [sv (aT b),gv (m.cs aJ)]=some ([ov 1 (aT (cR b m))],[]):=by
 have a:=eU U m hm
 have h1:=aL b m.gen
 have h2:=aL (aD b m.gen) m.size
 have h3:=aEo b m
 have hrl:(m.sums.map Sum.row).length=m.sums.length:=List.length_map _
 unfold cR
 cases hr:aX m
 ·rw[hr]at a
  refine U.run rfl rfl fun W Z=>?_
  conv=>lhs;whnf
  refine Z.q (by exact⟨by decide,bB _,by simp[aI];omega,by simp[aI];omega⟩) ?_
  conv=>lhs;whnf
  apply Z.bt (cI _)
  conv=>lhs;whnf
  apply Z.w (a)
  conv=>lhs;whnf
  repeat((first|apply Z.t|apply Z.f|(apply Z.q;exact aE));conv=>lhs;whnf)
  rfl
 ·rw[hr]at a
  obtain⟨hs1,hs2⟩:=mR hr
  simp only[if_true]
  refine U.run rfl rfl fun W Z=>?_
  conv=>lhs;whnf
  refine Z.q (by exact⟨by decide,bB _,by simp[aI];omega,by simp[aI];omega⟩) ?_
  conv=>lhs;whnf
  apply Z.bt (cI _)
  conv=>lhs;whnf
  apply Z.w (a)
  conv=>lhs;whnf
  repeat((first|apply Z.t|apply Z.f|(apply Z.q;exact aE));conv=>lhs;whnf)
  apply Z.w (bD U b m.gen (by omega))
  conv=>lhs;whnf
  repeat((first|apply Z.t|apply Z.f|(apply Z.q;exact aE));conv=>lhs;whnf)
  apply Z.w (bD U (aD b m.gen) m.size (by omega))
  conv=>lhs;whnf
  repeat((first|apply Z.t|apply Z.f|(apply Z.q;exact aE));conv=>lhs;whnf)
  apply Z.w (bD U (aD (aD b m.gen) m.size) m.len (by omega))
  conv=>lhs;whnf
  repeat((first|apply Z.t|apply Z.f|(apply Z.q;exact aE));conv=>lhs;whnf)
  refine Z.loop (σ:=Nat × aC) (γ:=Nat) (fun i s=>(s.sl 6 (v1 (.t (.int .i64 i.1)))).bl ⟨50500,1, .own,aT i.2⟩) (fun i k=>i.1=k∧k≤m.sums.length∧i.2.length≤b.length+27+9*k∧i.2++gD (m.sums.drop k)=pE b m++gD m.sums) (fun k=>m.sums.length-k) (fun _=>([ov 1 (aT (pE b m++gD m.sums))],[])) (0,pE b m) 0 ?_ ?_ ?_ ?_
  ·intro K
   conv=>lhs;whnf
   conv=>rhs;whnf
   try rfl
  ·exact⟨rfl,by omega,by simp only;omega,rfl⟩
  ·rintro kl ⟨i,acc⟩ _ ⟨rfl,hi,hl,hs⟩ ih
   simp only at hi hl hs
   conv=>lhs;whnf
   rw[hrl]
   apply Z.b<;>intro g1<;>conv=>lhs;whnf
   ·have g1:i<m.sums.length:=by simpa using g1
    have hx:=hs2 _ (List.getElem_mem g1)
    rw[List.drop_eq_getElem_cons g1,gD]at hs
    repeat((first|apply Z.t|apply Z.f|(apply Z.q;exact aE)|(refine Z.w (cP ?_) ?_;omega));conv=>lhs;whnf)
    obtain⟨q,hq⟩:∃ q:Nat,m.sums[i].s=q:=⟨m.sums[i].s.toNat,by omega⟩
    rw[hq]at hs ⊢
    rw[show((q:Int).toNat)=q from by omega]at hs
    apply Z.w (aFA U acc q (by omega) (by omega))
    conv=>lhs;whnf
    repeat((first|apply Z.t|apply Z.f|(apply Z.q;exact aE));conv=>lhs;whnf)
    have hv:=aDk (n:=q)
    refine ih (i+1,acc++kD q) (i+1) _ ?_ ⟨rfl,by omega,by simp;omega,by simpa using hs⟩ (by omega)
    intro K
    conv=>lhs;whnf
    conv=>rhs;whnf
    try rfl
    rw[show IntKind.i64.wrap ((i:Int)+1)=_ from aO (by omega)]
    try rfl
   ·have:i=m.sums.length:=by simp at g1;omega
    rw[this,List.drop_length,gD,List.append_nil]at hs
    rw[← hs];rfl
  ·rfl
theorem aIj {E:aS} (U:Sys E) (b:aC) (m:Man) (hb:b.length≤1073741824) (hm:m.sums.length≤1048576):E 313 [sv (aT b),gv (m.cs aJ)]=some ([ov 1 (aT (cR b m))],[]):=by
 have a:=eV U m hm
 have h1:=aL b m.gen
 have h2:=aL (aD b m.gen) m.size
 have h3:=aEo b m
 have hrl:(m.sums.map Sum.row).length=m.sums.length:=List.length_map _
 unfold cR
 cases hr:aX m
 ·rw[hr]at a
  refine U.run rfl rfl fun W Z=>?_
  conv=>lhs;whnf
  apply Z.w (a)
  conv=>lhs;whnf
  repeat((first|apply Z.t|apply Z.f|(apply Z.q;exact aE));conv=>lhs;whnf)
  apply Z.w (dB U b (by omega))
  conv=>lhs;whnf
  repeat((first|apply Z.t|apply Z.f|(apply Z.q;exact aE));conv=>lhs;whnf)
  rfl
 ·rw[hr]at a
  obtain⟨hs1,hs2⟩:=mR hr
  simp only[if_true]
  refine U.run rfl rfl fun W Z=>?_
  conv=>lhs;whnf
  apply Z.w (a)
  conv=>lhs;whnf
  repeat((first|apply Z.t|apply Z.f|(apply Z.q;exact aE));conv=>lhs;whnf)
  apply Z.w (bI U b m.gen (by omega))
  conv=>lhs;whnf
  repeat((first|apply Z.t|apply Z.f|(apply Z.q;exact aE));conv=>lhs;whnf)
  apply Z.w (bI U (aD b m.gen) m.size (by omega))
  conv=>lhs;whnf
  repeat((first|apply Z.t|apply Z.f|(apply Z.q;exact aE));conv=>lhs;whnf)
  apply Z.w (bI U (aD (aD b m.gen) m.size) m.len (by omega))
  conv=>lhs;whnf
  repeat((first|apply Z.t|apply Z.f|(apply Z.q;exact aE));conv=>lhs;whnf)
  rw[hrl]
  refine Z.loop (σ:=Nat × aC) (γ:=Nat) (fun i s=>(s.sl 26 (v1 (.t (.int .i64 i.1)))).bl ⟨50500,1, .own,aT i.2⟩) (fun i k=>i.1=k∧k≤m.sums.length∧i.2.length≤b.length+27+9*k∧i.2++gD (m.sums.drop k)=pE b m++gD m.sums) (fun k=>m.sums.length-k) (fun _=>([ov 1 (aT (pE b m++gD m.sums))],[])) (0,pE b m) 0 ?_ ?_ ?_ ?_
  ·intro K
   conv=>lhs;whnf
   conv=>rhs;whnf
   try rfl
  ·exact⟨rfl,by omega,by simp only;omega,rfl⟩
  ·rintro kl ⟨i,acc⟩ _ ⟨rfl,hi,hl,hs⟩ ih
   simp only at hi hl hs
   conv=>lhs;whnf
   apply Z.b<;>intro g1<;>conv=>lhs;whnf
   ·have g1:i<m.sums.length:=by simpa using g1
    have hx:=hs2 _ (List.getElem_mem g1)
    rw[List.drop_eq_getElem_cons g1,gD]at hs
    repeat((first|apply Z.t|apply Z.f|(apply Z.q;exact aE)|(refine Z.w (cP ?_) ?_;omega));conv=>lhs;whnf)
    obtain⟨q,hq⟩:∃ q:Nat,m.sums[i].s=q:=⟨m.sums[i].s.toNat,by omega⟩
    rw[hq]at hs ⊢
    rw[show((q:Int).toNat)=q from by omega]at hs
    apply Z.w (pD U acc q (by omega) (by omega))
    conv=>lhs;whnf
    repeat((first|apply Z.t|apply Z.f|(apply Z.q;exact aE));conv=>lhs;whnf)
    have hv:=aDk (n:=q)
    refine ih (i+1,acc++kD q) (i+1) _ ?_ ⟨rfl,by omega,by simp;omega,by simpa using hs⟩ (by omega)
    intro K
    conv=>lhs;whnf
    conv=>rhs;whnf
    try rfl
    rw[show IntKind.i64.wrap ((i:Int)+1)=_ from aO (by omega)]
    try rfl
   ·have:i=m.sums.length:=by simp at g1;omega
    rw[this,List.drop_length,gD,List.append_nil]at hs
    rw[← hs];rfl
  ·rfl
def iE (m:Msg):aC :=
 if m.kind=1 then cR (aD [] m.kind) m.man
 else if m.kind=2 then bR (bR (aD (aD [] m.kind) m.gen) m.want) m.done
 else if m.kind=3 then cA (aD (aD (aD [] m.kind) m.gen) m.i) m.b
 else aD (aD [] m.kind) m.gen
def cQ (m:Msg):aC:=if bS m=true then aD (iE m) (bG (iE m)) else[]
theorem aAX {m:Msg} (h:bS m=true):m.kind=1∨m.kind=2∨m.kind=3∨m.kind=4:=by
 unfold bS at h
 by_cases k1:m.kind=1
 ·exact .inl k1
 by_cases k2:m.kind=2
 ·exact .inr (.inl k2)
 by_cases k3:m.kind=3
 ·exact .inr (.inr (.inl k3))
 rw[if_neg k1,if_neg k2,if_neg k3]at h
 simp only[Bool.and_eq_true,decide_eq_true_eq]at h
 exact .inr (.inr (.inr h.1))
theorem aF3 {m:Msg} (h:bS m=true):m.b.length≤6∨m.kind≠3:=by
 by_cases k3:m.kind=3
 ·left
  unfold bS at h
  rw[if_neg (by omega),if_neg (by omega),if_pos k3]at h
  simp only[Bool.and_eq_true]at h
  have:=bL h.2.2.2.2.2
  omega
 ·exact .inr k3
theorem aPo {l:List Sum}:(gD l).length≤9*l.length:=by
 induction l with
 |nil=>simp[gD]
 |cons x r ih =>
  have:=aDk (n:=x.s.toNat)
  simp only[gD,List.length_append,List.length_cons];omega
theorem aLS (b:aC) (m:Man):(cR b m).length≤b.length+387:=by
 unfold cR
 split
 ·rename_i h
  have h1:=(mR h).1
  have h2:=aPo (l:=m.sums)
  have h3:=aEo b m
  simp only[List.length_append];omega
 ·omega
theorem aE1 (b:aC) (s:Int):(bR b s).length≤b.length+18:=by
 unfold bR
 have h1:=aL b (mQ s)
 have h2:=aL (aD b (mQ s)) (yB s)
 omega
theorem aHn {m:Msg} (h:bS m=true):(iE m).length≤1000:=by
 have hb:=aF3 h
 have s0:=aL [] m.kind
 simp only[List.length_nil]at s0
 unfold iE
 split
 ·have:=aLS (aD [] m.kind) m.man;omega
 ·split
  ·have h1:=aL (aD [] m.kind) m.gen
   have h2:=aE1 (aD (aD [] m.kind) m.gen) m.want
   have h3:=aE1 (bR (aD (aD [] m.kind) m.gen) m.want) m.done
   omega
  ·split
   ·have h1:=aL (aD [] m.kind) m.gen
    have h2:=aL (aD (aD [] m.kind) m.gen) m.i
    have h3:=aL (aD (aD (aD [] m.kind) m.gen) m.i) m.b.length
    unfold cA
    simp only[List.length_append]
    omega
   ·have h1:=aL (aD [] m.kind) m.gen;omega
theorem aIk {E:aS} (U:Sys E) (m:Msg) (hm:m.lim 1048576):E 301 [gv (m.cs aJ)]=some ([ov 1 (aT (cQ m))],[]):=by
 have a:=aKh U m hm
 cases hr:bS m
 ·rw[hr]at a
  have e:cQ m=[]:=by unfold cQ;rw[if_neg (by rw[hr];decide)]
  rw[e]
  refine U.run rfl rfl fun W Z=>?_
  conv=>lhs;whnf
  apply Z.w (a)
  conv=>lhs;whnf
  repeat((first|apply Z.t|apply Z.f|(apply Z.q;exact aE));conv=>lhs;whnf)
  rfl
 ·rw[hr]at a
  have e:cQ m=aD (iE m) (bG (iE m)):=by unfold cQ;rw[if_pos hr]
  have hk:=aAX hr
  have hbl:=aF3 hr
  have hL:=aHn hr
  rw[e]
  clear e
  obtain⟨kind,gen,man,want,done,i,b⟩:=m
  have hk:kind=1∨kind=2∨kind=3∨kind=4:=hk
  have hms:man.sums.length≤1048576:=hm.1
  have hbl:b.length≤6∨kind≠3:=hbl
  clear hm
  rcases hk with hk|hk|hk|hk
  ·subst hk
   have hB:iE ⟨1,gen,man,want,done,i,b⟩=cR (aD [] 1) man:=rfl
   rw[hB]at hL ⊢
   have s0:=aL [] 1
   refine U.run rfl rfl fun W Z=>?_
   conv=>lhs;whnf
   apply Z.w (a)
   conv=>lhs;whnf
   repeat((first|apply Z.t|apply Z.f|(apply Z.q;exact aE));conv=>lhs;whnf)
   apply Z.w (bD U [] 1 (by simp))
   conv=>lhs;whnf
   repeat((first|apply Z.t|apply Z.f|(apply Z.q;exact aE));conv=>lhs;whnf)
   apply Z.w (aIi U (aD [] 1) man (by simp at s0;omega) hms)
   conv=>lhs;whnf
   repeat((first|apply Z.t|apply Z.f|(apply Z.q;exact aE));conv=>lhs;whnf)
   apply Z.w (fD U (cR (aD [] 1) man) (by omega))
   conv=>lhs;whnf
   repeat((first|apply Z.t|apply Z.f|(apply Z.q;exact aE));conv=>lhs;whnf)
   apply Z.w (bD U (cR (aD [] 1) man) (bG (cR (aD [] 1) man)) (by omega))
   conv=>lhs;whnf
   repeat((first|apply Z.t|apply Z.f|(apply Z.q;exact aE));conv=>lhs;whnf)
   rfl
  ·subst hk
   have hB:iE ⟨2,gen,man,want,done,i,b⟩=bR (bR (aD (aD [] 2) gen) want) done:=rfl
   rw[hB]at hL ⊢
   have s0:=aL [] 2
   have s1:=aL (aD [] 2) gen
   have s2:=aL (aD (aD [] 2) gen) (mQ want)
   have s3:=aL (aD (aD (aD [] 2) gen) (mQ want)) (yB want)
   have s4:=aL (aD (aD (aD (aD [] 2) gen) (mQ want)) (yB want)) (mQ done)
   have s5:=aL (aD (aD (aD (aD (aD [] 2) gen) (mQ want)) (yB want)) (mQ done)) (yB done)
   simp only[List.length_nil]at s0
   refine U.run rfl rfl fun W Z=>?_
   conv=>lhs;whnf
   apply Z.w (a)
   conv=>lhs;whnf
   repeat((first|apply Z.t|apply Z.f|(apply Z.q;exact aE));conv=>lhs;whnf)
   apply Z.w (bD U [] 2 (by simp))
   conv=>lhs;whnf
   repeat((first|apply Z.t|apply Z.f|(apply Z.q;exact aE));conv=>lhs;whnf)
   apply Z.w (wG U want)
   conv=>lhs;whnf
   repeat((first|apply Z.t|apply Z.f|(apply Z.q;exact aE));conv=>lhs;whnf)
   apply Z.w (bD U _ gen (by omega))
   conv=>lhs;whnf
   repeat((first|apply Z.t|apply Z.f|(apply Z.q;exact aE));conv=>lhs;whnf)
   apply Z.w (bD U _ (mQ want) (by omega))
   conv=>lhs;whnf
   repeat((first|apply Z.t|apply Z.f|(apply Z.q;exact aE));conv=>lhs;whnf)
   apply Z.w (bD U _ (yB want) (by omega))
   conv=>lhs;whnf
   repeat((first|apply Z.t|apply Z.f|(apply Z.q;exact aE));conv=>lhs;whnf)
   apply Z.w (wG U done)
   conv=>lhs;whnf
   repeat((first|apply Z.t|apply Z.f|(apply Z.q;exact aE));conv=>lhs;whnf)
   apply Z.w (bD U _ (mQ done) (by omega))
   conv=>lhs;whnf
   repeat((first|apply Z.t|apply Z.f|(apply Z.q;exact aE));conv=>lhs;whnf)
   apply Z.w (bD U _ (yB done) (by omega))
   conv=>lhs;whnf
   repeat((first|apply Z.t|apply Z.f|(apply Z.q;exact aE));conv=>lhs;whnf)
   apply Z.w (fD U (bR (bR (aD (aD [] 2) gen) want) done) (by omega))
   conv=>lhs;whnf
   repeat((first|apply Z.t|apply Z.f|(apply Z.q;exact aE));conv=>lhs;whnf)
   apply Z.w (bD U (bR (bR (aD (aD [] 2) gen) want) done) (bG (bR (bR (aD (aD [] 2) gen) want) done)) (by omega))
   conv=>lhs;whnf
   repeat((first|apply Z.t|apply Z.f|(apply Z.q;exact aE));conv=>lhs;whnf)
   rfl
  ·subst hk
   have hB:iE ⟨3,gen,man,want,done,i,b⟩=cA (aD (aD (aD [] 3) gen) i) b:=rfl
   rw[hB]at hL ⊢
   have s0:=aL [] 3
   have s1:=aL (aD [] 3) gen
   have s2:=aL (aD (aD [] 3) gen) i
   simp only[List.length_nil]at s0
   refine U.run rfl rfl fun W Z=>?_
   conv=>lhs;whnf
   apply Z.w (a)
   conv=>lhs;whnf
   repeat((first|apply Z.t|apply Z.f|(apply Z.q;exact aE));conv=>lhs;whnf)
   apply Z.w (bD U [] 3 (by simp))
   conv=>lhs;whnf
   repeat((first|apply Z.t|apply Z.f|(apply Z.q;exact aE));conv=>lhs;whnf)
   apply Z.w (bD U _ gen (by omega))
   conv=>lhs;whnf
   repeat((first|apply Z.t|apply Z.f|(apply Z.q;exact aE));conv=>lhs;whnf)
   apply Z.w (bD U _ i (by omega))
   conv=>lhs;whnf
   repeat((first|apply Z.t|apply Z.f|(apply Z.q;exact aE));conv=>lhs;whnf)
   apply Z.w (aHk U _ b (by omega) (by omega))
   conv=>lhs;whnf
   repeat((first|apply Z.t|apply Z.f|(apply Z.q;exact aE));conv=>lhs;whnf)
   apply Z.w (fD U (cA (aD (aD (aD [] 3) gen) i) b) (by omega))
   conv=>lhs;whnf
   repeat((first|apply Z.t|apply Z.f|(apply Z.q;exact aE));conv=>lhs;whnf)
   apply Z.w (bD U (cA (aD (aD (aD [] 3) gen) i) b) (bG (cA (aD (aD (aD [] 3) gen) i) b)) (by omega))
   conv=>lhs;whnf
   repeat((first|apply Z.t|apply Z.f|(apply Z.q;exact aE));conv=>lhs;whnf)
   rfl
  ·subst hk
   have hB:iE ⟨4,gen,man,want,done,i,b⟩=aD (aD [] 4) gen:=rfl
   rw[hB]at hL ⊢
   have s0:=aL [] 4
   simp only[List.length_nil]at s0
   refine U.run rfl rfl fun W Z=>?_
   conv=>lhs;whnf
   apply Z.w (a)
   conv=>lhs;whnf
   repeat((first|apply Z.t|apply Z.f|(apply Z.q;exact aE));conv=>lhs;whnf)
   apply Z.w (bD U [] 4 (by simp))
   conv=>lhs;whnf
   repeat((first|apply Z.t|apply Z.f|(apply Z.q;exact aE));conv=>lhs;whnf)
   apply Z.w (bD U _ gen (by omega))
   conv=>lhs;whnf
   repeat((first|apply Z.t|apply Z.f|(apply Z.q;exact aE));conv=>lhs;whnf)
   apply Z.w (fD U (aD (aD [] 4) gen) (by omega))
   conv=>lhs;whnf
   repeat((first|apply Z.t|apply Z.f|(apply Z.q;exact aE));conv=>lhs;whnf)
   apply Z.w (bD U (aD (aD [] 4) gen) (bG (aD (aD [] 4) gen)) (by omega))
   conv=>lhs;whnf
   repeat((first|apply Z.t|apply Z.f|(apply Z.q;exact aE));conv=>lhs;whnf)
   rfl
theorem aAo {E:aS} (U:Sys E) (m:Msg) (hm:m.lim 1048576):E 310 [gv (m.cs aJ)]=some ([ov 1 (aT (cQ m))],[]):=by
 have a:=aDj U m hm
 cases hr:bS m
 ·rw[hr]at a
  have e:cQ m=[]:=by unfold cQ;rw[if_neg (by rw[hr];decide)]
  rw[e]
  refine U.run rfl rfl fun W Z=>?_
  conv=>lhs;whnf
  apply Z.w (a)
  conv=>lhs;whnf
  repeat((first|apply Z.t|apply Z.f|(apply Z.q;exact aE));conv=>lhs;whnf)
  rfl
 ·rw[hr]at a
  have e:cQ m=aD (iE m) (bG (iE m)):=by unfold cQ;rw[if_pos hr]
  have hk:=aAX hr
  have hbl:=aF3 hr
  have hL:=aHn hr
  rw[e]
  clear e
  obtain⟨kind,gen,man,want,done,i,b⟩:=m
  have hk:kind=1∨kind=2∨kind=3∨kind=4:=hk
  have hms:man.sums.length≤1048576:=hm.1
  have hbl:b.length≤6∨kind≠3:=hbl
  clear hm
  rcases hk with hk|hk|hk|hk
  ·subst hk
   have hB:iE ⟨1,gen,man,want,done,i,b⟩=cR (aD [] 1) man:=rfl
   rw[hB]at hL ⊢
   have s0:=aL [] 1
   refine U.run rfl rfl fun W Z=>?_
   conv=>lhs;whnf
   apply Z.w (a)
   conv=>lhs;whnf
   repeat((first|apply Z.t|apply Z.f|(apply Z.q;exact aE));conv=>lhs;whnf)
   apply Z.w (bI U [] 1 (by simp))
   conv=>lhs;whnf
   repeat((first|apply Z.t|apply Z.f|(apply Z.q;exact aE));conv=>lhs;whnf)
   apply Z.w (aIj U (aD [] 1) man (by simp at s0;omega) hms)
   conv=>lhs;whnf
   repeat((first|apply Z.t|apply Z.f|(apply Z.q;exact aE));conv=>lhs;whnf)
   apply Z.w (fE U (cR (aD [] 1) man) (by omega))
   conv=>lhs;whnf
   repeat((first|apply Z.t|apply Z.f|(apply Z.q;exact aE));conv=>lhs;whnf)
   apply Z.w (bI U (cR (aD [] 1) man) (bG (cR (aD [] 1) man)) (by omega))
   conv=>lhs;whnf
   repeat((first|apply Z.t|apply Z.f|(apply Z.q;exact aE));conv=>lhs;whnf)
   rfl
  ·subst hk
   have hB:iE ⟨2,gen,man,want,done,i,b⟩=bR (bR (aD (aD [] 2) gen) want) done:=rfl
   rw[hB]at hL ⊢
   have s0:=aL [] 2
   have s1:=aL (aD [] 2) gen
   have s2:=aL (aD (aD [] 2) gen) (mQ want)
   have s3:=aL (aD (aD (aD [] 2) gen) (mQ want)) (yB want)
   have s4:=aL (aD (aD (aD (aD [] 2) gen) (mQ want)) (yB want)) (mQ done)
   have s5:=aL (aD (aD (aD (aD (aD [] 2) gen) (mQ want)) (yB want)) (mQ done)) (yB done)
   simp only[List.length_nil]at s0
   refine U.run rfl rfl fun W Z=>?_
   conv=>lhs;whnf
   apply Z.w (a)
   conv=>lhs;whnf
   repeat((first|apply Z.t|apply Z.f|(apply Z.q;exact aE));conv=>lhs;whnf)
   apply Z.w (bI U [] 2 (by simp))
   conv=>lhs;whnf
   repeat((first|apply Z.t|apply Z.f|(apply Z.q;exact aE));conv=>lhs;whnf)
   apply Z.w (bI U _ gen (by omega))
   conv=>lhs;whnf
   repeat((first|apply Z.t|apply Z.f|(apply Z.q;exact aE));conv=>lhs;whnf)
   apply Z.w (aAn U (aD (aD [] 2) gen) want (by omega))
   conv=>lhs;whnf
   repeat((first|apply Z.t|apply Z.f|(apply Z.q;exact aE));conv=>lhs;whnf)
   apply Z.w (aAn U (bR (aD (aD [] 2) gen) want) done (by unfold bR;omega))
   conv=>lhs;whnf
   repeat((first|apply Z.t|apply Z.f|(apply Z.q;exact aE));conv=>lhs;whnf)
   apply Z.w (fE U (bR (bR (aD (aD [] 2) gen) want) done) (by omega))
   conv=>lhs;whnf
   repeat((first|apply Z.t|apply Z.f|(apply Z.q;exact aE));conv=>lhs;whnf)
   apply Z.w (bI U (bR (bR (aD (aD [] 2) gen) want) done) (bG (bR (bR (aD (aD [] 2) gen) want) done)) (by omega))
   conv=>lhs;whnf
   repeat((first|apply Z.t|apply Z.f|(apply Z.q;exact aE));conv=>lhs;whnf)
   rfl
  ·subst hk
   have hB:iE ⟨3,gen,man,want,done,i,b⟩=cA (aD (aD (aD [] 3) gen) i) b:=rfl
   rw[hB]at hL ⊢
   have s0:=aL [] 3
   have s1:=aL (aD [] 3) gen
   have s2:=aL (aD (aD [] 3) gen) i
   simp only[List.length_nil]at s0
   refine U.run rfl rfl fun W Z=>?_
   conv=>lhs;whnf
   apply Z.w (a)
   conv=>lhs;whnf
   repeat((first|apply Z.t|apply Z.f|(apply Z.q;exact aE));conv=>lhs;whnf)
   apply Z.w (bI U [] 3 (by simp))
   conv=>lhs;whnf
   repeat((first|apply Z.t|apply Z.f|(apply Z.q;exact aE));conv=>lhs;whnf)
   apply Z.w (bI U _ gen (by omega))
   conv=>lhs;whnf
   repeat((first|apply Z.t|apply Z.f|(apply Z.q;exact aE));conv=>lhs;whnf)
   apply Z.w (bI U _ i (by omega))
   conv=>lhs;whnf
   repeat((first|apply Z.t|apply Z.f|(apply Z.q;exact aE));conv=>lhs;whnf)
   apply Z.w (aHl U _ b (by omega) (by omega))
   conv=>lhs;whnf
   repeat((first|apply Z.t|apply Z.f|(apply Z.q;exact aE));conv=>lhs;whnf)
   apply Z.w (fE U (cA (aD (aD (aD [] 3) gen) i) b) (by omega))
   conv=>lhs;whnf
   repeat((first|apply Z.t|apply Z.f|(apply Z.q;exact aE));conv=>lhs;whnf)
   apply Z.w (bI U (cA (aD (aD (aD [] 3) gen) i) b) (bG (cA (aD (aD (aD [] 3) gen) i) b)) (by omega))
   conv=>lhs;whnf
   repeat((first|apply Z.t|apply Z.f|(apply Z.q;exact aE));conv=>lhs;whnf)
   rfl
  ·subst hk
   have hB:iE ⟨4,gen,man,want,done,i,b⟩=aD (aD [] 4) gen:=rfl
   rw[hB]at hL ⊢
   have s0:=aL [] 4
   simp only[List.length_nil]at s0
   refine U.run rfl rfl fun W Z=>?_
   conv=>lhs;whnf
   apply Z.w (a)
   conv=>lhs;whnf
   repeat((first|apply Z.t|apply Z.f|(apply Z.q;exact aE));conv=>lhs;whnf)
   apply Z.w (bI U [] 4 (by simp))
   conv=>lhs;whnf
   repeat((first|apply Z.t|apply Z.f|(apply Z.q;exact aE));conv=>lhs;whnf)
   apply Z.w (bI U _ gen (by omega))
   conv=>lhs;whnf
   repeat((first|apply Z.t|apply Z.f|(apply Z.q;exact aE));conv=>lhs;whnf)
   apply Z.w (fE U (aD (aD [] 4) gen) (by omega))
   conv=>lhs;whnf
   repeat((first|apply Z.t|apply Z.f|(apply Z.q;exact aE));conv=>lhs;whnf)
   apply Z.w (bI U (aD (aD [] 4) gen) (bG (aD (aD [] 4) gen)) (by omega))
   conv=>lhs;whnf
   repeat((first|apply Z.t|apply Z.f|(apply Z.q;exact aE));conv=>lhs;whnf)
   rfl
theorem aLT (m:Msg):(cQ m).length≤1009:=by
 unfold cQ
 split
 ·rename_i h
  have h1:=aHn h
  have h2:=aL (iE m) (bG (iE m))
  omega
 ·simp
def aEp (a b:Int) (m:Msg):Pkt:=⟨a,b,cQ m⟩
theorem aFB {E:aS} (U:Sys E) (a b:Int) (m:Msg) (hm:m.lim 1048576):E 295 [iv a,iv b,gv (m.cs aJ)]=some ([gv ((aEp a b m).cs cT)],[]):=by
 refine U.run rfl rfl fun W Z=>?_
 conv=>lhs;whnf
 apply Z.w (aIk U m hm)
 conv=>lhs;whnf
 repeat((first|apply Z.t|apply Z.f|(apply Z.q;exact aE));conv=>lhs;whnf)
 rfl
theorem aFC {E:aS} (U:Sys E) (a b:Int) (m:Msg) (hm:m.lim 1048576):E 296 [iv a,iv b,gv (m.cs aJ)]=some ([gv ((aEp a b m).cs cT)],[]):=by
 refine U.run rfl rfl fun W Z=>?_
 conv=>lhs;whnf
 apply Z.w (aAo U m hm)
 conv=>lhs;whnf
 repeat((first|apply Z.t|apply Z.f|(apply Z.q;exact aE));conv=>lhs;whnf)
 rfl
def aHo (b:aC):Bool:=b.all fun x=>decide (x=0)
theorem aJf (x:UInt8):decide ((x.toNat:Int)=0)=decide (x=0):=by
 rw[decide_eq_decide]
 constructor
 ·intro h;exact UInt8.toNat_inj.mp (by simpa using h)
 ·rintro rfl;rfl
theorem aIl {E:aS} (U:Sys E) (b:aC) (hb:b.length≤1099511627776):E 350 [sv (aT b)]=some ([bv (aHo b)],[]):=by
 refine U.run rfl rfl fun W Z=>?_
 conv=>lhs;whnf
 refine Z.loop (σ:=Nat) (γ:=Nat) (fun i s=>s.sl 3 (v1 (.t (.int .i64 i)))) (fun i n=>i=n∧n≤b.length) (fun n=>b.length-n) (fun n=>([bv (aHo (b.drop n))],[])) 0 0 ?_ ?_ ?_ ?_
 ·intro K
  conv=>lhs;whnf
  conv=>rhs;whnf
  try rfl
 ·simp
 ·rintro kl n _ ⟨rfl,hn⟩ ih
  conv=>lhs;whnf
  rw[bE]
  apply Z.b<;>intro h2<;>conv=>lhs;whnf
  ·have h2:n<b.length:=by simpa using h2
   rw[List.drop_eq_getElem_cons h2,aHo,List.all_cons,← aJf]
   repeat((first|apply Z.t|apply Z.f|(apply Z.q;exact aE)|(refine Z.w (cP ?_) ?_;omega));conv=>lhs;whnf)
   apply Z.b<;>intro h3<;>conv=>lhs;whnf
   ·have h3:decide ((b[n].toNat:Int)=0)=false:=by simpa using h3
    rw[h3];rfl
   ·have h3:decide ((b[n].toNat:Int)=0)=true:=by simpa using h3
    rw[h3]
    refine ih (n+1) (n+1) _ ?_ ⟨rfl,by omega⟩ (by omega)
    intro K
    conv=>lhs;whnf
    conv=>rhs;whnf
    try rfl
    rw[show IntKind.i64.wrap ((n:Int)+1)=_ from aO (by omega)]
  ·have:n=b.length:=by simp at h2;omega
   subst this
   rw[List.drop_length];rfl
 ·rfl
theorem aLU {E:aS} (U:Sys E) (x:UInt8):E 363 [u8v x]=some ([bv (!decide (x=0))],[]):=by
 rw[← aJf]
 refine U.run rfl rfl fun W Z=>?_
 conv=>lhs;whnf
 rfl
theorem aEq {E:aS} (U:Sys E) (l:List UInt8) (h0:l.length≤1099511627776)  : E 364 [sv (aT l), .fn 363 []]=some ([iv (qH (fun x:UInt8 => !decide (x=0)) 0 l)],[]):=by
 have hrl:(aT l).length=l.length:=by simp[aT,bN]
 refine U.run rfl rfl fun W Z=>?_
 conv=>lhs;whnf
 refine Z.loop (σ:=Nat) (γ:=Nat) (fun i s=>s.sl 8 (v1 (.t (.int .i64 i)))) (fun i n=>i=n∧n≤l.length) (fun n=>l.length-n) (fun n=>([iv (qH (fun x:UInt8 => !decide (x=0)) n (l.drop n))],[])) 0 0 ?_ ?_ ?_ ?_
 ·intro K
  conv=>lhs;whnf
  conv=>rhs;whnf
  try rfl
 ·simp
 ·rintro kl n _ ⟨rfl,hn⟩ ih
  conv=>lhs;whnf
  apply Z.b<;>intro h2<;>conv=>lhs;whnf
  ·have h2:n<l.length:=by simpa[hrl] using h2
   rw[List.drop_eq_getElem_cons h2]
   repeat((first|apply Z.t|apply Z.f|(apply Z.q;exact aE)|(refine Z.w (cP ?_) ?_;omega));conv=>lhs;whnf)
   apply Z.w (aLU U l[n])
   conv=>lhs;whnf
   try(apply Z.q;exact aE;conv=>lhs;whnf)
   simp only[qH]
   apply Z.b<;>intro h3<;>conv=>lhs;whnf
   ·simp only[h3,if_true];rfl
   ·simp only[h3,if_false,Bool.false_eq_true]
    refine ih (n+1) (n+1) _ ?_ ⟨rfl,by omega⟩ (by omega)
    intro K
    conv=>lhs;whnf
    conv=>rhs;whnf
    try rfl
    rw[show IntKind.i64.wrap ((n:Int)+1)=_ from aO (by omega)]
    try rfl
  ·have:n=l.length:=by simp[hrl]at h2;omega
   subst this
   rw[List.drop_length];rfl
 ·rfl
theorem yC {E:aS} (U:Sys E) (l:aC) (h0:l.length≤1099511627776):E 362 [sv (aT l), .fn 363 []]=some ([bv (!aHo l)],[]):=by
 have e:(!aHo l)=l.any fun x => !decide (x=0):=by
  unfold aHo
  rw[Bool.eq_iff_iff]
  simp
 rw[e]
 refine U.run rfl rfl fun W Z=>?_
 conv=>lhs;whnf
 apply Z.w (aEq U l h0)
 conv=>lhs;whnf
 try(apply Z.q;exact aE;conv=>lhs;whnf)
 rw[aLM]
 rfl
theorem aVg {a b:Int} (h:a=b):(!decide (a=b))=false:=by simp[h]
theorem aVU {a b:Int} (h:¬ a=b):(!decide (a=b))=true:=by simp[h]
theorem aSa (m:Man):bT (cL m)=true:=by
 unfold cL kO
 split
 ·rename_i h
  have h:=bL h
  generalize m.sums.length=n at h ⊢
  have hp:2 ^ n≤2 ^ 40:=Nat.pow_le_pow_right (by decide) (by omega)
  have h40:(2:Nat) ^ 40=1099511627776:=by decide
  have h1:1≤2 ^ n:=Nat.one_le_two_pow
  rw[show min ((n:Int).toNat) IntKind.i64.bits=n from by simp only[IntKind.bits];omega,show(1:Int)*2 ^ n=((2 ^ n:Nat):Int) from by push_cast;omega]
  generalize 2 ^ n=p at hp h1 ⊢
  rw[show IntKind.i64.wrap (p:Int)=p from aK (by omega),show IntKind.i64.wrap ((p:Int)-1)=(p:Int)-1 from aK (by omega)]
  simp only[bT,aR,Bool.and_eq_true,decide_eq_true_eq]
  omega
 ·decide
def aLV (m:Man) (x:Bld) (i:Nat) (s:Sum):Bool:=if cX x.hav i=true then decide (bC (dR x.buf m.size i)=s) else aHo (dR x.buf m.size i)
def aKi (m:Man) (x:Bld):Nat→List Sum→Bool
 |_,[]=>true
 |i,s::r=>aLV m x i s&&aKi m x (i+1) r
def cM (m:Man) (x:Bld):Bool:=aX m&&(bT x.hav&&(decide (nK x.hav (cL m)=0)&&(decide ((x.buf.length:Int)=m.len)&&aKi m x 0 m.sums)))
theorem wH {E:aS} (U:Sys E) (m:Man) (x:Bld) (hm:m.sums.length≤1048576) (hx:x.buf.length≤1048576):E 346 [gv (m.cs aJ),gv (x.cs aJ)]=some ([bv (cM m x)],[]):=by
 have a1:=eU U m hm
 have a2:=cG U x.hav
 have a3:=rX U m
 have a4:=vU U x.hav (cL m)
 have hrl:(m.sums.map Sum.row).length=m.sums.length:=List.length_map _
 unfold cM
 cases h1:aX m
 ·rw[h1]at a1
  refine U.run rfl rfl fun W Z=>?_
  conv=>lhs;whnf
  repeat'((first|apply Z.t|apply Z.f|(apply Z.q;exact aE)|apply Z.w (a1)|(apply Z.b<;>intro h))<;>conv=>lhs;whnf)
  rfl
 ·rw[h1]at a1
  cases h2:bT x.hav
  ·rw[h2]at a2
   refine U.run rfl rfl fun W Z=>?_
   conv=>lhs;whnf
   repeat'((first|apply Z.t|apply Z.f|(apply Z.q;exact aE)|apply Z.w (a1)|apply Z.w (a2)|(apply Z.b<;>intro h))<;>conv=>lhs;whnf)
   rfl
  ·rw[h2]at a2
   rw[show vT x.hav (cL m)=nK x.hav (cL m) from by unfold vT;rw[if_pos ⟨h2,aSa m⟩]]at a4
   by_cases h3:nK x.hav (cL m)=0
   ·by_cases h4:(x.buf.length:Int)=m.len
    ·have h4':((aT x.buf).length:Int)=m.len:=by rw[bE];exact h4
     rw[decide_eq_true h3,decide_eq_true h4]
     simp only[Bool.true_and]
     refine U.run rfl rfl fun W Z=>?_
     conv=>lhs;whnf
     repeat'((first|with_reducible apply Z.bf (aVg h3)|with_reducible apply Z.bf (aVg h4')|apply Z.t|apply Z.f|(apply Z.q;exact aE)|apply Z.w (a1)|apply Z.w (a2)|apply Z.w (a3)|apply Z.w (a4)|(apply Z.b<;>intro h))<;>conv=>lhs;whnf)
     refine Z.loop (σ:=Nat) (γ:=Nat) (fun i s=>s.sl 5 (v1 (.t (.int .i64 i)))) (fun i k=>i=k∧k≤m.sums.length) (fun k=>m.sums.length-k) (fun k=>([bv (aKi m x k (m.sums.drop k))],[])) 0 0 ?_ ?_ ?_ ?_
     ·intro K
      conv=>lhs;whnf
      conv=>rhs;whnf
      try rfl
     ·exact⟨rfl,by omega⟩
     ·rintro kl n _ ⟨rfl,hn⟩ ih
      conv=>lhs;whnf
      rw[hrl]
      apply Z.b<;>intro g1<;>conv=>lhs;whnf
      ·have g1:n<m.sums.length:=by simpa using g1
       have hs:=gJ (size:=m.size) (n:=m.len) (i:=n)
       have hk:dR x.buf m.size n=(x.buf.drop (aY m.size m.len n).toNat).take (aU m.size m.len n).toNat:=by unfold dR;rw[h4]
       have hkl:=mO x.buf m.size n
       rw[List.drop_eq_getElem_cons g1,aKi,aLV]
       apply Z.w (eG U m.size m.len n)
       conv=>lhs;whnf
       repeat((first|apply Z.t|apply Z.f|(apply Z.q;exact aE));conv=>lhs;whnf)
       rw[show IntKind.i64.wrap (aY m.size m.len n+aU m.size m.len n)=aY m.size m.len n+aU m.size m.len n from aK (by omega)]
       repeat((first|apply Z.t|apply Z.f|(apply Z.q;exact aE));conv=>lhs;whnf)
       refine Z.q (by exact⟨by omega,by rw[aI];omega,bB _⟩) ?_
       conv=>lhs;whnf
       have hc:((aT x.buf).drop (aY m.size m.len n).toNat).take ((aY m.size m.len n+aU m.size m.len n).toNat-(aY m.size m.len n).toNat)=aT (dR x.buf m.size n):=by
        rw[iI,hk]
        congr 2
        omega
       apply Z.w (dA U x.hav n)
       conv=>lhs;whnf
       repeat((first|apply Z.t|apply Z.f|(apply Z.q;exact aE));conv=>lhs;whnf)
       apply Z.b<;>intro gi<;>conv=>lhs;whnf
       ·rw[if_pos gi]
        repeat((first|apply Z.t|apply Z.f|(apply Z.q;exact aE)|(refine Z.w (cP ?_) ?_;omega));conv=>lhs;whnf)
        rw[hc]
        apply Z.w (eS U (dR x.buf m.size n) (by omega))
        conv=>lhs;whnf
        repeat((first|apply Z.t|apply Z.f|(apply Z.q;exact aE));conv=>lhs;whnf)
        apply Z.b<;>intro g4<;>conv=>lhs;whnf
        ·have g4:¬ bC (dR x.buf m.size n)=m.sums[n]:=by intro e;rw[e]at g4;simp at g4
         rw[decide_eq_false g4]
         repeat((first|apply Z.t|apply Z.f|(apply Z.q;exact aE));conv=>lhs;whnf)
         rfl
        ·have g4:bC (dR x.buf m.size n)=m.sums[n]:=by
          revert g4
          generalize bC (dR x.buf m.size n)=y
          generalize m.sums[n]=z
          cases y;cases z
          simp
         rw[decide_eq_true g4]
         simp only[Bool.true_and]
         repeat((first|apply Z.t|apply Z.f|(apply Z.q;exact aE));conv=>lhs;whnf)
         apply Z.w (dA U x.hav n)
         conv=>lhs;whnf
         repeat((first|apply Z.t|apply Z.f|(apply Z.q;exact aE));conv=>lhs;whnf)
         rw[gi]
         repeat((first|apply Z.t|apply Z.f|(apply Z.q;exact aE));conv=>lhs;whnf)
         refine ih (n+1) (n+1) _ ?_ ⟨rfl,by omega⟩ (by omega)
         intro K
         conv=>lhs;whnf
         conv=>rhs;whnf
         try rfl
         rw[show IntKind.i64.wrap ((n:Int)+1)=_ from aO (by omega)]
         try rfl
       ·rw[if_neg (by rw[gi];decide)]
        repeat((first|apply Z.t|apply Z.f|(apply Z.q;exact aE));conv=>lhs;whnf)
        apply Z.w (dA U x.hav n)
        conv=>lhs;whnf
        repeat((first|apply Z.t|apply Z.f|(apply Z.q;exact aE));conv=>lhs;whnf)
        rw[gi]
        repeat((first|apply Z.t|apply Z.f|(apply Z.q;exact aE));conv=>lhs;whnf)
        rw[hc]
        apply Z.w (aIl U (dR x.buf m.size n) (by omega))
        conv=>lhs;whnf
        repeat((first|apply Z.t|apply Z.f|(apply Z.q;exact aE));conv=>lhs;whnf)
        apply Z.b<;>intro g5<;>conv=>lhs;whnf
        ·rw[jQ g5]
         rfl
        ·rw[gA g5]
         simp only[Bool.true_and]
         refine ih (n+1) (n+1) _ ?_ ⟨rfl,by omega⟩ (by omega)
         intro K
         conv=>lhs;whnf
         conv=>rhs;whnf
         try rfl
         rw[show IntKind.i64.wrap ((n:Int)+1)=_ from aO (by omega)]
         try rfl
      ·have:n=m.sums.length:=by simp at g1;omega
       rw[this,List.drop_length]
       rfl
     ·rfl
    ·have h4':¬ ((aT x.buf).length:Int)=m.len:=by rw[bE];exact h4
     rw[decide_eq_true h3,decide_eq_false h4]
     refine U.run rfl rfl fun W Z=>?_
     conv=>lhs;whnf
     repeat'((first|with_reducible apply Z.bf (aVg h3)|with_reducible apply Z.bt (aVU h4')|apply Z.t|apply Z.f|(apply Z.q;exact aE)|apply Z.w (a1)|apply Z.w (a2)|apply Z.w (a3)|apply Z.w (a4)|(apply Z.b<;>intro h))<;>conv=>lhs;whnf)
     rfl
   ·rw[decide_eq_false h3]
    refine U.run rfl rfl fun W Z=>?_
    conv=>lhs;whnf
    repeat'((first|with_reducible apply Z.bt (aVU h3)|apply Z.t|apply Z.f|(apply Z.q;exact aE)|apply Z.w (a1)|apply Z.w (a2)|apply Z.w (a3)|apply Z.w (a4)|(apply Z.b<;>intro h))<;>conv=>lhs;whnf)
    rfl
theorem nM {a b:Nat} (ha:a<1099511627776) (hb:b<1099511627776):aLJ (a:Int) (b:Int)=((a ||| b:Nat):Int)∧a ||| b<1099511627776:=by
 have h3:a ||| b<2 ^ 40:=Nat.or_lt_two_pow (by omega) (by omega)
 refine⟨?_,by omega⟩
 unfold aLJ
 rw[BitVec.toNat_or,BitVec.ofInt_natCast,BitVec.ofInt_natCast,BitVec.toNat_ofNat,BitVec.toNat_ofNat]
 rw[Nat.mod_eq_of_lt (show a<2 ^ IntKind.i64.bits from by simp only[IntKind.bits];omega),Nat.mod_eq_of_lt (show b<2 ^ IntKind.i64.bits from by simp only[IntKind.bits];omega)]
 exact aK (by omega)
theorem lY {n i:Nat} (hn:n<1099511627776) (hi:i<40):cX (n:Int) (i:Int)=n.testBit i:=by
 have h1:bT (n:Int)=true:=by simp only[bT,aR,Bool.and_eq_true,decide_eq_true_eq];omega
 have h2:aR (i:Int) 0 39=true:=by simp only[aR,Bool.and_eq_true,decide_eq_true_eq];omega
 unfold cX
 rw[h1,h2,show min ((i:Int).toNat) IntKind.i64.bits=i from by simp only[IntKind.bits];omega,Bool.true_and,Bool.true_and,Nat.testBit_eq_decide_div_mod_eq]
 have e:((n:Int).fdiv (2 ^ i))=((n/2 ^ i:Nat):Int):=by
  rw[Int.fdiv_eq_ediv_of_nonneg _ (by exact_mod_cast Nat.zero_le _)]
  push_cast;rfl
 have hle:n/2 ^ i≤n:=Nat.div_le_self _ _
 rw[e]
 generalize n/2 ^ i=q at hle ⊢
 rw[BitVec.toNat_and,BitVec.ofInt_natCast,BitVec.toNat_ofNat,show(BitVec.ofInt IntKind.i64.bits 1).toNat=1 from rfl,Nat.mod_eq_of_lt (show q<2 ^ IntKind.i64.bits from by simp only[IntKind.bits];omega),Nat.and_one_is_mod]
 rw[show IntKind.i64.wrap ((q%2:Nat):Int)=((q%2:Nat):Int) from aK (by omega)]
 congr 1
 exact propext ⟨fun h=>by omega,fun h=>by omega⟩
theorem aNg {p:Nat→Bool} {i k:Nat} {a:Nat} (h:aDg p i k=(a:Int)):i≤a∧a<i+k∧p a=true:=by
 induction k generalizing i with
 |zero=>simp[aDg]at h
 |succ k ih =>
  simp only[aDg]at h
  split at h
  ·rename_i hp
   have:i=a:=by omega
   subst this
   exact⟨by omega,by omega,hp⟩
  ·have:=ih h
   exact⟨by omega,by omega,this.2.2⟩
theorem aNh {b:aC} {m:Man} {n:Nat} (hn:n<m.sums.length) {a:Nat} (h:bP b m n=(a:Int)) :
 1≤aU m.size m.len n∧aU m.size m.len n≤6∧(a:Int)+aU m.size m.len n≤b.length∧bC ((b.drop a).take (aU m.size m.len n).toNat)=m.sums[n]:=by
 rw[aHg hn]at h
 unfold jE at h
 split at h
 ·rename_i hr
  have hr:=bL hr
  obtain⟨_,h2,h3⟩:=aNg h
  rw[dS,lX]at h2
  have h3:=of_decide_eq_true h3
  refine⟨hr.1,hr.2,?_,h3⟩
  split at h2<;>omega
 ·omega
def aE2 (id:Int):List Kid→Nat
 |[]=>0
 |x::r=>if x.id≤id then aE2 id r+1 else 0
theorem aSb {id:Int} {l:List Kid}:aE2 id l≤l.length:=by
 induction l with
 |nil=>exact Nat.le_refl _
 |cons x r ih=>simp only[aE2,List.length_cons];split<;>omega
def aAY (id want done:Int):Bool:=aR id 0 6&&bT want&&bT done
def mS (l:List Kid) (id want done:Int):List Kid :=
 if aAY id want done=true then
  (if eY l id<0 then l.take (aE2 id l)++⟨id,want,done,0,0⟩::l.drop (aE2 id l)
  else match l[(eY l id).toNat]? with
   |none=>l
   |some x=>l.set (eY l id).toNat { x with want:=want,done:=aLJ x.done done,age:=0 })
 else l
theorem aEr (l:List Kid) (id want done:Int):(mS l id want done).length≤l.length+1:=by
 unfold mS
 have:=aSb (id:=id) (l:=l)
 split
 ·split
  ·simp only[List.length_append,List.length_cons,List.length_take,List.length_drop];omega
  ·split
   ·omega
   ·rw[List.length_set];omega
 ·omega
theorem aSc {l:List Kid} {id want done:Int} {n:Nat} (ho:aAY id want done=true) (hn:n<l.length) (h:eY l id=n):mS l id want done=l.set n { l[n] with want:=want,done:=aLJ l[n].done done,age:=0 }:=by
 unfold mS
 rw[if_pos ho,if_neg (by omega),h,Int.toNat_natCast,List.getElem?_eq_getElem hn]
theorem aPp {l:List Kid} {id want done:Int} (ho:aAY id want done=true) (h:eY l id<0):mS l id want done=l.take (aE2 id l)++⟨id,want,done,0,0⟩::l.drop (aE2 id l):=by
 unfold mS
 rw[if_pos ho,if_pos h]
theorem aSd {l:List Kid} {id want done:Int} (ho:aAY id want done=false):mS l id want done=l:=by
 unfold mS
 rw[if_neg (by rw[ho];decide)]
theorem aN7 {α:Type} (m:List α) (k:Nat) (r:α):(m.take k++[r])++(m.drop k).take (m.length-k)=m.take k++r::m.drop k:=by
 rw[List.take_of_length_le (l:=m.drop k) (by rw[List.length_drop];exact Nat.le_refl _),List.append_assoc]
 rfl
theorem aE3 {E:aS} (U:Sys E) (l:List Kid) (id want done:Int) (h0:l.length≤4194304):E 113 [sv (l.map Kid.row),iv id,iv want,iv done]=some ([ov 5 ((mS l id want done).map Kid.row)],[]):=by
 have hrl:(l.map Kid.row).length=l.length:=List.length_map _
 refine U.run rfl rfl fun W Z=>?_
 conv=>lhs;whnf
 refine Z.q (by exact⟨by decide,kids_rows l,by simp;omega,by simp;omega⟩) ?_
 conv=>lhs;whnf
 apply Z.bt (oV l)
 conv=>lhs;whnf
 have c1:=bK U id 0 6
 have c2:=cG U want
 have c3:=cG U done
 cases ho:aAY id want done with
 |false =>
  rw[aSd ho]
  unfold aAY at ho
  cases q1:aR id 0 6<;>rw[q1]at c1 ho
  ·apply Z.w (c1)
   conv=>lhs;whnf
   repeat((first|apply Z.t|apply Z.f|(apply Z.q;exact aE));conv=>lhs;whnf)
   rfl
  ·cases q2:bT want<;>rw[q2]at c2 ho
   ·apply Z.w (c1)
    conv=>lhs;whnf
    repeat((first|apply Z.t|apply Z.f|(apply Z.q;exact aE));conv=>lhs;whnf)
    apply Z.w (c2)
    conv=>lhs;whnf
    repeat((first|apply Z.t|apply Z.f|(apply Z.q;exact aE));conv=>lhs;whnf)
    rfl
   ·cases q3:bT done<;>rw[q3]at c3 ho
    ·apply Z.w (c1)
     conv=>lhs;whnf
     repeat((first|apply Z.t|apply Z.f|(apply Z.q;exact aE));conv=>lhs;whnf)
     apply Z.w (c2)
     conv=>lhs;whnf
     repeat((first|apply Z.t|apply Z.f|(apply Z.q;exact aE));conv=>lhs;whnf)
     apply Z.w (c3)
     conv=>lhs;whnf
     repeat((first|apply Z.t|apply Z.f|(apply Z.q;exact aE));conv=>lhs;whnf)
     rfl
    ·cases ho
 |true =>
  have hoo:=ho
  unfold aAY at hoo
  simp only[Bool.and_eq_true]at hoo
  rw[hoo.1.1]at c1
  rw[hoo.1.2]at c2
  rw[hoo.2]at c3
  apply Z.w (c1)
  conv=>lhs;whnf
  repeat((first|apply Z.t|apply Z.f|(apply Z.q;exact aE));conv=>lhs;whnf)
  apply Z.w (c2)
  conv=>lhs;whnf
  repeat((first|apply Z.t|apply Z.f|(apply Z.q;exact aE));conv=>lhs;whnf)
  apply Z.w (c3)
  conv=>lhs;whnf
  repeat((first|apply Z.t|apply Z.f|(apply Z.q;exact aE));conv=>lhs;whnf)
  have hle:aE2 id l≤l.length:=aSb
  have hlr:aE2 id l≤(l.map Kid.row).length:=by rw[hrl];exact hle
  have key:∀ m:List (List T),m.length≤l.length→(∀ e∈m,e∈l.map Kid.row)→0<5∧(∀ e∈m,e.length=5)∧m.length*40≤140737488355328∧m.length≤140737488355328∧kS m=true:=fun m hm hs =>
   ⟨by decide,fun e he=>kids_rows l e (hs e he),by omega,by omega,List.all_eq_true.mpr fun e he=>List.all_eq_true.mp (oV l) e (hs e he)⟩
  have key1:=key ((l.map Kid.row).take (aE2 id l)) (by rw[List.length_take];omega) (fun e he=>List.mem_of_mem_take he)
  have key3:=key (((l.map Kid.row).drop (aE2 id l)).take ((l.map Kid.row).length-aE2 id l)) (by rw[List.length_take];omega) (fun e he=>List.mem_of_mem_drop (List.mem_of_mem_take he))
  have key2:0<5∧(∀ e∈[Kid.row ⟨id,want,done,0,0⟩],e.length=5)∧[Kid.row ⟨id,want,done,0,0⟩].length*40≤140737488355328∧[Kid.row ⟨id,want,done,0,0⟩].length≤140737488355328∧kS [Kid.row ⟨id,want,done,0,0⟩]=true :=
   ⟨by decide,fun e he=>by rw[List.mem_singleton.mp he];rfl,show 1*40≤140737488355328 by decide,show 1≤140737488355328 by decide,rfl⟩
  apply Z.w (qI U l id (by omega))
  conv=>lhs;whnf
  repeat((first|apply Z.t|apply Z.f|(apply Z.q;exact aE));conv=>lhs;whnf)
  apply Z.b<;>intro hk<;>conv=>lhs;whnf
  ·have hk:eY l id<0:=by simpa using hk
   rw[aPp ho hk]
   refine Z.loop (σ:=Nat) (γ:=Nat) (fun i s=>s.sl 10 (v1 (.t (.int .i64 i)))) (fun i m=>i=m∧m≤l.length∧m+aE2 id (l.drop m)=aE2 id l) (fun m=>l.length-m) (fun _=>([ov 5 ((l.take (aE2 id l)++⟨id,want,done,0,0⟩::l.drop (aE2 id l)).map Kid.row)],[])) 0 0 ?_ ?_ ?_ ?_
   ·intro K
    conv=>lhs;whnf
    conv=>rhs;whnf
    try rfl
   ·exact⟨rfl,by omega,by simp⟩
   ·rintro kl m _ ⟨rfl,hm,hs⟩ ih
    conv=>lhs;whnf
    apply Z.b<;>intro g1<;>conv=>lhs;whnf
    ·have g1:m<l.length:=by simpa[hrl] using g1
     rw[List.drop_eq_getElem_cons g1,aE2]at hs
     repeat((first|apply Z.t|apply Z.f|(apply Z.q;exact aE)|(refine Z.w (cP ?_) ?_;omega));conv=>lhs;whnf)
     apply Z.b<;>intro g2<;>conv=>lhs;whnf
     ·have g2:l[m].id≤id:=of_decide_eq_true g2
      rw[if_pos g2]at hs
      refine ih (m+1) (m+1) _ ?_ ⟨rfl,by omega,by omega⟩ (by omega)
      intro K
      conv=>lhs;whnf
      conv=>rhs;whnf
      try rfl
      rw[show IntKind.i64.wrap ((m:Int)+1)=_ from aO (by omega)]
     ·have g2:¬ l[m].id≤id:=of_decide_eq_false g2
      rw[if_neg g2]at hs
      obtain rfl:m=aE2 id l:=by omega
      clear ih
      repeat((first|apply Z.t|apply Z.f|(apply Z.q;exact aE));conv=>lhs;whnf)
      refine Z.q (by exact⟨Nat.zero_le _,hlr,kids_rows l⟩) ?_
      conv=>lhs;whnf
      repeat((first|apply Z.t|apply Z.f|(apply Z.q;exact aE));conv=>lhs;whnf)
      refine Z.q (by exact⟨hlr,Nat.le_refl _,kids_rows l⟩) ?_
      conv=>lhs;whnf
      refine Z.q (by exact key1) ?_
      conv=>lhs;whnf
      refine Z.q (by exact⟨by decide,key2.2.1,by simp;omega,by simp;omega⟩) ?_
      conv=>lhs;whnf
      repeat((first|apply Z.t|apply Z.f|(apply Z.q;exact aE));conv=>lhs;whnf)
      refine Z.q (by exact⟨by decide,key3.2.1,by simp;omega,by simp;omega⟩) ?_
      conv=>lhs;whnf
      apply Z.bt (key3.2.2.2.2)
      conv=>lhs;whnf
      refine congrArg (fun b=>(some ([ov 5 b],[]):Option cU)) ?_
      show((l.map Kid.row).take (aE2 id l)++[Kid.row ⟨id,want,done,0,0⟩])++((l.map Kid.row).drop (aE2 id l)).take ((l.map Kid.row).length-aE2 id l)=_
      exact(aN7 _ _ _).trans (by rw[List.map_append,List.map_cons,List.map_take,List.map_drop])
    ·have g1:m=l.length:=by simp[hrl]at g1;omega
     rw[g1,List.drop_length]at hs
     obtain rfl:m=aE2 id l:=by simp only[aE2]at hs;omega
     clear ih
     repeat((first|apply Z.t|apply Z.f|(apply Z.q;exact aE));conv=>lhs;whnf)
     refine Z.q (by exact⟨Nat.zero_le _,hlr,kids_rows l⟩) ?_
     conv=>lhs;whnf
     repeat((first|apply Z.t|apply Z.f|(apply Z.q;exact aE));conv=>lhs;whnf)
     refine Z.q (by exact⟨hlr,Nat.le_refl _,kids_rows l⟩) ?_
     conv=>lhs;whnf
     refine Z.q (by exact key1) ?_
     conv=>lhs;whnf
     refine Z.q (by exact⟨by decide,key2.2.1,by simp;omega,by simp;omega⟩) ?_
     conv=>lhs;whnf
     repeat((first|apply Z.t|apply Z.f|(apply Z.q;exact aE));conv=>lhs;whnf)
     refine Z.q (by exact⟨by decide,key3.2.1,by simp;omega,by simp;omega⟩) ?_
     conv=>lhs;whnf
     apply Z.bt (key3.2.2.2.2)
     conv=>lhs;whnf
     refine congrArg (fun b=>(some ([ov 5 b],[]):Option cU)) ?_
     show((l.map Kid.row).take (aE2 id l)++[Kid.row ⟨id,want,done,0,0⟩])++((l.map Kid.row).drop (aE2 id l)).take ((l.map Kid.row).length-aE2 id l)=_
     exact(aN7 _ _ _).trans (by rw[List.map_append,List.map_cons,List.map_take,List.map_drop])
   ·rfl
  ·obtain⟨n,hn,hk⟩:=vS (by simpa using hk)
   rw[aSc ho hn hk,hk]
   repeat((first|apply Z.t|apply Z.f|(apply Z.q;exact aE)|(refine Z.w (cP ?_) ?_;omega));conv=>lhs;whnf)
   rw[List.map_set]
   rfl
theorem qM {E:aS} (U:Sys E) (m:Man) (x:Bld) (i:Int) (a n:Nat) (ha:aY m.size m.len i=a) (hn:aU m.size m.len i=n) (hf:a+n≤x.buf.length) (hx:x.buf.length≤1048576):E 361 [gv (x.cs aJ),gv (m.cs aJ),iv i]=some ([.v false [.alias 0 1 a n]],[]):=by
 have a4:=iD U m.size m.len i
 rw[ha,hn]at a4
 have hc:a+n≤(aT x.buf).length:=by rw[aI];exact hf
 refine U.run rfl rfl fun W Z=>?_
 conv=>lhs;whnf
 apply Z.w (a4)
 conv=>lhs;whnf
 repeat((first|apply Z.t|apply Z.f|(apply Z.q;exact aE));conv=>lhs;whnf)
 rw[show IntKind.i64.wrap ((a:Int)+(n:Int))=((a+n:Nat):Int) from(aK (by omega)).trans (by omega)]
 repeat((first|apply Z.t|apply Z.f|(apply Z.q;exact aE));conv=>lhs;whnf)
 refine Z.q (by exact⟨by omega,by rw[aI];omega,bB _⟩) ?_
 conv=>lhs;whnf
 rw[show((a:Int).toNat)=a from by omega,show(((a+n:Nat):Int)).toNat-a=n from by omega]
 refine Z.q (by exact hc) ?_
 conv=>lhs;whnf
 rfl
def gK (m:Man):Bld:=if aX m=true then⟨0,List.replicate m.len.toNat 0⟩ else⟨0,[]⟩
theorem aEs {m:Man} (h:aX m=true):0≤m.len∧m.len≤240:=by
 unfold aX at h
 split at h
 ·simp[bV]at h;omega
 ·simp only[Bool.and_eq_true]at h
  obtain⟨_,h2,_⟩:=h
  have:=oZ h2
  omega
theorem aFD {E:aS} (U:Sys E) (m:Man) (hm:m.sums.length≤1048576):E 368 [gv (m.cs aJ)]=some ([gv ((gK m).cs cT)],[]):=by
 have a:=eU U m hm
 unfold gK
 cases h:aX m
 ·rw[h]at a
  refine U.run rfl rfl fun W Z=>?_
  conv=>lhs;whnf
  repeat'((first|apply Z.t|apply Z.f|(apply Z.q;exact aE)|apply Z.w (a)|(apply Z.b<;>intro h))<;>conv=>lhs;whnf)
  rfl
 ·rw[h]at a
  have hl:=aEs h
  refine U.run rfl rfl fun W Z=>?_
  conv=>lhs;whnf
  apply Z.w (a)
  conv=>lhs;whnf
  repeat((first|apply Z.t|apply Z.f|(apply Z.q;exact aE));conv=>lhs;whnf)
  refine Z.q (by exact⟨by omega, .inl rfl,by omega,by omega,by omega,by decide,rfl⟩) ?_
  conv=>lhs;whnf
  simp only[if_true]
  rw[show(List.replicate m.len.toNat [T.int IntKind.u8 0])=aT (List.replicate m.len.toNat 0) from by simp[aT,mK]]
  rfl
theorem aFE {E:aS} (U:Sys E) (m:Man) (hm:m.sums.length≤1048576):E 371 [gv (m.cs aJ)]=some ([gv ((gK m).cs cT)],[]):=by
 have a:=eV U m hm
 unfold gK
 cases h:aX m
 ·rw[h]at a
  refine U.run rfl rfl fun W Z=>?_
  conv=>lhs;whnf
  repeat'((first|apply Z.t|apply Z.f|(apply Z.q;exact aE)|apply Z.w (a)|(apply Z.b<;>intro h))<;>conv=>lhs;whnf)
  rfl
 ·rw[h]at a
  have hl:=aEs h
  refine U.run rfl rfl fun W Z=>?_
  conv=>lhs;whnf
  apply Z.w (a)
  conv=>lhs;whnf
  repeat((first|apply Z.t|apply Z.f|(apply Z.q;exact aE));conv=>lhs;whnf)
  refine Z.q (by exact⟨by omega, .inl rfl,by omega,by omega,by omega,by decide,rfl⟩) ?_
  conv=>lhs;whnf
  simp only[if_true]
  rw[show(List.replicate m.len.toNat [T.int IntKind.u8 0])=aT (List.replicate m.len.toNat 0) from by simp[aT,mK]]
  rfl
def aHp (b:aC) (at_:Nat) (x:aC):aC:=b.take at_++x++b.drop (at_+x.length)
theorem aDl {b x:aC} {a:Nat} (h:a+x.length≤b.length):(aHp b a x).length=b.length:=by
 unfold aHp;simp;omega
theorem aJg {b x:aC} {a k:Nat} (h:a+x.length≤b.length) (hk:k<x.length):aHp b a (x.take k)=(b.take a++x.take k)++b[a+k]::b.drop (a+k+1):=by
 unfold aHp
 rw[List.length_take,show min k x.length=k from by omega,List.drop_eq_getElem_cons (show a+k<b.length by omega)]
theorem aN8 {b x:aC} {a k:Nat} (h:a+x.length≤b.length) (hk:k<x.length):(aT (aHp b a (x.take k)))[a+k]?=some (mK b[a+k]):=by
 have hl:(b.take a++x.take k).length=a+k:=by simp;omega
 rw[aJg h hk,aT,List.getElem?_map,List.getElem?_append_right (by omega),hl,Nat.sub_self]
 rfl
theorem aTG {b x:aC} {a k:Nat} (h:a+x.length≤b.length) (hk:k<x.length):(aT (aHp b a (x.take k))).set (a+k) (mK x[k])=aT (aHp b a (x.take (k+1))):=by
 have hl:(b.take a++x.take k).length=a+k:=by simp;omega
 rw[aT,← List.map_set,aJg h hk,List.set_append,if_neg (by omega),hl,Nat.sub_self,List.set_cons_zero]
 unfold aT aHp
 congr 1
 rw[List.length_take,show min (k+1) x.length=k+1 from by omega,show x.take (k+1)=x.take k++[x[k]] from by rw[List.take_add_one,List.getElem?_eq_getElem hk];rfl,Nat.add_assoc]
 simp only[List.append_assoc,List.singleton_append]
theorem aTH {b x:aC} {a:Nat}:aHp b a (x.take x.length)=aHp b a x:=by rw[List.take_length]
theorem aTI {b x:aC} {a:Nat} (h:a≤b.length):aHp b a (x.take 0)=b:=by simp[aHp]
def iF (m:Man) (x:Bld) (i:Nat) (b:aC):Bld:=⟨aLJ x.hav (aC8 i),aHp x.buf (aY m.size m.len i).toNat b⟩
theorem qN {E:aS} (U:Sys E) (m:Man) (x:Bld) (i:Nat) (b:aC) (hm:m.sums.length≤1048576) (hi:i<m.sums.length) (h40:i<40) (hs:bT x.hav=true) (hin:cX x.hav i=false) (hb:bC b=m.sums[i]) (hbl:b.length≤6) (hat:0≤aY m.size m.len i) (hfit:aY m.size m.len i+b.length≤x.buf.length) (hx:x.buf.length≤1048576):E 369 [gv (m.cs aJ), .pt true (x.cs cT),iv i,sv (aT b)]=some ([bv true],(iF m x i b).cs cT):=by
 have hrl:(m.sums.map Sum.row).length=m.sums.length:=List.length_map _
 have a1:=bK U i 0 ((m.sums.length:Int)-1)
 rw[show aR i 0 ((m.sums.length:Int)-1)=true from by simp[aR];omega]at a1
 have a2:=dA U x.hav i
 rw[hin]at a2
 have a3:=eS U b (by omega)
 have a4:=eG U m.size m.len i
 have a5:=rY U x.hav i
 rw[show lV x.hav i=aLJ x.hav (aC8 i) from by unfold lV;rw[if_pos ⟨hs,by simp[aR];omega⟩]]at a5
 refine U.run rfl rfl fun W Z=>?_
 conv=>lhs;whnf
 rw[hrl,show IntKind.i64.wrap ((m.sums.length:Int)-1)=(m.sums.length:Int)-1 from aK (by omega)]
 apply Z.w (a1)
 conv=>lhs;whnf
 repeat((first|apply Z.t|apply Z.f|(apply Z.q;exact aE));conv=>lhs;whnf)
 apply Z.w (a2)
 conv=>lhs;whnf
 repeat((first|apply Z.t|apply Z.f|(apply Z.q;exact aE));conv=>lhs;whnf)
 repeat((first|apply Z.t|apply Z.f|(apply Z.q;exact aE)|(refine Z.w (cP ?_) ?_;omega));conv=>lhs;whnf)
 apply Z.w (a3)
 conv=>lhs;whnf
 repeat((first|apply Z.t|apply Z.f|(apply Z.q;exact aE));conv=>lhs;whnf)
 apply Z.bf (by rw[hb];simp)
 conv=>lhs;whnf
 repeat((first|apply Z.t|apply Z.f|(apply Z.q;exact aE));conv=>lhs;whnf)
 rw[bE]
 apply Z.bf (by simp;omega)
 conv=>lhs;whnf
 apply Z.w (a4)
 conv=>lhs;whnf
 repeat((first|apply Z.t|apply Z.f|(apply Z.q;exact aE));conv=>lhs;whnf)
 obtain⟨a,ha⟩:∃ a:Nat,aY m.size m.len i=a:=⟨(aY m.size m.len i).toNat,by omega⟩
 have hfit':a+b.length≤x.buf.length:=by omega
 unfold iF
 rw[ha,show((a:Int).toNat)=a from by omega]
 refine Z.loop (σ:=Nat) (γ:=Nat) (fun i s=>(s.sl 11 (v1 (.t (.int .i64 i)))).bl ⟨101,1, .own,aT (aHp x.buf a (b.take i))⟩) (fun i k=>i=k∧k≤b.length) (fun k=>b.length-k) (fun _=>([bv true],Bld.cs cT ⟨aLJ x.hav (aC8 i),aHp x.buf a b⟩)) 0 0 ?_ ?_ ?_ ?_
 ·intro K
  conv=>lhs;whnf
  conv=>rhs;whnf
  try rfl
  rw[aTI (by omega)]
  rfl
 ·exact⟨rfl,by omega⟩
 ·rintro kl k _ ⟨rfl,hk⟩ ih
  conv=>lhs;whnf
  rw[bE]
  apply Z.b<;>intro g1<;>conv=>lhs;whnf
  ·have g1:k<b.length:=by simpa using g1
   repeat((first|apply Z.t|apply Z.f|(apply Z.q;exact aE)|(refine Z.w (cP ?_) ?_;omega));conv=>lhs;whnf)
   rw[show IntKind.i64.wrap ((a:Int)+(k:Int))=((a+k:Nat):Int) from(aK (by omega)).trans (by omega)]
   repeat((first|apply Z.t|apply Z.f|(apply Z.q;exact aE));conv=>lhs;whnf)
   apply Z.w (aN8 hfit' g1)
   conv=>lhs;whnf
   repeat((first|apply Z.t|apply Z.f|(apply Z.q;exact aE));conv=>lhs;whnf)
   apply Z.w (aN8 hfit' g1)
   conv=>lhs;whnf
   repeat((first|apply Z.t|apply Z.f|(apply Z.q;exact aE));conv=>lhs;whnf)
   refine ih (k+1) (k+1) _ ?_ ⟨rfl,by omega⟩ (by omega)
   intro K
   conv=>lhs;whnf
   conv=>rhs;whnf
   try rfl
   rw[show IntKind.i64.wrap ((k:Int)+1)=_ from aO (by omega),← aTG hfit' g1]
   rfl
  ·have:k=b.length:=by simp at g1;omega
   subst this
   apply Z.w (a5)
   conv=>lhs;whnf
   repeat((first|apply Z.t|apply Z.f|(apply Z.q;exact aE));conv=>lhs;whnf)
   rw[aTH]
   rfl
 ·rfl
theorem aHq {E:aS} (U:Sys E) (m:Man) (x:Bld) (i:Nat) (b:aC) (h40:i<40) (hn:aU m.size m.len i=b.length) (hat:0≤aY m.size m.len i) (hfit:aY m.size m.len i+b.length≤x.buf.length) (hx:x.buf.length≤1048576):E 372 [.pt true (x.cs cT),gv (m.cs aJ),iv i,sv (aT b)]=some ([],(iF m x i b).cs cT):=by
 obtain⟨a,ha⟩:∃ a:Nat,aY m.size m.len i=a:=⟨(aY m.size m.len i).toNat,by omega⟩
 have hfit':a+b.length≤x.buf.length:=by omega
 unfold iF
 rw[ha,show((a:Int).toNat)=a from by omega]
 have hb:=qM U m x i a b.length ha hn hfit' hx
 refine U.run rfl rfl fun W Z=>?_
 conv=>lhs;whnf
 apply Z.w (hb)
 conv=>lhs;whnf
 repeat((first|apply Z.t|apply Z.f|(apply Z.q;exact aE));conv=>lhs;whnf)
 have hl:(List.take b.length (List.drop a (aT x.buf))).length=b.length:=by simp[aI];omega
 refine Z.q (by exact⟨cI _,bB _,fun e he=>bB _ e (List.mem_of_mem_drop (List.mem_of_mem_take he))⟩) ?_
 conv=>lhs;whnf
 rw[hl,show(aT b).take b.length=aT b from List.take_of_length_le (by rw[aI];exact Nat.le_refl _)]
 repeat((first|apply Z.t|apply Z.f|(apply Z.q;exact aE));conv=>lhs;whnf)
 rw[show splice (aT x.buf) (100*0+(0+1),a).snd (aT b)=aT (aHp x.buf a b) from by simp[splice,aHp,aT,List.map_take,List.map_drop]]
 rfl
def nU (m:Man) (old:aC) (i:Nat):aC:=(old.drop (bP old m i).toNat).take (aU m.size m.len i).toNat
def wI (m:Man) (old:aC) (x:Bld) (i:Nat):Bld:=if 0≤bP old m i then iF m x i (nU m old i) else x
def aEt (m:Man) (old:aC):Nat→Bld
 |0=>gK m
 |k+1=>wI m old (aEt m old k) k
def cW (m:Man) (old:aC):Bld:=if aX m=true then aEt m old m.sums.length else gK m
theorem dO {m:Man} (h:aX m=true):m.sums.length≤40∧0≤m.len∧m.len≤240:=by
 have hl:=aEs h
 refine⟨?_,hl⟩
 unfold aX at h
 split at h
 ·have h3:m.sums.length=0:=by simp[bV]at h;simp[h]
  omega
 ·simp only[Bool.and_eq_true,decide_eq_true_eq]at h
  obtain⟨_,h2,h3,_⟩:=h
  have:=(kA h2).2.2
  omega
structure BldIn (m:Man) (k:Nat) (x:Bld):Prop where
 hav:∃ h:Nat,x.hav=h∧h<2 ^ k
 len:(x.buf.length:Int)=m.len
theorem aEu {m:Man} {old:aC} {k:Nat} (hk:k<m.sums.length) (hp:0≤bP old m k) :
 (nU m old k).length=(aU m.size m.len k).toNat∧bC (nU m old k)=m.sums[k]∧1≤aU m.size m.len k∧aU m.size m.len k≤6∧bP old m k+aU m.size m.len k≤old.length:=by
 obtain⟨a,ha⟩:∃ a:Nat,bP old m k=a:=⟨(bP old m k).toNat,by omega⟩
 obtain⟨h1,h2,h3,h4⟩:=aNh hk ha
 unfold nU
 rw[ha,show((a:Int).toNat)=a from by omega]
 refine⟨?_,h4,h1,h2,h3⟩
 rw[List.length_take,List.length_drop]
 omega
theorem aUW {m:Man} {k:Nat} {x:Bld} {b:aC} (h40:k<40) (h:BldIn m k x) (hb:(b.length:Int)=aU m.size m.len k) (h1:1≤aU m.size m.len k):BldIn m (k+1) (iF m x k b):=by
 obtain⟨⟨n,hn,hlt⟩,hl⟩:=h
 have hp:2 ^ k≤2 ^ 39:=Nat.pow_le_pow_right (by decide) (by omega)
 have hp2:(2:Nat) ^ 39=549755813888:=by decide
 have hs:=gJ (size:=m.size) (n:=m.len) (i:=k)
 refine⟨⟨n ||| 2 ^ k,?_,Nat.or_lt_two_pow (by rw[Nat.pow_succ];omega) (by rw[Nat.pow_succ];have:=Nat.one_le_two_pow (n:=k);omega)⟩,?_⟩
 ·unfold iF
  simp only
  rw[hn,(aDh (by omega)).1]
  exact(nM (by omega) (by omega)).1
 ·unfold iF
  simp only
  rw[aDl (by omega)]
  exact hl
theorem BldIn.up {m:Man} {k:Nat} {x:Bld} (h:BldIn m k x):BldIn m (k+1) x:=by
 obtain⟨⟨n,hn,hlt⟩,hl⟩:=h
 exact⟨⟨n,hn,by rw[Nat.pow_succ];omega⟩,hl⟩
theorem aF4 {m:Man} {old:aC} (hm:aX m=true) {k:Nat} (hk:k≤m.sums.length):BldIn m k (aEt m old k):=by
 have hc:=dO hm
 induction k with
 |zero =>
  simp only[aEt,gK,if_pos hm]
  exact⟨⟨0,rfl,by decide⟩,by simp;omega⟩
 |succ k ih =>
  simp only[aEt,wI]
  split
  ·rename_i hp
   have:=aEu (by omega) hp
   exact aUW (by omega) (ih (by omega)) (by omega) (by omega)
  ·exact(ih (by omega)).up
theorem BldIn.facts {m:Man} {k:Nat} {x:Bld} (hk:k<40) (h:BldIn m k x) (hs:1≤aU m.size m.len k):bT x.hav=true∧cX x.hav k=false∧0≤aY m.size m.len k∧aY m.size m.len k+aU m.size m.len k≤x.buf.length∧x.buf.length≤1048576:=by
 obtain⟨⟨n,hn,hlt⟩,hl⟩:=h
 have hp:2 ^ k≤2 ^ 39:=Nat.pow_le_pow_right (by decide) (by omega)
 have hp2:(2:Nat) ^ 39=549755813888:=by decide
 have hs:=gJ (size:=m.size) (n:=m.len) (i:=k)
 rw[hn]
 refine⟨by simp only[bT,aR,Bool.and_eq_true,decide_eq_true_eq];omega,?_,by omega,by omega,by omega⟩
 rw[lY (by omega) hk]
 exact Nat.testBit_lt_two_pow hlt
theorem gL {E:aS} (U:Sys E) (m:Man) (old:aC) (h0:m.sums.length≤1048576) (ho:old.length≤1048576):E 367 [gv (m.cs aJ),sv (aT old)]=some ([gv ((cW m old).cs cT)],[]):=by
 have a1:=aFD U m h0
 have a2:=eU U m h0
 have hrl:(m.sums.map Sum.row).length=m.sums.length:=List.length_map _
 unfold cW
 cases hm:aX m
 ·rw[hm]at a2
  refine U.run rfl rfl fun W Z=>?_
  conv=>lhs;whnf
  repeat'((first|apply Z.t|apply Z.f|(apply Z.q;exact aE)|apply Z.w (a1)|apply Z.w (a2)|(apply Z.b<;>intro h))<;>conv=>lhs;whnf)
  rfl
 ·rw[hm]at a2
  have hc:=dO hm
  refine U.run rfl rfl fun W Z=>?_
  conv=>lhs;whnf
  repeat'((first|apply Z.t|apply Z.f|(apply Z.q;exact aE)|apply Z.w (a1)|apply Z.w (a2)|(apply Z.b<;>intro h))<;>conv=>lhs;whnf)
  refine Z.loop (σ:=Nat × Bld) (γ:=Nat) (fun i s=>((s.sl 6 (v1 (.t (.int .i64 i.1)))).sl 5 (.box true [.t (.int .i64 i.2.hav), .blk 50501])).bl ⟨50501,1, .own,aT i.2.buf⟩) (fun i k=>i.1=k∧k≤m.sums.length∧i.2=aEt m old k) (fun k=>m.sums.length-k) (fun _=>([gv ((aEt m old m.sums.length).cs cT)],[])) (0,gK m) 0 ?_ ?_ ?_ ?_
  ·intro K
   conv=>lhs;whnf
   conv=>rhs;whnf
   try rfl
  ·exact⟨rfl,by omega,rfl⟩
  ·rintro kl ⟨i,x⟩ k ⟨e1,hk,e2⟩ ih
   simp only at e1 e2 hk
   subst e1
   have hx:=aF4 (old:=old) hm hk
   rw[← e2]at hx
   conv=>lhs;whnf
   rw[hrl]
   apply Z.b<;>intro g1<;>conv=>lhs;whnf
   ·have g1:i<m.sums.length:=by simpa using g1
    have e3:aEt m old (i+1)=wI m old x i:=by rw[aEt,← e2]
    apply Z.w (aHh U old m i ho (by omega))
    conv=>lhs;whnf
    repeat((first|apply Z.t|apply Z.f|(apply Z.q;exact aE));conv=>lhs;whnf)
    apply Z.w (eG U m.size m.len i)
    conv=>lhs;whnf
    repeat((first|apply Z.t|apply Z.f|(apply Z.q;exact aE));conv=>lhs;whnf)
    apply Z.b<;>intro g2<;>conv=>lhs;whnf
    ·have g2:0≤bP old m i:=by simpa using g2
     obtain⟨b1,b2,b3,b4,b5⟩:=aEu g1 g2
     obtain⟨f1,f2,f3,f4,f5⟩:=hx.facts (by omega) b3
     refine Z.q (by exact g2) ?_
     conv=>lhs;whnf
     rw[show IntKind.i64.wrap (bP old m i+aU m.size m.len i)=bP old m i+aU m.size m.len i from aK (by omega)]
     refine Z.q (by omega) ?_
     conv=>lhs;whnf
     refine Z.q (by exact⟨by omega,by rw[aI];omega,bB _⟩) ?_
     conv=>lhs;whnf
     rw[show(bP old m i+aU m.size m.len i).toNat-(bP old m i).toNat=(aU m.size m.len i).toNat from by omega]
     repeat((first|apply Z.t|apply Z.f|(apply Z.q;exact aE));conv=>lhs;whnf)
     rw[show((aT old).drop (bP old m i).toNat).take (aU m.size m.len i).toNat=aT (nU m old i) from iI _ _ _]
     apply Z.w (qN U m x i (nU m old i) h0 g1 (by omega) f1 f2 b2 (by omega) f3 (by omega) f5)
     conv=>lhs;whnf
     repeat((first|apply Z.t|apply Z.f|(apply Z.q;exact aE));conv=>lhs;whnf)
     refine ih (i+1,iF m x i (nU m old i)) (i+1) _ ?_ ⟨rfl,by omega,by rw[e3,wI,if_pos g2]⟩ (by omega)
     intro K
     conv=>lhs;whnf
     conv=>rhs;whnf
     try rfl
     try rw[show IntKind.i64.wrap ((i:Int)+1)=_ from aO (by omega)]
     try rfl
    ·have g2:¬ 0≤bP old m i:=by simpa using g2
     refine ih (i+1,x) (i+1) _ ?_ ⟨rfl,by omega,by rw[e3,wI,if_neg g2]⟩ (by omega)
     intro K
     conv=>lhs;whnf
     conv=>rhs;whnf
     try rfl
     rw[show IntKind.i64.wrap ((i:Int)+1)=_ from aO (by omega)]
     try rfl
   ·have:i=m.sums.length:=by simp at g1;omega
    subst this
    subst e2
    rfl
  ·rfl
theorem aEv {E:aS} (U:Sys E) (m:Man) (old:aC) (h0:m.sums.length≤1048576) (ho:old.length≤1048576):E 370 [gv (m.cs aJ),sv (aT old)]=some ([gv ((cW m old).cs cT)],[]):=by
 have a1:=aFE U m h0
 have a2:=eV U m h0
 have hrl:(m.sums.map Sum.row).length=m.sums.length:=List.length_map _
 unfold cW
 cases hm:aX m
 ·rw[hm]at a2
  refine U.run rfl rfl fun W Z=>?_
  conv=>lhs;whnf
  repeat'((first|apply Z.t|apply Z.f|(apply Z.q;exact aE)|apply Z.w (a1)|apply Z.w (a2)|(apply Z.b<;>intro h))<;>conv=>lhs;whnf)
  rfl
 ·rw[hm]at a2
  have hc:=dO hm
  refine U.run rfl rfl fun W Z=>?_
  conv=>lhs;whnf
  repeat'((first|apply Z.t|apply Z.f|(apply Z.q;exact aE)|apply Z.w (a1)|apply Z.w (a2)|(apply Z.b<;>intro h))<;>conv=>lhs;whnf)
  rw[hrl]
  refine Z.loop (σ:=Nat × Bld) (γ:=Nat) (fun i s=>((s.sl 19 (v1 (.t (.int .i64 i.1)))).sl 5 (.box true [.t (.int .i64 i.2.hav), .blk 50501])).bl ⟨50501,1, .own,aT i.2.buf⟩) (fun i k=>i.1=k∧k≤m.sums.length∧i.2=aEt m old k) (fun k=>m.sums.length-k) (fun _=>([gv ((aEt m old m.sums.length).cs cT)],[])) (0,gK m) 0 ?_ ?_ ?_ ?_
  ·intro K
   conv=>lhs;whnf
   conv=>rhs;whnf
   try rfl
  ·exact⟨rfl,by omega,rfl⟩
  ·rintro kl ⟨i,x⟩ k ⟨e1,hk,e2⟩ ih
   simp only at e1 e2 hk
   subst e1
   have hx:=aF4 (old:=old) hm hk
   rw[← e2]at hx
   conv=>lhs;whnf
   apply Z.b<;>intro g1<;>conv=>lhs;whnf
   ·have g1:i<m.sums.length:=by simpa using g1
    have e3:aEt m old (i+1)=wI m old x i:=by rw[aEt,← e2]
    apply Z.w (iD U m.size m.len i)
    conv=>lhs;whnf
    repeat((first|apply Z.t|apply Z.f|(apply Z.q;exact aE));conv=>lhs;whnf)
    apply Z.w (aHi U old m i ho (by omega))
    conv=>lhs;whnf
    repeat((first|apply Z.t|apply Z.f|(apply Z.q;exact aE));conv=>lhs;whnf)
    apply Z.b<;>intro g2<;>conv=>lhs;whnf
    ·have g2:0≤bP old m i:=by simpa using g2
     obtain⟨b1,b2,b3,b4,b5⟩:=aEu g1 g2
     obtain⟨f1,f2,f3,f4,f5⟩:=hx.facts (by omega) b3
     refine Z.q (by exact g2) ?_
     conv=>lhs;whnf
     rw[show IntKind.i64.wrap (bP old m i+aU m.size m.len i)=bP old m i+aU m.size m.len i from aK (by omega)]
     refine Z.q (by omega) ?_
     conv=>lhs;whnf
     refine Z.q (by exact⟨by omega,by rw[aI];omega,bB _⟩) ?_
     conv=>lhs;whnf
     rw[show(bP old m i+aU m.size m.len i).toNat-(bP old m i).toNat=(aU m.size m.len i).toNat from by omega]
     repeat((first|apply Z.t|apply Z.f|(apply Z.q;exact aE));conv=>lhs;whnf)
     rw[show((aT old).drop (bP old m i).toNat).take (aU m.size m.len i).toNat=aT (nU m old i) from iI _ _ _]
     apply Z.w (aHq U m x i (nU m old i) (by omega) (by omega) f3 (by omega) f5)
     conv=>lhs;whnf
     repeat((first|apply Z.t|apply Z.f|(apply Z.q;exact aE));conv=>lhs;whnf)
     refine ih (i+1,iF m x i (nU m old i)) (i+1) _ ?_ ⟨rfl,by omega,by rw[e3,wI,if_pos g2]⟩ (by omega)
     intro K
     conv=>lhs;whnf
     conv=>rhs;whnf
     try rfl
     try rw[show IntKind.i64.wrap ((i:Int)+1)=_ from aO (by omega)]
     try rfl
    ·have g2:¬ 0≤bP old m i:=by simpa using g2
     refine ih (i+1,x) (i+1) _ ?_ ⟨rfl,by omega,by rw[e3,wI,if_neg g2]⟩ (by omega)
     intro K
     conv=>lhs;whnf
     conv=>rhs;whnf
     try rfl
     rw[show IntKind.i64.wrap ((i:Int)+1)=_ from aO (by omega)]
     try rfl
   ·have:i=m.sums.length:=by simp at g1;omega
    subst this
    subst e2
    rfl
  ·rfl
def aLW:Node:=⟨false,0,0,⟨0,0,0,[]⟩,⟨0,[]⟩,0,[],0⟩
def pF (m:Man) (b:aC):Node:=if m.gen=0 then aLW else if aX m=false then aLW else if lA m b=false then aLW else⟨true,-1,0,m,cW m b,6,[],0⟩
theorem aEw {a b:Int} (h:a=b):decide (a=b)=true:=decide_eq_true h
theorem jN {a b:Int} (h:¬ a=b):decide (a=b)=false:=decide_eq_false h
theorem aPq {E:aS} (U:Sys E) (x:Man) (h0:x.sums.length≤8388608):E 213 [gv (x.cs aJ)]=some ([gv (x.cs cT)],[]):=nS U x h0
theorem aFF {E:aS} (U:Sys E) (m:Man) (b:aC) (hm:m.lim 1048576) (hb:b.length≤1048576):E 365 [gv (m.cs aJ),sv (aT b)]=some ([gv ((pF m b).cs cT)],[]):=by
 have h0:m.sums.length≤1048576:=hm
 have a1:=eU U m h0
 have a2:=aDe U m b hb
 have a3:=aPq U m (by omega)
 have a4:=gL U m b h0 hb
 unfold pF
 by_cases h1:m.gen=0
 ·rw[if_pos h1]
  refine U.run rfl rfl fun W Z=>?_
  conv=>lhs;whnf
  repeat'((first|with_reducible apply Z.bt (aEw h1)|apply Z.t|apply Z.f|(apply Z.q;exact aE)|(apply Z.b<;>intro h))<;>conv=>lhs;whnf)
  rfl
 ·rw[if_neg h1]
  cases h2:aX m
  ·rw[h2]at a1
   refine U.run rfl rfl fun W Z=>?_
   conv=>lhs;whnf
   repeat'((first|with_reducible apply Z.bf (jN h1)|apply Z.t|apply Z.f|(apply Z.q;exact aE)|apply Z.w (a1)|(apply Z.b<;>intro h))<;>conv=>lhs;whnf)
   rfl
  ·rw[h2]at a1
   cases h3:lA m b
   ·rw[h3]at a2
    refine U.run rfl rfl fun W Z=>?_
    conv=>lhs;whnf
    repeat'((first|with_reducible apply Z.bf (jN h1)|apply Z.t|apply Z.f|(apply Z.q;exact aE)|apply Z.w (a1)|apply Z.w (a2)|(apply Z.b<;>intro h))<;>conv=>lhs;whnf)
    rfl
   ·rw[h3]at a2
    refine U.run rfl rfl fun W Z=>?_
    conv=>lhs;whnf
    repeat'((first|with_reducible apply Z.bf (jN h1)|apply Z.t|apply Z.f|(apply Z.q;exact aE)|apply Z.w (a1)|apply Z.w (a2)|apply Z.w (a3)|apply Z.w (a4)|(apply Z.b<;>intro h))<;>conv=>lhs;whnf)
    rfl
def sE (up:List Int):Nat→Int→List Int
 |0,_=>[]
 |f+1,k=>if aR k 0 ((up.length:Int)-1)=true then k::sE up f (up.getD k.toNat 0) else[]
def nN (t:Tree) (k:Int):List Int:=sE t.up t.up.length k
theorem aPr {up:List Int} {f:Nat} {k:Int}:(sE up f k).length≤f:=by
 induction f generalizing k with
 |zero=>simp[sE]
 |succ f ih =>
  simp only[sE]
  split
  ·have:=ih (k:=up.getD k.toNat 0)
   simp only[List.length_cons];omega
  ·simp
theorem aIm {E:aS} (U:Sys E) (t:Tree) (k:Int) (ht:t.lim 1048576):E 348 [gv (t.cs aJ),iv k]=some ([ov 1 (bN (nN t k))],[]):=by
 have h0:t.up.length≤1048576:=ht
 have hrl:(bN t.up).length=t.up.length:=List.length_map _
 have hw:IntKind.i64.wrap ((t.up.length:Int)-1)=(t.up.length:Int)-1:=aK (by omega)
 refine U.run rfl rfl fun W Z=>?_
 conv=>lhs;whnf
 refine Z.loop (σ:=Int × List Int) (γ:=Nat) (fun i s=>(s.sl 1 (v1 (.t (.int .i64 i.1)))).bl ⟨50500,1, .own,bN i.2⟩) (fun i f=>i.2.length+f=t.up.length∧i.2++sE t.up f i.1=nN t k) (fun f=>f) (fun _=>([ov 1 (bN (nN t k))],[])) (k,[]) t.up.length ?_ ?_ ?_ ?_
 ·intro K
  conv=>lhs;whnf
  conv=>rhs;whnf
  try rfl
 ·exact⟨by simp,rfl⟩
 ·rintro kl ⟨j,acc⟩ f ⟨hf,hs⟩ ih
  simp only at hf hs
  have hra:(bN acc).length=acc.length:=List.length_map _
  conv=>lhs;whnf
  rw[hrl,hw]
  apply Z.w (bK U j 0 ((t.up.length:Int)-1))
  conv=>lhs;whnf
  repeat((first|apply Z.t|apply Z.f|(apply Z.q;exact aE));conv=>lhs;whnf)
  cases hj:aR j 0 ((t.up.length:Int)-1)
  ·repeat((first|apply Z.t|apply Z.f|(apply Z.q;exact aE));conv=>lhs;whnf)
   have hs:acc=nN t k:=by
    rw[← hs]
    cases f with
    |zero=>simp[sE]
    |succ f=>simp[sE,hj]
   rw[hs]
   rfl
  ·repeat((first|apply Z.t|apply Z.f|(apply Z.q;exact aE));conv=>lhs;whnf)
   rw[hra]
   try rw[hrl]
   apply Z.b<;>intro h2<;>conv=>lhs;whnf
   ·obtain⟨f,rfl⟩:∃ g,f=g+1:=⟨f-1,by simp at h2;omega⟩
    obtain⟨n,rfl⟩:∃ n:Nat,j=n:=⟨j.toNat,by have:=bL hj;omega⟩
    have hn:n<t.up.length:=by have:=bL hj;omega
    rw[sE,if_pos hj,Int.toNat_natCast,List.getD_eq_getElem?_getD,List.getElem?_eq_getElem hn,Option.getD_some]at hs
    refine Z.q (by exact⟨by decide,by intro e he;simp at he;subst he;rfl,by simp[bN];omega,by simp[bN];omega⟩) ?_
    conv=>lhs;whnf
    repeat((first|apply Z.t|apply Z.f|(apply Z.q;exact aE)|(refine Z.w (cP ?_) ?_;omega));conv=>lhs;whnf)
    refine ih (t.up[n],acc++[(n:Int)]) f _ ?_ ⟨by simp;omega,by simpa using hs⟩ (by omega)
    intro K
    conv=>lhs;whnf
    conv=>rhs;whnf
    try rfl
    rw[show bN (acc++[(n:Int)])=bN acc++[[ti n]] from by simp[bN,mV]]
    rfl
   ·have:f=0:=by simp at h2;omega
    subst this
    simp only[sE,List.append_nil]at hs
    rw[hs]
    rfl
 ·rfl
def aE4 (n:Node):Node:={ n with drops:=IntKind.i64.wrap (n.drops+1) }
def kQ (n:Node) (d:Disk) (m:Man):Node :=
 if n.phase=0 then
  if aX m=false then n else if m.gen=0 then n else
   { n with man:=m,bld:=cW m (kP d),phase:=if decide (nL d=m.gen)&&lA m (kP d) then 5 else 1 }
 else if n.man=m then n else aE4 n
theorem wJ {E:aS} (U:Sys E) (n:Node) (hn:n.lim 8388608):E 417 [gv (n.cs aJ)]=some ([gv ((aE4 n).cs cT)],[]):=by
 refine U.run rfl rfl fun W Z=>?_
 conv=>lhs;whnf
 repeat'((first|apply Z.t|apply Z.f|(apply Z.q;exact aE)|apply Z.w (jB U n hn)|(apply Z.b<;>intro h))<;>conv=>lhs;whnf)
 rfl
theorem aKj (n:Node) (d:Disk) (m:Man) (hn:n.limk) (_:d.lim 1048576) (hm:m.lim 1048576):(kQ n d m).lim 4194304:=by
 have hn':=hn.l4
 unfold kQ
 split
 ·split
  ·exact hn'
  ·split
   ·exact hn'
   ·rename_i _ h _
    have h:aX m=true:=by simpa using h
    have:=(aF4 (old:=kP d) h (Nat.le_refl _)).len
    have hc:=dO h
    refine⟨Nat.le_trans hm (by decide),?_,hn'.2.2⟩
    show(cW m (kP d)).buf.length≤_
    unfold cW
    rw[if_pos h]
    omega
 ·split
  ·exact hn'
  ·exact hn'
theorem yD {a b:Int} (h:a=b):(!decide (a=b))=false:=by simp[h]
theorem aLX {a b:Int} (h:¬ a=b):(!decide (a=b))=true:=by simp[h]
theorem aHr {E:aS} (U:Sys E) (n:Node) (d:Disk) (m:Man) (hn:n.limk) (hd:d.lim 1048576) (hm:m.lim 1048576):E 454 [gv (n.cs aJ),gv (d.cs aJ true),gv (m.cs aJ)]=some ([gv ((kQ n d m).cs cT)],[]):=by
 have h0:m.sums.length≤1048576:=hm
 have c1:=jB U n hn.l8
 have c2:=wJ U n hn.l8
 have a1:=gB U n.man m (Nat.le_trans hn.1 (by decide))
 have a2:=eU U m h0
 have hl:=Nat.le_trans (aEl d) (show 240≤1048576 from by decide)
 have a3:=aHc U (o:=true) d hd
 have a4:=nS U m (by omega)
 have a5:=gL U m (kP d) h0 hl
 have a6:=aDe U m (kP d) hl
 unfold kQ
 by_cases h1:n.phase=0
 ·rw[if_pos h1]
  cases h2:aX m
  ·rw[h2]at a2
   refine U.run rfl rfl fun W Z=>?_
   conv=>lhs;whnf
   repeat'((first|with_reducible apply Z.bf (yD h1)|apply Z.t|apply Z.f|(apply Z.q;exact aE)|apply Z.w (c1)|apply Z.w (a2)|(apply Z.b<;>intro h))<;>conv=>lhs;whnf)
   rfl
  ·rw[h2]at a2
   by_cases h3:m.gen=0
   ·rw[if_neg (by decide),if_pos h3]
    refine U.run rfl rfl fun W Z=>?_
    conv=>lhs;whnf
    repeat'((first|with_reducible apply Z.bf (yD h1)|with_reducible apply Z.bt (aEw h3)|apply Z.t|apply Z.f|(apply Z.q;exact aE)|apply Z.w (c1)|apply Z.w (a2)|(apply Z.b<;>intro h))<;>conv=>lhs;whnf)
    rfl
   ·rw[if_neg (by decide),if_neg h3]
    by_cases h4:nL d=m.gen
    ·rw[aEw h4,Bool.true_and]
     cases h5:lA m (kP d)
     ·rw[h5]at a6
      refine U.run rfl rfl fun W Z=>?_
      conv=>lhs;whnf
      repeat'((first|with_reducible apply Z.bf (yD h1)|with_reducible apply Z.bf (jN h3)|with_reducible apply Z.bt (aEw h4)|apply Z.t|apply Z.f|(apply Z.q;exact aE)|apply Z.w (c1)|apply Z.w (a2)|apply Z.w (a3)|apply Z.w (a4)|apply Z.w (a5)|apply Z.w (a6)|(apply Z.b<;>intro h))<;>conv=>lhs;whnf)
      rfl
     ·rw[h5]at a6
      refine U.run rfl rfl fun W Z=>?_
      conv=>lhs;whnf
      repeat'((first|with_reducible apply Z.bf (yD h1)|with_reducible apply Z.bf (jN h3)|with_reducible apply Z.bt (aEw h4)|apply Z.t|apply Z.f|(apply Z.q;exact aE)|apply Z.w (c1)|apply Z.w (a2)|apply Z.w (a3)|apply Z.w (a4)|apply Z.w (a5)|apply Z.w (a6)|(apply Z.b<;>intro h))<;>conv=>lhs;whnf)
      rfl
    ·rw[jN h4,Bool.false_and]
     refine U.run rfl rfl fun W Z=>?_
     conv=>lhs;whnf
     repeat'((first|with_reducible apply Z.bf (yD h1)|with_reducible apply Z.bf (jN h3)|with_reducible apply Z.bf (jN h4)|apply Z.t|apply Z.f|(apply Z.q;exact aE)|apply Z.w (c1)|apply Z.w (a2)|apply Z.w (a3)|apply Z.w (a4)|apply Z.w (a5)|(apply Z.b<;>intro h))<;>conv=>lhs;whnf)
     rfl
 ·rw[if_neg h1]
  by_cases h2:n.man=m
  ·rw[if_pos h2]
   rw[decide_eq_true h2]at a1
   refine U.run rfl rfl fun W Z=>?_
   conv=>lhs;whnf
   repeat'((first|with_reducible apply Z.bt (aLX h1)|apply Z.t|apply Z.f|(apply Z.q;exact aE)|apply Z.w (c1)|apply Z.w (a1)|(apply Z.b<;>intro h))<;>conv=>lhs;whnf)
   rfl
  ·rw[if_neg h2]
   rw[decide_eq_false h2]at a1
   refine U.run rfl rfl fun W Z=>?_
   conv=>lhs;whnf
   repeat'((first|with_reducible apply Z.bt (aLX h1)|apply Z.t|apply Z.f|(apply Z.q;exact aE)|apply Z.w (c1)|apply Z.w (a1)|apply Z.w (c2)|(apply Z.b<;>intro h))<;>conv=>lhs;whnf)
   rfl
theorem aHs {E:aS} (U:Sys E) (n:Node) (d:Disk) (m:Man) (hn:n.limk) (hd:d.lim 1048576) (hm:m.lim 1048576):E 457 [gv (n.cs aJ),gv (d.cs aJ true),gv (m.cs aJ)]=some ([gv ((kQ n d m).cs cT)],[]):=by
 have h0:m.sums.length≤1048576:=hm
 have c1:=iG U n hn.l8
 have a1:=aG4 U m n.man (by omega)
 have a2:=eV U m h0
 have hl:=Nat.le_trans (aEl d) (show 240≤1048576 from by decide)
 have a3:=wC U (o:=true) d hd
 have a4:=vX U m (by omega)
 have a5:=aEv U m (kP d) h0 hl
 have a6:=aEm U d m hd
 unfold kQ
 by_cases h1:n.phase=0
 ·rw[if_pos h1]
  cases h2:aX m
  ·rw[h2]at a2
   refine U.run rfl rfl fun W Z=>?_
   conv=>lhs;whnf
   repeat'((first|with_reducible apply Z.bf (yD h1)|apply Z.t|apply Z.f|(apply Z.q;exact aE)|apply Z.w (c1)|apply Z.w (a2)|(apply Z.b<;>intro h))<;>conv=>lhs;whnf)
   rfl
  ·rw[h2]at a2
   by_cases h3:m.gen=0
   ·rw[if_neg (by decide),if_pos h3]
    refine U.run rfl rfl fun W Z=>?_
    conv=>lhs;whnf
    repeat'((first|with_reducible apply Z.bf (yD h1)|with_reducible apply Z.bf (yD h3)|apply Z.t|apply Z.f|(apply Z.q;exact aE)|apply Z.w (c1)|apply Z.w (a2)|(apply Z.b<;>intro h))<;>conv=>lhs;whnf)
    rfl
   ·rw[if_neg (by decide),if_neg h3]
    cases h5:decide (nL d=m.gen)&&lA m (kP d)
    ·rw[h5]at a6
     refine U.run rfl rfl fun W Z=>?_
     conv=>lhs;whnf
     repeat'((first|with_reducible apply Z.bf (yD h1)|with_reducible apply Z.bt (aLX h3)|apply Z.t|apply Z.f|(apply Z.q;exact aE)|apply Z.w (c1)|apply Z.w (a2)|apply Z.w (a3)|apply Z.w (a4)|apply Z.w (a5)|apply Z.w (a6)|(apply Z.b<;>intro h))<;>conv=>lhs;whnf)
     rfl
    ·rw[h5]at a6
     refine U.run rfl rfl fun W Z=>?_
     conv=>lhs;whnf
     repeat'((first|with_reducible apply Z.bf (yD h1)|with_reducible apply Z.bt (aLX h3)|apply Z.t|apply Z.f|(apply Z.q;exact aE)|apply Z.w (c1)|apply Z.w (a2)|apply Z.w (a3)|apply Z.w (a4)|apply Z.w (a5)|apply Z.w (a6)|(apply Z.b<;>intro h))<;>conv=>lhs;whnf)
     rfl
 ·rw[if_neg h1]
  by_cases h2:n.man=m
  ·rw[if_pos h2]
   rw[decide_eq_true h2.symm]at a1
   refine U.run rfl rfl fun W Z=>?_
   conv=>lhs;whnf
   repeat'((first|with_reducible apply Z.bt (aLX h1)|apply Z.t|apply Z.f|(apply Z.q;exact aE)|apply Z.w (c1)|apply Z.w (a1)|(apply Z.b<;>intro h))<;>conv=>lhs;whnf)
   rfl
  ·rw[if_neg h2]
   rw[decide_eq_false (fun e=>h2 e.symm)]at a1
   refine U.run rfl rfl fun W Z=>?_
   conv=>lhs;whnf
   repeat'((first|with_reducible apply Z.bt (aLX h1)|apply Z.t|apply Z.f|(apply Z.q;exact aE)|apply Z.w (c1)|apply Z.w (a1)|(apply Z.b<;>intro h))<;>conv=>lhs;whnf)
   rfl
theorem jG {E:aS} (U:Sys E) (m:Man) (x:Bld) (hm:m.sums.length≤1048576) (hx:x.buf.length≤1048576):E 360 [gv (m.cs aJ),gv (x.cs aJ)]=some ([bv (cM m x)],[]):=by
 have a1:=eV U m hm
 have a2:=dK U x.hav
 have a3:=aFy U m
 have hrl:(m.sums.map Sum.row).length=m.sums.length:=List.length_map _
 unfold cM
 cases h1:aX m
 ·rw[h1]at a1
  refine U.run rfl rfl fun W Z=>?_
  conv=>lhs;whnf
  repeat'((first|apply Z.t|apply Z.f|(apply Z.q;exact aE)|apply Z.w (a1)|(apply Z.b<;>intro h))<;>conv=>lhs;whnf)
  rfl
 ·rw[h1]at a1
  cases h2:bT x.hav
  ·rw[h2]at a2
   refine U.run rfl rfl fun W Z=>?_
   conv=>lhs;whnf
   repeat'((first|apply Z.t|apply Z.f|(apply Z.q;exact aE)|apply Z.w (a1)|apply Z.w (a2)|(apply Z.b<;>intro h))<;>conv=>lhs;whnf)
   rfl
  ·rw[h2]at a2
   have h3w:∀ b,nK x.hav (cL m)=b→IntKind.i64.wrap (BitVec.ofInt IntKind.i64.bits x.hav &&& ~~~BitVec.ofInt IntKind.i64.bits (cL m)).toNat=b:=fun _ h=>h
   by_cases h3:nK x.hav (cL m)=0
   ·by_cases h4:(x.buf.length:Int)=m.len
    ·have h4':((aT x.buf).length:Int)=m.len:=by rw[bE];exact h4
     rw[decide_eq_true h3,decide_eq_true h4]
     simp only[Bool.true_and]
     refine U.run rfl rfl fun W Z=>?_
     conv=>lhs;whnf
     repeat'((first|with_reducible apply Z.bf (aVg (h3w 0 h3))|with_reducible apply Z.bf (aVg h4')|apply Z.t|apply Z.f|(apply Z.q;exact aE)|apply Z.w (a1)|apply Z.w (a2)|apply Z.w (a3)|(apply Z.b<;>intro h))<;>conv=>lhs;whnf)
     rw[hrl]
     refine Z.loop (σ:=Nat) (γ:=Nat) (fun i s=>s.sl 36 (v1 (.t (.int .i64 i)))) (fun i k=>i=k∧k≤m.sums.length) (fun k=>m.sums.length-k) (fun k=>([bv (aKi m x k (m.sums.drop k))],[])) 0 0 ?_ ?_ ?_ ?_
     ·intro K
      conv=>lhs;whnf
      conv=>rhs;whnf
      try rfl
     ·exact⟨rfl,by omega⟩
     ·rintro kl n _ ⟨rfl,hn⟩ ih
      conv=>lhs;whnf
      apply Z.b<;>intro g1<;>conv=>lhs;whnf
      ·have g1:n<m.sums.length:=by simpa using g1
       have hs:=gJ (size:=m.size) (n:=m.len) (i:=n)
       have hk:dR x.buf m.size n=(x.buf.drop (aY m.size m.len n).toNat).take (aU m.size m.len n).toNat:=by unfold dR;rw[h4]
       have hkl:=mO x.buf m.size n
       rw[List.drop_eq_getElem_cons g1,aKi,aLV]
       obtain⟨a,ha⟩:∃ a:Nat,aY m.size m.len n=a:=⟨(aY m.size m.len n).toNat,by omega⟩
       obtain⟨w,hw⟩:∃ w:Nat,aU m.size m.len n=w:=⟨(aU m.size m.len n).toNat,by omega⟩
       have hc:((aT x.buf).drop a).take w=aT (dR x.buf m.size n):=by
        rw[iI,hk,ha,hw]
        rfl
       repeat((first|apply Z.t|apply Z.f|(apply Z.q;exact aE)|(refine Z.w (cP ?_) ?_;omega));conv=>lhs;whnf)
       apply Z.w (qM U m x n a w ha hw (by omega) hx)
       conv=>lhs;whnf
       repeat((first|apply Z.t|apply Z.f|(apply Z.q;exact aE));conv=>lhs;whnf)
       apply Z.w (eA U x.hav n)
       conv=>lhs;whnf
       repeat((first|apply Z.t|apply Z.f|(apply Z.q;exact aE));conv=>lhs;whnf)
       apply Z.b<;>intro gi<;>conv=>lhs;whnf
       ·rw[if_pos gi]
        repeat((first|apply Z.t|apply Z.f|(apply Z.q;exact aE)|(refine Z.w (cP ?_) ?_;omega));conv=>lhs;whnf)
        rw[hc]
        apply Z.w (jD U (dR x.buf m.size n) (by omega))
        conv=>lhs;whnf
        repeat((first|apply Z.t|apply Z.f|(apply Z.q;exact aE));conv=>lhs;whnf)
        apply Z.b<;>intro g4<;>conv=>lhs;whnf
        ·have g4:¬ bC (dR x.buf m.size n)=m.sums[n]:=by intro e;rw[e]at g4;simp at g4
         rw[decide_eq_false g4]
         repeat((first|apply Z.t|apply Z.f|(apply Z.q;exact aE));conv=>lhs;whnf)
         rfl
        ·have g4:bC (dR x.buf m.size n)=m.sums[n]:=by
          revert g4
          generalize bC (dR x.buf m.size n)=y
          generalize m.sums[n]=z
          cases y;cases z
          simp
         rw[decide_eq_true g4]
         simp only[Bool.true_and]
         repeat((first|apply Z.t|apply Z.f|(apply Z.q;exact aE));conv=>lhs;whnf)
         apply Z.w (eA U x.hav n)
         conv=>lhs;whnf
         repeat((first|apply Z.t|apply Z.f|(apply Z.q;exact aE));conv=>lhs;whnf)
         rw[gi]
         repeat((first|apply Z.t|apply Z.f|(apply Z.q;exact aE));conv=>lhs;whnf)
         refine ih (n+1) (n+1) _ ?_ ⟨rfl,by omega⟩ (by omega)
         intro K
         conv=>lhs;whnf
         conv=>rhs;whnf
         try rfl
         rw[show IntKind.i64.wrap ((n:Int)+1)=_ from aO (by omega)]
         try rfl
       ·rw[if_neg (by rw[gi];decide)]
        repeat((first|apply Z.t|apply Z.f|(apply Z.q;exact aE));conv=>lhs;whnf)
        apply Z.w (eA U x.hav n)
        conv=>lhs;whnf
        repeat((first|apply Z.t|apply Z.f|(apply Z.q;exact aE));conv=>lhs;whnf)
        rw[gi]
        repeat((first|apply Z.t|apply Z.f|(apply Z.q;exact aE));conv=>lhs;whnf)
        rw[hc]
        apply Z.w (yC U (dR x.buf m.size n) (by omega))
        conv=>lhs;whnf
        repeat((first|apply Z.t|apply Z.f|(apply Z.q;exact aE));conv=>lhs;whnf)
        apply Z.b<;>intro g5<;>conv=>lhs;whnf
        ·rw[jQ g5]
         rfl
        ·rw[gA g5]
         simp only[Bool.true_and]
         refine ih (n+1) (n+1) _ ?_ ⟨rfl,by omega⟩ (by omega)
         intro K
         conv=>lhs;whnf
         conv=>rhs;whnf
         try rfl
         rw[show IntKind.i64.wrap ((n:Int)+1)=_ from aO (by omega)]
         try rfl
      ·have:n=m.sums.length:=by simp at g1;omega
       rw[this,List.drop_length]
       rfl
     ·rfl
    ·have h4':¬ ((aT x.buf).length:Int)=m.len:=by rw[bE];exact h4
     rw[decide_eq_true h3,decide_eq_false h4]
     refine U.run rfl rfl fun W Z=>?_
     conv=>lhs;whnf
     repeat'((first|with_reducible apply Z.bf (aVg (h3w 0 h3))|with_reducible apply Z.bt (aVU h4')|apply Z.t|apply Z.f|(apply Z.q;exact aE)|apply Z.w (a1)|apply Z.w (a2)|apply Z.w (a3)|(apply Z.b<;>intro h))<;>conv=>lhs;whnf)
     rfl
   ·have h3n:¬ IntKind.i64.wrap (BitVec.ofInt IntKind.i64.bits x.hav &&& ~~~BitVec.ofInt IntKind.i64.bits (cL m)).toNat=0:=h3
    rw[decide_eq_false h3]
    refine U.run rfl rfl fun W Z=>?_
    conv=>lhs;whnf
    repeat'((first|with_reducible apply Z.bt (aVU h3n)|apply Z.t|apply Z.f|(apply Z.q;exact aE)|apply Z.w (a1)|apply Z.w (a2)|apply Z.w (a3)|(apply Z.b<;>intro h))<;>conv=>lhs;whnf)
    rfl
def aSe (x:Kid):Kid:={ x with age:=IntKind.i64.wrap (x.age+1),sent:=0 }
def aTJ (f:Int) (x:Kid):List Kid:=if x.age<f then[aSe x] else[]
def gN (l:List Kid) (f:Int):List Kid:=l.flatMap (aTJ f)
theorem aIn {E:aS} (U:Sys E) (l:List Kid) (f:Int) (h0:l.length≤1048576):E 164 [sv (l.map Kid.row),iv f]=some ([ov 5 ((gN l f).map Kid.row)],[]):=by
 have hrl:(l.map Kid.row).length=l.length:=List.length_map _
 refine U.run rfl rfl fun W Z=>?_
 conv=>lhs;whnf
 refine Z.loop (σ:=Nat × List Kid) (γ:=Nat) (fun i s=>(s.sl 6 (v1 (.t (.int .i64 i.1)))).bl ⟨50500,5, .own,i.2.map Kid.row⟩) (fun i m=>i.1=m∧m≤l.length∧i.2.length≤m∧i.2++gN (l.drop m) f=gN l f) (fun m=>l.length-m) (fun _=>([ov 5 ((gN l f).map Kid.row)],[])) (0,[]) 0 ?_ ?_ ?_ ?_
 ·intro K
  conv=>lhs;whnf
  conv=>rhs;whnf
  try rfl
 ·exact⟨rfl,by omega,by simp,rfl⟩
 ·rintro kl ⟨m,acc⟩ _ ⟨rfl,hm,hl,hs⟩ ih
  simp only at hs hm hl
  conv=>lhs;whnf
  rw[hrl]
  apply Z.b<;>intro h1<;>conv=>lhs;whnf
  ·have h1:m<l.length:=by simpa using h1
   rw[List.drop_eq_getElem_cons h1,gN,List.flatMap_cons,aTJ]at hs
   repeat((first|apply Z.t|apply Z.f|(apply Z.q;exact aE)|(refine Z.w (cP ?_) ?_;omega));conv=>lhs;whnf)
   apply Z.b<;>intro h3<;>conv=>lhs;whnf
   ·have h3:¬ l[m].age<f:=by
     have:l[m].age≥f:=by simpa using h3
     omega
    rw[if_neg h3]at hs
    refine ih (m+1,acc) (m+1) _ ?_ ⟨rfl,by omega,by simp only;omega,hs⟩ (by omega)
    intro K
    conv=>lhs;whnf
    conv=>rhs;whnf
    try rfl
    rw[show IntKind.i64.wrap ((m:Int)+1)=_ from aO (by omega)]
    try rfl
   ·have h3:l[m].age<f:=by
     have:¬ l[m].age≥f:=by simpa using h3
     omega
    rw[if_pos h3]at hs
    refine Z.q (by exact⟨by decide,by intro e he;simp at he;subst he;rfl,by simp;omega,by simp;omega⟩) ?_
    conv=>lhs;whnf
    repeat((first|apply Z.t|apply Z.f|(apply Z.q;exact aE));conv=>lhs;whnf)
    refine ih (m+1,acc++[aSe l[m]]) (m+1) _ ?_ ⟨rfl,by omega,by simp;omega,by rw[List.append_assoc];exact hs⟩ (by omega)
    intro K
    conv=>lhs;whnf
    conv=>rhs;whnf
    try rfl
    rw[show IntKind.i64.wrap ((m:Int)+1)=_ from aO (by omega),List.map_append]
    rfl
  ·have:m=l.length:=by simp at h1;omega
   subst this
   simp only[List.drop_length,gN,List.flatMap_nil,List.append_nil]at hs
   rw[hs];rfl
 ·rfl
def aLY (gen want done:Int):Msg:=⟨2,gen,⟨0,0,0,[]⟩,want,done,0,[]⟩
theorem aHt {E:aS} (U:Sys E) (gen want done:Int):E 498 [iv gen,iv want,iv done]=some ([gv ((aLY gen want done).cs cT)],[]):=by
 refine U.run rfl rfl fun W Z=>?_
 conv=>lhs;whnf
 rfl
def lC (b:aC) (l:List Kid) (c:Cur):List Kid × Cur:=(if(aF b c 3).1=0 then gN l 3 else l,(aF b c 3).2)
def eW (b:aC) (l:List Kid) (c:Cur):List Kid × Cur :=
 if(aF b c 3).1=0 then(cH l (aF b (aF b c 3).2 7).1 (dV b (aF b (aF b c 3).2 7).2).1,(dV b (aF b (aF b c 3).2 7).2).2) else(l,(aF b c 3).2)
def lQ (b:aC) (l:List Kid) (c:Cur):List Kid × Cur :=
 (mS l (aF b (dV b c).2 7).1 (dV b c).1 (aF b (aF b (dV b c).2 7).2 128).1,(aF b (aF b (dV b c).2 7).2 128).2)
def aF5 (b:aC) (p:List Kid × Cur):List Kid × Cur:=eW b (lC b (lQ b p.1 p.2).1 (lQ b p.1 p.2).2).1 (lC b (lQ b p.1 p.2).1 (lQ b p.1 p.2).2).2
def jH (b:aC):Nat→List Kid × Cur→List Kid × Cur
 |0,p=>p
 |n+1,p=>jH b n (aF5 b p)
def gT (b:aC) (c:Cur):List Kid × Cur:=jH b (aF b c 5).1.toNat ([],(aF b c 5).2)
theorem aSf (f:Int) (x:Kid):(aTJ f x).length≤1:=by unfold aTJ;split<;>simp
theorem aHu (l:List Kid) (f:Int):(gN l f).length≤l.length:=by
 unfold gN
 induction l with
 |nil=>simp
 |cons a r ih =>
  have:=aSf f a
  simp only[List.flatMap_cons,List.length_append,List.length_cons];omega
theorem aLZ (b:aC) (l:List Kid) (c:Cur):(lQ b l c).1.length≤l.length+1:=aEr _ _ _ _
theorem aNi (b:aC) (l:List Kid) (c:Cur):(lC b l c).1.length≤l.length:=by
 unfold lC
 simp only
 split
 ·exact aHu _ _
 ·exact Nat.le_refl _
theorem aL0 (b:aC) (l:List Kid) (c:Cur):(eW b l c).1.length≤l.length:=by
 unfold eW
 split
 ·simp only;rw[fB];exact Nat.le_refl _
 ·exact Nat.le_refl _
theorem aL1 (b:aC) (p:List Kid × Cur):(aF5 b p).1.length≤p.1.length+1:=Nat.le_trans (aL0 _ _ _) (Nat.le_trans (aNi _ _ _) (aLZ _ _ _))
theorem aHv (b:aC):∀ (n:Nat) (p:List Kid × Cur),(jH b n p).1.length≤p.1.length+n
 |0,_=>Nat.le_refl _
 |n+1,p=>by
  have h1:=aHv b n (aF5 b p)
  have h2:=aL1 b p
  simp only[jH]
  omega
theorem aJh (b:aC) (c:Cur):(gT b c).1.length≤5:=by
 have h:=cC b c (n:=5) (by decide)
 have:=aHv b (aF b c 5).1.toNat ([],(aF b c 5).2)
 unfold gT
 simp only[List.length_nil]at this
 omega
theorem qO {k:Nat} (h:k+1<9223372036854775807):IntKind.i64.wrap (((k+1:Nat):Int)-1)=(k:Int):=by
 rw[show((k+1:Nat):Int)-1=(k:Int) by omega]
 exact aK (by omega)
theorem aUX {E:aS} (U:Sys E) {es:List (List T)} {b:aC} (he:es=aT b) (c:Cur) (hb:b.length≤1048576):E 159 [fU es c]=some ([ov 5 ((gT b c).1.map Kid.row)],dD (gT b c).2):=by
 have hr:=cC b c (n:=5) (by decide)
 obtain⟨n,hn⟩:=Int.eq_ofNat_of_zero_le hr.1
 unfold gT
 have a0:=aZ U he c hb 5
 rw[hn]at a0 hr ⊢
 rw[Int.toNat_natCast]
 refine U.run rfl rfl fun W Z=>?_
 conv=>lhs;whnf
 repeat((first|apply Z.t|apply Z.f|(apply Z.q;exact aE));conv=>lhs;whnf)
 apply Z.w (a0)
 conv=>lhs;whnf
 repeat((first|apply Z.t|apply Z.f|(apply Z.q;exact aE));conv=>lhs;whnf)
 generalize hfin:jH b n ([],(aF b c 5).2)=fin
 refine Z.loop (σ:=Nat × List Kid × Cur) (γ:=Nat) (fun i s=>((s.sl 4 (v1 (.t (.int .i64 i.1)))).sl 0 (.box true [.blk 0, .t (.int .i64 i.2.2.i), .t (.int .i64 i.2.2.h)])).bl ⟨50300,5, .own,i.2.1.map Kid.row⟩) (fun i m=>i.1=m∧m≤n∧i.2.1.length+m≤n∧jH b m i.2=fin) (fun m=>m) (fun _=>([ov 5 (fin.1.map Kid.row)],dD fin.2)) (n,[],(aF b c 5).2) n ?_ ?_ ?_ ?_
 ·intro K
  conv=>lhs;whnf
  conv=>rhs;whnf
  try rfl
 ·exact⟨rfl,Nat.le_refl _,by simp,hfin⟩
 ·rintro kl ⟨m,l,q⟩ _ ⟨rfl,hm,hl,hs⟩ ih
  simp only at hs hl hm
  conv=>lhs;whnf
  apply Z.b<;>intro g1<;>conv=>lhs;whnf
  ·have g1:0<m:=by have g1:=of_decide_eq_true g1;omega
   obtain⟨k,rfl⟩:∃ k,m=k+1:=⟨m-1,by omega⟩
   rw[jH]at hs
   have hstep:aF5 b (l,q)=eW b (lC b (lQ b l q).1 (lQ b l q).2).1 (lC b (lQ b l q).1 (lQ b l q).2).2:=rfl
   rw[hstep]at hs
   repeat((first|apply Z.t|apply Z.f|(apply Z.q;exact aE));conv=>lhs;whnf)
   apply Z.w (aLI U he q hb)
   conv=>lhs;whnf
   repeat((first|apply Z.t|apply Z.f|(apply Z.q;exact aE));conv=>lhs;whnf)
   apply Z.w (aZ U he (dV b q).2 hb 7)
   conv=>lhs;whnf
   repeat((first|apply Z.t|apply Z.f|(apply Z.q;exact aE));conv=>lhs;whnf)
   apply Z.w (aZ U he (aF b (dV b q).2 7).2 hb 128)
   conv=>lhs;whnf
   repeat((first|apply Z.t|apply Z.f|(apply Z.q;exact aE));conv=>lhs;whnf)
   apply Z.w (aE3 U l (aF b (dV b q).2 7).1 (dV b q).1 (aF b (aF b (dV b q).2 7).2 128).1 (by omega))
   conv=>lhs;whnf
   repeat((first|apply Z.t|apply Z.f|(apply Z.q;exact aE));conv=>lhs;whnf)
   have hs:jH b k (eW b (lC b (mS l (aF b (dV b q).2 7).1 (dV b q).1 (aF b (aF b (dV b q).2 7).2 128).1) (aF b (aF b (dV b q).2 7).2 128).2).1 (lC b (mS l (aF b (dV b q).2 7).1 (dV b q).1 (aF b (aF b (dV b q).2 7).2 128).1) (aF b (aF b (dV b q).2 7).2 128).2).2)=fin:=hs
   have hl1:(mS l (aF b (dV b q).2 7).1 (dV b q).1 (aF b (aF b (dV b q).2 7).2 128).1).length≤l.length+1:=aEr _ _ _ _
   generalize (aF b (aF b (dV b q).2 7).2 128).2=c3 at hs ⊢
   generalize mS l (aF b (dV b q).2 7).1 (dV b q).1 (aF b (aF b (dV b q).2 7).2 128).1=l1 at hs hl1 ⊢
   have a5:=gZ U he c3 hb 3
   by_cases h4:(aF b c3 3).1=0
   ·have hs:jH b k (eW b (gN l1 3) (aF b c3 3).2)=fin:=by
     have e:lC b l1 c3=(gN l1 3,(aF b c3 3).2):=by unfold lC;rw[if_pos h4]
     rw[e]at hs
     exact hs
    rw[decide_eq_true h4]at a5
    apply Z.w (a5)
    conv=>lhs;whnf
    repeat((first|apply Z.t|apply Z.f|(apply Z.q;exact aE));conv=>lhs;whnf)
    apply Z.w (aIn U l1 3 (by omega))
    conv=>lhs;whnf
    repeat((first|apply Z.t|apply Z.f|(apply Z.q;exact aE));conv=>lhs;whnf)
    have hl2:(gN l1 3).length≤l.length+1:=Nat.le_trans (aHu _ _) hl1
    generalize gN l1 3=l2 at hs hl2 ⊢
    generalize (aF b c3 3).2=c4 at hs ⊢
    have a6:=gZ U he c4 hb 3
    by_cases h5:(aF b c4 3).1=0
    ·rw[decide_eq_true h5]at a6
     have hs:jH b k (cH l2 (aF b (aF b c4 3).2 7).1 (dV b (aF b (aF b c4 3).2 7).2).1,(dV b (aF b (aF b c4 3).2 7).2).2)=fin:=by
      have e:eW b l2 c4=(cH l2 (aF b (aF b c4 3).2 7).1 (dV b (aF b (aF b c4 3).2 7).2).1,(dV b (aF b (aF b c4 3).2 7).2).2):=by unfold eW;rw[if_pos h5]
      rw[e]at hs
      exact hs
     apply Z.w (a6)
     conv=>lhs;whnf
     repeat((first|apply Z.t|apply Z.f|(apply Z.q;exact aE));conv=>lhs;whnf)
     apply Z.w (aZ U he (aF b c4 3).2 hb 7)
     conv=>lhs;whnf
     repeat((first|apply Z.t|apply Z.f|(apply Z.q;exact aE));conv=>lhs;whnf)
     apply Z.w (aLI U he (aF b (aF b c4 3).2 7).2 hb)
     conv=>lhs;whnf
     repeat((first|apply Z.t|apply Z.f|(apply Z.q;exact aE));conv=>lhs;whnf)
     apply Z.w (kZ U l2 (aF b (aF b c4 3).2 7).1 (dV b (aF b (aF b c4 3).2 7).2).1 (by omega))
     conv=>lhs;whnf
     repeat((first|apply Z.t|apply Z.f|(apply Z.q;exact aE));conv=>lhs;whnf)
     refine ih (k,cH l2 (aF b (aF b c4 3).2 7).1 (dV b (aF b (aF b c4 3).2 7).2).1,(dV b (aF b (aF b c4 3).2 7).2).2) k _ ?_ ⟨rfl,by omega,by simp only;rw[fB];omega,hs⟩ (by omega)
     intro K
     conv=>lhs;whnf
     conv=>rhs;whnf
     try rfl
     rw[show IntKind.i64.wrap (((k+1:Nat):Int)-1)=(k:Int) from qO (by omega)]
    ·rw[decide_eq_false h5]at a6
     have hs:jH b k (l2,(aF b c4 3).2)=fin:=by
      have e:eW b l2 c4=(l2,(aF b c4 3).2):=by unfold eW;rw[if_neg h5]
      rw[e]at hs
      exact hs
     apply Z.w (a6)
     conv=>lhs;whnf
     repeat((first|apply Z.t|apply Z.f|(apply Z.q;exact aE));conv=>lhs;whnf)
     refine ih (k,l2,(aF b c4 3).2) k _ ?_ ⟨rfl,by omega,by simp only;omega,hs⟩ (by omega)
     intro K
     conv=>lhs;whnf
     conv=>rhs;whnf
     try rfl
     rw[show IntKind.i64.wrap (((k+1:Nat):Int)-1)=(k:Int) from qO (by omega)]
   ·have hs:jH b k (eW b (l1) (aF b c3 3).2)=fin:=by
     have e:lC b l1 c3=(l1,(aF b c3 3).2):=by unfold lC;rw[if_neg h4]
     rw[e]at hs
     exact hs
    rw[decide_eq_false h4]at a5
    apply Z.w (a5)
    conv=>lhs;whnf
    repeat((first|apply Z.t|apply Z.f|(apply Z.q;exact aE));conv=>lhs;whnf)
    have hl2:(l1).length≤l.length+1:=hl1
    generalize (aF b c3 3).2=c4 at hs ⊢
    have a6:=gZ U he c4 hb 3
    by_cases h5:(aF b c4 3).1=0
    ·rw[decide_eq_true h5]at a6
     have hs:jH b k (cH l1 (aF b (aF b c4 3).2 7).1 (dV b (aF b (aF b c4 3).2 7).2).1,(dV b (aF b (aF b c4 3).2 7).2).2)=fin:=by
      have e:eW b l1 c4=(cH l1 (aF b (aF b c4 3).2 7).1 (dV b (aF b (aF b c4 3).2 7).2).1,(dV b (aF b (aF b c4 3).2 7).2).2):=by unfold eW;rw[if_pos h5]
      rw[e]at hs
      exact hs
     apply Z.w (a6)
     conv=>lhs;whnf
     repeat((first|apply Z.t|apply Z.f|(apply Z.q;exact aE));conv=>lhs;whnf)
     apply Z.w (aZ U he (aF b c4 3).2 hb 7)
     conv=>lhs;whnf
     repeat((first|apply Z.t|apply Z.f|(apply Z.q;exact aE));conv=>lhs;whnf)
     apply Z.w (aLI U he (aF b (aF b c4 3).2 7).2 hb)
     conv=>lhs;whnf
     repeat((first|apply Z.t|apply Z.f|(apply Z.q;exact aE));conv=>lhs;whnf)
     apply Z.w (kZ U l1 (aF b (aF b c4 3).2 7).1 (dV b (aF b (aF b c4 3).2 7).2).1 (by omega))
     conv=>lhs;whnf
     repeat((first|apply Z.t|apply Z.f|(apply Z.q;exact aE));conv=>lhs;whnf)
     refine ih (k,cH l1 (aF b (aF b c4 3).2 7).1 (dV b (aF b (aF b c4 3).2 7).2).1,(dV b (aF b (aF b c4 3).2 7).2).2) k _ ?_ ⟨rfl,by omega,by simp only;rw[fB];omega,hs⟩ (by omega)
     intro K
     conv=>lhs;whnf
     conv=>rhs;whnf
     try rfl
     rw[show IntKind.i64.wrap (((k+1:Nat):Int)-1)=(k:Int) from qO (by omega)]
    ·rw[decide_eq_false h5]at a6
     have hs:jH b k (l1,(aF b c4 3).2)=fin:=by
      have e:eW b l1 c4=(l1,(aF b c4 3).2):=by unfold eW;rw[if_neg h5]
      rw[e]at hs
      exact hs
     apply Z.w (a6)
     conv=>lhs;whnf
     repeat((first|apply Z.t|apply Z.f|(apply Z.q;exact aE));conv=>lhs;whnf)
     refine ih (k,l1,(aF b c4 3).2) k _ ?_ ⟨rfl,by omega,by simp only;omega,hs⟩ (by omega)
     intro K
     conv=>lhs;whnf
     conv=>rhs;whnf
     try rfl
     rw[show IntKind.i64.wrap (((k+1:Nat):Int)-1)=(k:Int) from qO (by omega)]
  ·have g1:m=0:=by have g1:=of_decide_eq_false g1;omega
   subst g1
   have hs:(l,q)=fin:=hs
   rw[← hs]
   rfl
 ·rfl
theorem aJi (l:aC) (k:Int):aT l++[[.int .u8 (IntKind.u8.wrap k)]]=aT (l++[dH k]):=by
 rw[mL]
 show _=aT l++[[.int .u8 ((dH k).toNat:Int)]]
 rw[jA]
theorem xM {E:aS} (U:Sys E) {es:List (List T)} {b:aC} (he:es=aT b) (c:Cur) (hb:b.length≤1048576) (k:Nat) (hk:k≤250):∃ (x:aC) (c':Cur),x.length≤k∧E 543 [fU es c,iv k]=some ([ov 1 (aT x)],dD c'):=by
 have hr:=cC b c (n:=(k:Int)+1) (by omega)
 obtain⟨n,hn⟩:=Int.eq_ofNat_of_zero_le hr.1
 have a0:=aZ U he c hb ((k:Int)+1)
 rw[hn]at a0 hr
 have key:sL (E 543 [fU es c,iv k]) fun r=>∃ (x:aC) (c':Cur),x.length≤k∧r=([ov 1 (aT x)],dD c'):=by
  refine U.runS rfl rfl fun W Z=>?_
  conv=>lhs;whnf
  repeat((first|apply Z.t|apply Z.f|(apply Z.q;exact aE));conv=>lhs;whnf)
  rw[show IntKind.i64.wrap ((k:Int)+1)=(k:Int)+1 from aK (by omega)]
  apply Z.w (a0)
  conv=>lhs;whnf
  repeat((first|apply Z.t|apply Z.f|(apply Z.q;exact aE));conv=>lhs;whnf)
  refine Z.loop (σ:=Nat × aC × Cur) (γ:=Nat) (fun i s=>((s.sl 6 (v1 (.t (.int .i64 i.1)))).sl 0 (.box true [.blk 0, .t (.int .i64 i.2.2.i), .t (.int .i64 i.2.2.h)])).bl ⟨50500,1, .own,aT i.2.1⟩) (fun i m=>i.1=m∧m≤n∧i.2.1.length+m≤n) (fun m=>m) (n,[],(aF b c ((k:Int)+1)).2) n ?_ ?_ ?_
  ·intro K
   conv=>lhs;whnf
   conv=>rhs;whnf
   try rfl
  ·exact⟨rfl,Nat.le_refl _,by simp⟩
  ·rintro kl ⟨m,l,q⟩ _ ⟨rfl,hm,hl⟩ ih
   simp only at hl hm
   conv=>lhs;whnf
   apply Z.b<;>intro g1<;>conv=>lhs;whnf
   ·have g1:0<m:=by have g1:=of_decide_eq_true g1;omega
    obtain⟨j,rfl⟩:∃ j,m=j+1:=⟨m-1,by omega⟩
    repeat((first|apply Z.t|apply Z.f|(apply Z.q;exact aE));conv=>lhs;whnf)
    apply Z.w (aG0 U he q hb [97,98,99,0,255] (by decide))
    conv=>lhs;whnf
    repeat((first|apply Z.t|apply Z.f|(apply Z.q;exact aE));conv=>lhs;whnf)
    have hbl:=eF l
    refine Z.q (by exact⟨by decide,fun e he=>by rw[List.mem_singleton.mp he];rfl,by simp;omega,by simp;omega⟩) ?_
    conv=>lhs;whnf
    repeat((first|apply Z.t|apply Z.f|(apply Z.q;exact aE));conv=>lhs;whnf)
    refine ih (j,l++[dH (aGZ b q [97,98,99,0,255]).1],(aGZ b q [97,98,99,0,255]).2) j _ ?_ ⟨rfl,by omega,by simp only[List.length_append,List.length_singleton];omega⟩ (by omega)
    intro K
    conv=>lhs;whnf
    conv=>rhs;whnf
    try rfl
    rw[show IntKind.i64.wrap (((j+1:Nat):Int)-1)=(j:Int) from qO (by omega)]
    rw[← aJi]
    rfl
   ·repeat((first|apply Z.t|apply Z.f|(apply Z.q;exact aE));conv=>lhs;whnf)
    exact⟨_,rfl,l,q,by omega,rfl⟩
 obtain⟨r,h1,x,c',h2,rfl⟩:=key
 exact⟨x,c',h2,h1⟩
theorem aPs {E:aS} (U:Sys E) {es:List (List T)} {b:aC} (he:es=aT b) (c:Cur) (hb:b.length≤1048576):∃ (x:aC) (c':Cur),x.length≤16∧E 546 [fU es c]=some ([ov 1 (aT x)],dD c'):=by
 obtain⟨x,c',hx,a0⟩:=xM U he c hb 16 (by decide)
 refine⟨x,c',hx,?_⟩
 refine U.run rfl rfl fun W Z=>?_
 conv=>lhs;whnf
 repeat((first|apply Z.t|apply Z.f|(apply Z.q;exact aE));conv=>lhs;whnf)
 apply Z.w (a0)
 conv=>lhs;whnf
 repeat((first|apply Z.t|apply Z.f|(apply Z.q;exact aE));conv=>lhs;whnf)
 rfl
theorem aHw {E:aS} (U:Sys E) {es:List (List T)} {b:aC} (he:es=aT b) (c:Cur) (hb:b.length≤1048576):∃ (g s:Int) (x:aC) (c':Cur),x.length≤16∧1≤g∧g≤5∧2≤s∧s≤6∧E 545 [fU es c]=some ([gv ((lB g x s).cs cT),ov 1 (aT x)],dD c'):=by
 obtain⟨x,c1,hx,a0⟩:=aPs U he c hb
 have a1:=aZ U he c1 hb 5
 have h1:=cC b c1 (n:=5) (by decide)
 generalize aF b c1 5=q at a1 h1
 obtain⟨g,c2⟩:=q
 simp only at a1 h1
 have a2:=aZ U he c2 hb 5
 have h2:=cC b c2 (n:=5) (by decide)
 generalize aF b c2 5=q at a2 h2
 obtain⟨s,c3⟩:=q
 simp only at a2 h2
 refine⟨1+g,2+s,x,c3,hx,by omega,by omega,by omega,by omega,?_⟩
 refine U.run rfl rfl fun W Z=>?_
 conv=>lhs;whnf
 repeat((first|apply Z.t|apply Z.f|(apply Z.q;exact aE));conv=>lhs;whnf)
 apply Z.w (a0)
 conv=>lhs;whnf
 repeat((first|apply Z.t|apply Z.f|(apply Z.q;exact aE));conv=>lhs;whnf)
 apply Z.w (a1)
 conv=>lhs;whnf
 repeat((first|apply Z.t|apply Z.f|(apply Z.q;exact aE));conv=>lhs;whnf)
 apply Z.w (a2)
 conv=>lhs;whnf
 repeat((first|apply Z.t|apply Z.f|(apply Z.q;exact aE));conv=>lhs;whnf)
 rw[show IntKind.i64.wrap (1+g)=1+g from aK (by omega),show IntKind.i64.wrap (2+s)=2+s from aK (by omega)]
 apply Z.w (aKg U (1+g) x (2+s) (by omega))
 conv=>lhs;whnf
 repeat((first|apply Z.t|apply Z.f|(apply Z.q;exact aE));conv=>lhs;whnf)
 rfl
theorem aAZ (g:Int) (x:aC) (s:Int):(lB g x s).sums.length≤40:=by
 unfold lB
 split
 ·exact wB _ _
 ·exact Nat.zero_le _
theorem aKk (g s l:Int) (ss:List Sum) (h:ss.length≤41) (c:Cur):∃ (m:Man) (c':Cur),m.sums.length≤41∧([gv [ci g,ci s,ci l, .own 2 (ss.map Sum.row)]],dD c)=([gv (m.cs cT)],dD c'):=⟨⟨g,s,l,ss⟩,c,h,rfl⟩
theorem aTK (g s l:Int) (ss:List Sum) (h:ss.length≤41) (c:Cur) {aBM:List (List T)} (hr:ss.map Sum.row=aBM):∃ (m:Man) (c':Cur),m.sums.length≤41∧([gv [ci g,ci s,ci l, .own 2 aBM]],dD c)=([gv (m.cs cT)],dD c'):=⟨⟨g,s,l,ss⟩,c,h,by rw[← hr];rfl⟩
theorem aTL {E:aS} (U:Sys E) {es:List (List T)} {b:aC} (he:es=aT b) (c:Cur) (hb:b.length≤1048576):∃ (m:Man) (c':Cur),m.sums.length≤41∧E 544 [fU es c]=some ([gv (m.cs cT)],dD c'):=by
 obtain⟨g,s,x,c1,hx,_,_,_,_,a0⟩:=aHw U he c hb
 have hl:=aAZ g x s
 generalize lB g x s=m at a0 hl
 have hrl:(m.sums.map Sum.row).length=m.sums.length:=List.length_map _
 have key:sL (E 544 [fU es c]) fun r=>∃ (m:Man) (c':Cur),m.sums.length≤41∧r=([gv (m.cs cT)],dD c'):=by
  refine U.runS rfl rfl fun W Z=>?_
  conv=>lhs;whnf
  repeat((first|apply Z.t|apply Z.f|(apply Z.q;exact aE));conv=>lhs;whnf)
  apply Z.w (a0)
  conv=>lhs;whnf
  repeat((first|apply Z.t|apply Z.f|(apply Z.q;exact aE));conv=>lhs;whnf)
  apply Z.w (aZ U he c1 hb 10)
  conv=>lhs;whnf
  repeat((first|apply Z.t|apply Z.f|(apply Z.q;exact aE));conv=>lhs;whnf)
  apply Z.b<;>intro g1<;>conv=>lhs;whnf
  ·repeat((first|apply Z.t|apply Z.f|(apply Z.q;exact aE));conv=>lhs;whnf)
   apply Z.w (aG0 U he (aF b c1 10).2 hb [0,-1,1000000,1000001] (by decide))
   conv=>lhs;whnf
   repeat((first|apply Z.t|apply Z.f|(apply Z.q;exact aE));conv=>lhs;whnf)
   exact⟨_,rfl,aKk _ _ _ _ (by omega) _⟩
  ·apply Z.b<;>intro g2<;>conv=>lhs;whnf
   ·repeat((first|apply Z.t|apply Z.f|(apply Z.q;exact aE));conv=>lhs;whnf)
    apply Z.w (aG0 U he (aF b c1 10).2 hb [0,1,7] (by decide))
    conv=>lhs;whnf
    repeat((first|apply Z.t|apply Z.f|(apply Z.q;exact aE));conv=>lhs;whnf)
    exact⟨_,rfl,aKk _ _ _ _ (by omega) _⟩
   ·apply Z.b<;>intro g3<;>conv=>lhs;whnf
    ·repeat((first|apply Z.t|apply Z.f|(apply Z.q;exact aE));conv=>lhs;whnf)
     exact⟨_,rfl,aKk _ _ _ _ (by omega) _⟩
    ·apply Z.b<;>intro g4<;>conv=>lhs;whnf
     ·refine Z.q (by exact⟨by decide,fun e he=>by rw[List.mem_singleton.mp he];rfl,by simp;omega,by simp;omega⟩) ?_
      conv=>lhs;whnf
      repeat((first|apply Z.t|apply Z.f|(apply Z.q;exact aE));conv=>lhs;whnf)
      exact⟨_,rfl,aTK _ _ _ (m.sums++[⟨1,257⟩]) (by simp only[List.length_append,List.length_singleton];omega) _ (by rw[List.map_append];rfl)⟩
     ·apply Z.b<;>intro g5<;>conv=>lhs;whnf
      ·cases hs:m.sums with
       |nil =>
        repeat((first|apply Z.t|apply Z.f|(apply Z.q;exact aE));conv=>lhs;whnf)
        try(apply Z.bf (by first|(exact decide_eq_false (by omega))|(simp;done)|(simp;omega));conv=>lhs;whnf)
        refine⟨_,rfl,⟨m.gen,m.size,m.len,[]⟩,_,by simp,rfl⟩
       |cons y r =>
        have hlen:decide (((((y::r).map Sum.row).length:Nat):Int)>0)=true:=by simp
        apply Z.bt (hlen)
        conv=>lhs;whnf
        repeat((first|apply Z.t|apply Z.f|(apply Z.q;exact aE));conv=>lhs;whnf)
        repeat'((first|apply Z.t|apply Z.f|(apply Z.q;exact aE)|apply Z.w ((show((y::r).map Sum.row)[(0:Int).toNat]?=some (Sum.row y) from rfl))|(apply Z.b<;>intro h))<;>conv=>lhs;whnf)
        rw[hs]at hl
        exact⟨_,rfl,aKk _ _ _ (⟨_,y.s⟩::r) (by simp only[List.length_cons]at hl ⊢;omega) _⟩
      ·repeat((first|apply Z.t|apply Z.f|(apply Z.q;exact aE));conv=>lhs;whnf)
       exact⟨_,rfl,m,_,by omega,rfl⟩
 obtain⟨r,h1,m,c',h2,rfl⟩:=key
 exact⟨m,c',h2,h1⟩
theorem aL2 (l:aC) (n:Nat) (k:Int):aT (l.set n (dH k))=(aT l).set n [.int .u8 (IntKind.u8.wrap k)]:=by
 unfold aT
 rw[List.map_set]
 show _=(List.map mK l).set n [.int .u8 (IntKind.u8.wrap k)]
 rw[← jA]
 rfl
theorem wK (n:Nat) (aBM:List (List T)) (x:aC) (hl:x.length≤n) (c:Cur) (hr:aT x=aBM):∃ (x:aC) (c':Cur),x.length≤n∧([sv aBM],dD c)=([sv (aT x)],dD c'):=⟨x,c,hl,by rw[hr]⟩
theorem kE (n:Nat) (aBM:List (List T)) (x:aC) (hl:x.length≤n) (c:Cur) (hr:aT x=aBM):∃ (x:aC) (c':Cur),x.length≤n∧([ov 1 aBM],dD c)=([ov 1 (aT x)],dD c'):=⟨x,c,hl,by rw[hr]⟩
theorem aHx {E:aS} (U:Sys E) {es:List (List T)} {b:aC} (he:es=aT b) (c:Cur) (hb:b.length≤1048576) (x:aC) (hx:x.length≤1048576):∃ (y:aC) (c':Cur),y.length≤x.length+1∧E 551 [fU es c,sv (aT x)]=some ([ov 1 (aT y)],dD c'):=by
 have hbl:=eF x
 have key:sL (E 551 [fU es c,sv (aT x)]) fun r=>∃ (y:aC) (c':Cur),y.length≤x.length+1∧r=([ov 1 (aT y)],dD c'):=by
  refine U.runS rfl rfl fun W Z=>?_
  conv=>lhs;whnf
  refine Z.q (by exact⟨by decide,bB x,by simp;omega,by simp;omega⟩) ?_
  conv=>lhs;whnf
  apply Z.bt (cI x)
  conv=>lhs;whnf
  repeat((first|apply Z.t|apply Z.f|(apply Z.q;exact aE));conv=>lhs;whnf)
  apply Z.w (aZ U he c hb 6)
  conv=>lhs;whnf
  repeat((first|apply Z.t|apply Z.f|(apply Z.q;exact aE));conv=>lhs;whnf)
  apply Z.b<;>intro g1<;>conv=>lhs;whnf
  ·repeat((first|apply Z.t|apply Z.f|(apply Z.q;exact aE));conv=>lhs;whnf)
   by_cases h0:x.length=0
   ·obtain rfl:=List.eq_nil_of_length_eq_zero h0
    repeat((first|apply Z.t|apply Z.f|(apply Z.q;exact aE));conv=>lhs;whnf)
    exact⟨_,rfl,kE _ _ [] (by simp) _ rfl⟩
   ·have hlen:decide ((((aT x).length:Nat):Int)>0)=true:=decide_eq_true (by omega)
    apply Z.bt (hlen)
    conv=>lhs;whnf
    repeat((first|apply Z.t|apply Z.f|(apply Z.q;exact aE));conv=>lhs;whnf)
    have hr:=cC b (aF b c 6).2 (n:=((aT x).length:Int)) (by omega)
    have a1:=aZ U he (aF b c 6).2 hb ((aT x).length:Int)
    generalize aF b (aF b c 6).2 ((aT x).length:Int)=q at a1 hr
    obtain⟨j,c2⟩:=q
    simp only at a1 hr
    obtain⟨n,rfl⟩:=Int.eq_ofNat_of_zero_le hr.1
    apply Z.w (a1)
    conv=>lhs;whnf
    repeat((first|apply Z.t|apply Z.f|(apply Z.q;exact aE));conv=>lhs;whnf)
    apply Z.w (aZ U he c2 hb 256)
    conv=>lhs;whnf
    repeat((first|apply Z.t|apply Z.f|(apply Z.q;exact aE));conv=>lhs;whnf)
    have hn:n<x.length:=by omega
    have hget:(aT x)[((n:Nat):Int).toNat]?=some (mK x[n]):=cP hn
    repeat'((first|apply Z.t|apply Z.f|(apply Z.q;exact aE)|apply Z.w (hget)|(apply Z.b<;>intro h))<;>conv=>lhs;whnf)
    exact⟨_,rfl,kE _ _ (x.set n (dH (aF b c2 256).1)) (by simp) _ (aL2 _ _ _)⟩
  ·apply Z.b<;>intro g2<;>conv=>lhs;whnf
   ·repeat((first|apply Z.t|apply Z.f|(apply Z.q;exact aE));conv=>lhs;whnf)
    have hr:=cC b (aF b c 6).2 (n:=((aT x).length:Int)+1) (by omega)
    have a1:=aZ U he (aF b c 6).2 hb (((aT x).length:Int)+1)
    generalize aF b (aF b c 6).2 (((aT x).length:Int)+1)=q at a1 hr
    obtain⟨j,c2⟩:=q
    simp only at a1 hr
    obtain⟨n,rfl⟩:=Int.eq_ofNat_of_zero_le hr.1
    have hw:IntKind.i64.wrap (((aT x).length:Int)+1)=((aT x).length:Int)+1:=aK (by omega)
    rw[← hw]at a1
    apply Z.w (a1)
    conv=>lhs;whnf
    repeat((first|apply Z.t|apply Z.f|(apply Z.q;exact aE));conv=>lhs;whnf)
    have hle:((n:Nat):Int).toNat≤(aT x).length:=by omega
    refine Z.q (by exact⟨Nat.zero_le _,hle,bB x⟩) ?_
    conv=>lhs;whnf
    refine Z.q (by(show 0+(n-0)≤(aT x).length;omega)) ?_
    conv=>lhs;whnf
    exact⟨_,rfl,kE _ _ (x.take n) (by simp;omega) _ (aLG _ _).symm⟩
   ·apply Z.b<;>intro g3<;>conv=>lhs;whnf
    ·repeat((first|apply Z.t|apply Z.f|(apply Z.q;exact aE));conv=>lhs;whnf)
     apply Z.w (aG0 U he (aF b c 6).2 hb [0,1,128,255] (by decide))
     conv=>lhs;whnf
     repeat((first|apply Z.t|apply Z.f|(apply Z.q;exact aE));conv=>lhs;whnf)
     refine Z.q (by exact⟨by decide,fun e he=>by rw[List.mem_singleton.mp he];rfl,by simp;omega,by simp;omega⟩) ?_
     conv=>lhs;whnf
     repeat((first|apply Z.t|apply Z.f|(apply Z.q;exact aE));conv=>lhs;whnf)
     exact⟨_,rfl,kE _ _ (x++[dH (aGZ b (aF b c 6).2 [0,1,128,255]).1]) (by simp) _ (aJi _ _).symm⟩
    ·apply Z.b<;>intro g4<;>conv=>lhs;whnf
     ·repeat((first|apply Z.t|apply Z.f|(apply Z.q;exact aE));conv=>lhs;whnf)
      by_cases h0:x.length=0
      ·obtain rfl:=List.eq_nil_of_length_eq_zero h0
       repeat((first|apply Z.t|apply Z.f|(apply Z.q;exact aE));conv=>lhs;whnf)
       exact⟨_,rfl,kE _ _ [] (by simp) _ rfl⟩
      ·have hlen:decide ((((aT x).length:Nat):Int)>0)=true:=decide_eq_true (by omega)
       apply Z.bt (hlen)
       conv=>lhs;whnf
       repeat((first|apply Z.t|apply Z.f|(apply Z.q;exact aE));conv=>lhs;whnf)
       have hr:=cC b (aF b c 6).2 (n:=((aT x).length:Int)) (by omega)
       have a1:=aZ U he (aF b c 6).2 hb ((aT x).length:Int)
       generalize aF b (aF b c 6).2 ((aT x).length:Int)=q at a1 hr
       obtain⟨j,c2⟩:=q
       simp only at a1 hr
       obtain⟨n,rfl⟩:=Int.eq_ofNat_of_zero_le hr.1
       apply Z.w (a1)
       conv=>lhs;whnf
       repeat((first|apply Z.t|apply Z.f|(apply Z.q;exact aE));conv=>lhs;whnf)
       have hn:n<x.length:=by omega
       have hget:(aT x)[((n:Nat):Int).toNat]?=some (mK x[n]):=cP hn
       have hr8:=cC b c2 (n:=8) (by decide)
       have a2:=aZ U he c2 hb 8
       generalize aF b c2 8=q at a2 hr8
       obtain⟨m,c3⟩:=q
       simp only at a2 hr8
       repeat'((first|apply Z.t|apply Z.f|(apply Z.q;exact aE)|apply Z.w (hget)|apply Z.w (a2)|(apply Z.b<;>intro h))<;>conv=>lhs;whnf)
       exact⟨_,rfl,kE _ _ (x.set n (dH _)) (by simp) _ (aL2 _ _ _)⟩
     ·repeat((first|apply Z.t|apply Z.f|(apply Z.q;exact aE));conv=>lhs;whnf)
      exact⟨_,rfl,kE _ _ x (by omega) _ rfl⟩
 obtain⟨r,h1,y,c',h2,rfl⟩:=key
 exact⟨y,c',h2,h1⟩
theorem aN9 {E:aS} (U:Sys E) {es:List (List T)} {b:aC} (he:es=aT b) (c:Cur) (hb:b.length≤1048576) (x:aC) (hx:x.length≤1000):∃ (y:aC) (c':Cur),y.length≤x.length+20∧E 550 [fU es c,sv (aT x)]=some ([sv (aT y)],dD c'):=by
 have hbl:=eF x
 have key:sL (E 550 [fU es c,sv (aT x)]) fun r=>∃ (y:aC) (c':Cur),y.length≤x.length+20∧r=([sv (aT y)],dD c'):=by
  refine U.runS rfl rfl fun W Z=>?_
  conv=>lhs;whnf
  repeat((first|apply Z.t|apply Z.f|(apply Z.q;exact aE));conv=>lhs;whnf)
  apply Z.w (aZ U he c hb 5)
  conv=>lhs;whnf
  repeat((first|apply Z.t|apply Z.f|(apply Z.q;exact aE));conv=>lhs;whnf)
  apply Z.b<;>intro g1<;>conv=>lhs;whnf
  ·repeat((first|apply Z.t|apply Z.f|(apply Z.q;exact aE));conv=>lhs;whnf)
   obtain⟨z,c2,hz,a2⟩:=xM U he (aF b c 5).2 hb 16 (by decide)
   apply Z.w (a2)
   conv=>lhs;whnf
   repeat((first|apply Z.t|apply Z.f|(apply Z.q;exact aE));conv=>lhs;whnf)
   exact⟨_,rfl,wK _ _ z (by omega) _ rfl⟩
  ·apply Z.b<;>intro g2<;>conv=>lhs;whnf
   ·repeat((first|apply Z.t|apply Z.f|(apply Z.q;exact aE));conv=>lhs;whnf)
    refine Z.q (by exact⟨by decide,bB x,by simp;omega,by simp;omega⟩) ?_
    conv=>lhs;whnf
    apply Z.bt (cI x)
    conv=>lhs;whnf
    exact⟨_,rfl,wK _ _ x (by omega) _ rfl⟩
   ·apply Z.b<;>intro g3<;>conv=>lhs;whnf
    ·repeat((first|apply Z.t|apply Z.f|(apply Z.q;exact aE));conv=>lhs;whnf)
     have hr:=cC b (aF b c 5).2 (n:=((aT x).length:Int)+1) (by omega)
     have a1:=aZ U he (aF b c 5).2 hb (((aT x).length:Int)+1)
     generalize aF b (aF b c 5).2 (((aT x).length:Int)+1)=q at a1 hr
     obtain⟨j,c2⟩:=q
     simp only at a1 hr
     obtain⟨n,rfl⟩:=Int.eq_ofNat_of_zero_le hr.1
     have hw:IntKind.i64.wrap (((aT x).length:Int)+1)=((aT x).length:Int)+1:=aK (by omega)
     rw[← hw]at a1
     apply Z.w (a1)
     conv=>lhs;whnf
     repeat((first|apply Z.t|apply Z.f|(apply Z.q;exact aE));conv=>lhs;whnf)
     have hle:((n:Nat):Int).toNat≤(aT x).length:=by omega
     refine Z.q (by exact⟨hle,Nat.le_refl _,bB x⟩) ?_
     conv=>lhs;whnf
     repeat((first|apply Z.t|apply Z.f|(apply Z.q;exact aE));conv=>lhs;whnf)
     refine Z.q (by exact⟨Nat.zero_le _,hle,bB x⟩) ?_
     conv=>lhs;whnf
     have hq1:(List.take ((aT x).length-((n:Nat):Int).toNat) (List.drop ((n:Nat):Int).toNat (aT x))).length≤1000:=by rw[List.length_take,List.length_drop];omega
     refine Z.q (by exact⟨by decide,fun e he=>bB x e (List.mem_of_mem_drop (List.mem_of_mem_take he)),by change (1+List.length _)*1≤140737488355328;omega,by change 1+List.length _≤140737488355328;omega⟩) ?_
     conv=>lhs;whnf
     apply Z.bt (List.all_eq_true.mpr fun e he=>List.all_eq_true.mp (cI x) e (List.mem_of_mem_drop (List.mem_of_mem_take he)))
     conv=>lhs;whnf
     have hq2:(List.take (((n:Nat):Int).toNat-0) (List.drop 0 (aT x))).length≤1000:=by rw[List.length_take,List.length_drop];omega
     have hq3:([[T.int IntKind.u8 120]]++List.take ((aT x).length-((n:Nat):Int).toNat) (List.drop ((n:Nat):Int).toNat (aT x))).length+(List.take (((n:Nat):Int).toNat-0) (List.drop 0 (aT x))).length≤140737488355328:=by
      rw[List.length_append,List.length_singleton];omega
     refine Z.q (by exact⟨by decide,fun e he=>bB x e (List.mem_of_mem_drop (List.mem_of_mem_take he)),by rw[Nat.mul_one];exact hq3,hq3⟩) ?_
     conv=>lhs;whnf
     apply Z.bt (List.all_eq_true.mpr fun e he=>List.all_eq_true.mp (cI x) e (List.mem_of_mem_drop (List.mem_of_mem_take he)))
     conv=>lhs;whnf
     exact⟨_,rfl,wK _ _ (([120]++List.take ((aT x).length-n) (x.drop n))++List.take (n-0) (x.drop 0)) (by simp only[List.length_append,List.length_singleton,List.length_take,List.length_drop];omega) _ (by simp only[aT,List.map_append,List.map_take,List.map_drop,List.map_cons,List.map_nil];rfl)⟩
    ·apply Z.b<;>intro g4<;>conv=>lhs;whnf
     ·repeat((first|apply Z.t|apply Z.f|(apply Z.q;exact aE));conv=>lhs;whnf)
      exact⟨_,rfl,wK _ _ [] (by simp) _ rfl⟩
     ·repeat((first|apply Z.t|apply Z.f|(apply Z.q;exact aE));conv=>lhs;whnf)
      obtain⟨z,c2,hz,a2⟩:=xM U he (aF b c 5).2 hb 3 (by decide)
      apply Z.w (a2)
      conv=>lhs;whnf
      repeat((first|apply Z.t|apply Z.f|(apply Z.q;exact aE));conv=>lhs;whnf)
      obtain⟨y,c3,hy,a3⟩:=aHx U he c2 hb x (by omega)
      apply Z.w (a3)
      conv=>lhs;whnf
      repeat((first|apply Z.t|apply Z.f|(apply Z.q;exact aE));conv=>lhs;whnf)
      have hzl:=eF z
      have hyl:=eF y
      refine Z.q (by exact⟨by decide,bB y,by simp only[hzl,hyl];omega,by simp only[hzl,hyl];omega⟩) ?_
      conv=>lhs;whnf
      apply Z.bt (cI y)
      conv=>lhs;whnf
      exact⟨_,rfl,wK _ _ (z++y) (by simp;omega) _ (mL _ _)⟩
 obtain⟨r,h1,y,c',h2,rfl⟩:=key
 exact⟨y,c',h2,h1⟩
def pG (l:List Int):Prop:=l.length≤7∧1≤l.length∧l[0]?=some (-1)∧∀ (i:Nat) (x:Int),0<i→l[i]?=some x→0≤x∧x<i
theorem aHy {l:List Int} {x:Int} (h:pG l) (hl:l.length≤6) (h0:0≤x) (h1:x<l.length):pG (l++[x]):=by
 obtain⟨a,b,c,d⟩:=h
 refine⟨by simp;omega,by simp,by rw[List.getElem?_append_left (by omega)];exact c,fun i y hi hy=>?_⟩
 by_cases hil:i<l.length
 ·rw[List.getElem?_append_left hil]at hy
  exact d i y hi hy
 ·rw[List.getElem?_append_right (by omega)]at hy
  by_cases hi2:i=l.length
  ·subst hi2
   simp at hy
   subst hy
   exact⟨h0,h1⟩
  ·rw[List.getElem?_eq_none (by simp;omega)]at hy
   cases hy
theorem aSg {t:Tree} (h:pG t.up) {k:Nat} (hk:0<k) (hl:k<t.up.length):2≤(nN t k).length:=by
 obtain⟨a,b,c,d⟩:=h
 have:=d k _ hk (List.getElem?_eq_getElem hl)
 unfold nN
 obtain⟨n,hn⟩:∃ n,t.up.length=n+1+1:=⟨t.up.length-2,by omega⟩
 rw[hn]
 have e1:aR (k:Int) 0 ((t.up.length:Int)-1)=true:=by simp[aR];omega
 have e2:aR t.up[k] 0 ((t.up.length:Int)-1)=true:=by simp[aR];omega
 have e3:t.up.getD (k:Int).toNat 0=t.up[k]:=by rw[Int.toNat_natCast,List.getD_eq_getElem?_getD,List.getElem?_eq_getElem hl];rfl
 rw[sE,if_pos e1,e3,sE,if_pos e2]
 simp
theorem aPt {E:aS} (U:Sys E) {es:List (List T)} {b:aC} (he:es=aT b) (c:Cur) (hb:b.length≤1048576):∃ (t:Tree) (c':Cur),pG t.up∧E 547 [fU es c]=some ([gv (t.cs aJ)],dD c'):=by
 have key:sL (E 547 [fU es c]) fun r=>∃ (t:Tree) (c':Cur),pG t.up∧r=([gv (t.cs aJ)],dD c'):=by
  refine U.runS rfl rfl fun W Z=>?_
  conv=>lhs;whnf
  refine Z.loop (σ:=Nat × List Int × Cur) (γ:=Nat) (fun i s=>((s.sl 4 (v1 (.t (.int .i64 i.1)))).sl 0 (.box true [.blk 0, .t (.int .i64 i.2.2.i), .t (.int .i64 i.2.2.h)])).bl ⟨50300,1, .own,bN i.2.1⟩) (fun i m=>i.1+m=8∧i.2.1.length=i.1∧pG i.2.1) (fun m=>m) (1,[-1],c) 7 ?_ ?_ ?_
  ·intro K
   conv=>lhs;whnf
   conv=>rhs;whnf
   try rfl
  ·exact⟨rfl,rfl,(by decide:([-1]:List Int).length≤7),(by decide:1≤([-1]:List Int).length),rfl,fun i x hi hx=>by rw[List.getElem?_eq_none (by simp;omega)]at hx;cases hx⟩
  ·rintro kl ⟨k,l,q⟩ m ⟨hk,hl,ht⟩ ih
   simp only at hk hl ht
   have hil:(bN l).length=l.length:=List.length_map _
   conv=>lhs;whnf
   repeat((first|apply Z.t|apply Z.f|(apply Z.q;exact aE));conv=>lhs;whnf)
   have h7:=cC b q (n:=7) (by decide)
   have a0:=aZ U he q hb 7
   generalize aF b q 7=u at a0 h7
   obtain⟨v,q1⟩:=u
   simp only at a0 h7
   apply Z.w (a0)
   conv=>lhs;whnf
   repeat((first|apply Z.t|apply Z.f|(apply Z.q;exact aE));conv=>lhs;whnf)
   rw[show IntKind.i64.wrap (1+v)=1+v from aK (by omega)]
   apply Z.b<;>intro g1<;>conv=>lhs;whnf
   ·have g1:k<1+v:=of_decide_eq_true g1
    obtain⟨m,rfl⟩:∃ n,m=n+1:=⟨m-1,by omega⟩
    have hk1:1≤k:=by have:=ht.2.1;omega
    repeat((first|apply Z.t|apply Z.f|(apply Z.q;exact aE));conv=>lhs;whnf)
    rw[show IntKind.i64.wrap ((k:Int)-1)=(k:Int)-1 from aK (by omega)]
    have a1:=gZ U he q1 hb 2
    generalize aF b q1 2=u at a1
    obtain⟨w,q2⟩:=u
    simp only at a1
    apply Z.w (a1)
    conv=>lhs;whnf
    repeat((first|apply Z.t|apply Z.f|(apply Z.q;exact aE));conv=>lhs;whnf)
    apply Z.b<;>intro g2<;>conv=>lhs;whnf
    ·repeat((first|apply Z.t|apply Z.f|(apply Z.q;exact aE));conv=>lhs;whnf)
     have hr:=cC b q2 (n:=(k:Int)) (by omega)
     have a2:=aZ U he q2 hb (k:Int)
     generalize aF b q2 (k:Int)=u at a2 hr
     obtain⟨y,q3⟩:=u
     simp only at a2 hr
     apply Z.w (a2)
     conv=>lhs;whnf
     repeat((first|apply Z.t|apply Z.f|(apply Z.q;exact aE));conv=>lhs;whnf)
     refine Z.q (by exact⟨by decide,fun e he=>by rw[List.mem_singleton.mp he];rfl,by simp;omega,by simp;omega⟩) ?_
     conv=>lhs;whnf
     repeat((first|apply Z.t|apply Z.f|(apply Z.q;exact aE));conv=>lhs;whnf)
     refine ih (k+1,l++[y],q3) m _ ?_ ⟨by simp only;omega,by simp;omega,aHy ht (by omega) (by omega) (by omega)⟩ (by omega)
     intro K
     conv=>lhs;whnf
     conv=>rhs;whnf
     try rfl
     rw[show IntKind.i64.wrap ((k:Int)+1)=_ from aO (by omega),show bN (l++[y])=bN l++[[ti y]] from by simp[bN,mV]]
     rfl
    ·repeat((first|apply Z.t|apply Z.f|(apply Z.q;exact aE));conv=>lhs;whnf)
     refine Z.q (by exact⟨by decide,fun e he=>by rw[List.mem_singleton.mp he];rfl,by simp;omega,by simp;omega⟩) ?_
     conv=>lhs;whnf
     repeat((first|apply Z.t|apply Z.f|(apply Z.q;exact aE));conv=>lhs;whnf)
     refine ih (k+1,l++[(k:Int)-1],q2) m _ ?_ ⟨by simp only;omega,by simp;omega,aHy ht (by omega) (by omega) (by omega)⟩ (by omega)
     intro K
     conv=>lhs;whnf
     conv=>rhs;whnf
     try rfl
     rw[show IntKind.i64.wrap ((k:Int)+1)=_ from aO (by omega),show bN (l++[(k:Int)-1])=bN l++[[ti ((k:Int)-1)]] from by simp[bN,mV]]
     rfl
   ·repeat((first|apply Z.t|apply Z.f|(apply Z.q;exact aE));conv=>lhs;whnf)
    exact⟨_,rfl,⟨l⟩,_,ht,rfl⟩
 obtain⟨r,h1,t,c',h2,rfl⟩:=key
 exact⟨t,c',h2,h1⟩
def aVB (a b:Int):Int:=IntKind.i64.wrap (BitVec.ofInt IntKind.i64.bits a &&& BitVec.ofInt IntKind.i64.bits b).toNat
def lR (l:List Kid) (id have_:Int):Int :=
 match l[(eY l id).toNat]? with
 |none=>0
 |some x=>if eY l id<0∨bT have_=false∨bT x.want=false∨bT x.sent=false then 0 else nK (aVB x.want have_) x.sent
theorem aE5 {l:List Kid} {id h:Int} (hk:eY l id<0):lR l id h=0:=by
 unfold lR;split
 ·rfl
 ·rw[if_pos (.inl hk)]
theorem aHz {l:List Kid} {id h:Int} {n:Nat} (hn:n<l.length) (hk:eY l id=n):lR l id h=if bT h=false∨bT l[n].want=false∨bT l[n].sent=false then 0 else nK (aVB l[n].want h) l[n].sent:=by
 unfold lR
 rw[hk,Int.toNat_natCast,List.getElem?_eq_getElem hn]
 simp only[show ¬ ((n:Int)<0) from by omega,false_or]
theorem aIo {E:aS} (U:Sys E) (l:List Kid) (id h:Int) (h0:l.length≤1099511627776):E 291 [sv (l.map Kid.row),iv id,iv h]=some ([iv (lR l id h)],[]):=by
 refine U.run rfl rfl fun W Z=>?_
 conv=>lhs;whnf
 apply Z.w (qI U l id h0)
 conv=>lhs;whnf
 repeat((first|apply Z.t|apply Z.f|(apply Z.q;exact aE));conv=>lhs;whnf)
 apply Z.b<;>intro h1<;>conv=>lhs;whnf
 ·have h1:eY l id<0:=by simpa using h1
  rw[aE5 h1]
  repeat((first|apply Z.t|apply Z.f|(apply Z.q;exact aE));conv=>lhs;whnf)
  rfl
 ·obtain⟨n,hn,hk⟩:=vS (l:=l) (id:=id) (by simpa using h1)
  rw[aHz hn hk,hk]
  repeat((first|apply Z.t|apply Z.f|(apply Z.q;exact aE));conv=>lhs;whnf)
  apply Z.w (cG U h)
  conv=>lhs;whnf
  repeat((first|apply Z.t|apply Z.f|(apply Z.q;exact aE));conv=>lhs;whnf)
  apply Z.b<;>intro h2<;>conv=>lhs;whnf
  ·repeat((first|apply Z.t|apply Z.f|(apply Z.q;exact aE));conv=>lhs;whnf)
   rw[if_pos (.inl (jQ h2))];rfl
  ·repeat((first|apply Z.t|apply Z.f|(apply Z.q;exact aE)|(refine Z.w (cP ?_) ?_;omega));conv=>lhs;whnf)
   apply Z.w (cG U l[n].want)
   conv=>lhs;whnf
   repeat((first|apply Z.t|apply Z.f|(apply Z.q;exact aE));conv=>lhs;whnf)
   apply Z.b<;>intro h3<;>conv=>lhs;whnf
   ·repeat((first|apply Z.t|apply Z.f|(apply Z.q;exact aE));conv=>lhs;whnf)
    rw[if_pos (.inr (.inl (jQ h3)))];rfl
   ·repeat((first|apply Z.t|apply Z.f|(apply Z.q;exact aE)|(refine Z.w (cP ?_) ?_;omega));conv=>lhs;whnf)
    apply Z.w (cG U l[n].sent)
    conv=>lhs;whnf
    repeat((first|apply Z.t|apply Z.f|(apply Z.q;exact aE));conv=>lhs;whnf)
    apply Z.b<;>intro h4<;>conv=>lhs;whnf
    ·repeat((first|apply Z.t|apply Z.f|(apply Z.q;exact aE));conv=>lhs;whnf)
     rw[if_pos (.inr (.inr (jQ h4)))];rfl
    ·rw[if_neg (by rw[gA h2,gA h3,gA h4];decide)]
     repeat((first|apply Z.t|apply Z.f|(apply Z.q;exact aE)|(refine Z.w (cP ?_) ?_;omega));conv=>lhs;whnf)
     rfl
theorem aIp {E:aS} (U:Sys E) (l:List Kid) (id h:Int) (h0:l.length≤1099511627776):E 290 [sv (l.map Kid.row),iv id,iv h]=some ([iv (lR l id h)],[]):=by
 refine U.run rfl rfl fun W Z=>?_
 conv=>lhs;whnf
 apply Z.w (aC6 U l id h0)
 conv=>lhs;whnf
 repeat((first|apply Z.t|apply Z.f|(apply Z.q;exact aE));conv=>lhs;whnf)
 apply Z.b<;>intro h1<;>conv=>lhs;whnf
 ·have h1:eY l id<0:=by simpa using h1
  rw[aE5 h1]
  repeat((first|apply Z.t|apply Z.f|(apply Z.q;exact aE));conv=>lhs;whnf)
  rfl
 ·obtain⟨n,hn,hk⟩:=vS (l:=l) (id:=id) (by simpa using h1)
  rw[aHz hn hk,hk]
  repeat((first|apply Z.t|apply Z.f|(apply Z.q;exact aE));conv=>lhs;whnf)
  apply Z.w (dK U h)
  conv=>lhs;whnf
  repeat((first|apply Z.t|apply Z.f|(apply Z.q;exact aE));conv=>lhs;whnf)
  apply Z.b<;>intro h2<;>conv=>lhs;whnf
  ·repeat((first|apply Z.t|apply Z.f|(apply Z.q;exact aE));conv=>lhs;whnf)
   rw[if_pos (.inl (jQ h2))];rfl
  ·repeat((first|apply Z.t|apply Z.f|(apply Z.q;exact aE)|(refine Z.w (cP ?_) ?_;omega));conv=>lhs;whnf)
   apply Z.w (dK U l[n].want)
   conv=>lhs;whnf
   repeat((first|apply Z.t|apply Z.f|(apply Z.q;exact aE));conv=>lhs;whnf)
   apply Z.b<;>intro h3<;>conv=>lhs;whnf
   ·repeat((first|apply Z.t|apply Z.f|(apply Z.q;exact aE));conv=>lhs;whnf)
    rw[if_pos (.inr (.inl (jQ h3)))];rfl
   ·repeat((first|apply Z.t|apply Z.f|(apply Z.q;exact aE)|(refine Z.w (cP ?_) ?_;omega));conv=>lhs;whnf)
    apply Z.w (dK U l[n].sent)
    conv=>lhs;whnf
    repeat((first|apply Z.t|apply Z.f|(apply Z.q;exact aE));conv=>lhs;whnf)
    apply Z.b<;>intro h4<;>conv=>lhs;whnf
    ·repeat((first|apply Z.t|apply Z.f|(apply Z.q;exact aE));conv=>lhs;whnf)
     rw[if_pos (.inr (.inr (jQ h4)))];rfl
    ·rw[if_neg (by rw[gA h2,gA h3,gA h4];decide)]
     repeat((first|apply Z.t|apply Z.f|(apply Z.q;exact aE)|(refine Z.w (cP ?_) ?_;omega));conv=>lhs;whnf)
     rfl
theorem aHA {E:aS} (U:Sys E) (s:Int):E 432 [iv s]=some ([ov 1 (bN (oW s))],[]):=by
 refine U.run rfl rfl fun W Z=>?_
 conv=>lhs;whnf
 refine Z.loop (σ:=Nat × List Int) (γ:=Nat) (fun i s=>(s.sl 4 (v1 (.t (.int .i64 i.1)))).bl ⟨50300,1, .own,bN i.2⟩) (fun i m=>i.1=m∧m≤40∧i.2.length≤m∧i.2++nR s m (40-m)=oW s) (fun m=>40-m) (fun _=>([ov 1 (bN (oW s))],[])) (0,[]) 0 ?_ ?_ ?_ ?_
 ·intro K
  conv=>lhs;whnf
  conv=>rhs;whnf
  try rfl
 ·exact⟨rfl,by omega,by simp,rfl⟩
 ·rintro kl ⟨m,acc⟩ _ ⟨rfl,hm,hl,hs⟩ ih
  simp only at hs hm hl
  conv=>lhs;whnf
  apply Z.b<;>intro h1<;>conv=>lhs;whnf
  ·have h1:m<40:=by
    have:(m:Int)<40:=by simpa using h1
    omega
   rw[show 40-m=(40-(m+1))+1 from by omega,nR]at hs
   apply Z.w (dA U s m)
   conv=>lhs;whnf
   try(apply Z.q;exact aE;conv=>lhs;whnf)
   apply Z.b<;>intro h3<;>conv=>lhs;whnf
   ·rw[if_pos h3]at hs
    refine Z.q (by exact⟨by decide,by intro e he;simp at he;subst he;rfl,by simp[bN];omega,by simp[bN];omega⟩) ?_
    conv=>lhs;whnf
    repeat((first|apply Z.t|apply Z.f|(apply Z.q;exact aE));conv=>lhs;whnf)
    refine ih (m+1,acc++[(m:Int)]) (m+1) _ ?_ ⟨rfl,by omega,by simp;omega,by simpa using hs⟩ (by omega)
    intro K
    conv=>lhs;whnf
    conv=>rhs;whnf
    try rfl
    rw[show IntKind.i64.wrap ((m:Int)+1)=_ from aO (by omega)]
    simp[bN,mV]
   ·rw[if_neg (by rw[h3];decide)]at hs
    refine ih (m+1,acc) (m+1) _ ?_ ⟨rfl,by omega,by simp only;omega,hs⟩ (by omega)
    intro K
    conv=>lhs;whnf
    conv=>rhs;whnf
    try rfl
    rw[show IntKind.i64.wrap ((m:Int)+1)=_ from aO (by omega)]
    try rfl
  ·have:m=40:=by
    have:¬ (m:Int)<40:=by simpa using h1
    omega
   subst this
   simp only[Nat.sub_self,nR,List.append_nil]at hs
   rw[← hs];rfl
 ·rfl
def eB (m:Man) (x:Bld) (i:Int):Bool:=cM m x&&cX x.hav i
def jI (m:Man) (x:Bld) (i:Int):aC:=if eB m x i=true then dR x.buf m.size i else[]
theorem aNj {a b:Nat} (ha:a<1099511627776) (hb:b<1099511627776) (h:nK a b=0) {i:Nat} (hi:a.testBit i=true):b.testBit i=true:=by
 unfold nK at h
 have e:(BitVec.ofInt IntKind.i64.bits (a:Int) &&& ~~~BitVec.ofInt IntKind.i64.bits (b:Int)).toNat≤a:=by
  rw[BitVec.toNat_and,BitVec.ofInt_natCast,BitVec.toNat_ofNat]
  refine Nat.le_trans Nat.and_le_left (Nat.mod_le _ _)
 rw[show IntKind.i64.wrap (((BitVec.ofInt IntKind.i64.bits (a:Int) &&& ~~~BitVec.ofInt IntKind.i64.bits (b:Int)).toNat:Nat):Int)=(((BitVec.ofInt IntKind.i64.bits (a:Int) &&& ~~~BitVec.ofInt IntKind.i64.bits (b:Int)).toNat:Nat):Int) from aK (by omega)]at h
 have h:(BitVec.ofInt IntKind.i64.bits (a:Int) &&& ~~~BitVec.ofInt IntKind.i64.bits (b:Int)).toNat=0:=by omega
 have hz:BitVec.ofInt IntKind.i64.bits (a:Int) &&& ~~~BitVec.ofInt IntKind.i64.bits (b:Int)=0#_:=by
  apply BitVec.eq_of_toNat_eq;rw[h];simp
 have hlt:i<40:=by
  by_cases h:i<40
  ·exact h
  ·exfalso
   have:a.testBit i=false:=Nat.testBit_lt_two_pow (Nat.lt_of_lt_of_le ha (show 2 ^ 40≤2 ^ i from Nat.pow_le_pow_right (by decide) (by omega)))
   rw[this]at hi;cases hi
 have hg:=congrArg (fun v=>v.getLsbD i) hz
 simp only[BitVec.getLsbD_and,BitVec.getLsbD_not,BitVec.getLsbD_zero,BitVec.ofInt_natCast,BitVec.getLsbD_ofNat]at hg
 have hb64:i<IntKind.i64.bits:=by simp only[IntKind.bits];omega
 simp[hb64,hi]at hg
 exact hg
theorem aL3 {m:Man} {x:Bld} {i:Int} (h:eB m x i=true):∃ n:Nat,i=n∧n<m.sums.length∧n<40∧(x.buf.length:Int)=m.len∧aX m=true∧bT x.hav=true:=by
 unfold eB at h
 simp only[Bool.and_eq_true]at h
 obtain⟨h1,h2⟩:=h
 unfold cM at h1
 simp only[Bool.and_eq_true,decide_eq_true_eq]at h1
 obtain⟨h3,h4,h5,h6,h7⟩:=h1
 have h2':=h2
 unfold cX at h2'
 simp only[Bool.and_eq_true]at h2'
 have hi:=bL h2'.2.1
 have hc:=(dO h3).1
 obtain⟨n,rfl⟩:∃ n:Nat,i=n:=⟨i.toNat,by omega⟩
 have h4':=h4
 unfold bT at h4'
 have hv:=bL h4'
 obtain⟨v,hv'⟩:∃ v:Nat,x.hav=v:=⟨x.hav.toNat,by omega⟩
 have hap:cL m=((2 ^ m.sums.length-1:Nat):Int)∧(2 ^ m.sums.length-1:Nat)<1099511627776:=by
  unfold cL kO
  rw[if_pos (by simp only[aR,Bool.and_eq_true,decide_eq_true_eq];omega)]
  generalize hn:m.sums.length=k at hc
  have hp:2 ^ k≤2 ^ 40:=Nat.pow_le_pow_right (by decide) (by omega)
  have h40:(2:Nat) ^ 40=1099511627776:=by decide
  have h1:1≤2 ^ k:=Nat.one_le_two_pow
  rw[show min ((k:Int).toNat) IntKind.i64.bits=k from by simp only[IntKind.bits];omega,show(1:Int)*2 ^ k=((2 ^ k:Nat):Int) from by push_cast;omega]
  generalize 2 ^ k=p at hp h1 ⊢
  rw[show IntKind.i64.wrap (p:Int)=p from aK (by omega),show IntKind.i64.wrap ((p:Int)-1)=(p:Int)-1 from aK (by omega)]
  omega
 rw[hap.1,hv']at h5
 rw[hv',lY (by omega) (by omega)]at h2
 have:=aNj (by omega) hap.2 h5 h2
 rw[Nat.testBit_two_pow_sub_one]at this
 exact⟨n,rfl,by simpa using this,by omega,h6,h3,h4⟩
theorem aOa {m:Man} {x:Bld} {n:Nat} (h:(x.buf.length:Int)=m.len):dR x.buf m.size n=(x.buf.drop (aY m.size m.len n).toNat).take (aU m.size m.len n).toNat:=by unfold dR;rw[h]
theorem aHB {E:aS} (U:Sys E) (m:Man) (x:Bld) (i:Int) (hm:m.sums.length≤1048576) (hx:x.buf.length≤1048576):E 420 [gv (m.cs aJ),gv (x.cs aJ),iv i]=some ([ov 1 (aT (jI m x i)),bv (eB m x i)],[]):=by
 have a1:=wH U m x hm hx
 have a2:=dA U x.hav i
 unfold jI
 cases h:eB m x i
 ·have h':=h
  unfold eB at h'
  rw[Bool.and_eq_false_iff]at h'
  cases h1:cM m x
  ·rw[h1]at a1
   refine U.run rfl rfl fun W Z=>?_
   conv=>lhs;whnf
   repeat'((first|apply Z.t|apply Z.f|(apply Z.q;exact aE)|apply Z.w (a1)|(apply Z.b<;>intro h))<;>conv=>lhs;whnf)
   rfl
  ·have h2:cX x.hav i=false:=by rcases h' with h'|h';(rw[h1]at h';cases h');exact h'
   rw[h1]at a1
   rw[h2]at a2
   refine U.run rfl rfl fun W Z=>?_
   conv=>lhs;whnf
   repeat'((first|apply Z.t|apply Z.f|(apply Z.q;exact aE)|apply Z.w (a1)|apply Z.w (a2)|(apply Z.b<;>intro h))<;>conv=>lhs;whnf)
   rfl
 ·obtain⟨n,rfl,h1,h2,h3,h4,h5⟩:=aL3 h
  have h':=h
  unfold eB at h'
  simp only[Bool.and_eq_true]at h'
  rw[h'.1]at a1
  rw[h'.2]at a2
  have hs:=gJ (size:=m.size) (n:=m.len) (i:=n)
  obtain⟨a,ha⟩:∃ a:Nat,aY m.size m.len n=a:=⟨(aY m.size m.len n).toNat,by omega⟩
  obtain⟨w,hw⟩:∃ w:Nat,aU m.size m.len n=w:=⟨(aU m.size m.len n).toNat,by omega⟩
  have a3:=eG U m.size m.len n
  rw[ha,hw]at a3
  have hk:=aOa (m:=m) (x:=x) (n:=n) h3
  rw[ha,hw,Int.toNat_natCast,Int.toNat_natCast]at hk
  refine U.run rfl rfl fun W Z=>?_
  conv=>lhs;whnf
  apply Z.w (a1)
  conv=>lhs;whnf
  repeat((first|apply Z.t|apply Z.f|(apply Z.q;exact aE));conv=>lhs;whnf)
  apply Z.w (a2)
  conv=>lhs;whnf
  repeat((first|apply Z.t|apply Z.f|(apply Z.q;exact aE));conv=>lhs;whnf)
  apply Z.w (a3)
  conv=>lhs;whnf
  repeat((first|apply Z.t|apply Z.f|(apply Z.q;exact aE));conv=>lhs;whnf)
  rw[show IntKind.i64.wrap ((a:Int)+(w:Int))=((a+w:Nat):Int) from(aK (by omega)).trans (by omega)]
  repeat((first|apply Z.t|apply Z.f|(apply Z.q;exact aE));conv=>lhs;whnf)
  refine Z.q (by exact⟨by omega,by rw[aI];omega,bB _⟩) ?_
  conv=>lhs;whnf
  rw[show((a:Int).toNat)=a from by omega,show(((a+w:Nat):Int)).toNat-a=w from by omega,iI]
  refine Z.q (by exact⟨by decide,bB _,by simp[aT];omega,by simp[aT];omega⟩) ?_
  conv=>lhs;whnf
  apply Z.bt (cI _)
  conv=>lhs;whnf
  rw[hk]
  rfl
theorem aHC {E:aS} (U:Sys E) (m:Man) (x:Bld) (i:Int) (hm:m.sums.length≤1048576) (hx:x.buf.length≤1048576):E 425 [gv (m.cs aJ),gv (x.cs aJ),iv i]=some ([ov 1 (aT (jI m x i)),bv (eB m x i)],[]):=by
 have a1:=jG U m x hm hx
 have a2:=eA U x.hav i
 unfold jI
 cases h:eB m x i
 ·have h':=h
  unfold eB at h'
  rw[Bool.and_eq_false_iff]at h'
  cases h1:cM m x
  ·rw[h1]at a1
   refine U.run rfl rfl fun W Z=>?_
   conv=>lhs;whnf
   repeat'((first|apply Z.t|apply Z.f|(apply Z.q;exact aE)|apply Z.w (a1)|(apply Z.b<;>intro h))<;>conv=>lhs;whnf)
   rfl
  ·have h2:cX x.hav i=false:=by rcases h' with h'|h';(rw[h1]at h';cases h');exact h'
   rw[h1]at a1
   rw[h2]at a2
   refine U.run rfl rfl fun W Z=>?_
   conv=>lhs;whnf
   repeat'((first|apply Z.t|apply Z.f|(apply Z.q;exact aE)|apply Z.w (a1)|apply Z.w (a2)|(apply Z.b<;>intro h))<;>conv=>lhs;whnf)
   rfl
 ·obtain⟨n,rfl,h1,h2,h3,h4,h5⟩:=aL3 h
  have h':=h
  unfold eB at h'
  simp only[Bool.and_eq_true]at h'
  rw[h'.1]at a1
  rw[h'.2]at a2
  have hs:=gJ (size:=m.size) (n:=m.len) (i:=n)
  obtain⟨a,ha⟩:∃ a:Nat,aY m.size m.len n=a:=⟨(aY m.size m.len n).toNat,by omega⟩
  obtain⟨w,hw⟩:∃ w:Nat,aU m.size m.len n=w:=⟨(aU m.size m.len n).toNat,by omega⟩
  have hk:=aOa (m:=m) (x:=x) (n:=n) h3
  rw[ha,hw,Int.toNat_natCast,Int.toNat_natCast]at hk
  refine U.run rfl rfl fun W Z=>?_
  conv=>lhs;whnf
  apply Z.w (a1)
  conv=>lhs;whnf
  repeat((first|apply Z.t|apply Z.f|(apply Z.q;exact aE));conv=>lhs;whnf)
  apply Z.w (a2)
  conv=>lhs;whnf
  repeat((first|apply Z.t|apply Z.f|(apply Z.q;exact aE));conv=>lhs;whnf)
  apply Z.w (qM U m x n a w ha hw (by omega) hx)
  conv=>lhs;whnf
  repeat((first|apply Z.t|apply Z.f|(apply Z.q;exact aE));conv=>lhs;whnf)
  rw[iI,← hk]
  apply Z.w (dB U (dR x.buf m.size n) (by have:=mO x.buf m.size n;omega))
  conv=>lhs;whnf
  repeat((first|apply Z.t|apply Z.f|(apply Z.q;exact aE));conv=>lhs;whnf)
  rfl
def cN (gen i:Int) (b:aC):Msg:=⟨3,gen,⟨0,0,0,[]⟩,0,0,i,b⟩
theorem dE {E:aS} (U:Sys E) (gen i:Int) (b:aC) (hb:b.length≤1073741824):E 421 [iv gen,iv i,sv (aT b)]=some ([gv ((cN gen i b).cs cT)],[]):=by
 refine U.run rfl rfl fun W Z=>?_
 conv=>lhs;whnf
 refine Z.q (by exact⟨by decide,bB _,by simp[aT];omega,by simp[aT];omega⟩) ?_
 conv=>lhs;whnf
 apply Z.bt (cI _)
 conv=>lhs;whnf
 rfl
theorem aHD {E:aS} (U:Sys E) (gen i:Int) (b:aC) (hb:b.length≤1073741824):E 426 [iv gen,iv i,sv (aT b)]=some ([gv ((cN gen i b).cs cT)],[]):=by
 refine U.run rfl rfl fun W Z=>?_
 conv=>lhs;whnf
 apply Z.w (dB U b (by omega))
 conv=>lhs;whnf
 repeat((first|apply Z.t|apply Z.f|(apply Z.q;exact aE));conv=>lhs;whnf)
 rfl
theorem aHE {E:aS} (U:Sys E) (n:Node):E 71 [gv (n.cs aJ)]=some ([iv (aN4 n)],[]):=by
 refine U.run rfl rfl fun W Z=>?_
 conv=>lhs;whnf
 rfl
theorem aHF {E:aS} (U:Sys E) (n:Node):E 72 [gv (n.cs aJ)]=some ([iv (aN4 n)],[]):=by
 refine U.run rfl rfl fun W Z=>?_
 conv=>lhs;whnf
 rfl
theorem qP (m:Man) (x:Bld) (i:Int):(jI m x i).length≤x.buf.length:=by
 unfold jI
 split
 ·exact mO x.buf m.size i
 ·exact Nat.zero_le _
theorem aDm {b:aC}:∀ {s:Nat},s*256 ^ b.length≤eK b s:=by
 induction b with
 |nil=>intro s;simp[eK]
 |cons c r ih =>
  intro s
  simp only[eK,List.length_cons]
  refine Nat.le_trans ?_ ih
  rw[Nat.pow_succ,Nat.mul_comm (256 ^ r.length) 256,← Nat.mul_assoc]
  exact Nat.mul_le_mul_right _ (by omega)
theorem aKl {a b:aC} (h:eK a 1=eK b 1):a.length=b.length:=by
 have h1:=aDm (b:=a) (s:=1)
 have h2:=aDm (b:=b) (s:=1)
 have h3:=aF2 (b:=a) (s:=1)
 have h4:=aF2 (b:=b) (s:=1)
 rcases Nat.lt_trichotomy a.length b.length with hl|hl|hl
 ·exfalso
  have:256 ^ (a.length+1)≤256 ^ b.length:=Nat.pow_le_pow_right (by decide) hl
  rw[Nat.pow_succ]at this;omega
 ·exact hl
 ·exfalso
  have:256 ^ (b.length+1)≤256 ^ a.length:=Nat.pow_le_pow_right (by decide) hl
  rw[Nat.pow_succ]at this;omega
theorem aTM {m:Man} {l:List Sum}:∀ {i n:Nat} (h:yA m i l=true) (hn:n<l.length),aAm m (i+n) l[n]=true:=by
 induction l with
 |nil=>intro i n _ hn;cases hn
 |cons x r ih =>
  intro i n h hn
  simp only[yA,Bool.and_eq_true]at h
  cases n with
  |zero=>exact h.1
  |succ n =>
   rw[show i+(n+1)=(i+1)+n from by omega]
   exact ih h.2 (by simpa using hn)
theorem aSh {m:Man} (h:aX m=true) {n:Nat} (hn:n<m.sums.length):aAm m n m.sums[n]=true:=by
 unfold aX at h
 split at h
 ·have h3:m.sums=[]:=by simp[bV]at h;exact h.2.2.2
  rw[h3]at hn;cases hn
 ·simp only[Bool.and_eq_true]at h
  have:=aTM h.2.2.2 hn
  rwa [Nat.zero_add]at this
theorem aJj {m:Man} (h:aX m=true) {n:Nat} (hn:n<m.sums.length) {b:aC} (hb:bC b=m.sums[n]):(b.length:Int)=aU m.size m.len n∧b.length≤6:=by
 have ha:=aSh h hn
 simp only[aAm,Bool.and_eq_true,decide_eq_true_eq]at ha
 obtain⟨h1,h2,h3⟩:=ha
 have hl:=kB m.sums[n].s
 have hb6:b.length≤6:=by
  rcases Nat.lt_or_ge 6 b.length with h6|h6
  ·exfalso
   unfold bC at hb
   rw[if_pos (by omega)]at hb
   rw[← hb]at h1
   exact absurd h1 (by decide)
  ·exact h6
 have e:=h3.trans hb.symm
 unfold bC at e
 rw[if_neg (by omega),if_neg (by omega)]at e
 have e:=congrArg Sum.s e
 simp only at e
 have e:eK (bQ m.sums[n].s) 1=eK b 1:=by omega
 have:=aKl e
 omega
theorem xN {m:Man} {x:Bld} (h:cM m x=true):aX m=true∧bT x.hav=true∧(x.buf.length:Int)=m.len:=by
 unfold cM at h
 simp only[Bool.and_eq_true,decide_eq_true_eq]at h
 exact⟨h.1,h.2.1,h.2.2.2.1⟩
def jS (m:Man) (x:Bld) (i:Int) (b:aC):Bool:=cM m x&&(aR i 0 ((m.sums.length:Int)-1)&&(!cX x.hav i&&decide (bC b=m.sums.getD i.toNat ⟨0,0⟩)))
def dP (m:Man) (x:Bld) (i:Int) (b:aC):Bld:=if jS m x i b=true then iF m x i.toNat b else x
theorem aKm {m:Man} {x:Bld} {i:Int} {b:aC} (h:jS m x i b=true):∃ n:Nat,∃ hn:n<m.sums.length,i=n∧n<40∧cM m x=true∧aX m=true∧bT x.hav=true∧cX x.hav n=false∧bC b=m.sums[n]∧b.length≤6∧aU m.size m.len n=b.length∧0≤aY m.size m.len n∧aY m.size m.len n+b.length≤x.buf.length:=by
 unfold jS at h
 simp only[Bool.and_eq_true,decide_eq_true_eq,Bool.not_eq_true']at h
 obtain⟨h1,h2,h3,h4⟩:=h
 have h2:=bL h2
 obtain⟨n,rfl⟩:∃ n:Nat,i=n:=⟨i.toNat,by omega⟩
 have hn:n<m.sums.length:=by omega
 obtain⟨hm,hs,hl⟩:=xN h1
 have hc:=dO hm
 rw[Int.toNat_natCast,List.getD_eq_getElem?_getD,List.getElem?_eq_getElem hn,Option.getD_some]at h4
 have hp:=aJj hm hn h4
 have hsp:=gJ (size:=m.size) (n:=m.len) (i:=n)
 refine⟨n,hn,rfl,by omega,h1,hm,hs,h3,h4,hp.2,hp.1.symm,by omega,by omega⟩
theorem aSi {m:Man} {x:Bld} {i:Int} {b:aC} (hb:cM m x=true) (h:jS m x i b=false):aR i 0 ((m.sums.length:Int)-1)=false∨∃ n:Nat,∃ hn:n<m.sums.length,i=n∧(cX x.hav n=true∨cX x.hav n=false∧¬ bC b=m.sums[n]):=by
 unfold jS at h
 rw[hb,Bool.true_and]at h
 cases h2:aR i 0 ((m.sums.length:Int)-1)
 ·exact .inl rfl
 ·right
  rw[h2,Bool.true_and]at h
  have h2:=bL h2
  obtain⟨n,rfl⟩:∃ n:Nat,i=n:=⟨i.toNat,by omega⟩
  have hn:n<m.sums.length:=by omega
  refine⟨n,hn,rfl,?_⟩
  rw[Int.toNat_natCast,List.getD_eq_getElem?_getD,List.getElem?_eq_getElem hn,Option.getD_some]at h
  cases h3:cX x.hav n
  ·rw[h3]at h
   right
   exact⟨rfl,by simpa using h⟩
  ·exact .inl rfl
theorem aIq {E:aS} (U:Sys E) (m:Man) (x:Bld) (i:Int) (b:aC) (hm:m.sums.length≤1048576) (hb:b.length≤1048576) (h:cM m x=true) (hf:jS m x i b=false):E 369 [gv (m.cs aJ), .pt true (x.cs cT),iv i,sv (aT b)]=some ([bv false],x.cs cT):=by
 have hrl:(m.sums.map Sum.row).length=m.sums.length:=List.length_map _
 have a1:=bK U i 0 ((m.sums.length:Int)-1)
 have a2:=dA U x.hav i
 have a3:=eS U b (by omega)
 rcases aSi h hf with h1|⟨n,hn,rfl,h2|⟨h2,h3⟩⟩
 ·rw[h1]at a1
  refine U.run rfl rfl fun W Z=>?_
  conv=>lhs;whnf
  rw[hrl,show IntKind.i64.wrap ((m.sums.length:Int)-1)=(m.sums.length:Int)-1 from aK (by omega)]
  apply Z.w (a1)
  conv=>lhs;whnf
  repeat((first|apply Z.t|apply Z.f|(apply Z.q;exact aE));conv=>lhs;whnf)
  rfl
 ·rw[show aR n 0 ((m.sums.length:Int)-1)=true from by simp[aR];omega]at a1
  rw[h2]at a2
  refine U.run rfl rfl fun W Z=>?_
  conv=>lhs;whnf
  rw[hrl,show IntKind.i64.wrap ((m.sums.length:Int)-1)=(m.sums.length:Int)-1 from aK (by omega)]
  apply Z.w (a1)
  conv=>lhs;whnf
  repeat((first|apply Z.t|apply Z.f|(apply Z.q;exact aE));conv=>lhs;whnf)
  apply Z.w (a2)
  conv=>lhs;whnf
  repeat((first|apply Z.t|apply Z.f|(apply Z.q;exact aE));conv=>lhs;whnf)
  rfl
 ·rw[show aR n 0 ((m.sums.length:Int)-1)=true from by simp[aR];omega]at a1
  rw[h2]at a2
  refine U.run rfl rfl fun W Z=>?_
  conv=>lhs;whnf
  rw[hrl,show IntKind.i64.wrap ((m.sums.length:Int)-1)=(m.sums.length:Int)-1 from aK (by omega)]
  apply Z.w (a1)
  conv=>lhs;whnf
  repeat((first|apply Z.t|apply Z.f|(apply Z.q;exact aE));conv=>lhs;whnf)
  apply Z.w (a2)
  conv=>lhs;whnf
  repeat((first|apply Z.t|apply Z.f|(apply Z.q;exact aE));conv=>lhs;whnf)
  repeat((first|apply Z.t|apply Z.f|(apply Z.q;exact aE)|(refine Z.w (cP ?_) ?_;omega));conv=>lhs;whnf)
  apply Z.w (a3)
  conv=>lhs;whnf
  repeat((first|apply Z.t|apply Z.f|(apply Z.q;exact aE));conv=>lhs;whnf)
  apply Z.bt (by(revert h3;generalize bC b=y;generalize m.sums[n]=z;cases y;cases z;simp;exact fun h=>Decidable.or_iff_not_imp_left.mpr fun h'=>h (Decidable.not_not.mp h')))
  conv=>lhs;whnf
  repeat((first|apply Z.t|apply Z.f|(apply Z.q;exact aE));conv=>lhs;whnf)
  rfl
theorem aFG {E:aS} (U:Sys E) (m:Man) (x:Bld) (i:Int) (b:aC) (hm:m.sums.length≤1048576) (hx:x.buf.length≤1048576) (hb:b.length≤1048576):E 418 [gv (m.cs aJ),gv (x.cs aJ),iv i,sv (aT b)]=some ([gv ((dP m x i b).cs cT),bv (jS m x i b)],[]):=by
 have a0:=aAi U x (by omega)
 have a1:=wH U m x hm hx
 unfold dP
 cases h1:cM m x
 ·rw[show jS m x i b=false from by unfold jS;rw[h1];rfl]
  rw[h1]at a1
  refine U.run rfl rfl fun W Z=>?_
  conv=>lhs;whnf
  repeat'((first|apply Z.t|apply Z.f|(apply Z.q;exact aE)|apply Z.w (a0)|apply Z.w (a1)|(apply Z.b<;>intro h))<;>conv=>lhs;whnf)
  rfl
 ·rw[h1]at a1
  cases h2:jS m x i b
  ·have a2:=aIq U m x i b hm hb h1 h2
   refine U.run rfl rfl fun W Z=>?_
   conv=>lhs;whnf
   repeat'((first|apply Z.t|apply Z.f|(apply Z.q;exact aE)|apply Z.w (a0)|apply Z.w (a1)|apply Z.w (a2)|(apply Z.b<;>intro h))<;>conv=>lhs;whnf)
   rfl
  ·obtain⟨n,hn,rfl,h40,_,_,hs,hin,hsum,h6,hsp,hat,hfit⟩:=aKm h2
   have a2:=qN U m x n b hm hn h40 hs hin hsum h6 hat hfit hx
   refine U.run rfl rfl fun W Z=>?_
   conv=>lhs;whnf
   repeat'((first|apply Z.t|apply Z.f|(apply Z.q;exact aE)|apply Z.w (a0)|apply Z.w (a1)|apply Z.w (a2)|(apply Z.b<;>intro h))<;>conv=>lhs;whnf)
   rfl
theorem aFH {E:aS} (U:Sys E) (m:Man) (x:Bld) (i:Int) (b:aC) (hm:m.sums.length≤1048576) (hx:x.buf.length≤1048576) (hb:b.length≤1048576):E 423 [gv (m.cs aJ),gv (x.cs aJ),iv i,sv (aT b)]=some ([gv ((dP m x i b).cs cT),bv (jS m x i b)],[]):=by
 have hrl:(m.sums.map Sum.row).length=m.sums.length:=List.length_map _
 have a0:=oX U x (by omega)
 have a1:=jG U m x hm hx
 have a2:=bW U i 0 ((m.sums.length:Int)-1)
 have a3:=eA U x.hav i
 have a4:=jD U b (by omega)
 have hw:IntKind.i64.wrap ((m.sums.length:Int)-1)=(m.sums.length:Int)-1:=aK (by omega)
 unfold dP
 cases h1:cM m x
 ·rw[show jS m x i b=false from by unfold jS;rw[h1];rfl]
  rw[h1]at a1
  refine U.run rfl rfl fun W Z=>?_
  conv=>lhs;whnf
  repeat'((first|apply Z.t|apply Z.f|(apply Z.q;exact aE)|apply Z.w (a0)|apply Z.w (a1)|(apply Z.b<;>intro h))<;>conv=>lhs;whnf)
  rfl
 ·rw[h1]at a1
  cases h2:jS m x i b
  ·rcases aSi h1 h2 with h3|⟨n,hn,rfl,h3|⟨h3,h4⟩⟩
   ·rw[h3]at a2
    refine U.run rfl rfl fun W Z=>?_
    conv=>lhs;whnf
    repeat'((first|apply Z.t|apply Z.f|(apply Z.q;exact aE)|apply Z.w (a0)|apply Z.w (a1)|(apply Z.b<;>intro h))<;>conv=>lhs;whnf)
    rw[hrl,hw]
    repeat'((first|apply Z.t|apply Z.f|(apply Z.q;exact aE)|apply Z.w (a2)|(apply Z.b<;>intro h))<;>conv=>lhs;whnf)
    rfl
   ·rw[show aR n 0 ((m.sums.length:Int)-1)=true from by simp[aR];omega]at a2
    rw[h3]at a3
    refine U.run rfl rfl fun W Z=>?_
    conv=>lhs;whnf
    repeat'((first|apply Z.t|apply Z.f|(apply Z.q;exact aE)|apply Z.w (a0)|apply Z.w (a1)|(apply Z.b<;>intro h))<;>conv=>lhs;whnf)
    rw[hrl,hw]
    repeat'((first|apply Z.t|apply Z.f|(apply Z.q;exact aE)|apply Z.w (a2)|apply Z.w (a3)|(apply Z.b<;>intro h))<;>conv=>lhs;whnf)
    rfl
   ·rw[show aR n 0 ((m.sums.length:Int)-1)=true from by simp[aR];omega]at a2
    rw[h3]at a3
    refine U.run rfl rfl fun W Z=>?_
    conv=>lhs;whnf
    repeat'((first|apply Z.t|apply Z.f|(apply Z.q;exact aE)|apply Z.w (a0)|apply Z.w (a1)|(apply Z.b<;>intro h))<;>conv=>lhs;whnf)
    rw[hrl,hw]
    apply Z.w (a2)
    conv=>lhs;whnf
    repeat((first|apply Z.t|apply Z.f|(apply Z.q;exact aE));conv=>lhs;whnf)
    apply Z.w (a3)
    conv=>lhs;whnf
    repeat((first|apply Z.t|apply Z.f|(apply Z.q;exact aE)|(refine Z.w (cP ?_) ?_;omega));conv=>lhs;whnf)
    apply Z.w (a4)
    conv=>lhs;whnf
    repeat((first|apply Z.t|apply Z.f|(apply Z.q;exact aE));conv=>lhs;whnf)
    apply Z.bt (by(revert h4;generalize bC b=y;generalize m.sums[n]=z;cases y;cases z;simp;exact fun h=>Decidable.or_iff_not_imp_left.mpr fun h'=>h (Decidable.not_not.mp h')))
    conv=>lhs;whnf
    rfl
  ·obtain⟨n,hn,rfl,h40,_,_,hs,hin,hsum,h6,hsp,hat,hfit⟩:=aKm h2
   have a5:=aHq U m x n b h40 hsp hat hfit hx
   rw[show aR n 0 ((m.sums.length:Int)-1)=true from by simp[aR];omega]at a2
   rw[hin]at a3
   refine U.run rfl rfl fun W Z=>?_
   conv=>lhs;whnf
   repeat'((first|apply Z.t|apply Z.f|(apply Z.q;exact aE)|apply Z.w (a0)|apply Z.w (a1)|(apply Z.b<;>intro h))<;>conv=>lhs;whnf)
   rw[hrl,hw]
   apply Z.w (a2)
   conv=>lhs;whnf
   repeat((first|apply Z.t|apply Z.f|(apply Z.q;exact aE));conv=>lhs;whnf)
   apply Z.w (a3)
   conv=>lhs;whnf
   repeat((first|apply Z.t|apply Z.f|(apply Z.q;exact aE)|(refine Z.w (cP ?_) ?_;omega));conv=>lhs;whnf)
   apply Z.w (a4)
   conv=>lhs;whnf
   repeat((first|apply Z.t|apply Z.f|(apply Z.q;exact aE));conv=>lhs;whnf)
   apply Z.bf (by rw[hsum];simp)
   conv=>lhs;whnf
   repeat((first|apply Z.t|apply Z.f|(apply Z.q;exact aE));conv=>lhs;whnf)
   apply Z.w (a5)
   conv=>lhs;whnf
   repeat((first|apply Z.t|apply Z.f|(apply Z.q;exact aE));conv=>lhs;whnf)
   rfl
theorem aEx {s:Int} (h:bT s=true):∃ n:Nat,s=n∧n<1099511627776:=by
 unfold bT aR at h
 simp only[Bool.and_eq_true,decide_eq_true_eq]at h
 exact⟨s.toNat,by omega,by omega⟩
theorem aJk {n:Nat} (h:n<1099511627776):bT (n:Int)=true:=by
 unfold bT aR
 simp only[Bool.and_eq_true,decide_eq_true_eq]
 omega
theorem aPu {a b:Nat} (ha:a<1099511627776) (hb:b<1099511627776) (h:∀ i,a.testBit i=true→b.testBit i=true):nK a b=0:=by
 unfold nK
 have hz:BitVec.ofInt IntKind.i64.bits (a:Int) &&& ~~~BitVec.ofInt IntKind.i64.bits (b:Int)=0#_:=by
  apply BitVec.eq_of_getLsbD_eq
  intro i hi
  simp only[BitVec.getLsbD_and,BitVec.getLsbD_not,BitVec.getLsbD_zero,BitVec.ofInt_natCast,BitVec.getLsbD_ofNat,hi,decide_true,Bool.true_and]
  cases q:a.testBit i
  ·simp
  ·rw[h i q];simp
 rw[hz]
 rfl
theorem aPv {p:aC} {c:UInt8}:∀ {s:Nat},eK (p++[c]) s=256*eK p s+c.toNat:=by
 induction p with
 |nil=>intro s;rfl
 |cons a r ih=>intro s;simp only[List.cons_append,eK];exact ih
theorem aSj:∀ {n k:Nat} {p acc:aC},p.length=n→n≤k→aH1 k (eK p 1) acc=some (p++acc):=by
 intro n
 induction n with
 |zero =>
  intro k p acc hp _
  obtain rfl:=List.eq_nil_of_length_eq_zero hp
  cases k<;>rfl
 |succ n ih =>
  intro k p acc hp hk
  obtain⟨j,rfl⟩:∃ j,k=j+1:=⟨k-1,by omega⟩
  rcases List.eq_nil_or_concat p with rfl|⟨q,c,rfl⟩
  ·cases hp
  ·rw[List.concat_eq_append,List.length_append,List.length_singleton]at hp
   rw[List.concat_eq_append,aPv]
   have h1:=aDm (b:=q) (s:=1)
   have h2:1≤256 ^ q.length:=Nat.one_le_pow _ _ (by decide)
   have hc:=UInt8.toNat_lt c
   rw[aH1,if_neg (by omega),if_neg (by omega),show(256*eK q 1+c.toNat)/256=eK q 1 by omega,ih (by omega) (by omega)]
   have hb:dH ((256*eK q 1+c.toNat:Nat):Int)=c:=by
    apply UInt8.toNat_inj.mp
    unfold dH
    rw[UInt8.toNat_ofNat']
    omega
   rw[hb,List.append_assoc]
   rfl
theorem aHG {p:aC} (h:p.length≤6):dT (eK p 1:Nat)=some p:=by
 unfold dT
 have h1:=aDm (b:=p) (s:=1)
 have h2:1≤256 ^ p.length:=Nat.one_le_pow _ _ (by decide)
 have h3:=aF2 (b:=p) (s:=1)
 have h4:256 ^ p.length≤256 ^ 6:=Nat.pow_le_pow_right (by decide) h
 have h5:(256:Nat) ^ 6=281474976710656:=by decide
 rw[if_pos (by simp only[aR,Bool.and_eq_true,decide_eq_true_eq];omega),Int.toNat_natCast,aSj rfl h,List.append_nil]
theorem aL4 {b:aC} {size i:Int}:((dR b size i).length:Int)=aU size b.length i:=by
 have h:=gJ (size:=size) (n:=(b.length:Int)) (i:=i)
 unfold dR
 rw[List.length_take,List.length_drop]
 omega
theorem aPw {b:aC} {g size:Int} {s:List Sum} {n:Nat}:aAm ⟨g,size,b.length,s⟩ n (bC (dR b size (n:Int)))=true:=by
 have h:=gJ (size:=size) (n:=(b.length:Int)) (i:=(n:Int))
 have hl:=aL4 (b:=b) (size:=size) (i:=(n:Int))
 have h6:(dR b size (n:Int)).length≤6:=by omega
 have e:bC (dR b size (n:Int))=⟨bG (dR b size (n:Int)),(eK (dR b size (n:Int)) 1:Nat)⟩:=by
  unfold bC
  rw[if_neg (by omega)]
 have hb:bQ (bC (dR b size (n:Int))).s=dR b size (n:Int):=by rw[e];unfold bQ;rw[aHG h6];rfl
 have hk:bU (bC (dR b size (n:Int))).s=true:=by rw[e];unfold bU;rw[aHG h6];rfl
 unfold aAm
 rw[hk,hb,hl]
 simp
theorem aPx {b:aC} {g size:Int} {s:List Sum}:∀ (n i:Nat),yA ⟨g,size,b.length,s⟩ i ((List.range' i n).map fun i:Nat=>bC (dR b size (i:Int)))=true:=by
 intro n
 induction n with
 |zero=>intro i;rfl
 |succ n ih =>
  intro i
  rw[List.range'_succ,List.map_cons,yA,aPw,ih (i+1)]
  rfl
theorem aSk {g size:Int} {b:aC} (hg:aR g 1 1000000=true) (hs:cD size b.length=true):lB g b size=⟨g,size,b.length,eT b size⟩∧aX (lB g b size)=true:=by
 have e:lB g b size=⟨g,size,b.length,eT b size⟩:=by unfold lB;rw[if_pos ⟨hg,hs⟩]
 refine⟨e,?_⟩
 rw[e]
 have hg':=bL hg
 have hb:=(kA hs).2
 unfold aX
 simp only
 rw[if_neg (by omega),hg,hs]
 have hn:(((eT b size).length:Nat):Int)=bA size b.length:=by
  unfold eT aAU
  rw[lW]
  omega
 rw[hn]
 simp only[decide_true,Bool.true_and]
 unfold eT aDd
 rw[List.range_eq_range']
 exact aPx _ _
theorem aNk {size:Int} {n:Nat} (h1:2≤size) (h2:size≤6) (hn:n≤80):cD size n=true:=by
 unfold cD
 rw[show IntKind.i64.wrap (size*40)=size*40 from aK (by omega)]
 simp only[aR,Bool.and_eq_true,decide_eq_true_eq]
 omega
def aPy (m:Man) (x:Bld):Prop:=bT x.hav=true∧(x.buf.length:Int)=m.len
theorem wL {m:Man} {old:aC} (h:aX m=true):aPy m (cW m old):=by
 have hc:=dO h
 unfold cW
 rw[if_pos h]
 obtain⟨⟨n,hn,hlt⟩,hl⟩:=aF4 (old:=old) h (Nat.le_refl m.sums.length)
 have hp:2 ^ m.sums.length≤2 ^ 40:=Nat.pow_le_pow_right (by decide) hc.1
 have hp2:(2:Nat) ^ 40=1099511627776:=by decide
 refine⟨?_,hl⟩
 rw[hn]
 simp only[bT,aR,Bool.and_eq_true,decide_eq_true_eq];omega
theorem aUY {m:Man} {x:Bld} {n:Nat} {b:aC} (h40:n<40) (h:aPy m x) (hb:aY m.size m.len n+b.length≤x.buf.length) (h0:0≤aY m.size m.len n):aPy m (iF m x n b):=by
 obtain⟨hs,hl⟩:=h
 obtain⟨k,hk,hlt⟩:=aEx hs
 have hp:2 ^ n≤2 ^ 39:=Nat.pow_le_pow_right (by decide) (by omega)
 have hp2:(2:Nat) ^ 39=549755813888:=by decide
 refine⟨?_,?_⟩
 ·unfold iF
  simp only
  rw[hk,(aDh (by omega)).1,(nM (by omega) (by omega)).1]
  refine aJk ?_
  have h3:=Nat.or_lt_two_pow (n:=40) (x:=k) (y:=2 ^ n) (by omega) (by omega)
  omega
 ·unfold iF
  simp only
  rw[aDl (by omega)]
  exact hl
end Tev
