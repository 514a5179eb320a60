/- What the functions compute, one contract each. -/
import Derived.Test.YtdkfmakllhlbpaaGreatSendsCt1
set_option linter.unusedSimpArgs false
set_option linter.unusedVariables false
namespace Tev
open Go
set_option maxRecDepth 50000
set_option maxHeartbeats 20000000
theorem aAt {E:aR} (J:Sys E) (m:Msg) (hm:m.lim 1048576):E 310 [gv (m.cs aO)]=some ([ov 1 (aU (bZ m))],[]):=by
 have a:=aDt J m hm
 cases hr:bT m
 ·rw[hr]at a
  have e:bZ m=[]:=by unfold bZ;rw[if_neg (by rw[hr];decide)]
  rw[e]
  refine J.run rfl rfl fun W U=>?_
  conv=>lhs;whnf
  apply U.w (a)
  conv=>lhs;whnf
  repeat((first|apply U.t|apply U.f|(apply U.q;exact aE));conv=>lhs;whnf)
  rfl
 ·rw[hr]at a
  have e:bZ m=aC (iL m) (bB (iL m)):=by unfold bZ;rw[if_pos hr]
  have hk:=aA5 hr
  have hbl:=aJ7 hr
  have hL:=aHm hr
  rw[e]
  clear e
  obtain⟨kind,gen,man,want,done,i,b⟩:=m
  have hk:kind=1∨kind=2∨kind=3∨kind=4:=hk
  have hms:man.sums.length≤1048576:=hm.1
  have hbl:b.length≤6∨kind≠3:=hbl
  clear hm
  rcases hk with hk|hk|hk|hk
  ·subst hk
   have hB:iL ⟨1,gen,man,want,done,i,b⟩=cU (aC [] 1) man:=rfl
   rw[hB]at hL ⊢
   have s0:=aL [] 1
   refine J.run rfl rfl fun W U=>?_
   conv=>lhs;whnf
   apply U.w (a)
   conv=>lhs;whnf
   repeat((first|apply U.t|apply U.f|(apply U.q;exact aE));conv=>lhs;whnf)
   apply U.w (bE J [] 1 (by simp))
   conv=>lhs;whnf
   repeat((first|apply U.t|apply U.f|(apply U.q;exact aE));conv=>lhs;whnf)
   apply U.w (aH5 J (aC [] 1) man (by simp at s0;omega) hms)
   conv=>lhs;whnf
   repeat((first|apply U.t|apply U.f|(apply U.q;exact aE));conv=>lhs;whnf)
   apply U.w (fQ J (cU (aC [] 1) man) (by omega))
   conv=>lhs;whnf
   repeat((first|apply U.t|apply U.f|(apply U.q;exact aE));conv=>lhs;whnf)
   apply U.w (bE J (cU (aC [] 1) man) (bB (cU (aC [] 1) man)) (by omega))
   conv=>lhs;whnf
   repeat((first|apply U.t|apply U.f|(apply U.q;exact aE));conv=>lhs;whnf)
   rfl
  ·subst hk
   have hB:iL ⟨2,gen,man,want,done,i,b⟩=bV (bV (aC (aC [] 2) gen) want) done:=rfl
   rw[hB]at hL ⊢
   have s0:=aL [] 2
   have s1:=aL (aC [] 2) gen
   have s2:=aL (aC (aC [] 2) gen) (mY want)
   have s3:=aL (aC (aC (aC [] 2) gen) (mY want)) (yL want)
   have s4:=aL (aC (aC (aC (aC [] 2) gen) (mY want)) (yL want)) (mY done)
   have s5:=aL (aC (aC (aC (aC (aC [] 2) gen) (mY want)) (yL want)) (mY done)) (yL done)
   simp only[List.length_nil]at s0
   refine J.run rfl rfl fun W U=>?_
   conv=>lhs;whnf
   apply U.w (a)
   conv=>lhs;whnf
   repeat((first|apply U.t|apply U.f|(apply U.q;exact aE));conv=>lhs;whnf)
   apply U.w (bE J [] 2 (by simp))
   conv=>lhs;whnf
   repeat((first|apply U.t|apply U.f|(apply U.q;exact aE));conv=>lhs;whnf)
   apply U.w (bE J _ gen (by omega))
   conv=>lhs;whnf
   repeat((first|apply U.t|apply U.f|(apply U.q;exact aE));conv=>lhs;whnf)
   apply U.w (aAs J (aC (aC [] 2) gen) want (by omega))
   conv=>lhs;whnf
   repeat((first|apply U.t|apply U.f|(apply U.q;exact aE));conv=>lhs;whnf)
   apply U.w (aAs J (bV (aC (aC [] 2) gen) want) done (by unfold bV;omega))
   conv=>lhs;whnf
   repeat((first|apply U.t|apply U.f|(apply U.q;exact aE));conv=>lhs;whnf)
   apply U.w (fQ J (bV (bV (aC (aC [] 2) gen) want) done) (by omega))
   conv=>lhs;whnf
   repeat((first|apply U.t|apply U.f|(apply U.q;exact aE));conv=>lhs;whnf)
   apply U.w (bE J (bV (bV (aC (aC [] 2) gen) want) done) (bB (bV (bV (aC (aC [] 2) gen) want) done)) (by omega))
   conv=>lhs;whnf
   repeat((first|apply U.t|apply U.f|(apply U.q;exact aE));conv=>lhs;whnf)
   rfl
  ·subst hk
   have hB:iL ⟨3,gen,man,want,done,i,b⟩=cC (aC (aC (aC [] 3) gen) i) b:=rfl
   rw[hB]at hL ⊢
   have s0:=aL [] 3
   have s1:=aL (aC [] 3) gen
   have s2:=aL (aC (aC [] 3) gen) i
   simp only[List.length_nil]at s0
   refine J.run rfl rfl fun W U=>?_
   conv=>lhs;whnf
   apply U.w (a)
   conv=>lhs;whnf
   repeat((first|apply U.t|apply U.f|(apply U.q;exact aE));conv=>lhs;whnf)
   apply U.w (bE J [] 3 (by simp))
   conv=>lhs;whnf
   repeat((first|apply U.t|apply U.f|(apply U.q;exact aE));conv=>lhs;whnf)
   apply U.w (bE J _ gen (by omega))
   conv=>lhs;whnf
   repeat((first|apply U.t|apply U.f|(apply U.q;exact aE));conv=>lhs;whnf)
   apply U.w (bE J _ i (by omega))
   conv=>lhs;whnf
   repeat((first|apply U.t|apply U.f|(apply U.q;exact aE));conv=>lhs;whnf)
   apply U.w (aHk J _ b (by omega) (by omega))
   conv=>lhs;whnf
   repeat((first|apply U.t|apply U.f|(apply U.q;exact aE));conv=>lhs;whnf)
   apply U.w (fQ J (cC (aC (aC (aC [] 3) gen) i) b) (by omega))
   conv=>lhs;whnf
   repeat((first|apply U.t|apply U.f|(apply U.q;exact aE));conv=>lhs;whnf)
   apply U.w (bE J (cC (aC (aC (aC [] 3) gen) i) b) (bB (cC (aC (aC (aC [] 3) gen) i) b)) (by omega))
   conv=>lhs;whnf
   repeat((first|apply U.t|apply U.f|(apply U.q;exact aE));conv=>lhs;whnf)
   rfl
  ·subst hk
   have hB:iL ⟨4,gen,man,want,done,i,b⟩=aC (aC [] 4) gen:=rfl
   rw[hB]at hL ⊢
   have s0:=aL [] 4
   simp only[List.length_nil]at s0
   refine J.run rfl rfl fun W U=>?_
   conv=>lhs;whnf
   apply U.w (a)
   conv=>lhs;whnf
   repeat((first|apply U.t|apply U.f|(apply U.q;exact aE));conv=>lhs;whnf)
   apply U.w (bE J [] 4 (by simp))
   conv=>lhs;whnf
   repeat((first|apply U.t|apply U.f|(apply U.q;exact aE));conv=>lhs;whnf)
   apply U.w (bE J _ gen (by omega))
   conv=>lhs;whnf
   repeat((first|apply U.t|apply U.f|(apply U.q;exact aE));conv=>lhs;whnf)
   apply U.w (fQ J (aC (aC [] 4) gen) (by omega))
   conv=>lhs;whnf
   repeat((first|apply U.t|apply U.f|(apply U.q;exact aE));conv=>lhs;whnf)
   apply U.w (bE J (aC (aC [] 4) gen) (bB (aC (aC [] 4) gen)) (by omega))
   conv=>lhs;whnf
   repeat((first|apply U.t|apply U.f|(apply U.q;exact aE));conv=>lhs;whnf)
   rfl
theorem nZ (m:Msg):(bZ m).length≤1009:=by
 unfold bZ
 split
 ·rename_i h
  have h1:=aHm h
  have h2:=aL (iL m) (bB (iL m))
  omega
 ·simp
def fR (a b:Int) (m:Msg):Pkt:=⟨a,b,bZ m⟩
theorem eA {E:aR} (J:Sys E) (a b:Int) (m:Msg) (hm:m.lim 1048576):E 295 [iv a,iv b,gv (m.cs aO)]=some ([gv ((fR a b m).cs dH)],[]):=by
 refine J.run rfl rfl fun W U=>?_
 conv=>lhs;whnf
 apply U.w (aH6 J m hm)
 conv=>lhs;whnf
 repeat((first|apply U.t|apply U.f|(apply U.q;exact aE));conv=>lhs;whnf)
 rfl
theorem fK {E:aR} (J:Sys E) (a b:Int) (m:Msg) (hm:m.lim 1048576):E 296 [iv a,iv b,gv (m.cs aO)]=some ([gv ((fR a b m).cs dH)],[]):=by
 refine J.run rfl rfl fun W U=>?_
 conv=>lhs;whnf
 apply U.w (aAt J m hm)
 conv=>lhs;whnf
 repeat((first|apply U.t|apply U.f|(apply U.q;exact aE));conv=>lhs;whnf)
 rfl
def aA6:Nat→Nat→Nat→aD→Option (Nat × Nat × Bool)
 |0,_,_,_=>none
 |_+1,_,_,[]=>none
 |m+1,k,n,x::t=>if x.toNat<128 then some (n+x.toNat*128 ^ k,k+1,decide (k=0)||decide (0<x.toNat)) else aA6 m (k+1) (n+(x.toNat%128)*128 ^ k) t
def aGc (most:Nat) (b:aD) (a:Nat):Option (Nat × Nat × Bool):=aA6 most 0 0 (b.drop a)
def rN (o:Option (Nat × Nat × Bool)):Int:=match o with|some p=>p.1|none=>0
def rP (a:Nat) (o:Option (Nat × Nat × Bool)):Int:=match o with|some p=>((a+p.2.1:Nat):Int)|none=>0
def rO (o:Option (Nat × Nat × Bool)):Bool:=match o with|some p=>p.2.2|none=>false
theorem aNa {x:UInt8}:IntKind.i64.wrap (BitVec.ofInt IntKind.i64.bits (IntKind.i64.wrap (x.toNat:Int)) &&& BitVec.ofInt IntKind.i64.bits 127).toNat=((x.toNat%128:Nat):Int):=by
 have hx:x.toNat<256:=x.toNat_lt
 rw[show IntKind.i64.wrap (x.toNat:Int)=(x.toNat:Int) from aI (by omega)]
 rw[BitVec.toNat_and,BitVec.ofInt_natCast,show BitVec.ofInt IntKind.i64.bits 127=BitVec.ofNat IntKind.i64.bits 127 from rfl,BitVec.toNat_ofNat,BitVec.toNat_ofNat]
 rw[Nat.mod_eq_of_lt (show x.toNat<2 ^ IntKind.i64.bits from by simp only[IntKind.bits];omega),Nat.mod_eq_of_lt (show 127<2 ^ IntKind.i64.bits from by decide),Nat.and_two_pow_sub_one_eq_mod x.toNat 7]
 exact aI (by omega)
theorem aJ8 (k:Nat):(128:Nat) ^ k=2 ^ (7*k):=by rw[Nat.pow_mul]
theorem aIY {k:Nat} (h:k≤7):128 ^ k≤562949953421312:=by
 have:(128:Nat) ^ k≤128 ^ 7:=Nat.pow_le_pow_right (by decide) h
 have e:(128:Nat) ^ 7=562949953421312:=by decide
 omega
theorem qZ {n k a:Nat} (hk:k≤7) (hn:n<128 ^ k) (ha:a<128):IntKind.i64.wrap (BitVec.ofInt IntKind.i64.bits (n:Int) ||| BitVec.ofInt IntKind.i64.bits (IntKind.i64.wrap ((a:Int)*2 ^ (min (IntKind.i64.wrap (7*(k:Int))).toNat IntKind.i64.bits)))).toNat=((n+a*128 ^ k:Nat):Int)∧n+a*128 ^ k<128 ^ (k+1):=by
 have h7:=aIY hk
 have hb:n+a*128 ^ k<128 ^ (k+1):=by
  rw[Nat.pow_succ]
  have:a*128 ^ k≤127*128 ^ k:=Nat.mul_le_mul_right _ (by omega)
  omega
 refine⟨?_,hb⟩
 have hm:a*128 ^ k≤127*562949953421312:=Nat.mul_le_mul (by omega) h7
 rw[show IntKind.i64.wrap (7*(k:Int))=((7*k:Nat):Int) from(aI (by omega)).trans (by omega),Int.toNat_natCast,show min (7*k) IntKind.i64.bits=7*k from by simp only[IntKind.bits];omega]
 rw[show(a:Int)*2 ^ (7*k)=((a*128 ^ k:Nat):Int) from by rw[aJ8];push_cast;rfl]
 rw[show IntKind.i64.wrap ((a*128 ^ k:Nat):Int)=((a*128 ^ k:Nat):Int) from aI (by omega)]
 rw[BitVec.toNat_or,BitVec.ofInt_natCast,BitVec.ofInt_natCast,BitVec.toNat_ofNat,BitVec.toNat_ofNat]
 rw[Nat.mod_eq_of_lt (show n<2 ^ IntKind.i64.bits from by simp only[IntKind.bits];omega),Nat.mod_eq_of_lt (show a*128 ^ k<2 ^ IntKind.i64.bits from by simp only[IntKind.bits];omega)]
 rw[Nat.or_comm,aJ8,Nat.mul_comm a,← Nat.two_pow_add_eq_or_of_lt (by rw[← aJ8];exact hn)]
 rw[Nat.add_comm]
 exact aI (by rw[← aJ8,Nat.mul_comm];omega)
theorem aHn (x:UInt8):IntKind.i64.wrap (x.toNat:Int)=(x.toNat:Int):=aI (by have:x.toNat<256:=x.toNat_lt;omega)
theorem wG {E:aR} (J:Sys E) (b:aD) (a most:Nat) (hb:b.length≤1099511627776) (ha:a≤1099511627776) (hm:most≤8):E 332 [sv (aU b),iv a,iv most]=some ([iv (rN (aGc most b a)),iv (rP a (aGc most b a)),bv (rO (aGc most b a))],[]):=by
 refine J.run rfl rfl fun W U=>?_
 conv=>lhs;whnf
 refine U.loop (σ:=Nat × Nat) (γ:=Nat) (fun i s=>(s.sl 13 (v1 (.t (.int .i64 i.1)))).sl 9 (v1 (.t (.int .i64 i.2)))) (fun i k=>i.1=k∧k≤most∧i.2<128 ^ k∧aA6 (most-k) k i.2 (b.drop (a+k))=aGc most b a) (fun k=>most-k) (fun _=>([iv (rN (aGc most b a)),iv (rP a (aGc most b a)),bv (rO (aGc most b a))],[])) (0,0) 0 ?_ ?_ ?_ ?_
 ·intro K
  conv=>lhs;whnf
  conv=>rhs;whnf
  try rfl
 ·exact⟨rfl,by omega,by decide,rfl⟩
 ·rintro kl ⟨k,n⟩ _ ⟨rfl,hk,hn,hs⟩ ih
  simp only at hk hn hs
  conv=>lhs;whnf
  apply U.b<;>intro g1<;>conv=>lhs;whnf
  ·have g1:k<most:=by simpa using g1
   rw[show most-k=(most-(k+1))+1 from by omega]at hs
   rw[bO,show IntKind.i64.wrap ((b.length:Int)-1)=(b.length:Int)-1 from aI (by omega),show IntKind.i64.wrap ((b.length:Int)-1-k)=(b.length:Int)-1-k from aI (by omega)]
   apply U.w (cP J a 0 ((b.length:Int)-1-k))
   conv=>lhs;whnf
   repeat((first|apply U.t|apply U.f|(apply U.q;exact aE));conv=>lhs;whnf)
   apply U.b<;>intro g2<;>conv=>lhs;whnf
   ·have g2:=mS g2
    have hl:b.length≤a+k:=by simp[aW]at g2;omega
    rw[List.drop_eq_nil_of_le hl,aA6]at hs
    rw[← hs]
    rfl
   ·have g2:=bS (iV g2)
    have hl:a+k<b.length:=by omega
    rw[List.drop_eq_getElem_cons hl,aA6]at hs
    rw[show IntKind.i64.wrap ((a:Int)+(k:Int))=((a+k:Nat):Int) from(aI (by omega)).trans (by omega)]
    repeat((first|apply U.t|apply U.f|(apply U.q;exact aE)|(refine U.w (cG ?_) ?_;omega));conv=>lhs;whnf)
    have hx:(b[a+k]).toNat<256:=(b[a+k]).toNat_lt
    refine U.q (by exact(show(0:Int)≤aVk (7*(k:Int)) from by rw[aI (by omega)];omega)) ?_
    conv=>lhs;whnf
    rw[aNa,(qZ (a:=(b[a+k]).toNat%128) (by omega) hn (by omega)).1,aHn]
    apply U.b<;>intro g3<;>conv=>lhs;whnf
    ·have g3:(b[a+k]).toNat<128:=by simp at g3;omega
     rw[if_pos g3]at hs
     rw[Nat.mod_eq_of_lt g3,show IntKind.i64.wrap ((a:Int)+(k:Int))=((a+k:Nat):Int) from(aI (by omega)).trans (by omega),show IntKind.i64.wrap (((a+k:Nat):Int)+1)=((a+(k+1):Nat):Int) from(aI (by omega)).trans (by omega)]
     apply U.b<;>intro g4<;>conv=>lhs;whnf
     ·have k0:k=0:=by simp at g4;omega
      subst k0
      repeat((first|apply U.t|apply U.f|(apply U.q;exact aE));conv=>lhs;whnf)
      rw[← hs]
      rfl
     ·repeat((first|apply U.t|apply U.f|(apply U.q;exact aE));conv=>lhs;whnf)
      rw[← hs,show decide (k=0)=false from by simp at g4 ⊢;omega,Bool.false_or]
      simp only[rN,rP,rO]
      rw[show decide (((b[a+k]).toNat:Int)>0)=decide (0<(b[a+k]).toNat) from decide_eq_decide.mpr (by omega)]
      rfl
    ·have g3:¬ (b[a+k]).toNat<128:=by simp at g3;omega
     rw[if_neg g3]at hs
     refine ih (k+1,n+(b[a+k]).toNat%128*128 ^ k) (k+1) _ ?_ ⟨rfl,by omega,(qZ (by omega) hn (by omega)).2,hs⟩ (by omega)
     intro K
     conv=>lhs;whnf
     conv=>rhs;whnf
     try rfl
     rw[show IntKind.i64.wrap ((k:Int)+1)=_ from aK (by omega)]
     try rfl
  ·have:k=most:=by simp at g1;omega
   subst this
   rw[Nat.sub_self,aA6]at hs
   rw[← hs]
   rfl
 ·rfl
def gV (l:aD):Option (Nat × Nat):=match aA6 6 0 0 l with|some (n,c,true)=>if n≤1000000000000 then some (n,c) else none|_=>none
def gS (l:aD):Option (Nat × Nat):=match aA6 8 0 0 l with|some (n,c,true)=>some (n,c)|_=>none
def vN (o:Option (Nat × Nat)):Int:=match o with|some p=>p.1|none=>0
def vP (a:Nat) (o:Option (Nat × Nat)):Int:=match o with|some p=>((a+p.2:Nat):Int)|none=>0
theorem kZ {E:aR} (J:Sys E) (b:aD) (a:Nat) (hb:b.length≤1099511627776) (ha:a≤1099511627776):E 330 [sv (aU b),iv a]=some ([iv (vN (gV (b.drop a))),iv (vP a (gV (b.drop a))),bv (gV (b.drop a)).isSome],[]):=by
 have hr:=wG J b a 6 hb ha (by decide)
 unfold gV
 rw[show aGc 6 b a=aA6 6 0 0 (b.drop a) from rfl]at hr
 cases hd:aA6 6 0 0 (b.drop a) with
 |none =>
  rw[hd]at hr
  refine J.run rfl rfl fun W U=>?_
  conv=>lhs;whnf
  apply U.w (hr)
  conv=>lhs;whnf
  repeat((first|apply U.t|apply U.f|(apply U.q;exact aE)|(refine U.w (cG ?_) ?_;omega));conv=>lhs;whnf)
  rfl
 |some p =>
  obtain⟨n,c,ok⟩:=p
  rw[hd]at hr
  cases ok with
  |false =>
   refine J.run rfl rfl fun W U=>?_
   conv=>lhs;whnf
   apply U.w (hr)
   conv=>lhs;whnf
   repeat((first|apply U.t|apply U.f|(apply U.q;exact aE)|(refine U.w (cG ?_) ?_;omega));conv=>lhs;whnf)
   rfl
  |true =>
   refine J.run rfl rfl fun W U=>?_
   conv=>lhs;whnf
   apply U.w (hr)
   conv=>lhs;whnf
   repeat((first|apply U.t|apply U.f|(apply U.q;exact aE));conv=>lhs;whnf)
   apply U.b<;>intro g1<;>conv=>lhs;whnf
   ·have g1:¬ n≤1000000000000:=by simp[rN]at g1;omega
    rw[show(match (some (n,c,true):Option (Nat × Nat × Bool)) with|some (n,c,true)=>if n≤1000000000000 then some (n,c) else none|_=>none)=none from if_neg g1]
    rfl
   ·have g1:n≤1000000000000:=by simp[rN]at g1;omega
    rw[show(match (some (n,c,true):Option (Nat × Nat × Bool)) with|some (n,c,true)=>if n≤1000000000000 then some (n,c) else none|_=>none)=some (n,c) from if_pos g1]
    rfl
theorem aN7 {b:aD} {a:Nat} (h:aGc 6 b a=none):gV (b.drop a)=none:=by unfold gV;rw[show aA6 6 0 0 (b.drop a)=none from h]
theorem aU0 {b:aD} {a n c:Nat} {o:Bool} (h:aGc 6 b a=some (n,c,o)) (ho:o=false):gV (b.drop a)=none:=by unfold gV;rw[show aA6 6 0 0 (b.drop a)=_ from h,ho]
theorem aR8 {b:aD} {a n c:Nat} {o:Bool} (h:aGc 6 b a=some (n,c,o)) (hn:¬ n≤1000000000000):gV (b.drop a)=none:=by
 unfold gV;rw[show aA6 6 0 0 (b.drop a)=_ from h];cases o
 ·rfl
 ·exact if_neg hn
theorem aN8 {b:aD} {a n c:Nat} {o:Bool} (h:aGc 6 b a=some (n,c,o)) (ho:o=true) (hn:n≤1000000000000):gV (b.drop a)=some (n,c):=by
 unfold gV;rw[show aA6 6 0 0 (b.drop a)=_ from h,ho];exact if_pos hn
theorem aFL {E:aR} (J:Sys E) (b:aD) (a:Nat) (hb:b.length≤1099511627776) (ha:a≤1099511627776):E 328 [sv (aU b),iv a]=some ([iv (rN (aGc 8 b a)),iv (rP a (aGc 8 b a)),bv (rO (aGc 8 b a))],[]):=by
 refine J.run rfl rfl fun W U=>?_
 conv=>lhs;whnf
 refine U.loop (σ:=Nat × Nat) (γ:=Nat) (fun i s=>(s.sl 8 (v1 (.t (.int .i64 i.1)))).sl 7 (v1 (.t (.int .i64 i.2)))) (fun i k=>i.1=k∧k≤8∧i.2<128 ^ k∧aA6 (8-k) k i.2 (b.drop (a+k))=aGc 8 b a) (fun k=>8-k) (fun _=>([iv (rN (aGc 8 b a)),iv (rP a (aGc 8 b a)),bv (rO (aGc 8 b a))],[])) (0,0) 0 ?_ ?_ ?_ ?_
 ·intro K
  conv=>lhs;whnf
  conv=>rhs;whnf
  try rfl
 ·exact⟨rfl,by omega,by decide,rfl⟩
 ·rintro kl ⟨k,n⟩ _ ⟨rfl,hk,hn,hs⟩ ih
  simp only at hk hn hs
  conv=>lhs;whnf
  apply U.b<;>intro g1<;>conv=>lhs;whnf
  ·have g1:k<8:=by simp at g1;omega
   rw[show 8-k=(8-(k+1))+1 from by omega]at hs
   rw[bO,show IntKind.i64.wrap ((b.length:Int)-k)=(b.length:Int)-k from aI (by omega)]
   apply U.b<;>intro g2<;>conv=>lhs;whnf
   ·have hl:b.length≤a+k:=by simp at g2;omega
    rw[List.drop_eq_nil_of_le hl,aA6]at hs
    rw[← hs]
    rfl
   ·have hl:a+k<b.length:=by simp at g2;omega
    rw[List.drop_eq_getElem_cons hl,aA6]at hs
    rw[show IntKind.i64.wrap ((a:Int)+(k:Int))=((a+k:Nat):Int) from(aI (by omega)).trans (by omega)]
    repeat((first|apply U.t|apply U.f|(apply U.q;exact aE)|(refine U.w (cG ?_) ?_;omega));conv=>lhs;whnf)
    have hx:(b[a+k]).toNat<256:=(b[a+k]).toNat_lt
    refine U.q (by exact(show(0:Int)≤aVk (7*(k:Int)) from by rw[aI (by omega)];omega)) ?_
    conv=>lhs;whnf
    rw[aNa,(qZ (a:=(b[a+k]).toNat%128) (by omega) hn (by omega)).1,aHn]
    apply U.b<;>intro g3<;>conv=>lhs;whnf
    ·have g3:(b[a+k]).toNat<128:=by simp at g3;omega
     rw[if_pos g3]at hs
     rw[Nat.mod_eq_of_lt g3,show IntKind.i64.wrap ((a:Int)+(k:Int))=((a+k:Nat):Int) from(aI (by omega)).trans (by omega),show IntKind.i64.wrap (((a+k:Nat):Int)+1)=((a+(k+1):Nat):Int) from(aI (by omega)).trans (by omega)]
     apply U.b<;>intro g4<;>conv=>lhs;whnf
     ·repeat((first|apply U.t|apply U.f|(apply U.q;exact aE));conv=>lhs;whnf)
      rw[← hs,show decide (0<(b[a+k]).toNat)=true from by simp at g4 ⊢;omega,Bool.or_true]
      rfl
     ·repeat((first|apply U.t|apply U.f|(apply U.q;exact aE));conv=>lhs;whnf)
      rw[← hs,show decide (0<(b[a+k]).toNat)=false from by simp at g4 ⊢;omega,Bool.or_false]
      simp only[rN,rP,rO]
      rw[show decide ((k:Int)=0)=decide (k=0) from decide_eq_decide.mpr (by omega)]
      rfl
    ·have g3:¬ (b[a+k]).toNat<128:=by simp at g3;omega
     rw[if_neg g3]at hs
     refine ih (k+1,n+(b[a+k]).toNat%128*128 ^ k) (k+1) _ ?_ ⟨rfl,by omega,(qZ (by omega) hn (by omega)).2,hs⟩ (by omega)
     intro K
     conv=>lhs;whnf
     conv=>rhs;whnf
     try rfl
     rw[show IntKind.i64.wrap ((k:Int)+1)=_ from aK (by omega)]
     try rfl
  ·have:k=8:=by simp at g1;omega
   subst this
   rw[Nat.sub_self,aA6]at hs
   rw[← hs]
   rfl
 ·rfl
theorem cS {E:aR} (J:Sys E) (b:aD) (a:Nat) (hb:b.length≤1099511627776) (ha:a≤1099511627776):E 324 [sv (aU b),iv a]=some ([iv (vN (gV (b.drop a))),iv (vP a (gV (b.drop a))),bv (gV (b.drop a)).isSome],[]):=by
 refine J.run rfl rfl fun W U=>?_
 conv=>lhs;whnf
 refine U.loop (σ:=Nat × Nat) (γ:=Nat) (fun i s=>(s.sl 8 (v1 (.t (.int .i64 i.1)))).sl 7 (v1 (.t (.int .i64 i.2)))) (fun i k=>i.1=k∧k≤6∧i.2<128 ^ k∧aA6 (6-k) k i.2 (b.drop (a+k))=aGc 6 b a) (fun k=>6-k) (fun _=>([iv (vN (gV (b.drop a))),iv (vP a (gV (b.drop a))),bv (gV (b.drop a)).isSome],[])) (0,0) 0 ?_ ?_ ?_ ?_
 ·intro K
  conv=>lhs;whnf
  conv=>rhs;whnf
  try rfl
 ·exact⟨rfl,by omega,by decide,rfl⟩
 ·rintro kl ⟨k,n⟩ _ ⟨rfl,hk,hn,hs⟩ ih
  simp only at hk hn hs
  conv=>lhs;whnf
  apply U.b<;>intro g1<;>conv=>lhs;whnf
  ·have g1:k<6:=by simp at g1;omega
   rw[show 6-k=(6-(k+1))+1 from by omega]at hs
   repeat((first|apply U.t|apply U.f|(apply U.q;exact aE));conv=>lhs;whnf)
   rw[bO,show IntKind.i64.wrap ((b.length:Int)-k)=(b.length:Int)-k from aI (by omega)]
   apply U.b<;>intro g2<;>conv=>lhs;whnf
   ·have hl:b.length≤a+k:=by simp at g2;omega
    rw[List.drop_eq_nil_of_le hl,aA6]at hs
    rw[aN7 hs.symm]
    rfl
   ·have hl:a+k<b.length:=by simp at g2;omega
    rw[List.drop_eq_getElem_cons hl,aA6]at hs
    rw[show IntKind.i64.wrap ((a:Int)+(k:Int))=((a+k:Nat):Int) from(aI (by omega)).trans (by omega)]
    repeat((first|apply U.t|apply U.f|(apply U.q;exact aE)|(refine U.w (cG ?_) ?_;omega));conv=>lhs;whnf)
    have hx:(b[a+k]).toNat<256:=(b[a+k]).toNat_lt
    refine U.q (by exact(show(0:Int)≤aVk (7*(k:Int)) from by rw[aI (by omega)];omega)) ?_
    conv=>lhs;whnf
    rw[aNa,(qZ (a:=(b[a+k]).toNat%128) (by omega) hn (by omega)).1,aHn]
    apply U.b<;>intro g3<;>conv=>lhs;whnf
    ·have g3:(b[a+k]).toNat<128:=by simp at g3;omega
     rw[if_pos g3]at hs
     rw[Nat.mod_eq_of_lt g3]
     have hq:n+(b[a+k]).toNat*128 ^ k<562949953421312:=by
      have:=(qZ (a:=(b[a+k]).toNat) (by omega) hn g3).2
      have:=aIY (k:=k+1) (by omega)
      omega
     apply U.b<;>intro g4<;>conv=>lhs;whnf
     ·repeat((first|apply U.t|apply U.f|(apply U.q;exact aE));conv=>lhs;whnf)
      apply U.b<;>intro g5<;>conv=>lhs;whnf
      ·repeat((first|apply U.t|apply U.f|(apply U.q;exact aE));conv=>lhs;whnf)
       rw[aU0 hs.symm (by simp at g4 g5 ⊢;omega)]
       rfl
      ·repeat((first|apply U.t|apply U.f|(apply U.q;exact aE));conv=>lhs;whnf)
       apply U.b<;>intro g6<;>conv=>lhs;whnf
       ·repeat((first|apply U.t|apply U.f|(apply U.q;exact aE));conv=>lhs;whnf)
        rw[aR8 hs.symm (by have g6:=of_decide_eq_true g6;omega)]
        rfl
       ·repeat((first|apply U.t|apply U.f|(apply U.q;exact aE));conv=>lhs;whnf)
        rw[show IntKind.i64.wrap ((a:Int)+(k:Int))=((a+k:Nat):Int) from(aI (by omega)).trans (by omega),show IntKind.i64.wrap (((a+k:Nat):Int)+1)=((a+(k+1):Nat):Int) from(aI (by omega)).trans (by omega),aN8 hs.symm (by simp at g4 g5 ⊢;omega) (by have g6:=of_decide_eq_false g6;omega)]
        rfl
     ·repeat((first|apply U.t|apply U.f|(apply U.q;exact aE));conv=>lhs;whnf)
      apply U.b<;>intro g6<;>conv=>lhs;whnf
      ·repeat((first|apply U.t|apply U.f|(apply U.q;exact aE));conv=>lhs;whnf)
       rw[aR8 hs.symm (by have g6:=of_decide_eq_true g6;omega)]
       rfl
      ·repeat((first|apply U.t|apply U.f|(apply U.q;exact aE));conv=>lhs;whnf)
       rw[show IntKind.i64.wrap ((a:Int)+(k:Int))=((a+k:Nat):Int) from(aI (by omega)).trans (by omega),show IntKind.i64.wrap (((a+k:Nat):Int)+1)=((a+(k+1):Nat):Int) from(aI (by omega)).trans (by omega),aN8 hs.symm (by simp at g4 ⊢;omega) (by have g6:=of_decide_eq_false g6;omega)]
       rfl
    ·have g3:¬ (b[a+k]).toNat<128:=by simp at g3;omega
     rw[if_neg g3]at hs
     refine ih (k+1,n+(b[a+k]).toNat%128*128 ^ k) (k+1) _ ?_ ⟨rfl,by omega,(qZ (by omega) hn (by omega)).2,hs⟩ (by omega)
     intro K
     conv=>lhs;whnf
     conv=>rhs;whnf
     try rfl
     rw[show IntKind.i64.wrap ((k:Int)+1)=_ from aK (by omega)]
     try rfl
  ·have:k=6:=by simp at g1;omega
   subst this
   rw[Nat.sub_self,aA6]at hs
   rw[aN7 hs.symm]
   rfl
 ·rfl
theorem aR9:∀ {m k n:Nat} {l:aD} {x c:Nat} {o:Bool},aA6 m k n l=some (x,c,o)→k<c∧c≤k+m∧c≤k+l.length:=by
 intro m
 induction m with
 |zero=>intro k n l x c o h;cases h
 |succ m ih =>
  intro k n l x c o h
  cases l with
  |nil=>cases h
  |cons y t =>
   simp only[aA6]at h
   split at h
   ·obtain⟨rfl,rfl,rfl⟩:_∧_∧_:=by simpa using h
    simp only[List.length_cons];omega
   ·have:=ih h
    simp only[List.length_cons];omega
theorem oH {b:aD} {a n c:Nat} (h:gV (b.drop a)=some (n,c)):1≤c∧c≤6∧a+c≤b.length∧n≤1000000000000:=by
 unfold gV at h
 split at h
 ·rename_i x y he
  split at h
  ·obtain⟨rfl,rfl⟩:_∧_:=by simpa using h
   have:=aR9 he
   simp only[List.length_drop]at this
   omega
  ·cases h
 ·cases h
def aFM:Nat→aD→Nat→List Int→Option (List Int × Nat)
 |0,_,a,acc=>some (acc,a)
 |k+1,b,a,acc=>match gV (b.drop a) with|none=>none|some p=>aFM k b (a+p.2) (acc++[(p.1:Int)])
def aVH (o:Option (List Int × Nat)):List Int:=match o with|some p=>p.1|none=>[]
def aVI (o:Option (List Int × Nat)):Int:=match o with|some p=>(p.2:Int)|none=>0
theorem lK {E:aR} (J:Sys E) (b:aD) (a k:Nat) (hb:b.length≤1048576) (ha:a≤1048576) (hk:k≤8):E 334 [sv (aU b),iv a,iv k]=some ([ov 1 (bD (aVH (aFM k b a []))),iv (aVI (aFM k b a [])),bv (aFM k b a []).isSome],[]):=by
 refine J.run rfl rfl fun W U=>?_
 conv=>lhs;whnf
 refine U.loop (σ:=Nat × Nat × List Int) (γ:=Nat) (fun i s=>((s.sl 15 (v1 (.t (.int .i64 i.1)))).sl 1 (v1 (.t (.int .i64 i.2.1)))).bl ⟨50900,1, .own,bD i.2.2⟩) (fun i m=>i.1=m∧m≤k∧i.2.1≤1048576∧i.2.2.length≤m∧aFM (k-m) b i.2.1 i.2.2=aFM k b a []) (fun m=>k-m) (fun _=>([ov 1 (bD (aVH (aFM k b a []))),iv (aVI (aFM k b a [])),bv (aFM k b a []).isSome],[])) (0,a,[]) 0 ?_ ?_ ?_ ?_
 ·intro K
  conv=>lhs;whnf
  conv=>rhs;whnf
  try rfl
 ·exact⟨rfl,by omega,ha,by simp,rfl⟩
 ·rintro kl ⟨m,p,acc⟩ _ ⟨rfl,hm,hp,hl,hs⟩ ih
  simp only at hs hm hl hp
  conv=>lhs;whnf
  apply U.b<;>intro h1<;>conv=>lhs;whnf
  ·have h1:m<k:=by simp at h1;omega
   rw[show k-m=(k-(m+1))+1 from by omega,aFM]at hs
   apply U.w (kZ J b p (by omega) (by omega))
   conv=>lhs;whnf
   try(apply U.q;exact aE;conv=>lhs;whnf)
   cases hg:gV (b.drop p) with
   |none =>
    rw[hg]at hs
    repeat((first|apply U.t|apply U.f|(apply U.q;exact aE));conv=>lhs;whnf)
    rw[← hs]
    rfl
   |some q =>
    obtain⟨n,c⟩:=q
    rw[hg]at hs
    have hc:=oH hg
    repeat((first|apply U.t|apply U.f|(apply U.q;exact aE));conv=>lhs;whnf)
    refine U.q (by exact⟨by decide,by intro e he;simp at he;subst he;rfl,by simp[bD];omega,by simp[bD];omega⟩) ?_
    conv=>lhs;whnf
    repeat((first|apply U.t|apply U.f|(apply U.q;exact aE));conv=>lhs;whnf)
    refine ih (m+1,p+c,acc++[(n:Int)]) (m+1) _ ?_ ⟨rfl,by omega,by simp only;omega,by simp;omega,hs⟩ (by omega)
    intro K
    conv=>lhs;whnf
    conv=>rhs;whnf
    try rfl
    rw[show IntKind.i64.wrap ((m:Int)+1)=_ from aK (by omega)]
    simp[bD,kK,vN,vP]
  ·have:m=k:=by simp at h1;omega
   subst this
   rw[Nat.sub_self,aFM]at hs
   rw[← hs]
   rfl
 ·rfl
def gP (b:aD) (a most:Nat):Option (aD × Nat):=match gV (b.drop a) with|none=>none|some q=>if q.1≤most∧q.1+(a+q.2)≤b.length then some ((b.drop (a+q.2)).take q.1,a+q.2+q.1) else none
def aVV (o:Option (aD × Nat)):aD:=match o with|some p=>p.1|none=>[]
def aVW (o:Option (aD × Nat)):Int:=match o with|some p=>(p.2:Int)|none=>0
theorem aFN {E:aR} (J:Sys E) (b:aD) (a n:Nat) (h0:b.length≤1048576) (h1:a≤b.length) (h3:¬ a+n≤b.length):E 255 [sv (aU b),iv a,iv n]=some ([ov 1 (aU []),bv false],[]):=by
 have ha:=cP J a 0 b.length
 have hb:=cP J n 0 (b.length-a)
 rw[show aW a 0 b.length=true from by simp[aW];omega]at ha
 rw[show aW n 0 (b.length-a)=false from by simp[aW];omega]at hb
 refine J.run rfl rfl fun W U=>?_
 conv=>lhs;whnf
 rw[bO]
 apply U.w (ha)
 conv=>lhs;whnf
 repeat((first|apply U.t|apply U.f|(apply U.q;exact aE));conv=>lhs;whnf)
 rw[bO]
 rw[show IntKind.i64.wrap ((b.length:Int)-a)=b.length-a from aI (by omega)]
 apply U.w (hb)
 conv=>lhs;whnf
 repeat((first|apply U.t|apply U.f|(apply U.q;exact aE));conv=>lhs;whnf)
 rfl
theorem aHo {E:aR} (J:Sys E) (b:aD) (a most:Nat) (hb:b.length≤1048576) (ha:a≤1048576) (hm:most≤1048576):E 335 [sv (aU b),iv a,iv most]=some ([ov 1 (aU (aVV (gP b a most))),iv (aVW (gP b a most)),bv (gP b a most).isSome],[]):=by
 have hr:=kZ J b a (by omega) (by omega)
 unfold gP
 cases hg:gV (b.drop a) with
 |none =>
  rw[hg]at hr
  refine J.run rfl rfl fun W U=>?_
  conv=>lhs;whnf
  apply U.w (hr)
  conv=>lhs;whnf
  repeat((first|apply U.t|apply U.f|(apply U.q;exact aE));conv=>lhs;whnf)
  rfl
 |some q =>
  obtain⟨n,c⟩:=q
  rw[hg]at hr
  have hc:=oH hg
  simp only
  refine J.run rfl rfl fun W U=>?_
  conv=>lhs;whnf
  apply U.w (hr)
  conv=>lhs;whnf
  repeat((first|apply U.t|apply U.f|(apply U.q;exact aE));conv=>lhs;whnf)
  apply U.b<;>intro g1<;>conv=>lhs;whnf
  ·have g1:¬ n≤most:=by simp[vN]at g1;omega
   rw[if_neg (by omega)]
   rfl
  ·have g1:n≤most:=by simp[vN]at g1;omega
   by_cases g2:a+c+n≤b.length
   ·apply U.w (aJ3 J b (a+c:Nat) n (by omega) (by omega) (by omega) (by omega))
    conv=>lhs;whnf
    repeat((first|apply U.t|apply U.f|(apply U.q;exact aE));conv=>lhs;whnf)
    rw[if_pos ⟨g1,by omega⟩,show IntKind.i64.wrap (vP a (some (n,c))+vN (some (n,c)))=((a+c+n:Nat):Int) from by simp only[vP,vN];exact(aI (by omega)).trans (by omega)]
    rfl
   ·apply U.w (aFN J b (a+c) n (by omega) (by omega) (by omega))
    conv=>lhs;whnf
    repeat((first|apply U.t|apply U.f|(apply U.q;exact aE));conv=>lhs;whnf)
    rw[if_neg (by omega)]
    rfl
theorem wH {E:aR} (J:Sys E) (b:aD) (a most:Nat) (hb:b.length≤1048576) (ha:a≤1048576) (hm:most≤1048576):E 327 [sv (aU b),iv a,iv most]=some ([ov 1 (aU (aVV (gP b a most))),iv (aVW (gP b a most)),bv (gP b a most).isSome],[]):=by
 have hr:=cS J b a (by omega) (by omega)
 unfold gP
 cases hg:gV (b.drop a) with
 |none =>
  rw[hg]at hr
  refine J.run rfl rfl fun W U=>?_
  conv=>lhs;whnf
  apply U.w (hr)
  conv=>lhs;whnf
  repeat((first|apply U.t|apply U.f|(apply U.q;exact aE));conv=>lhs;whnf)
  rfl
 |some q =>
  obtain⟨n,c⟩:=q
  rw[hg]at hr
  have hc:=oH hg
  simp only
  refine J.run rfl rfl fun W U=>?_
  conv=>lhs;whnf
  apply U.w (hr)
  conv=>lhs;whnf
  repeat((first|apply U.t|apply U.f|(apply U.q;exact aE));conv=>lhs;whnf)
  apply U.b<;>intro g1<;>conv=>lhs;whnf
  ·have g1:¬ n≤most:=by simp[vN]at g1;omega
   repeat((first|apply U.t|apply U.f|(apply U.q;exact aE));conv=>lhs;whnf)
   rw[if_neg (by omega)]
   rfl
  ·have g1:n≤most:=by simp[vN]at g1;omega
   repeat((first|apply U.t|apply U.f|(apply U.q;exact aE));conv=>lhs;whnf)
   rw[bO,show IntKind.i64.wrap ((b.length:Int)-vP a (some (n,c)))=((b.length-(a+c):Nat):Int) from by simp only[vP];exact(aI (by omega)).trans (by omega)]
   apply U.b<;>intro g2<;>conv=>lhs;whnf
   ·have g2:¬ a+c+n≤b.length:=by simp[vN]at g2;omega
    rw[if_neg (by omega)]
    rfl
   ·have g2:a+c+n≤b.length:=by simp[vN]at g2;omega
    rw[if_pos ⟨g1,by omega⟩]
    repeat((first|apply U.t|apply U.f|(apply U.q;exact aE));conv=>lhs;whnf)
    rw[show IntKind.i64.wrap (vP a (some (n,c))+vN (some (n,c)))=((a+c+n:Nat):Int) from by simp only[vP,vN];exact(aI (by omega)).trans (by omega),show vP a (some (n,c))=((a+c:Nat):Int) from rfl]
    repeat((first|apply U.t|apply U.f|(apply U.q;exact aE));conv=>lhs;whnf)
    refine U.q (by exact⟨by omega,by rw[aJ];omega,bK b⟩) ?_
    conv=>lhs;whnf
    rw[jK]
    refine U.q (by exact⟨by decide,bK _,by simp[aJ];omega,by simp[aJ];omega⟩) ?_
    conv=>lhs;whnf
    rw[show((a+c+n:Nat):Int).toNat-((a+c:Nat):Int).toNat=n from by omega]
    apply U.bt (cZ _)
    conv=>lhs;whnf
    rw[show IntKind.i64.wrap (((a+c:Nat):Int)+vN (some (n,c)))=((a+c+n:Nat):Int) from by simp only[vN];exact(aI (by omega)).trans (by omega)]
    rfl
def vQ (a:Nat) (o:Option (Nat × Nat)):Nat:=match o with|some p=>a+p.2|none=>0
theorem aV5 (a:Nat) (o:Option (Nat × Nat)):vP a o=(vQ a o:Int):=by cases o<;>rfl
theorem aUg {b:aD} {a:Nat}:vQ a (gV (b.drop a))≤b.length:=by
 cases h:gV (b.drop a) with
 |none=>exact Nat.zero_le _
 |some q=>exact(oH h).2.2.1
theorem aU1 {b:aD} {a n c:Nat} (h:gS (b.drop a)=some (n,c)):1≤c∧a+c≤b.length∧aGc 8 b a=some (n,c,true):=by
 unfold gS at h
 split at h
 ·rename_i x y he
  obtain⟨rfl,rfl⟩:_∧_:=by simpa using h
  have:=aR9 he
  simp only[List.length_drop]at this
  exact⟨by omega,by omega,he⟩
 ·cases h
theorem aUh {b:aD} {a:Nat} (h:gS (b.drop a)=none):rO (aGc 8 b a)=false:=by
 unfold gS at h
 unfold aGc
 split at h
 ·cases h
 ·rename_i hn
  cases hr:aA6 8 0 0 (b.drop a) with
  |none=>rfl
  |some p =>
   obtain⟨x,c,o⟩:=p
   cases o with
   |false=>rfl
   |true=>exact absurd hr (hn _ _)
def aLK (s:Nat):Sum:=⟨(bI (bQ s)).w,s⟩
def aN9:Nat→aD→Nat→List Sum→Option (List Sum × Nat)
 |0,_,a,acc=>some (acc,a)
 |k+1,b,a,acc=>match gS (b.drop a) with|none=>none|some p=>aN9 k b (a+p.2) (acc++[aLK p.1])
def aTF:Nat→aD→Nat→List Sum→Option (List Sum × Nat)
 |0,_,a,acc=>some (acc,a)
 |k+1,b,a,acc=>match gS (b.drop a) with|none=>none|some p=>if bW p.1=true then aTF k b (a+p.2) (acc++[bI (bQ p.1)]) else none
def aAu (g s n:Int) (o:Option (List Sum × Nat)):Option (Man × Nat):=match o with|none=>none|some (l,q)=>if aY ⟨g,s,n,l⟩=true then some (⟨g,s,n,l⟩,q) else none
theorem aGd {g s n:Int} {l:List Sum} {q:Nat} (h:aY ⟨g,s,n,l⟩=true):aAu g s n (some (l,q))=some (⟨g,s,n,l⟩,q):=if_pos h
theorem aJ9 {g s n:Int} {l:List Sum} {q:Nat} (h:aY ⟨g,s,n,l⟩=false):aAu g s n (some (l,q))=none:=if_neg (by rw[h];decide)
def sR (b:aD) (a:Nat):Option (Man × Nat) :=
 match gV (b.drop a) with
 |none=>none
 |some (g,c1)=>match gV (b.drop (a+c1)) with
  |none=>none
  |some (s,c2)=>match gV (b.drop (a+c1+c2)) with
   |none=>none
   |some (n,c3)=>aAu g s n (aN9 (if 0<g then(bA s n).toNat else 0) b (a+c1+c2+c3) [])
def aVJ (o:Option (Man × Nat)):Man:=match o with|some p=>p.1|none=>⟨0,0,0,[]⟩
def aVK (o:Option (Man × Nat)):Int:=match o with|some p=>(p.2:Int)|none=>0
theorem aH7 {E:aR} (J:Sys E) (b:aD) (a:Nat) (hb:b.length≤1048576) (ha:a≤1048576):E 326 [sv (aU b),iv a]=some ([gv ((aVJ (sR b a)).cs dH),iv (aVK (sR b a)),bv (sR b a).isSome],[]):=by
 have r1:=cS J b a (by omega) (by omega)
 have q1:vQ a (gV (b.drop a))≤b.length:=aUg
 have r2:=cS J b (vQ a (gV (b.drop a))) (by omega) (by omega)
 have q2:vQ (vQ a (gV (b.drop a))) (gV (b.drop (vQ a (gV (b.drop a)))))≤b.length:=aUg
 have r3:=cS J b (vQ (vQ a (gV (b.drop a))) (gV (b.drop (vQ a (gV (b.drop a)))))) (by omega) (by omega)
 rw[aV5]at r1 r2 r3
 unfold sR
 cases h1:gV (b.drop a) with
 |none =>
  rw[h1]at r1 r2 r3
  simp only
  refine J.run rfl rfl fun W U=>?_
  conv=>lhs;whnf
  repeat'((first|apply U.t|apply U.f|(apply U.q;exact aE)|apply U.w (r1)|apply U.w (r2)|apply U.w (r3)|(apply U.b<;>intro h))<;>conv=>lhs;whnf)
  rfl
 |some p1 =>
  obtain⟨g,c1⟩:=p1
  have f1:=oH h1
  rw[h1]at r1 r2 r3 q1 q2
  rw[show vQ a (some (g,c1))=a+c1 from rfl]at r1 r2 r3 q2
  simp only
  cases h2:gV (b.drop (a+c1)) with
  |none =>
   rw[h2]at r2 r3
   simp only
   refine J.run rfl rfl fun W U=>?_
   conv=>lhs;whnf
   repeat'((first|apply U.t|apply U.f|(apply U.q;exact aE)|apply U.w (r1)|apply U.w (r2)|apply U.w (r3)|(apply U.b<;>intro h))<;>conv=>lhs;whnf)
   rfl
  |some p2 =>
   obtain⟨s,c2⟩:=p2
   have f2:=oH h2
   rw[h2]at r2 r3 q2
   rw[show vQ (a+c1) (some (s,c2))=a+c1+c2 from rfl]at r2 r3
   simp only
   cases h3:gV (b.drop (a+c1+c2)) with
   |none =>
    rw[h3]at r3
    simp only
    refine J.run rfl rfl fun W U=>?_
    conv=>lhs;whnf
    repeat'((first|apply U.t|apply U.f|(apply U.q;exact aE)|apply U.w (r1)|apply U.w (r2)|apply U.w (r3)|(apply U.b<;>intro h))<;>conv=>lhs;whnf)
    rfl
   |some p3 =>
    obtain⟨n,c3⟩:=p3
    have f3:=oH h3
    rw[h3]at r3
    rw[show vQ (a+c1+c2) (some (n,c3))=a+c1+c2+c3 from rfl]at r3
    simp only
    have hB:=pM (s:Int) (n:Int)
    obtain⟨nb,hnb⟩:∃ nb:Nat,bA (s:Int) (n:Int)=nb:=⟨(bA (s:Int) (n:Int)).toNat,by omega⟩
    rw[hnb,Int.toNat_natCast]
    refine J.run rfl rfl fun W U=>?_
    conv=>lhs;whnf
    repeat'((first|apply U.t|apply U.f|(apply U.q;exact aE)|apply U.w (r1)|apply U.w (r2)|apply U.w (r3)|(apply U.b<;>intro h))<;>conv=>lhs;whnf)
    obtain⟨K,hK⟩:∃ K:Nat,K=if 0<g then nb else 0:=⟨_,rfl⟩
    rw[← hK]
    have hK40:K≤40:=by rw[hK];split<;>omega
    have fv:vN (some (g,c1))=(g:Int):=rfl
    have fs:vN (some (s,c2))=(s:Int):=rfl
    have fn:vN (some (n,c3))=(n:Int):=rfl
    rw[fv,fs,fn]
    generalize hR:aAu g s n (aN9 K b (a+c1+c2+c3) [])=R
    refine U.loop (σ:=Nat × Nat × List Sum) (γ:=Nat) (fun i s'=>(((s'.sl 18 (v1 (.t (.int .i64 i.1)))).sl 15 (v1 (.t (.int .i64 i.2.1)))).sl 17 (.box true [.t (.int .i64 g), .t (.int .i64 s), .t (.int .i64 n), .blk 51703])).bl ⟨51703,2, .own,i.2.2.map Sum.row⟩) (fun i m=>i.1=m∧m≤K∧i.2.1≤1048576∧i.2.2.length≤m∧aAu g s n (aN9 (K-m) b i.2.1 i.2.2)=R) (fun m=>K-m) (fun _=>([gv ((aVJ R).cs dH),iv (aVK R),bv R.isSome],[])) (0,a+c1+c2+c3,[]) 0 ?_ ?_ ?_ ?_
    ·intro K
     conv=>lhs;whnf
     conv=>rhs;whnf
     try rfl
    ·exact⟨rfl,by omega,by simp only;omega,by simp,hR⟩
    ·rintro kl ⟨m,p,acc⟩ _ ⟨rfl,hm,hp,hl,hs⟩ ih
     simp only at hs hm hl hp
     conv=>lhs;whnf
     apply U.w ((iK J s n))
     conv=>lhs;whnf
     try(apply U.q;exact aE;conv=>lhs;whnf)
     rw[hnb]
     apply U.b<;>intro g1<;>conv=>lhs;whnf
     ·have g1:m<nb:=by simp at g1;omega
      repeat((first|apply U.t|apply U.f|(apply U.q;exact aE));conv=>lhs;whnf)
      apply U.b<;>intro g2<;>conv=>lhs;whnf
      ·have g2:0<g:=by simp at g2;omega
       rw[if_pos g2]at hK
       rw[show K-m=(K-(m+1))+1 from by omega,aN9]at hs
       have rg:=aFL J b p (by omega) (by omega)
       cases hg:gS (b.drop p) with
       |none =>
        rw[hg]at hs
        rw[aUh hg]at rg
        apply U.w (rg)
        conv=>lhs;whnf
        repeat((first|apply U.t|apply U.f|(apply U.q;exact aE));conv=>lhs;whnf)
        rw[← hs]
        rfl
       |some q =>
        obtain⟨x,c⟩:=q
        rw[hg]at hs
        have hc:=aU1 hg
        rw[hc.2.2]at rg
        apply U.w (rg)
        conv=>lhs;whnf
        repeat((first|apply U.t|apply U.f|(apply U.q;exact aE));conv=>lhs;whnf)
        apply U.w (wD J x)
        conv=>lhs;whnf
        repeat((first|apply U.t|apply U.f|(apply U.q;exact aE));conv=>lhs;whnf)
        apply U.w (fE J (bQ x) (Nat.le_trans (kN x) (by decide)))
        conv=>lhs;whnf
        repeat((first|apply U.t|apply U.f|(apply U.q;exact aE));conv=>lhs;whnf)
        refine U.q (by exact⟨by decide,by intro e he;simp at he;subst he;rfl,by simp;omega,by simp;omega⟩) ?_
        conv=>lhs;whnf
        repeat((first|apply U.t|apply U.f|(apply U.q;exact aE));conv=>lhs;whnf)
        refine ih (m+1,p+c,acc++[aLK x]) (m+1) _ ?_ ⟨rfl,by omega,by simp only;omega,by simp;omega,hs⟩ (by omega)
        intro K
        conv=>lhs;whnf
        conv=>rhs;whnf
        try rfl
        rw[show IntKind.i64.wrap ((m:Int)+1)=_ from aK (by omega)]
        rw[List.map_append]
        rfl
      ·have g2:¬ 0<g:=by simp at g2;omega
       rw[if_neg g2]at hK
       have:m=K:=by omega
       subst this
       rw[Nat.sub_self,aN9]at hs
       have rm:=eH J ⟨g,s,n,acc⟩ (by simp only;omega)
       cases hok:aY ⟨g,s,n,acc⟩ with
       |true =>
        rw[hok]at rm
        rw[aGd hok]at hs
        apply U.w (rm)
        conv=>lhs;whnf
        repeat((first|apply U.t|apply U.f|(apply U.q;exact aE));conv=>lhs;whnf)
        rw[← hs]
        rfl
       |false =>
        rw[hok]at rm
        rw[aJ9 hok]at hs
        apply U.w (rm)
        conv=>lhs;whnf
        repeat((first|apply U.t|apply U.f|(apply U.q;exact aE));conv=>lhs;whnf)
        rw[← hs]
        rfl
     ·have g1:¬ m<nb:=by simp at g1;omega
      have:m=K:=by
       have:K≤nb:=by rw[hK];split<;>omega
       omega
      subst this
      rw[Nat.sub_self,aN9]at hs
      repeat((first|apply U.t|apply U.f|(apply U.q;exact aE));conv=>lhs;whnf)
      have rm:=eH J ⟨g,s,n,acc⟩ (by simp only;omega)
      cases hok:aY ⟨g,s,n,acc⟩ with
      |true =>
       rw[hok]at rm
       rw[aGd hok]at hs
       apply U.w (rm)
       conv=>lhs;whnf
       repeat((first|apply U.t|apply U.f|(apply U.q;exact aE));conv=>lhs;whnf)
       rw[← hs]
       rfl
      |false =>
       rw[hok]at rm
       rw[aJ9 hok]at hs
       apply U.w (rm)
       conv=>lhs;whnf
       repeat((first|apply U.t|apply U.f|(apply U.q;exact aE));conv=>lhs;whnf)
       rw[← hs]
       rfl
    ·rfl
def aFO (b:aD) (a:Nat):Option (Man × Nat) :=
 match gV (b.drop a) with
 |none=>none
 |some (g,c1)=>match gV (b.drop (a+c1)) with
  |none=>none
  |some (s,c2)=>match gV (b.drop (a+c1+c2)) with
   |none=>none
   |some (n,c3)=>aAu g s n (aTF (bA s n).toNat b (a+c1+c2+c3) [])
theorem aH8 {E:aR} (J:Sys E) (b:aD) (a:Nat) (hb:b.length≤1048576) (ha:a≤1048576):E 333 [sv (aU b),iv a]=some ([gv ((aVJ (aFO b a)).cs dH),iv (aVK (aFO b a)),bv (aFO b a).isSome],[]):=by
 have r1:=lK J b a 3 hb ha (by decide)
 unfold aFO
 cases h1:gV (b.drop a) with
 |none =>
  simp only[aFM,h1]at r1
  simp only
  refine J.run rfl rfl fun W U=>?_
  conv=>lhs;whnf
  repeat'((first|apply U.t|apply U.f|(apply U.q;exact aE)|apply U.w (r1)|(apply U.b<;>intro h))<;>conv=>lhs;whnf)
  rfl
 |some p1 =>
  obtain⟨g,c1⟩:=p1
  have f1:=oH h1
  simp only
  cases h2:gV (b.drop (a+c1)) with
  |none =>
   simp only[aFM,h1,h2]at r1
   simp only
   refine J.run rfl rfl fun W U=>?_
   conv=>lhs;whnf
   repeat'((first|apply U.t|apply U.f|(apply U.q;exact aE)|apply U.w (r1)|(apply U.b<;>intro h))<;>conv=>lhs;whnf)
   rfl
  |some p2 =>
   obtain⟨s,c2⟩:=p2
   have f2:=oH h2
   simp only
   cases h3:gV (b.drop (a+c1+c2)) with
   |none =>
    simp only[aFM,h1,h2,h3]at r1
    simp only
    refine J.run rfl rfl fun W U=>?_
    conv=>lhs;whnf
    repeat'((first|apply U.t|apply U.f|(apply U.q;exact aE)|apply U.w (r1)|(apply U.b<;>intro h))<;>conv=>lhs;whnf)
    rfl
   |some p3 =>
    obtain⟨n,c3⟩:=p3
    have f3:=oH h3
    simp only[aFM,h1,h2,h3,List.nil_append,List.cons_append]at r1
    simp only
    have hB:=pM (s:Int) (n:Int)
    obtain⟨K,hK⟩:∃ K:Nat,bA (s:Int) (n:Int)=K:=⟨(bA (s:Int) (n:Int)).toNat,by omega⟩
    have r2:=kX J s n
    rw[hK]at r2
    rw[hK,Int.toNat_natCast]
    refine J.run rfl rfl fun W U=>?_
    conv=>lhs;whnf
    rw[show aVH (some ([(g:Int),s,n],a+c1+c2+c3))=[(g:Int),s,n] from rfl,show aVI (some ([(g:Int),s,n],a+c1+c2+c3))=((a+c1+c2+c3:Nat):Int) from rfl]at r1
    have l0:(bD [(g:Int),s,n])[Int.toNat 0]?=some (kK g):=rfl
    have l1:(bD [(g:Int),s,n])[Int.toNat 1]?=some (kK s):=rfl
    have l2:(bD [(g:Int),s,n])[Int.toNat 2]?=some (kK n):=rfl
    repeat'((first|apply U.t|apply U.f|(apply U.q;exact aE)|apply U.w (r1)|apply U.w (r2)|apply U.w (l0)|apply U.w (l1)|apply U.w (l2)|(apply U.b<;>intro h))<;>conv=>lhs;whnf)
    generalize hR:aAu g s n (aTF K b (a+c1+c2+c3) [])=R
    refine U.loop (σ:=Nat × Nat × List Sum) (γ:=Nat) (fun i s'=>(((s'.sl 40 (v1 (.t (.int .i64 i.1)))).sl 1 (v1 (.t (.int .i64 i.2.1)))).sl 9 (.box true [.t (.int .i64 g), .t (.int .i64 s), .t (.int .i64 n), .blk 50903])).bl ⟨50903,2, .own,i.2.2.map Sum.row⟩) (fun i m=>i.1=m∧m≤K∧i.2.1≤1048576∧i.2.2.length≤m∧aAu g s n (aTF (K-m) b i.2.1 i.2.2)=R) (fun m=>K-m) (fun _=>([gv ((aVJ R).cs dH),iv (aVK R),bv R.isSome],[])) (0,a+c1+c2+c3,[]) 0 ?_ ?_ ?_ ?_
    ·intro K
     conv=>lhs;whnf
     conv=>rhs;whnf
     try rfl
    ·exact⟨rfl,by omega,by simp only;omega,by simp,hR⟩
    ·rintro kl ⟨m,p,acc⟩ _ ⟨rfl,hm,hp,hl,hs⟩ ih
     simp only at hs hm hl hp
     conv=>lhs;whnf
     apply U.b<;>intro g1<;>conv=>lhs;whnf
     ·have g1:m<K:=by simp at g1;omega
      rw[show K-m=(K-(m+1))+1 from by omega,aTF]at hs
      have rg:=wG J b p 8 (by omega) (by omega) (by decide)
      cases hg:gS (b.drop p) with
      |none =>
       rw[hg]at hs
       rw[aUh hg]at rg
       apply U.w (rg)
       conv=>lhs;whnf
       repeat((first|apply U.t|apply U.f|(apply U.q;exact aE));conv=>lhs;whnf)
       apply U.w (mX J (rN (aGc 8 b p)))
       conv=>lhs;whnf
       repeat((first|apply U.t|apply U.f|(apply U.q;exact aE));conv=>lhs;whnf)
       rw[← hs]
       rfl
      |some q =>
       obtain⟨x,c⟩:=q
       rw[hg]at hs
       simp only at hs
       have hc:=aU1 hg
       rw[hc.2.2]at rg
       apply U.w (rg)
       conv=>lhs;whnf
       repeat((first|apply U.t|apply U.f|(apply U.q;exact aE));conv=>lhs;whnf)
       have rb:=mX J x
       cases hk:bW (x:Int) with
       |false =>
        rw[hk]at rb
        rw[if_neg (by rw[hk];decide)]at hs
        apply U.w (rb)
        conv=>lhs;whnf
        repeat((first|apply U.t|apply U.f|(apply U.q;exact aE));conv=>lhs;whnf)
        rw[← hs]
        rfl
       |true =>
        rw[hk]at rb
        rw[if_pos hk]at hs
        apply U.w (rb)
        conv=>lhs;whnf
        repeat((first|apply U.t|apply U.f|(apply U.q;exact aE));conv=>lhs;whnf)
        apply U.w (aDp J (bQ x) (Nat.le_trans (kN x) (by decide)))
        conv=>lhs;whnf
        repeat((first|apply U.t|apply U.f|(apply U.q;exact aE));conv=>lhs;whnf)
        refine U.q (by exact⟨by decide,by intro e he;simp at he;subst he;rfl,by simp;omega,by simp;omega⟩) ?_
        conv=>lhs;whnf
        repeat((first|apply U.t|apply U.f|(apply U.q;exact aE));conv=>lhs;whnf)
        refine ih (m+1,p+c,acc++[bI (bQ x)]) (m+1) _ ?_ ⟨rfl,by omega,by simp only;omega,by simp;omega,hs⟩ (by omega)
        intro K
        conv=>lhs;whnf
        conv=>rhs;whnf
        try rfl
        rw[show IntKind.i64.wrap ((m:Int)+1)=_ from aK (by omega)]
        rw[List.map_append]
        rfl
     ·have:m=K:=by simp at g1;omega
      subst this
      rw[Nat.sub_self,aTF]at hs
      have rm:=lS J ⟨g,s,n,acc⟩ (by simp only;omega)
      cases hok:aY ⟨g,s,n,acc⟩ with
      |true =>
       rw[hok]at rm
       rw[aGd hok]at hs
       apply U.w (rm)
       conv=>lhs;whnf
       repeat((first|apply U.t|apply U.f|(apply U.q;exact aE));conv=>lhs;whnf)
       rw[← hs]
       rfl
      |false =>
       rw[hok]at rm
       rw[aJ9 hok]at hs
       apply U.w (rm)
       conv=>lhs;whnf
       repeat((first|apply U.t|apply U.f|(apply U.q;exact aE));conv=>lhs;whnf)
       rw[← hs]
       rfl
    ·rfl
def aOa:Nat→aD→Nat→List Int→Option (List Int × Nat)
 |0,_,a,acc=>some (acc,a)
 |k+1,b,a,acc=>match gV (b.drop a) with|none=>none|some p=>if p.1<1048576 then aOa k b (a+p.2) (acc++[(p.1:Int)]) else none
def gH:Man:=⟨0,0,0,[]⟩
def aNb (g:Nat) (o:Option (List Int × Nat)):Option (Msg × Nat):=match o with|some ([w0,w1,d0,d1],q)=>some (⟨2,g,gH,w0+w1*1048576,d0+d1*1048576,0,[]⟩,q)|_=>none
def aU2 (g i:Nat) (o:Option (aD × Nat)):Option (Msg × Nat):=match o with|some (p,q)=>some (⟨3,g,gH,0,0,i,p⟩,q)|none=>none
def aV6 (o:Option (Man × Nat)):Option (Msg × Nat):=match o with|some (x,q)=>some (⟨1,0,x,0,0,0,[]⟩,q)|none=>none
def dM (b:aD) (a k:Nat):Option (Msg × Nat) :=
 if k=1 then aV6 (sR b a) else
 match gV (b.drop a) with
 |none=>none
 |some (g,c) =>
  if k=2 then aNb g (aOa 4 b (a+c) [])
  else if k=3 then(match gV (b.drop (a+c)) with|none=>none|some (i,d)=>aU2 g i (gP b (a+c+d) 6))
  else some (⟨k,g,gH,0,0,0,[]⟩,a+c)
def aFc (E:aR) (b:aD) (a k:Nat):Prop:=∃ r p,E 325 [sv (aU b),iv a,iv k]=some ([gv (Msg.cs dH r),iv p,bv (dM b a k).isSome],[])∧∀ m q,dM b a k=some (m,q)→r=m∧p=(q:Nat)
theorem aFP {E:aR} (J:Sys E) (b:aD) (a:Nat) (hb:b.length≤1048576) (ha:a≤1048576):aFc E b a 1:=by
 have r1:=aH7 J b a hb ha
 refine⟨⟨1,0,aVJ (sR b a),0,0,0,[]⟩,aVK (sR b a),?_,?_⟩
 ·rw[show(dM b a 1).isSome=(sR b a).isSome from by unfold dM;rw[if_pos rfl];cases sR b a<;>rfl]
  refine J.run rfl rfl fun W U=>?_
  conv=>lhs;whnf
  repeat'((first|apply U.t|apply U.f|(apply U.q;exact aE)|apply U.w (r1)|(apply U.b<;>intro h))<;>conv=>lhs;whnf)
  rfl
 ·intro m q h
  unfold dM at h
  rw[if_pos rfl]at h
  cases hm:sR b a with
  |none=>rw[hm]at h;cases h
  |some x =>
   rw[hm]at h
   obtain⟨x,y⟩:=x
   have h:(⟨1,0,x,0,0,0,[]⟩,y)=(m,q):=Option.some.inj h
   cases h
   exact⟨rfl,rfl⟩
theorem aFQ {E:aR} (J:Sys E) (b:aD) (a:Nat) (hb:b.length≤1048576) (ha:a≤1048576):aFc E b a 3:=by
 have r1:=cS J b a (by omega) (by omega)
 unfold aFc
 cases h1:gV (b.drop a) with
 |none =>
  rw[h1]at r1
  rw[show dM b a 3=none from by unfold dM;rw[if_neg (by decide),h1]]
  refine⟨⟨3,0,gH,0,0,0,[]⟩,0,?_,by intro m q h;cases h⟩
  refine J.run rfl rfl fun W U=>?_
  conv=>lhs;whnf
  repeat'((first|apply U.t|apply U.f|(apply U.q;exact aE)|apply U.w (r1)|(apply U.b<;>intro h))<;>conv=>lhs;whnf)
  rfl
 |some p1 =>
  obtain⟨g,c⟩:=p1
  have f1:=oH h1
  rw[h1]at r1
  rw[show dM b a 3=(match gV (b.drop (a+c)) with|none=>none|some (i,d)=>aU2 g i (gP b (a+c+d) 6)) from by unfold dM;rw[if_neg (by decide),h1];rfl]
  have r2:=cS J b (a+c) (by omega) (by omega)
  cases h2:gV (b.drop (a+c)) with
  |none =>
   rw[h2]at r2
   have r3:=wH J b 0 6 (by omega) (by omega) (by decide)
   refine⟨⟨3,g,gH,0,0,0,aVV (gP b 0 6)⟩,aVW (gP b 0 6),?_,by intro m q h;cases h⟩
   refine J.run rfl rfl fun W U=>?_
   conv=>lhs;whnf
   repeat'((first|apply U.t|apply U.f|(apply U.q;exact aE)|apply U.w (r1)|apply U.w (r2)|apply U.w (r3)|(apply U.b<;>intro h))<;>conv=>lhs;whnf)
   rfl
  |some p2 =>
   obtain⟨i,d⟩:=p2
   have f2:=oH h2
   rw[h2]at r2
   simp only
   have r3:=wH J b (a+c+d) 6 (by omega) (by omega) (by decide)
   refine⟨⟨3,g,gH,0,0,i,aVV (gP b (a+c+d) 6)⟩,aVW (gP b (a+c+d) 6),?_,?_⟩
   ·rw[show(aU2 g i (gP b (a+c+d) 6)).isSome=(gP b (a+c+d) 6).isSome from by cases gP b (a+c+d) 6<;>rfl]
    refine J.run rfl rfl fun W U=>?_
    conv=>lhs;whnf
    repeat'((first|apply U.t|apply U.f|(apply U.q;exact aE)|apply U.w (r1)|apply U.w (r2)|apply U.w (r3)|(apply U.b<;>intro h))<;>conv=>lhs;whnf)
    rfl
   ·intro m q h
    cases hm:gP b (a+c+d) 6 with
    |none=>rw[hm]at h;cases h
    |some x =>
     rw[hm]at h
     obtain⟨x,y⟩:=x
     have h:(⟨3,g,gH,0,0,i,x⟩,y)=(m,q):=Option.some.inj h
     cases h
     exact⟨rfl,rfl⟩
theorem aFR {E:aR} (J:Sys E) (b:aD) (a k:Nat) (hb:b.length≤1048576) (ha:a≤1048576) (k1:k≠1) (k2:k≠2) (k3:k≠3):aFc E b a k:=by
 have r1:=cS J b a (by omega) (by omega)
 have e1:decide ((k:Int)=1)=false:=decide_eq_false (by omega)
 have e2:decide ((k:Int)=2)=false:=decide_eq_false (by omega)
 have e3:decide ((k:Int)=3)=false:=decide_eq_false (by omega)
 unfold aFc
 cases h1:gV (b.drop a) with
 |none =>
  rw[h1]at r1
  rw[show dM b a k=none from by unfold dM;rw[if_neg k1,h1]]
  refine⟨⟨k,0,gH,0,0,0,[]⟩,0,?_,by intro m q h;cases h⟩
  refine J.run rfl rfl fun W U=>?_
  conv=>lhs;whnf
  repeat'((first|with_reducible apply U.bf (e1)|with_reducible apply U.bf (e2)|with_reducible apply U.bf (e3)|apply U.t|apply U.f|(apply U.q;exact aE)|apply U.w (r1)|(apply U.b<;>intro h))<;>conv=>lhs;whnf)
  rfl
 |some p1 =>
  obtain⟨g,c⟩:=p1
  have f1:=oH h1
  rw[h1]at r1
  rw[show dM b a k=some (⟨k,g,gH,0,0,0,[]⟩,a+c) from by unfold dM;rw[if_neg k1,h1];simp only;rw[if_neg k2,if_neg k3]]
  refine⟨⟨k,g,gH,0,0,0,[]⟩,((a+c:Nat):Int),?_,?_⟩
  ·refine J.run rfl rfl fun W U=>?_
   conv=>lhs;whnf
   repeat'((first|with_reducible apply U.bf (e1)|with_reducible apply U.bf (e2)|with_reducible apply U.bf (e3)|apply U.t|apply U.f|(apply U.q;exact aE)|apply U.w (r1)|(apply U.b<;>intro h))<;>conv=>lhs;whnf)
   rfl
  ·intro m q h
   have h:=Option.some.inj h
   cases h
   exact⟨rfl,rfl⟩
def wR (g:Nat) (o:Option (Msg × Nat)):Msg:=match o with|some p=>p.1|none=>⟨2,g,gH,0,0,0,[]⟩
def wP (o:Option (Msg × Nat)):Int:=match o with|some p=>(p.2:Nat)|none=>0
theorem aSa {x:Int} (h0:0≤x) (h1:x<1048576):IntKind.i64.wrap (x*2 ^ (min (20:Int).toNat IntKind.i64.bits))=x*1048576:=by
 rw[show min (20:Int).toNat IntKind.i64.bits=20 from by decide,show(2:Int) ^ 20=1048576 from by decide]
 exact aI (by omega)
theorem aUi {x y:Int} (h0:0≤x) (h1:x<1048576) (h2:0≤y) (h3:y<1048576):IntKind.i64.wrap (x+y*1048576)=x+y*1048576:=aI (by omega)
theorem aFS {E:aR} (J:Sys E) (b:aD) (a:Nat) (hb:b.length≤1048576) (ha:a≤1048576):aFc E b a 2:=by
 have r1:=cS J b a (by omega) (by omega)
 unfold aFc
 cases h1:gV (b.drop a) with
 |none =>
  rw[h1]at r1
  rw[show dM b a 2=none from by unfold dM;rw[if_neg (by decide),h1]]
  refine⟨⟨2,0,gH,0,0,0,[]⟩,0,?_,by intro m q h;cases h⟩
  refine J.run rfl rfl fun W U=>?_
  conv=>lhs;whnf
  repeat'((first|apply U.t|apply U.f|(apply U.q;exact aE)|apply U.w (r1)|(apply U.b<;>intro h))<;>conv=>lhs;whnf)
  rfl
 |some p1 =>
  obtain⟨g,c⟩:=p1
  have f1:=oH h1
  rw[h1]at r1
  rw[show vP a (some (g,c))=((a+c:Nat):Int) from rfl,show vN (some (g,c))=(g:Int) from rfl]at r1
  rw[show dM b a 2=aNb g (aOa 4 b (a+c) []) from by unfold dM;rw[if_neg (by decide),h1];rfl]
  generalize hR:aNb g (aOa 4 b (a+c) [])=R
  refine⟨wR g R,wP R,?_,by rintro m q rfl;exact⟨rfl,rfl⟩⟩
  refine J.run rfl rfl fun W U=>?_
  conv=>lhs;whnf
  repeat'((first|apply U.t|apply U.f|(apply U.q;exact aE)|apply U.w (r1)|(apply U.b<;>intro h))<;>conv=>lhs;whnf)
  refine U.loop (σ:=Nat × Nat × List Int) (γ:=Nat) (fun i s'=>(((s'.sl 17 (v1 (.t (.int .i64 i.1)))).sl 14 (v1 (.t (.int .i64 i.2.1))))).bl ⟨51600,1, .own,bD i.2.2⟩) (fun i m=>i.1=m∧m≤4∧i.2.1≤1048576∧i.2.2.length=m∧(∀ x∈i.2.2,0≤x∧x<1048576)∧aNb g (aOa (4-m) b i.2.1 i.2.2)=R) (fun m=>4-m) (fun _=>([gv ((wR g R).cs dH),iv (wP R),bv R.isSome],[])) (0,a+c,[]) 0 ?_ ?_ ?_ ?_
  ·intro K
   conv=>lhs;whnf
   conv=>rhs;whnf
   try rfl
  ·exact⟨rfl,by omega,by simp only;omega,rfl,by simp,hR⟩
  ·rintro kl ⟨m,p,acc⟩ _ ⟨rfl,hm,hp,hl,hx,hs⟩ ih
   simp only at hs hm hl hp hx
   conv=>lhs;whnf
   apply U.b<;>intro g1<;>conv=>lhs;whnf
   ·have g1:m<4:=by simp at g1;omega
    rw[show 4-m=(4-(m+1))+1 from by omega,aOa]at hs
    have r2:=cS J b p (by omega) (by omega)
    cases hg:gV (b.drop p) with
    |none =>
     rw[hg]at hs r2
     apply U.w (r2)
     conv=>lhs;whnf
     repeat((first|apply U.t|apply U.f|(apply U.q;exact aE));conv=>lhs;whnf)
     rw[← hs]
     rfl
    |some q =>
     obtain⟨n,d⟩:=q
     have hc:=oH hg
     rw[hg]at hs r2
     simp only at hs
     apply U.w (r2)
     conv=>lhs;whnf
     repeat((first|apply U.t|apply U.f|(apply U.q;exact aE));conv=>lhs;whnf)
     apply U.b<;>intro g2<;>conv=>lhs;whnf
     ·have g2:¬ n<1048576:=by simp[vN]at g2;omega
      rw[if_neg g2]at hs
      rw[← hs]
      rfl
     ·have g2:n<1048576:=by simp[vN]at g2;omega
      rw[if_pos g2]at hs
      refine U.q (by exact⟨by decide,by intro e he;simp at he;subst he;rfl,by simp[bD];omega,by simp[bD];omega⟩) ?_
      conv=>lhs;whnf
      repeat((first|apply U.t|apply U.f|(apply U.q;exact aE));conv=>lhs;whnf)
      refine ih (m+1,p+d,acc++[(n:Int)]) (m+1) _ ?_ ⟨rfl,by omega,by simp only;omega,by simp;omega,?_,hs⟩ (by omega)
      ·intro K
       conv=>lhs;whnf
       conv=>rhs;whnf
       try rfl
       rw[show IntKind.i64.wrap ((m:Int)+1)=_ from aK (by omega)]
       simp[bD,kK,vN,vP]
      ·intro x h
       rcases List.mem_append.mp h with h|h
       ·exact hx x h
       ·simp at h;omega
   ·have:m=4:=by simp at g1;omega
    subst this
    match acc,hl,hx,hs with
    |[w0,w1,d0,d1],hl,hx,hs =>
    rw[Nat.sub_self,aOa]at hs
    have x0:=hx w0 (by simp)
    have x1:=hx w1 (by simp)
    have x2:=hx d0 (by simp)
    have x3:=hx d1 (by simp)
    have l0:(bD [w0,w1,d0,d1])[Int.toNat 0]?=some (kK w0):=rfl
    have l1:(bD [w0,w1,d0,d1])[Int.toNat 1]?=some (kK w1):=rfl
    have l2:(bD [w0,w1,d0,d1])[Int.toNat 2]?=some (kK d0):=rfl
    have l3:(bD [w0,w1,d0,d1])[Int.toNat 3]?=some (kK d1):=rfl
    repeat'((first|apply U.t|apply U.f|(apply U.q;exact aE)|apply U.w (l0)|apply U.w (l1)|apply U.w (l2)|apply U.w (l3)|(apply U.b<;>intro h))<;>conv=>lhs;whnf)
    rw[aSa x1.1 x1.2,aUi x0.1 x0.2 x1.1 x1.2,aSa x3.1 x3.2,aUi x2.1 x2.2 x3.1 x3.2]
    rw[← hs]
    rfl
  ·rfl
theorem aHp {E:aR} (J:Sys E) (b:aD) (a k:Nat) (hb:b.length≤1048576) (ha:a≤1048576):aFc E b a k:=by
 by_cases k1:k=1
 ·subst k1;exact aFP J b a hb ha
 by_cases k2:k=2
 ·subst k2;exact aFS J b a hb ha
 by_cases k3:k=3
 ·subst k3;exact aFQ J b a hb ha
 exact aFR J b a k hb ha k1 k2 k3
theorem aOb:∀ {k:Nat} {b:aD} {a:Nat} {acc l:List Int} {q:Nat},aFM k b a acc=some (l,q)→l.length=acc.length+k∧(k≠0→q≤b.length):=by
 intro k
 induction k with
 |zero=>intro b a acc l q h;cases h;exact⟨rfl,fun h=>absurd rfl h⟩
 |succ k ih =>
  intro b a acc l q h
  rw[aFM]at h
  cases hg:gV (b.drop a) with
  |none=>rw[hg]at h;cases h
  |some p =>
   rw[hg]at h
   have:=ih h
   simp only[List.length_append,List.length_cons,List.length_nil]at this
   refine⟨by omega,fun _=>?_⟩
   by_cases hk:k=0
   ·subst hk
    cases h
    exact(oH hg).2.2.1
   ·exact this.2 hk
def aNc (x:Int):Int:=IntKind.i64.wrap (x*2 ^ (min (20:Int).toNat IntKind.i64.bits))
def aOc (o:Option (List Int × Nat)):Option Msg:=match o with|some ([g,w0,w1,d0,d1],_)=>some ⟨2,g,gH,aFE w0 (aNc w1),aFE d0 (aNc d1),0,[]⟩|_=>none
def aLL (b:aD) (o:Option (List Int × Nat)):Option Msg:=match o with|some ([g,i],q)=>(match gP b q 6 with|some (p,_)=>some ⟨3,g,gH,0,0,i,p⟩|none=>none)|_=>none
def gZ (b:aD) (a k:Nat):Option Msg :=
 if k=1 then(match aFO b a with|some (x,_)=>some ⟨1,0,x,0,0,0,[]⟩|none=>none)
 else if k=2 then aOc (aFM 5 b a [])
 else if k=3 then aLL b (aFM 2 b a [])
 else if k=4 then(match gV (b.drop a) with|some (g,_)=>some ⟨4,g,gH,0,0,0,[]⟩|none=>none)
 else none
def wI (E:aR) (b:aD) (a k:Nat):Prop:=∃ r,E 331 [sv (aU b),iv k,iv a]=some ([gv (Msg.cs dH r),bv (gZ b a k).isSome],[])∧∀ m,gZ b a k=some m→r=m
theorem aFT {E:aR} (J:Sys E) (b:aD) (a:Nat) (hb:b.length≤1048576) (ha:a≤1048576):wI E b a 1:=by
 have r1:=aH8 J b a hb ha
 unfold wI
 rw[show gZ b a 1=(match aFO b a with|some (x,_)=>some ⟨1,0,x,0,0,0,[]⟩|none=>none) from rfl]
 cases h1:aFO b a with
 |none =>
  rw[h1]at r1
  refine⟨⟨1,0,gH,0,0,0,[]⟩,?_,by intro m h;cases h⟩
  refine J.run rfl rfl fun W U=>?_
  conv=>lhs;whnf
  repeat'((first|apply U.t|apply U.f|(apply U.q;exact aE)|apply U.w (r1)|(apply U.b<;>intro h))<;>conv=>lhs;whnf)
  rfl
 |some p =>
  obtain⟨x,q⟩:=p
  rw[h1]at r1
  refine⟨⟨1,0,x,0,0,0,[]⟩,?_,by intro m h;exact Option.some.inj h⟩
  refine J.run rfl rfl fun W U=>?_
  conv=>lhs;whnf
  repeat'((first|apply U.t|apply U.f|(apply U.q;exact aE)|apply U.w (r1)|(apply U.b<;>intro h))<;>conv=>lhs;whnf)
  rfl
theorem aFU {E:aR} (J:Sys E) (b:aD) (a:Nat) (hb:b.length≤1048576) (ha:a≤1048576):wI E b a 2:=by
 have r1:=lK J b a 5 hb ha (by decide)
 unfold wI
 rw[show gZ b a 2=aOc (aFM 5 b a []) from rfl]
 cases h1:aFM 5 b a [] with
 |none =>
  rw[h1]at r1
  refine⟨⟨0,0,gH,0,0,0,[]⟩,?_,by intro m h;cases h⟩
  refine J.run rfl rfl fun W U=>?_
  conv=>lhs;whnf
  repeat'((first|apply U.t|apply U.f|(apply U.q;exact aE)|apply U.w (r1)|(apply U.b<;>intro h))<;>conv=>lhs;whnf)
  rfl
 |some p =>
  obtain⟨l,q⟩:=p
  have hl:=aOb h1
  rw[h1]at r1
  match l,hl,r1 with
  |[g,w0,w1,d0,d1],hl,r1 =>
  rw[show aVH (some ([g,w0,w1,d0,d1],q))=[g,w0,w1,d0,d1] from rfl,show aVI (some ([g,w0,w1,d0,d1],q))=(q:Int) from rfl]at r1
  have l0:(bD [g,w0,w1,d0,d1])[Int.toNat 0]?=some (kK g):=rfl
  have l1:(bD [g,w0,w1,d0,d1])[Int.toNat 1]?=some (kK w0):=rfl
  have l2:(bD [g,w0,w1,d0,d1])[Int.toNat 2]?=some (kK w1):=rfl
  have l3:(bD [g,w0,w1,d0,d1])[Int.toNat 3]?=some (kK d0):=rfl
  have l4:(bD [g,w0,w1,d0,d1])[Int.toNat 4]?=some (kK d1):=rfl
  refine⟨⟨2,g,gH,aFE w0 (aNc w1),aFE d0 (aNc d1),0,[]⟩,?_,by intro m h;exact Option.some.inj h⟩
  refine J.run rfl rfl fun W U=>?_
  conv=>lhs;whnf
  repeat'((first|apply U.t|apply U.f|(apply U.q;exact aE)|apply U.w (r1)|apply U.w (l0)|apply U.w (l1)|apply U.w (l2)|apply U.w (l3)|apply U.w (l4)|(apply U.b<;>intro h))<;>conv=>lhs;whnf)
  rfl
theorem aFV {E:aR} (J:Sys E) (b:aD) (a:Nat) (hb:b.length≤1048576) (ha:a≤1048576):wI E b a 3:=by
 have r1:=lK J b a 2 hb ha (by decide)
 unfold wI
 rw[show gZ b a 3=aLL b (aFM 2 b a []) from rfl]
 cases h1:aFM 2 b a [] with
 |none =>
  rw[h1]at r1
  refine⟨⟨0,0,gH,0,0,0,[]⟩,?_,by intro m h;cases h⟩
  refine J.run rfl rfl fun W U=>?_
  conv=>lhs;whnf
  repeat'((first|apply U.t|apply U.f|(apply U.q;exact aE)|apply U.w (r1)|(apply U.b<;>intro h))<;>conv=>lhs;whnf)
  rfl
 |some p =>
  obtain⟨l,q⟩:=p
  have hl:=aOb h1
  rw[h1]at r1
  have hq:q≤b.length:=hl.2 (by decide)
  match l,hl,r1 with
  |[g,i],hl,r1 =>
  rw[show aVH (some ([g,i],q))=[g,i] from rfl,show aVI (some ([g,i],q))=(q:Int) from rfl]at r1
  have l0:(bD [g,i])[Int.toNat 0]?=some (kK g):=rfl
  have l1:(bD [g,i])[Int.toNat 1]?=some (kK i):=rfl
  have r2:=aHo J b q 6 hb (by omega) (by decide)
  rw[show aLL b (some ([g,i],q))=(match gP b q 6 with|some (p,_)=>some ⟨3,g,gH,0,0,i,p⟩|none=>none) from rfl]
  cases h2:gP b q 6 with
  |none =>
   rw[h2]at r2
   refine⟨⟨3,g,gH,0,0,i,[]⟩,?_,by intro m h;cases h⟩
   refine J.run rfl rfl fun W U=>?_
   conv=>lhs;whnf
   repeat'((first|apply U.t|apply U.f|(apply U.q;exact aE)|apply U.w (r1)|apply U.w (l0)|apply U.w (l1)|apply U.w (r2)|(apply U.b<;>intro h))<;>conv=>lhs;whnf)
   rfl
  |some y =>
   obtain⟨y,z⟩:=y
   rw[h2]at r2
   refine⟨⟨3,g,gH,0,0,i,y⟩,?_,by intro m h;exact Option.some.inj h⟩
   refine J.run rfl rfl fun W U=>?_
   conv=>lhs;whnf
   repeat'((first|apply U.t|apply U.f|(apply U.q;exact aE)|apply U.w (r1)|apply U.w (l0)|apply U.w (l1)|apply U.w (r2)|(apply U.b<;>intro h))<;>conv=>lhs;whnf)
   rfl
theorem aFW {E:aR} (J:Sys E) (b:aD) (a:Nat) (hb:b.length≤1048576) (ha:a≤1048576):wI E b a 4:=by
 have r1:=kZ J b a (by omega) (by omega)
 unfold wI
 rw[show gZ b a 4=(match gV (b.drop a) with|some (g,_)=>some ⟨4,g,gH,0,0,0,[]⟩|none=>none) from rfl]
 cases h1:gV (b.drop a) with
 |none =>
  rw[h1]at r1
  refine⟨⟨4,0,gH,0,0,0,[]⟩,?_,by intro m h;cases h⟩
  refine J.run rfl rfl fun W U=>?_
  conv=>lhs;whnf
  repeat'((first|apply U.t|apply U.f|(apply U.q;exact aE)|apply U.w (r1)|(apply U.b<;>intro h))<;>conv=>lhs;whnf)
  rfl
 |some p =>
  obtain⟨g,c⟩:=p
  rw[h1]at r1
  refine⟨⟨4,g,gH,0,0,0,[]⟩,?_,by intro m h;exact Option.some.inj h⟩
  refine J.run rfl rfl fun W U=>?_
  conv=>lhs;whnf
  repeat'((first|apply U.t|apply U.f|(apply U.q;exact aE)|apply U.w (r1)|(apply U.b<;>intro h))<;>conv=>lhs;whnf)
  rfl
theorem aFX {E:aR} (J:Sys E) (b:aD) (a k:Nat) (k1:k≠1) (k2:k≠2) (k3:k≠3) (k4:k≠4):wI E b a k:=by
 have e1:decide ((k:Int)=1)=false:=decide_eq_false (by omega)
 have e2:decide ((k:Int)=2)=false:=decide_eq_false (by omega)
 have e3:decide ((k:Int)=3)=false:=decide_eq_false (by omega)
 have e4:decide ((k:Int)=4)=false:=decide_eq_false (by omega)
 unfold wI
 rw[show gZ b a k=none from by unfold gZ;rw[if_neg k1,if_neg k2,if_neg k3,if_neg k4]]
 refine⟨⟨k,0,gH,0,0,0,[]⟩,?_,by intro m h;cases h⟩
 refine J.run rfl rfl fun W U=>?_
 conv=>lhs;whnf
 repeat'((first|with_reducible apply U.bf (e1)|with_reducible apply U.bf (e2)|with_reducible apply U.bf (e3)|with_reducible apply U.bf (e4)|apply U.t|apply U.f|(apply U.q;exact aE)|(apply U.b<;>intro h))<;>conv=>lhs;whnf)
 rfl
theorem aHq {E:aR} (J:Sys E) (b:aD) (a k:Nat) (hb:b.length≤1048576) (ha:a≤1048576):wI E b a k:=by
 by_cases k1:k=1
 ·subst k1;exact aFT J b a hb ha
 by_cases k2:k=2
 ·subst k2;exact aFU J b a hb ha
 by_cases k3:k=3
 ·subst k3;exact aFV J b a hb ha
 by_cases k4:k=4
 ·subst k4;exact aFW J b a hb ha
 exact aFX J b a k k1 k2 k3 k4
theorem aTG:∀ {k:Nat} {b:aD} {a:Nat} {acc l:List Sum} {q:Nat},aN9 k b a acc=some (l,q)→a≤b.length→q≤b.length:=by
 intro k
 induction k with
 |zero=>intro b a acc l q h ha;cases h;exact ha
 |succ k ih =>
  intro b a acc l q h ha
  rw[aN9]at h
  cases hg:gS (b.drop a) with
  |none=>rw[hg]at h;cases h
  |some p =>
   rw[hg]at h
   exact ih h (aU1 hg).2.1
theorem aA7 {g s n:Int} {o:Option (List Sum × Nat)} {x:Man} {q:Nat} (h:aAu g s n o=some (x,q)):∃ l,o=some (l,q)∧x=⟨g,s,n,l⟩∧aY x=true:=by
 unfold aAu at h
 cases o with
 |none=>cases h
 |some p =>
  obtain⟨l,q'⟩:=p
  simp only at h
  split at h
  ·rename_i hk
   cases h
   exact⟨l,rfl,rfl,hk⟩
  ·cases h
theorem aIZ {b:aD} {a:Nat} {x:Man} {q:Nat} (h:sR b a=some (x,q)):aY x=true∧q≤b.length:=by
 unfold sR at h
 cases h1:gV (b.drop a) with
 |none=>rw[h1]at h;cases h
 |some p1 =>
  obtain⟨g,c1⟩:=p1
  rw[h1]at h
  simp only at h
  cases h2:gV (b.drop (a+c1)) with
  |none=>rw[h2]at h;cases h
  |some p2 =>
   obtain⟨s,c2⟩:=p2
   rw[h2]at h
   simp only at h
   cases h3:gV (b.drop (a+c1+c2)) with
   |none=>rw[h3]at h;cases h
   |some p3 =>
    obtain⟨n,c3⟩:=p3
    rw[h3]at h
    obtain⟨l,e1,e2,e3⟩:=aA7 h
    exact⟨e3,aTG e1 (oH h3).2.2.1⟩
theorem aPt {b:aD} {a:Nat} {x:Man} {q:Nat} (h:aFO b a=some (x,q)):aY x=true:=by
 unfold aFO at h
 cases h1:gV (b.drop a) with
 |none=>rw[h1]at h;cases h
 |some p1 =>
  obtain⟨g,c1⟩:=p1
  rw[h1]at h
  simp only at h
  cases h2:gV (b.drop (a+c1)) with
  |none=>rw[h2]at h;cases h
  |some p2 =>
   obtain⟨s,c2⟩:=p2
   rw[h2]at h
   simp only at h
   cases h3:gV (b.drop (a+c1+c2)) with
   |none=>rw[h3]at h;cases h
   |some p3 =>
    obtain⟨n,c3⟩:=p3
    rw[h3]at h
    obtain⟨l,e1,e2,e3⟩:=aA7 h
    exact e3
theorem aSb {b:aD} {a most:Nat} {p:aD} {q:Nat} (h:gP b a most=some (p,q)):p.length≤most∧q≤b.length:=by
 unfold gP at h
 cases h1:gV (b.drop a) with
 |none=>rw[h1]at h;cases h
 |some x =>
  rw[h1]at h
  simp only at h
  split at h
  ·rename_i hk
   cases h
   simp only[List.length_take,List.length_drop]
   omega
  ·cases h
theorem aTH:∀ {k:Nat} {b:aD} {a:Nat} {acc l:List Int} {q:Nat},aOa k b a acc=some (l,q)→a≤b.length→q≤b.length:=by
 intro k
 induction k with
 |zero=>intro b a acc l q h ha;cases h;exact ha
 |succ k ih =>
  intro b a acc l q h ha
  rw[aOa]at h
  cases hg:gV (b.drop a) with
  |none=>rw[hg]at h;cases h
  |some p =>
   rw[hg]at h
   simp only at h
   split at h
   ·exact ih h (oH hg).2.2.1
   ·cases h
theorem aI0 {g:Nat} {o:Option (List Int × Nat)} {m:Msg} {q:Nat} (h:aNb g o=some (m,q)):∃ w0 w1 d0 d1,o=some ([w0,w1,d0,d1],q)∧m=⟨2,g,gH,w0+w1*1048576,d0+d1*1048576,0,[]⟩:=by
 unfold aNb at h
 split at h
 ·cases h;exact⟨_,_,_,_,rfl,rfl⟩
 ·cases h
theorem aNd {b:aD} {a k:Nat} {m:Msg} {q:Nat} (h:dM b a k=some (m,q)):m.lim 1048576∧q≤b.length:=by
 unfold dM at h
 split at h
 ·cases hm:sR b a with
  |none=>rw[hm]at h;cases h
  |some x =>
   rw[hm]at h
   obtain⟨x,y⟩:=x
   have h:=Option.some.inj h
   cases h
   have hx:=aIZ hm
   exact⟨⟨Nat.le_trans (mZ hx.1).1 (by decide),Nat.zero_le _⟩,hx.2⟩
 ·cases h1:gV (b.drop a) with
  |none=>rw[h1]at h;cases h
  |some p1 =>
   obtain⟨g,c⟩:=p1
   rw[h1]at h
   simp only at h
   have hc:=oH h1
   split at h
   ·obtain⟨w0,w1,d0,d1,e,rfl⟩:=aI0 h
    exact⟨⟨Nat.zero_le _,Nat.zero_le _⟩,aTH e hc.2.2.1⟩
   ·split at h
    ·cases h2:gV (b.drop (a+c)) with
     |none=>rw[h2]at h;cases h
     |some p2 =>
      obtain⟨i,d⟩:=p2
      rw[h2]at h
      simp only at h
      cases h3:gP b (a+c+d) 6 with
      |none=>rw[h3]at h;cases h
      |some x =>
       obtain⟨p,y⟩:=x
       rw[h3]at h
       have h:=Option.some.inj h
       cases h
       have hp:=aSb h3
       exact⟨⟨Nat.zero_le _,Nat.le_trans hp.1 (by decide)⟩,hp.2⟩
    ·cases h
     exact⟨⟨Nat.zero_le _,Nat.zero_le _⟩,hc.2.2.1⟩
theorem aNe {b:aD} {a k:Nat} {m:Msg} (h:gZ b a k=some m):m.lim 1048576:=by
 unfold gZ at h
 split at h
 ·cases hm:aFO b a with
  |none=>rw[hm]at h;cases h
  |some x =>
   rw[hm]at h
   have h:=Option.some.inj h
   cases h
   exact⟨Nat.le_trans (mZ (aPt (q:=x.2) hm)).1 (by decide),Nat.zero_le _⟩
 ·split at h
  ·unfold aOc at h
   split at h
   ·cases h;exact⟨Nat.zero_le _,Nat.zero_le _⟩
   ·cases h
  ·split at h
   ·unfold aLL at h
    split at h
    ·split at h
     ·rename_i e
      cases h
      exact⟨Nat.zero_le _,Nat.le_trans (aSb e).1 (by decide)⟩
     ·cases h
    ·cases h
   ·split at h
    ·split at h
     ·cases h;exact⟨Nat.zero_le _,Nat.zero_le _⟩
     ·cases h
    ·cases h
def aOd (b:aD) (m:Msg) (q:Nat):Option Msg:=if bT m=true then(match gV (b.drop q) with|some (w,c)=>if q+c=b.length∧(w:Int)=bB (b.take q) then some m else none|none=>none) else none
def pS (b:aD):Option Msg:=match gV (b.drop 0) with
 |none=>none
 |some (k,c)=>if b.length≤400 then(match dM b c k with|none=>none|some (m,q)=>aOd b m q) else none
def pI (b:aD):Option Msg:=match gV (b.drop 0) with
 |none=>none
 |some (k,c)=>if b.length≤400 then(match gZ b c k with|none=>none|some m=>if bT m=true∧bZ m=b then some m else none) else none
def gM (o:Option Msg):Msg:=match o with|some m=>m|none=>⟨0,0,gH,0,0,0,[]⟩
theorem aHr {E:aR} (J:Sys E) (b:aD) (hb:b.length≤1048576):E 329 [sv (aU b)]=some ([gv ((gM (pI b)).cs dH),bv (pI b).isSome],[]):=by
 have r1:=kZ J b 0 (by omega) (by omega)
 unfold pI
 cases h1:gV (b.drop 0) with
 |none =>
  rw[h1]at r1
  refine J.run rfl rfl fun W U=>?_
  conv=>lhs;whnf
  repeat'((first|apply U.t|apply U.f|(apply U.q;exact aE)|apply U.w (r1)|(apply U.b<;>intro h))<;>conv=>lhs;whnf)
  rfl
 |some p1 =>
  obtain⟨k,c⟩:=p1
  have f1:=oH h1
  rw[h1]at r1
  rw[show vP 0 (some (k,c))=((c:Nat):Int) from congrArg Int.ofNat (Nat.zero_add c),show vN (some (k,c))=(k:Int) from rfl]at r1
  simp only
  by_cases hl:b.length≤400
  ·rw[if_pos hl]
   have el:decide (((aU b).length:Int)>400)=false:=decide_eq_false (by rw[aJ];omega)
   obtain⟨r,r2,hr⟩:=aHq J b c k hb (by omega)
   cases h2:gZ b c k with
   |none =>
    rw[h2]at r2
    refine J.run rfl rfl fun W U=>?_
    conv=>lhs;whnf
    repeat'((first|with_reducible apply U.bf (el)|apply U.t|apply U.f|(apply U.q;exact aE)|apply U.w (r1)|apply U.w (r2)|(apply U.b<;>intro h))<;>conv=>lhs;whnf)
    rfl
   |some m =>
    obtain rfl:=hr m h2
    rw[h2]at r2
    have hm:=aNe h2
    have r3:=aDt J r hm
    have r4:=aAt J r hm
    have r5:=kL J (bZ r) b
    simp only
    cases ho:bT r with
    |false =>
     rw[ho]at r3
     rw[if_neg (fun h=>by cases h.1)]
     refine J.run rfl rfl fun W U=>?_
     conv=>lhs;whnf
     repeat'((first|with_reducible apply U.bf (el)|apply U.t|apply U.f|(apply U.q;exact aE)|apply U.w (r1)|apply U.w (r2)|apply U.w (r3)|(apply U.b<;>intro h))<;>conv=>lhs;whnf)
     rfl
    |true =>
     rw[ho]at r3
     by_cases hp:bZ r=b
     ·rw[if_pos ⟨rfl,hp⟩]
      rw[decide_eq_true hp]at r5
      refine J.run rfl rfl fun W U=>?_
      conv=>lhs;whnf
      repeat'((first|with_reducible apply U.bf (el)|apply U.t|apply U.f|(apply U.q;exact aE)|apply U.w (r1)|apply U.w (r2)|apply U.w (r3)|apply U.w (r4)|apply U.w (r5)|(apply U.b<;>intro h))<;>conv=>lhs;whnf)
      rfl
     ·rw[if_neg (fun h=>hp h.2)]
      rw[decide_eq_false hp]at r5
      refine J.run rfl rfl fun W U=>?_
      conv=>lhs;whnf
      repeat'((first|with_reducible apply U.bf (el)|apply U.t|apply U.f|(apply U.q;exact aE)|apply U.w (r1)|apply U.w (r2)|apply U.w (r3)|apply U.w (r4)|apply U.w (r5)|(apply U.b<;>intro h))<;>conv=>lhs;whnf)
      rfl
  ·rw[if_neg hl]
   have el:decide (((aU b).length:Int)>400)=true:=decide_eq_true (by rw[aJ];omega)
   refine J.run rfl rfl fun W U=>?_
   conv=>lhs;whnf
   repeat'((first|with_reducible apply U.bt (el)|apply U.t|apply U.f|(apply U.q;exact aE)|apply U.w (r1)|(apply U.b<;>intro h))<;>conv=>lhs;whnf)
   rfl
theorem aHs {E:aR} (J:Sys E) (b:aD) (hb:b.length≤1048576):E 323 [sv (aU b)]=some ([gv ((gM (pS b)).cs dH),bv (pS b).isSome],[]):=by
 have r1:=cS J b 0 (by omega) (by omega)
 unfold pS
 cases h1:gV (b.drop 0) with
 |none =>
  rw[h1]at r1
  refine J.run rfl rfl fun W U=>?_
  conv=>lhs;whnf
  repeat'((first|apply U.t|apply U.f|(apply U.q;exact aE)|apply U.w (r1)|(apply U.b<;>intro h))<;>conv=>lhs;whnf)
  rfl
 |some p1 =>
  obtain⟨k,c⟩:=p1
  have f1:=oH h1
  rw[h1]at r1
  rw[show vP 0 (some (k,c))=((c:Nat):Int) from congrArg Int.ofNat (Nat.zero_add c),show vN (some (k,c))=(k:Int) from rfl]at r1
  simp only
  by_cases hl:b.length≤400
  ·rw[if_pos hl]
   have el:decide (((aU b).length:Int)>400)=false:=decide_eq_false (by rw[aJ];omega)
   obtain⟨r,p,r2,hr⟩:=aHp J b c k hb (by omega)
   cases h2:dM b c k with
   |none =>
    rw[h2]at r2
    refine J.run rfl rfl fun W U=>?_
    conv=>lhs;whnf
    repeat'((first|with_reducible apply U.bf (el)|apply U.t|apply U.f|(apply U.q;exact aE)|apply U.w (r1)|apply U.w (r2)|(apply U.b<;>intro h))<;>conv=>lhs;whnf)
    rfl
   |some mq =>
    obtain⟨m,q⟩:=mq
    obtain⟨rfl,rfl⟩:=hr m q h2
    rw[h2]at r2
    have hm:=aNd h2
    have r3:=aDs J r hm.1
    simp only
    unfold aOd
    cases ho:bT r with
    |false =>
     rw[ho]at r3
     rw[if_neg (by decide)]
     refine J.run rfl rfl fun W U=>?_
     conv=>lhs;whnf
     repeat'((first|with_reducible apply U.bf (el)|apply U.t|apply U.f|(apply U.q;exact aE)|apply U.w (r1)|apply U.w (r2)|apply U.w (r3)|(apply U.b<;>intro h))<;>conv=>lhs;whnf)
     rfl
    |true =>
     rw[ho]at r3
     rw[if_pos rfl]
     have r4:=cS J b q (by omega) (by omega)
     cases h3:gV (b.drop q) with
     |none =>
      rw[h3]at r4
      refine J.run rfl rfl fun W U=>?_
      conv=>lhs;whnf
      repeat'((first|with_reducible apply U.bf (el)|apply U.t|apply U.f|(apply U.q;exact aE)|apply U.w (r1)|apply U.w (r2)|apply U.w (r3)|apply U.w (r4)|(apply U.b<;>intro h))<;>conv=>lhs;whnf)
      rfl
     |some wc =>
      obtain⟨w,d⟩:=wc
      rw[h3]at r4
      rw[show vP q (some (w,d))=((q+d:Nat):Int) from rfl,show vN (some (w,d))=(w:Int) from rfl]at r4
      simp only
      by_cases g1:q+d=b.length
      ·have e1:(!decide (((q+d:Nat):Int)=((aU b).length:Int)))=false:=by rw[aJ,decide_eq_true (by omega)];rfl
       refine J.run rfl rfl fun W U=>?_
       conv=>lhs;whnf
       repeat'((first|with_reducible apply U.bf (el)|with_reducible apply U.bf (e1)|apply U.t|apply U.f|(apply U.q;exact aE)|apply U.w (r1)|apply U.w (r2)|apply U.w (r3)|apply U.w (r4)|(apply U.b<;>intro h))<;>conv=>lhs;whnf)
       refine U.q (by exact⟨by omega,by rw[aJ];omega,bK b⟩) ?_
       conv=>lhs;whnf
       repeat((first|apply U.t|apply U.f|(apply U.q;exact aE));conv=>lhs;whnf)
       rw[show((aU b).drop 0).take ((q:Int).toNat-0)=aU (b.take q) from by rw[jK];rfl]
       have r5:=eO J (b.take q) (by simp;omega)
       apply U.w (r5)
       conv=>lhs;whnf
       try(apply U.q;exact aE;conv=>lhs;whnf)
       by_cases g2:(w:Int)=bB (b.take q)
       ·rw[if_pos ⟨g1,g2⟩]
        have e2:(!decide ((w:Int)=bB (b.take q)))=false:=by rw[decide_eq_true g2];rfl
        repeat'((first|with_reducible apply U.bf (e2)|apply U.t|apply U.f|(apply U.q;exact aE)|(apply U.b<;>intro h))<;>conv=>lhs;whnf)
        rfl
       ·rw[if_neg (fun h=>g2 h.2)]
        have e2:(!decide ((w:Int)=bB (b.take q)))=true:=by rw[decide_eq_false g2];rfl
        repeat'((first|with_reducible apply U.bt (e2)|apply U.t|apply U.f|(apply U.q;exact aE)|(apply U.b<;>intro h))<;>conv=>lhs;whnf)
        rfl
      ·rw[if_neg (fun h=>g1 h.1)]
       have e1:(!decide (((q+d:Nat):Int)=((aU b).length:Int)))=true:=by rw[aJ,decide_eq_false (by omega)];rfl
       refine J.run rfl rfl fun W U=>?_
       conv=>lhs;whnf
       repeat'((first|with_reducible apply U.bf (el)|with_reducible apply U.bt (e1)|apply U.t|apply U.f|(apply U.q;exact aE)|apply U.w (r1)|apply U.w (r2)|apply U.w (r3)|apply U.w (r4)|(apply U.b<;>intro h))<;>conv=>lhs;whnf)
       rfl
  ·rw[if_neg hl]
   have el:decide (((aU b).length:Int)>400)=true:=decide_eq_true (by rw[aJ];omega)
   refine J.run rfl rfl fun W U=>?_
   conv=>lhs;whnf
   repeat'((first|with_reducible apply U.bt (el)|apply U.t|apply U.f|(apply U.q;exact aE)|apply U.w (r1)|(apply U.b<;>intro h))<;>conv=>lhs;whnf)
   rfl
theorem aGe {n:Nat} (h:n<256):(dK (n:Int)).toNat=n:=by
 unfold dK;rw[UInt8.toNat_ofNat'];omega
theorem aHt (x:UInt8):dK (x.toNat:Int)=x:=by
 apply UInt8.toNat_inj.mp
 exact aGe x.toNat_lt
theorem aSc:∀ {f m k acc n:Nat} {t:aD},n<128 ^ (f+1)→n<128 ^ m→0<m→aA6 m k acc (jL f n++t)=some (acc+n*128 ^ k,k+(jL f n).length,decide (k=0)||decide (0<n)):=by
 intro f
 induction f with
 |zero =>
  intro m k acc n t hf hm h0
  obtain⟨m,rfl⟩:∃ j,m=j+1:=⟨m-1,by omega⟩
  have hn:n<128:=hf
  simp only[jL,List.cons_append,List.nil_append,aA6]
  rw[aGe (by omega),if_pos hn]
  rfl
 |succ f ih =>
  intro m k acc n t hf hm h0
  obtain⟨m,rfl⟩:∃ j,m=j+1:=⟨m-1,by omega⟩
  simp only[jL]
  split
  ·rename_i hn
   simp only[List.cons_append,List.nil_append,aA6]
   rw[aGe (by omega),if_pos hn]
   rfl
  ·rename_i hn
   simp only[List.cons_append,aA6]
   rw[aGe (by omega),if_neg (by omega)]
   have hd:n/128<128 ^ (f+1):=by
    rw[Nat.pow_succ]at hf
    exact Nat.div_lt_of_lt_mul (by rw[Nat.mul_comm];exact hf)
   have hd2:n/128<128 ^ m:=by
    rw[Nat.pow_succ]at hm
    exact Nat.div_lt_of_lt_mul (by rw[Nat.mul_comm];exact hm)
   have hm0:0<m:=by
    rcases Nat.eq_zero_or_pos m with h|h
    ·subst h;simp at hm;omega
    ·exact h
   rw[ih hd hd2 hm0]
   congr 2
   ·have e:(n%128+128)%128=n%128:=by omega
    rw[e,Nat.pow_succ,Nat.add_assoc,Nat.add_left_cancel_iff]
    have:n=n%128+n/128*128:=by omega
    have e2:n%128*128 ^ k+n/128*(128 ^ k*128)=(n%128+n/128*128)*128 ^ k:=by rw[Nat.add_mul,Nat.mul_comm (128 ^ k),← Nat.mul_assoc]
    rw[e2,← this]
   ·congr 1
    ·simp only[List.length_cons];omega
    ·rw[show decide (0<n/128)=true from decide_eq_true (by omega),show decide (0<n)=true from decide_eq_true (by omega)]
     simp
theorem aSd:∀ {m k acc x c:Nat} {l:aD},aA6 m k acc l=some (x,c,true)→∃ n,x=acc+n*128 ^ k∧n<128 ^ m∧(k=0∨0<n)∧∀ f,m≤f+1→jL f n++l.drop (c-k)=l∧(jL f n).length=c-k:=by
 intro m
 induction m with
 |zero=>intro k acc x c l h;cases h
 |succ m ih =>
  intro k acc x c l h
  cases l with
  |nil=>cases h
  |cons y t =>
   simp only[aA6]at h
   have hy:y.toNat<256:=y.toNat_lt
   split at h
   ·rename_i hs
    obtain⟨h1,h2,h3⟩:acc+y.toNat*128 ^ k=x∧k+1=c∧(k=0∨0<y.toNat):=by simpa using h
    subst h1 h2
    refine⟨y.toNat,rfl,?_,h3,?_⟩
    ·have:128 ^ 1≤128 ^ (m+1):=Nat.pow_le_pow_right (by decide) (by omega)
     omega
    ·intro f _
     have e:jL f y.toNat=[y]:=by
      cases f with
      |zero=>simp only[jL];rw[aHt]
      |succ f=>simp only[jL];rw[if_pos hs,aHt]
     rw[e,show k+1-k=1 from by omega]
     exact⟨rfl,rfl⟩
   ·rename_i hs
    have hc:=aR9 h
    obtain⟨n,e1,e2,e3,e4⟩:=ih h
    have hn:0<n:=by omega
    refine⟨y.toNat%128+128*n,?_,?_, .inr (by omega),?_⟩
    ·rw[e1,Nat.pow_succ,Nat.add_mul,Nat.add_assoc]
     congr 2
     rw[Nat.mul_comm (128 ^ k),← Nat.mul_assoc,Nat.mul_comm n]
    ·rw[Nat.pow_succ]
     omega
    ·intro f hf
     obtain⟨f,rfl⟩:∃ j,f=j+1:=by
      cases f with
      |zero =>
       have:m=0:=by omega
       subst this
       cases h
      |succ f=>exact⟨f,rfl⟩
     have e:=e4 f (by omega)
     have hv:jL (f+1) (y.toNat%128+128*n)=y::jL f n:=by
      simp only[jL]
      rw[if_neg (by omega),show(y.toNat%128+128*n)%128+128=y.toNat from by omega,aHt,show(y.toNat%128+128*n)/128=n from by omega]
     rw[hv,show c-k=(c-(k+1))+1 from by omega,List.drop_succ_cons,List.cons_append,e.1,List.length_cons,e.2]
     exact⟨rfl,rfl⟩
theorem aU3 {n:Nat} (h:n≤1000000000000) (t:aD):gV (kO n++t)=some (n,(kO n).length):=by
 unfold gV kO
 rw[aSc (by
  have:(128:Nat) ^ 9=9223372036854775808:=by decide
  omega) (by
   have:(128:Nat) ^ 6=4398046511104:=by decide
   omega) (by decide)]
 simp[h]
theorem aU4 {n:Nat} (h:n≤562949953421311) (t:aD):gS (kO n++t)=some (n,(kO n).length):=by
 unfold gS kO
 rw[aSc (by
  have:(128:Nat) ^ 9=9223372036854775808:=by decide
  omega) (by
   have:(128:Nat) ^ 8=72057594037927936:=by decide
   omega) (by decide)]
 simp
theorem aU5 {l:aD} {n c:Nat} (h:gV l=some (n,c)):kO n++l.drop c=l∧(kO n).length=c∧n≤1000000000000:=by
 unfold gV at h
 split at h
 ·rename_i x y he
  split at h
  ·rename_i hn
   cases h
   obtain⟨n',e1,e2,e3,e4⟩:=aSd he
   have e:=e4 8 (by decide)
   have:n'=n:=by simp at e1;omega
   subst this
   exact⟨e.1,e.2,hn⟩
  ·cases h
 ·cases h
theorem aU6 {l:aD} {n c:Nat} (h:gS l=some (n,c)):kO n++l.drop c=l∧(kO n).length=c:=by
 unfold gS at h
 split at h
 ·rename_i x y he
  cases h
  obtain⟨n',e1,e2,e3,e4⟩:=aSd he
  have e:=e4 8 (by decide)
  have:n'=n:=by simp at e1;omega
  subst this
  exact e
 ·cases h
theorem aLM {b:aD} {a c:Nat} {v:aD} (h:v++(b.drop a).drop c=b.drop a) (hc:v.length=c):b.take (a+c)=b.take a++v:=by
 rw[List.take_add,← h,List.take_append_of_le_length (by omega),← hc,List.take_length]
theorem fW {b:aD} {a n c:Nat} (h:gV (b.drop a)=some (n,c)):b.take (a+c)=aC (b.take a) n:=by
 have e:=aU5 h
 unfold aC
 rw[if_pos (by simp[aW];omega),Int.toNat_natCast]
 exact aLM e.1 e.2.1
theorem aSe (p:aD) {n:Nat} (h:n≤1000000000000):aC p n=p++kO n:=by
 unfold aC
 rw[if_pos (by simp[aW];omega),Int.toNat_natCast]
theorem aSf:∀ {k:Nat} {b:aD} {a:Nat} {acc l:List Sum} {q:Nat},aN9 k b a acc=some (l,q)→∃ r,l=acc++r∧b.take q=b.take a++gG r∧r.length=k:=by
 intro k
 induction k with
 |zero=>intro b a acc l q h;cases h;exact⟨[],by simp,by simp[gG],rfl⟩
 |succ k ih =>
  intro b a acc l q h
  rw[aN9]at h
  cases hg:gS (b.drop a) with
  |none=>rw[hg]at h;cases h
  |some p =>
   obtain⟨n,c⟩:=p
   rw[hg]at h
   obtain⟨r,e1,e2,e3⟩:=ih h
   have e:=aU6 hg
   refine⟨aLK n::r,by rw[e1];simp,?_,by simp[e3]⟩
   rw[e2,aLM e.1 e.2,gG,List.append_assoc]
   rfl
theorem aPu {b:aD} {a:Nat} {x:Man} {q:Nat} (h:sR b a=some (x,q)):b.take q=cU (b.take a) x:=by
 have hx:=(aIZ h).1
 unfold sR at h
 cases h1:gV (b.drop a) with
 |none=>rw[h1]at h;cases h
 |some p1 =>
  obtain⟨g,c1⟩:=p1
  rw[h1]at h
  simp only at h
  cases h2:gV (b.drop (a+c1)) with
  |none=>rw[h2]at h;cases h
  |some p2 =>
   obtain⟨s,c2⟩:=p2
   rw[h2]at h
   simp only at h
   cases h3:gV (b.drop (a+c1+c2)) with
   |none=>rw[h3]at h;cases h
   |some p3 =>
    obtain⟨n,c3⟩:=p3
    rw[h3]at h
    obtain⟨l,e1,e2,e3⟩:=aA7 h
    obtain⟨r,f1,f2,f3⟩:=aSf e1
    rw[f2,fW h3,fW h2,fW h1]
    unfold cU pT
    rw[if_pos hx,e2]
    simp only[List.nil_append]at f1
    rw[f1]
theorem aDv {k:Nat} {b:aD} {a:Nat} {acc l:List Int} {q:Nat} (h:aOa (k+1) b a acc=some (l,q)):∃ n c,gV (b.drop a)=some (n,c)∧n<1048576∧aOa k b (a+c) (acc++[(n:Int)])=some (l,q):=by
 rw[aOa]at h
 cases hg:gV (b.drop a) with
 |none=>rw[hg]at h;cases h
 |some p =>
  obtain⟨n,c⟩:=p
  rw[hg]at h
  simp only at h
  split at h
  ·rename_i hn;exact⟨n,c,rfl,hn,h⟩
  ·cases h
theorem aKa {n:Nat} (h:n<1099511627776):mY (n:Int)=((n%1048576:Nat):Int):=by
 unfold mY
 rw[BitVec.toNat_and,BitVec.ofInt_natCast,show BitVec.ofInt IntKind.i64.bits 1048575=BitVec.ofNat IntKind.i64.bits 1048575 from rfl,BitVec.toNat_ofNat,BitVec.toNat_ofNat]
 rw[Nat.mod_eq_of_lt (show n<2 ^ IntKind.i64.bits from by simp only[IntKind.bits];omega),Nat.mod_eq_of_lt (show 1048575<2 ^ IntKind.i64.bits from by decide),Nat.and_two_pow_sub_one_eq_mod n 20]
 exact aI (by omega)
theorem aKb {n:Nat}:yL (n:Int)=((n/1048576:Nat):Int):=by
 unfold yL
 rw[show min (20:Int).toNat IntKind.i64.bits=20 from by decide,show(2:Int) ^ 20=1048576 from by decide]
 rw[Int.fdiv_eq_ediv_of_nonneg _ (by decide)]
 omega
theorem aLN (p:aD) {w0 w1:Nat} (h0:w0<1048576) (h1:w1<1048576):bV p ((w0:Int)+(w1:Int)*1048576)=aC (aC p w0) w1:=by
 unfold bV
 rw[show(w0:Int)+(w1:Int)*1048576=((w0+w1*1048576:Nat):Int) from by omega,aKa (by omega),aKb,show(w0+w1*1048576)%1048576=w0 from by omega,show(w0+w1*1048576)/1048576=w1 from by omega]
theorem aTI {b:aD} {a most:Nat} {p:aD} {q:Nat} (h:gP b a most=some (p,q)):b.take q=cC (b.take a) p:=by
 unfold gP at h
 cases h1:gV (b.drop a) with
 |none=>rw[h1]at h;cases h
 |some x =>
  obtain⟨n,c⟩:=x
  rw[h1]at h
  simp only at h
  split at h
  ·rename_i hk
   cases h
   have hl:((b.drop (a+c)).take n).length=n:=by simp;omega
   unfold cC
   rw[hl,← fW h1,List.take_add]
  ·cases h
theorem aNf {b:aD} {a k:Nat} {m:Msg} {q:Nat} (h:dM b a k=some (m,q)) (hk:b.take a=aC [] k):b.take q=iL m:=by
 unfold dM at h
 unfold iL
 split at h
 ·rename_i k1
  subst k1
  cases hm:sR b a with
  |none=>rw[hm]at h;cases h
  |some x =>
   rw[hm]at h
   obtain⟨x,y⟩:=x
   have h:=Option.some.inj h
   cases h
   rw[if_pos rfl,aPu hm,hk]
   rfl
 ·rename_i k1
  cases h1:gV (b.drop a) with
  |none=>rw[h1]at h;cases h
  |some p1 =>
   obtain⟨g,c⟩:=p1
   rw[h1]at h
   simp only at h
   split at h
   ·rename_i k2
    subst k2
    obtain⟨w0,w1,d0,d1,e,rfl⟩:=aI0 h
    obtain⟨n0,c0,g0,l0,e⟩:=aDv e
    obtain⟨n1,c1,g1,l1,e⟩:=aDv e
    obtain⟨n2,c2,g2,l2,e⟩:=aDv e
    obtain⟨n3,c3,g3,l3,e⟩:=aDv e
    rw[aOa]at e
    cases e
    rw[if_neg (by simp),if_pos rfl]
    rw[fW g3,fW g2,fW g1,fW g0,fW h1,hk]
    simp only
    rw[aLN _ l0 l1,aLN _ l2 l3]
    rfl
   ·split at h
    ·rename_i k2 k3
     subst k3
     cases h2:gV (b.drop (a+c)) with
     |none=>rw[h2]at h;cases h
     |some p2 =>
      obtain⟨i,d⟩:=p2
      rw[h2]at h
      simp only at h
      cases h3:gP b (a+c+d) 6 with
      |none=>rw[h3]at h;cases h
      |some x =>
       obtain⟨p,y⟩:=x
       rw[h3]at h
       have h:=Option.some.inj h
       cases h
       rw[if_neg (by simp),if_neg (by simp),if_pos rfl]
       rw[aTI h3,fW h2,fW h1,hk]
       rfl
    ·rename_i k2 k3
     cases h
     rw[if_neg (by simp;omega),if_neg (by simp;omega),if_neg (by simp;omega),fW h1,hk]
theorem aHu {b:aD} {m:Msg} (h:pS b=some m):bT m=true∧bZ m=b∧b.length≤400:=by
 unfold pS at h
 cases h1:gV (b.drop 0) with
 |none=>rw[h1]at h;cases h
 |some p1 =>
  obtain⟨k,c⟩:=p1
  rw[h1]at h
  simp only at h
  split at h
  ·rename_i hl
   cases h2:dM b c k with
   |none=>rw[h2]at h;cases h
   |some mq =>
    obtain⟨m',q⟩:=mq
    rw[h2]at h
    simp only[aOd]at h
    split at h
    ·rename_i ho
     cases h3:gV (b.drop q) with
     |none=>rw[h3]at h;cases h
     |some wd =>
      obtain⟨w,d⟩:=wd
      rw[h3]at h
      simp only at h
      split at h
      ·rename_i hq
       cases h
       refine⟨ho,?_,hl⟩
       have e1:=fW h1
       rw[Nat.zero_add,List.take_zero]at e1
       have e2:=aNf h2 e1
       have e3:=fW h3
       unfold bZ
       rw[if_pos ho,← e2,← hq.2,← e3,hq.1,List.take_length]
      ·cases h
    ·cases h
  ·cases h
def aHv (b:aD):Bool:=b.all fun x=>decide (x=0)
theorem aI1 (x:UInt8):decide ((x.toNat:Int)=0)=decide (x=0):=by
 rw[decide_eq_decide]
 constructor
 ·intro h;exact UInt8.toNat_inj.mp (by simpa using h)
 ·rintro rfl;rfl
theorem aH9 {E:aR} (J:Sys E) (b:aD) (hb:b.length≤1099511627776):E 350 [sv (aU b)]=some ([bv (aHv b)],[]):=by
 refine J.run rfl rfl fun W U=>?_
 conv=>lhs;whnf
 refine U.loop (σ:=Nat) (γ:=Nat) (fun i s=>s.sl 3 (v1 (.t (.int .i64 i)))) (fun i n=>i=n∧n≤b.length) (fun n=>b.length-n) (fun n=>([bv (aHv (b.drop n))],[])) 0 0 ?_ ?_ ?_ ?_
 ·intro K
  conv=>lhs;whnf
  conv=>rhs;whnf
  try rfl
 ·simp
 ·rintro kl n _ ⟨rfl,hn⟩ ih
  conv=>lhs;whnf
  rw[bO]
  apply U.b<;>intro h2<;>conv=>lhs;whnf
  ·have h2:n<b.length:=by simpa using h2
   rw[List.drop_eq_getElem_cons h2,aHv,List.all_cons,← aI1]
   repeat((first|apply U.t|apply U.f|(apply U.q;exact aE)|(refine U.w (cG ?_) ?_;omega));conv=>lhs;whnf)
   apply U.b<;>intro h3<;>conv=>lhs;whnf
   ·have h3:decide ((b[n].toNat:Int)=0)=false:=by simpa using h3
    rw[h3];rfl
   ·have h3:decide ((b[n].toNat:Int)=0)=true:=by simpa using h3
    rw[h3]
    refine ih (n+1) (n+1) _ ?_ ⟨rfl,by omega⟩ (by omega)
    intro K
    conv=>lhs;whnf
    conv=>rhs;whnf
    try rfl
    rw[show IntKind.i64.wrap ((n:Int)+1)=_ from aK (by omega)]
  ·have:n=b.length:=by simp at h2;omega
   subst this
   rw[List.drop_length];rfl
 ·rfl
theorem aLO {E:aR} (J:Sys E) (x:UInt8):E 363 [u8v x]=some ([bv (!decide (x=0))],[]):=by
 rw[← aI1]
 refine J.run rfl rfl fun W U=>?_
 conv=>lhs;whnf
 rfl
theorem aEB {E:aR} (J:Sys E) (l:List UInt8) (h0:l.length≤1099511627776)  : E 364 [sv (aU l), .fn 363 []]=some ([iv (jU (fun x:UInt8 => !decide (x=0)) 0 l)],[]):=by
 have hrl:(aU l).length=l.length:=by simp[aU,bD]
 refine J.run rfl rfl fun W U=>?_
 conv=>lhs;whnf
 refine U.loop (σ:=Nat) (γ:=Nat) (fun i s=>s.sl 8 (v1 (.t (.int .i64 i)))) (fun i n=>i=n∧n≤l.length) (fun n=>l.length-n) (fun n=>([iv (jU (fun x:UInt8 => !decide (x=0)) n (l.drop n))],[])) 0 0 ?_ ?_ ?_ ?_
 ·intro K
  conv=>lhs;whnf
  conv=>rhs;whnf
  try rfl
 ·simp
 ·rintro kl n _ ⟨rfl,hn⟩ ih
  conv=>lhs;whnf
  apply U.b<;>intro h2<;>conv=>lhs;whnf
  ·have h2:n<l.length:=by simpa[hrl] using h2
   rw[List.drop_eq_getElem_cons h2]
   repeat((first|apply U.t|apply U.f|(apply U.q;exact aE)|(refine U.w (cG ?_) ?_;omega));conv=>lhs;whnf)
   apply U.w (aLO J l[n])
   conv=>lhs;whnf
   try(apply U.q;exact aE;conv=>lhs;whnf)
   simp only[jU]
   apply U.b<;>intro h3<;>conv=>lhs;whnf
   ·simp only[h3,if_true];rfl
   ·simp only[h3,if_false,Bool.false_eq_true]
    refine ih (n+1) (n+1) _ ?_ ⟨rfl,by omega⟩ (by omega)
    intro K
    conv=>lhs;whnf
    conv=>rhs;whnf
    try rfl
    rw[show IntKind.i64.wrap ((n:Int)+1)=_ from aK (by omega)]
    try rfl
  ·have:n=l.length:=by simp[hrl]at h2;omega
   subst this
   rw[List.drop_length];rfl
 ·rfl
theorem yM {E:aR} (J:Sys E) (l:aD) (h0:l.length≤1099511627776):E 362 [sv (aU l), .fn 363 []]=some ([bv (!aHv l)],[]):=by
 have e:(!aHv l)=l.any fun x => !decide (x=0):=by
  unfold aHv
  rw[Bool.eq_iff_iff]
  simp
 rw[e]
 refine J.run rfl rfl fun W U=>?_
 conv=>lhs;whnf
 apply U.w (aEB J l h0)
 conv=>lhs;whnf
 try(apply U.q;exact aE;conv=>lhs;whnf)
 rw[aRS]
 rfl
theorem aVl {a b:Int} (h:a=b):(!decide (a=b))=false:=by simp[h]
theorem aVX {a b:Int} (h:¬ a=b):(!decide (a=b))=true:=by simp[h]
theorem aSg (m:Man):bG (dC m)=true:=by
 unfold dC mT
 split
 ·rename_i h
  have h:=bS h
  generalize m.sums.length=n at h ⊢
  have hp:2 ^ n≤2 ^ 40:=Nat.pow_le_pow_right (by decide) (by omega)
  have h40:(2:Nat) ^ 40=1099511627776:=by decide
  have h1:1≤2 ^ n:=Nat.one_le_two_pow
  rw[show min ((n:Int).toNat) IntKind.i64.bits=n from by simp only[IntKind.bits];omega,show(1:Int)*2 ^ n=((2 ^ n:Nat):Int) from by push_cast;omega]
  generalize 2 ^ n=p at hp h1 ⊢
  rw[show IntKind.i64.wrap (p:Int)=p from aI (by omega),show IntKind.i64.wrap ((p:Int)-1)=(p:Int)-1 from aI (by omega)]
  simp only[bG,aW,Bool.and_eq_true,decide_eq_true_eq]
  omega
 ·decide
def aSh (m:Man) (x:Bld) (i:Nat) (s:Sum):Bool:=if eL x.hav i=true then decide (bI (eR x.buf m.size i)=s) else aHv (eR x.buf m.size i)
def aPv (m:Man) (x:Bld):Nat→List Sum→Bool
 |_,[]=>true
 |i,s::r=>aSh m x i s&&aPv m x (i+1) r
def lC (m:Man) (x:Bld):Bool:=aY m&&(bG x.hav&&(decide (mU x.hav (dC m)=0)&&(decide ((x.buf.length:Int)=m.len)&&aPv m x 0 m.sums)))
theorem aHw {E:aR} (J:Sys E) (m:Man) (x:Bld) (hm:m.sums.length≤1048576) (hx:x.buf.length≤1048576):E 346 [gv (m.cs aO),gv (x.cs aO)]=some ([bv (lC m x)],[]):=by
 have a1:=eH J m hm
 have a2:=cH J x.hav
 have a3:=aFF J m
 have a4:=aG7 J x.hav (dC m)
 have hrl:(m.sums.map Sum.row).length=m.sums.length:=List.length_map _
 unfold lC
 cases h1:aY m
 ·rw[h1]at a1
  refine J.run rfl rfl fun W U=>?_
  conv=>lhs;whnf
  repeat'((first|apply U.t|apply U.f|(apply U.q;exact aE)|apply U.w (a1)|(apply U.b<;>intro h))<;>conv=>lhs;whnf)
  rfl
 ·rw[h1]at a1
  cases h2:bG x.hav
  ·rw[h2]at a2
   refine J.run rfl rfl fun W U=>?_
   conv=>lhs;whnf
   repeat'((first|apply U.t|apply U.f|(apply U.q;exact aE)|apply U.w (a1)|apply U.w (a2)|(apply U.b<;>intro h))<;>conv=>lhs;whnf)
   rfl
  ·rw[h2]at a2
   rw[show aDm x.hav (dC m)=mU x.hav (dC m) from by unfold aDm;rw[if_pos ⟨h2,aSg m⟩]]at a4
   by_cases h3:mU x.hav (dC m)=0
   ·by_cases h4:(x.buf.length:Int)=m.len
    ·have h4':((aU x.buf).length:Int)=m.len:=by rw[bO];exact h4
     rw[decide_eq_true h3,decide_eq_true h4]
     simp only[Bool.true_and]
     refine J.run rfl rfl fun W U=>?_
     conv=>lhs;whnf
     repeat'((first|with_reducible apply U.bf (aVl h3)|with_reducible apply U.bf (aVl h4')|apply U.t|apply U.f|(apply U.q;exact aE)|apply U.w (a1)|apply U.w (a2)|apply U.w (a3)|apply U.w (a4)|(apply U.b<;>intro h))<;>conv=>lhs;whnf)
     refine U.loop (σ:=Nat) (γ:=Nat) (fun i s=>s.sl 5 (v1 (.t (.int .i64 i)))) (fun i k=>i=k∧k≤m.sums.length) (fun k=>m.sums.length-k) (fun k=>([bv (aPv m x k (m.sums.drop k))],[])) 0 0 ?_ ?_ ?_ ?_
     ·intro K
      conv=>lhs;whnf
      conv=>rhs;whnf
      try rfl
     ·exact⟨rfl,by omega⟩
     ·rintro kl n _ ⟨rfl,hn⟩ ih
      conv=>lhs;whnf
      rw[hrl]
      apply U.b<;>intro g1<;>conv=>lhs;whnf
      ·have g1:n<m.sums.length:=by simpa using g1
       have hs:=jJ (size:=m.size) (n:=m.len) (i:=n)
       have hk:eR x.buf m.size n=(x.buf.drop (bP m.size m.len n).toNat).take (aX m.size m.len n).toNat:=by unfold eR;rw[h4]
       have hkl:=pN x.buf m.size n
       rw[List.drop_eq_getElem_cons g1,aPv,aSh]
       apply U.w (eN J m.size m.len n)
       conv=>lhs;whnf
       repeat((first|apply U.t|apply U.f|(apply U.q;exact aE));conv=>lhs;whnf)
       rw[show IntKind.i64.wrap (bP m.size m.len n+aX m.size m.len n)=bP m.size m.len n+aX m.size m.len n from aI (by omega)]
       repeat((first|apply U.t|apply U.f|(apply U.q;exact aE));conv=>lhs;whnf)
       refine U.q (by exact⟨by omega,by rw[aJ];omega,bK _⟩) ?_
       conv=>lhs;whnf
       have hc:((aU x.buf).drop (bP m.size m.len n).toNat).take ((bP m.size m.len n+aX m.size m.len n).toNat-(bP m.size m.len n).toNat)=aU (eR x.buf m.size n):=by
        rw[jK,hk]
        congr 2
        omega
       apply U.w (eG J x.hav n)
       conv=>lhs;whnf
       repeat((first|apply U.t|apply U.f|(apply U.q;exact aE));conv=>lhs;whnf)
       apply U.b<;>intro gi<;>conv=>lhs;whnf
       ·rw[if_pos gi]
        repeat((first|apply U.t|apply U.f|(apply U.q;exact aE)|(refine U.w (cG ?_) ?_;omega));conv=>lhs;whnf)
        rw[hc]
        apply U.w (fE J (eR x.buf m.size n) (by omega))
        conv=>lhs;whnf
        repeat((first|apply U.t|apply U.f|(apply U.q;exact aE));conv=>lhs;whnf)
        apply U.b<;>intro g4<;>conv=>lhs;whnf
        ·have g4:¬ bI (eR x.buf m.size n)=m.sums[n]:=by intro e;rw[e]at g4;simp at g4
         rw[decide_eq_false g4]
         repeat((first|apply U.t|apply U.f|(apply U.q;exact aE));conv=>lhs;whnf)
         rfl
        ·have g4:bI (eR x.buf m.size n)=m.sums[n]:=by
          revert g4
          generalize bI (eR x.buf m.size n)=y
          generalize m.sums[n]=z
          cases y;cases z
          simp
         rw[decide_eq_true g4]
         simp only[Bool.true_and]
         repeat((first|apply U.t|apply U.f|(apply U.q;exact aE));conv=>lhs;whnf)
         apply U.w (eG J x.hav n)
         conv=>lhs;whnf
         repeat((first|apply U.t|apply U.f|(apply U.q;exact aE));conv=>lhs;whnf)
         rw[gi]
         repeat((first|apply U.t|apply U.f|(apply U.q;exact aE));conv=>lhs;whnf)
         refine ih (n+1) (n+1) _ ?_ ⟨rfl,by omega⟩ (by omega)
         intro K
         conv=>lhs;whnf
         conv=>rhs;whnf
         try rfl
         rw[show IntKind.i64.wrap ((n:Int)+1)=_ from aK (by omega)]
         try rfl
       ·rw[if_neg (by rw[gi];decide)]
        repeat((first|apply U.t|apply U.f|(apply U.q;exact aE));conv=>lhs;whnf)
        apply U.w (eG J x.hav n)
        conv=>lhs;whnf
        repeat((first|apply U.t|apply U.f|(apply U.q;exact aE));conv=>lhs;whnf)
        rw[gi]
        repeat((first|apply U.t|apply U.f|(apply U.q;exact aE));conv=>lhs;whnf)
        rw[hc]
        apply U.w (aH9 J (eR x.buf m.size n) (by omega))
        conv=>lhs;whnf
        repeat((first|apply U.t|apply U.f|(apply U.q;exact aE));conv=>lhs;whnf)
        apply U.b<;>intro g5<;>conv=>lhs;whnf
        ·rw[mS g5]
         rfl
        ·rw[iV g5]
         simp only[Bool.true_and]
         refine ih (n+1) (n+1) _ ?_ ⟨rfl,by omega⟩ (by omega)
         intro K
         conv=>lhs;whnf
         conv=>rhs;whnf
         try rfl
         rw[show IntKind.i64.wrap ((n:Int)+1)=_ from aK (by omega)]
         try rfl
      ·have:n=m.sums.length:=by simp at g1;omega
       rw[this,List.drop_length]
       rfl
     ·rfl
    ·have h4':¬ ((aU x.buf).length:Int)=m.len:=by rw[bO];exact h4
     rw[decide_eq_true h3,decide_eq_false h4]
     refine J.run rfl rfl fun W U=>?_
     conv=>lhs;whnf
     repeat'((first|with_reducible apply U.bf (aVl h3)|with_reducible apply U.bt (aVX h4')|apply U.t|apply U.f|(apply U.q;exact aE)|apply U.w (a1)|apply U.w (a2)|apply U.w (a3)|apply U.w (a4)|(apply U.b<;>intro h))<;>conv=>lhs;whnf)
     rfl
   ·rw[decide_eq_false h3]
    refine J.run rfl rfl fun W U=>?_
    conv=>lhs;whnf
    repeat'((first|with_reducible apply U.bt (aVX h3)|apply U.t|apply U.f|(apply U.q;exact aE)|apply U.w (a1)|apply U.w (a2)|apply U.w (a3)|apply U.w (a4)|(apply U.b<;>intro h))<;>conv=>lhs;whnf)
    rfl
theorem oA {a b:Nat} (ha:a<1099511627776) (hb:b<1099511627776):aFE (a:Int) (b:Int)=((a ||| b:Nat):Int)∧a ||| b<1099511627776:=by
 have h3:a ||| b<2 ^ 40:=Nat.or_lt_two_pow (by omega) (by omega)
 refine⟨?_,by omega⟩
 unfold aFE
 rw[BitVec.toNat_or,BitVec.ofInt_natCast,BitVec.ofInt_natCast,BitVec.toNat_ofNat,BitVec.toNat_ofNat]
 rw[Nat.mod_eq_of_lt (show a<2 ^ IntKind.i64.bits from by simp only[IntKind.bits];omega),Nat.mod_eq_of_lt (show b<2 ^ IntKind.i64.bits from by simp only[IntKind.bits];omega)]
 exact aI (by omega)
theorem aI2 {n i:Nat} (hn:n<1099511627776) (hi:i<40):eL (n:Int) (i:Int)=n.testBit i:=by
 have h1:bG (n:Int)=true:=by simp only[bG,aW,Bool.and_eq_true,decide_eq_true_eq];omega
 have h2:aW (i:Int) 0 39=true:=by simp only[aW,Bool.and_eq_true,decide_eq_true_eq];omega
 unfold eL
 rw[h1,h2,show min ((i:Int).toNat) IntKind.i64.bits=i from by simp only[IntKind.bits];omega,Bool.true_and,Bool.true_and,Nat.testBit_eq_decide_div_mod_eq]
 have e:((n:Int).fdiv (2 ^ i))=((n/2 ^ i:Nat):Int):=by
  rw[Int.fdiv_eq_ediv_of_nonneg _ (by exact_mod_cast Nat.zero_le _)]
  push_cast;rfl
 have hle:n/2 ^ i≤n:=Nat.div_le_self _ _
 rw[e]
 generalize n/2 ^ i=q at hle ⊢
 rw[BitVec.toNat_and,BitVec.ofInt_natCast,BitVec.toNat_ofNat,show(BitVec.ofInt IntKind.i64.bits 1).toNat=1 from rfl,Nat.mod_eq_of_lt (show q<2 ^ IntKind.i64.bits from by simp only[IntKind.bits];omega),Nat.and_one_is_mod]
 rw[show IntKind.i64.wrap ((q%2:Nat):Int)=((q%2:Nat):Int) from aI (by omega)]
 congr 1
 exact propext ⟨fun h=>by omega,fun h=>by omega⟩
theorem aNg {p:Nat→Bool} {i k:Nat} {a:Nat} (h:aHf p i k=(a:Int)):i≤a∧a<i+k∧p a=true:=by
 induction k generalizing i with
 |zero=>simp[aHf]at h
 |succ k ih =>
  simp only[aHf]at h
  split at h
  ·rename_i hp
   have:i=a:=by omega
   subst this
   exact⟨by omega,by omega,hp⟩
  ·have:=ih h
   exact⟨by omega,by omega,this.2.2⟩
theorem aNh {b:aD} {m:Man} {n:Nat} (hn:n<m.sums.length) {a:Nat} (h:cR b m n=(a:Int)) :
 1≤aX m.size m.len n∧aX m.size m.len n≤6∧(a:Int)+aX m.size m.len n≤b.length∧bI ((b.drop a).take (aX m.size m.len n).toNat)=m.sums[n]:=by
 rw[aLH hn]at h
 unfold mW at h
 split at h
 ·rename_i hr
  have hr:=bS hr
  obtain⟨_,h2,h3⟩:=aNg h
  rw[eW,pO]at h2
  have h3:=of_decide_eq_true h3
  refine⟨hr.1,hr.2,?_,h3⟩
  split at h2<;>omega
 ·omega
theorem dO (p:aD) (n:Int):p <+: aC p n:=by
 unfold aC
 split
 ·exact List.prefix_append _ _
 ·exact List.prefix_rfl
theorem jM {p b:aD} {n:Nat} (h:n≤1000000000000) (hp:aC p n <+: b):∃ c,gV (b.drop p.length)=some (n,c)∧(aC p n).length=p.length+c:=by
 rw[aSe p h]at hp ⊢
 obtain⟨t,rfl⟩:=hp
 rw[List.append_assoc,List.drop_left]
 exact⟨_,aU3 h t,List.length_append⟩
theorem aU7 {p b r:aD} {n:Nat} (h:n≤562949953421311) (hp:p++(kO n++r) <+: b):gS (b.drop p.length)=some (n,(kO n).length):=by
 obtain⟨t,rfl⟩:=hp
 rw[List.append_assoc,List.drop_left,List.append_assoc]
 exact aU4 h _
theorem aPw {m:Man} {l:List Sum}:∀ {i:Nat},yK m i l=true→∀ x∈l,bW x.s=true∧bI (bQ x.s)=x:=by
 induction l with
 |nil=>intro i _ x hx;cases hx
 |cons y r ih =>
  intro i h x hx
  simp only[yK,Bool.and_eq_true]at h
  rcases List.mem_cons.mp hx with rfl|hx
  ·have h1:=h.1
   simp only[aAr,Bool.and_eq_true,decide_eq_true_eq]at h1
   exact⟨h1.1,h1.2.2⟩
  ·exact ih h.2 x hx
theorem aTJ {b:aD}:∀ {l:List Sum} {p:aD} {acc:List Sum},(∀ y∈l,bW y.s=true∧bI (bQ y.s)=y)→p++gG l <+: b→aN9 l.length b p.length acc=some (acc++l,(p++gG l).length)∧aTF l.length b p.length acc=some (acc++l,(p++gG l).length):=by
 intro l
 induction l with
 |nil=>intro p acc _ _;simp[aN9,aTF,gG]
 |cons y r ih =>
  intro p acc hy hp
  have h1:=hy y (by simp)
  have hr:=aHl h1.1
  obtain⟨n,hn⟩:∃ n:Nat,y.s=n:=⟨y.s.toNat,by omega⟩
  rw[gG,hn,Int.toNat_natCast]at hp ⊢
  have hg:=aU7 (by omega) hp
  have e:=ih (p:=p++kO n) (acc:=acc++[y]) (fun z hz=>hy z (by simp[hz])) (by rw[List.append_assoc];exact hp)
  rw[List.length_append,List.append_assoc,List.append_assoc]at e
  have hs:aLK n=y:=by
   unfold aLK
   rw[← hn,h1.2]
  constructor
  ·rw[List.length_cons,aN9,hg]
   simp only
   rw[hs]
   exact e.1
  ·rw[List.length_cons,aTF,hg]
   simp only
   rw[← hn,if_pos h1.1,h1.2]
   exact e.2
theorem aSi {b p:aD} {x:Man} (hx:aY x=true) (h0:x.gen≠0) (hp:cU p x <+: b):sR b p.length=some (x,(cU p x).length)∧aFO b p.length=some (x,(cU p x).length):=by
 have hx':=hx
 obtain⟨gen,size,len,sums⟩:=x
 unfold cU at hp ⊢
 rw[if_pos hx]at hp ⊢
 unfold aY at hx'
 rw[if_neg h0]at hx'
 simp only[Bool.and_eq_true,decide_eq_true_eq]at hx'
 obtain⟨a1,a2,a3,a4⟩:=hx'
 have a1:=bS a1
 unfold cL at a2
 simp only[Bool.and_eq_true]at a2
 have b1:=bS a2.1
 have b2:=bS a2.2
 rw[show IntKind.i64.wrap (size*40)=size*40 from aI (by omega)]at b2
 obtain⟨g,rfl⟩:∃ g:Nat,gen=g:=⟨gen.toNat,by omega⟩
 obtain⟨s,rfl⟩:∃ g:Nat,size=g:=⟨size.toNat,by omega⟩
 obtain⟨n,rfl⟩:∃ g:Nat,len=g:=⟨len.toNat,by omega⟩
 have hh:pT p ⟨g,s,n,sums⟩ <+: b:=List.IsPrefix.trans (List.prefix_append _ _) hp
 unfold pT at hh
 simp only at hh
 obtain⟨c3,e3,l3⟩:=jM (by omega) hh
 have hh2:=List.IsPrefix.trans (dO _ _) hh
 obtain⟨c2,e2,l2⟩:=jM (by omega) hh2
 have hh1:=List.IsPrefix.trans (dO _ _) hh2
 obtain⟨c1,e1,l1⟩:=jM (by omega) hh1
 have hs:=aTJ (acc:=[]) (aPw a4) hp
 rw[List.nil_append]at hs
 rw[l1]at e2 l2
 rw[l2]at e3 l3
 rw[show(pT p ⟨g,s,n,sums⟩).length=p.length+c1+c2+c3 from l3]at hs
 unfold sR aFO
 rw[e1]
 simp only
 rw[e2]
 simp only
 rw[e3]
 simp only
 rw[if_pos (show 0<g from by omega),← a3,Int.toNat_natCast,hs.1,hs.2,aGd hx]
 exact⟨rfl,rfl⟩
theorem aOe (p:aD) (s:Int):p <+: bV p s:=List.IsPrefix.trans (dO _ _) (dO _ _)
theorem aLP {n:Nat} (h:n<1099511627776):aFE ((n%1048576:Nat):Int) (aNc ((n/1048576:Nat):Int))=(n:Int):=by
 have hs:aNc ((n/1048576:Nat):Int)=((n/1048576*1048576:Nat):Int):=by
  unfold aNc
  rw[aSa (by omega) (by omega)]
  omega
 rw[hs,(oA (by omega) (by omega)).1]
 congr 1
 rw[Nat.or_comm,Nat.mul_comm,show(1048576:Nat)=2 ^ 20 from rfl,← Nat.two_pow_add_eq_or_of_lt (Nat.mod_lt _ (by decide))]
 exact Nat.div_add_mod n (2 ^ 20)
theorem aKc {x:Man} (h:bX x=true):x=gH:=by
 rw[← wE]at h
 exact of_decide_eq_true h
theorem aU8 {b p s:aD} {most:Nat} (hs:s.length≤most) (hm:most≤1000000) (hp:cC p s <+: b):gP b p.length most=some (s,(cC p s).length):=by
 unfold cC at hp ⊢
 have h1:aC p (s.length:Nat) <+: b:=List.IsPrefix.trans (List.prefix_append _ _) hp
 obtain⟨c,e,l⟩:=jM (by omega) h1
 obtain⟨t,rfl⟩:=hp
 unfold gP
 rw[e]
 simp only
 rw[← l,if_pos ⟨hs,by simp only[List.length_append];omega⟩,List.append_assoc,List.drop_left,List.take_left,List.length_append]
theorem aPx {b:aD} {man:Man} (ho:aY man=true) (h0:man.gen≠0) (hp:cU (aC [] 1) man <+: b) :
 dM b (aC [] 1).length 1=some (⟨1,0,man,0,0,0,[]⟩,(cU (aC [] 1) man).length)∧gZ b (aC [] 1).length 1=some ⟨1,0,man,0,0,0,[]⟩:=by
 have e:=aSi ho h0 hp
 constructor
 ·unfold dM
  rw[if_pos rfl,e.1]
  rfl
 ·unfold gZ
  rw[if_pos rfl,e.2]
theorem aPy {b:aD} {g w d:Nat} (hg:g≤1000000) (hw:w<1099511627776) (hd:d<1099511627776) (hp:bV (bV (aC (aC [] 2) g) w) d <+: b) :
 dM b (aC [] 2).length 2=some (⟨2,g,gH,w,d,0,[]⟩,(bV (bV (aC (aC [] 2) g) w) d).length)∧gZ b (aC [] 2).length 2=some ⟨2,g,gH,w,d,0,[]⟩:=by
 unfold bV at hp ⊢
 rw[aKa hw,aKa hd,aKb,aKb]at hp ⊢
 have p5:=hp
 have p4:=List.IsPrefix.trans (dO _ _) p5
 have p3:=List.IsPrefix.trans (dO _ _) p4
 have p2:=List.IsPrefix.trans (dO _ _) p3
 have p1:=List.IsPrefix.trans (dO _ _) p2
 obtain⟨c1,e1,l1⟩:=jM (by omega) p1
 obtain⟨c2,e2,l2⟩:=jM (by omega) p2
 obtain⟨c3,e3,l3⟩:=jM (by omega) p3
 obtain⟨c4,e4,l4⟩:=jM (by omega) p4
 obtain⟨c5,e5,l5⟩:=jM (by omega) p5
 rw[l5]
 rw[l4]at e5 ⊢
 rw[l3]at e4 e5 ⊢
 rw[l2]at e3 e4 e5 ⊢
 rw[l1]at e2 e3 e4 e5 ⊢
 constructor
 ·unfold dM
  rw[if_neg (by decide),e1]
  simp only
  rw[if_pos trivial]
  simp only[aOa,e2,e3,e4,e5]
  rw[if_pos (by omega),if_pos (by omega),if_pos (by omega),if_pos (by omega)]
  simp only[List.nil_append,List.cons_append,aNb]
  congr 3
  ·omega
  ·omega
 ·unfold gZ
  rw[if_neg (by decide),if_pos rfl]
  simp only[aFM,e1,e2,e3,e4,e5,List.nil_append,List.cons_append,aOc]
  rw[aLP hw,aLP hd]
theorem aPz {b s:aD} {g i:Nat} (hg:g≤1000000) (hi:i≤39) (hs:s.length≤6) (hp:cC (aC (aC (aC [] 3) g) i) s <+: b) :
 dM b (aC [] 3).length 3=some (⟨3,g,gH,0,0,i,s⟩,(cC (aC (aC (aC [] 3) g) i) s).length)∧gZ b (aC [] 3).length 3=some ⟨3,g,gH,0,0,i,s⟩:=by
 have e3:=aU8 hs (by decide) hp
 have p2:aC (aC (aC [] 3) g) i <+: b:=List.IsPrefix.trans (List.IsPrefix.trans (dO _ _) (List.prefix_append _ _)) hp
 have p1:=List.IsPrefix.trans (dO _ _) p2
 obtain⟨c1,e1,l1⟩:=jM (by omega) p1
 obtain⟨c2,e2,l2⟩:=jM (by omega) p2
 rw[l2]at e3
 rw[l1]at e2 e3
 constructor
 ·unfold dM
  rw[if_neg (by decide),e1]
  simp only
  rw[if_neg (by decide),if_pos trivial,e2]
  simp only
  rw[e3]
  rfl
 ·unfold gZ
  rw[if_neg (by decide),if_neg (by decide),if_pos rfl]
  simp only[aFM,e1,e2,List.nil_append,List.cons_append,aLL,e3]
theorem aPA {b:aD} {g:Nat} (hg:g≤1000000) (hp:aC (aC [] 4) g <+: b) :
 dM b (aC [] 4).length 4=some (⟨4,g,gH,0,0,0,[]⟩,(aC (aC [] 4) g).length)∧gZ b (aC [] 4).length 4=some ⟨4,g,gH,0,0,0,[]⟩:=by
 obtain⟨c1,e1,l1⟩:=jM (by omega) hp
 constructor
 ·unfold dM
  rw[if_neg (by decide),e1]
  simp only
  rw[if_neg (by decide),if_neg (by decide),l1]
  rfl
 ·unfold gZ
  rw[if_neg (by decide),if_neg (by decide),if_neg (by decide),if_pos rfl,e1]
theorem aSj {b:aD} {m:Msg} (ho:bT m=true) (hp:iL m <+: b):∃ k:Nat,m.kind=k∧k≤4∧aC [] k <+: b∧dM b (aC [] k).length k=some (m,(iL m).length)∧gZ b (aC [] k).length k=some m:=by
 have hk:=aA5 ho
 obtain⟨kind,gen,man,want,done,i,s⟩:=m
 unfold bT at ho
 unfold iL at hp ⊢
 simp only at hk ho hp ⊢
 rcases hk with rfl|rfl|rfl|rfl
 ·rw[if_pos rfl]at hp ho ⊢
  simp only[gY,Bool.and_eq_true,Bool.true_or,Bool.false_or,decide_eq_true_eq,Bool.not_eq_true',decide_eq_false_iff_not,true_and]at ho
  obtain⟨rfl,h0,hm,⟨rfl,rfl⟩,rfl,rfl⟩:=ho
  refine⟨1,rfl,by decide,?_,aPx hm h0 hp⟩
  refine List.IsPrefix.trans ?_ hp
  unfold cU
  rw[if_pos hm]
  exact List.IsPrefix.trans (List.IsPrefix.trans (dO _ _) (List.IsPrefix.trans (dO _ _) (dO _ _))) (List.prefix_append _ _)
 ·rw[if_neg (by decide),if_pos rfl]at hp ho ⊢
  simp only[Bool.and_eq_true,decide_eq_true_eq,bG]at ho
  obtain⟨hg,hz,hw,hd,rfl,rfl⟩:=ho
  obtain rfl:=aKc hz
  have hg:=bS hg
  have hw:=bS hw
  have hd:=bS hd
  obtain⟨g,rfl⟩:∃ g:Nat,gen=g:=⟨gen.toNat,by omega⟩
  obtain⟨w,rfl⟩:∃ g:Nat,want=g:=⟨want.toNat,by omega⟩
  obtain⟨d,rfl⟩:∃ g:Nat,done=g:=⟨done.toNat,by omega⟩
  refine⟨2,rfl,by decide,?_,aPy (by omega) (by omega) (by omega) hp⟩
  exact List.IsPrefix.trans (List.IsPrefix.trans (dO _ _) (List.IsPrefix.trans (aOe _ _) (aOe _ _))) hp
 ·rw[if_neg (by decide),if_neg (by decide),if_pos rfl]at hp ho ⊢
  simp only[Bool.and_eq_true,decide_eq_true_eq]at ho
  obtain⟨hg,hz,rfl,rfl,hi,hs⟩:=ho
  obtain rfl:=aKc hz
  have hg:=bS hg
  have hi:=bS hi
  have hs:=bS hs
  obtain⟨g,rfl⟩:∃ g:Nat,gen=g:=⟨gen.toNat,by omega⟩
  obtain⟨j,rfl⟩:∃ g:Nat,i=g:=⟨i.toNat,by omega⟩
  refine⟨3,rfl,by decide,?_,aPz (by omega) (by omega) (by omega) hp⟩
  exact List.IsPrefix.trans (List.IsPrefix.trans (List.IsPrefix.trans (dO _ _) (dO _ _)) (List.IsPrefix.trans (dO _ _) (List.prefix_append _ _))) hp
 ·rw[if_neg (by decide),if_neg (by decide),if_neg (by decide)]at hp ho ⊢
  simp only[gY,Bool.and_eq_true,Bool.false_or,decide_eq_true_eq,true_and]at ho
  obtain⟨hg,hz,⟨rfl,rfl⟩,rfl,rfl⟩:=ho
  obtain rfl:=aKc hz
  have hg:=bS hg
  obtain⟨g,rfl⟩:∃ g:Nat,gen=g:=⟨gen.toNat,by omega⟩
  refine⟨4,rfl,by decide,?_,aPA (by omega) hp⟩
  exact List.IsPrefix.trans (dO _ _) hp
theorem aTK (b:aD):∃ n:Nat,bB b=n∧n≤100000:=by
 rw[qY]
 exact⟨(aIU b%251+251*(aIV b%251)).toNat,by omega,by omega⟩
theorem aKd {b:aD} {m:Msg} (ho:bT m=true) (hp:bZ m=b) (hl:b.length≤400):pS b=some m∧pI b=some m:=by
 unfold bZ at hp
 rw[if_pos ho]at hp
 obtain⟨w,hw,hw2⟩:=aTK (iL m)
 rw[hw]at hp
 have hpre:iL m <+: b:=by rw[← hp];exact dO _ _
 obtain⟨k,hk,hk4,h1,h2,h3⟩:=aSj ho hpre
 obtain⟨c,e1,l1⟩:=jM (p:=[]) (by omega) h1
 rw[l1,List.length_nil,Nat.zero_add]at h2 h3
 rw[List.length_nil]at e1
 obtain⟨d,e2,l2⟩:=jM (p:=iL m) (b:=b) (n:=w) (by omega) (by rw[hp];exact List.prefix_rfl)
 rw[hp]at l2
 constructor
 ·unfold pS
  rw[e1]
  simp only
  rw[if_pos hl,h2]
  simp only[aOd]
  rw[if_pos ho,e2]
  simp only
  have ht:b.take (iL m).length=iL m:=(List.prefix_iff_eq_take.mp hpre).symm
  rw[ht,if_pos ⟨l2.symm,hw.symm⟩]
 ·unfold pI
  rw[e1]
  simp only
  rw[if_pos hl,h3]
  simp only
  rw[if_pos ⟨ho,by unfold bZ;rw[if_pos ho,hw,hp]⟩]
theorem aSk {b:aD} {m:Msg} (h:pI b=some m):bT m=true∧bZ m=b∧b.length≤400:=by
 unfold pI at h
 cases h1:gV (b.drop 0) with
 |none=>rw[h1]at h;cases h
 |some p1 =>
  obtain⟨k,c⟩:=p1
  rw[h1]at h
  simp only at h
  split at h
  ·rename_i hl
   cases h2:gZ b c k with
   |none=>rw[h2]at h;cases h
   |some x =>
    rw[h2]at h
    simp only at h
    split at h
    ·rename_i hq
     cases h
     exact⟨hq.1,hq.2,hl⟩
    ·cases h
  ·cases h
theorem aVL (b:aD):pI b=pS b:=by
 cases h:pS b with
 |some m =>
  have e:=aHu h
  exact(aKd e.1 e.2.1 e.2.2).2
 |none =>
  cases h2:pI b with
  |none=>rfl
  |some m =>
   have e:=aSk h2
   rw[(aKd e.1 e.2.1 e.2.2).1]at h
   cases h
theorem aIa {E:aR} (J:Sys E) (b:aD) (hb:b.length≤1048576):E 323 [sv (aU b)]=some ([gv ((gM (pS b)).cs dH),bv (pS b).isSome],[]):=aHs J b hb
theorem aAv {E:aR} (J:Sys E) (b:aD) (hb:b.length≤1048576):E 329 [sv (aU b)]=some ([gv ((gM (pS b)).cs dH),bv (pS b).isSome],[]):=by
 rw[← aVL];exact aHr J b hb
theorem aDw {E:aR} (J:Sys E) (m:Man) (x:Bld) (i:Int) (a n:Nat) (ha:bP m.size m.len i=a) (hn:aX m.size m.len i=n) (hf:a+n≤x.buf.length) (hx:x.buf.length≤1048576):E 361 [gv (x.cs aO),gv (m.cs aO),iv i]=some ([.v false [.alias 0 1 a n]],[]):=by
 have a4:=aAp J m.size m.len i
 rw[ha,hn]at a4
 have hc:a+n≤(aU x.buf).length:=by rw[aJ];exact hf
 refine J.run rfl rfl fun W U=>?_
 conv=>lhs;whnf
 apply U.w (a4)
 conv=>lhs;whnf
 repeat((first|apply U.t|apply U.f|(apply U.q;exact aE));conv=>lhs;whnf)
 rw[show IntKind.i64.wrap ((a:Int)+(n:Int))=((a+n:Nat):Int) from(aI (by omega)).trans (by omega)]
 repeat((first|apply U.t|apply U.f|(apply U.q;exact aE));conv=>lhs;whnf)
 refine U.q (by exact⟨by omega,by rw[aJ];omega,bK _⟩) ?_
 conv=>lhs;whnf
 rw[show((a:Int).toNat)=a from by omega,show(((a+n:Nat):Int)).toNat-a=n from by omega]
 refine U.q (by exact hc) ?_
 conv=>lhs;whnf
 rfl
def mA (m:Man):Bld:=if aY m=true then⟨0,List.replicate m.len.toNat 0⟩ else⟨0,[]⟩
theorem aI3 {m:Man} (h:aY m=true):0≤m.len∧m.len≤240:=by
 unfold aY at h
 split at h
 ·simp[bX]at h;omega
 ·simp only[Bool.and_eq_true]at h
  obtain⟨_,h2,_⟩:=h
  have:=xP h2
  omega
theorem aFY {E:aR} (J:Sys E) (m:Man) (hm:m.sums.length≤1048576):E 368 [gv (m.cs aO)]=some ([gv ((mA m).cs dH)],[]):=by
 have a:=eH J m hm
 unfold mA
 cases h:aY m
 ·rw[h]at a
  refine J.run rfl rfl fun W U=>?_
  conv=>lhs;whnf
  repeat'((first|apply U.t|apply U.f|(apply U.q;exact aE)|apply U.w (a)|(apply U.b<;>intro h))<;>conv=>lhs;whnf)
  rfl
 ·rw[h]at a
  have hl:=aI3 h
  refine J.run rfl rfl fun W U=>?_
  conv=>lhs;whnf
  apply U.w (a)
  conv=>lhs;whnf
  repeat((first|apply U.t|apply U.f|(apply U.q;exact aE));conv=>lhs;whnf)
  refine U.q (by exact⟨by omega, .inl rfl,by omega,by omega,by omega,by decide,rfl⟩) ?_
  conv=>lhs;whnf
  simp only[if_true]
  rw[show(List.replicate m.len.toNat [T.int IntKind.u8 0])=aU (List.replicate m.len.toNat 0) from by simp[aU,nG]]
  rfl
def aNi (b:aD) (at_:Nat) (x:aD):aD:=b.take at_++x++b.drop (at_+x.length)
theorem aOf {b x:aD} {a:Nat} (h:a+x.length≤b.length):(aNi b a x).length=b.length:=by
 unfold aNi;simp;omega
theorem aI4 {b x:aD} {a k:Nat} (h:a+x.length≤b.length) (hk:k<x.length):aNi b a (x.take k)=(b.take a++x.take k)++b[a+k]::b.drop (a+k+1):=by
 unfold aNi
 rw[List.length_take,show min k x.length=k from by omega,List.drop_eq_getElem_cons (show a+k<b.length by omega)]
theorem aOg {b x:aD} {a k:Nat} (h:a+x.length≤b.length) (hk:k<x.length):(aU (aNi b a (x.take k)))[a+k]?=some (nG b[a+k]):=by
 have hl:(b.take a++x.take k).length=a+k:=by simp;omega
 rw[aI4 h hk,aU,List.getElem?_map,List.getElem?_append_right (by omega),hl,Nat.sub_self]
 rfl
theorem aTL {b x:aD} {a k:Nat} (h:a+x.length≤b.length) (hk:k<x.length):(aU (aNi b a (x.take k))).set (a+k) (nG x[k])=aU (aNi b a (x.take (k+1))):=by
 have hl:(b.take a++x.take k).length=a+k:=by simp;omega
 rw[aU,← List.map_set,aI4 h hk,List.set_append,if_neg (by omega),hl,Nat.sub_self,List.set_cons_zero]
 unfold aU aNi
 congr 1
 rw[List.length_take,show min (k+1) x.length=k+1 from by omega,show x.take (k+1)=x.take k++[x[k]] from by rw[List.take_add_one,List.getElem?_eq_getElem hk];rfl,Nat.add_assoc]
 simp only[List.append_assoc,List.singleton_append]
theorem aTM {b x:aD} {a:Nat}:aNi b a (x.take x.length)=aNi b a x:=by rw[List.take_length]
theorem aTN {b x:aD} {a:Nat} (h:a≤b.length):aNi b a (x.take 0)=b:=by simp[aNi]
def aHx (m:Man) (x:Bld) (i:Nat) (b:aD):Bld:=⟨aFE x.hav (aEx i),aNi x.buf (bP m.size m.len i).toNat b⟩
theorem aDx {E:aR} (J:Sys E) (m:Man) (x:Bld) (i:Nat) (b:aD) (hm:m.sums.length≤1048576) (hi:i<m.sums.length) (h40:i<40) (hs:bG x.hav=true) (hin:eL x.hav i=false) (hb:bI b=m.sums[i]) (hbl:b.length≤6) (hat:0≤bP m.size m.len i) (hfit:bP m.size m.len i+b.length≤x.buf.length) (hx:x.buf.length≤1048576):E 369 [gv (m.cs aO), .pt true (x.cs dH),iv i,sv (aU b)]=some ([bv true],(aHx m x i b).cs dH):=by
 have hrl:(m.sums.map Sum.row).length=m.sums.length:=List.length_map _
 have a1:=bR J i 0 ((m.sums.length:Int)-1)
 rw[show aW i 0 ((m.sums.length:Int)-1)=true from by simp[aW];omega]at a1
 have a2:=eG J x.hav i
 rw[hin]at a2
 have a3:=fE J b (by omega)
 have a4:=eN J m.size m.len i
 have a5:=sD J x.hav i
 rw[show lZ x.hav i=aFE x.hav (aEx i) from by unfold lZ;rw[if_pos ⟨hs,by simp[aW];omega⟩]]at a5
 refine J.run rfl rfl fun W U=>?_
 conv=>lhs;whnf
 rw[hrl,show IntKind.i64.wrap ((m.sums.length:Int)-1)=(m.sums.length:Int)-1 from aI (by omega)]
 apply U.w (a1)
 conv=>lhs;whnf
 repeat((first|apply U.t|apply U.f|(apply U.q;exact aE));conv=>lhs;whnf)
 apply U.w (a2)
 conv=>lhs;whnf
 repeat((first|apply U.t|apply U.f|(apply U.q;exact aE));conv=>lhs;whnf)
 repeat((first|apply U.t|apply U.f|(apply U.q;exact aE)|(refine U.w (cG ?_) ?_;omega));conv=>lhs;whnf)
 apply U.w (a3)
 conv=>lhs;whnf
 repeat((first|apply U.t|apply U.f|(apply U.q;exact aE));conv=>lhs;whnf)
 apply U.bf (by rw[hb];simp)
 conv=>lhs;whnf
 repeat((first|apply U.t|apply U.f|(apply U.q;exact aE));conv=>lhs;whnf)
 rw[bO]
 apply U.bf (by simp;omega)
 conv=>lhs;whnf
 apply U.w (a4)
 conv=>lhs;whnf
 repeat((first|apply U.t|apply U.f|(apply U.q;exact aE));conv=>lhs;whnf)
 obtain⟨a,ha⟩:∃ a:Nat,bP m.size m.len i=a:=⟨(bP m.size m.len i).toNat,by omega⟩
 have hfit':a+b.length≤x.buf.length:=by omega
 unfold aHx
 rw[ha,show((a:Int).toNat)=a from by omega]
 refine U.loop (σ:=Nat) (γ:=Nat) (fun i s=>(s.sl 11 (v1 (.t (.int .i64 i)))).bl ⟨101,1, .own,aU (aNi x.buf a (b.take i))⟩) (fun i k=>i=k∧k≤b.length) (fun k=>b.length-k) (fun _=>([bv true],Bld.cs dH ⟨aFE x.hav (aEx i),aNi x.buf a b⟩)) 0 0 ?_ ?_ ?_ ?_
 ·intro K
  conv=>lhs;whnf
  conv=>rhs;whnf
  try rfl
  rw[aTN (by omega)]
  rfl
 ·exact⟨rfl,by omega⟩
 ·rintro kl k _ ⟨rfl,hk⟩ ih
  conv=>lhs;whnf
  rw[bO]
  apply U.b<;>intro g1<;>conv=>lhs;whnf
  ·have g1:k<b.length:=by simpa using g1
   repeat((first|apply U.t|apply U.f|(apply U.q;exact aE)|(refine U.w (cG ?_) ?_;omega));conv=>lhs;whnf)
   rw[show IntKind.i64.wrap ((a:Int)+(k:Int))=((a+k:Nat):Int) from(aI (by omega)).trans (by omega)]
   repeat((first|apply U.t|apply U.f|(apply U.q;exact aE));conv=>lhs;whnf)
   apply U.w (aOg hfit' g1)
   conv=>lhs;whnf
   repeat((first|apply U.t|apply U.f|(apply U.q;exact aE));conv=>lhs;whnf)
   apply U.w (aOg hfit' g1)
   conv=>lhs;whnf
   repeat((first|apply U.t|apply U.f|(apply U.q;exact aE));conv=>lhs;whnf)
   refine ih (k+1) (k+1) _ ?_ ⟨rfl,by omega⟩ (by omega)
   intro K
   conv=>lhs;whnf
   conv=>rhs;whnf
   try rfl
   rw[show IntKind.i64.wrap ((k:Int)+1)=_ from aK (by omega),← aTL hfit' g1]
   rfl
  ·have:k=b.length:=by simp at g1;omega
   subst this
   apply U.w (a5)
   conv=>lhs;whnf
   repeat((first|apply U.t|apply U.f|(apply U.q;exact aE));conv=>lhs;whnf)
   rw[aTM]
   rfl
 ·rfl
def aA8 (m:Man) (old:aD) (i:Nat):aD:=(old.drop (cR old m i).toNat).take (aX m.size m.len i).toNat
def aHy (m:Man) (old:aD) (x:Bld) (i:Nat):Bld:=if 0≤cR old m i then aHx m x i (aA8 m old i) else x
def aKe (m:Man) (old:aD):Nat→Bld
 |0=>mA m
 |k+1=>aHy m old (aKe m old k) k
def fF (m:Man) (old:aD):Bld:=if aY m=true then aKe m old m.sums.length else mA m
theorem iW {m:Man} (h:aY m=true):m.sums.length≤40∧0≤m.len∧m.len≤240:=by
 have hl:=aI3 h
 refine⟨?_,hl⟩
 unfold aY at h
 split at h
 ·have h3:m.sums.length=0:=by simp[bX]at h;simp[h]
  omega
 ·simp only[Bool.and_eq_true,decide_eq_true_eq]at h
  obtain⟨_,h2,h3,_⟩:=h
  have:=(mV h2).2.2
  omega
structure BldIn (m:Man) (k:Nat) (x:Bld):Prop where
 hav:∃ h:Nat,x.hav=h∧h<2 ^ k
 len:(x.buf.length:Int)=m.len
theorem aI5 {m:Man} {old:aD} {k:Nat} (hk:k<m.sums.length) (hp:0≤cR old m k) :
 (aA8 m old k).length=(aX m.size m.len k).toNat∧bI (aA8 m old k)=m.sums[k]∧1≤aX m.size m.len k∧aX m.size m.len k≤6∧cR old m k+aX m.size m.len k≤old.length:=by
 obtain⟨a,ha⟩:∃ a:Nat,cR old m k=a:=⟨(cR old m k).toNat,by omega⟩
 obtain⟨h1,h2,h3,h4⟩:=aNh hk ha
 unfold aA8
 rw[ha,show((a:Int).toNat)=a from by omega]
 refine⟨?_,h4,h1,h2,h3⟩
 rw[List.length_take,List.length_drop]
 omega
theorem aU9 {m:Man} {k:Nat} {x:Bld} {b:aD} (h40:k<40) (h:BldIn m k x) (hb:(b.length:Int)=aX m.size m.len k) (h1:1≤aX m.size m.len k):BldIn m (k+1) (aHx m x k b):=by
 obtain⟨⟨n,hn,hlt⟩,hl⟩:=h
 have hp:2 ^ k≤2 ^ 39:=Nat.pow_le_pow_right (by decide) (by omega)
 have hp2:(2:Nat) ^ 39=549755813888:=by decide
 have hs:=jJ (size:=m.size) (n:=m.len) (i:=k)
 refine⟨⟨n ||| 2 ^ k,?_,Nat.or_lt_two_pow (by rw[Nat.pow_succ];omega) (by rw[Nat.pow_succ];have:=Nat.one_le_two_pow (n:=k);omega)⟩,?_⟩
 ·unfold aHx
  simp only
  rw[hn,(aJ6 (by omega)).1]
  exact(oA (by omega) (by omega)).1
 ·unfold aHx
  simp only
  rw[aOf (by omega)]
  exact hl
theorem BldIn.up {m:Man} {k:Nat} {x:Bld} (h:BldIn m k x):BldIn m (k+1) x:=by
 obtain⟨⟨n,hn,hlt⟩,hl⟩:=h
 exact⟨⟨n,hn,by rw[Nat.pow_succ];omega⟩,hl⟩
theorem aOh {m:Man} {old:aD} (hm:aY m=true) {k:Nat} (hk:k≤m.sums.length):BldIn m k (aKe m old k):=by
 have hc:=iW hm
 induction k with
 |zero =>
  simp only[aKe,mA,if_pos hm]
  exact⟨⟨0,rfl,by decide⟩,by simp;omega⟩
 |succ k ih =>
  simp only[aKe,aHy]
  split
  ·rename_i hp
   have:=aI5 (by omega) hp
   exact aU9 (by omega) (ih (by omega)) (by omega) (by omega)
  ·exact(ih (by omega)).up
theorem BldIn.facts {m:Man} {k:Nat} {x:Bld} (hk:k<40) (h:BldIn m k x) (hs:1≤aX m.size m.len k):bG x.hav=true∧eL x.hav k=false∧0≤bP m.size m.len k∧bP m.size m.len k+aX m.size m.len k≤x.buf.length∧x.buf.length≤1048576:=by
 obtain⟨⟨n,hn,hlt⟩,hl⟩:=h
 have hp:2 ^ k≤2 ^ 39:=Nat.pow_le_pow_right (by decide) (by omega)
 have hp2:(2:Nat) ^ 39=549755813888:=by decide
 have hs:=jJ (size:=m.size) (n:=m.len) (i:=k)
 rw[hn]
 refine⟨by simp only[bG,aW,Bool.and_eq_true,decide_eq_true_eq];omega,?_,by omega,by omega,by omega⟩
 rw[aI2 (by omega) hk]
 exact Nat.testBit_lt_two_pow hlt
theorem kP {E:aR} (J:Sys E) (m:Man) (old:aD) (h0:m.sums.length≤1048576) (ho:old.length≤1048576):E 367 [gv (m.cs aO),sv (aU old)]=some ([gv ((fF m old).cs dH)],[]):=by
 have a1:=aFY J m h0
 have a2:=eH J m h0
 have hrl:(m.sums.map Sum.row).length=m.sums.length:=List.length_map _
 unfold fF
 cases hm:aY m
 ·rw[hm]at a2
  refine J.run rfl rfl fun W U=>?_
  conv=>lhs;whnf
  repeat'((first|apply U.t|apply U.f|(apply U.q;exact aE)|apply U.w (a1)|apply U.w (a2)|(apply U.b<;>intro h))<;>conv=>lhs;whnf)
  rfl
 ·rw[hm]at a2
  have hc:=iW hm
  refine J.run rfl rfl fun W U=>?_
  conv=>lhs;whnf
  repeat'((first|apply U.t|apply U.f|(apply U.q;exact aE)|apply U.w (a1)|apply U.w (a2)|(apply U.b<;>intro h))<;>conv=>lhs;whnf)
  refine U.loop (σ:=Nat × Bld) (γ:=Nat) (fun i s=>((s.sl 6 (v1 (.t (.int .i64 i.1)))).sl 5 (.box true [.t (.int .i64 i.2.hav), .blk 50501])).bl ⟨50501,1, .own,aU i.2.buf⟩) (fun i k=>i.1=k∧k≤m.sums.length∧i.2=aKe m old k) (fun k=>m.sums.length-k) (fun _=>([gv ((aKe m old m.sums.length).cs dH)],[])) (0,mA m) 0 ?_ ?_ ?_ ?_
  ·intro K
   conv=>lhs;whnf
   conv=>rhs;whnf
   try rfl
  ·exact⟨rfl,by omega,rfl⟩
  ·rintro kl ⟨i,x⟩ k ⟨e1,hk,e2⟩ ih
   simp only at e1 e2 hk
   subst e1
   have hx:=aOh (old:=old) hm hk
   rw[← e2]at hx
   conv=>lhs;whnf
   rw[hrl]
   apply U.b<;>intro g1<;>conv=>lhs;whnf
   ·have g1:i<m.sums.length:=by simpa using g1
    have e3:aKe m old (i+1)=aHy m old x i:=by rw[aKe,← e2]
    apply U.w (aHh J old m i ho (by omega))
    conv=>lhs;whnf
    repeat((first|apply U.t|apply U.f|(apply U.q;exact aE));conv=>lhs;whnf)
    apply U.w (eN J m.size m.len i)
    conv=>lhs;whnf
    repeat((first|apply U.t|apply U.f|(apply U.q;exact aE));conv=>lhs;whnf)
    apply U.b<;>intro g2<;>conv=>lhs;whnf
    ·have g2:0≤cR old m i:=by simpa using g2
     obtain⟨b1,b2,b3,b4,b5⟩:=aI5 g1 g2
     obtain⟨f1,f2,f3,f4,f5⟩:=hx.facts (by omega) b3
     refine U.q (by exact g2) ?_
     conv=>lhs;whnf
     rw[show IntKind.i64.wrap (cR old m i+aX m.size m.len i)=cR old m i+aX m.size m.len i from aI (by omega)]
     refine U.q (by omega) ?_
     conv=>lhs;whnf
     refine U.q (by exact⟨by omega,by rw[aJ];omega,bK _⟩) ?_
     conv=>lhs;whnf
     rw[show(cR old m i+aX m.size m.len i).toNat-(cR old m i).toNat=(aX m.size m.len i).toNat from by omega]
     repeat((first|apply U.t|apply U.f|(apply U.q;exact aE));conv=>lhs;whnf)
     rw[show((aU old).drop (cR old m i).toNat).take (aX m.size m.len i).toNat=aU (aA8 m old i) from jK _ _ _]
     apply U.w (aDx J m x i (aA8 m old i) h0 g1 (by omega) f1 f2 b2 (by omega) f3 (by omega) f5)
     conv=>lhs;whnf
     repeat((first|apply U.t|apply U.f|(apply U.q;exact aE));conv=>lhs;whnf)
     refine ih (i+1,aHx m x i (aA8 m old i)) (i+1) _ ?_ ⟨rfl,by omega,by rw[e3,aHy,if_pos g2]⟩ (by omega)
     intro K
     conv=>lhs;whnf
     conv=>rhs;whnf
     try rfl
     try rw[show IntKind.i64.wrap ((i:Int)+1)=_ from aK (by omega)]
     try rfl
    ·have g2:¬ 0≤cR old m i:=by simpa using g2
     refine ih (i+1,x) (i+1) _ ?_ ⟨rfl,by omega,by rw[e3,aHy,if_neg g2]⟩ (by omega)
     intro K
     conv=>lhs;whnf
     conv=>rhs;whnf
     try rfl
     rw[show IntKind.i64.wrap ((i:Int)+1)=_ from aK (by omega)]
     try rfl
   ·have:i=m.sums.length:=by simp at g1;omega
    subst this
    subst e2
    rfl
  ·rfl
def aLQ:Node:=⟨false,0,0,⟨0,0,0,[]⟩,⟨0,[]⟩,0,[],0⟩
def pU (m:Man) (b:aD):Node:=if m.gen=0 then aLQ else if aY m=false then aLQ else if aHd m b=false then aLQ else⟨true,-1,0,m,fF m b,6,[],0⟩
theorem aSl {a b:Int} (h:a=b):decide (a=b)=true:=decide_eq_true h
theorem wJ {a b:Int} (h:¬ a=b):decide (a=b)=false:=decide_eq_false h
theorem aPB {E:aR} (J:Sys E) (x:Man) (h0:x.sums.length≤8388608):E 213 [gv (x.cs aO)]=some ([gv (x.cs dH)],[]):=aAn J x h0
theorem aFZ {E:aR} (J:Sys E) (m:Man) (b:aD) (hm:m.lim 1048576) (hb:b.length≤1048576):E 365 [gv (m.cs aO),sv (aU b)]=some ([gv ((pU m b).cs dH)],[]):=by
 have h0:m.sums.length≤1048576:=hm
 have a1:=eH J m h0
 have a2:=aJ4 J m b hb
 have a3:=aPB J m (by omega)
 have a4:=kP J m b h0 hb
 unfold pU
 by_cases h1:m.gen=0
 ·rw[if_pos h1]
  refine J.run rfl rfl fun W U=>?_
  conv=>lhs;whnf
  repeat'((first|with_reducible apply U.bt (aSl h1)|apply U.t|apply U.f|(apply U.q;exact aE)|(apply U.b<;>intro h))<;>conv=>lhs;whnf)
  rfl
 ·rw[if_neg h1]
  cases h2:aY m
  ·rw[h2]at a1
   refine J.run rfl rfl fun W U=>?_
   conv=>lhs;whnf
   repeat'((first|with_reducible apply U.bf (wJ h1)|apply U.t|apply U.f|(apply U.q;exact aE)|apply U.w (a1)|(apply U.b<;>intro h))<;>conv=>lhs;whnf)
   rfl
  ·rw[h2]at a1
   cases h3:aHd m b
   ·rw[h3]at a2
    refine J.run rfl rfl fun W U=>?_
    conv=>lhs;whnf
    repeat'((first|with_reducible apply U.bf (wJ h1)|apply U.t|apply U.f|(apply U.q;exact aE)|apply U.w (a1)|apply U.w (a2)|(apply U.b<;>intro h))<;>conv=>lhs;whnf)
    rfl
   ·rw[h3]at a2
    refine J.run rfl rfl fun W U=>?_
    conv=>lhs;whnf
    repeat'((first|with_reducible apply U.bf (wJ h1)|apply U.t|apply U.f|(apply U.q;exact aE)|apply U.w (a1)|apply U.w (a2)|apply U.w (a3)|apply U.w (a4)|(apply U.b<;>intro h))<;>conv=>lhs;whnf)
    rfl
def aHz (b:aD):Bool:=match pS b with|some m=>decide (m.kind=3)|none=>false
def aA9:List Pkt→Int→Int
 |[],n=>n
 |x::r,n=>if aHz x.b=true then aA9 r (IntKind.i64.wrap (n+1)) else aA9 r n
def eI (l:List Pkt):Int:=aA9 l 0
theorem aBa {E:aR} (J:Sys E) {o:Bool} (l:List Pkt) (h:vW (fun B=>Pkt.lim B) 1048576 l):E 321 [sv (l.map (Pkt.row o))]=some ([iv (eI l)],[]):=by
 have hrl:(l.map (Pkt.row o)).length=l.length:=List.length_map _
 have h0:=h.1
 unfold eI
 refine J.run rfl rfl fun W U=>?_
 conv=>lhs;whnf
 refine U.loop (σ:=Nat × Int) (γ:=Nat) (fun i s=>(s.sl 4 (v1 (.t (.int .i64 i.1)))).sl 3 (v1 (.t (.int .i64 i.2)))) (fun i n=>i.1=n∧n≤l.length∧aA9 (l.drop n) i.2=aA9 l 0) (fun n=>l.length-n) (fun _=>([iv (aA9 l 0)],[])) (0,0) 0 ?_ ?_ ?_ ?_
 ·intro K
  conv=>lhs;whnf
  conv=>rhs;whnf
  try rfl
 ·exact⟨rfl,by omega,rfl⟩
 ·rintro kl ⟨n,c⟩ _ ⟨rfl,hn,hs⟩ ih
  simp only at hn hs
  conv=>lhs;whnf
  apply U.b<;>intro g1<;>conv=>lhs;whnf
  ·have g1:n<l.length:=by simpa[hrl] using g1
   rw[List.drop_eq_getElem_cons g1,aA9]at hs
   repeat((first|apply U.t|apply U.f|(apply U.q;exact aE)|(refine U.w (cG ?_) ?_;omega));conv=>lhs;whnf)
   apply U.w (aIa J l[n].b (h.2 _ (List.getElem_mem g1)))
   conv=>lhs;whnf
   try(apply U.q;exact aE;conv=>lhs;whnf)
   unfold aHz at hs
   cases hp:pS l[n].b with
   |none =>
    rw[hp]at hs
    simp only[Bool.false_eq_true,if_false]at hs
    repeat((first|apply U.t|apply U.f|(apply U.q;exact aE));conv=>lhs;whnf)
    refine ih (n+1,c) (n+1) _ ?_ ⟨rfl,by omega,hs⟩ (by omega)
    intro K
    conv=>lhs;whnf
    conv=>rhs;whnf
    try rfl
    rw[show IntKind.i64.wrap ((n:Int)+1)=_ from aK (by omega)]
    try rfl
   |some m =>
    rw[hp]at hs
    simp only at hs
    repeat((first|apply U.t|apply U.f|(apply U.q;exact aE));conv=>lhs;whnf)
    apply U.b<;>intro g2<;>conv=>lhs;whnf
    ·rw[if_pos (show decide (m.kind=3)=true from g2)]at hs
     refine ih (n+1,IntKind.i64.wrap (c+1)) (n+1) _ ?_ ⟨rfl,by omega,hs⟩ (by omega)
     intro K
     conv=>lhs;whnf
     conv=>rhs;whnf
     try rfl
     rw[show IntKind.i64.wrap ((n:Int)+1)=_ from aK (by omega)]
     try rfl
    ·rw[if_neg (show ¬ decide (m.kind=3)=true from by have g2:decide (m.kind=3)=false:=g2;rw[g2];decide)]at hs
     refine ih (n+1,c) (n+1) _ ?_ ⟨rfl,by omega,hs⟩ (by omega)
     intro K
     conv=>lhs;whnf
     conv=>rhs;whnf
     try rfl
     rw[show IntKind.i64.wrap ((n:Int)+1)=_ from aK (by omega)]
     try rfl
  ·have:n=l.length:=by simp[hrl]at g1;omega
   subst this
   rw[List.drop_length,aA9]at hs
   rw[← hs]
   rfl
 ·rfl
theorem nA {E:aR} (J:Sys E) {o:Bool} (l:List Pkt) (h:vW (fun B=>Pkt.lim B) 1048576 l):E 322 [sv (l.map (Pkt.row o))]=some ([iv (eI l)],[]):=by
 have hrl:(l.map (Pkt.row o)).length=l.length:=List.length_map _
 have h0:=h.1
 unfold eI
 refine J.run rfl rfl fun W U=>?_
 conv=>lhs;whnf
 refine U.loop (σ:=Nat × Int) (γ:=Nat) (fun i s=>(s.sl 10 (v1 (.t (.int .i64 i.1)))).sl 3 (v1 (.t (.int .i64 i.2)))) (fun i n=>i.1=n∧n≤l.length∧aA9 (l.drop n) i.2=aA9 l 0) (fun n=>l.length-n) (fun _=>([iv (aA9 l 0)],[])) (0,0) 0 ?_ ?_ ?_ ?_
 ·intro K
  conv=>lhs;whnf
  conv=>rhs;whnf
  try rfl
 ·exact⟨rfl,by omega,rfl⟩
 ·rintro kl ⟨n,c⟩ _ ⟨rfl,hn,hs⟩ ih
  simp only at hn hs
  conv=>lhs;whnf
  apply U.b<;>intro g1<;>conv=>lhs;whnf
  ·have g1:n<l.length:=by simpa[hrl] using g1
   rw[List.drop_eq_getElem_cons g1,aA9]at hs
   repeat((first|apply U.t|apply U.f|(apply U.q;exact aE)|(refine U.w (cG ?_) ?_;omega));conv=>lhs;whnf)
   apply U.w (aAv J l[n].b (h.2 _ (List.getElem_mem g1)))
   conv=>lhs;whnf
   try(apply U.q;exact aE;conv=>lhs;whnf)
   unfold aHz at hs
   cases hp:pS l[n].b with
   |none =>
    rw[hp]at hs
    simp only[Bool.false_eq_true,if_false]at hs
    repeat((first|apply U.t|apply U.f|(apply U.q;exact aE));conv=>lhs;whnf)
    refine ih (n+1,c) (n+1) _ ?_ ⟨rfl,by omega,hs⟩ (by omega)
    intro K
    conv=>lhs;whnf
    conv=>rhs;whnf
    try rfl
    rw[show IntKind.i64.wrap ((n:Int)+1)=_ from aK (by omega)]
    try rfl
   |some m =>
    rw[hp]at hs
    simp only at hs
    repeat((first|apply U.t|apply U.f|(apply U.q;exact aE));conv=>lhs;whnf)
    apply U.b<;>intro g2<;>conv=>lhs;whnf
    ·rw[if_pos (show decide (m.kind=3)=true from g2)]at hs
     refine ih (n+1,IntKind.i64.wrap (c+1)) (n+1) _ ?_ ⟨rfl,by omega,hs⟩ (by omega)
     intro K
     conv=>lhs;whnf
     conv=>rhs;whnf
     try rfl
     rw[show IntKind.i64.wrap ((n:Int)+1)=_ from aK (by omega)]
     try rfl
    ·rw[if_neg (show ¬ decide (m.kind=3)=true from by have g2:decide (m.kind=3)=false:=g2;rw[g2];decide)]at hs
     refine ih (n+1,c) (n+1) _ ?_ ⟨rfl,by omega,hs⟩ (by omega)
     intro K
     conv=>lhs;whnf
     conv=>rhs;whnf
     try rfl
     rw[show IntKind.i64.wrap ((n:Int)+1)=_ from aK (by omega)]
     try rfl
  ·have:n=l.length:=by simp[hrl]at g1;omega
   subst this
   rw[List.drop_length,aA9]at hs
   rw[← hs]
   rfl
 ·rfl
theorem aTO {a b:Int} (h:a=b):(!decide (a=b))=false:=by simp[h]
theorem aVM {a b:Int} (h:¬ a=b):(!decide (a=b))=true:=by simp[h]
theorem aHA {E:aR} (J:Sys E) (m:Man) (x:Bld) (hm:m.sums.length≤1048576) (hx:x.buf.length≤1048576):E 360 [gv (m.cs aO),gv (x.cs aO)]=some ([bv (lC m x)],[]):=by
 have a1:=lS J m hm
 have a2:=dD J x.hav
 have a3:=aFG J m
 have hrl:(m.sums.map Sum.row).length=m.sums.length:=List.length_map _
 unfold lC
 cases h1:aY m
 ·rw[h1]at a1
  refine J.run rfl rfl fun W U=>?_
  conv=>lhs;whnf
  repeat'((first|apply U.t|apply U.f|(apply U.q;exact aE)|apply U.w (a1)|(apply U.b<;>intro h))<;>conv=>lhs;whnf)
  rfl
 ·rw[h1]at a1
  cases h2:bG x.hav
  ·rw[h2]at a2
   refine J.run rfl rfl fun W U=>?_
   conv=>lhs;whnf
   repeat'((first|apply U.t|apply U.f|(apply U.q;exact aE)|apply U.w (a1)|apply U.w (a2)|(apply U.b<;>intro h))<;>conv=>lhs;whnf)
   rfl
  ·rw[h2]at a2
   have h3w:∀ b,mU x.hav (dC m)=b→IntKind.i64.wrap (BitVec.ofInt IntKind.i64.bits x.hav &&& ~~~BitVec.ofInt IntKind.i64.bits (dC m)).toNat=b:=fun _ h=>h
   by_cases h3:mU x.hav (dC m)=0
   ·by_cases h4:(x.buf.length:Int)=m.len
    ·have h4':((aU x.buf).length:Int)=m.len:=by rw[bO];exact h4
     rw[decide_eq_true h3,decide_eq_true h4]
     simp only[Bool.true_and]
     refine J.run rfl rfl fun W U=>?_
     conv=>lhs;whnf
     repeat'((first|with_reducible apply U.bf (aVl (h3w 0 h3))|with_reducible apply U.bf (aVl h4')|apply U.t|apply U.f|(apply U.q;exact aE)|apply U.w (a1)|apply U.w (a2)|apply U.w (a3)|(apply U.b<;>intro h))<;>conv=>lhs;whnf)
     rw[hrl]
     refine U.loop (σ:=Nat) (γ:=Nat) (fun i s=>s.sl 36 (v1 (.t (.int .i64 i)))) (fun i k=>i=k∧k≤m.sums.length) (fun k=>m.sums.length-k) (fun k=>([bv (aPv m x k (m.sums.drop k))],[])) 0 0 ?_ ?_ ?_ ?_
     ·intro K
      conv=>lhs;whnf
      conv=>rhs;whnf
      try rfl
     ·exact⟨rfl,by omega⟩
     ·rintro kl n _ ⟨rfl,hn⟩ ih
      conv=>lhs;whnf
      apply U.b<;>intro g1<;>conv=>lhs;whnf
      ·have g1:n<m.sums.length:=by simpa using g1
       have hs:=jJ (size:=m.size) (n:=m.len) (i:=n)
       have hk:eR x.buf m.size n=(x.buf.drop (bP m.size m.len n).toNat).take (aX m.size m.len n).toNat:=by unfold eR;rw[h4]
       have hkl:=pN x.buf m.size n
       rw[List.drop_eq_getElem_cons g1,aPv,aSh]
       obtain⟨a,ha⟩:∃ a:Nat,bP m.size m.len n=a:=⟨(bP m.size m.len n).toNat,by omega⟩
       obtain⟨w,hw⟩:∃ w:Nat,aX m.size m.len n=w:=⟨(aX m.size m.len n).toNat,by omega⟩
       have hc:((aU x.buf).drop a).take w=aU (eR x.buf m.size n):=by
        rw[jK,hk,ha,hw]
        rfl
       repeat((first|apply U.t|apply U.f|(apply U.q;exact aE)|(refine U.w (cG ?_) ?_;omega));conv=>lhs;whnf)
       apply U.w (aDw J m x n a w ha hw (by omega) hx)
       conv=>lhs;whnf
       repeat((first|apply U.t|apply U.f|(apply U.q;exact aE));conv=>lhs;whnf)
       apply U.w (fD J x.hav n)
       conv=>lhs;whnf
       repeat((first|apply U.t|apply U.f|(apply U.q;exact aE));conv=>lhs;whnf)
       apply U.b<;>intro gi<;>conv=>lhs;whnf
       ·rw[if_pos gi]
        repeat((first|apply U.t|apply U.f|(apply U.q;exact aE)|(refine U.w (cG ?_) ?_;omega));conv=>lhs;whnf)
        rw[hc]
        apply U.w (aDp J (eR x.buf m.size n) (by omega))
        conv=>lhs;whnf
        repeat((first|apply U.t|apply U.f|(apply U.q;exact aE));conv=>lhs;whnf)
        apply U.b<;>intro g4<;>conv=>lhs;whnf
        ·have g4:¬ bI (eR x.buf m.size n)=m.sums[n]:=by intro e;rw[e]at g4;simp at g4
         rw[decide_eq_false g4]
         repeat((first|apply U.t|apply U.f|(apply U.q;exact aE));conv=>lhs;whnf)
         rfl
        ·have g4:bI (eR x.buf m.size n)=m.sums[n]:=by
          revert g4
          generalize bI (eR x.buf m.size n)=y
          generalize m.sums[n]=z
          cases y;cases z
          simp
         rw[decide_eq_true g4]
         simp only[Bool.true_and]
         repeat((first|apply U.t|apply U.f|(apply U.q;exact aE));conv=>lhs;whnf)
         apply U.w (fD J x.hav n)
         conv=>lhs;whnf
         repeat((first|apply U.t|apply U.f|(apply U.q;exact aE));conv=>lhs;whnf)
         rw[gi]
         repeat((first|apply U.t|apply U.f|(apply U.q;exact aE));conv=>lhs;whnf)
         refine ih (n+1) (n+1) _ ?_ ⟨rfl,by omega⟩ (by omega)
         intro K
         conv=>lhs;whnf
         conv=>rhs;whnf
         try rfl
         rw[show IntKind.i64.wrap ((n:Int)+1)=_ from aK (by omega)]
         try rfl
       ·rw[if_neg (by rw[gi];decide)]
        repeat((first|apply U.t|apply U.f|(apply U.q;exact aE));conv=>lhs;whnf)
        apply U.w (fD J x.hav n)
        conv=>lhs;whnf
        repeat((first|apply U.t|apply U.f|(apply U.q;exact aE));conv=>lhs;whnf)
        rw[gi]
        repeat((first|apply U.t|apply U.f|(apply U.q;exact aE));conv=>lhs;whnf)
        rw[hc]
        apply U.w (yM J (eR x.buf m.size n) (by omega))
        conv=>lhs;whnf
        repeat((first|apply U.t|apply U.f|(apply U.q;exact aE));conv=>lhs;whnf)
        apply U.b<;>intro g5<;>conv=>lhs;whnf
        ·rw[mS g5]
         rfl
        ·rw[iV g5]
         simp only[Bool.true_and]
         refine ih (n+1) (n+1) _ ?_ ⟨rfl,by omega⟩ (by omega)
         intro K
         conv=>lhs;whnf
         conv=>rhs;whnf
         try rfl
         rw[show IntKind.i64.wrap ((n:Int)+1)=_ from aK (by omega)]
         try rfl
      ·have:n=m.sums.length:=by simp at g1;omega
       rw[this,List.drop_length]
       rfl
     ·rfl
    ·have h4':¬ ((aU x.buf).length:Int)=m.len:=by rw[bO];exact h4
     rw[decide_eq_true h3,decide_eq_false h4]
     refine J.run rfl rfl fun W U=>?_
     conv=>lhs;whnf
     repeat'((first|with_reducible apply U.bf (aVl (h3w 0 h3))|with_reducible apply U.bt (aVX h4')|apply U.t|apply U.f|(apply U.q;exact aE)|apply U.w (a1)|apply U.w (a2)|apply U.w (a3)|(apply U.b<;>intro h))<;>conv=>lhs;whnf)
     rfl
   ·have h3n:¬ IntKind.i64.wrap (BitVec.ofInt IntKind.i64.bits x.hav &&& ~~~BitVec.ofInt IntKind.i64.bits (dC m)).toNat=0:=h3
    rw[decide_eq_false h3]
    refine J.run rfl rfl fun W U=>?_
    conv=>lhs;whnf
    repeat'((first|with_reducible apply U.bt (aVX h3n)|apply U.t|apply U.f|(apply U.q;exact aE)|apply U.w (a1)|apply U.w (a2)|apply U.w (a3)|(apply U.b<;>intro h))<;>conv=>lhs;whnf)
    rfl
def aSm (a b:Int):Int:=IntKind.i64.wrap (BitVec.ofInt IntKind.i64.bits a &&& BitVec.ofInt IntKind.i64.bits b).toNat
def dE (l:List Kid) (id have_:Int):Int :=
 match l[(eQ l id).toNat]? with
 |none=>0
 |some x=>if eQ l id<0∨bG have_=false∨bG x.want=false∨bG x.sent=false then 0 else mU (aSm x.want have_) x.sent
theorem wK {l:List Kid} {id h:Int} (hk:eQ l id<0):dE l id h=0:=by
 unfold dE;split
 ·rfl
 ·rw[if_pos (.inl hk)]
theorem aBb {l:List Kid} {id h:Int} {n:Nat} (hn:n<l.length) (hk:eQ l id=n):dE l id h=if bG h=false∨bG l[n].want=false∨bG l[n].sent=false then 0 else mU (aSm l[n].want h) l[n].sent:=by
 unfold dE
 rw[hk,Int.toNat_natCast,List.getElem?_eq_getElem hn]
 simp only[show ¬ ((n:Int)<0) from by omega,false_or]
theorem aAw {E:aR} (J:Sys E) (l:List Kid) (id h:Int) (h0:l.length≤1099511627776):E 291 [sv (l.map Kid.row),iv id,iv h]=some ([iv (dE l id h)],[]):=by
 refine J.run rfl rfl fun W U=>?_
 conv=>lhs;whnf
 apply U.w (qV J l id h0)
 conv=>lhs;whnf
 repeat((first|apply U.t|apply U.f|(apply U.q;exact aE));conv=>lhs;whnf)
 apply U.b<;>intro h1<;>conv=>lhs;whnf
 ·have h1:eQ l id<0:=by simpa using h1
  rw[wK h1]
  repeat((first|apply U.t|apply U.f|(apply U.q;exact aE));conv=>lhs;whnf)
  rfl
 ·obtain⟨n,hn,hk⟩:=mR (l:=l) (id:=id) (by simpa using h1)
  rw[aBb hn hk,hk]
  repeat((first|apply U.t|apply U.f|(apply U.q;exact aE));conv=>lhs;whnf)
  apply U.w (cH J h)
  conv=>lhs;whnf
  repeat((first|apply U.t|apply U.f|(apply U.q;exact aE));conv=>lhs;whnf)
  apply U.b<;>intro h2<;>conv=>lhs;whnf
  ·repeat((first|apply U.t|apply U.f|(apply U.q;exact aE));conv=>lhs;whnf)
   rw[if_pos (.inl (mS h2))];rfl
  ·repeat((first|apply U.t|apply U.f|(apply U.q;exact aE)|(refine U.w (cG ?_) ?_;omega));conv=>lhs;whnf)
   apply U.w (cH J l[n].want)
   conv=>lhs;whnf
   repeat((first|apply U.t|apply U.f|(apply U.q;exact aE));conv=>lhs;whnf)
   apply U.b<;>intro h3<;>conv=>lhs;whnf
   ·repeat((first|apply U.t|apply U.f|(apply U.q;exact aE));conv=>lhs;whnf)
    rw[if_pos (.inr (.inl (mS h3)))];rfl
   ·repeat((first|apply U.t|apply U.f|(apply U.q;exact aE)|(refine U.w (cG ?_) ?_;omega));conv=>lhs;whnf)
    apply U.w (cH J l[n].sent)
    conv=>lhs;whnf
    repeat((first|apply U.t|apply U.f|(apply U.q;exact aE));conv=>lhs;whnf)
    apply U.b<;>intro h4<;>conv=>lhs;whnf
    ·repeat((first|apply U.t|apply U.f|(apply U.q;exact aE));conv=>lhs;whnf)
     rw[if_pos (.inr (.inr (mS h4)))];rfl
    ·rw[if_neg (by rw[iV h2,iV h3,iV h4];decide)]
     repeat((first|apply U.t|apply U.f|(apply U.q;exact aE)|(refine U.w (cG ?_) ?_;omega));conv=>lhs;whnf)
     rfl
theorem oI {E:aR} (J:Sys E) (l:List Kid) (id h:Int) (h0:l.length≤1099511627776):E 290 [sv (l.map Kid.row),iv id,iv h]=some ([iv (dE l id h)],[]):=by
 refine J.run rfl rfl fun W U=>?_
 conv=>lhs;whnf
 apply U.w (qW J l id h0)
 conv=>lhs;whnf
 repeat((first|apply U.t|apply U.f|(apply U.q;exact aE));conv=>lhs;whnf)
 apply U.b<;>intro h1<;>conv=>lhs;whnf
 ·have h1:eQ l id<0:=by simpa using h1
  rw[wK h1]
  repeat((first|apply U.t|apply U.f|(apply U.q;exact aE));conv=>lhs;whnf)
  rfl
 ·obtain⟨n,hn,hk⟩:=mR (l:=l) (id:=id) (by simpa using h1)
  rw[aBb hn hk,hk]
  repeat((first|apply U.t|apply U.f|(apply U.q;exact aE));conv=>lhs;whnf)
  apply U.w (dD J h)
  conv=>lhs;whnf
  repeat((first|apply U.t|apply U.f|(apply U.q;exact aE));conv=>lhs;whnf)
  apply U.b<;>intro h2<;>conv=>lhs;whnf
  ·repeat((first|apply U.t|apply U.f|(apply U.q;exact aE));conv=>lhs;whnf)
   rw[if_pos (.inl (mS h2))];rfl
  ·repeat((first|apply U.t|apply U.f|(apply U.q;exact aE)|(refine U.w (cG ?_) ?_;omega));conv=>lhs;whnf)
   apply U.w (dD J l[n].want)
   conv=>lhs;whnf
   repeat((first|apply U.t|apply U.f|(apply U.q;exact aE));conv=>lhs;whnf)
   apply U.b<;>intro h3<;>conv=>lhs;whnf
   ·repeat((first|apply U.t|apply U.f|(apply U.q;exact aE));conv=>lhs;whnf)
    rw[if_pos (.inr (.inl (mS h3)))];rfl
   ·repeat((first|apply U.t|apply U.f|(apply U.q;exact aE)|(refine U.w (cG ?_) ?_;omega));conv=>lhs;whnf)
    apply U.w (dD J l[n].sent)
    conv=>lhs;whnf
    repeat((first|apply U.t|apply U.f|(apply U.q;exact aE));conv=>lhs;whnf)
    apply U.b<;>intro h4<;>conv=>lhs;whnf
    ·repeat((first|apply U.t|apply U.f|(apply U.q;exact aE));conv=>lhs;whnf)
     rw[if_pos (.inr (.inr (mS h4)))];rfl
    ·rw[if_neg (by rw[iV h2,iV h3,iV h4];decide)]
     repeat((first|apply U.t|apply U.f|(apply U.q;exact aE)|(refine U.w (cG ?_) ?_;omega));conv=>lhs;whnf)
     rfl
theorem aHB {E:aR} (J:Sys E) (s:Int):E 432 [iv s]=some ([ov 1 (bD (cQ s))],[]):=by
 refine J.run rfl rfl fun W U=>?_
 conv=>lhs;whnf
 refine U.loop (σ:=Nat × List Int) (γ:=Nat) (fun i s=>(s.sl 4 (v1 (.t (.int .i64 i.1)))).bl ⟨50300,1, .own,bD i.2⟩) (fun i m=>i.1=m∧m≤40∧i.2.length≤m∧i.2++kM s m (40-m)=cQ s) (fun m=>40-m) (fun _=>([ov 1 (bD (cQ s))],[])) (0,[]) 0 ?_ ?_ ?_ ?_
 ·intro K
  conv=>lhs;whnf
  conv=>rhs;whnf
  try rfl
 ·exact⟨rfl,by omega,by simp,rfl⟩
 ·rintro kl ⟨m,acc⟩ _ ⟨rfl,hm,hl,hs⟩ ih
  simp only at hs hm hl
  conv=>lhs;whnf
  apply U.b<;>intro h1<;>conv=>lhs;whnf
  ·have h1:m<40:=by
    have:(m:Int)<40:=by simpa using h1
    omega
   rw[show 40-m=(40-(m+1))+1 from by omega,kM]at hs
   apply U.w (eG J s m)
   conv=>lhs;whnf
   try(apply U.q;exact aE;conv=>lhs;whnf)
   apply U.b<;>intro h3<;>conv=>lhs;whnf
   ·rw[if_pos h3]at hs
    refine U.q (by exact⟨by decide,by intro e he;simp at he;subst he;rfl,by simp[bD];omega,by simp[bD];omega⟩) ?_
    conv=>lhs;whnf
    repeat((first|apply U.t|apply U.f|(apply U.q;exact aE));conv=>lhs;whnf)
    refine ih (m+1,acc++[(m:Int)]) (m+1) _ ?_ ⟨rfl,by omega,by simp;omega,by simpa using hs⟩ (by omega)
    intro K
    conv=>lhs;whnf
    conv=>rhs;whnf
    try rfl
    rw[show IntKind.i64.wrap ((m:Int)+1)=_ from aK (by omega)]
    simp[bD,kK]
   ·rw[if_neg (by rw[h3];decide)]at hs
    refine ih (m+1,acc) (m+1) _ ?_ ⟨rfl,by omega,by simp only;omega,hs⟩ (by omega)
    intro K
    conv=>lhs;whnf
    conv=>rhs;whnf
    try rfl
    rw[show IntKind.i64.wrap ((m:Int)+1)=_ from aK (by omega)]
    try rfl
  ·have:m=40:=by
    have:¬ (m:Int)<40:=by simpa using h1
    omega
   subst this
   simp only[Nat.sub_self,kM,List.append_nil]at hs
   rw[← hs];rfl
 ·rfl
def dN (m:Man) (x:Bld) (i:Int):Bool:=lC m x&&eL x.hav i
def dY (m:Man) (x:Bld) (i:Int):aD:=if dN m x i=true then eR x.buf m.size i else[]
theorem aNj {a b:Nat} (ha:a<1099511627776) (hb:b<1099511627776) (h:mU a b=0) {i:Nat} (hi:a.testBit i=true):b.testBit i=true:=by
 unfold mU at h
 have e:(BitVec.ofInt IntKind.i64.bits (a:Int) &&& ~~~BitVec.ofInt IntKind.i64.bits (b:Int)).toNat≤a:=by
  rw[BitVec.toNat_and,BitVec.ofInt_natCast,BitVec.toNat_ofNat]
  refine Nat.le_trans Nat.and_le_left (Nat.mod_le _ _)
 rw[show IntKind.i64.wrap (((BitVec.ofInt IntKind.i64.bits (a:Int) &&& ~~~BitVec.ofInt IntKind.i64.bits (b:Int)).toNat:Nat):Int)=(((BitVec.ofInt IntKind.i64.bits (a:Int) &&& ~~~BitVec.ofInt IntKind.i64.bits (b:Int)).toNat:Nat):Int) from aI (by omega)]at h
 have h:(BitVec.ofInt IntKind.i64.bits (a:Int) &&& ~~~BitVec.ofInt IntKind.i64.bits (b:Int)).toNat=0:=by omega
 have hz:BitVec.ofInt IntKind.i64.bits (a:Int) &&& ~~~BitVec.ofInt IntKind.i64.bits (b:Int)=0#_:=by
  apply BitVec.eq_of_toNat_eq;rw[h];simp
 have hlt:i<40:=by
  by_cases h:i<40
  ·exact h
  ·exfalso
   have:a.testBit i=false:=Nat.testBit_lt_two_pow (Nat.lt_of_lt_of_le ha (show 2 ^ 40≤2 ^ i from Nat.pow_le_pow_right (by decide) (by omega)))
   rw[this]at hi;cases hi
 have hg:=congrArg (fun v=>v.getLsbD i) hz
 simp only[BitVec.getLsbD_and,BitVec.getLsbD_not,BitVec.getLsbD_zero,BitVec.ofInt_natCast,BitVec.getLsbD_ofNat]at hg
 have hb64:i<IntKind.i64.bits:=by simp only[IntKind.bits];omega
 simp[hb64,hi]at hg
 exact hg
theorem aHC {m:Man} {x:Bld} {i:Int} (h:dN m x i=true):∃ n:Nat,i=n∧n<m.sums.length∧n<40∧(x.buf.length:Int)=m.len∧aY m=true∧bG x.hav=true:=by
 unfold dN at h
 simp only[Bool.and_eq_true]at h
 obtain⟨h1,h2⟩:=h
 unfold lC at h1
 simp only[Bool.and_eq_true,decide_eq_true_eq]at h1
 obtain⟨h3,h4,h5,h6,h7⟩:=h1
 have h2':=h2
 unfold eL at h2'
 simp only[Bool.and_eq_true]at h2'
 have hi:=bS h2'.2.1
 have hc:=(iW h3).1
 obtain⟨n,rfl⟩:∃ n:Nat,i=n:=⟨i.toNat,by omega⟩
 have h4':=h4
 unfold bG at h4'
 have hv:=bS h4'
 obtain⟨v,hv'⟩:∃ v:Nat,x.hav=v:=⟨x.hav.toNat,by omega⟩
 have hap:dC m=((2 ^ m.sums.length-1:Nat):Int)∧(2 ^ m.sums.length-1:Nat)<1099511627776:=by
  unfold dC mT
  rw[if_pos (by simp only[aW,Bool.and_eq_true,decide_eq_true_eq];omega)]
  generalize hn:m.sums.length=k at hc
  have hp:2 ^ k≤2 ^ 40:=Nat.pow_le_pow_right (by decide) (by omega)
  have h40:(2:Nat) ^ 40=1099511627776:=by decide
  have h1:1≤2 ^ k:=Nat.one_le_two_pow
  rw[show min ((k:Int).toNat) IntKind.i64.bits=k from by simp only[IntKind.bits];omega,show(1:Int)*2 ^ k=((2 ^ k:Nat):Int) from by push_cast;omega]
  generalize 2 ^ k=p at hp h1 ⊢
  rw[show IntKind.i64.wrap (p:Int)=p from aI (by omega),show IntKind.i64.wrap ((p:Int)-1)=(p:Int)-1 from aI (by omega)]
  omega
 rw[hap.1,hv']at h5
 rw[hv',aI2 (by omega) (by omega)]at h2
 have:=aNj (by omega) hap.2 h5 h2
 rw[Nat.testBit_two_pow_sub_one]at this
 exact⟨n,rfl,by simpa using this,by omega,h6,h3,h4⟩
theorem aOi {m:Man} {x:Bld} {n:Nat} (h:(x.buf.length:Int)=m.len):eR x.buf m.size n=(x.buf.drop (bP m.size m.len n).toNat).take (aX m.size m.len n).toNat:=by unfold eR;rw[h]
theorem wL {E:aR} (J:Sys E) (m:Man) (x:Bld) (i:Int) (hm:m.sums.length≤1048576) (hx:x.buf.length≤1048576):E 420 [gv (m.cs aO),gv (x.cs aO),iv i]=some ([ov 1 (aU (dY m x i)),bv (dN m x i)],[]):=by
 have a1:=aHw J m x hm hx
 have a2:=eG J x.hav i
 unfold dY
 cases h:dN m x i
 ·have h':=h
  unfold dN at h'
  rw[Bool.and_eq_false_iff]at h'
  cases h1:lC m x
  ·rw[h1]at a1
   refine J.run rfl rfl fun W U=>?_
   conv=>lhs;whnf
   repeat'((first|apply U.t|apply U.f|(apply U.q;exact aE)|apply U.w (a1)|(apply U.b<;>intro h))<;>conv=>lhs;whnf)
   rfl
  ·have h2:eL x.hav i=false:=by rcases h' with h'|h';(rw[h1]at h';cases h');exact h'
   rw[h1]at a1
   rw[h2]at a2
   refine J.run rfl rfl fun W U=>?_
   conv=>lhs;whnf
   repeat'((first|apply U.t|apply U.f|(apply U.q;exact aE)|apply U.w (a1)|apply U.w (a2)|(apply U.b<;>intro h))<;>conv=>lhs;whnf)
   rfl
 ·obtain⟨n,rfl,h1,h2,h3,h4,h5⟩:=aHC h
  have h':=h
  unfold dN at h'
  simp only[Bool.and_eq_true]at h'
  rw[h'.1]at a1
  rw[h'.2]at a2
  have hs:=jJ (size:=m.size) (n:=m.len) (i:=n)
  obtain⟨a,ha⟩:∃ a:Nat,bP m.size m.len n=a:=⟨(bP m.size m.len n).toNat,by omega⟩
  obtain⟨w,hw⟩:∃ w:Nat,aX m.size m.len n=w:=⟨(aX m.size m.len n).toNat,by omega⟩
  have a3:=eN J m.size m.len n
  rw[ha,hw]at a3
  have hk:=aOi (m:=m) (x:=x) (n:=n) h3
  rw[ha,hw,Int.toNat_natCast,Int.toNat_natCast]at hk
  refine J.run rfl rfl fun W U=>?_
  conv=>lhs;whnf
  apply U.w (a1)
  conv=>lhs;whnf
  repeat((first|apply U.t|apply U.f|(apply U.q;exact aE));conv=>lhs;whnf)
  apply U.w (a2)
  conv=>lhs;whnf
  repeat((first|apply U.t|apply U.f|(apply U.q;exact aE));conv=>lhs;whnf)
  apply U.w (a3)
  conv=>lhs;whnf
  repeat((first|apply U.t|apply U.f|(apply U.q;exact aE));conv=>lhs;whnf)
  rw[show IntKind.i64.wrap ((a:Int)+(w:Int))=((a+w:Nat):Int) from(aI (by omega)).trans (by omega)]
  repeat((first|apply U.t|apply U.f|(apply U.q;exact aE));conv=>lhs;whnf)
  refine U.q (by exact⟨by omega,by rw[aJ];omega,bK _⟩) ?_
  conv=>lhs;whnf
  rw[show((a:Int).toNat)=a from by omega,show(((a+w:Nat):Int)).toNat-a=w from by omega,jK]
  refine U.q (by exact⟨by decide,bK _,by simp[aU];omega,by simp[aU];omega⟩) ?_
  conv=>lhs;whnf
  apply U.bt (cZ _)
  conv=>lhs;whnf
  rw[hk]
  rfl
theorem wM {E:aR} (J:Sys E) (m:Man) (x:Bld) (i:Int) (hm:m.sums.length≤1048576) (hx:x.buf.length≤1048576):E 425 [gv (m.cs aO),gv (x.cs aO),iv i]=some ([ov 1 (aU (dY m x i)),bv (dN m x i)],[]):=by
 have a1:=aHA J m x hm hx
 have a2:=fD J x.hav i
 unfold dY
 cases h:dN m x i
 ·have h':=h
  unfold dN at h'
  rw[Bool.and_eq_false_iff]at h'
  cases h1:lC m x
  ·rw[h1]at a1
   refine J.run rfl rfl fun W U=>?_
   conv=>lhs;whnf
   repeat'((first|apply U.t|apply U.f|(apply U.q;exact aE)|apply U.w (a1)|(apply U.b<;>intro h))<;>conv=>lhs;whnf)
   rfl
  ·have h2:eL x.hav i=false:=by rcases h' with h'|h';(rw[h1]at h';cases h');exact h'
   rw[h1]at a1
   rw[h2]at a2
   refine J.run rfl rfl fun W U=>?_
   conv=>lhs;whnf
   repeat'((first|apply U.t|apply U.f|(apply U.q;exact aE)|apply U.w (a1)|apply U.w (a2)|(apply U.b<;>intro h))<;>conv=>lhs;whnf)
   rfl
 ·obtain⟨n,rfl,h1,h2,h3,h4,h5⟩:=aHC h
  have h':=h
  unfold dN at h'
  simp only[Bool.and_eq_true]at h'
  rw[h'.1]at a1
  rw[h'.2]at a2
  have hs:=jJ (size:=m.size) (n:=m.len) (i:=n)
  obtain⟨a,ha⟩:∃ a:Nat,bP m.size m.len n=a:=⟨(bP m.size m.len n).toNat,by omega⟩
  obtain⟨w,hw⟩:∃ w:Nat,aX m.size m.len n=w:=⟨(aX m.size m.len n).toNat,by omega⟩
  have hk:=aOi (m:=m) (x:=x) (n:=n) h3
  rw[ha,hw,Int.toNat_natCast,Int.toNat_natCast]at hk
  refine J.run rfl rfl fun W U=>?_
  conv=>lhs;whnf
  apply U.w (a1)
  conv=>lhs;whnf
  repeat((first|apply U.t|apply U.f|(apply U.q;exact aE));conv=>lhs;whnf)
  apply U.w (a2)
  conv=>lhs;whnf
  repeat((first|apply U.t|apply U.f|(apply U.q;exact aE));conv=>lhs;whnf)
  apply U.w (aDw J m x n a w ha hw (by omega) hx)
  conv=>lhs;whnf
  repeat((first|apply U.t|apply U.f|(apply U.q;exact aE));conv=>lhs;whnf)
  rw[jK,← hk]
  apply U.w (eM J (eR x.buf m.size n) (by have:=pN x.buf m.size n;omega))
  conv=>lhs;whnf
  repeat((first|apply U.t|apply U.f|(apply U.q;exact aE));conv=>lhs;whnf)
  rfl
def cI (gen i:Int) (b:aD):Msg:=⟨3,gen,⟨0,0,0,[]⟩,0,0,i,b⟩
theorem nB {E:aR} (J:Sys E) (gen i:Int) (b:aD) (hb:b.length≤1073741824):E 421 [iv gen,iv i,sv (aU b)]=some ([gv ((cI gen i b).cs dH)],[]):=by
 refine J.run rfl rfl fun W U=>?_
 conv=>lhs;whnf
 refine U.q (by exact⟨by decide,bK _,by simp[aU];omega,by simp[aU];omega⟩) ?_
 conv=>lhs;whnf
 apply U.bt (cZ _)
 conv=>lhs;whnf
 rfl
theorem wN {E:aR} (J:Sys E) (gen i:Int) (b:aD) (hb:b.length≤1073741824):E 426 [iv gen,iv i,sv (aU b)]=some ([gv ((cI gen i b).cs dH)],[]):=by
 refine J.run rfl rfl fun W U=>?_
 conv=>lhs;whnf
 apply U.w (eM J b (by omega))
 conv=>lhs;whnf
 repeat((first|apply U.t|apply U.f|(apply U.q;exact aE));conv=>lhs;whnf)
 rfl
structure Cur where
 i:Nat
 h:Int
def gT (es:List (List T)) (c:Cur):A := .pt true [.t (.sl false es),ci c.i,ci c.h]
def dP (c:Cur):List CA:=[.gone,ci c.i,ci c.h]
def aSn (a b:Int):Int:=IntKind.i64.wrap (BitVec.ofInt IntKind.i64.bits a &&& BitVec.ofInt IntKind.i64.bits b).toNat
def aOj (h:Int):Int:=IntKind.i64.wrap (IntKind.i64.wrap (h*6364136223846793005)+1442695040888963407)
def aVN (h:Int):Int:=aSn (IntKind.i64.wrap (BitVec.ofInt IntKind.i64.bits (h.fdiv (2 ^ (min (33:Int).toNat IntKind.i64.bits))) ^^^ BitVec.ofInt IntKind.i64.bits (h.fdiv (2 ^ (min (47:Int).toNat IntKind.i64.bits)))).toNat) 255
def eJ (b:aD) (c:Cur):Int × Cur :=
 if h:c.i<b.length then(aSn (IntKind.i64.wrap (aVN (aOj c.h)+IntKind.i64.wrap (b[c.i].toNat:Int))) 255,⟨c.i+1,aOj c.h⟩) else(aVN (aOj c.h),⟨c.i,aOj c.h⟩)
theorem aKf {E:aR} (J:Sys E) {es:List (List T)} {b:aD} (he:es=aU b) (c:Cur) (hb:b.length≤1048576):E 161 [gT es c]=some ([iv (eJ b c).1],dP (eJ b c).2):=by
 subst he
 have hl:=eK b
 unfold eJ
 by_cases h:c.i<b.length
 ·rw[dif_pos h]
  refine J.run rfl rfl fun W U=>?_
  conv=>lhs;whnf
  repeat((first|apply U.t|apply U.f|(apply U.q;exact aE));conv=>lhs;whnf)
  apply U.bt ((decide_eq_true (show(c.i:Int)<((aU b).length:Nat) by rw[hl];omega)))
  conv=>lhs;whnf
  repeat((first|apply U.t|apply U.f|(apply U.q;exact aE)|(refine U.w (cG ?_) ?_;omega));conv=>lhs;whnf)
  rw[show IntKind.i64.wrap ((c.i:Int)+1)=((c.i+1:Nat):Int) from aK (by omega)]
  rfl
 ·rw[dif_neg h]
  refine J.run rfl rfl fun W U=>?_
  conv=>lhs;whnf
  repeat((first|apply U.t|apply U.f|(apply U.q;exact aE));conv=>lhs;whnf)
  apply U.bf ((decide_eq_false (show ¬ (c.i:Int)<((aU b).length:Nat) by rw[hl];omega)))
  conv=>lhs;whnf
  rfl
theorem aOk (a:Int):0≤aSn a 255∧aSn a 255≤255:=by
 unfold aSn
 have h:(BitVec.ofInt IntKind.i64.bits a &&& BitVec.ofInt IntKind.i64.bits 255).toNat≤255:=by
  rw[BitVec.toNat_and]
  exact Nat.and_le_right
 rw[show IntKind.i64.wrap _=_ from aI (by omega)]
 omega
theorem aHD (b:aD) (c:Cur):0≤(eJ b c).1∧(eJ b c).1≤255:=by
 unfold eJ
 split
 ·exact aOk _
 ·exact aOk _
def aF (b:aD) (c:Cur) (n:Int):Int × Cur :=
 if n≤0 then(0,c)
 else if n≤256 then((eJ b c).1.tmod n,(eJ b c).2)
 else((IntKind.i64.wrap (IntKind.i64.wrap (IntKind.i64.wrap ((eJ b c).1*65536)+IntKind.i64.wrap ((eJ b (eJ b c).2).1*256))+(eJ b (eJ b (eJ b c).2).2).1)).tmod n,(eJ b (eJ b (eJ b c).2).2).2)
theorem cE (b:aD) (c:Cur) {n:Int} (hn:0<n):0≤(aF b c n).1∧(aF b c n).1<n:=by
 unfold aF
 rw[if_neg (by omega)]
 have h1:=aHD b c
 split
 ·exact⟨Int.tmod_nonneg _ h1.1,Int.tmod_lt_of_pos _ hn⟩
 ·have h2:=aHD b (eJ b c).2
  have h3:=aHD b (eJ b (eJ b c).2).2
  rw[show IntKind.i64.wrap ((eJ b c).1*65536)=_ from aI (by omega),show IntKind.i64.wrap ((eJ b (eJ b c).2).1*256)=_ from aI (by omega),show IntKind.i64.wrap ((eJ b c).1*65536+(eJ b (eJ b c).2).1*256)=_ from aI (by omega),show IntKind.i64.wrap _=_ from aI (by omega)]
  exact⟨Int.tmod_nonneg _ (by omega),Int.tmod_lt_of_pos _ hn⟩
theorem aT {E:aR} (J:Sys E) {es:List (List T)} {b:aD} (he:es=aU b) (c:Cur) (hb:b.length≤1048576) (n:Int):E 157 [gT es c,iv n]=some ([iv (aF b c n).1],dP (aF b c n).2):=by
 unfold aF
 by_cases h1:n≤0
 ·rw[if_pos h1]
  refine J.run rfl rfl fun W U=>?_
  conv=>lhs;whnf
  repeat'((first|with_reducible apply U.bt (decide_eq_true h1)|apply U.t|apply U.f|(apply U.q;exact aE)|(apply U.b<;>intro h))<;>conv=>lhs;whnf)
  rfl
 ·rw[if_neg h1]
  by_cases h2:n≤256
  ·rw[if_pos h2]
   refine J.run rfl rfl fun W U=>?_
   conv=>lhs;whnf
   repeat'((first|with_reducible apply U.bf (decide_eq_false h1)|with_reducible apply U.bt (decide_eq_true h2)|apply U.t|apply U.f|(apply U.q;exact aE)|(apply U.b<;>intro h))<;>conv=>lhs;whnf)
   apply U.w (aKf J he c hb)
   conv=>lhs;whnf
   repeat((first|apply U.t|apply U.f|(apply U.q;exact aE));conv=>lhs;whnf)
   rfl
  ·rw[if_neg h2]
   refine J.run rfl rfl fun W U=>?_
   conv=>lhs;whnf
   repeat'((first|with_reducible apply U.bf (decide_eq_false h1)|with_reducible apply U.bf (decide_eq_false h2)|apply U.t|apply U.f|(apply U.q;exact aE)|(apply U.b<;>intro h))<;>conv=>lhs;whnf)
   apply U.w (aKf J he c hb)
   conv=>lhs;whnf
   repeat((first|apply U.t|apply U.f|(apply U.q;exact aE));conv=>lhs;whnf)
   apply U.w (aKf J he (eJ b c).2 hb)
   conv=>lhs;whnf
   repeat((first|apply U.t|apply U.f|(apply U.q;exact aE));conv=>lhs;whnf)
   apply U.w (aKf J he (eJ b (eJ b c).2).2 hb)
   conv=>lhs;whnf
   repeat((first|apply U.t|apply U.f|(apply U.q;exact aE));conv=>lhs;whnf)
   rfl
theorem jN {E:aR} (J:Sys E) {es:List (List T)} {b:aD} (he:es=aU b) (c:Cur) (hb:b.length≤1048576) (n:Int):E 162 [gT es c,iv n]=some ([bv (decide ((aF b c n).1=0))],dP (aF b c n).2):=by
 refine J.run rfl rfl fun W U=>?_
 conv=>lhs;whnf
 repeat((first|apply U.t|apply U.f|(apply U.q;exact aE));conv=>lhs;whnf)
 apply U.w (aT J he c hb n)
 conv=>lhs;whnf
 repeat((first|apply U.t|apply U.f|(apply U.q;exact aE));conv=>lhs;whnf)
 rfl
def aHE (b:aD) (c:Cur) (l:List Int):Int × Cur:=(l.getD (aF b c l.length).1.toNat 0,(aF b c l.length).2)
theorem aHF {E:aR} (J:Sys E) {es:List (List T)} {b:aD} (he:es=aU b) (c:Cur) (hb:b.length≤1048576) (l:List Int) (hl:0<l.length):E 160 [gT es c,sv (bD l)]=some ([iv (aHE b c l).1],dP (aHE b c l).2):=by
 have hrl:(bD l).length=l.length:=List.length_map _
 have hr:=cE b c (n:=(l.length:Int)) (by omega)
 have hix:(bD l)[(aF b c (l.length:Int)).1.toNat]?=some (kK (l.getD (aF b c (l.length:Int)).1.toNat 0)):=by
  unfold bD
  rw[List.getElem?_map,List.getElem?_eq_getElem (by omega),List.getD_eq_getElem?_getD,List.getElem?_eq_getElem (by omega)]
  rfl
 refine J.run rfl rfl fun W U=>?_
 conv=>lhs;whnf
 repeat((first|apply U.t|apply U.f|(apply U.q;exact aE));conv=>lhs;whnf)
 rw[hrl]
 apply U.w (aT J he c hb (l.length:Int))
 conv=>lhs;whnf
 repeat((first|apply U.t|apply U.f|(apply U.q;exact aE));conv=>lhs;whnf)
 apply U.w (hix)
 conv=>lhs;whnf
 repeat((first|apply U.t|apply U.f|(apply U.q;exact aE));conv=>lhs;whnf)
 rfl
def dZ (b:aD) (c:Cur):Int × Cur :=
 if(aF b c 3).1=0 then aHE b (aF b c 3).2 [0,1,3,1099511627775,549755813888]
 else(IntKind.i64.wrap ((aF b (aF b c 3).2 65536).1*2 ^ (min (aF b (aF b (aF b c 3).2 65536).2 20).1.toNat IntKind.i64.bits)),(aF b (aF b (aF b c 3).2 65536).2 20).2)
theorem aLR {E:aR} (J:Sys E) {es:List (List T)} {b:aD} (he:es=aU b) (c:Cur) (hb:b.length≤1048576):E 163 [gT es c]=some ([iv (dZ b c).1],dP (dZ b c).2):=by
 unfold dZ
 have a0:=jN J he c hb 3
 by_cases h:(aF b c 3).1=0
 ·rw[if_pos h]
  rw[decide_eq_true h]at a0
  refine J.run rfl rfl fun W U=>?_
  conv=>lhs;whnf
  repeat((first|apply U.t|apply U.f|(apply U.q;exact aE));conv=>lhs;whnf)
  apply U.w (a0)
  conv=>lhs;whnf
  repeat((first|apply U.t|apply U.f|(apply U.q;exact aE));conv=>lhs;whnf)
  apply U.w (aHF J he (aF b c 3).2 hb [0,1,3,1099511627775,549755813888] (by decide))
  conv=>lhs;whnf
  repeat((first|apply U.t|apply U.f|(apply U.q;exact aE));conv=>lhs;whnf)
  rfl
 ·rw[if_neg h]
  rw[decide_eq_false h]at a0
  refine J.run rfl rfl fun W U=>?_
  conv=>lhs;whnf
  repeat((first|apply U.t|apply U.f|(apply U.q;exact aE));conv=>lhs;whnf)
  apply U.w (a0)
  conv=>lhs;whnf
  repeat((first|apply U.t|apply U.f|(apply U.q;exact aE));conv=>lhs;whnf)
  apply U.w (aT J he (aF b c 3).2 hb 65536)
  conv=>lhs;whnf
  repeat((first|apply U.t|apply U.f|(apply U.q;exact aE));conv=>lhs;whnf)
  apply U.w (aT J he (aF b (aF b c 3).2 65536).2 hb 20)
  conv=>lhs;whnf
  repeat((first|apply U.t|apply U.f|(apply U.q;exact aE));conv=>lhs;whnf)
  refine U.q (by exact(cE b (aF b (aF b c 3).2 65536).2 (n:=20) (by decide)).1) ?_
  conv=>lhs;whnf
  rfl
def aNk (b:aD) (c:Cur):Int × Cur:=if(aF b c 8).1=0 then aHE b (aF b c 8).2 [-1,1099511627776] else dZ b (aF b c 8).2
theorem aUj {E:aR} (J:Sys E) {es:List (List T)} {b:aD} (he:es=aU b) (c:Cur) (hb:b.length≤1048576):E 158 [gT es c]=some ([iv (aNk b c).1],dP (aNk b c).2):=by
 unfold aNk
 have a0:=jN J he c hb 8
 by_cases h:(aF b c 8).1=0
 ·rw[if_pos h]
  rw[decide_eq_true h]at a0
  refine J.run rfl rfl fun W U=>?_
  conv=>lhs;whnf
  repeat((first|apply U.t|apply U.f|(apply U.q;exact aE));conv=>lhs;whnf)
  apply U.w (a0)
  conv=>lhs;whnf
  repeat((first|apply U.t|apply U.f|(apply U.q;exact aE));conv=>lhs;whnf)
  apply U.w (aHF J he (aF b c 8).2 hb [-1,1099511627776] (by decide))
  conv=>lhs;whnf
  repeat((first|apply U.t|apply U.f|(apply U.q;exact aE));conv=>lhs;whnf)
  rfl
 ·rw[if_neg h]
  rw[decide_eq_false h]at a0
  refine J.run rfl rfl fun W U=>?_
  conv=>lhs;whnf
  repeat((first|apply U.t|apply U.f|(apply U.q;exact aE));conv=>lhs;whnf)
  apply U.w (a0)
  conv=>lhs;whnf
  repeat((first|apply U.t|apply U.f|(apply U.q;exact aE));conv=>lhs;whnf)
  apply U.w (aLR J he (aF b c 8).2 hb)
  conv=>lhs;whnf
  repeat((first|apply U.t|apply U.f|(apply U.q;exact aE));conv=>lhs;whnf)
  rfl
def hN (b:aD):Nat→Int
 |0=>IntKind.i64.wrap (162416+(b.length:Int))
 |n+1=>IntKind.i64.wrap (BitVec.ofInt IntKind.i64.bits (IntKind.i64.wrap (IntKind.i64.wrap (IntKind.i64.wrap (hN b n*137)+IntKind.i64.wrap ((b.getD n 0).toNat:Int))+11)) &&& BitVec.ofInt IntKind.i64.bits 1073741823).toNat
def aLS (b:aD):Cur:=⟨0,hN b (min 4000 b.length)⟩
end Tev
