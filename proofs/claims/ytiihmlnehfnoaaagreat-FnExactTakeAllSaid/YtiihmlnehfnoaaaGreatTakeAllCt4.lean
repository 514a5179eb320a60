/- What the functions compute, one contract each. -/
import Derived.Test.YtiihmlnehfnoaaaGreatTakeAllCt3
set_option linter.unusedSimpArgs false
set_option linter.unusedVariables false
namespace Tev
open Go
set_option maxRecDepth 50000
set_option maxHeartbeats 20000000
theorem zI {E:Env} (hE:Sys E) (b:aE) (hb:b.length≤1048576):E 323 [sv (bys b)]=some ([gv ((gM (pS b)).cs dF),bv (pS b).isSome],[]):=by
 have r1:=bY hE b 0 (by omega) (by omega)
 unfold pS
 cases h1:gV (b.drop 0) with
 |none =>
  rw[h1]at r1
  refine hE.run rfl rfl fun W hW=>?_
  conv=>lhs;whnf
  repeat'((first|apply hW.t|apply hW.f|(apply hW.q;exact rqc)|apply hW.w (r1)|(apply hW.b<;>intro h))<;>conv=>lhs;whnf)
  rfl
 |some p1 =>
  obtain⟨k,c⟩:=p1
  have f1:=zB h1
  rw[h1]at r1
  rw[show vP 0 (some (k,c))=((c:Nat):Int) from congrArg Int.ofNat (Nat.zero_add c),show vN (some (k,c))=(k:Int) from rfl]at r1
  simp only
  by_cases hl:b.length≤400
  ·rw[if_pos hl]
   have el:decide (((bys b).length:Int)>400)=false:=decide_eq_false (by rw[aF];omega)
   obtain⟨r,p,r2,hr⟩:=zE hE b c k hb (by omega)
   cases h2:eC b c k with
   |none =>
    rw[h2]at r2
    refine hE.run rfl rfl fun W hW=>?_
    conv=>lhs;whnf
    repeat'((first|with_reducible apply hW.bf (el)|apply hW.t|apply hW.f|(apply hW.q;exact rqc)|apply hW.w (r1)|apply hW.w (r2)|(apply hW.b<;>intro h))<;>conv=>lhs;whnf)
    rfl
   |some mq =>
    obtain⟨m,q⟩:=mq
    obtain⟨rfl,rfl⟩:=hr m q h2
    rw[h2]at r2
    have hm:=aAx h2
    have r3:=sW hE r hm.1
    simp only
    unfold aH6
    cases ho:bX r with
    |false =>
     rw[ho]at r3
     rw[if_neg (by decide)]
     refine hE.run rfl rfl fun W hW=>?_
     conv=>lhs;whnf
     repeat'((first|with_reducible apply hW.bf (el)|apply hW.t|apply hW.f|(apply hW.q;exact rqc)|apply hW.w (r1)|apply hW.w (r2)|apply hW.w (r3)|(apply hW.b<;>intro h))<;>conv=>lhs;whnf)
     rfl
    |true =>
     rw[ho]at r3
     rw[if_pos rfl]
     have r4:=bY hE b q (by omega) (by omega)
     cases h3:gV (b.drop q) with
     |none =>
      rw[h3]at r4
      refine hE.run rfl rfl fun W hW=>?_
      conv=>lhs;whnf
      repeat'((first|with_reducible apply hW.bf (el)|apply hW.t|apply hW.f|(apply hW.q;exact rqc)|apply hW.w (r1)|apply hW.w (r2)|apply hW.w (r3)|apply hW.w (r4)|(apply hW.b<;>intro h))<;>conv=>lhs;whnf)
      rfl
     |some wc =>
      obtain⟨w,d⟩:=wc
      rw[h3]at r4
      rw[show vP q (some (w,d))=((q+d:Nat):Int) from rfl,show vN (some (w,d))=(w:Int) from rfl]at r4
      simp only
      by_cases g1:q+d=b.length
      ·have e1:(!decide (((q+d:Nat):Int)=((bys b).length:Int)))=false:=by rw[aF,decide_eq_true (by omega)];rfl
       refine hE.run rfl rfl fun W hW=>?_
       conv=>lhs;whnf
       repeat'((first|with_reducible apply hW.bf (el)|with_reducible apply hW.bf (e1)|apply hW.t|apply hW.f|(apply hW.q;exact rqc)|apply hW.w (r1)|apply hW.w (r2)|apply hW.w (r3)|apply hW.w (r4)|(apply hW.b<;>intro h))<;>conv=>lhs;whnf)
       refine hW.q (by exact⟨by omega,by rw[aF];omega,bB b⟩) ?_
       conv=>lhs;whnf
       repeat((first|apply hW.t|apply hW.f|(apply hW.q;exact rqc));conv=>lhs;whnf)
       rw[show((bys b).drop 0).take ((q:Int).toNat-0)=bys (b.take q) from by rw[fF];rfl]
       have r5:=dL hE (b.take q) (by simp;omega)
       apply hW.w (r5)
       conv=>lhs;whnf
       try(apply hW.q;exact rqc;conv=>lhs;whnf)
       by_cases g2:(w:Int)=aY (b.take q)
       ·rw[if_pos ⟨g1,g2⟩]
        have e2:(!decide ((w:Int)=aY (b.take q)))=false:=by rw[decide_eq_true g2];rfl
        repeat'((first|with_reducible apply hW.bf (e2)|apply hW.t|apply hW.f|(apply hW.q;exact rqc)|(apply hW.b<;>intro h))<;>conv=>lhs;whnf)
        rfl
       ·rw[if_neg (fun h=>g2 h.2)]
        have e2:(!decide ((w:Int)=aY (b.take q)))=true:=by rw[decide_eq_false g2];rfl
        repeat'((first|with_reducible apply hW.bt (e2)|apply hW.t|apply hW.f|(apply hW.q;exact rqc)|(apply hW.b<;>intro h))<;>conv=>lhs;whnf)
        rfl
      ·rw[if_neg (fun h=>g1 h.1)]
       have e1:(!decide (((q+d:Nat):Int)=((bys b).length:Int)))=true:=by rw[aF,decide_eq_false (by omega)];rfl
       refine hE.run rfl rfl fun W hW=>?_
       conv=>lhs;whnf
       repeat'((first|with_reducible apply hW.bf (el)|with_reducible apply hW.bt (e1)|apply hW.t|apply hW.f|(apply hW.q;exact rqc)|apply hW.w (r1)|apply hW.w (r2)|apply hW.w (r3)|apply hW.w (r4)|(apply hW.b<;>intro h))<;>conv=>lhs;whnf)
       rfl
  ·rw[if_neg hl]
   have el:decide (((bys b).length:Int)>400)=true:=decide_eq_true (by rw[aF];omega)
   refine hE.run rfl rfl fun W hW=>?_
   conv=>lhs;whnf
   repeat'((first|with_reducible apply hW.bt (el)|apply hW.t|apply hW.f|(apply hW.q;exact rqc)|apply hW.w (r1)|(apply hW.b<;>intro h))<;>conv=>lhs;whnf)
   rfl
theorem aBr {n:Nat} (h:n<256):(cD (n:Int)).toNat=n:=by
 unfold cD;rw[UInt8.toNat_ofNat'];omega
theorem aBs (x:UInt8):cD (x.toNat:Int)=x:=by
 apply UInt8.toNat_inj.mp
 exact aBr x.toNat_lt
theorem aK7:∀ {f m k acc n:Nat} {t:aE},n<128 ^ (f+1)→n<128 ^ m→0<m→rdF m k acc (qD f n++t)=some (acc+n*128 ^ k,k+(qD f n).length,decide (k=0)||decide (0<n)):=by
 intro f
 induction f with
 |zero =>
  intro m k acc n t hf hm h0
  obtain⟨m,rfl⟩:∃ j,m=j+1:=⟨m-1,by omega⟩
  have hn:n<128:=hf
  simp only[qD,List.cons_append,List.nil_append,rdF]
  rw[aBr (by omega),if_pos hn]
  rfl
 |succ f ih =>
  intro m k acc n t hf hm h0
  obtain⟨m,rfl⟩:∃ j,m=j+1:=⟨m-1,by omega⟩
  simp only[qD]
  split
  ·rename_i hn
   simp only[List.cons_append,List.nil_append,rdF]
   rw[aBr (by omega),if_pos hn]
   rfl
  ·rename_i hn
   simp only[List.cons_append,rdF]
   rw[aBr (by omega),if_neg (by omega)]
   have hd:n/128<128 ^ (f+1):=by
    rw[Nat.pow_succ]at hf
    exact Nat.div_lt_of_lt_mul (by rw[Nat.mul_comm];exact hf)
   have hd2:n/128<128 ^ m:=by
    rw[Nat.pow_succ]at hm
    exact Nat.div_lt_of_lt_mul (by rw[Nat.mul_comm];exact hm)
   have hm0:0<m:=by
    rcases Nat.eq_zero_or_pos m with h|h
    ·subst h;simp at hm;omega
    ·exact h
   rw[ih hd hd2 hm0]
   congr 2
   ·have e:(n%128+128)%128=n%128:=by omega
    rw[e,Nat.pow_succ,Nat.add_assoc,Nat.add_left_cancel_iff]
    have:n=n%128+n/128*128:=by omega
    have e2:n%128*128 ^ k+n/128*(128 ^ k*128)=(n%128+n/128*128)*128 ^ k:=by rw[Nat.add_mul,Nat.mul_comm (128 ^ k),← Nat.mul_assoc]
    rw[e2,← this]
   ·congr 1
    ·simp only[List.length_cons];omega
    ·rw[show decide (0<n/128)=true from decide_eq_true (by omega),show decide (0<n)=true from decide_eq_true (by omega)]
     simp
theorem aK8:∀ {m k acc x c:Nat} {l:aE},rdF m k acc l=some (x,c,true)→∃ n,x=acc+n*128 ^ k∧n<128 ^ m∧(k=0∨0<n)∧∀ f,m≤f+1→qD f n++l.drop (c-k)=l∧(qD f n).length=c-k:=by
 intro m
 induction m with
 |zero=>intro k acc x c l h;cases h
 |succ m ih =>
  intro k acc x c l h
  cases l with
  |nil=>cases h
  |cons y t =>
   simp only[rdF]at h
   have hy:y.toNat<256:=y.toNat_lt
   split at h
   ·rename_i hs
    obtain⟨h1,h2,h3⟩:acc+y.toNat*128 ^ k=x∧k+1=c∧(k=0∨0<y.toNat):=by simpa using h
    subst h1 h2
    refine⟨y.toNat,rfl,?_,h3,?_⟩
    ·have:128 ^ 1≤128 ^ (m+1):=Nat.pow_le_pow_right (by decide) (by omega)
     omega
    ·intro f _
     have e:qD f y.toNat=[y]:=by
      cases f with
      |zero=>simp only[qD];rw[aBs]
      |succ f=>simp only[qD];rw[if_pos hs,aBs]
     rw[e,show k+1-k=1 from by omega]
     exact⟨rfl,rfl⟩
   ·rename_i hs
    have hc:=aMp h
    obtain⟨n,e1,e2,e3,e4⟩:=ih h
    have hn:0<n:=by omega
    refine⟨y.toNat%128+128*n,?_,?_, .inr (by omega),?_⟩
    ·rw[e1,Nat.pow_succ,Nat.add_mul,Nat.add_assoc]
     congr 2
     rw[Nat.mul_comm (128 ^ k),← Nat.mul_assoc,Nat.mul_comm n]
    ·rw[Nat.pow_succ]
     omega
    ·intro f hf
     obtain⟨f,rfl⟩:∃ j,f=j+1:=by
      cases f with
      |zero =>
       have:m=0:=by omega
       subst this
       cases h
      |succ f=>exact⟨f,rfl⟩
     have e:=e4 f (by omega)
     have hv:qD (f+1) (y.toNat%128+128*n)=y::qD f n:=by
      simp only[qD]
      rw[if_neg (by omega),show(y.toNat%128+128*n)%128+128=y.toNat from by omega,aBs,show(y.toNat%128+128*n)/128=n from by omega]
     rw[hv,show c-k=(c-(k+1))+1 from by omega,List.drop_succ_cons,List.cons_append,e.1,List.length_cons,e.2]
     exact⟨rfl,rfl⟩
theorem aNz {n:Nat} (h:n≤1000000000000) (t:aE):gV (rL n++t)=some (n,(rL n).length):=by
 unfold gV rL
 rw[aK7 (by
  have:(128:Nat) ^ 9=9223372036854775808:=by decide
  omega) (by
   have:(128:Nat) ^ 6=4398046511104:=by decide
   omega) (by decide)]
 simp[h]
theorem aNA {n:Nat} (h:n≤562949953421311) (t:aE):gS (rL n++t)=some (n,(rL n).length):=by
 unfold gS rL
 rw[aK7 (by
  have:(128:Nat) ^ 9=9223372036854775808:=by decide
  omega) (by
   have:(128:Nat) ^ 8=72057594037927936:=by decide
   omega) (by decide)]
 simp
theorem aNB {l:aE} {n c:Nat} (h:gV l=some (n,c)):rL n++l.drop c=l∧(rL n).length=c∧n≤1000000000000:=by
 unfold gV at h
 split at h
 ·rename_i x y he
  split at h
  ·rename_i hn
   cases h
   obtain⟨n',e1,e2,e3,e4⟩:=aK8 he
   have e:=e4 8 (by decide)
   have:n'=n:=by simp at e1;omega
   subst this
   exact⟨e.1,e.2,hn⟩
  ·cases h
 ·cases h
theorem aNC {l:aE} {n c:Nat} (h:gS l=some (n,c)):rL n++l.drop c=l∧(rL n).length=c:=by
 unfold gS at h
 split at h
 ·rename_i x y he
  cases h
  obtain⟨n',e1,e2,e3,e4⟩:=aK8 he
  have e:=e4 8 (by decide)
  have:n'=n:=by simp at e1;omega
  subst this
  exact e
 ·cases h
theorem aEM {b:aE} {a c:Nat} {v:aE} (h:v++(b.drop a).drop c=b.drop a) (hc:v.length=c):b.take (a+c)=b.take a++v:=by
 rw[List.take_add,← h,List.take_append_of_le_length (by omega),← hc,List.take_length]
theorem fJ {b:aE} {a n c:Nat} (h:gV (b.drop a)=some (n,c)):b.take (a+c)=aC (b.take a) n:=by
 have e:=aNB h
 unfold aC
 rw[if_pos (by simp[bM];omega),Int.toNat_natCast]
 exact aEM e.1 e.2.1
theorem aKi (p:aE) {n:Nat} (h:n≤1000000000000):aC p n=p++rL n:=by
 unfold aC
 rw[if_pos (by simp[bM];omega),Int.toNat_natCast]
theorem aKj:∀ {k:Nat} {b:aE} {a:Nat} {acc l:List Sum} {q:Nat},sMs k b a acc=some (l,q)→∃ r,l=acc++r∧b.take q=b.take a++iE r∧r.length=k:=by
 intro k
 induction k with
 |zero=>intro b a acc l q h;cases h;exact⟨[],by simp,by simp[iE],rfl⟩
 |succ k ih =>
  intro b a acc l q h
  rw[sMs]at h
  cases hg:gS (b.drop a) with
  |none=>rw[hg]at h;cases h
  |some p =>
   obtain⟨n,c⟩:=p
   rw[hg]at h
   obtain⟨r,e1,e2,e3⟩:=ih h
   have e:=aNC hg
   refine⟨aH2 n::r,by rw[e1];simp,?_,by simp[e3]⟩
   rw[e2,aEM e.1 e.2,iE,List.append_assoc]
   rfl
theorem aH7 {b:aE} {a:Nat} {x:Man} {q:Nat} (h:aBx b a=some (x,q)):b.take q=cK (b.take a) x:=by
 have hx:=(aCH h).1
 unfold aBx at h
 cases h1:gV (b.drop a) with
 |none=>rw[h1]at h;cases h
 |some p1 =>
  obtain⟨g,c1⟩:=p1
  rw[h1]at h
  simp only at h
  cases h2:gV (b.drop (a+c1)) with
  |none=>rw[h2]at h;cases h
  |some p2 =>
   obtain⟨s,c2⟩:=p2
   rw[h2]at h
   simp only at h
   cases h3:gV (b.drop (a+c1+c2)) with
   |none=>rw[h3]at h;cases h
   |some p3 =>
    obtain⟨n,c3⟩:=p3
    rw[h3]at h
    obtain⟨l,e1,e2,e3⟩:=rT h
    obtain⟨r,f1,f2,f3⟩:=aKj e1
    rw[f2,fJ h3,fJ h2,fJ h1]
    unfold cK rQ
    rw[if_pos hx,e2]
    simp only[List.nil_append]at f1
    rw[f1]
theorem uL {k:Nat} {b:aE} {a:Nat} {acc l:List Int} {q:Nat} (h:gWa (k+1) b a acc=some (l,q)):∃ n c,gV (b.drop a)=some (n,c)∧n<1048576∧gWa k b (a+c) (acc++[(n:Int)])=some (l,q):=by
 rw[gWa]at h
 cases hg:gV (b.drop a) with
 |none=>rw[hg]at h;cases h
 |some p =>
  obtain⟨n,c⟩:=p
  rw[hg]at h
  simp only at h
  split at h
  ·rename_i hn;exact⟨n,c,rfl,hn,h⟩
  ·cases h
theorem aDG {n:Nat} (h:n<1099511627776):wH (n:Int)=((n%1048576:Nat):Int):=by
 unfold wH
 rw[BitVec.toNat_and,BitVec.ofInt_natCast,show BitVec.ofInt IntKind.i64.bits 1048575=BitVec.ofNat IntKind.i64.bits 1048575 from rfl,BitVec.toNat_ofNat,BitVec.toNat_ofNat]
 rw[Nat.mod_eq_of_lt (show n<2 ^ IntKind.i64.bits from by simp only[IntKind.bits];omega),Nat.mod_eq_of_lt (show 1048575<2 ^ IntKind.i64.bits from by decide),Nat.and_two_pow_sub_one_eq_mod n 20]
 exact aG (by omega)
theorem aDH {n:Nat}:aCN (n:Int)=((n/1048576:Nat):Int):=by
 unfold aCN
 rw[show min (20:Int).toNat IntKind.i64.bits=20 from by decide,show(2:Int) ^ 20=1048576 from by decide]
 rw[Int.fdiv_eq_ediv_of_nonneg _ (by decide)]
 omega
theorem aEN (p:aE) {w0 w1:Nat} (h0:w0<1048576) (h1:w1<1048576):bO p ((w0:Int)+(w1:Int)*1048576)=aC (aC p w0) w1:=by
 unfold bO
 rw[show(w0:Int)+(w1:Int)*1048576=((w0+w1*1048576:Nat):Int) from by omega,aDG (by omega),aDH,show(w0+w1*1048576)%1048576=w0 from by omega,show(w0+w1*1048576)/1048576=w1 from by omega]
theorem aMv {b:aE} {a most:Nat} {p:aE} {q:Nat} (h:gP b a most=some (p,q)):b.take q=cF (b.take a) p:=by
 unfold gP at h
 cases h1:gV (b.drop a) with
 |none=>rw[h1]at h;cases h
 |some x =>
  obtain⟨n,c⟩:=x
  rw[h1]at h
  simp only at h
  split at h
  ·rename_i hk
   cases h
   have hl:((b.drop (a+c)).take n).length=n:=by simp;omega
   unfold cF
   rw[hl,← fJ h1,List.take_add]
  ·cases h
theorem aF1 {b:aE} {a k:Nat} {m:Msg} {q:Nat} (h:eC b a k=some (m,q)) (hk:b.take a=aC [] k):b.take q=qR m:=by
 unfold eC at h
 unfold qR
 split at h
 ·rename_i k1
  subst k1
  cases hm:aBx b a with
  |none=>rw[hm]at h;cases h
  |some x =>
   rw[hm]at h
   obtain⟨x,y⟩:=x
   have h:=Option.some.inj h
   cases h
   rw[if_pos rfl,aH7 hm,hk]
   rfl
 ·rename_i k1
  cases h1:gV (b.drop a) with
  |none=>rw[h1]at h;cases h
  |some p1 =>
   obtain⟨g,c⟩:=p1
   rw[h1]at h
   simp only at h
   split at h
   ·rename_i k2
    subst k2
    obtain⟨w0,w1,d0,d1,e,rfl⟩:=aCI h
    obtain⟨n0,c0,g0,l0,e⟩:=uL e
    obtain⟨n1,c1,g1,l1,e⟩:=uL e
    obtain⟨n2,c2,g2,l2,e⟩:=uL e
    obtain⟨n3,c3,g3,l3,e⟩:=uL e
    rw[gWa]at e
    cases e
    rw[if_neg (by simp),if_pos rfl]
    rw[fJ g3,fJ g2,fJ g1,fJ g0,fJ h1,hk]
    simp only
    rw[aEN _ l0 l1,aEN _ l2 l3]
    rfl
   ·split at h
    ·rename_i k2 k3
     subst k3
     cases h2:gV (b.drop (a+c)) with
     |none=>rw[h2]at h;cases h
     |some p2 =>
      obtain⟨i,d⟩:=p2
      rw[h2]at h
      simp only at h
      cases h3:gP b (a+c+d) 6 with
      |none=>rw[h3]at h;cases h
      |some x =>
       obtain⟨p,y⟩:=x
       rw[h3]at h
       have h:=Option.some.inj h
       cases h
       rw[if_neg (by simp),if_neg (by simp),if_pos rfl]
       rw[aMv h3,fJ h2,fJ h1,hk]
       rfl
    ·rename_i k2 k3
     cases h
     rw[if_neg (by simp;omega),if_neg (by simp;omega),if_neg (by simp;omega),fJ h1,hk]
theorem aEO {b:aE} {m:Msg} (h:pS b=some m):bX m=true∧cU m=b∧b.length≤400:=by
 unfold pS at h
 cases h1:gV (b.drop 0) with
 |none=>rw[h1]at h;cases h
 |some p1 =>
  obtain⟨k,c⟩:=p1
  rw[h1]at h
  simp only at h
  split at h
  ·rename_i hl
   cases h2:eC b c k with
   |none=>rw[h2]at h;cases h
   |some mq =>
    obtain⟨m',q⟩:=mq
    rw[h2]at h
    simp only[aH6]at h
    split at h
    ·rename_i ho
     cases h3:gV (b.drop q) with
     |none=>rw[h3]at h;cases h
     |some wd =>
      obtain⟨w,d⟩:=wd
      rw[h3]at h
      simp only at h
      split at h
      ·rename_i hq
       cases h
       refine⟨ho,?_,hl⟩
       have e1:=fJ h1
       rw[Nat.zero_add,List.take_zero]at e1
       have e2:=aF1 h2 e1
       have e3:=fJ h3
       unfold cU
       rw[if_pos ho,← e2,← hq.2,← e3,hq.1,List.take_length]
      ·cases h
    ·cases h
  ·cases h
theorem dO (p:aE) (n:Int):p <+: aC p n:=by
 unfold aC
 split
 ·exact List.prefix_append _ _
 ·exact List.prefix_rfl
theorem iP {p b:aE} {n:Nat} (h:n≤1000000000000) (hp:aC p n <+: b):∃ c,gV (b.drop p.length)=some (n,c)∧(aC p n).length=p.length+c:=by
 rw[aKi p h]at hp ⊢
 obtain⟨t,rfl⟩:=hp
 rw[List.append_assoc,List.drop_left]
 exact⟨_,aNz h t,List.length_append⟩
theorem aND {p b r:aE} {n:Nat} (h:n≤562949953421311) (hp:p++(rL n++r) <+: b):gS (b.drop p.length)=some (n,(rL n).length):=by
 obtain⟨t,rfl⟩:=hp
 rw[List.append_assoc,List.drop_left,List.append_assoc]
 exact aNA h _
theorem aH8 {m:Man} {l:List Sum}:∀ {i:Nat},aEF m i l=true→∀ x∈l,bV x.s=true∧bH (bQ x.s)=x:=by
 induction l with
 |nil=>intro i _ x hx;cases hx
 |cons y r ih =>
  intro i h x hx
  simp only[aEF,Bool.and_eq_true]at h
  rcases List.mem_cons.mp hx with rfl|hx
  ·have h1:=h.1
   simp only[aCw,Bool.and_eq_true,decide_eq_true_eq]at h1
   exact⟨h1.1,h1.2.2⟩
  ·exact ih h.2 x hx
theorem aMw {b:aE}:∀ {l:List Sum} {p:aE} {acc:List Sum},(∀ y∈l,bV y.s=true∧bH (bQ y.s)=y)→p++iE l <+: b→sMs l.length b p.length acc=some (acc++l,(p++iE l).length)∧iMs l.length b p.length acc=some (acc++l,(p++iE l).length):=by
 intro l
 induction l with
 |nil=>intro p acc _ _;simp[sMs,iMs,iE]
 |cons y r ih =>
  intro p acc hy hp
  have h1:=hy y (by simp)
  have hr:=aAq h1.1
  obtain⟨n,hn⟩:∃ n:Nat,y.s=n:=⟨y.s.toNat,by omega⟩
  rw[iE,hn,Int.toNat_natCast]at hp ⊢
  have hg:=aND (by omega) hp
  have e:=ih (p:=p++rL n) (acc:=acc++[y]) (fun z hz=>hy z (by simp[hz])) (by rw[List.append_assoc];exact hp)
  rw[List.length_append,List.append_assoc,List.append_assoc]at e
  have hs:aH2 n=y:=by
   unfold aH2
   rw[← hn,h1.2]
  constructor
  ·rw[List.length_cons,sMs,hg]
   simp only
   rw[hs]
   exact e.1
  ·rw[List.length_cons,iMs,hg]
   simp only
   rw[← hn,if_pos h1.1,h1.2]
   exact e.2
theorem aKk {b p:aE} {x:Man} (hx:bA x=true) (h0:x.gen≠0) (hp:cK p x <+: b):aBx b p.length=some (x,(cK p x).length)∧aF6 b p.length=some (x,(cK p x).length):=by
 have hx':=hx
 obtain⟨gen,size,len,sums⟩:=x
 unfold cK at hp ⊢
 rw[if_pos hx]at hp ⊢
 unfold bA at hx'
 rw[if_neg h0]at hx'
 simp only[Bool.and_eq_true,decide_eq_true_eq]at hx'
 obtain⟨a1,a2,a3,a4⟩:=hx'
 have a1:=bT a1
 unfold dJ at a2
 simp only[Bool.and_eq_true]at a2
 have b1:=bT a2.1
 have b2:=bT a2.2
 rw[show IntKind.i64.wrap (size*40)=size*40 from aG (by omega)]at b2
 obtain⟨g,rfl⟩:∃ g:Nat,gen=g:=⟨gen.toNat,by omega⟩
 obtain⟨s,rfl⟩:∃ g:Nat,size=g:=⟨size.toNat,by omega⟩
 obtain⟨n,rfl⟩:∃ g:Nat,len=g:=⟨len.toNat,by omega⟩
 have hh:rQ p ⟨g,s,n,sums⟩ <+: b:=List.IsPrefix.trans (List.prefix_append _ _) hp
 unfold rQ at hh
 simp only at hh
 obtain⟨c3,e3,l3⟩:=iP (by omega) hh
 have hh2:=List.IsPrefix.trans (dO _ _) hh
 obtain⟨c2,e2,l2⟩:=iP (by omega) hh2
 have hh1:=List.IsPrefix.trans (dO _ _) hh2
 obtain⟨c1,e1,l1⟩:=iP (by omega) hh1
 have hs:=aMw (acc:=[]) (aH8 a4) hp
 rw[List.nil_append]at hs
 rw[l1]at e2 l2
 rw[l2]at e3 l3
 rw[show(rQ p ⟨g,s,n,sums⟩).length=p.length+c1+c2+c3 from l3]at hs
 unfold aBx aF6
 rw[e1]
 simp only
 rw[e2]
 simp only
 rw[e3]
 simp only
 rw[if_pos (show 0<g from by omega),← a3,Int.toNat_natCast,hs.1,hs.2,aBo hx]
 exact⟨rfl,rfl⟩
theorem aH9 (p:aE) (s:Int):p <+: bO p s:=List.IsPrefix.trans (dO _ _) (dO _ _)
theorem aEP {n:Nat} (h:n<1099511627776):wor ((n%1048576:Nat):Int) (aMs ((n/1048576:Nat):Int))=(n:Int):=by
 have hs:aMs ((n/1048576:Nat):Int)=((n/1048576*1048576:Nat):Int):=by
  unfold aMs
  rw[aMr (by omega) (by omega)]
  omega
 rw[hs,(aBj (by omega) (by omega)).1]
 congr 1
 rw[Nat.or_comm,Nat.mul_comm,show(1048576:Nat)=2 ^ 20 from rfl,← Nat.two_pow_add_eq_or_of_lt (Nat.mod_lt _ (by decide))]
 exact Nat.div_add_mod n (2 ^ 20)
theorem aDI {x:Man} (h:bW x=true):x=mB:=by
 rw[← qE]at h
 exact of_decide_eq_true h
theorem aNE {b p s:aE} {most:Nat} (hs:s.length≤most) (hm:most≤1000000) (hp:cF p s <+: b):gP b p.length most=some (s,(cF p s).length):=by
 unfold cF at hp ⊢
 have h1:aC p (s.length:Nat) <+: b:=List.IsPrefix.trans (List.prefix_append _ _) hp
 obtain⟨c,e,l⟩:=iP (by omega) h1
 obtain⟨t,rfl⟩:=hp
 unfold gP
 rw[e]
 simp only
 rw[← l,if_pos ⟨hs,by simp only[List.length_append];omega⟩,List.append_assoc,List.drop_left,List.take_left,List.length_append]
theorem aIa {b:aE} {man:Man} (ho:bA man=true) (h0:man.gen≠0) (hp:cK (aC [] 1) man <+: b) :
 eC b (aC [] 1).length 1=some (⟨1,0,man,0,0,0,[]⟩,(cK (aC [] 1) man).length)∧iJ b (aC [] 1).length 1=some ⟨1,0,man,0,0,0,[]⟩:=by
 have e:=aKk ho h0 hp
 constructor
 ·unfold eC
  rw[if_pos rfl,e.1]
  rfl
 ·unfold iJ
  rw[if_pos rfl,e.2]
theorem aIb {b:aE} {g w d:Nat} (hg:g≤1000000) (hw:w<1099511627776) (hd:d<1099511627776) (hp:bO (bO (aC (aC [] 2) g) w) d <+: b) :
 eC b (aC [] 2).length 2=some (⟨2,g,mB,w,d,0,[]⟩,(bO (bO (aC (aC [] 2) g) w) d).length)∧iJ b (aC [] 2).length 2=some ⟨2,g,mB,w,d,0,[]⟩:=by
 unfold bO at hp ⊢
 rw[aDG hw,aDG hd,aDH,aDH]at hp ⊢
 have p5:=hp
 have p4:=List.IsPrefix.trans (dO _ _) p5
 have p3:=List.IsPrefix.trans (dO _ _) p4
 have p2:=List.IsPrefix.trans (dO _ _) p3
 have p1:=List.IsPrefix.trans (dO _ _) p2
 obtain⟨c1,e1,l1⟩:=iP (by omega) p1
 obtain⟨c2,e2,l2⟩:=iP (by omega) p2
 obtain⟨c3,e3,l3⟩:=iP (by omega) p3
 obtain⟨c4,e4,l4⟩:=iP (by omega) p4
 obtain⟨c5,e5,l5⟩:=iP (by omega) p5
 rw[l5]
 rw[l4]at e5 ⊢
 rw[l3]at e4 e5 ⊢
 rw[l2]at e3 e4 e5 ⊢
 rw[l1]at e2 e3 e4 e5 ⊢
 constructor
 ·unfold eC
  rw[if_neg (by decide),e1]
  simp only
  rw[if_pos trivial]
  simp only[gWa,e2,e3,e4,e5]
  rw[if_pos (by omega),if_pos (by omega),if_pos (by omega),if_pos (by omega)]
  simp only[List.nil_append,List.cons_append,aMq]
  congr 3
  ·omega
  ·omega
 ·unfold iJ
  rw[if_neg (by decide),if_pos rfl]
  simp only[gVa,e1,e2,e3,e4,e5,List.nil_append,List.cons_append,aKh]
  rw[aEP hw,aEP hd]
theorem aIc {b s:aE} {g i:Nat} (hg:g≤1000000) (hi:i≤39) (hs:s.length≤6) (hp:cF (aC (aC (aC [] 3) g) i) s <+: b) :
 eC b (aC [] 3).length 3=some (⟨3,g,mB,0,0,i,s⟩,(cF (aC (aC (aC [] 3) g) i) s).length)∧iJ b (aC [] 3).length 3=some ⟨3,g,mB,0,0,i,s⟩:=by
 have e3:=aNE hs (by decide) hp
 have p2:aC (aC (aC [] 3) g) i <+: b:=List.IsPrefix.trans (List.IsPrefix.trans (dO _ _) (List.prefix_append _ _)) hp
 have p1:=List.IsPrefix.trans (dO _ _) p2
 obtain⟨c1,e1,l1⟩:=iP (by omega) p1
 obtain⟨c2,e2,l2⟩:=iP (by omega) p2
 rw[l2]at e3
 rw[l1]at e2 e3
 constructor
 ·unfold eC
  rw[if_neg (by decide),e1]
  simp only
  rw[if_neg (by decide),if_pos trivial,e2]
  simp only
  rw[e3]
  rfl
 ·unfold iJ
  rw[if_neg (by decide),if_neg (by decide),if_pos rfl]
  simp only[gVa,e1,e2,List.nil_append,List.cons_append,aH4,e3]
theorem aId {b:aE} {g:Nat} (hg:g≤1000000) (hp:aC (aC [] 4) g <+: b) :
 eC b (aC [] 4).length 4=some (⟨4,g,mB,0,0,0,[]⟩,(aC (aC [] 4) g).length)∧iJ b (aC [] 4).length 4=some ⟨4,g,mB,0,0,0,[]⟩:=by
 obtain⟨c1,e1,l1⟩:=iP (by omega) hp
 constructor
 ·unfold eC
  rw[if_neg (by decide),e1]
  simp only
  rw[if_neg (by decide),if_neg (by decide),l1]
  rfl
 ·unfold iJ
  rw[if_neg (by decide),if_neg (by decide),if_neg (by decide),if_pos rfl,e1]
theorem aKl {b:aE} {m:Msg} (ho:bX m=true) (hp:qR m <+: b):∃ k:Nat,m.kind=k∧k≤4∧aC [] k <+: b∧eC b (aC [] k).length k=some (m,(qR m).length)∧iJ b (aC [] k).length k=some m:=by
 have hk:=rR ho
 obtain⟨kind,gen,man,want,done,i,s⟩:=m
 unfold bX at ho
 unfold qR at hp ⊢
 simp only at hk ho hp ⊢
 rcases hk with rfl|rfl|rfl|rfl
 ·rw[if_pos rfl]at hp ho ⊢
  simp only[iI,Bool.and_eq_true,Bool.true_or,Bool.false_or,decide_eq_true_eq,Bool.not_eq_true',decide_eq_false_iff_not,true_and]at ho
  obtain⟨rfl,h0,hm,⟨rfl,rfl⟩,rfl,rfl⟩:=ho
  refine⟨1,rfl,by decide,?_,aIa hm h0 hp⟩
  refine List.IsPrefix.trans ?_ hp
  unfold cK
  rw[if_pos hm]
  exact List.IsPrefix.trans (List.IsPrefix.trans (dO _ _) (List.IsPrefix.trans (dO _ _) (dO _ _))) (List.prefix_append _ _)
 ·rw[if_neg (by decide),if_pos rfl]at hp ho ⊢
  simp only[Bool.and_eq_true,decide_eq_true_eq,cT]at ho
  obtain⟨hg,hz,hw,hd,rfl,rfl⟩:=ho
  obtain rfl:=aDI hz
  have hg:=bT hg
  have hw:=bT hw
  have hd:=bT hd
  obtain⟨g,rfl⟩:∃ g:Nat,gen=g:=⟨gen.toNat,by omega⟩
  obtain⟨w,rfl⟩:∃ g:Nat,want=g:=⟨want.toNat,by omega⟩
  obtain⟨d,rfl⟩:∃ g:Nat,done=g:=⟨done.toNat,by omega⟩
  refine⟨2,rfl,by decide,?_,aIb (by omega) (by omega) (by omega) hp⟩
  exact List.IsPrefix.trans (List.IsPrefix.trans (dO _ _) (List.IsPrefix.trans (aH9 _ _) (aH9 _ _))) hp
 ·rw[if_neg (by decide),if_neg (by decide),if_pos rfl]at hp ho ⊢
  simp only[Bool.and_eq_true,decide_eq_true_eq]at ho
  obtain⟨hg,hz,rfl,rfl,hi,hs⟩:=ho
  obtain rfl:=aDI hz
  have hg:=bT hg
  have hi:=bT hi
  have hs:=bT hs
  obtain⟨g,rfl⟩:∃ g:Nat,gen=g:=⟨gen.toNat,by omega⟩
  obtain⟨j,rfl⟩:∃ g:Nat,i=g:=⟨i.toNat,by omega⟩
  refine⟨3,rfl,by decide,?_,aIc (by omega) (by omega) (by omega) hp⟩
  exact List.IsPrefix.trans (List.IsPrefix.trans (List.IsPrefix.trans (dO _ _) (dO _ _)) (List.IsPrefix.trans (dO _ _) (List.prefix_append _ _))) hp
 ·rw[if_neg (by decide),if_neg (by decide),if_neg (by decide)]at hp ho ⊢
  simp only[iI,Bool.and_eq_true,Bool.false_or,decide_eq_true_eq,true_and]at ho
  obtain⟨hg,hz,⟨rfl,rfl⟩,rfl,rfl⟩:=ho
  obtain rfl:=aDI hz
  have hg:=bT hg
  obtain⟨g,rfl⟩:∃ g:Nat,gen=g:=⟨gen.toNat,by omega⟩
  refine⟨4,rfl,by decide,?_,aId (by omega) hp⟩
  exact List.IsPrefix.trans (dO _ _) hp
theorem aMx (b:aE):∃ n:Nat,aY b=n∧n≤100000:=by
 rw[mP]
 exact⟨(smS b%251+251*(smP b%251)).toNat,by omega,by omega⟩
theorem aIe {b:aE} {m:Msg} (ho:bX m=true) (hp:cU m=b) (hl:b.length≤400):pS b=some m∧pI b=some m:=by
 unfold cU at hp
 rw[if_pos ho]at hp
 obtain⟨w,hw,hw2⟩:=aMx (qR m)
 rw[hw]at hp
 have hpre:qR m <+: b:=by rw[← hp];exact dO _ _
 obtain⟨k,hk,hk4,h1,h2,h3⟩:=aKl ho hpre
 obtain⟨c,e1,l1⟩:=iP (p:=[]) (by omega) h1
 rw[l1,List.length_nil,Nat.zero_add]at h2 h3
 rw[List.length_nil]at e1
 obtain⟨d,e2,l2⟩:=iP (p:=qR m) (b:=b) (n:=w) (by omega) (by rw[hp];exact List.prefix_rfl)
 rw[hp]at l2
 constructor
 ·unfold pS
  rw[e1]
  simp only
  rw[if_pos hl,h2]
  simp only[aH6]
  rw[if_pos ho,e2]
  simp only
  have ht:b.take (qR m).length=qR m:=(List.prefix_iff_eq_take.mp hpre).symm
  rw[ht,if_pos ⟨l2.symm,hw.symm⟩]
 ·unfold pI
  rw[e1]
  simp only
  rw[if_pos hl,h3]
  simp only
  rw[if_pos ⟨ho,by unfold cU;rw[if_pos ho,hw,hp]⟩]
theorem aKm {b:aE} {m:Msg} (h:pI b=some m):bX m=true∧cU m=b∧b.length≤400:=by
 unfold pI at h
 cases h1:gV (b.drop 0) with
 |none=>rw[h1]at h;cases h
 |some p1 =>
  obtain⟨k,c⟩:=p1
  rw[h1]at h
  simp only at h
  split at h
  ·rename_i hl
   cases h2:iJ b c k with
   |none=>rw[h2]at h;cases h
   |some x =>
    rw[h2]at h
    simp only at h
    split at h
    ·rename_i hq
     cases h
     exact⟨hq.1,hq.2,hl⟩
    ·cases h
  ·cases h
theorem aOn (b:aE):pI b=pS b:=by
 cases h:pS b with
 |some m =>
  have e:=aEO h
  exact(aIe e.1 e.2.1 e.2.2).2
 |none =>
  cases h2:pI b with
  |none=>rfl
  |some m =>
   have e:=aKm h2
   rw[(aIe e.1 e.2.1 e.2.2).1]at h
   cases h
theorem aBt {E:Env} (hE:Sys E) (b:aE) (hb:b.length≤1048576):E 323 [sv (bys b)]=some ([gv ((gM (pS b)).cs dF),bv (pS b).isSome],[]):=zI hE b hb
theorem aBu {E:Env} (hE:Sys E) (b:aE) (hb:b.length≤1048576):E 329 [sv (bys b)]=some ([gv ((gM (pS b)).cs dF),bv (pS b).isSome],[]):=by
 rw[← aOn];exact zH hE b hb
theorem aIf {b:aE} {m:Msg} (h:pS b=some m):m.lim 1048576:=by
 have e:=aEO h
 have:=aBf e.1
 unfold pS at h
 cases h1:gV (b.drop 0) with
 |none=>rw[h1]at h;cases h
 |some p1 =>
  obtain⟨k,c⟩:=p1
  rw[h1]at h
  simp only at h
  split at h
  ·cases h2:eC b c k with
   |none=>rw[h2]at h;cases h
   |some mq =>
    obtain⟨m',q⟩:=mq
    rw[h2]at h
    simp only[aH6]at h
    split at h
    ·split at h
     ·split at h
      ·cases h;exact(aAx h2).1
      ·cases h
     ·cases h
    ·cases h
  ·cases h
def kL (n:Node) (id:Int) (m:Msg):Node:={ n with kids:=tN n.kids id m.want m.done }
def rU (g:Int):Msg:=⟨4,g,⟨0,0,0,[]⟩,0,0,0,[]⟩
def aIg (x:Man):Msg:=⟨1,0,x,0,0,0,[]⟩
def eO (n:Node) (k id:Int) (m:Msg):Actn :=
 if id=k then⟨n,[]⟩
 else if n.phase=0 then⟨kL n id m,[eL k id (rU 0)]⟩
 else if ¬ m.gen=n.man.gen then⟨kL n id m,[eL k id (aIg n.man)]⟩
 else if(cV (kL n id m) k id).out=[] then⟨(cV (kL n id m) k id).n,[eL k id (rU n.man.gen)]⟩
 else cV (kL n id m) k id
theorem aIh {n:Node} {id:Int} {m:Msg} (hn:n.man.sums.length≤1048576∧n.bld.buf.length≤1048576∧n.kids.length+1≤4194304):(kL n id m).limk:=by
 refine⟨hn.1,hn.2.1,?_⟩
 show(tN n.kids id m.want m.done).length≤_
 have:=aCz n.kids id m.want m.done
 omega
theorem qK {E:Env} (hE:Sys E) (n:Node) (k id:Int) (m:Msg) (hn:n.man.sums.length≤1048576∧n.bld.buf.length≤1048576∧n.kids.length+1≤4194304):E 452 [gv (n.cs aP),iv k,iv id,gv (m.cs aP)]=some ([gv ((eO n k id m).cs dF true)],[]):=by
 have hk:n.limk:=⟨hn.1,hn.2.1,by omega⟩
 have a0:=cM hE n hk.l8
 have a1:=aDC hE n.kids id m.want m.done hk.2.2
 have a2:=dX hE k id (rU 0) ⟨Nat.zero_le _,Nat.zero_le _⟩
 have a3:=dX hE k id (aIg n.man) ⟨hn.1,Nat.zero_le _⟩
 have a4:=tQ hE (kL n id m) k id (aIh hn)
 have a5:=dX hE k id (rU n.man.gen) ⟨Nat.zero_le _,Nat.zero_le _⟩
 unfold eO
 by_cases h1:id=k
 ·rw[if_pos h1]
  refine hE.run rfl rfl fun W hW=>?_
  conv=>lhs;whnf
  repeat'((first|with_reducible apply hW.bt (xM h1)|apply hW.t|apply hW.f|(apply hW.q;exact rqc)|apply hW.w (a0)|(apply hW.b<;>intro h))<;>conv=>lhs;whnf)
  rfl
 ·rw[if_neg h1]
  by_cases h2:n.phase=0
  ·rw[if_pos h2]
   refine hE.run rfl rfl fun W hW=>?_
   conv=>lhs;whnf
   repeat'((first|with_reducible apply hW.bf (gO h1)|with_reducible apply hW.bt (xM h2)|apply hW.t|apply hW.f|(apply hW.q;exact rqc)|apply hW.w (a0)|apply hW.w (a1)|apply hW.w (a2)|(apply hW.b<;>intro h))<;>conv=>lhs;whnf)
   rfl
  ·rw[if_neg h2]
   by_cases h3:m.gen=n.man.gen
   ·rw[if_neg (fun h=>h h3)]
    generalize cV (kL n id m) k id=x at a4 ⊢
    obtain⟨xn,xo⟩:=x
    cases xo with
    |nil =>
     rw[if_pos rfl]
     refine hE.run rfl rfl fun W hW=>?_
     conv=>lhs;whnf
     repeat'((first|with_reducible apply hW.bf (gO h1)|with_reducible apply hW.bf (gO h2)|with_reducible apply hW.bf (aAs h3)|apply hW.t|apply hW.f|(apply hW.q;exact rqc)|apply hW.w (a0)|apply hW.w (a1)|apply hW.w (a4)|apply hW.w (a5)|(apply hW.b<;>intro h))<;>conv=>lhs;whnf)
     rfl
    |cons p xo =>
     rw[if_neg (by simp)]
     refine hE.run rfl rfl fun W hW=>?_
     conv=>lhs;whnf
     repeat'((first|with_reducible apply hW.bf (gO h1)|with_reducible apply hW.bf (gO h2)|with_reducible apply hW.bf (aAs h3)|apply hW.t|apply hW.f|(apply hW.q;exact rqc)|apply hW.w (a0)|apply hW.w (a1)|apply hW.w (a4)|(apply hW.b<;>intro h))<;>conv=>lhs;whnf)
     rfl
   ·rw[if_pos h3]
    refine hE.run rfl rfl fun W hW=>?_
    conv=>lhs;whnf
    repeat'((first|with_reducible apply hW.bf (gO h1)|with_reducible apply hW.bf (gO h2)|with_reducible apply hW.bt (aIs h3)|apply hW.t|apply hW.f|(apply hW.q;exact rqc)|apply hW.w (a0)|apply hW.w (a1)|apply hW.w (a3)|(apply hW.b<;>intro h))<;>conv=>lhs;whnf)
    rfl
theorem qL {E:Env} (hE:Sys E) (n:Node) (k id:Int) (m:Msg) (hn:n.man.sums.length≤1048576∧n.bld.buf.length≤1048576∧n.kids.length+1≤4194304):E 455 [gv (n.cs aP),iv k,iv id,gv (m.cs aP)]=some ([gv ((eO n k id m).cs dF true)],[]):=by
 have hk:n.limk:=⟨hn.1,hn.2.1,by omega⟩
 have a0:=cR hE n hk.l8
 have a1:=aDD hE n.kids id m.want m.done hk.2.2
 have a2:=dY hE k id (rU 0) ⟨Nat.zero_le _,Nat.zero_le _⟩
 have a3:=dY hE k id (aIg n.man) ⟨hn.1,Nat.zero_le _⟩
 have a4:=tT hE (kL n id m) k id (aIh hn)
 have a5:=dY hE k id (rU n.man.gen) ⟨Nat.zero_le _,Nat.zero_le _⟩
 unfold eO
 by_cases h1:id=k
 ·rw[if_pos h1]
  refine hE.run rfl rfl fun W hW=>?_
  conv=>lhs;whnf
  repeat'((first|with_reducible apply hW.bt (xM h1)|apply hW.t|apply hW.f|(apply hW.q;exact rqc)|apply hW.w (a0)|(apply hW.b<;>intro h))<;>conv=>lhs;whnf)
  rfl
 ·rw[if_neg h1]
  by_cases h2:n.phase=0
  ·rw[if_pos h2]
   refine hE.run rfl rfl fun W hW=>?_
   conv=>lhs;whnf
   repeat'((first|with_reducible apply hW.bf (gO h1)|with_reducible apply hW.bt (xM h2)|apply hW.t|apply hW.f|(apply hW.q;exact rqc)|apply hW.w (a0)|apply hW.w (a1)|apply hW.w (a2)|(apply hW.b<;>intro h))<;>conv=>lhs;whnf)
   rfl
  ·rw[if_neg h2]
   by_cases h3:m.gen=n.man.gen
   ·rw[if_neg (fun h=>h h3)]
    generalize cV (kL n id m) k id=x at a4 ⊢
    obtain⟨xn,xo⟩:=x
    cases xo with
    |nil =>
     rw[if_pos rfl]
     refine hE.run rfl rfl fun W hW=>?_
     conv=>lhs;whnf
     repeat'((first|with_reducible apply hW.bf (gO h1)|with_reducible apply hW.bf (gO h2)|with_reducible apply hW.bf (aAs h3)|apply hW.t|apply hW.f|(apply hW.q;exact rqc)|apply hW.w (a0)|apply hW.w (a1)|apply hW.w (a4)|apply hW.w (a5)|(apply hW.b<;>intro h))<;>conv=>lhs;whnf)
     rfl
    |cons p xo =>
     rw[if_neg (by simp)]
     refine hE.run rfl rfl fun W hW=>?_
     conv=>lhs;whnf
     repeat'((first|with_reducible apply hW.bf (gO h1)|with_reducible apply hW.bf (gO h2)|with_reducible apply hW.bf (aAs h3)|apply hW.t|apply hW.f|(apply hW.q;exact rqc)|apply hW.w (a0)|apply hW.w (a1)|apply hW.w (a4)|(apply hW.b<;>intro h))<;>conv=>lhs;whnf)
     all_goals first|rfl|(exfalso;have h:=of_decide_eq_false h;simp at h;done)|(exfalso;have h:=of_decide_eq_false h;simp at h;omega)
   ·rw[if_pos h3]
    refine hE.run rfl rfl fun W hW=>?_
    conv=>lhs;whnf
    repeat'((first|with_reducible apply hW.bf (gO h1)|with_reducible apply hW.bf (gO h2)|with_reducible apply hW.bt (aIs h3)|apply hW.t|apply hW.f|(apply hW.q;exact rqc)|apply hW.w (a0)|apply hW.w (a1)|apply hW.w (a3)|(apply hW.b<;>intro h))<;>conv=>lhs;whnf)
    rfl
def zJ (t:Tree) (k:Int) (n:Node) (d:Disk) (p:Pkt):Actn :=
 if n.on=false then⟨n,[]⟩ else
 match pS p.b with
 |none=>⟨yT n,[]⟩
 |some m =>
  if bM p.frm 0 ((t.up.length:Int)-1)=false then⟨yT n,[]⟩
  else if p.frm=k then⟨yT n,[]⟩
  else if m.kind=2 then eO n k p.frm m
  else if p.frm=n.boss then iF n k d m
  else⟨yT n,[]⟩
theorem aCJ {E:Env} (hE:Sys E) (t:Tree) (k:Int) (n:Node) (d:Disk) (p:Pkt) (ht:t.lim 1048576) (hn:n.man.sums.length≤1048576∧n.bld.buf.length≤1048576∧n.kids.length+1≤4194304) (hd:d.lim 1048576) (hp:p.lim 1048576):E 450 [gv (t.cs aP),iv k,gv (n.cs aP),gv (d.cs aP true),gv (p.cs aP)]=some ([gv ((zJ t k n d p).cs dF true)],[]):=by
 have hk:n.limk:=⟨hn.1,hn.2.1,by omega⟩
 have hrl:(bN t.up).length=t.up.length:=List.length_map _
 have htl:t.up.length≤1048576:=ht
 have hw:IntKind.i64.wrap ((t.up.length:Int)-1)=(t.up.length:Int)-1:=aG (by omega)
 have a0:=cM hE n hk.l8
 have a1:=gB hE n hk.l8
 have a2:=aBt hE p.b hp
 have a3:=bG hE p.frm 0 ((t.up.length:Int)-1)
 unfold zJ
 cases hon:n.on with
 |false =>
  rw[if_pos rfl]
  have hon':(!n.on)=true:=by rw[hon];rfl
  refine hE.run rfl rfl fun W hW=>?_
  conv=>lhs;whnf
  repeat'((first|with_reducible apply hW.bt (hon')|apply hW.t|apply hW.f|(apply hW.q;exact rqc)|apply hW.w (a0)|(apply hW.b<;>intro h))<;>conv=>lhs;whnf)
  rfl
 |true =>
  rw[if_neg (by decide)]
  have hon':(!n.on)=false:=by rw[hon];rfl
  cases hm:pS p.b with
  |none =>
   rw[hm]at a2
   refine hE.run rfl rfl fun W hW=>?_
   conv=>lhs;whnf
   repeat'((first|with_reducible apply hW.bf (hon')|apply hW.t|apply hW.f|(apply hW.q;exact rqc)|apply hW.w (a2)|apply hW.w (a1)|(apply hW.b<;>intro h))<;>conv=>lhs;whnf)
   rfl
  |some m =>
   rw[hm,show gM (some m)=m from rfl]at a2
   have hml:=aIf hm
   simp only
   cases h1:bM p.frm 0 ((t.up.length:Int)-1) with
   |false =>
    rw[h1]at a3
    rw[if_pos rfl]
    refine hE.run rfl rfl fun W hW=>?_
    conv=>lhs;whnf
    repeat'((first|with_reducible apply hW.bf (hon')|apply hW.t|apply hW.f|(apply hW.q;exact rqc)|apply hW.w (a2)|(apply hW.b<;>intro h))<;>conv=>lhs;whnf)
    rw[hrl,hw]
    repeat'((first|apply hW.t|apply hW.f|(apply hW.q;exact rqc)|apply hW.w (a3)|apply hW.w (a1)|(apply hW.b<;>intro h))<;>conv=>lhs;whnf)
    rfl
   |true =>
    rw[h1]at a3
    rw[if_neg (by decide)]
    by_cases h2:p.frm=k
    ·rw[if_pos h2]
     refine hE.run rfl rfl fun W hW=>?_
     conv=>lhs;whnf
     repeat'((first|with_reducible apply hW.bf (hon')|apply hW.t|apply hW.f|(apply hW.q;exact rqc)|apply hW.w (a2)|(apply hW.b<;>intro h))<;>conv=>lhs;whnf)
     rw[hrl,hw]
     repeat'((first|with_reducible apply hW.bt (xM h2)|apply hW.t|apply hW.f|(apply hW.q;exact rqc)|apply hW.w (a3)|apply hW.w (a1)|(apply hW.b<;>intro h))<;>conv=>lhs;whnf)
     rfl
    ·rw[if_neg h2]
     by_cases h3:m.kind=2
     ·rw[if_pos h3]
      have a4:=qK hE n k p.frm m hn
      refine hE.run rfl rfl fun W hW=>?_
      conv=>lhs;whnf
      repeat'((first|with_reducible apply hW.bf (hon')|apply hW.t|apply hW.f|(apply hW.q;exact rqc)|apply hW.w (a2)|(apply hW.b<;>intro h))<;>conv=>lhs;whnf)
      rw[hrl,hw]
      repeat'((first|with_reducible apply hW.bf (gO h2)|with_reducible apply hW.bt (xM h3)|apply hW.t|apply hW.f|(apply hW.q;exact rqc)|apply hW.w (a3)|apply hW.w (a4)|(apply hW.b<;>intro h))<;>conv=>lhs;whnf)
      rfl
     ·rw[if_neg h3]
      by_cases h4:p.frm=n.boss
      ·rw[if_pos h4]
       have a5:=wV hE n k d m hk hd hml
       refine hE.run rfl rfl fun W hW=>?_
       conv=>lhs;whnf
       repeat'((first|with_reducible apply hW.bf (hon')|apply hW.t|apply hW.f|(apply hW.q;exact rqc)|apply hW.w (a2)|(apply hW.b<;>intro h))<;>conv=>lhs;whnf)
       rw[hrl,hw]
       repeat'((first|with_reducible apply hW.bf (gO h2)|with_reducible apply hW.bf (gO h3)|with_reducible apply hW.bt (xM h4)|apply hW.t|apply hW.f|(apply hW.q;exact rqc)|apply hW.w (a3)|apply hW.w (a5)|(apply hW.b<;>intro h))<;>conv=>lhs;whnf)
       rfl
      ·rw[if_neg h4]
       refine hE.run rfl rfl fun W hW=>?_
       conv=>lhs;whnf
       repeat'((first|with_reducible apply hW.bf (hon')|apply hW.t|apply hW.f|(apply hW.q;exact rqc)|apply hW.w (a2)|(apply hW.b<;>intro h))<;>conv=>lhs;whnf)
       rw[hrl,hw]
       repeat'((first|with_reducible apply hW.bf (gO h2)|with_reducible apply hW.bf (gO h3)|with_reducible apply hW.bf (gO h4)|apply hW.t|apply hW.f|(apply hW.q;exact rqc)|apply hW.w (a3)|apply hW.w (a1)|(apply hW.b<;>intro h))<;>conv=>lhs;whnf)
       rfl
theorem aCK {E:Env} (hE:Sys E) (t:Tree) (k:Int) (n:Node) (d:Disk) (p:Pkt) (ht:t.lim 1048576) (hn:n.man.sums.length≤1048576∧n.bld.buf.length≤1048576∧n.kids.length+1≤4194304) (hd:d.lim 1048576) (hp:p.lim 1048576):E 451 [gv (t.cs aP),iv k,gv (n.cs aP),gv (d.cs aP true),gv (p.cs aP)]=some ([gv ((zJ t k n d p).cs dF true)],[]):=by
 have hk:n.limk:=⟨hn.1,hn.2.1,by omega⟩
 have hrl:(bN t.up).length=t.up.length:=List.length_map _
 have htl:t.up.length≤1048576:=ht
 have hw:IntKind.i64.wrap ((t.up.length:Int)-1)=(t.up.length:Int)-1:=aG (by omega)
 have a0:=cR hE n hk.l8
 have a2:=aBu hE p.b hp
 have a3:=aA8 hE t p.frm ht
 unfold zJ
 cases hon:n.on with
 |false =>
  rw[if_pos rfl]
  have hon':(!n.on)=true:=by rw[hon];rfl
  refine hE.run rfl rfl fun W hW=>?_
  conv=>lhs;whnf
  repeat'((first|with_reducible apply hW.bt (hon')|apply hW.t|apply hW.f|(apply hW.q;exact rqc)|apply hW.w (a0)|(apply hW.b<;>intro h))<;>conv=>lhs;whnf)
  rfl
 |true =>
  rw[if_neg (by decide)]
  have hon':(!n.on)=false:=by rw[hon];rfl
  cases hm:pS p.b with
  |none =>
   rw[hm]at a2
   refine hE.run rfl rfl fun W hW=>?_
   conv=>lhs;whnf
   repeat'((first|with_reducible apply hW.bf (hon')|apply hW.t|apply hW.f|(apply hW.q;exact rqc)|apply hW.w (a0)|apply hW.w (a2)|(apply hW.b<;>intro h))<;>conv=>lhs;whnf)
   rfl
  |some m =>
   rw[hm,show gM (some m)=m from rfl]at a2
   have hml:=aIf hm
   simp only
   cases h1:bM p.frm 0 ((t.up.length:Int)-1) with
   |false =>
    rw[h1]at a3
    rw[if_pos rfl]
    refine hE.run rfl rfl fun W hW=>?_
    conv=>lhs;whnf
    repeat'((first|with_reducible apply hW.bf (hon')|apply hW.t|apply hW.f|(apply hW.q;exact rqc)|apply hW.w (a0)|apply hW.w (a2)|(apply hW.b<;>intro h))<;>conv=>lhs;whnf)
    skip
    repeat'((first|apply hW.t|apply hW.f|(apply hW.q;exact rqc)|apply hW.w (a3)|(apply hW.b<;>intro h))<;>conv=>lhs;whnf)
    rfl
   |true =>
    rw[h1]at a3
    rw[if_neg (by decide)]
    by_cases h2:p.frm=k
    ·rw[if_pos h2]
     refine hE.run rfl rfl fun W hW=>?_
     conv=>lhs;whnf
     repeat'((first|with_reducible apply hW.bf (hon')|apply hW.t|apply hW.f|(apply hW.q;exact rqc)|apply hW.w (a0)|apply hW.w (a2)|(apply hW.b<;>intro h))<;>conv=>lhs;whnf)
     skip
     repeat'((first|with_reducible apply hW.bt (xM h2)|apply hW.t|apply hW.f|(apply hW.q;exact rqc)|apply hW.w (a3)|(apply hW.b<;>intro h))<;>conv=>lhs;whnf)
     rfl
    ·rw[if_neg h2]
     by_cases h3:m.kind=2
     ·rw[if_pos h3]
      have a4:=qL hE n k p.frm m hn
      refine hE.run rfl rfl fun W hW=>?_
      conv=>lhs;whnf
      repeat'((first|with_reducible apply hW.bf (hon')|apply hW.t|apply hW.f|(apply hW.q;exact rqc)|apply hW.w (a0)|apply hW.w (a2)|(apply hW.b<;>intro h))<;>conv=>lhs;whnf)
      skip
      repeat'((first|with_reducible apply hW.bf (gO h2)|with_reducible apply hW.bt (xM h3)|apply hW.t|apply hW.f|(apply hW.q;exact rqc)|apply hW.w (a3)|apply hW.w (a4)|(apply hW.b<;>intro h))<;>conv=>lhs;whnf)
      rfl
     ·rw[if_neg h3]
      by_cases h4:p.frm=n.boss
      ·rw[if_pos h4]
       have a5:=wW hE n k d m hk hd hml
       refine hE.run rfl rfl fun W hW=>?_
       conv=>lhs;whnf
       repeat'((first|with_reducible apply hW.bf (hon')|apply hW.t|apply hW.f|(apply hW.q;exact rqc)|apply hW.w (a0)|apply hW.w (a2)|(apply hW.b<;>intro h))<;>conv=>lhs;whnf)
       skip
       repeat'((first|with_reducible apply hW.bf (gO h2)|with_reducible apply hW.bf (gO h3)|with_reducible apply hW.bt (xM h4)|apply hW.t|apply hW.f|(apply hW.q;exact rqc)|apply hW.w (a3)|apply hW.w (a5)|(apply hW.b<;>intro h))<;>conv=>lhs;whnf)
       rfl
      ·rw[if_neg h4]
       refine hE.run rfl rfl fun W hW=>?_
       conv=>lhs;whnf
       repeat'((first|with_reducible apply hW.bf (hon')|apply hW.t|apply hW.f|(apply hW.q;exact rqc)|apply hW.w (a0)|apply hW.w (a2)|(apply hW.b<;>intro h))<;>conv=>lhs;whnf)
       skip
       repeat'((first|with_reducible apply hW.bf (gO h2)|with_reducible apply hW.bf (gO h3)|with_reducible apply hW.bf (gO h4)|apply hW.t|apply hW.f|(apply hW.q;exact rqc)|apply hW.w (a3)|(apply hW.b<;>intro h))<;>conv=>lhs;whnf)
       rfl
structure Kept (n:Node) (a:Actn):Prop where
 s:a.n.man.sums.length≤1048576
 b:a.n.bld.buf.length≤1048576
 k:a.n.kids.length≤n.kids.length+1
 o:a.out.length≤1048576
 p:∀ x∈a.out,x.b.length≤1009
theorem qM {n m:Node} (h1:m.man.sums.length≤1048576) (h2:m.bld.buf.length≤1048576) (h3:m.kids.length≤n.kids.length+1):Kept n ⟨m,[]⟩:=⟨h1,h2,h3,Nat.zero_le _,fun _ h=>by cases h⟩
theorem aMy {n m:Node} {a b:Int} {x:Msg} (h1:m.man.sums.length≤1048576) (h2:m.bld.buf.length≤1048576) (h3:m.kids.length≤n.kids.length+1):Kept n ⟨m,[eL a b x]⟩ :=
 ⟨h1,h2,h3,by show 1≤1048576;decide,fun y hy=>by rw[List.mem_singleton.mp hy];exact oK _⟩
theorem aMz (n:Node) (k id:Int) (l:List Int):∀ x∈qJ n k id l,x.b.length≤1009:=by
 intro x hx
 obtain⟨i,_,hx⟩:=List.mem_flatMap.mp hx
 unfold aAu at hx
 split at hx
 ·rw[List.mem_singleton.mp hx]
  exact oK _
 ·cases hx
theorem aNF {n:Node} {k i:Int} {l:List Kid}:∀ {c:List Kid} {o:List Pkt},(∀ x∈o,x.b.length≤1009)→∀ x∈(yX n k i l c o).2,x.b.length≤1009:=by
 induction l with
 |nil=>intro c o h;exact h
 |cons x r ih =>
  intro c o h
  simp only[yX]
  split
  ·refine ih fun y hy=>?_
   rcases List.mem_append.mp hy with hy|hy
   ·exact h y hy
   ·rw[List.mem_singleton.mp hy]
    exact oK _
  ·exact ih h
theorem aCL {n0 n:Node} {k i:Int} (hn:n.limk) (h1:n.kids.length≤1048576) (h2:n.kids.length≤n0.kids.length+1):Kept n0 (jZ n k i):=by
 have hl:=aKg (n:=n) (k:=k) (i:=i) (l:=n.kids) (c:=n.kids) (o:=[])
 unfold jZ
 split
 ·refine⟨hn.1,hn.2.1,?_,?_,aNF fun _ h=>by cases h⟩
  ·simp only;omega
  ·simp only[List.length_nil]at hl ⊢;omega
 ·exact qM hn.1 hn.2.1 h2
theorem aDJ {n:Node} {k id:Int} {m:Msg} (hn:n.limk) (h1:n.kids.length≤1048576):Kept n (eO n k id m):=by
 have hh:(kL n id m).kids.length≤n.kids.length+1:=aCz _ _ _ _
 have hs:Kept n (cV (kL n id m) k id):=⟨hn.1,hn.2.1,by show(cZ _ _ _).length≤_;rw[gW];exact hh,Nat.le_trans (aHU _ _ _ _) (Nat.le_trans lS (by decide)),aMz _ _ _ _⟩
 unfold eO
 split
 ·exact qM hn.1 hn.2.1 (by omega)
 ·split
  ·exact aMy hn.1 hn.2.1 hh
  ·split
   ·exact aMy hn.1 hn.2.1 hh
   ·split
    ·exact aMy hs.s hs.b hs.k
    ·exact hs
theorem aIi {n:Node} {k:Int} {d:Disk} {m:Msg} (hn:n.limk) (h1:n.kids.length≤1048576) (hm:m.lim 1048576):Kept n (iF n k d m):=by
 have h2:n.kids.length≤n.kids.length+1:=by omega
 unfold iF
 split
 ·have:=aBk (zA n) d m.man (jK hn) hm.1
  exact qM this.1.1 this.1.2.1 (by rw[this.2];exact h2)
 ·split
  ·unfold jJ
   split
   ·exact qM hn.1 hn.2.1 h2
   ·split
    ·exact qM hn.1 hn.2.1 h2
    ·split
     ·exact qM hn.1 hn.2.1 h2
     ·split
      ·exact qM hn.1 hn.2.1 h2
      ·exact aCL (aBm (jK hn)) h1 h2
  ·split
   ·exact qM hn.1 hn.2.1 h2
   ·exact qM hn.1 hn.2.1 h2
theorem xJ {t:Tree} {k:Int} {n:Node} {d:Disk} {p:Pkt} (hn:n.limk) (h1:n.kids.length≤1048576):Kept n (zJ t k n d p):=by
 have h2:n.kids.length≤n.kids.length+1:=by omega
 unfold zJ
 split
 ·exact qM hn.1 hn.2.1 h2
 ·split
  ·exact qM hn.1 hn.2.1 h2
  ·rename_i m hm
   split
   ·exact qM hn.1 hn.2.1 h2
   ·split
    ·exact qM hn.1 hn.2.1 h2
    ·split
     ·exact aDJ hn h1
     ·split
      ·exact aIi hn h1 (aIf hm)
      ·exact qM hn.1 hn.2.1 h2
def eD (t:Tree) (k:Int) (d:Disk) (a:Actn) (p:Pkt):Actn:=⟨(zJ t k a.n d p).n,a.out++(zJ t k a.n d p).out⟩
def cB (t:Tree) (k:Int) (n:Node) (d:Disk) (l:List Pkt):Actn:=l.foldl (eD t k d) ⟨n,[]⟩
structure TakeIn (n:Node) (m:Nat) (a:Actn):Prop where
 s:a.n.man.sums.length≤1048576
 b:a.n.bld.buf.length≤1048576
 k:a.n.kids.length≤n.kids.length+m
 o:a.out.length≤m*1048576
 p:∀ x∈a.out,x.b.length≤1009
theorem iH {t:Tree} {k:Int} {n:Node} {d:Disk} {a:Actn} {p:Pkt} {m:Nat} (h:TakeIn n m a) (hk:n.kids.length+m≤1048576):TakeIn n (m+1) (eD t k d a p):=by
 have q:=xJ (t:=t) (k:=k) (n:=a.n) (d:=d) (p:=p) ⟨h.s,h.b,by have:=h.k;omega⟩ (by have:=h.k;omega)
 refine⟨q.s,q.b,by have:=h.k;have:=q.k;show(zJ t k a.n d p).n.kids.length≤_;omega,?_,fun x hx=>?_⟩
 ·have:=h.o
  have:=q.o
  show(a.out++(zJ t k a.n d p).out).length≤_
  rw[List.length_append,Nat.succ_mul]
  omega
 ·rcases List.mem_append.mp hx with hx|hx
  ·exact h.p x hx
  ·exact q.p x hx
theorem zK {E:Env} (hE:Sys E) (t:Tree) (k:Int) (n:Node) (d:Disk) (l:List Pkt) (ht:t.lim 1048576) (hn:n.lim 1048576) (hd:d.lim 1048576) (hp:xW (fun B=>Pkt.lim B) 1048576 l) (hs:n.kids.length+l.length≤1048576):E 458 [gv (t.cs aP),iv k,gv (n.cs aP),gv (d.cs aP true),sv (l.map (Pkt.row true))]=some ([gv ((cB t k n d l).cs dF true)],[]):=by
 have hrl:(l.map (Pkt.row true)).length=l.length:=List.length_map _
 have a0:=cM hE n (Node.lim_mono (by decide) hn)
 refine hE.run rfl rfl fun W hW=>?_
 conv=>lhs;whnf
 repeat'((first|apply hW.t|apply hW.f|(apply hW.q;exact rqc)|apply hW.w (a0)|(apply hW.b<;>intro h))<;>conv=>lhs;whnf)
 refine hW.loop (σ:=Nat × Actn) (γ:=Nat) (fun i s=>(((((s.sl 12 (v1 (.t (.int .i64 i.1)))).sl 11 (.box true [.t (.bool i.2.n.on), .t (.int .i64 i.2.n.boss), .t (.int .i64 i.2.n.quiet), .t (.int .i64 i.2.n.man.gen), .t (.int .i64 i.2.n.man.size), .t (.int .i64 i.2.n.man.len), .blk 51106, .t (.int .i64 i.2.n.bld.hav), .blk 51108, .t (.int .i64 i.2.n.phase), .blk 51110, .t (.int .i64 i.2.n.drops), .blk 51112])).bl ⟨51106,2, .own,i.2.n.man.sums.map Sum.row⟩).bl ⟨51108,1, .own,bys i.2.n.bld.buf⟩).bl ⟨51110,5, .own,i.2.n.kids.map Kid.row⟩).bl ⟨51112,3, .own,i.2.out.map (Pkt.row true)⟩) (fun i m=>i.1=m∧m≤l.length∧TakeIn n m i.2∧(l.drop m).foldl (eD t k d) i.2=cB t k n d l) (fun m=>l.length-m) (fun _=>([gv ((cB t k n d l).cs dF true)],[])) (0,⟨n,[]⟩) 0 ?_ ?_ ?_ ?_
 ·intro K
  conv=>lhs;whnf
  conv=>rhs;whnf
  try rfl
 ·exact⟨rfl,by omega,⟨hn.1,hn.2.1,Nat.le_refl _,Nat.zero_le _,fun _ h=>by cases h⟩,rfl⟩
 ·rintro kl ⟨m,b⟩ _ ⟨rfl,hm,hb,hs'⟩ ih
  simp only at hm hb hs'
  have hbo:=hb.o
  have hbk:=hb.k
  conv=>lhs;whnf
  apply hW.b<;>intro g1<;>conv=>lhs;whnf
  ·have g1:m<l.length:=by simpa[hrl] using g1
   rw[List.drop_eq_getElem_cons g1,List.foldl_cons]at hs'
   have q:=xJ (t:=t) (k:=k) (n:=b.n) (d:=d) (p:=l[m]) ⟨hb.s,hb.b,by omega⟩ (by omega)
   have hqo:=q.o
   repeat((first|apply hW.t|apply hW.f|(apply hW.q;exact rqc)|(refine hW.w (bR ?_) ?_;omega));conv=>lhs;whnf)
   apply hW.w (aCJ hE t k b.n d l[m] ht ⟨hb.s,hb.b,by omega⟩ hd (hp.2 _ (List.getElem_mem g1)))
   conv=>lhs;whnf
   repeat((first|apply hW.t|apply hW.f|(apply hW.q;exact rqc));conv=>lhs;whnf)
   refine hW.q (by exact⟨by decide,aCC _,by simp;omega,by simp;omega⟩) ?_
   conv=>lhs;whnf
   apply hW.b<;>intro gf<;>conv=>lhs;whnf
   ·repeat((first|apply hW.t|apply hW.f|(apply hW.q;exact rqc));conv=>lhs;whnf)
    refine ih (m+1,eD t k d b l[m]) (m+1) _ ?_ ⟨rfl,by omega,iH hb (by omega),hs'⟩ (by omega)
    intro K
    conv=>lhs;whnf
    conv=>rhs;whnf
    try rfl
    rw[show IntKind.i64.wrap ((m:Int)+1)=_ from aH (by omega)]
    unfold eD
    rw[List.map_append]
   ·repeat((first|apply hW.t|apply hW.f|(apply hW.q;exact rqc));conv=>lhs;whnf)
    refine ih (m+1,eD t k d b l[m]) (m+1) _ ?_ ⟨rfl,by omega,iH hb (by omega),hs'⟩ (by omega)
    intro K
    conv=>lhs;whnf
    conv=>rhs;whnf
    try rfl
    rw[show IntKind.i64.wrap ((m:Int)+1)=_ from aH (by omega)]
    unfold eD
    rw[List.map_append]
  ·have:m=l.length:=by simp[hrl]at g1;omega
   subst this
   rw[List.drop_length,List.foldl_nil]at hs'
   repeat((first|apply hW.t|apply hW.f|(apply hW.q;exact rqc));conv=>lhs;whnf)
   rw[← hs']
   rfl
 ·rfl
theorem nV {E:Env} (hE:Sys E) (t:Tree) (k:Int) (n:Node) (d:Disk) (l:List Pkt) (ht:t.lim 1048576) (hn:n.lim 1048576) (hd:d.lim 1048576) (hp:xW (fun B=>Pkt.lim B) 1048576 l) (hs:n.kids.length+l.length≤1048576):E 459 [gv (t.cs aP),iv k,gv (n.cs aP),gv (d.cs aP true),sv (l.map (Pkt.row true))]=some ([gv ((cB t k n d l).cs dF true)],[]):=by
 have hrl:(l.map (Pkt.row true)).length=l.length:=List.length_map _
 have a0:=cR hE n (Node.lim_mono (by decide) hn)
 refine hE.run rfl rfl fun W hW=>?_
 conv=>lhs;whnf
 repeat'((first|apply hW.t|apply hW.f|(apply hW.q;exact rqc)|apply hW.w (a0)|(apply hW.b<;>intro h))<;>conv=>lhs;whnf)
 rw[hrl]
 refine hW.loop (σ:=Nat × Actn) (γ:=Nat) (fun i s=>(((((s.sl 20 (v1 (.t (.int .i64 i.1)))).sl 11 (.box true [.t (.bool i.2.n.on), .t (.int .i64 i.2.n.boss), .t (.int .i64 i.2.n.quiet), .t (.int .i64 i.2.n.man.gen), .t (.int .i64 i.2.n.man.size), .t (.int .i64 i.2.n.man.len), .blk 51106, .t (.int .i64 i.2.n.bld.hav), .blk 51108, .t (.int .i64 i.2.n.phase), .blk 51110, .t (.int .i64 i.2.n.drops), .blk 51112])).bl ⟨51106,2, .own,i.2.n.man.sums.map Sum.row⟩).bl ⟨51108,1, .own,bys i.2.n.bld.buf⟩).bl ⟨51110,5, .own,i.2.n.kids.map Kid.row⟩).bl ⟨51112,3, .own,i.2.out.map (Pkt.row true)⟩) (fun i m=>i.1=m∧m≤l.length∧TakeIn n m i.2∧(l.drop m).foldl (eD t k d) i.2=cB t k n d l) (fun m=>l.length-m) (fun _=>([gv ((cB t k n d l).cs dF true)],[])) (0,⟨n,[]⟩) 0 ?_ ?_ ?_ ?_
 ·intro K
  conv=>lhs;whnf
  conv=>rhs;whnf
  try rfl
 ·exact⟨rfl,by omega,⟨hn.1,hn.2.1,Nat.le_refl _,Nat.zero_le _,fun _ h=>by cases h⟩,rfl⟩
 ·rintro kl ⟨m,b⟩ _ ⟨rfl,hm,hb,hs'⟩ ih
  simp only at hm hb hs'
  have hbo:=hb.o
  have hbk:=hb.k
  conv=>lhs;whnf
  apply hW.b<;>intro g1<;>conv=>lhs;whnf
  ·have g1:m<l.length:=by simpa using g1
   rw[List.drop_eq_getElem_cons g1,List.foldl_cons]at hs'
   have q:=xJ (t:=t) (k:=k) (n:=b.n) (d:=d) (p:=l[m]) ⟨hb.s,hb.b,by omega⟩ (by omega)
   have hqo:=q.o
   repeat((first|apply hW.t|apply hW.f|(apply hW.q;exact rqc)|(refine hW.w (bR ?_) ?_;omega));conv=>lhs;whnf)
   apply hW.w (aCK hE t k b.n d l[m] ht ⟨hb.s,hb.b,by omega⟩ hd (hp.2 _ (List.getElem_mem g1)))
   conv=>lhs;whnf
   repeat((first|apply hW.t|apply hW.f|(apply hW.q;exact rqc));conv=>lhs;whnf)
   refine hW.q (by exact⟨by decide,aCC _,by simp;omega,by simp;omega⟩) ?_
   conv=>lhs;whnf
   apply hW.b<;>intro gf<;>conv=>lhs;whnf
   ·repeat((first|apply hW.t|apply hW.f|(apply hW.q;exact rqc));conv=>lhs;whnf)
    refine ih (m+1,eD t k d b l[m]) (m+1) _ ?_ ⟨rfl,by omega,iH hb (by omega),hs'⟩ (by omega)
    intro K
    conv=>lhs;whnf
    conv=>rhs;whnf
    try rfl
    rw[show IntKind.i64.wrap ((m:Int)+1)=_ from aH (by omega)]
    unfold eD
    rw[List.map_append]
   ·repeat((first|apply hW.t|apply hW.f|(apply hW.q;exact rqc));conv=>lhs;whnf)
    refine ih (m+1,eD t k d b l[m]) (m+1) _ ?_ ⟨rfl,by omega,iH hb (by omega),hs'⟩ (by omega)
    intro K
    conv=>lhs;whnf
    conv=>rhs;whnf
    try rfl
    rw[show IntKind.i64.wrap ((m:Int)+1)=_ from aH (by omega)]
    unfold eD
    rw[List.map_append]
  ·have:m=l.length:=by simp at g1;omega
   subst this
   rw[List.drop_length,List.foldl_nil]at hs'
   repeat((first|apply hW.t|apply hW.f|(apply hW.q;exact rqc));conv=>lhs;whnf)
   rw[← hs']
   rfl
 ·rfl
theorem aF2 {t:Tree} {k:Int} {n:Node} {d:Disk} {l:List Pkt}:∀ {a:Actn} {m:Nat},TakeIn n m a→n.kids.length+m+l.length≤1048576→TakeIn n (m+l.length) (l.foldl (eD t k d) a):=by
 induction l with
 |nil=>intro a m h _;exact h
 |cons p r ih =>
  intro a m h hk
  rw[List.length_cons]at hk
  have:=ih (iH (t:=t) (k:=k) (d:=d) (p:=p) h (by omega)) (by omega)
  rw[List.length_cons,show m+(r.length+1)=m+1+r.length from by omega]
  exact this
theorem aDK (t:Tree) (k:Int) (n:Node) (d:Disk) (l:List Pkt) (hn:n.lim 1048576) (hs:n.kids.length+l.length≤1048576):TakeIn n l.length (cB t k n d l):=by
 have:=aF2 (t:=t) (k:=k) (n:=n) (d:=d) (l:=l) (a:=⟨n,[]⟩) (m:=0) ⟨hn.1,hn.2.1,Nat.le_refl _,Nat.zero_le _,fun _ h=>by cases h⟩ (by omega)
 rw[Nat.zero_add]at this
 exact this
theorem tC (t:Tree) (k:Int) (n:Node) (d:Disk) (l:List Pkt) (hn:n.lim 1048576) (hs:n.kids.length+l.length≤1048576):(cB t k n d l).lim 1099511627776∧(cB t k n d l).cnt≤1111606289235968:=by
 have h:=aDK t k n d l hn hs
 have ho:(cB t k n d l).out.length≤1099511627776:=by
  have:=h.o
  have:l.length*1048576≤1048576*1048576:=Nat.mul_le_mul_right _ (by omega)
  omega
 have hl:(cB t k n d l).n.lim 4194304:=⟨Nat.le_trans h.s (by decide),Nat.le_trans h.b (by decide),by have:=h.k;omega⟩
 have hc:aJ Pkt.cntE (cB t k n d l).out≤1111606255681536:=gL (m:=1011) ho fun x hx=>by
  have a0:aJ (fun _=>1) x.b≤1009:=gL (m:=1) (h.p x hx) fun _ _=>Nat.le_refl _
  simp only[Pkt.cntE];omega
 refine⟨⟨Node.lim_mono (by decide) hl,ho,fun x hx=>Nat.le_trans (h.p x hx) (by decide)⟩,?_⟩
 have:=Node.cnt_le hl
 unfold Actn.cnt
 omega
theorem qN {v:Int} {f:Int→Int} (h:¬ thn v f<0):thn v f=f v∧¬ v<0∧¬ f v<0:=by
 have:=iL h
 exact⟨kN this.1,this.1,this.2⟩
theorem qO {left n:Int} (h:¬ eT left n<0):eT left n=left-n:=by
 unfold eT at h ⊢
 split at h
 ·omega
 ·rename_i h4;rw[if_neg h4]
theorem qP {left:Int} {n:Nat} (h:¬ thn (eT left n) (fun v1=>v1)<0):thn (eT left n) (fun v1=>v1)=left-n:=by
 obtain⟨h1,h2,_⟩:=qN h
 rw[h1]
 exact qO h2
theorem aNG {α:Type} {f:α→Int→Int} (hf:∀ x v,¬ f x v<0→f x v≤v) {l:List α}:∀ {left:Int},¬ szL f l left<0→szL f l left≤left:=by
 induction l with
 |nil=>intro left _;exact Int.le_refl _
 |cons x r ih =>
  intro left h
  obtain⟨h1,h2,h3⟩:=qN (show ¬ thn (f x left) (szL f r)<0 from h)
  show thn (f x left) (szL f r)≤left
  rw[h1]
  exact Int.le_trans (ih h3) (hf x left h2)
theorem aIj {α:Type} {f:α→Int→Int} (hf:∀ x v,¬ f x v<0→f x v≤v) {l:List α} {left:Int} (h:¬ szS f l left<0):szS f l left+l.length≤left:=by
 unfold szS at h ⊢
 obtain⟨h1,h2,h3⟩:=qN h
 rw[h1]
 have:=aNG hf h3
 have:=qO h2
 omega
theorem aKn (x:Pkt) (v:Int) (h:¬ x.sz v<0):x.sz v≤v:=by
 have h:¬ thn (eT v (x.b.length:Nat)) (fun v1=>v1)<0:=h
 have:=qP h
 show thn (eT v (x.b.length:Nat)) (fun v1=>v1)≤v
 omega
theorem aKo (x:Put) (v:Int) (h:¬ x.sz v<0):x.sz v≤v:=by
 have h:¬ thn (eT v (x.b.length:Nat)) (fun v1=>v1)<0:=h
 have:=qP h
 show thn (eT v (x.b.length:Nat)) (fun v1=>v1)≤v
 omega
theorem aIk (x:Tree) (v:Int) (h:¬ x.sz v<0):x.sz v≤v:=by
 have h:¬ thn (eT v (x.up.length:Nat)) (fun v1=>v1)<0:=h
 have:=qP h
 show thn (eT v (x.up.length:Nat)) (fun v1=>v1)≤v
 omega
theorem aIl (x:Disk) (v:Int) (h:¬ x.sz v<0):x.sz v≤v:=by
 unfold Disk.sz at h ⊢
 obtain⟨h1,h2,h⟩:=qN h
 rw[h1]
 have e2:=qO h2
 obtain⟨h3,h4,h⟩:=qN h
 rw[h3]
 have e4:=qO h4
 obtain⟨h5,h6,h⟩:=qN h
 rw[h5]
 have:=aIj aKo h6
 simp only at *
 omega
theorem aF3 (x:Node) (v:Int) (h:¬ x.sz v<0):x.sz v+x.kids.length≤v:=by
 unfold Node.sz at h ⊢
 obtain⟨h1,h2,h⟩:=qN h
 rw[h1]
 have e2:=qP (show ¬ thn (eT v (x.man.sums.length:Nat)) (fun v1=>v1)<0 from h2)
 have e2:x.man.sz v=v-x.man.sums.length:=e2
 obtain⟨h3,h4,h⟩:=qN h
 rw[h3]
 have e4:=qP (show ¬ thn (eT (x.man.sz v) (x.bld.buf.length:Nat)) (fun v1=>v1)<0 from h4)
 have e4:x.bld.sz (x.man.sz v)=x.man.sz v-x.bld.buf.length:=e4
 obtain⟨h5,h6,h⟩:=qN h
 rw[h5]
 have e6:=qO h6
 simp only at *
 omega
theorem aF4 {E:Env} (hE:Sys E) (aT:Tree) (aK:Int) (aN:Node) (aD:Disk) (aL:List Pkt) (haT:aT.lim 140737488355328) (haN:aN.lim 140737488355328) (haD:aD.lim 140737488355328) (haL:xW (fun B=>Pkt.lim B) 140737488355328 aL) :
 E 520 [gv (aT.cs aP),iv aK,gv (aN.cs aP),gv (aD.cs aP false),sv (aL.map (Pkt.row false))]=some ([bv true],[]):=by
 refine hE.run rfl rfl fun W hW=>?_
 conv=>lhs;whnf
 have r0:rg 1048576:=⟨by omega,by omega⟩
 repeat((first|apply hW.t|apply hW.f|(apply hW.q;exact rqc));conv=>lhs;whnf)
 apply hW.w (aJU hE aT (1048576) haT r0)
 conv=>lhs;whnf
 try(apply hW.q;exact rqc;conv=>lhs;whnf)
 apply hW.b<;>intro g0<;>conv=>lhs;whnf
 ·rfl
 ·have laT:=Tree.sz_ok r0 (by simpa using g0)
  have r1:rg (aT.sz (1048576)):=(Tree.sz_rg r0)
  repeat((first|apply hW.t|apply hW.f|(apply hW.q;exact rqc));conv=>lhs;whnf)
  apply hW.w (aJY hE aN (aT.sz (1048576)) haN r1)
  conv=>lhs;whnf
  try(apply hW.q;exact rqc;conv=>lhs;whnf)
  apply hW.b<;>intro g1<;>conv=>lhs;whnf
  ·rfl
  ·have laN:=Node.sz_ok r1 (by simpa using g1)
   have r2:rg (aN.sz (aT.sz (1048576))):=(Node.sz_rg r1)
   repeat((first|apply hW.t|apply hW.f|(apply hW.q;exact rqc));conv=>lhs;whnf)
   apply hW.w (aJW hE aD (aN.sz (aT.sz (1048576))) haD r2)
   conv=>lhs;whnf
   try(apply hW.q;exact rqc;conv=>lhs;whnf)
   apply hW.b<;>intro g2<;>conv=>lhs;whnf
   ·rfl
   ·have laD:=Disk.sz_ok r2 (by simpa using g2)
    have r3:rg (aD.sz (aN.sz (aT.sz (1048576)))):=(Disk.sz_rg r2)
    repeat((first|apply hW.t|apply hW.f|(apply hW.q;exact rqc));conv=>lhs;whnf)
    apply hW.w (aDp hE aL (aD.sz (aN.sz (aT.sz (1048576)))) haL r3)
    conv=>lhs;whnf
    try(apply hW.q;exact rqc;conv=>lhs;whnf)
    apply hW.b<;>intro g3<;>conv=>lhs;whnf
    ·rfl
    ·have laL:=aK1 (fun _ _=>Pkt.sz_rg) (fun _ _=>Pkt.sz_ok) r3 (by simpa using g3)
     have r4:rg (szS Pkt.sz aL (aD.sz (aN.sz (aT.sz (1048576))))):=(aHv (fun _ _=>Pkt.sz_rg) r3)
     repeat((first|apply hW.t|apply hW.f|(apply hW.q;exact rqc));conv=>lhs;whnf)
     apply hW.w (uG hE aT laT)
     conv=>lhs;whnf
     repeat((first|apply hW.t|apply hW.f|(apply hW.q;exact rqc));conv=>lhs;whnf)
     apply hW.w (uI hE aN laN)
     conv=>lhs;whnf
     repeat((first|apply hW.t|apply hW.f|(apply hW.q;exact rqc));conv=>lhs;whnf)
     apply hW.w (uH hE aD laD)
     conv=>lhs;whnf
     repeat((first|apply hW.t|apply hW.f|(apply hW.q;exact rqc));conv=>lhs;whnf)
     apply hW.w (jV hE aL laL)
     conv=>lhs;whnf
     repeat((first|apply hW.t|apply hW.f|(apply hW.q;exact rqc));conv=>lhs;whnf)
     have hsum:aN.kids.length+aL.length≤1048576:=by
      have q0:=aIk aT _ (of_decide_eq_false g0)
      have q1:=aF3 aN _ (of_decide_eq_false g1)
      have q2:=aIl aD _ (of_decide_eq_false g2)
      have q3:=aIj aKn (of_decide_eq_false g3)
      have g3:=of_decide_eq_false g3
      omega
     apply hW.w (zK hE aT aK aN aD aL laT laN laD laL hsum)
     conv=>lhs;whnf
     try(apply hW.q;exact rqc;conv=>lhs;whnf)
     have lres:=(tC aT aK aN aD aL laN hsum).1
     repeat((first|apply hW.t|apply hW.f|(apply hW.q;exact rqc));conv=>lhs;whnf)
     apply hW.w (uG hE aT laT)
     conv=>lhs;whnf
     repeat((first|apply hW.t|apply hW.f|(apply hW.q;exact rqc));conv=>lhs;whnf)
     apply hW.w (uI hE aN laN)
     conv=>lhs;whnf
     repeat((first|apply hW.t|apply hW.f|(apply hW.q;exact rqc));conv=>lhs;whnf)
     apply hW.w (uH hE aD laD)
     conv=>lhs;whnf
     repeat((first|apply hW.t|apply hW.f|(apply hW.q;exact rqc));conv=>lhs;whnf)
     apply hW.w (jV hE aL laL)
     conv=>lhs;whnf
     repeat((first|apply hW.t|apply hW.f|(apply hW.q;exact rqc));conv=>lhs;whnf)
     apply hW.w (nV hE aT aK aN aD aL laT laN laD laL hsum)
     conv=>lhs;whnf
     repeat((first|apply hW.t|apply hW.f|(apply hW.q;exact rqc));conv=>lhs;whnf)
     apply hW.w (aDq hE (cB aT aK aN aD aL) (cB aT aK aN aD aL) lres)
     conv=>lhs;whnf
     repeat((first|apply hW.t|apply hW.f|(apply hW.q;exact rqc));conv=>lhs;whnf)
     try(apply hW.bf (by first|(exact decide_eq_false (by omega))|(simp;done)|(simp;omega));conv=>lhs;whnf)
     repeat((first|apply hW.t|apply hW.f|(apply hW.q;exact rqc));conv=>lhs;whnf)
     apply hW.w (uG hE aT laT)
     conv=>lhs;whnf
     repeat((first|apply hW.t|apply hW.f|(apply hW.q;exact rqc));conv=>lhs;whnf)
     apply hW.w (aJV hE aT aT (Tree.lim_mono (by decide:4194304≤1099511627776) (Tree.lim_mono (by decide:1048576≤4194304) laT)))
     conv=>lhs;whnf
     repeat((first|apply hW.t|apply hW.f|(apply hW.q;exact rqc));conv=>lhs;whnf)
     try(apply hW.bf (by first|(exact decide_eq_false (by omega))|(simp;done)|(simp;omega));conv=>lhs;whnf)
     repeat((first|apply hW.t|apply hW.f|(apply hW.q;exact rqc));conv=>lhs;whnf)
     apply hW.w (uI hE aN laN)
     conv=>lhs;whnf
     repeat((first|apply hW.t|apply hW.f|(apply hW.q;exact rqc));conv=>lhs;whnf)
     apply hW.w (aEz hE aN aN (Node.lim_mono (by decide:4194304≤1099511627776) (Node.lim_mono (by decide:1048576≤4194304) laN)))
     conv=>lhs;whnf
     repeat((first|apply hW.t|apply hW.f|(apply hW.q;exact rqc));conv=>lhs;whnf)
     try(apply hW.bf (by first|(exact decide_eq_false (by omega))|(simp;done)|(simp;omega));conv=>lhs;whnf)
     repeat((first|apply hW.t|apply hW.f|(apply hW.q;exact rqc));conv=>lhs;whnf)
     apply hW.w (uH hE aD laD)
     conv=>lhs;whnf
     repeat((first|apply hW.t|apply hW.f|(apply hW.q;exact rqc));conv=>lhs;whnf)
     apply hW.w (aJX hE aD aD (Disk.lim_mono (by decide:4194304≤1099511627776) (Disk.lim_mono (by decide:1048576≤4194304) laD)))
     conv=>lhs;whnf
     repeat((first|apply hW.t|apply hW.f|(apply hW.q;exact rqc));conv=>lhs;whnf)
     try(apply hW.bf (by first|(exact decide_eq_false (by omega))|(simp;done)|(simp;omega));conv=>lhs;whnf)
     repeat((first|apply hW.t|apply hW.f|(apply hW.q;exact rqc));conv=>lhs;whnf)
     apply hW.w (jV hE aL laL)
     conv=>lhs;whnf
     repeat((first|apply hW.t|apply hW.f|(apply hW.q;exact rqc));conv=>lhs;whnf)
     apply hW.w (vR hE aL aL (lF (fun _ hx=>Pkt.lim_mono (by decide:4194304≤1099511627776) hx) (by decide:4194304≤1099511627776) (lF (fun _ hx=>Pkt.lim_mono (by decide:1048576≤4194304) hx) (by decide:1048576≤4194304) laL)))
     conv=>lhs;whnf
     repeat((first|apply hW.t|apply hW.f|(apply hW.q;exact rqc));conv=>lhs;whnf)
     try(apply hW.bf (by first|(exact decide_eq_false (by omega))|(simp;done)|(simp;omega));conv=>lhs;whnf)
     have ckx039:aT.cnt≤288230376151711744:=Nat.le_trans (Tree.cnt_le (Tree.lim_mono (by decide:1048576≤4194304) laT)) (by decide)
     repeat((first|apply hW.t|apply hW.f|(apply hW.q;exact rqc));conv=>lhs;whnf)
     apply hW.w (aFK hE aT (1) (by omega) (by omega))
     conv=>lhs;whnf
     repeat((first|apply hW.t|apply hW.f|(apply hW.q;exact rqc));conv=>lhs;whnf)
     have ckx240:aN.cnt≤288230376151711744:=Nat.le_trans (Node.cnt_le (Node.lim_mono (by decide:1048576≤4194304) laN)) (by decide)
     repeat((first|apply hW.t|apply hW.f|(apply hW.q;exact rqc));conv=>lhs;whnf)
     apply hW.w (aAo hE aN (1+(aT.cnt:Nat)) (by omega) (by omega))
     conv=>lhs;whnf
     repeat((first|apply hW.t|apply hW.f|(apply hW.q;exact rqc));conv=>lhs;whnf)
     have ckx341:aD.cnt≤288230376151711744:=Nat.le_trans (Disk.cnt_le (Disk.lim_mono (by decide:1048576≤4194304) laD)) (by decide)
     repeat((first|apply hW.t|apply hW.f|(apply hW.q;exact rqc));conv=>lhs;whnf)
     apply hW.w (aFL hE aD (1+(aT.cnt:Nat)+(aN.cnt:Nat)) (by omega) (by omega))
     conv=>lhs;whnf
     repeat((first|apply hW.t|apply hW.f|(apply hW.q;exact rqc));conv=>lhs;whnf)
     have ckx442:aJ Pkt.cntE aL≤288230376151711744:=Nat.le_trans (gL (m:=4194306) (lF (fun _ hx=>Pkt.lim_mono (by decide:1048576≤4194304) hx) (by decide:1048576≤4194304) laL).1 fun x hx=>Pkt.cntE_le ((lF (fun _ hx=>Pkt.lim_mono (by decide:1048576≤4194304) hx) (by decide:1048576≤4194304) laL).2 x hx)) (by decide)
     repeat((first|apply hW.t|apply hW.f|(apply hW.q;exact rqc));conv=>lhs;whnf)
     apply hW.w (pU hE aL (1+(aT.cnt:Nat)+(aN.cnt:Nat)+(aD.cnt:Nat)) (by omega) (by omega))
     conv=>lhs;whnf
     repeat((first|apply hW.t|apply hW.f|(apply hW.q;exact rqc));conv=>lhs;whnf)
     try(apply hW.bf (by first|(exact decide_eq_false (by omega))|(simp;done)|(simp;omega));conv=>lhs;whnf)
     repeat((first|apply hW.t|apply hW.f|(apply hW.q;exact rqc));conv=>lhs;whnf)
     apply hW.w (aDq hE (cB aT aK aN aD aL) (cB aT aK aN aD aL) lres)
     conv=>lhs;whnf
     repeat((first|apply hW.t|apply hW.f|(apply hW.q;exact rqc));conv=>lhs;whnf)
     try(apply hW.bf (by first|(exact decide_eq_false (by omega))|(simp;done)|(simp;omega));conv=>lhs;whnf)
     have cmg047:(cB aT aK aN aD aL).cnt≤288230376151711744:=Nat.le_trans (tC aT aK aN aD aL laN hsum).2 (by decide)
     repeat((first|apply hW.t|apply hW.f|(apply hW.q;exact rqc));conv=>lhs;whnf)
     apply hW.w (aHz hE (cB aT aK aN aD aL) (1) (by omega) (by omega))
     conv=>lhs;whnf
     repeat((first|apply hW.t|apply hW.f|(apply hW.q;exact rqc));conv=>lhs;whnf)
     repeat((first|apply hW.t|apply hW.f|(apply hW.q;exact rqc));conv=>lhs;whnf)
     apply hW.w (aCm hE (cB aT aK aN aD aL) 1 (by omega) (by omega))
     conv=>lhs;whnf
     repeat((first|apply hW.t|apply hW.f|(apply hW.q;exact rqc));conv=>lhs;whnf)
     try(apply hW.bf (by first|(exact decide_eq_false (by omega))|(simp;done)|(simp;omega));conv=>lhs;whnf)
     repeat((first|apply hW.t|apply hW.f|(apply hW.q;exact rqc));conv=>lhs;whnf)
     try(apply hW.bf (by first|(exact decide_eq_false (by omega))|(simp;done)|(simp;omega));conv=>lhs;whnf)
     repeat((first|apply hW.t|apply hW.f|(apply hW.q;exact rqc));conv=>lhs;whnf)
     repeat((first|apply hW.t|apply hW.f|(apply hW.q;exact rqc));conv=>lhs;whnf)
     apply hW.w (uG hE aT laT)
     conv=>lhs;whnf
     repeat((first|apply hW.t|apply hW.f|(apply hW.q;exact rqc));conv=>lhs;whnf)
     apply hW.w (uI hE aN laN)
     conv=>lhs;whnf
     repeat((first|apply hW.t|apply hW.f|(apply hW.q;exact rqc));conv=>lhs;whnf)
     apply hW.w (uH hE aD laD)
     conv=>lhs;whnf
     repeat((first|apply hW.t|apply hW.f|(apply hW.q;exact rqc));conv=>lhs;whnf)
     apply hW.w (jV hE aL laL)
     conv=>lhs;whnf
     repeat((first|apply hW.t|apply hW.f|(apply hW.q;exact rqc));conv=>lhs;whnf)
     apply hW.w (nV hE aT aK aN aD aL laT laN laD laL hsum)
     conv=>lhs;whnf
     repeat((first|apply hW.t|apply hW.f|(apply hW.q;exact rqc));conv=>lhs;whnf)
     apply hW.w (aDq hE (cB aT aK aN aD aL) (cB aT aK aN aD aL) lres)
     conv=>lhs;whnf
     repeat((first|apply hW.t|apply hW.f|(apply hW.q;exact rqc));conv=>lhs;whnf)
     try(apply hW.bf (by first|(exact decide_eq_false (by omega))|(simp;done)|(simp;omega));conv=>lhs;whnf)
     repeat((first|apply hW.t|apply hW.f|(apply hW.q;exact rqc));conv=>lhs;whnf)
     apply hW.w (aCm hE (cB aT aK aN aD aL) 1 (by omega) (by omega))
     conv=>lhs;whnf
     repeat((first|apply hW.t|apply hW.f|(apply hW.q;exact rqc));conv=>lhs;whnf)
     try(apply hW.bf (by first|(exact decide_eq_false (by omega))|(simp;done)|(simp;omega));conv=>lhs;whnf)
     repeat((first|apply hW.t|apply hW.f|(apply hW.q;exact rqc));conv=>lhs;whnf)
     try(apply hW.bf (by first|(exact decide_eq_false (by omega))|(simp;done)|(simp;omega));conv=>lhs;whnf)
     repeat((first|apply hW.t|apply hW.f|(apply hW.q;exact rqc));conv=>lhs;whnf)
     rfl
theorem aIm {row:List Sh} {e:List T} (hl:e.length=row.length) (h:∀ (j:Nat) s t,row[j]?=some s→e[j]?=some t→Fit s t):All2 Fit row e:=by
 induction row generalizing e with
 |nil=>cases e with
  |nil=>exact .nil
  |cons _ _=>cases hl
 |cons s r ih=>cases e with
  |nil=>cases hl
  |cons t u=>exact .cons (h 0 s t rfl rfl) (ih (by simpa using hl) fun j s t h1 h2=>h (j+1) s t (by simpa using h1) (by simpa using h2))
theorem rV {α:Type} (f:α→List T) (Q:α→Prop) {row:List Sh} {by_:Nat} {t:T} (hr:∀ e:List T,All2 Fit row e→∃ x,e=f x∧Q x) (h:Fit (.sl row by_) t):∃ l:List α,t = .sl false (l.map f)∧l.length*by_≤reachBytes∧∀ x∈l,Q x:=by
 cases h with
 |sl h hs hx =>
  rename_i es
  have:∃ l:List α,es=l.map f∧∀ x∈l,Q x:=by
   clear h
   induction es with
   |nil=>exact⟨[],rfl,by simp⟩
   |cons e r ih =>
    obtain⟨l,h1,h2⟩:=ih (fun e he=>hs e (by simp[he])) fun i e he j s t h3 h4=>hx (i+1) e (by simpa using he) j s t h3 h4
    obtain⟨x,h3,h4⟩:=hr e (aIm (hs e (by simp)) fun j s t h5 h6=>hx 0 e rfl j s t h5 h6)
    exact⟨x::l,by rw[h1,h3];rfl,fun y hy=>by rcases List.mem_cons.mp hy with rfl|hy;exact h4;exact h2 y hy⟩
  obtain⟨l,rfl,hq⟩:=this
  exact⟨l,rfl,by simpa using h,hq⟩
abbrev okI (n:Int):Prop := -9223372036854775808≤n∧n≤9223372036854775807
theorem cE {t:T} (h:Fit (.int .i64) t):∃ n,t = .int .i64 n∧okI n:=by
 cases h with
 |int h=>exact⟨_,rfl,by simpa[Lit.wf,IntKind.min,IntKind.max,IntKind.bits,IntKind.signed] using h⟩
theorem aKp {e:List T} (h:All2 Fit [.int .u8] e):∃ x:UInt8,e=mX x∧True:=by
 cases h with
 |cons h t =>
  cases t
  cases h with
  |int h =>
   rename_i n
   have h:0≤n∧n≤255:=by simpa[Lit.wf,IntKind.min,IntKind.max,IntKind.bits,IntKind.signed] using h
   refine⟨UInt8.ofNat n.toNat,?_,trivial⟩
   simp only[mX,UInt8.toNat_ofNat']
   congr 2
   omega
theorem rW {n by_:Nat} (hb:0<by_) (h:n*by_≤reachBytes):n≤2 ^ 47:=by
 have:n*1≤n*by_:=Nat.mul_le_mul_left _ hb
 unfold reachBytes at h
 omega
def aIt (P:Program) (t:TypeId):Bool:=match P.underlying t with|some (.struct _)=>true|_=>false
theorem aMA {P:Program} {t:TypeId} {a:A} {sh:Sh} (h:aHe P t a) (hs:xK P 12 t=some [sh]) (hu:aIt P t=false):∃ x,a = .v false [.t x]∧Fit sh x:=by
 obtain⟨sh',ts,h1,h2,h3⟩:=h
 rw[hs]at h1
 cases h1
 cases h2 with
 |cons h2 t=>cases t;exact⟨_,by rw[h3];exact congrArg (fun g=>A.v g _) hu,h2⟩
theorem aR {α β:Type} {R:α→β→Prop} {a:α} {l:List α} {e:List β} (h:All2 R (a::l) e):∃ x r,e=x::r∧R a x∧All2 R l r:=by
 cases h with
 |cons h t=>exact⟨_,_,rfl,h,t⟩
theorem aKq {t:T} (h:Fit .bool t):∃ b,t = .bool b:=by cases h;exact⟨_,rfl⟩
theorem aKr {e:List T} (h:All2 Fit [.int .i64] e):∃ x:Int,e=qQ x∧True:=by
 obtain⟨_,_,rfl,h0,t⟩:=aR h
 obtain⟨y,rfl,_⟩:=cE h0
 cases t
 exact⟨y,rfl,trivial⟩
theorem aEQ {P:Program} {t:TypeId} {a:A} {sh:Sh} (h:aHe P t a) (hs:xK P 12 t=some [sh]) (hu:aIt P t=false):∃ x,a = .v false [.t x]∧Fit sh x:=aMA h hs hu
theorem aMB {P:Program} {As:List A} (h:All2 (aHe P) [] As):As=[]:=by cases h;rfl
theorem mC {t:T} (h:Fit (.sl [.int .u8] 1) t):∃ l:List UInt8,t = .sl false (bys l)∧l.length≤140737488355328:=by
 obtain⟨l,h1,h2,h3⟩:=rV mX (fun _=>True) (fun e he=>aKp he) h
 exact⟨l,h1,rW (by decide) h2⟩
theorem aKs {t:T} (h:Fit (.sl [.int .i64] 8) t):∃ l:List Int,t = .sl false (bN l)∧l.length≤140737488355328:=by
 obtain⟨l,h1,h2,h3⟩:=rV qQ (fun _=>True) (fun e he=>aKr he) h
 exact⟨l,h1,rW (by decide) h2⟩
theorem aDL {e:List T} (h:All2 Fit [.int .i64, .int .i64] e):∃ x:Sum,e=Sum.row x∧True:=by
 obtain⟨_,_,rfl,h0,t0⟩:=aR h
 obtain⟨y0,rfl,_⟩:=cE h0
 obtain⟨_,_,rfl,h1,t1⟩:=aR t0
 obtain⟨y1,rfl,_⟩:=cE h1
 cases t1
 exact⟨⟨y0,y1⟩,rfl,trivial⟩
theorem aKt {t:T} (h:Fit (.sl [.int .i64, .int .i64] 16) t):∃ l:List Sum,t = .sl false (l.map Sum.row)∧l.length≤140737488355328:=by
 obtain⟨l,h1,h2,h3⟩:=rV Sum.row (fun _=>True) (fun e he=>aDL he) h
 exact⟨l,h1,rW (by decide) h2⟩
theorem aDM {e:List T} (h:All2 Fit [.int .i64, .int .i64, .int .i64, .int .i64, .int .i64] e):∃ x:Kid,e=Kid.row x∧True:=by
 obtain⟨_,_,rfl,h0,t0⟩:=aR h
 obtain⟨y0,rfl,_⟩:=cE h0
 obtain⟨_,_,rfl,h1,t1⟩:=aR t0
 obtain⟨y1,rfl,_⟩:=cE h1
 obtain⟨_,_,rfl,h2,t2⟩:=aR t1
 obtain⟨y2,rfl,_⟩:=cE h2
 obtain⟨_,_,rfl,h3,t3⟩:=aR t2
 obtain⟨y3,rfl,_⟩:=cE h3
 obtain⟨_,_,rfl,h4,t4⟩:=aR t3
 obtain⟨y4,rfl,_⟩:=cE h4
 cases t4
 exact⟨⟨y0,y1,y2,y3,y4⟩,rfl,trivial⟩
theorem aKu {t:T} (h:Fit (.sl [.int .i64, .int .i64, .int .i64, .int .i64, .int .i64] 40) t):∃ l:List Kid,t = .sl false (l.map Kid.row)∧l.length≤140737488355328:=by
 obtain⟨l,h1,h2,h3⟩:=rV Kid.row (fun _=>True) (fun e he=>aDM he) h
 exact⟨l,h1,rW (by decide) h2⟩
theorem aDN {e:List T} (h:All2 Fit [.int .i64, .int .i64, .sl [.int .u8] 1, .int .i64, .int .i64, .int .i64] e):∃ x:Put,e=(Put.row false) x∧x.lim 140737488355328:=by
 obtain⟨_,_,rfl,h0,t0⟩:=aR h
 obtain⟨y0,rfl,_⟩:=cE h0
 obtain⟨_,_,rfl,h1,t1⟩:=aR t0
 obtain⟨y1,rfl,_⟩:=cE h1
 obtain⟨_,_,rfl,h2,t2⟩:=aR t1
 obtain⟨y2,rfl,l2⟩:=mC h2
 obtain⟨_,_,rfl,h3,t3⟩:=aR t2
 obtain⟨y3,rfl,_⟩:=cE h3
 obtain⟨_,_,rfl,h4,t4⟩:=aR t3
 obtain⟨y4,rfl,_⟩:=cE h4
 obtain⟨_,_,rfl,h5,t5⟩:=aR t4
 obtain⟨y5,rfl,_⟩:=cE h5
 cases t5
 exact⟨⟨y0,y1,y2,⟨y3,y4,y5⟩⟩,rfl,l2⟩
theorem aKv {t:T} (h:Fit (.sl [.int .i64, .int .i64, .sl [.int .u8] 1, .int .i64, .int .i64, .int .i64] 64) t):∃ l:List Put,t = .sl false (l.map (Put.row false))∧xW (fun B=>Put.lim B) 140737488355328 l:=by
 obtain⟨l,h1,h2,h3⟩:=rV (Put.row false) (fun x=>Put.lim 140737488355328 x) (fun e he=>aDN he) h
 exact⟨l,h1,⟨rW (by decide) h2,h3⟩⟩
theorem zL {e:List T} (h:All2 Fit [.int .i64, .int .i64, .sl [.int .u8] 1] e):∃ x:Pkt,e=(Pkt.row false) x∧x.lim 140737488355328:=by
 obtain⟨_,_,rfl,h0,t0⟩:=aR h
 obtain⟨y0,rfl,_⟩:=cE h0
 obtain⟨_,_,rfl,h1,t1⟩:=aR t0
 obtain⟨y1,rfl,_⟩:=cE h1
 obtain⟨_,_,rfl,h2,t2⟩:=aR t1
 obtain⟨y2,rfl,l2⟩:=mC h2
 cases t2
 exact⟨⟨y0,y1,y2⟩,rfl,l2⟩
theorem aDO {t:T} (h:Fit (.sl [.int .i64, .int .i64, .sl [.int .u8] 1] 40) t):∃ l:List Pkt,t = .sl false (l.map (Pkt.row false))∧xW (fun B=>Pkt.lim B) 140737488355328 l:=by
 obtain⟨l,h1,h2,h3⟩:=rV (Pkt.row false) (fun x=>Pkt.lim 140737488355328 x) (fun e he=>zL he) h
 exact⟨l,h1,⟨rW (by decide) h2,h3⟩⟩
theorem aKw {P:Program} {t:TypeId} {a:A} (h:aHe P t a) (hs:xK P 12 t=some [.sl [.int .i64] 8]) (hu:aIt P t=true):∃ x:Tree,a=gv (x.cs aP)∧x.lim 140737488355328:=by
 obtain⟨sh,ts,h1,h,h3⟩:=h
 rw[hs]at h1
 cases h1
 have h3:a = .v true (ts.map CA.t):=h3.trans (congrArg (fun g=>A.v g _) hu)
 subst h3
 obtain⟨_,_,rfl,h0,t0⟩:=aR h
 obtain⟨y0,rfl,l0⟩:=aKs h0
 cases t0
 exact⟨⟨y0⟩,rfl,l0⟩
theorem aKx {P:Program} {t:TypeId} {a:A} (h:aHe P t a) (hs:xK P 12 t=some [.sl [.int .u8] 1, .sl [.int .u8] 1, .int .i64, .int .i64, .int .i64, .sl [.int .i64, .int .i64, .sl [.int .u8] 1, .int .i64, .int .i64, .int .i64] 64]) (hu:aIt P t=true):∃ x:Disk,a=gv (x.cs aP false)∧x.lim 140737488355328:=by
 obtain⟨sh,ts,h1,h,h3⟩:=h
 rw[hs]at h1
 cases h1
 have h3:a = .v true (ts.map CA.t):=h3.trans (congrArg (fun g=>A.v g _) hu)
 subst h3
 obtain⟨_,_,rfl,h0,t0⟩:=aR h
 obtain⟨y0,rfl,l0⟩:=mC h0
 obtain⟨_,_,rfl,h1,t1⟩:=aR t0
 obtain⟨y1,rfl,l1⟩:=mC h1
 obtain⟨_,_,rfl,h2,t2⟩:=aR t1
 obtain⟨y2,rfl,_⟩:=cE h2
 obtain⟨_,_,rfl,h3,t3⟩:=aR t2
 obtain⟨y3,rfl,_⟩:=cE h3
 obtain⟨_,_,rfl,h4,t4⟩:=aR t3
 obtain⟨y4,rfl,_⟩:=cE h4
 obtain⟨_,_,rfl,h5,t5⟩:=aR t4
 obtain⟨y5,rfl,l5⟩:=aKv h5
 cases t5
 exact⟨⟨y0,y1,⟨y2,y3,y4⟩,y5⟩,rfl,⟨l0,l1,l5⟩⟩
theorem aKy {P:Program} {t:TypeId} {a:A} (h:aHe P t a) (hs:xK P 12 t=some [.bool, .int .i64, .int .i64, .int .i64, .int .i64, .int .i64, .sl [.int .i64, .int .i64] 16, .int .i64, .sl [.int .u8] 1, .int .i64, .sl [.int .i64, .int .i64, .int .i64, .int .i64, .int .i64] 40, .int .i64]) (hu:aIt P t=true):∃ x:Node,a=gv (x.cs aP)∧x.lim 140737488355328:=by
 obtain⟨sh,ts,h1,h,h3⟩:=h
 rw[hs]at h1
 cases h1
 have h3:a = .v true (ts.map CA.t):=h3.trans (congrArg (fun g=>A.v g _) hu)
 subst h3
 obtain⟨_,_,rfl,h0,t0⟩:=aR h
 obtain⟨y0,rfl⟩:=aKq h0
 obtain⟨_,_,rfl,h1,t1⟩:=aR t0
 obtain⟨y1,rfl,_⟩:=cE h1
 obtain⟨_,_,rfl,h2,t2⟩:=aR t1
 obtain⟨y2,rfl,_⟩:=cE h2
 obtain⟨_,_,rfl,h3,t3⟩:=aR t2
 obtain⟨y3,rfl,_⟩:=cE h3
 obtain⟨_,_,rfl,h4,t4⟩:=aR t3
 obtain⟨y4,rfl,_⟩:=cE h4
 obtain⟨_,_,rfl,h5,t5⟩:=aR t4
 obtain⟨y5,rfl,_⟩:=cE h5
 obtain⟨_,_,rfl,h6,t6⟩:=aR t5
 obtain⟨y6,rfl,l6⟩:=aKt h6
 obtain⟨_,_,rfl,h7,t7⟩:=aR t6
 obtain⟨y7,rfl,_⟩:=cE h7
 obtain⟨_,_,rfl,h8,t8⟩:=aR t7
 obtain⟨y8,rfl,l8⟩:=mC h8
 obtain⟨_,_,rfl,h9,t9⟩:=aR t8
 obtain⟨y9,rfl,_⟩:=cE h9
 obtain⟨_,_,rfl,h10,t10⟩:=aR t9
 obtain⟨y10,rfl,l10⟩:=aKu h10
 obtain⟨_,_,rfl,h11,t11⟩:=aR t10
 obtain⟨y11,rfl,_⟩:=cE h11
 cases t11
 exact⟨⟨y0,y1,y2,⟨y3,y4,y5,y6⟩,⟨y7,y8⟩,y9,y10,y11⟩,rfl,⟨l6,l8,l10⟩⟩
end Tev
