/- What the functions compute, one contract each. -/
import Derived.Test.YtjelbnjaedoiaaaGreatTakeCt3
set_option linter.unusedSimpArgs false
set_option linter.unusedVariables false
namespace Tev
open Go
set_option maxRecDepth 50000
set_option maxHeartbeats 20000000
theorem aKT:∀ {m k acc x c:Nat} {l:aE},rdF m k acc l=some (x,c,true)→∃ n,x=acc+n*128 ^ k∧n<128 ^ m∧(k=0∨0<n)∧∀ f,m≤f+1→pZ f n++l.drop (c-k)=l∧(pZ f n).length=c-k:=by
 intro m
 induction m with
 |zero=>intro k acc x c l h;cases h
 |succ m ih =>
  intro k acc x c l h
  cases l with
  |nil=>cases h
  |cons y t =>
   simp only[rdF]at h
   have hy:y.toNat<256:=y.toNat_lt
   split at h
   ·rename_i hs
    obtain⟨h1,h2,h3⟩:acc+y.toNat*128 ^ k=x∧k+1=c∧(k=0∨0<y.toNat):=by simpa using h
    subst h1 h2
    refine⟨y.toNat,rfl,?_,h3,?_⟩
    ·have:128 ^ 1≤128 ^ (m+1):=Nat.pow_le_pow_right (by decide) (by omega)
     omega
    ·intro f _
     have e:pZ f y.toNat=[y]:=by
      cases f with
      |zero=>simp only[pZ];rw[aBk]
      |succ f=>simp only[pZ];rw[if_pos hs,aBk]
     rw[e,show k+1-k=1 from by omega]
     exact⟨rfl,rfl⟩
   ·rename_i hs
    have hc:=aMa h
    obtain⟨n,e1,e2,e3,e4⟩:=ih h
    have hn:0<n:=by omega
    refine⟨y.toNat%128+128*n,?_,?_, .inr (by omega),?_⟩
    ·rw[e1,Nat.pow_succ,Nat.add_mul,Nat.add_assoc]
     congr 2
     rw[Nat.mul_comm (128 ^ k),← Nat.mul_assoc,Nat.mul_comm n]
    ·rw[Nat.pow_succ]
     omega
    ·intro f hf
     obtain⟨f,rfl⟩:∃ j,f=j+1:=by
      cases f with
      |zero =>
       have:m=0:=by omega
       subst this
       cases h
      |succ f=>exact⟨f,rfl⟩
     have e:=e4 f (by omega)
     have hv:pZ (f+1) (y.toNat%128+128*n)=y::pZ f n:=by
      simp only[pZ]
      rw[if_neg (by omega),show(y.toNat%128+128*n)%128+128=y.toNat from by omega,aBk,show(y.toNat%128+128*n)/128=n from by omega]
     rw[hv,show c-k=(c-(k+1))+1 from by omega,List.drop_succ_cons,List.cons_append,e.1,List.length_cons,e.2]
     exact⟨rfl,rfl⟩
theorem aNj {n:Nat} (h:n≤1000000000000) (t:aE):gV (rD n++t)=some (n,(rD n).length):=by
 unfold gV rD
 rw[aKS (by
  have:(128:Nat) ^ 9=9223372036854775808:=by decide
  omega) (by
   have:(128:Nat) ^ 6=4398046511104:=by decide
   omega) (by decide)]
 simp[h]
theorem aNk {n:Nat} (h:n≤562949953421311) (t:aE):gS (rD n++t)=some (n,(rD n).length):=by
 unfold gS rD
 rw[aKS (by
  have:(128:Nat) ^ 9=9223372036854775808:=by decide
  omega) (by
   have:(128:Nat) ^ 8=72057594037927936:=by decide
   omega) (by decide)]
 simp
theorem aNl {l:aE} {n c:Nat} (h:gV l=some (n,c)):rD n++l.drop c=l∧(rD n).length=c∧n≤1000000000000:=by
 unfold gV at h
 split at h
 ·rename_i x y he
  split at h
  ·rename_i hn
   cases h
   obtain⟨n',e1,e2,e3,e4⟩:=aKT he
   have e:=e4 8 (by decide)
   have:n'=n:=by simp at e1;omega
   subst this
   exact⟨e.1,e.2,hn⟩
  ·cases h
 ·cases h
theorem aNm {l:aE} {n c:Nat} (h:gS l=some (n,c)):rD n++l.drop c=l∧(rD n).length=c:=by
 unfold gS at h
 split at h
 ·rename_i x y he
  cases h
  obtain⟨n',e1,e2,e3,e4⟩:=aKT he
  have e:=e4 8 (by decide)
  have:n'=n:=by simp at e1;omega
  subst this
  exact e
 ·cases h
theorem aEE {b:aE} {a c:Nat} {v:aE} (h:v++(b.drop a).drop c=b.drop a) (hc:v.length=c):b.take (a+c)=b.take a++v:=by
 rw[List.take_add,← h,List.take_append_of_le_length (by omega),← hc,List.take_length]
theorem fG {b:aE} {a n c:Nat} (h:gV (b.drop a)=some (n,c)):b.take (a+c)=aC (b.take a) n:=by
 have e:=aNl h
 unfold aC
 rw[if_pos (by simp[bM];omega),Int.toNat_natCast]
 exact aEE e.1 e.2.1
theorem aJ4 (p:aE) {n:Nat} (h:n≤1000000000000):aC p n=p++rD n:=by
 unfold aC
 rw[if_pos (by simp[bM];omega),Int.toNat_natCast]
theorem aJ5:∀ {k:Nat} {b:aE} {a:Nat} {acc l:List Sum} {q:Nat},sMs k b a acc=some (l,q)→∃ r,l=acc++r∧b.take q=b.take a++iB r∧r.length=k:=by
 intro k
 induction k with
 |zero=>intro b a acc l q h;cases h;exact⟨[],by simp,by simp[iB],rfl⟩
 |succ k ih =>
  intro b a acc l q h
  rw[sMs]at h
  cases hg:gS (b.drop a) with
  |none=>rw[hg]at h;cases h
  |some p =>
   obtain⟨n,c⟩:=p
   rw[hg]at h
   obtain⟨r,e1,e2,e3⟩:=ih h
   have e:=aNm hg
   refine⟨aHR n::r,by rw[e1];simp,?_,by simp[e3]⟩
   rw[e2,aEE e.1 e.2,iB,List.append_assoc]
   rfl
theorem aHW {b:aE} {a:Nat} {x:Man} {q:Nat} (h:aBp b a=some (x,q)):b.take q=cJ (b.take a) x:=by
 have hx:=(aCB h).1
 unfold aBp at h
 cases h1:gV (b.drop a) with
 |none=>rw[h1]at h;cases h
 |some p1 =>
  obtain⟨g,c1⟩:=p1
  rw[h1]at h
  simp only at h
  cases h2:gV (b.drop (a+c1)) with
  |none=>rw[h2]at h;cases h
  |some p2 =>
   obtain⟨s,c2⟩:=p2
   rw[h2]at h
   simp only at h
   cases h3:gV (b.drop (a+c1+c2)) with
   |none=>rw[h3]at h;cases h
   |some p3 =>
    obtain⟨n,c3⟩:=p3
    rw[h3]at h
    obtain⟨l,e1,e2,e3⟩:=rI h
    obtain⟨r,f1,f2,f3⟩:=aJ5 e1
    rw[f2,fG h3,fG h2,fG h1]
    unfold cJ rF
    rw[if_pos hx,e2]
    simp only[List.nil_append]at f1
    rw[f1]
theorem uA {k:Nat} {b:aE} {a:Nat} {acc l:List Int} {q:Nat} (h:gWa (k+1) b a acc=some (l,q)):∃ n c,gV (b.drop a)=some (n,c)∧n<1048576∧gWa k b (a+c) (acc++[(n:Int)])=some (l,q):=by
 rw[gWa]at h
 cases hg:gV (b.drop a) with
 |none=>rw[hg]at h;cases h
 |some p =>
  obtain⟨n,c⟩:=p
  rw[hg]at h
  simp only at h
  split at h
  ·rename_i hn;exact⟨n,c,rfl,hn,h⟩
  ·cases h
theorem aDz {n:Nat} (h:n<1099511627776):vW (n:Int)=((n%1048576:Nat):Int):=by
 unfold vW
 rw[BitVec.toNat_and,BitVec.ofInt_natCast,show BitVec.ofInt IntKind.i64.bits 1048575=BitVec.ofNat IntKind.i64.bits 1048575 from rfl,BitVec.toNat_ofNat,BitVec.toNat_ofNat]
 rw[Nat.mod_eq_of_lt (show n<2 ^ IntKind.i64.bits from by simp only[IntKind.bits];omega),Nat.mod_eq_of_lt (show 1048575<2 ^ IntKind.i64.bits from by decide),Nat.and_two_pow_sub_one_eq_mod n 20]
 exact aG (by omega)
theorem aDA {n:Nat}:aCG (n:Int)=((n/1048576:Nat):Int):=by
 unfold aCG
 rw[show min (20:Int).toNat IntKind.i64.bits=20 from by decide,show(2:Int) ^ 20=1048576 from by decide]
 rw[Int.fdiv_eq_ediv_of_nonneg _ (by decide)]
 omega
theorem aEF (p:aE) {w0 w1:Nat} (h0:w0<1048576) (h1:w1<1048576):bN p ((w0:Int)+(w1:Int)*1048576)=aC (aC p w0) w1:=by
 unfold bN
 rw[show(w0:Int)+(w1:Int)*1048576=((w0+w1*1048576:Nat):Int) from by omega,aDz (by omega),aDA,show(w0+w1*1048576)%1048576=w0 from by omega,show(w0+w1*1048576)/1048576=w1 from by omega]
theorem aMg {b:aE} {a most:Nat} {p:aE} {q:Nat} (h:gP b a most=some (p,q)):b.take q=cE (b.take a) p:=by
 unfold gP at h
 cases h1:gV (b.drop a) with
 |none=>rw[h1]at h;cases h
 |some x =>
  obtain⟨n,c⟩:=x
  rw[h1]at h
  simp only at h
  split at h
  ·rename_i hk
   cases h
   have hl:((b.drop (a+c)).take n).length=n:=by simp;omega
   unfold cE
   rw[hl,← fG h1,List.take_add]
  ·cases h
theorem aFR {b:aE} {a k:Nat} {m:Msg} {q:Nat} (h:eB b a k=some (m,q)) (hk:b.take a=aC [] k):b.take q=qJ m:=by
 unfold eB at h
 unfold qJ
 split at h
 ·rename_i k1
  subst k1
  cases hm:aBp b a with
  |none=>rw[hm]at h;cases h
  |some x =>
   rw[hm]at h
   obtain⟨x,y⟩:=x
   have h:=Option.some.inj h
   cases h
   rw[if_pos rfl,aHW hm,hk]
   rfl
 ·rename_i k1
  cases h1:gV (b.drop a) with
  |none=>rw[h1]at h;cases h
  |some p1 =>
   obtain⟨g,c⟩:=p1
   rw[h1]at h
   simp only at h
   split at h
   ·rename_i k2
    subst k2
    obtain⟨w0,w1,d0,d1,e,rfl⟩:=aCC h
    obtain⟨n0,c0,g0,l0,e⟩:=uA e
    obtain⟨n1,c1,g1,l1,e⟩:=uA e
    obtain⟨n2,c2,g2,l2,e⟩:=uA e
    obtain⟨n3,c3,g3,l3,e⟩:=uA e
    rw[gWa]at e
    cases e
    rw[if_neg (by simp),if_pos rfl]
    rw[fG g3,fG g2,fG g1,fG g0,fG h1,hk]
    simp only
    rw[aEF _ l0 l1,aEF _ l2 l3]
    rfl
   ·split at h
    ·rename_i k2 k3
     subst k3
     cases h2:gV (b.drop (a+c)) with
     |none=>rw[h2]at h;cases h
     |some p2 =>
      obtain⟨i,d⟩:=p2
      rw[h2]at h
      simp only at h
      cases h3:gP b (a+c+d) 6 with
      |none=>rw[h3]at h;cases h
      |some x =>
       obtain⟨p,y⟩:=x
       rw[h3]at h
       have h:=Option.some.inj h
       cases h
       rw[if_neg (by simp),if_neg (by simp),if_pos rfl]
       rw[aMg h3,fG h2,fG h1,hk]
       rfl
    ·rename_i k2 k3
     cases h
     rw[if_neg (by simp;omega),if_neg (by simp;omega),if_neg (by simp;omega),fG h1,hk]
theorem aEG {b:aE} {m:Msg} (h:pS b=some m):bW m=true∧cR m=b∧b.length≤400:=by
 unfold pS at h
 cases h1:gV (b.drop 0) with
 |none=>rw[h1]at h;cases h
 |some p1 =>
  obtain⟨k,c⟩:=p1
  rw[h1]at h
  simp only at h
  split at h
  ·rename_i hl
   cases h2:eB b c k with
   |none=>rw[h2]at h;cases h
   |some mq =>
    obtain⟨m',q⟩:=mq
    rw[h2]at h
    simp only[aHV]at h
    split at h
    ·rename_i ho
     cases h3:gV (b.drop q) with
     |none=>rw[h3]at h;cases h
     |some wd =>
      obtain⟨w,d⟩:=wd
      rw[h3]at h
      simp only at h
      split at h
      ·rename_i hq
       cases h
       refine⟨ho,?_,hl⟩
       have e1:=fG h1
       rw[Nat.zero_add,List.take_zero]at e1
       have e2:=aFR h2 e1
       have e3:=fG h3
       unfold cR
       rw[if_pos ho,← e2,← hq.2,← e3,hq.1,List.take_length]
      ·cases h
    ·cases h
  ·cases h
theorem dM (p:aE) (n:Int):p <+: aC p n:=by
 unfold aC
 split
 ·exact List.prefix_append _ _
 ·exact List.prefix_rfl
theorem iL {p b:aE} {n:Nat} (h:n≤1000000000000) (hp:aC p n <+: b):∃ c,gV (b.drop p.length)=some (n,c)∧(aC p n).length=p.length+c:=by
 rw[aJ4 p h]at hp ⊢
 obtain⟨t,rfl⟩:=hp
 rw[List.append_assoc,List.drop_left]
 exact⟨_,aNj h t,List.length_append⟩
theorem aNn {p b r:aE} {n:Nat} (h:n≤562949953421311) (hp:p++(rD n++r) <+: b):gS (b.drop p.length)=some (n,(rD n).length):=by
 obtain⟨t,rfl⟩:=hp
 rw[List.append_assoc,List.drop_left,List.append_assoc]
 exact aNk h _
theorem aHX {m:Man} {l:List Sum}:∀ {i:Nat},aEx m i l=true→∀ x∈l,bU x.s=true∧bH (bP x.s)=x:=by
 induction l with
 |nil=>intro i _ x hx;cases hx
 |cons y r ih =>
  intro i h x hx
  simp only[aEx,Bool.and_eq_true]at h
  rcases List.mem_cons.mp hx with rfl|hx
  ·have h1:=h.1
   simp only[aCq,Bool.and_eq_true,decide_eq_true_eq]at h1
   exact⟨h1.1,h1.2.2⟩
  ·exact ih h.2 x hx
theorem aMh {b:aE}:∀ {l:List Sum} {p:aE} {acc:List Sum},(∀ y∈l,bU y.s=true∧bH (bP y.s)=y)→p++iB l <+: b→sMs l.length b p.length acc=some (acc++l,(p++iB l).length)∧iMs l.length b p.length acc=some (acc++l,(p++iB l).length):=by
 intro l
 induction l with
 |nil=>intro p acc _ _;simp[sMs,iMs,iB]
 |cons y r ih =>
  intro p acc hy hp
  have h1:=hy y (by simp)
  have hr:=aAg h1.1
  obtain⟨n,hn⟩:∃ n:Nat,y.s=n:=⟨y.s.toNat,by omega⟩
  rw[iB,hn,Int.toNat_natCast]at hp ⊢
  have hg:=aNn (by omega) hp
  have e:=ih (p:=p++rD n) (acc:=acc++[y]) (fun z hz=>hy z (by simp[hz])) (by rw[List.append_assoc];exact hp)
  rw[List.length_append,List.append_assoc,List.append_assoc]at e
  have hs:aHR n=y:=by
   unfold aHR
   rw[← hn,h1.2]
  constructor
  ·rw[List.length_cons,sMs,hg]
   simp only
   rw[hs]
   exact e.1
  ·rw[List.length_cons,iMs,hg]
   simp only
   rw[← hn,if_pos h1.1,h1.2]
   exact e.2
theorem aJ6 {b p:aE} {x:Man} (hx:bA x=true) (h0:x.gen≠0) (hp:cJ p x <+: b):aBp b p.length=some (x,(cJ p x).length)∧aFV b p.length=some (x,(cJ p x).length):=by
 have hx':=hx
 obtain⟨gen,size,len,sums⟩:=x
 unfold cJ at hp ⊢
 rw[if_pos hx]at hp ⊢
 unfold bA at hx'
 rw[if_neg h0]at hx'
 simp only[Bool.and_eq_true,decide_eq_true_eq]at hx'
 obtain⟨a1,a2,a3,a4⟩:=hx'
 have a1:=bS a1
 unfold dH at a2
 simp only[Bool.and_eq_true]at a2
 have b1:=bS a2.1
 have b2:=bS a2.2
 rw[show IntKind.i64.wrap (size*40)=size*40 from aG (by omega)]at b2
 obtain⟨g,rfl⟩:∃ g:Nat,gen=g:=⟨gen.toNat,by omega⟩
 obtain⟨s,rfl⟩:∃ g:Nat,size=g:=⟨size.toNat,by omega⟩
 obtain⟨n,rfl⟩:∃ g:Nat,len=g:=⟨len.toNat,by omega⟩
 have hh:rF p ⟨g,s,n,sums⟩ <+: b:=List.IsPrefix.trans (List.prefix_append _ _) hp
 unfold rF at hh
 simp only at hh
 obtain⟨c3,e3,l3⟩:=iL (by omega) hh
 have hh2:=List.IsPrefix.trans (dM _ _) hh
 obtain⟨c2,e2,l2⟩:=iL (by omega) hh2
 have hh1:=List.IsPrefix.trans (dM _ _) hh2
 obtain⟨c1,e1,l1⟩:=iL (by omega) hh1
 have hs:=aMh (acc:=[]) (aHX a4) hp
 rw[List.nil_append]at hs
 rw[l1]at e2 l2
 rw[l2]at e3 l3
 rw[show(rF p ⟨g,s,n,sums⟩).length=p.length+c1+c2+c3 from l3]at hs
 unfold aBp aFV
 rw[e1]
 simp only
 rw[e2]
 simp only
 rw[e3]
 simp only
 rw[if_pos (show 0<g from by omega),← a3,Int.toNat_natCast,hs.1,hs.2,aBg hx]
 exact⟨rfl,rfl⟩
theorem aHY (p:aE) (s:Int):p <+: bN p s:=List.IsPrefix.trans (dM _ _) (dM _ _)
theorem aEH {n:Nat} (h:n<1099511627776):wor ((n%1048576:Nat):Int) (aMd ((n/1048576:Nat):Int))=(n:Int):=by
 have hs:aMd ((n/1048576:Nat):Int)=((n/1048576*1048576:Nat):Int):=by
  unfold aMd
  rw[aMc (by omega) (by omega)]
  omega
 rw[hs,(aBa (by omega) (by omega)).1]
 congr 1
 rw[Nat.or_comm,Nat.mul_comm,show(1048576:Nat)=2 ^ 20 from rfl,← Nat.two_pow_add_eq_or_of_lt (Nat.mod_lt _ (by decide))]
 exact Nat.div_add_mod n (2 ^ 20)
theorem aDB {x:Man} (h:bV x=true):x=lW:=by
 rw[← qA]at h
 exact of_decide_eq_true h
theorem aNo {b p s:aE} {most:Nat} (hs:s.length≤most) (hm:most≤1000000) (hp:cE p s <+: b):gP b p.length most=some (s,(cE p s).length):=by
 unfold cE at hp ⊢
 have h1:aC p (s.length:Nat) <+: b:=List.IsPrefix.trans (List.prefix_append _ _) hp
 obtain⟨c,e,l⟩:=iL (by omega) h1
 obtain⟨t,rfl⟩:=hp
 unfold gP
 rw[e]
 simp only
 rw[← l,if_pos ⟨hs,by simp only[List.length_append];omega⟩,List.append_assoc,List.drop_left,List.take_left,List.length_append]
theorem aHZ {b:aE} {man:Man} (ho:bA man=true) (h0:man.gen≠0) (hp:cJ (aC [] 1) man <+: b) :
 eB b (aC [] 1).length 1=some (⟨1,0,man,0,0,0,[]⟩,(cJ (aC [] 1) man).length)∧iH b (aC [] 1).length 1=some ⟨1,0,man,0,0,0,[]⟩:=by
 have e:=aJ6 ho h0 hp
 constructor
 ·unfold eB
  rw[if_pos rfl,e.1]
  rfl
 ·unfold iH
  rw[if_pos rfl,e.2]
theorem aH0 {b:aE} {g w d:Nat} (hg:g≤1000000) (hw:w<1099511627776) (hd:d<1099511627776) (hp:bN (bN (aC (aC [] 2) g) w) d <+: b) :
 eB b (aC [] 2).length 2=some (⟨2,g,lW,w,d,0,[]⟩,(bN (bN (aC (aC [] 2) g) w) d).length)∧iH b (aC [] 2).length 2=some ⟨2,g,lW,w,d,0,[]⟩:=by
 unfold bN at hp ⊢
 rw[aDz hw,aDz hd,aDA,aDA]at hp ⊢
 have p5:=hp
 have p4:=List.IsPrefix.trans (dM _ _) p5
 have p3:=List.IsPrefix.trans (dM _ _) p4
 have p2:=List.IsPrefix.trans (dM _ _) p3
 have p1:=List.IsPrefix.trans (dM _ _) p2
 obtain⟨c1,e1,l1⟩:=iL (by omega) p1
 obtain⟨c2,e2,l2⟩:=iL (by omega) p2
 obtain⟨c3,e3,l3⟩:=iL (by omega) p3
 obtain⟨c4,e4,l4⟩:=iL (by omega) p4
 obtain⟨c5,e5,l5⟩:=iL (by omega) p5
 rw[l5]
 rw[l4]at e5 ⊢
 rw[l3]at e4 e5 ⊢
 rw[l2]at e3 e4 e5 ⊢
 rw[l1]at e2 e3 e4 e5 ⊢
 constructor
 ·unfold eB
  rw[if_neg (by decide),e1]
  simp only
  rw[if_pos trivial]
  simp only[gWa,e2,e3,e4,e5]
  rw[if_pos (by omega),if_pos (by omega),if_pos (by omega),if_pos (by omega)]
  simp only[List.nil_append,List.cons_append,aMb]
  congr 3
  ·omega
  ·omega
 ·unfold iH
  rw[if_neg (by decide),if_pos rfl]
  simp only[gVa,e1,e2,e3,e4,e5,List.nil_append,List.cons_append,aJ3]
  rw[aEH hw,aEH hd]
theorem aH1 {b s:aE} {g i:Nat} (hg:g≤1000000) (hi:i≤39) (hs:s.length≤6) (hp:cE (aC (aC (aC [] 3) g) i) s <+: b) :
 eB b (aC [] 3).length 3=some (⟨3,g,lW,0,0,i,s⟩,(cE (aC (aC (aC [] 3) g) i) s).length)∧iH b (aC [] 3).length 3=some ⟨3,g,lW,0,0,i,s⟩:=by
 have e3:=aNo hs (by decide) hp
 have p2:aC (aC (aC [] 3) g) i <+: b:=List.IsPrefix.trans (List.IsPrefix.trans (dM _ _) (List.prefix_append _ _)) hp
 have p1:=List.IsPrefix.trans (dM _ _) p2
 obtain⟨c1,e1,l1⟩:=iL (by omega) p1
 obtain⟨c2,e2,l2⟩:=iL (by omega) p2
 rw[l2]at e3
 rw[l1]at e2 e3
 constructor
 ·unfold eB
  rw[if_neg (by decide),e1]
  simp only
  rw[if_neg (by decide),if_pos trivial,e2]
  simp only
  rw[e3]
  rfl
 ·unfold iH
  rw[if_neg (by decide),if_neg (by decide),if_pos rfl]
  simp only[gVa,e1,e2,List.nil_append,List.cons_append,aHT,e3]
theorem aH2 {b:aE} {g:Nat} (hg:g≤1000000) (hp:aC (aC [] 4) g <+: b) :
 eB b (aC [] 4).length 4=some (⟨4,g,lW,0,0,0,[]⟩,(aC (aC [] 4) g).length)∧iH b (aC [] 4).length 4=some ⟨4,g,lW,0,0,0,[]⟩:=by
 obtain⟨c1,e1,l1⟩:=iL (by omega) hp
 constructor
 ·unfold eB
  rw[if_neg (by decide),e1]
  simp only
  rw[if_neg (by decide),if_neg (by decide),l1]
  rfl
 ·unfold iH
  rw[if_neg (by decide),if_neg (by decide),if_neg (by decide),if_pos rfl,e1]
theorem aJ7 {b:aE} {m:Msg} (ho:bW m=true) (hp:qJ m <+: b):∃ k:Nat,m.kind=k∧k≤4∧aC [] k <+: b∧eB b (aC [] k).length k=some (m,(qJ m).length)∧iH b (aC [] k).length k=some m:=by
 have hk:=rG ho
 obtain⟨kind,gen,man,want,done,i,s⟩:=m
 unfold bW at ho
 unfold qJ at hp ⊢
 simp only at hk ho hp ⊢
 rcases hk with rfl|rfl|rfl|rfl
 ·rw[if_pos rfl]at hp ho ⊢
  simp only[iG,Bool.and_eq_true,Bool.true_or,Bool.false_or,decide_eq_true_eq,Bool.not_eq_true',decide_eq_false_iff_not,true_and]at ho
  obtain⟨rfl,h0,hm,⟨rfl,rfl⟩,rfl,rfl⟩:=ho
  refine⟨1,rfl,by decide,?_,aHZ hm h0 hp⟩
  refine List.IsPrefix.trans ?_ hp
  unfold cJ
  rw[if_pos hm]
  exact List.IsPrefix.trans (List.IsPrefix.trans (dM _ _) (List.IsPrefix.trans (dM _ _) (dM _ _))) (List.prefix_append _ _)
 ·rw[if_neg (by decide),if_pos rfl]at hp ho ⊢
  simp only[Bool.and_eq_true,decide_eq_true_eq,cQ]at ho
  obtain⟨hg,hz,hw,hd,rfl,rfl⟩:=ho
  obtain rfl:=aDB hz
  have hg:=bS hg
  have hw:=bS hw
  have hd:=bS hd
  obtain⟨g,rfl⟩:∃ g:Nat,gen=g:=⟨gen.toNat,by omega⟩
  obtain⟨w,rfl⟩:∃ g:Nat,want=g:=⟨want.toNat,by omega⟩
  obtain⟨d,rfl⟩:∃ g:Nat,done=g:=⟨done.toNat,by omega⟩
  refine⟨2,rfl,by decide,?_,aH0 (by omega) (by omega) (by omega) hp⟩
  exact List.IsPrefix.trans (List.IsPrefix.trans (dM _ _) (List.IsPrefix.trans (aHY _ _) (aHY _ _))) hp
 ·rw[if_neg (by decide),if_neg (by decide),if_pos rfl]at hp ho ⊢
  simp only[Bool.and_eq_true,decide_eq_true_eq]at ho
  obtain⟨hg,hz,rfl,rfl,hi,hs⟩:=ho
  obtain rfl:=aDB hz
  have hg:=bS hg
  have hi:=bS hi
  have hs:=bS hs
  obtain⟨g,rfl⟩:∃ g:Nat,gen=g:=⟨gen.toNat,by omega⟩
  obtain⟨j,rfl⟩:∃ g:Nat,i=g:=⟨i.toNat,by omega⟩
  refine⟨3,rfl,by decide,?_,aH1 (by omega) (by omega) (by omega) hp⟩
  exact List.IsPrefix.trans (List.IsPrefix.trans (List.IsPrefix.trans (dM _ _) (dM _ _)) (List.IsPrefix.trans (dM _ _) (List.prefix_append _ _))) hp
 ·rw[if_neg (by decide),if_neg (by decide),if_neg (by decide)]at hp ho ⊢
  simp only[iG,Bool.and_eq_true,Bool.false_or,decide_eq_true_eq,true_and]at ho
  obtain⟨hg,hz,⟨rfl,rfl⟩,rfl,rfl⟩:=ho
  obtain rfl:=aDB hz
  have hg:=bS hg
  obtain⟨g,rfl⟩:∃ g:Nat,gen=g:=⟨gen.toNat,by omega⟩
  refine⟨4,rfl,by decide,?_,aH2 (by omega) hp⟩
  exact List.IsPrefix.trans (dM _ _) hp
theorem aMi (b:aE):∃ n:Nat,aY b=n∧n≤100000:=by
 rw[mM]
 exact⟨(smS b%251+251*(smP b%251)).toNat,by omega,by omega⟩
theorem aH3 {b:aE} {m:Msg} (ho:bW m=true) (hp:cR m=b) (hl:b.length≤400):pS b=some m∧pI b=some m:=by
 unfold cR at hp
 rw[if_pos ho]at hp
 obtain⟨w,hw,hw2⟩:=aMi (qJ m)
 rw[hw]at hp
 have hpre:qJ m <+: b:=by rw[← hp];exact dM _ _
 obtain⟨k,hk,hk4,h1,h2,h3⟩:=aJ7 ho hpre
 obtain⟨c,e1,l1⟩:=iL (p:=[]) (by omega) h1
 rw[l1,List.length_nil,Nat.zero_add]at h2 h3
 rw[List.length_nil]at e1
 obtain⟨d,e2,l2⟩:=iL (p:=qJ m) (b:=b) (n:=w) (by omega) (by rw[hp];exact List.prefix_rfl)
 rw[hp]at l2
 constructor
 ·unfold pS
  rw[e1]
  simp only
  rw[if_pos hl,h2]
  simp only[aHV]
  rw[if_pos ho,e2]
  simp only
  have ht:b.take (qJ m).length=qJ m:=(List.prefix_iff_eq_take.mp hpre).symm
  rw[ht,if_pos ⟨l2.symm,hw.symm⟩]
 ·unfold pI
  rw[e1]
  simp only
  rw[if_pos hl,h3]
  simp only
  rw[if_pos ⟨ho,by unfold cR;rw[if_pos ho,hw,hp]⟩]
theorem aJ8 {b:aE} {m:Msg} (h:pI b=some m):bW m=true∧cR m=b∧b.length≤400:=by
 unfold pI at h
 cases h1:gV (b.drop 0) with
 |none=>rw[h1]at h;cases h
 |some p1 =>
  obtain⟨k,c⟩:=p1
  rw[h1]at h
  simp only at h
  split at h
  ·rename_i hl
   cases h2:iH b c k with
   |none=>rw[h2]at h;cases h
   |some x =>
    rw[h2]at h
    simp only at h
    split at h
    ·rename_i hq
     cases h
     exact⟨hq.1,hq.2,hl⟩
    ·cases h
  ·cases h
theorem aN6 (b:aE):pI b=pS b:=by
 cases h:pS b with
 |some m =>
  have e:=aEG h
  exact(aH3 e.1 e.2.1 e.2.2).2
 |none =>
  cases h2:pI b with
  |none=>rfl
  |some m =>
   have e:=aJ8 h2
   rw[(aH3 e.1 e.2.1 e.2.2).1]at h
   cases h
theorem aBl {E:Env} (hE:Sys E) (b:aE) (hb:b.length≤1048576):E 323 [sv (bys b)]=some ([gv ((gM (pS b)).cs dD),bv (pS b).isSome],[]):=yY hE b hb
theorem aBm {E:Env} (hE:Sys E) (b:aE) (hb:b.length≤1048576):E 329 [sv (bys b)]=some ([gv ((gM (pS b)).cs dD),bv (pS b).isSome],[]):=by
 rw[← aN6];exact yX hE b hb
theorem aEI {b:aE} {m:Msg} (h:pS b=some m):m.lim 1048576:=by
 have e:=aEG h
 have:=aA6 e.1
 unfold pS at h
 cases h1:gV (b.drop 0) with
 |none=>rw[h1]at h;cases h
 |some p1 =>
  obtain⟨k,c⟩:=p1
  rw[h1]at h
  simp only at h
  split at h
  ·cases h2:eB b c k with
   |none=>rw[h2]at h;cases h
   |some mq =>
    obtain⟨m',q⟩:=mq
    rw[h2]at h
    simp only[aHV]at h
    split at h
    ·split at h
     ·split at h
      ·cases h;exact(aAn h2).1
      ·cases h
     ·cases h
    ·cases h
  ·cases h
def lX (n:Node) (id:Int) (m:Msg):Node:={ n with kids:=tC n.kids id m.want m.done }
def rJ (g:Int):Msg:=⟨4,g,⟨0,0,0,[]⟩,0,0,0,[]⟩
def aH4 (x:Man):Msg:=⟨1,0,x,0,0,0,[]⟩
def eM (n:Node) (k id:Int) (m:Msg):Actn :=
 if id=k then⟨n,[]⟩
 else if n.phase=0 then⟨lX n id m,[eJ k id (rJ 0)]⟩
 else if ¬ m.gen=n.man.gen then⟨lX n id m,[eJ k id (aH4 n.man)]⟩
 else if(cS (lX n id m) k id).out=[] then⟨(cS (lX n id m) k id).n,[eJ k id (rJ n.man.gen)]⟩
 else cS (lX n id m) k id
theorem aDC {n:Node} {id:Int} {m:Msg} (hn:n.man.sums.length≤1048576∧n.bld.buf.length≤1048576∧n.kids.length+1≤4194304):(lX n id m).limk:=by
 refine⟨hn.1,hn.2.1,?_⟩
 show(tC n.kids id m.want m.done).length≤_
 have:=aHC n.kids id m.want m.done
 omega
theorem qG {E:Env} (hE:Sys E) (n:Node) (k id:Int) (m:Msg) (hn:n.man.sums.length≤1048576∧n.bld.buf.length≤1048576∧n.kids.length+1≤4194304):E 452 [gv (n.cs aM),iv k,iv id,gv (m.cs aM)]=some ([gv ((eM n k id m).cs dD true)],[]):=by
 have hk:n.limk:=⟨hn.1,hn.2.1,by omega⟩
 have a0:=cY hE n hk.l8
 have a1:=aDv hE n.kids id m.want m.done hk.2.2
 have a2:=dW hE k id (rJ 0) ⟨Nat.zero_le _,Nat.zero_le _⟩
 have a3:=dW hE k id (aH4 n.man) ⟨hn.1,Nat.zero_le _⟩
 have a4:=tF hE (lX n id m) k id (aDC hn)
 have a5:=dW hE k id (rJ n.man.gen) ⟨Nat.zero_le _,Nat.zero_le _⟩
 unfold eM
 by_cases h1:id=k
 ·rw[if_pos h1]
  refine hE.run rfl rfl fun W hW=>?_
  conv=>lhs;whnf
  repeat'((first|with_reducible apply hW.bt (xE h1)|apply hW.t|apply hW.f|(apply hW.q;exact rqc)|apply hW.w (a0)|(apply hW.b<;>intro h))<;>conv=>lhs;whnf)
  rfl
 ·rw[if_neg h1]
  by_cases h2:n.phase=0
  ·rw[if_pos h2]
   refine hE.run rfl rfl fun W hW=>?_
   conv=>lhs;whnf
   repeat'((first|with_reducible apply hW.bf (gL h1)|with_reducible apply hW.bt (xE h2)|apply hW.t|apply hW.f|(apply hW.q;exact rqc)|apply hW.w (a0)|apply hW.w (a1)|apply hW.w (a2)|(apply hW.b<;>intro h))<;>conv=>lhs;whnf)
   rfl
  ·rw[if_neg h2]
   by_cases h3:m.gen=n.man.gen
   ·rw[if_neg (fun h=>h h3)]
    generalize cS (lX n id m) k id=x at a4 ⊢
    obtain⟨xn,xo⟩:=x
    cases xo with
    |nil =>
     rw[if_pos rfl]
     refine hE.run rfl rfl fun W hW=>?_
     conv=>lhs;whnf
     repeat'((first|with_reducible apply hW.bf (gL h1)|with_reducible apply hW.bf (gL h2)|with_reducible apply hW.bf (aAi h3)|apply hW.t|apply hW.f|(apply hW.q;exact rqc)|apply hW.w (a0)|apply hW.w (a1)|apply hW.w (a4)|apply hW.w (a5)|(apply hW.b<;>intro h))<;>conv=>lhs;whnf)
     rfl
    |cons p xo =>
     rw[if_neg (by simp)]
     refine hE.run rfl rfl fun W hW=>?_
     conv=>lhs;whnf
     repeat'((first|with_reducible apply hW.bf (gL h1)|with_reducible apply hW.bf (gL h2)|with_reducible apply hW.bf (aAi h3)|apply hW.t|apply hW.f|(apply hW.q;exact rqc)|apply hW.w (a0)|apply hW.w (a1)|apply hW.w (a4)|(apply hW.b<;>intro h))<;>conv=>lhs;whnf)
     rfl
   ·rw[if_pos h3]
    refine hE.run rfl rfl fun W hW=>?_
    conv=>lhs;whnf
    repeat'((first|with_reducible apply hW.bf (gL h1)|with_reducible apply hW.bf (gL h2)|with_reducible apply hW.bt (aId h3)|apply hW.t|apply hW.f|(apply hW.q;exact rqc)|apply hW.w (a0)|apply hW.w (a1)|apply hW.w (a3)|(apply hW.b<;>intro h))<;>conv=>lhs;whnf)
    rfl
theorem qH {E:Env} (hE:Sys E) (n:Node) (k id:Int) (m:Msg) (hn:n.man.sums.length≤1048576∧n.bld.buf.length≤1048576∧n.kids.length+1≤4194304):E 455 [gv (n.cs aM),iv k,iv id,gv (m.cs aM)]=some ([gv ((eM n k id m).cs dD true)],[]):=by
 have hk:n.limk:=⟨hn.1,hn.2.1,by omega⟩
 have a0:=dC hE n hk.l8
 have a1:=aDw hE n.kids id m.want m.done hk.2.2
 have a2:=dX hE k id (rJ 0) ⟨Nat.zero_le _,Nat.zero_le _⟩
 have a3:=dX hE k id (aH4 n.man) ⟨hn.1,Nat.zero_le _⟩
 have a4:=tG hE (lX n id m) k id (aDC hn)
 have a5:=dX hE k id (rJ n.man.gen) ⟨Nat.zero_le _,Nat.zero_le _⟩
 unfold eM
 by_cases h1:id=k
 ·rw[if_pos h1]
  refine hE.run rfl rfl fun W hW=>?_
  conv=>lhs;whnf
  repeat'((first|with_reducible apply hW.bt (xE h1)|apply hW.t|apply hW.f|(apply hW.q;exact rqc)|apply hW.w (a0)|(apply hW.b<;>intro h))<;>conv=>lhs;whnf)
  rfl
 ·rw[if_neg h1]
  by_cases h2:n.phase=0
  ·rw[if_pos h2]
   refine hE.run rfl rfl fun W hW=>?_
   conv=>lhs;whnf
   repeat'((first|with_reducible apply hW.bf (gL h1)|with_reducible apply hW.bt (xE h2)|apply hW.t|apply hW.f|(apply hW.q;exact rqc)|apply hW.w (a0)|apply hW.w (a1)|apply hW.w (a2)|(apply hW.b<;>intro h))<;>conv=>lhs;whnf)
   rfl
  ·rw[if_neg h2]
   by_cases h3:m.gen=n.man.gen
   ·rw[if_neg (fun h=>h h3)]
    generalize cS (lX n id m) k id=x at a4 ⊢
    obtain⟨xn,xo⟩:=x
    cases xo with
    |nil =>
     rw[if_pos rfl]
     refine hE.run rfl rfl fun W hW=>?_
     conv=>lhs;whnf
     repeat'((first|with_reducible apply hW.bf (gL h1)|with_reducible apply hW.bf (gL h2)|with_reducible apply hW.bf (aAi h3)|apply hW.t|apply hW.f|(apply hW.q;exact rqc)|apply hW.w (a0)|apply hW.w (a1)|apply hW.w (a4)|apply hW.w (a5)|(apply hW.b<;>intro h))<;>conv=>lhs;whnf)
     rfl
    |cons p xo =>
     rw[if_neg (by simp)]
     refine hE.run rfl rfl fun W hW=>?_
     conv=>lhs;whnf
     repeat'((first|with_reducible apply hW.bf (gL h1)|with_reducible apply hW.bf (gL h2)|with_reducible apply hW.bf (aAi h3)|apply hW.t|apply hW.f|(apply hW.q;exact rqc)|apply hW.w (a0)|apply hW.w (a1)|apply hW.w (a4)|(apply hW.b<;>intro h))<;>conv=>lhs;whnf)
     all_goals first|rfl|(exfalso;have h:=of_decide_eq_false h;simp at h;done)|(exfalso;have h:=of_decide_eq_false h;simp at h;omega)
   ·rw[if_pos h3]
    refine hE.run rfl rfl fun W hW=>?_
    conv=>lhs;whnf
    repeat'((first|with_reducible apply hW.bf (gL h1)|with_reducible apply hW.bf (gL h2)|with_reducible apply hW.bt (aId h3)|apply hW.t|apply hW.f|(apply hW.q;exact rqc)|apply hW.w (a0)|apply hW.w (a1)|apply hW.w (a3)|(apply hW.b<;>intro h))<;>conv=>lhs;whnf)
    rfl
theorem wZ (n:Node) (k id:Int) (m:Msg) (hn:n.lim 1048576) (_:m.lim 1048576):(eM n k id m).lim 4194304:=by
 have hn':=hn.k.l4
 have hh:=(aDC (id:=id) (m:=m) ⟨hn.1,hn.2.1,by have:=hn.2.2;omega⟩)
 have hz:aAa (fun B=>Pkt.lim B) 4194304 ([]:List Pkt):=⟨Nat.zero_le _,fun _ h=>by cases h⟩
 have h1:∀ m:Msg,aAa (fun B=>Pkt.lim B) 4194304 [eJ k id m]:=fun m=>⟨by simp,fun x hx=>by rw[List.mem_singleton.mp hx];exact Nat.le_trans (oG _) (by decide)⟩
 have hs:=yN (lX n id m) k id hh
 unfold eM
 split
 ·exact⟨hn',hz⟩
 ·split
  ·exact⟨hh.l4,h1 _⟩
  ·split
   ·exact⟨hh.l4,h1 _⟩
   ·split
    ·exact⟨hs.1,h1 _⟩
    ·exact hs
def jX (t:Tree) (k:Int) (n:Node) (d:Disk) (p:Pkt):Actn :=
 if n.on=false then⟨n,[]⟩ else
 match pS p.b with
 |none=>⟨wD n,[]⟩
 |some m =>
  if bM p.frm 0 ((t.up.length:Int)-1)=false then⟨wD n,[]⟩
  else if p.frm=k then⟨wD n,[]⟩
  else if m.kind=2 then eM n k p.frm m
  else if p.frm=n.boss then iD n k d m
  else⟨wD n,[]⟩
theorem aCD {E:Env} (hE:Sys E) (t:Tree) (k:Int) (n:Node) (d:Disk) (p:Pkt) (ht:t.lim 1048576) (hn:n.man.sums.length≤1048576∧n.bld.buf.length≤1048576∧n.kids.length+1≤4194304) (hd:d.lim 1048576) (hp:p.lim 1048576):E 450 [gv (t.cs aM),iv k,gv (n.cs aM),gv (d.cs aM true),gv (p.cs aM)]=some ([gv ((jX t k n d p).cs dD true)],[]):=by
 have hk:n.limk:=⟨hn.1,hn.2.1,by omega⟩
 have hrl:(bQ t.up).length=t.up.length:=List.length_map _
 have htl:t.up.length≤1048576:=ht
 have hw:IntKind.i64.wrap ((t.up.length:Int)-1)=(t.up.length:Int)-1:=aG (by omega)
 have a0:=cY hE n hk.l8
 have a1:=gA hE n hk.l8
 have a2:=aBl hE p.b hp
 have a3:=bG hE p.frm 0 ((t.up.length:Int)-1)
 unfold jX
 cases hon:n.on with
 |false =>
  rw[if_pos rfl]
  have hon':(!n.on)=true:=by rw[hon];rfl
  refine hE.run rfl rfl fun W hW=>?_
  conv=>lhs;whnf
  repeat'((first|with_reducible apply hW.bt (hon')|apply hW.t|apply hW.f|(apply hW.q;exact rqc)|apply hW.w (a0)|(apply hW.b<;>intro h))<;>conv=>lhs;whnf)
  rfl
 |true =>
  rw[if_neg (by decide)]
  have hon':(!n.on)=false:=by rw[hon];rfl
  cases hm:pS p.b with
  |none =>
   rw[hm]at a2
   refine hE.run rfl rfl fun W hW=>?_
   conv=>lhs;whnf
   repeat'((first|with_reducible apply hW.bf (hon')|apply hW.t|apply hW.f|(apply hW.q;exact rqc)|apply hW.w (a2)|apply hW.w (a1)|(apply hW.b<;>intro h))<;>conv=>lhs;whnf)
   rfl
  |some m =>
   rw[hm,show gM (some m)=m from rfl]at a2
   have hml:=aEI hm
   simp only
   cases h1:bM p.frm 0 ((t.up.length:Int)-1) with
   |false =>
    rw[h1]at a3
    rw[if_pos rfl]
    refine hE.run rfl rfl fun W hW=>?_
    conv=>lhs;whnf
    repeat'((first|with_reducible apply hW.bf (hon')|apply hW.t|apply hW.f|(apply hW.q;exact rqc)|apply hW.w (a2)|(apply hW.b<;>intro h))<;>conv=>lhs;whnf)
    rw[hrl,hw]
    repeat'((first|apply hW.t|apply hW.f|(apply hW.q;exact rqc)|apply hW.w (a3)|apply hW.w (a1)|(apply hW.b<;>intro h))<;>conv=>lhs;whnf)
    rfl
   |true =>
    rw[h1]at a3
    rw[if_neg (by decide)]
    by_cases h2:p.frm=k
    ·rw[if_pos h2]
     refine hE.run rfl rfl fun W hW=>?_
     conv=>lhs;whnf
     repeat'((first|with_reducible apply hW.bf (hon')|apply hW.t|apply hW.f|(apply hW.q;exact rqc)|apply hW.w (a2)|(apply hW.b<;>intro h))<;>conv=>lhs;whnf)
     rw[hrl,hw]
     repeat'((first|with_reducible apply hW.bt (xE h2)|apply hW.t|apply hW.f|(apply hW.q;exact rqc)|apply hW.w (a3)|apply hW.w (a1)|(apply hW.b<;>intro h))<;>conv=>lhs;whnf)
     rfl
    ·rw[if_neg h2]
     by_cases h3:m.kind=2
     ·rw[if_pos h3]
      have a4:=qG hE n k p.frm m hn
      refine hE.run rfl rfl fun W hW=>?_
      conv=>lhs;whnf
      repeat'((first|with_reducible apply hW.bf (hon')|apply hW.t|apply hW.f|(apply hW.q;exact rqc)|apply hW.w (a2)|(apply hW.b<;>intro h))<;>conv=>lhs;whnf)
      rw[hrl,hw]
      repeat'((first|with_reducible apply hW.bf (gL h2)|with_reducible apply hW.bt (xE h3)|apply hW.t|apply hW.f|(apply hW.q;exact rqc)|apply hW.w (a3)|apply hW.w (a4)|(apply hW.b<;>intro h))<;>conv=>lhs;whnf)
      rfl
     ·rw[if_neg h3]
      by_cases h4:p.frm=n.boss
      ·rw[if_pos h4]
       have a5:=wJ hE n k d m hk hd hml
       refine hE.run rfl rfl fun W hW=>?_
       conv=>lhs;whnf
       repeat'((first|with_reducible apply hW.bf (hon')|apply hW.t|apply hW.f|(apply hW.q;exact rqc)|apply hW.w (a2)|(apply hW.b<;>intro h))<;>conv=>lhs;whnf)
       rw[hrl,hw]
       repeat'((first|with_reducible apply hW.bf (gL h2)|with_reducible apply hW.bf (gL h3)|with_reducible apply hW.bt (xE h4)|apply hW.t|apply hW.f|(apply hW.q;exact rqc)|apply hW.w (a3)|apply hW.w (a5)|(apply hW.b<;>intro h))<;>conv=>lhs;whnf)
       rfl
      ·rw[if_neg h4]
       refine hE.run rfl rfl fun W hW=>?_
       conv=>lhs;whnf
       repeat'((first|with_reducible apply hW.bf (hon')|apply hW.t|apply hW.f|(apply hW.q;exact rqc)|apply hW.w (a2)|(apply hW.b<;>intro h))<;>conv=>lhs;whnf)
       rw[hrl,hw]
       repeat'((first|with_reducible apply hW.bf (gL h2)|with_reducible apply hW.bf (gL h3)|with_reducible apply hW.bf (gL h4)|apply hW.t|apply hW.f|(apply hW.q;exact rqc)|apply hW.w (a3)|apply hW.w (a1)|(apply hW.b<;>intro h))<;>conv=>lhs;whnf)
       rfl
theorem aCE {E:Env} (hE:Sys E) (t:Tree) (k:Int) (n:Node) (d:Disk) (p:Pkt) (ht:t.lim 1048576) (hn:n.man.sums.length≤1048576∧n.bld.buf.length≤1048576∧n.kids.length+1≤4194304) (hd:d.lim 1048576) (hp:p.lim 1048576):E 451 [gv (t.cs aM),iv k,gv (n.cs aM),gv (d.cs aM true),gv (p.cs aM)]=some ([gv ((jX t k n d p).cs dD true)],[]):=by
 have hk:n.limk:=⟨hn.1,hn.2.1,by omega⟩
 have hrl:(bQ t.up).length=t.up.length:=List.length_map _
 have htl:t.up.length≤1048576:=ht
 have hw:IntKind.i64.wrap ((t.up.length:Int)-1)=(t.up.length:Int)-1:=aG (by omega)
 have a0:=dC hE n hk.l8
 have a2:=aBm hE p.b hp
 have a3:=aAZ hE t p.frm ht
 unfold jX
 cases hon:n.on with
 |false =>
  rw[if_pos rfl]
  have hon':(!n.on)=true:=by rw[hon];rfl
  refine hE.run rfl rfl fun W hW=>?_
  conv=>lhs;whnf
  repeat'((first|with_reducible apply hW.bt (hon')|apply hW.t|apply hW.f|(apply hW.q;exact rqc)|apply hW.w (a0)|(apply hW.b<;>intro h))<;>conv=>lhs;whnf)
  rfl
 |true =>
  rw[if_neg (by decide)]
  have hon':(!n.on)=false:=by rw[hon];rfl
  cases hm:pS p.b with
  |none =>
   rw[hm]at a2
   refine hE.run rfl rfl fun W hW=>?_
   conv=>lhs;whnf
   repeat'((first|with_reducible apply hW.bf (hon')|apply hW.t|apply hW.f|(apply hW.q;exact rqc)|apply hW.w (a0)|apply hW.w (a2)|(apply hW.b<;>intro h))<;>conv=>lhs;whnf)
   rfl
  |some m =>
   rw[hm,show gM (some m)=m from rfl]at a2
   have hml:=aEI hm
   simp only
   cases h1:bM p.frm 0 ((t.up.length:Int)-1) with
   |false =>
    rw[h1]at a3
    rw[if_pos rfl]
    refine hE.run rfl rfl fun W hW=>?_
    conv=>lhs;whnf
    repeat'((first|with_reducible apply hW.bf (hon')|apply hW.t|apply hW.f|(apply hW.q;exact rqc)|apply hW.w (a0)|apply hW.w (a2)|(apply hW.b<;>intro h))<;>conv=>lhs;whnf)
    skip
    repeat'((first|apply hW.t|apply hW.f|(apply hW.q;exact rqc)|apply hW.w (a3)|(apply hW.b<;>intro h))<;>conv=>lhs;whnf)
    rfl
   |true =>
    rw[h1]at a3
    rw[if_neg (by decide)]
    by_cases h2:p.frm=k
    ·rw[if_pos h2]
     refine hE.run rfl rfl fun W hW=>?_
     conv=>lhs;whnf
     repeat'((first|with_reducible apply hW.bf (hon')|apply hW.t|apply hW.f|(apply hW.q;exact rqc)|apply hW.w (a0)|apply hW.w (a2)|(apply hW.b<;>intro h))<;>conv=>lhs;whnf)
     skip
     repeat'((first|with_reducible apply hW.bt (xE h2)|apply hW.t|apply hW.f|(apply hW.q;exact rqc)|apply hW.w (a3)|(apply hW.b<;>intro h))<;>conv=>lhs;whnf)
     rfl
    ·rw[if_neg h2]
     by_cases h3:m.kind=2
     ·rw[if_pos h3]
      have a4:=qH hE n k p.frm m hn
      refine hE.run rfl rfl fun W hW=>?_
      conv=>lhs;whnf
      repeat'((first|with_reducible apply hW.bf (hon')|apply hW.t|apply hW.f|(apply hW.q;exact rqc)|apply hW.w (a0)|apply hW.w (a2)|(apply hW.b<;>intro h))<;>conv=>lhs;whnf)
      skip
      repeat'((first|with_reducible apply hW.bf (gL h2)|with_reducible apply hW.bt (xE h3)|apply hW.t|apply hW.f|(apply hW.q;exact rqc)|apply hW.w (a3)|apply hW.w (a4)|(apply hW.b<;>intro h))<;>conv=>lhs;whnf)
      rfl
     ·rw[if_neg h3]
      by_cases h4:p.frm=n.boss
      ·rw[if_pos h4]
       have a5:=wK hE n k d m hk hd hml
       refine hE.run rfl rfl fun W hW=>?_
       conv=>lhs;whnf
       repeat'((first|with_reducible apply hW.bf (hon')|apply hW.t|apply hW.f|(apply hW.q;exact rqc)|apply hW.w (a0)|apply hW.w (a2)|(apply hW.b<;>intro h))<;>conv=>lhs;whnf)
       skip
       repeat'((first|with_reducible apply hW.bf (gL h2)|with_reducible apply hW.bf (gL h3)|with_reducible apply hW.bt (xE h4)|apply hW.t|apply hW.f|(apply hW.q;exact rqc)|apply hW.w (a3)|apply hW.w (a5)|(apply hW.b<;>intro h))<;>conv=>lhs;whnf)
       rfl
      ·rw[if_neg h4]
       refine hE.run rfl rfl fun W hW=>?_
       conv=>lhs;whnf
       repeat'((first|with_reducible apply hW.bf (hon')|apply hW.t|apply hW.f|(apply hW.q;exact rqc)|apply hW.w (a0)|apply hW.w (a2)|(apply hW.b<;>intro h))<;>conv=>lhs;whnf)
       skip
       repeat'((first|with_reducible apply hW.bf (gL h2)|with_reducible apply hW.bf (gL h3)|with_reducible apply hW.bf (gL h4)|apply hW.t|apply hW.f|(apply hW.q;exact rqc)|apply hW.w (a3)|(apply hW.b<;>intro h))<;>conv=>lhs;whnf)
       rfl
theorem aH5 (t:Tree) (k:Int) (n:Node) (d:Disk) (p:Pkt) (_:t.lim 1048576) (hn:n.lim 1048576) (hd:d.lim 1048576) (hp:p.lim 1048576):(jX t k n d p).lim 4194304:=by
 have hn':=hn.k.l4
 have hz:aAa (fun B=>Pkt.lim B) 4194304 ([]:List Pkt):=⟨Nat.zero_le _,fun _ h=>by cases h⟩
 unfold jX
 split
 ·exact⟨hn',hz⟩
 ·split
  ·exact⟨iK hn',hz⟩
  ·rename_i m hm
   split
   ·exact⟨iK hn',hz⟩
   ·split
    ·exact⟨iK hn',hz⟩
    ·split
     ·exact wZ n k p.frm m hn (aEI hm)
     ·split
      ·exact aBe n k d m hn.k hd (aEI hm)
      ·exact⟨iK hn',hz⟩
theorem aDD {E:Env} (hE:Sys E) (t:Tree) (k:Int) (n:Node) (d:Disk) (p:Pkt) (ht:t.lim 1048576) (hn:n.lim 1048576) (hd:d.lim 1048576) (hp:p.lim 1048576):E 450 [gv (t.cs aM),iv k,gv (n.cs aM),gv (d.cs aM true),gv (p.cs aM)]=some ([gv ((jX t k n d p).cs dD true)],[]) :=
 aCD hE t k n d p ht ⟨hn.1,hn.2.1,by have:=hn.2.2;omega⟩ hd hp
theorem xA {E:Env} (hE:Sys E) (t:Tree) (k:Int) (n:Node) (d:Disk) (p:Pkt) (ht:t.lim 1048576) (hn:n.lim 1048576) (hd:d.lim 1048576) (hp:p.lim 1048576):E 451 [gv (t.cs aM),iv k,gv (n.cs aM),gv (d.cs aM true),gv (p.cs aM)]=some ([gv ((jX t k n d p).cs dD true)],[]) :=
 aCE hE t k n d p ht ⟨hn.1,hn.2.1,by have:=hn.2.2;omega⟩ hd hp
theorem aMj {E:Env} (hE:Sys E) (aT:Tree) (aK:Int) (aN:Node) (aD:Disk) (aP:Pkt) (haT:aT.lim 140737488355328) (haN:aN.lim 140737488355328) (haD:aD.lim 140737488355328) (haP:aP.lim 140737488355328) :
 E 519 [gv (aT.cs aM),iv aK,gv (aN.cs aM),gv (aD.cs aM false),gv (aP.cs aM)]=some ([bv true],[]):=by
 refine hE.run rfl rfl fun W hW=>?_
 conv=>lhs;whnf
 have r0:rg 1048576:=⟨by omega,by omega⟩
 repeat((first|apply hW.t|apply hW.f|(apply hW.q;exact rqc));conv=>lhs;whnf)
 apply hW.w (aJE hE aT (1048576) haT r0)
 conv=>lhs;whnf
 try(apply hW.q;exact rqc;conv=>lhs;whnf)
 apply hW.b<;>intro g0<;>conv=>lhs;whnf
 ·rfl
 ·have laT:=Tree.sz_ok r0 (by simpa using g0)
  have r1:rg (aT.sz (1048576)):=(Tree.sz_rg r0)
  repeat((first|apply hW.t|apply hW.f|(apply hW.q;exact rqc));conv=>lhs;whnf)
  apply hW.w (aJI hE aN (aT.sz (1048576)) haN r1)
  conv=>lhs;whnf
  try(apply hW.q;exact rqc;conv=>lhs;whnf)
  apply hW.b<;>intro g1<;>conv=>lhs;whnf
  ·rfl
  ·have laN:=Node.sz_ok r1 (by simpa using g1)
   have r2:rg (aN.sz (aT.sz (1048576))):=(Node.sz_rg r1)
   repeat((first|apply hW.t|apply hW.f|(apply hW.q;exact rqc));conv=>lhs;whnf)
   apply hW.w (aJG hE aD (aN.sz (aT.sz (1048576))) haD r2)
   conv=>lhs;whnf
   try(apply hW.q;exact rqc;conv=>lhs;whnf)
   apply hW.b<;>intro g2<;>conv=>lhs;whnf
   ·rfl
   ·have laD:=Disk.sz_ok r2 (by simpa using g2)
    have r3:rg (aD.sz (aN.sz (aT.sz (1048576)))):=(Disk.sz_rg r2)
    repeat((first|apply hW.t|apply hW.f|(apply hW.q;exact rqc));conv=>lhs;whnf)
    apply hW.w (aFt hE aP (aD.sz (aN.sz (aT.sz (1048576)))) haP r3)
    conv=>lhs;whnf
    try(apply hW.q;exact rqc;conv=>lhs;whnf)
    apply hW.b<;>intro g3<;>conv=>lhs;whnf
    ·rfl
    ·have laP:=Pkt.sz_ok r3 (by simpa using g3)
     have r4:rg (aP.sz (aD.sz (aN.sz (aT.sz (1048576))))):=(Pkt.sz_rg r3)
     repeat((first|apply hW.t|apply hW.f|(apply hW.q;exact rqc));conv=>lhs;whnf)
     apply hW.w (tV hE aT laT)
     conv=>lhs;whnf
     repeat((first|apply hW.t|apply hW.f|(apply hW.q;exact rqc));conv=>lhs;whnf)
     apply hW.w (tX hE aN laN)
     conv=>lhs;whnf
     repeat((first|apply hW.t|apply hW.f|(apply hW.q;exact rqc));conv=>lhs;whnf)
     apply hW.w (tW hE aD laD)
     conv=>lhs;whnf
     repeat((first|apply hW.t|apply hW.f|(apply hW.q;exact rqc));conv=>lhs;whnf)
     apply hW.w (mH hE aP laP)
     conv=>lhs;whnf
     repeat((first|apply hW.t|apply hW.f|(apply hW.q;exact rqc));conv=>lhs;whnf)
     apply hW.w (aDD hE aT aK aN aD aP laT laN laD laP)
     conv=>lhs;whnf
     try(apply hW.q;exact rqc;conv=>lhs;whnf)
     have lres:(jX aT aK aN aD aP).lim 4194304:=aH5 aT aK aN aD aP laT laN laD laP
     repeat((first|apply hW.t|apply hW.f|(apply hW.q;exact rqc));conv=>lhs;whnf)
     apply hW.w (tV hE aT laT)
     conv=>lhs;whnf
     repeat((first|apply hW.t|apply hW.f|(apply hW.q;exact rqc));conv=>lhs;whnf)
     apply hW.w (tX hE aN laN)
     conv=>lhs;whnf
     repeat((first|apply hW.t|apply hW.f|(apply hW.q;exact rqc));conv=>lhs;whnf)
     apply hW.w (tW hE aD laD)
     conv=>lhs;whnf
     repeat((first|apply hW.t|apply hW.f|(apply hW.q;exact rqc));conv=>lhs;whnf)
     apply hW.w (mH hE aP laP)
     conv=>lhs;whnf
     repeat((first|apply hW.t|apply hW.f|(apply hW.q;exact rqc));conv=>lhs;whnf)
     apply hW.w (xA hE aT aK aN aD aP laT laN laD laP)
     conv=>lhs;whnf
     repeat((first|apply hW.t|apply hW.f|(apply hW.q;exact rqc));conv=>lhs;whnf)
     apply hW.w (aDj hE (jX aT aK aN aD aP) (jX aT aK aN aD aP) (Actn.lim_mono (by decide:4194304≤1099511627776) lres))
     conv=>lhs;whnf
     repeat((first|apply hW.t|apply hW.f|(apply hW.q;exact rqc));conv=>lhs;whnf)
     try(apply hW.bf (by first|(exact decide_eq_false (by omega))|(simp;done)|(simp;omega));conv=>lhs;whnf)
     repeat((first|apply hW.t|apply hW.f|(apply hW.q;exact rqc));conv=>lhs;whnf)
     apply hW.w (tV hE aT laT)
     conv=>lhs;whnf
     repeat((first|apply hW.t|apply hW.f|(apply hW.q;exact rqc));conv=>lhs;whnf)
     apply hW.w (aJF hE aT aT (Tree.lim_mono (by decide:4194304≤1099511627776) (Tree.lim_mono (by decide:1048576≤4194304) laT)))
     conv=>lhs;whnf
     repeat((first|apply hW.t|apply hW.f|(apply hW.q;exact rqc));conv=>lhs;whnf)
     try(apply hW.bf (by first|(exact decide_eq_false (by omega))|(simp;done)|(simp;omega));conv=>lhs;whnf)
     repeat((first|apply hW.t|apply hW.f|(apply hW.q;exact rqc));conv=>lhs;whnf)
     apply hW.w (tX hE aN laN)
     conv=>lhs;whnf
     repeat((first|apply hW.t|apply hW.f|(apply hW.q;exact rqc));conv=>lhs;whnf)
     apply hW.w (aEr hE aN aN (Node.lim_mono (by decide:4194304≤1099511627776) (Node.lim_mono (by decide:1048576≤4194304) laN)))
     conv=>lhs;whnf
     repeat((first|apply hW.t|apply hW.f|(apply hW.q;exact rqc));conv=>lhs;whnf)
     try(apply hW.bf (by first|(exact decide_eq_false (by omega))|(simp;done)|(simp;omega));conv=>lhs;whnf)
     repeat((first|apply hW.t|apply hW.f|(apply hW.q;exact rqc));conv=>lhs;whnf)
     apply hW.w (tW hE aD laD)
     conv=>lhs;whnf
     repeat((first|apply hW.t|apply hW.f|(apply hW.q;exact rqc));conv=>lhs;whnf)
     apply hW.w (aJH hE aD aD (Disk.lim_mono (by decide:4194304≤1099511627776) (Disk.lim_mono (by decide:1048576≤4194304) laD)))
     conv=>lhs;whnf
     repeat((first|apply hW.t|apply hW.f|(apply hW.q;exact rqc));conv=>lhs;whnf)
     try(apply hW.bf (by first|(exact decide_eq_false (by omega))|(simp;done)|(simp;omega));conv=>lhs;whnf)
     repeat((first|apply hW.t|apply hW.f|(apply hW.q;exact rqc));conv=>lhs;whnf)
     apply hW.w (mH hE aP laP)
     conv=>lhs;whnf
     repeat((first|apply hW.t|apply hW.f|(apply hW.q;exact rqc));conv=>lhs;whnf)
     apply hW.w (aAd hE aP aP (Pkt.lim_mono (by decide:4194304≤1099511627776) (Pkt.lim_mono (by decide:1048576≤4194304) laP)))
     conv=>lhs;whnf
     repeat((first|apply hW.t|apply hW.f|(apply hW.q;exact rqc));conv=>lhs;whnf)
     try(apply hW.bf (by first|(exact decide_eq_false (by omega))|(simp;done)|(simp;omega));conv=>lhs;whnf)
     have ckx039:aT.cnt≤288230376151711744:=Nat.le_trans (Tree.cnt_le (Tree.lim_mono (by decide:1048576≤4194304) laT)) (by decide)
     repeat((first|apply hW.t|apply hW.f|(apply hW.q;exact rqc));conv=>lhs;whnf)
     apply hW.w (aFA hE aT (1) (by omega) (by omega))
     conv=>lhs;whnf
     repeat((first|apply hW.t|apply hW.f|(apply hW.q;exact rqc));conv=>lhs;whnf)
     have ckx240:aN.cnt≤288230376151711744:=Nat.le_trans (Node.cnt_le (Node.lim_mono (by decide:1048576≤4194304) laN)) (by decide)
     repeat((first|apply hW.t|apply hW.f|(apply hW.q;exact rqc));conv=>lhs;whnf)
     apply hW.w (aAe hE aN (1+(aT.cnt:Nat)) (by omega) (by omega))
     conv=>lhs;whnf
     repeat((first|apply hW.t|apply hW.f|(apply hW.q;exact rqc));conv=>lhs;whnf)
     have ckx341:aD.cnt≤288230376151711744:=Nat.le_trans (Disk.cnt_le (Disk.lim_mono (by decide:1048576≤4194304) laD)) (by decide)
     repeat((first|apply hW.t|apply hW.f|(apply hW.q;exact rqc));conv=>lhs;whnf)
     apply hW.w (aFB hE aD (1+(aT.cnt:Nat)+(aN.cnt:Nat)) (by omega) (by omega))
     conv=>lhs;whnf
     repeat((first|apply hW.t|apply hW.f|(apply hW.q;exact rqc));conv=>lhs;whnf)
     have ckx442:aP.cnt≤288230376151711744:=Nat.le_trans (Pkt.cnt_le (Pkt.lim_mono (by decide:1048576≤4194304) laP)) (by decide)
     repeat((first|apply hW.t|apply hW.f|(apply hW.q;exact rqc));conv=>lhs;whnf)
     apply hW.w (aCf hE aP (1+(aT.cnt:Nat)+(aN.cnt:Nat)+(aD.cnt:Nat)) (by omega) (by omega))
     conv=>lhs;whnf
     repeat((first|apply hW.t|apply hW.f|(apply hW.q;exact rqc));conv=>lhs;whnf)
     try(apply hW.bf (by first|(exact decide_eq_false (by omega))|(simp;done)|(simp;omega));conv=>lhs;whnf)
     repeat((first|apply hW.t|apply hW.f|(apply hW.q;exact rqc));conv=>lhs;whnf)
     apply hW.w (aDj hE (jX aT aK aN aD aP) (jX aT aK aN aD aP) (Actn.lim_mono (by decide:4194304≤1099511627776) lres))
     conv=>lhs;whnf
     repeat((first|apply hW.t|apply hW.f|(apply hW.q;exact rqc));conv=>lhs;whnf)
     try(apply hW.bf (by first|(exact decide_eq_false (by omega))|(simp;done)|(simp;omega));conv=>lhs;whnf)
     have cmg047:(jX aT aK aN aD aP).cnt≤288230376151711744:=Nat.le_trans (Actn.cnt_le lres) (by decide)
     repeat((first|apply hW.t|apply hW.f|(apply hW.q;exact rqc));conv=>lhs;whnf)
     apply hW.w (aHm hE (jX aT aK aN aD aP) (1) (by omega) (by omega))
     conv=>lhs;whnf
     repeat((first|apply hW.t|apply hW.f|(apply hW.q;exact rqc));conv=>lhs;whnf)
     repeat((first|apply hW.t|apply hW.f|(apply hW.q;exact rqc));conv=>lhs;whnf)
     apply hW.w (aCg hE (jX aT aK aN aD aP) 1 (by omega) (by omega))
     conv=>lhs;whnf
     repeat((first|apply hW.t|apply hW.f|(apply hW.q;exact rqc));conv=>lhs;whnf)
     try(apply hW.bf (by first|(exact decide_eq_false (by omega))|(simp;done)|(simp;omega));conv=>lhs;whnf)
     repeat((first|apply hW.t|apply hW.f|(apply hW.q;exact rqc));conv=>lhs;whnf)
     try(apply hW.bf (by first|(exact decide_eq_false (by omega))|(simp;done)|(simp;omega));conv=>lhs;whnf)
     repeat((first|apply hW.t|apply hW.f|(apply hW.q;exact rqc));conv=>lhs;whnf)
     repeat((first|apply hW.t|apply hW.f|(apply hW.q;exact rqc));conv=>lhs;whnf)
     apply hW.w (tV hE aT laT)
     conv=>lhs;whnf
     repeat((first|apply hW.t|apply hW.f|(apply hW.q;exact rqc));conv=>lhs;whnf)
     apply hW.w (tX hE aN laN)
     conv=>lhs;whnf
     repeat((first|apply hW.t|apply hW.f|(apply hW.q;exact rqc));conv=>lhs;whnf)
     apply hW.w (tW hE aD laD)
     conv=>lhs;whnf
     repeat((first|apply hW.t|apply hW.f|(apply hW.q;exact rqc));conv=>lhs;whnf)
     apply hW.w (mH hE aP laP)
     conv=>lhs;whnf
     repeat((first|apply hW.t|apply hW.f|(apply hW.q;exact rqc));conv=>lhs;whnf)
     apply hW.w (xA hE aT aK aN aD aP laT laN laD laP)
     conv=>lhs;whnf
     repeat((first|apply hW.t|apply hW.f|(apply hW.q;exact rqc));conv=>lhs;whnf)
     apply hW.w (aDj hE (jX aT aK aN aD aP) (jX aT aK aN aD aP) (Actn.lim_mono (by decide:4194304≤1099511627776) lres))
     conv=>lhs;whnf
     repeat((first|apply hW.t|apply hW.f|(apply hW.q;exact rqc));conv=>lhs;whnf)
     try(apply hW.bf (by first|(exact decide_eq_false (by omega))|(simp;done)|(simp;omega));conv=>lhs;whnf)
     repeat((first|apply hW.t|apply hW.f|(apply hW.q;exact rqc));conv=>lhs;whnf)
     apply hW.w (aCg hE (jX aT aK aN aD aP) 1 (by omega) (by omega))
     conv=>lhs;whnf
     repeat((first|apply hW.t|apply hW.f|(apply hW.q;exact rqc));conv=>lhs;whnf)
     try(apply hW.bf (by first|(exact decide_eq_false (by omega))|(simp;done)|(simp;omega));conv=>lhs;whnf)
     repeat((first|apply hW.t|apply hW.f|(apply hW.q;exact rqc));conv=>lhs;whnf)
     try(apply hW.bf (by first|(exact decide_eq_false (by omega))|(simp;done)|(simp;omega));conv=>lhs;whnf)
     repeat((first|apply hW.t|apply hW.f|(apply hW.q;exact rqc));conv=>lhs;whnf)
     rfl
theorem aH6 {row:List Sh} {e:List T} (hl:e.length=row.length) (h:∀ (j:Nat) s t,row[j]?=some s→e[j]?=some t→Fit s t):All2 Fit row e:=by
 induction row generalizing e with
 |nil=>cases e with
  |nil=>exact .nil
  |cons _ _=>cases hl
 |cons s r ih=>cases e with
  |nil=>cases hl
  |cons t u=>exact .cons (h 0 s t rfl rfl) (ih (by simpa using hl) fun j s t h1 h2=>h (j+1) s t (by simpa using h1) (by simpa using h2))
theorem xB {α:Type} (f:α→List T) (Q:α→Prop) {row:List Sh} {by_:Nat} {t:T} (hr:∀ e:List T,All2 Fit row e→∃ x,e=f x∧Q x) (h:Fit (.sl row by_) t):∃ l:List α,t = .sl false (l.map f)∧l.length*by_≤reachBytes∧∀ x∈l,Q x:=by
 cases h with
 |sl h hs hx =>
  rename_i es
  have:∃ l:List α,es=l.map f∧∀ x∈l,Q x:=by
   clear h
   induction es with
   |nil=>exact⟨[],rfl,by simp⟩
   |cons e r ih =>
    obtain⟨l,h1,h2⟩:=ih (fun e he=>hs e (by simp[he])) fun i e he j s t h3 h4=>hx (i+1) e (by simpa using he) j s t h3 h4
    obtain⟨x,h3,h4⟩:=hr e (aH6 (hs e (by simp)) fun j s t h5 h6=>hx 0 e rfl j s t h5 h6)
    exact⟨x::l,by rw[h1,h3];rfl,fun y hy=>by rcases List.mem_cons.mp hy with rfl|hy;exact h4;exact h2 y hy⟩
  obtain⟨l,rfl,hq⟩:=this
  exact⟨l,rfl,by simpa using h,hq⟩
abbrev okI (n:Int):Prop := -9223372036854775808≤n∧n≤9223372036854775807
theorem cD {t:T} (h:Fit (.int .i64) t):∃ n,t = .int .i64 n∧okI n:=by
 cases h with
 |int h=>exact⟨_,rfl,by simpa[Lit.wf,IntKind.min,IntKind.max,IntKind.bits,IntKind.signed] using h⟩
theorem aJ9 {e:List T} (h:All2 Fit [.int .u8] e):∃ x:UInt8,e=mU x∧True:=by
 cases h with
 |cons h t =>
  cases t
  cases h with
  |int h =>
   rename_i n
   have h:0≤n∧n≤255:=by simpa[Lit.wf,IntKind.min,IntKind.max,IntKind.bits,IntKind.signed] using h
   refine⟨UInt8.ofNat n.toNat,?_,trivial⟩
   simp only[mU,UInt8.toNat_ofNat']
   congr 2
   omega
theorem xC {n by_:Nat} (hb:0<by_) (h:n*by_≤reachBytes):n≤2 ^ 47:=by
 have:n*1≤n*by_:=Nat.mul_le_mul_left _ hb
 unfold reachBytes at h
 omega
def aH7 (P:Program) (t:TypeId):Bool:=match P.underlying t with|some (.struct _)=>true|_=>false
theorem aMk {P:Program} {t:TypeId} {a:A} {sh:Sh} (h:aFT P t a) (hs:vB P 12 t=some [sh]) (hu:aH7 P t=false):∃ x,a = .v false [.t x]∧Fit sh x:=by
 obtain⟨sh',ts,h1,h2,h3⟩:=h
 rw[hs]at h1
 cases h1
 cases h2 with
 |cons h2 t=>cases t;exact⟨_,by rw[h3];exact congrArg (fun g=>A.v g _) hu,h2⟩
theorem aR {α β:Type} {R:α→β→Prop} {a:α} {l:List α} {e:List β} (h:All2 R (a::l) e):∃ x r,e=x::r∧R a x∧All2 R l r:=by
 cases h with
 |cons h t=>exact⟨_,_,rfl,h,t⟩
theorem aKa {t:T} (h:Fit .bool t):∃ b,t = .bool b:=by cases h;exact⟨_,rfl⟩
theorem aKb {e:List T} (h:All2 Fit [.int .i64] e):∃ x:Int,e=qI x∧True:=by
 obtain⟨_,_,rfl,h0,t⟩:=aR h
 obtain⟨y,rfl,_⟩:=cD h0
 cases t
 exact⟨y,rfl,trivial⟩
theorem aKc {P:Program} {t:TypeId} {a:A} {sh:Sh} (h:aFT P t a) (hs:vB P 12 t=some [sh]) (hu:aH7 P t=false):∃ x,a = .v false [.t x]∧Fit sh x:=aMk h hs hu
theorem aMl {P:Program} {As:List A} (h:All2 (aFT P) [] As):As=[]:=by cases h;rfl
theorem lY {t:T} (h:Fit (.sl [.int .u8] 1) t):∃ l:List UInt8,t = .sl false (bys l)∧l.length≤140737488355328:=by
 obtain⟨l,h1,h2,h3⟩:=xB mU (fun _=>True) (fun e he=>aJ9 he) h
 exact⟨l,h1,xC (by decide) h2⟩
theorem aKd {t:T} (h:Fit (.sl [.int .i64] 8) t):∃ l:List Int,t = .sl false (bQ l)∧l.length≤140737488355328:=by
 obtain⟨l,h1,h2,h3⟩:=xB qI (fun _=>True) (fun e he=>aKb he) h
 exact⟨l,h1,xC (by decide) h2⟩
theorem aDE {e:List T} (h:All2 Fit [.int .i64, .int .i64] e):∃ x:Sum,e=Sum.row x∧True:=by
 obtain⟨_,_,rfl,h0,t0⟩:=aR h
 obtain⟨y0,rfl,_⟩:=cD h0
 obtain⟨_,_,rfl,h1,t1⟩:=aR t0
 obtain⟨y1,rfl,_⟩:=cD h1
 cases t1
 exact⟨⟨y0,y1⟩,rfl,trivial⟩
theorem aKe {t:T} (h:Fit (.sl [.int .i64, .int .i64] 16) t):∃ l:List Sum,t = .sl false (l.map Sum.row)∧l.length≤140737488355328:=by
 obtain⟨l,h1,h2,h3⟩:=xB Sum.row (fun _=>True) (fun e he=>aDE he) h
 exact⟨l,h1,xC (by decide) h2⟩
theorem aDF {e:List T} (h:All2 Fit [.int .i64, .int .i64, .int .i64, .int .i64, .int .i64] e):∃ x:Kid,e=Kid.row x∧True:=by
 obtain⟨_,_,rfl,h0,t0⟩:=aR h
 obtain⟨y0,rfl,_⟩:=cD h0
 obtain⟨_,_,rfl,h1,t1⟩:=aR t0
 obtain⟨y1,rfl,_⟩:=cD h1
 obtain⟨_,_,rfl,h2,t2⟩:=aR t1
 obtain⟨y2,rfl,_⟩:=cD h2
 obtain⟨_,_,rfl,h3,t3⟩:=aR t2
 obtain⟨y3,rfl,_⟩:=cD h3
 obtain⟨_,_,rfl,h4,t4⟩:=aR t3
 obtain⟨y4,rfl,_⟩:=cD h4
 cases t4
 exact⟨⟨y0,y1,y2,y3,y4⟩,rfl,trivial⟩
theorem aKf {t:T} (h:Fit (.sl [.int .i64, .int .i64, .int .i64, .int .i64, .int .i64] 40) t):∃ l:List Kid,t = .sl false (l.map Kid.row)∧l.length≤140737488355328:=by
 obtain⟨l,h1,h2,h3⟩:=xB Kid.row (fun _=>True) (fun e he=>aDF he) h
 exact⟨l,h1,xC (by decide) h2⟩
theorem aDG {e:List T} (h:All2 Fit [.int .i64, .int .i64, .sl [.int .u8] 1, .int .i64, .int .i64, .int .i64] e):∃ x:Put,e=(Put.row false) x∧x.lim 140737488355328:=by
 obtain⟨_,_,rfl,h0,t0⟩:=aR h
 obtain⟨y0,rfl,_⟩:=cD h0
 obtain⟨_,_,rfl,h1,t1⟩:=aR t0
 obtain⟨y1,rfl,_⟩:=cD h1
 obtain⟨_,_,rfl,h2,t2⟩:=aR t1
 obtain⟨y2,rfl,l2⟩:=lY h2
 obtain⟨_,_,rfl,h3,t3⟩:=aR t2
 obtain⟨y3,rfl,_⟩:=cD h3
 obtain⟨_,_,rfl,h4,t4⟩:=aR t3
 obtain⟨y4,rfl,_⟩:=cD h4
 obtain⟨_,_,rfl,h5,t5⟩:=aR t4
 obtain⟨y5,rfl,_⟩:=cD h5
 cases t5
 exact⟨⟨y0,y1,y2,⟨y3,y4,y5⟩⟩,rfl,l2⟩
theorem aKg {t:T} (h:Fit (.sl [.int .i64, .int .i64, .sl [.int .u8] 1, .int .i64, .int .i64, .int .i64] 64) t):∃ l:List Put,t = .sl false (l.map (Put.row false))∧aAa (fun B=>Put.lim B) 140737488355328 l:=by
 obtain⟨l,h1,h2,h3⟩:=xB (Put.row false) (fun x=>Put.lim 140737488355328 x) (fun e he=>aDG he) h
 exact⟨l,h1,⟨xC (by decide) h2,h3⟩⟩
theorem aFS {P:Program} {t:TypeId} {a:A} (h:aFT P t a) (hs:vB P 12 t=some [.int .i64, .int .i64, .sl [.int .u8] 1]) (hu:aH7 P t=true):∃ x:Pkt,a=gv (x.cs aM)∧x.lim 140737488355328:=by
 obtain⟨sh,ts,h1,h,h3⟩:=h
 rw[hs]at h1
 cases h1
 have h3:a = .v true (ts.map CA.t):=h3.trans (congrArg (fun g=>A.v g _) hu)
 subst h3
 obtain⟨_,_,rfl,h0,t0⟩:=aR h
 obtain⟨y0,rfl,_⟩:=cD h0
 obtain⟨_,_,rfl,h1,t1⟩:=aR t0
 obtain⟨y1,rfl,_⟩:=cD h1
 obtain⟨_,_,rfl,h2,t2⟩:=aR t1
 obtain⟨y2,rfl,l2⟩:=lY h2
 cases t2
 exact⟨⟨y0,y1,y2⟩,rfl,l2⟩
theorem aKh {P:Program} {t:TypeId} {a:A} (h:aFT P t a) (hs:vB P 12 t=some [.sl [.int .i64] 8]) (hu:aH7 P t=true):∃ x:Tree,a=gv (x.cs aM)∧x.lim 140737488355328:=by
 obtain⟨sh,ts,h1,h,h3⟩:=h
 rw[hs]at h1
 cases h1
 have h3:a = .v true (ts.map CA.t):=h3.trans (congrArg (fun g=>A.v g _) hu)
 subst h3
 obtain⟨_,_,rfl,h0,t0⟩:=aR h
 obtain⟨y0,rfl,l0⟩:=aKd h0
 cases t0
 exact⟨⟨y0⟩,rfl,l0⟩
theorem aKi {P:Program} {t:TypeId} {a:A} (h:aFT P t a) (hs:vB P 12 t=some [.sl [.int .u8] 1, .sl [.int .u8] 1, .int .i64, .int .i64, .int .i64, .sl [.int .i64, .int .i64, .sl [.int .u8] 1, .int .i64, .int .i64, .int .i64] 64]) (hu:aH7 P t=true):∃ x:Disk,a=gv (x.cs aM false)∧x.lim 140737488355328:=by
 obtain⟨sh,ts,h1,h,h3⟩:=h
 rw[hs]at h1
 cases h1
 have h3:a = .v true (ts.map CA.t):=h3.trans (congrArg (fun g=>A.v g _) hu)
 subst h3
 obtain⟨_,_,rfl,h0,t0⟩:=aR h
 obtain⟨y0,rfl,l0⟩:=lY h0
 obtain⟨_,_,rfl,h1,t1⟩:=aR t0
 obtain⟨y1,rfl,l1⟩:=lY h1
 obtain⟨_,_,rfl,h2,t2⟩:=aR t1
 obtain⟨y2,rfl,_⟩:=cD h2
 obtain⟨_,_,rfl,h3,t3⟩:=aR t2
 obtain⟨y3,rfl,_⟩:=cD h3
 obtain⟨_,_,rfl,h4,t4⟩:=aR t3
 obtain⟨y4,rfl,_⟩:=cD h4
 obtain⟨_,_,rfl,h5,t5⟩:=aR t4
 obtain⟨y5,rfl,l5⟩:=aKg h5
 cases t5
 exact⟨⟨y0,y1,⟨y2,y3,y4⟩,y5⟩,rfl,⟨l0,l1,l5⟩⟩
theorem aKj {P:Program} {t:TypeId} {a:A} (h:aFT P t a) (hs:vB P 12 t=some [.bool, .int .i64, .int .i64, .int .i64, .int .i64, .int .i64, .sl [.int .i64, .int .i64] 16, .int .i64, .sl [.int .u8] 1, .int .i64, .sl [.int .i64, .int .i64, .int .i64, .int .i64, .int .i64] 40, .int .i64]) (hu:aH7 P t=true):∃ x:Node,a=gv (x.cs aM)∧x.lim 140737488355328:=by
 obtain⟨sh,ts,h1,h,h3⟩:=h
 rw[hs]at h1
 cases h1
 have h3:a = .v true (ts.map CA.t):=h3.trans (congrArg (fun g=>A.v g _) hu)
 subst h3
 obtain⟨_,_,rfl,h0,t0⟩:=aR h
 obtain⟨y0,rfl⟩:=aKa h0
 obtain⟨_,_,rfl,h1,t1⟩:=aR t0
 obtain⟨y1,rfl,_⟩:=cD h1
 obtain⟨_,_,rfl,h2,t2⟩:=aR t1
 obtain⟨y2,rfl,_⟩:=cD h2
 obtain⟨_,_,rfl,h3,t3⟩:=aR t2
 obtain⟨y3,rfl,_⟩:=cD h3
 obtain⟨_,_,rfl,h4,t4⟩:=aR t3
 obtain⟨y4,rfl,_⟩:=cD h4
 obtain⟨_,_,rfl,h5,t5⟩:=aR t4
 obtain⟨y5,rfl,_⟩:=cD h5
 obtain⟨_,_,rfl,h6,t6⟩:=aR t5
 obtain⟨y6,rfl,l6⟩:=aKe h6
 obtain⟨_,_,rfl,h7,t7⟩:=aR t6
 obtain⟨y7,rfl,_⟩:=cD h7
 obtain⟨_,_,rfl,h8,t8⟩:=aR t7
 obtain⟨y8,rfl,l8⟩:=lY h8
 obtain⟨_,_,rfl,h9,t9⟩:=aR t8
 obtain⟨y9,rfl,_⟩:=cD h9
 obtain⟨_,_,rfl,h10,t10⟩:=aR t9
 obtain⟨y10,rfl,l10⟩:=aKf h10
 obtain⟨_,_,rfl,h11,t11⟩:=aR t10
 obtain⟨y11,rfl,_⟩:=cD h11
 cases t11
 exact⟨⟨y0,y1,y2,⟨y3,y4,y5,y6⟩,⟨y7,y8⟩,y9,y10,y11⟩,rfl,⟨l6,l8,l10⟩⟩
end Tev
