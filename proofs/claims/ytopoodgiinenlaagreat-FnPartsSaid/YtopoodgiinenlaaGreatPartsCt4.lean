/- What the functions compute, one contract each. -/
import Derived.Test.YtopoodgiinenlaaGreatPartsCt3
set_option linter.unusedSimpArgs false
set_option linter.unusedVariables false
namespace Tev
open Go
set_option maxRecDepth 50000
set_option maxHeartbeats 20000000
theorem aPQ {n i:Nat} (hn:n<1099511627776) (hi:i<40) (h:n.testBit i=false):iP ((n ||| 2 ^ i:Nat):Int)=iP n+1:=by
 have h2:2 ^ i≤2 ^ 39:=Nat.pow_le_pow_right (by decide) (by omega)
 have h3:n ||| 2 ^ i<2 ^ 40:=Nat.or_lt_two_pow (by omega) (by omega)
 have o1:bT (n:Int)=true:=by simp only[bT,aR,Bool.and_eq_true,decide_eq_true_eq];omega
 have o2:bT ((n ||| 2 ^ i:Nat):Int)=true:=by simp only[bT,aR,Bool.and_eq_true,decide_eq_true_eq];omega
 unfold iP
 rw[if_pos o1,if_pos o2,show((n ||| 2 ^ i:Nat):Int).toNat=n ||| 2 ^ i from rfl,show((n:Nat):Int).toNat=n from rfl,aHX (by omega),aHX hn]
 have k:∀ (q:Nat) , (n ||| 2 ^ i)/2 ^ (8*q)%256=(n/2 ^ (8*q)%256) ||| (if 8*q≤i∧i<8*q+8 then 2 ^ (i-8*q) else 0):=by
  intro q
  apply Nat.eq_of_testBit_eq
  intro j
  rw[show 256=2 ^ 8 from rfl,Nat.testBit_mod_two_pow,Nat.testBit_div_two_pow,Nat.testBit_or,Nat.testBit_or,Nat.testBit_mod_two_pow,Nat.testBit_div_two_pow,Nat.testBit_two_pow]
  split
  ·rw[Nat.testBit_two_pow]
   by_cases hj:j<8
   ·have e:decide (i=8*q+j)=decide (i-8*q=j):=decide_eq_decide.mpr (by omega)
    simp only[hj,decide_true,Bool.true_and]
    rw[show j+8*q=8*q+j from by omega,e]
   ·have e:decide (i-8*q=j)=false:=decide_eq_false (by omega)
    simp[hj,e]
  ·by_cases hj:j<8
   ·have e:decide (i=j+8*q)=false:=decide_eq_false (by omega)
    simp[hj,e]
   ·simp[hj]
 have b:∀ q,i/8=q→p8 (n/2 ^ (8*q)%256 ||| 2 ^ (i-8*q))=p8 (n/2 ^ (8*q)%256)+1:=by
  intro q hq
  refine aU7 ⟨n/2 ^ (8*q)%256,by omega⟩ ⟨i-8*q,by omega⟩ ?_
  change (n/2 ^ (8*q)%256).testBit (i-8*q)=false
  rw[show 256=2 ^ 8 from rfl,Nat.testBit_mod_two_pow,Nat.testBit_div_two_pow,show i-8*q+8*q=i from by omega,h,Bool.and_false]
 have k0:=k 0
 have k1:=k 1
 have k2:=k 2
 have k3:=k 3
 have k4:=k 4
 have b0:=b 0
 have b1:=b 1
 have b2:=b 2
 have b3:=b 3
 have b4:=b 4
 simp only[Nat.mul_zero,Nat.pow_zero,Nat.div_one,Nat.mul_one,show(2:Nat) ^ 8=256 from rfl,show(2:Nat) ^ (8*2)=65536 from rfl,show(2:Nat) ^ (8*3)=16777216 from rfl,show(2:Nat) ^ (8*4)=4294967296 from rfl]at k0 k1 k2 k3 k4 b0 b1 b2 b3 b4
 unfold aVV
 rw[k0,k1,k2,k3,k4]
 obtain hq|hq|hq|hq|hq:i/8=0∨i/8=1∨i/8=2∨i/8=3∨i/8=4:=by omega
 ·rw[if_pos (by omega),if_neg (by omega),if_neg (by omega),if_neg (by omega),if_neg (by omega),b0 hq]
  simp only[Nat.or_zero];omega
 ·rw[if_neg (by omega),if_pos (by omega),if_neg (by omega),if_neg (by omega),if_neg (by omega),b1 hq]
  simp only[Nat.or_zero];omega
 ·rw[if_neg (by omega),if_neg (by omega),if_pos (by omega),if_neg (by omega),if_neg (by omega),b2 hq]
  simp only[Nat.or_zero];omega
 ·rw[if_neg (by omega),if_neg (by omega),if_neg (by omega),if_pos (by omega),if_neg (by omega),b3 hq]
  simp only[Nat.or_zero];omega
 ·rw[if_neg (by omega),if_neg (by omega),if_neg (by omega),if_neg (by omega),if_pos (by omega),b4 hq]
  simp only[Nat.or_zero];omega
theorem aTX {size n:Int} {i:Nat} (h:(i:Int)<bA size n):1≤aU size n i∧aU size n i≤6∧0≤aY size n i∧aY size n i+aU size n i≤n:=by
 rcases gJ (size:=size) (n:=n) (i:=(i:Int)) with h1|h1
 ·exfalso
  have hs:cD size n=true:=by
   by_cases hs:cD size n=true
   ·exact hs
   ·unfold bA at h;rw[if_neg hs]at h;omega
  have hb:=kA hs
  obtain⟨q1,q2,q3,q4⟩:=oZ hs
  have hr:aR (i:Int) 0 (IntKind.i64.wrap (bA size n-1))=true:=by
   rw[show IntKind.i64.wrap (bA size n-1)=bA size n-1 from aK (by omega)]
   simp[aR];omega
  have h2:=h1.1
  unfold aU at h2
  rw[if_pos hr]at h2
  have hlt:(i:Int)*size<n:=by
   rw[hb.1]at h
   have h3:((i:Int)+1)≤(n+size-1)/size:=by omega
   have h4:=(Int.le_ediv_iff_mul_le (by omega)).mp h3
   rw[Int.add_mul]at h4
   omega
  have h0:0≤(i:Int)*size:=Int.mul_nonneg (by omega) (by omega)
  rw[show IntKind.i64.wrap ((i:Int)*size)=(i:Int)*size from aK (by omega),show IntKind.i64.wrap (n-(i:Int)*size)=n-(i:Int)*size from aK (by omega)]at h2
  unfold qK at h2
  split at h2<;>omega
 ·exact⟨h1.2.1,h1.2.2.1,h1.1,h1.2.2.2.1⟩
theorem aSD {b x:aC} {a:Nat} (h:a+x.length≤b.length) (j:Nat):(aHp b a x)[j]?=if j<a then b[j]? else if j<a+x.length then x[j-a]? else b[j]?:=by
 unfold aHp
 rw[List.append_assoc,List.getElem?_append,List.length_take,Nat.min_eq_left (by omega)]
 by_cases h1:j<a
 ·rw[if_pos h1,if_pos h1,List.getElem?_take,if_pos h1]
 ·rw[if_neg h1,if_neg h1,List.getElem?_append]
  by_cases h2:j<a+x.length
  ·rw[if_pos (by omega),if_pos h2]
  ·rw[if_neg (by omega),if_neg h2,List.getElem?_drop]
   congr 1
   omega
theorem aTY {b x:aC} {a:Nat} (h:a+x.length≤b.length):((aHp b a x).drop a).take x.length=x:=by
 apply List.ext_getElem?
 intro j
 rw[List.getElem?_take,List.getElem?_drop,aSD h]
 by_cases hj:j<x.length
 ·rw[if_pos hj,if_neg (by omega),if_pos (by omega)]
  congr 1
  omega
 ·rw[if_neg hj,List.getElem?_eq_none (by omega)]
theorem aTZ {b x:aC} {a p q:Nat} (h:a+x.length≤b.length) (hd:p+q≤a∨a+x.length≤p):((aHp b a x).drop p).take q=(b.drop p).take q:=by
 apply List.ext_getElem?
 intro j
 rw[List.getElem?_take,List.getElem?_take,List.getElem?_drop,List.getElem?_drop,aSD h]
 by_cases hj:j<q
 ·rw[if_pos hj,if_pos hj]
  by_cases h1:p+j<a
  ·rw[if_pos h1]
  ·rw[if_neg h1,if_neg (by omega)]
 ·rw[if_neg hj,if_neg hj]
theorem aSE {m:Man} {x:Bld}:∀ {l:List Sum} {i:Nat},aKi m x i l=true↔∀ j (hj:j<l.length),aLV m x (i+j) l[j]=true:=by
 intro l
 induction l with
 |nil=>intro i;simp[aKi]
 |cons s r ih =>
  intro i
  rw[aKi,Bool.and_eq_true,ih]
  constructor
  ·rintro⟨h1,h2⟩ j hj
   cases j with
   |zero=>exact h1
   |succ j =>
    have:=h2 j (by simp at hj;omega)
    rw[show i+1+j=i+(j+1) from by omega]at this
    simpa using this
  ·intro h
   refine⟨h 0 (by simp),fun j hj=>?_⟩
   have:=h (j+1) (by simp;omega)
   rw[show i+1+j=i+(j+1) from by omega]
   simpa using this
theorem aOi {size n:Int} {i:Nat} (h:(i:Int)<bA size n):aY size n i=(i:Int)*size∧aU size n i≤size∧2≤size:=by
 have hs:cD size n=true:=by
  by_cases hs:cD size n=true
  ·exact hs
  ·unfold bA at h;rw[if_neg hs]at h;omega
 have hb:=kA hs
 obtain⟨q1,q2,q3,q4⟩:=oZ hs
 have hr:aR (i:Int) 0 (IntKind.i64.wrap (bA size n-1))=true:=by
  rw[show IntKind.i64.wrap (bA size n-1)=bA size n-1 from aK (by omega)]
  simp[aR];omega
 have h0:0≤(i:Int)*size:=Int.mul_nonneg (by omega) (by omega)
 have h1:(i:Int)*size≤40*6:=Int.mul_le_mul (by omega) (by omega) (by omega) (by omega)
 unfold aY aU
 rw[if_pos hr,if_pos hr,show IntKind.i64.wrap ((i:Int)*size)=(i:Int)*size from aK (by omega)]
 refine⟨rfl,?_,by omega⟩
 unfold qK
 split<;>omega
theorem aHY {m:Man} {n:Nat} (h:aX m=true) (hn:n<m.sums.length):(m.sums.length:Int)=bA m.size m.len:=by
 unfold aX at h
 by_cases hg:m.gen=0
 ·rw[if_pos hg]at h
  unfold bV at h
  simp at h
  rw[show m.sums.length=0 from by simp[h]]at hn
  omega
 ·rw[if_neg hg]at h
  simp only[Bool.and_eq_true,decide_eq_true_eq]at h
  exact h.2.2.1
theorem aOj {m:Man} {x:Bld} {n:Nat} {b:aC} (h:aX m=true) (hn:n<m.sums.length) (hl:(x.buf.length:Int)=m.len) (hb:aU m.size m.len n=b.length) (h0:0≤aY m.size m.len n) (hf:aY m.size m.len n+b.length≤x.buf.length) {i:Nat} (hi:i<m.sums.length):dR (iF m x n b).buf m.size i=if i=n then b else dR x.buf m.size i:=by
 have hk:=aHY h hn
 have s1:=aOi (size:=m.size) (n:=m.len) (i:=n) (by omega)
 have s2:=aOi (size:=m.size) (n:=m.len) (i:=i) (by omega)
 obtain⟨a,ha⟩:∃ a:Nat,aY m.size m.len n=a:=⟨(aY m.size m.len n).toNat,by omega⟩
 have hf2:a+b.length≤x.buf.length:=by omega
 have hlen:=aDl hf2
 have hp:(iF m x n b).buf=aHp x.buf a b:=by unfold iF;simp only;rw[ha];rfl
 rw[hp]
 unfold dR
 rw[hlen,hl]
 by_cases e:i=n
 ·subst e
  rw[if_pos rfl,ha,hb]
  exact aTY hf2
 ·rw[if_neg e]
  refine aTZ hf2 ?_
  have g0:0≤(i:Int)*m.size:=Int.mul_nonneg (by omega) (by omega)
  rw[ha]at s1
  rcases Nat.lt_or_ge i n with hlt|hge
  ·left
   have:((i:Int)+1)*m.size≤(n:Int)*m.size:=Int.mul_le_mul_of_nonneg_right (by omega) (by omega)
   rw[Int.add_mul]at this
   omega
  ·right
   have:((n:Int)+1)*m.size≤(i:Int)*m.size:=Int.mul_le_mul_of_nonneg_right (by omega) (by omega)
   rw[Int.add_mul]at this
   omega
theorem aPR {m:Man} {x:Bld} {n:Nat} {b:aC} (hB:cM m x=true) (hn:n<m.sums.length) (hs:bC b=m.sums[n]) (hb:aU m.size m.len n=b.length) (h0:0≤aY m.size m.len n) (hf:aY m.size m.len n+b.length≤x.buf.length):cM m (iF m x n b)=true:=by
 obtain⟨hm,ho,hl⟩:=xN hB
 have hc:=(dO hm).1
 obtain⟨k,hk,hk2⟩:=aEx ho
 obtain⟨w,w1,w2,w3⟩:=aSB (n:=n) (by omega)
 obtain⟨p,p1,p2,p3⟩:=aIx hc
 have hav:(iF m x n b).hav=((k ||| w:Nat):Int):=by
  unfold iF
  simp only
  rw[hk,w1]
  exact(nM hk2 w2).1
 have hlt:=(nM hk2 w2).2
 unfold cM at hB ⊢
 simp only[Bool.and_eq_true,decide_eq_true_eq]at hB ⊢
 obtain⟨_,_,h3,_,h5⟩:=hB
 refine⟨hm,?_,?_,?_,?_⟩
 ·rw[hav];exact aJk hlt
 ·rw[hav,p1]
  rw[hk,p1]at h3
  obtain⟨d,d1,_,d3⟩:=aNs hk2 p2
  have d0:d=0:=by rw[d1]at h3;omega
  refine aPu hlt p2 fun j hj=>?_
  rw[Nat.testBit_or,w3]at hj
  have h7:=d3 j
  rw[d0,Nat.zero_testBit]at h7
  by_cases e:n=j
  ·subst e
   rw[p3]
   exact decide_eq_true hn
  ·rw[decide_eq_false e,Bool.or_false]at hj
   rw[hj]at h7
   cases hp:p.testBit j
   ·rw[hp]at h7;cases h7
   ·rfl
 ·obtain⟨a,ha⟩:∃ a:Nat,aY m.size m.len n=a:=⟨(aY m.size m.len n).toNat,by omega⟩
  have hf2:a+b.length≤x.buf.length:=by omega
  have hp:(iF m x n b).buf=aHp x.buf a b:=by unfold iF;simp only;rw[ha];rfl
  rw[hp,aDl hf2,hl]
 ·rw[aSE]at h5 ⊢
  intro j hj
  have h6:=h5 j hj
  rw[Nat.zero_add]at h6 ⊢
  unfold aLV at h6 ⊢
  rw[aOj hm hn hl hb h0 hf hj,hav,lY hlt (by omega),Nat.testBit_or,w3]
  rw[hk,lY hk2 (by omega)]at h6
  by_cases e:j=n
  ·subst e
   simp[hs]
  ·rw[if_neg e,decide_eq_false (show ¬ n=j from fun h=>e h.symm),Bool.or_false]
   exact h6
theorem aNt {gen i:Int} {b:aC} (hg:1≤gen∧gen≤1000000) (hi:0≤i∧i≤39) (hb:1≤b.length∧b.length≤6):bS (cN gen i b)=true:=by
 unfold bS cN
 simp[aR,bV]
 omega
theorem aSF (gen i:Int) {b:aC} (hb:b.length≤6):(cQ (cN gen i b)).length≤400:=by
 unfold cQ
 split
 ·have h:=aL (iE (cN gen i b)) (bG (iE (cN gen i b)))
  have h2:(iE (cN gen i b)).length≤200:=by
   have e:iE (cN gen i b)=cA (aD (aD (aD [] 3) gen) i) b:=rfl
   have l1:=aL [] 3
   have l2:=aL (aD [] 3) gen
   have l3:=aL (aD (aD [] 3) gen) i
   have l4:=aL (aD (aD (aD [] 3) gen) i) b.length
   have el:(cA (aD (aD (aD [] 3) gen) i) b).length=(aD (aD (aD (aD [] 3) gen) i) b.length).length+b.length:=by unfold cA;exact List.length_append
   rw[e,el]
   simp at l1
   omega
  omega
 ·simp
theorem aPS {gen i:Int} {b:aC} (hg:1≤gen∧gen≤1000000) (hi:0≤i∧i≤39) (hb:1≤b.length∧b.length≤6):pS (cQ (cN gen i b))=some (cN gen i b) :=
 (aKy (aNt hg hi hb) rfl (aSF gen i hb.2)).1
theorem aSG {n:Node} {k i:Int}:∀ {l c:List Kid} {o:List Pkt} {p:Pkt},p∈(mU n k i l c o).2→p∈o∨∃ id,p=aL8 n k i id:=by
 intro l
 induction l with
 |nil=>intro c o p h;exact .inl h
 |cons x r ih =>
  intro c o p h
  rw[mU]at h
  split at h
  ·rcases ih h with h1|h1
   ·rcases List.mem_append.mp h1 with h2|h2
    ·exact .inl h2
    ·exact .inr ⟨x.id,List.mem_singleton.mp h2⟩
   ·exact .inr h1
  ·exact ih h
theorem aPT (n:Node) (k:Int) (m:Msg) :
 ((bF n k m).out=[]∧(∃ d,(bF n k m).n={ n with drops:=d })∧(bF n k m).n.bld.hav=n.bld.hav) ∨
 (bF n k m).n.bld.hav≠n.bld.hav∧iP (bF n k m).n.bld.hav=iP n.bld.hav+1∧cX (bF n k m).n.bld.hav m.i=true∧cM (bF n k m).n.man (bF n k m).n.bld=true∧cM n.man n.bld=true∧∀ p∈(bF n k m).out,∃ x,pS p.b=some x∧x.i=m.i∧x.b=m.b:=by
 unfold bF
 split
 ·exact .inl ⟨rfl,⟨_,rfl⟩,rfl⟩
 ·split
  ·exact .inl ⟨rfl,⟨_,rfl⟩,rfl⟩
  ·split
   ·exact .inl ⟨rfl,⟨n.drops,rfl⟩,rfl⟩
   ·split
    ·exact .inl ⟨rfl,⟨_,rfl⟩,rfl⟩
    ·rename_i hfit0
     have hF:jS n.man n.bld m.i m.b=true:=by simpa using hfit0
     obtain⟨j,hj,hi,h40,hB,hm,hs,hin,hsum,h6,hsp,hat,hfit⟩:=aKm hF
     have hp:dP n.man n.bld m.i m.b=iF n.man n.bld j m.b:=by
      unfold dP
      rw[if_pos hF,hi]
      rfl
     have hB2:=aPR hB hj hsum hsp hat hfit
     obtain⟨k0,hk,hk2⟩:=aEx hs
     obtain⟨e1,e2⟩:=aDh (i:=j) (by omega)
     have hav:(iF n.man n.bld j m.b).hav=((k0 ||| 2 ^ j:Nat):Int):=by
      unfold iF
      simp only
      rw[hk,e1]
      exact(nM hk2 (by omega)).1
     have hlt:k0 ||| 2 ^ j<1099511627776:=(nM hk2 (by omega)).2
     rw[hk,lY hk2 h40]at hin
     have hc:=aPQ hk2 h40 hin
     have hI:cX (iF n.man n.bld j m.b).hav m.i=true:=by
      rw[hav,hi,lY hlt h40,Nat.testBit_or,Nat.testBit_two_pow]
      simp
     rw[hp]
     have fn:∀ (N:Node),(eL N k m.i).n.bld=N.bld∧(eL N k m.i).n.man=N.man:=by
      intro N
      unfold eL
      split<;>exact⟨rfl,rfl⟩
     right
     rw[(fn _).1,(fn _).2]
     refine⟨?_,?_,hI,hB2,hB,?_⟩
     ·intro e
      have e:(iF n.man n.bld j m.b).hav=n.bld.hav:=e
      rw[hav,hk]at e
      rw[e]at hc
      omega
     ·change iP (iF n.man n.bld j m.b).hav=_
      rw[hav,hk]
      exact hc
     ·intro p hpm
      unfold eL at hpm
      split at hpm
      ·rename_i hpo
       rcases aSG hpm with h1|⟨id,rfl⟩
       ·cases h1
       ·have hbk:=aHY hm hj
        have hl:=(xN hB).2.2
        have hblk:=aOj hm hj hl hsp hat hfit hj
        rw[if_pos rfl]at hblk
        have hpc:jI n.man (iF n.man n.bld j m.b) m.i=m.b:=by
         unfold jI
         rw[if_pos hpo,hi]
         exact hblk
        have hsi:=aTX (size:=n.man.size) (n:=n.man.len) (i:=j) (by omega)
        have hg:1≤n.man.gen∧n.man.gen≤1000000:=by
         have hm':=hm
         unfold aX at hm'
         by_cases hg:n.man.gen=0
         ·rw[if_pos hg]at hm'
          unfold bV at hm'
          simp at hm'
          rw[show n.man.sums.length=0 from by simp[hm']]at hj
          omega
         ·rw[if_neg hg]at hm'
          simp only[Bool.and_eq_true]at hm'
          exact bL hm'.1
        refine⟨_,aPS (gen:=n.man.gen) (i:=m.i) (b:=jI n.man (iF n.man n.bld j m.b) m.i) hg (by omega) (by rw[hpc];omega),rfl,?_⟩
        exact hpc
      ·cases hpm
theorem aSH (s:Int):0≤iP s∧iP s≤40:=by
 unfold iP
 split
 ·rename_i hs
  have h1:=bL hs
  rw[aHX (by omega)]
  unfold aVV
  have k:∀ y:Nat,p8 (y%256)≤8:=fun y=>aJp ⟨y%256,by omega⟩
  have k0:=k (s.toNat)
  have k1:=k (s.toNat/256)
  have k2:=k (s.toNat/65536)
  have k3:=k (s.toNat/16777216)
  have k4:=k (s.toNat/4294967296)
  omega
 ·decide
theorem aSI (n:Node) (k j:Int) (m:Msg):(bF n k m).n.bld=(bF n j m).n.bld:=by
 unfold bF
 split
 ·rfl
 ·split
  ·rfl
  ·split
   ·rfl
   ·split
    ·rfl
    ·unfold eL
     split<;>rfl
theorem aNu (n:Node) (k:Int) (m:Msg):(bF n k m).n.quiet=n.quiet:=by
 unfold bF
 split
 ·rfl
 ·split
  ·rfl
  ·split
   ·rfl
   ·split
    ·rfl
    ·unfold eL
     split<;>rfl
theorem aNv (n:Node) (k:Int) (d:Disk) (m:Msg):(eM n k d m).n.quiet=0:=by
 unfold eM
 split
 ·unfold kQ
  split
  ·split
   ·rfl
   ·split<;>rfl
  ·split<;>rfl
 ·split
  ·rw[aNu];rfl
  ·split<;>rfl
theorem aSJ {E:aS} (U:Sys E) (b:aC) (hb0:b.length≤140737488355328):E 593 [sv (aT b)]=some ([bv true],[]):=by
 have ab:=aVC U b
 by_cases hb:b.length>1048576
 ·rw[decide_eq_true hb]at ab
  refine U.run rfl rfl fun W Z=>?_
  conv=>lhs;whnf
  apply Z.w (ab)
  conv=>lhs;whnf
  repeat((first|apply Z.t|apply Z.f|(apply Z.q;exact aE));conv=>lhs;whnf)
  rfl
 ·rw[decide_eq_false hb]at ab
  have hb:b.length≤1048576:=by omega
  obtain⟨n,k,m,⟨hn,hm⟩,d1⟩:=aHI U hb
  obtain⟨v,j,d,q,⟨hv,hd,hq⟩,d2⟩:=aHJ U hb
  obtain⟨u,p,⟨hu,hp⟩,d3⟩:=aKo U hb
  have a1:=lF U n k m hn.lim.k hm.lim
  have a2:=lE U n k m hn.lim.k hm.lim
  have a3:=aFJ U v j d q hv.lim.k hd.lim hq.lim
  have a4:=aFI U v j d q hv.lim.k hd.lim hq.lim
  have a5:=aAq U u p hu.lim.k hp.lim
  have a6:=aIs U u p hu.lim.k hp.lim
  have l1:=aAp n k m hn.lim.k hm.lim
  have l2:=aIt v j d q hv.lim.k hd.lim hq.lim
  have b1:=aHL U (o:=true) (o':=true) (bF n k m) (bF n k m) (Actn.lim_mono (by decide) l1)
  rw[decide_eq_true rfl]at b1
  have b2:=aHL U (o:=true) (o':=true) (eM v j d q) (eM v j d q) (Actn.lim_mono (by decide) l2)
  rw[decide_eq_true rfl]at b2
  have q1:(!decide (xO u p=xO u p))=false:=by rw[decide_eq_true rfl];rfl
  have dq:=aNv v j d q
  generalize eM v j d q=Y at a3 a4 b2 dq
  rcases aPT n k m with⟨ho,⟨dr,hd1⟩,hh⟩|⟨h1,h2,h3,h4,h5,h6⟩
  ·have e:bF n k m=⟨{ n with drops:=dr },[]⟩:=by
    rw[show bF n k m=⟨(bF n k m).n,(bF n k m).out⟩ from rfl,ho,hd1]
   rw[e]at a1 a2 b1
   have b3:=aE6 U n n (Node.lim_mono (by decide) hn.lim)
   rw[decide_eq_true rfl]at b3
   have q2:(decide (n.bld.hav=n.bld.hav))=true:=decide_eq_true rfl
   refine U.run rfl rfl fun W Z=>?_
   conv=>lhs;whnf
   repeat'((first|with_reducible apply Z.bf (q1)|with_reducible apply Z.bt (q2)|apply Z.t|apply Z.f|(apply Z.q;exact aE)|apply Z.w (ab)|apply Z.w (d1)|apply Z.w (d2)|apply Z.w (d3)|apply Z.w (a1)|apply Z.w (a2)|apply Z.w (a3)|apply Z.w (a4)|apply Z.w (a5)|apply Z.w (a6)|apply Z.w (b1)|apply Z.w (b2)|apply Z.w (b3)|(apply Z.b<;>intro h))<;>conv=>lhs;whnf)
   rfl
  ·have hu1:xO n m=true:=by
    unfold xO
    rw[aSI n 0 k,decide_eq_false h1]
    rfl
   have a7:=aAq U n m hn.lim.k hm.lim
   rw[hu1]at a7
   generalize bF n k m=X at a1 a2 b1 l1 h1 h2 h3 h4 h5 h6
   have a8:=sF U X.n.bld.hav
   have a9:=sF U n.bld.hav
   have a10:=eA U X.n.bld.hav m.i
   rw[h3]at a10
   have k1:X.n.man.sums.length≤1048576∧X.n.bld.buf.length≤1048576:=by
    have hq:=xN h4
    have:=dO hq.1
    omega
   have a11:=jG U X.n.man X.n.bld k1.1 k1.2
   have a12:=jG U n.man n.bld hn.lim.1 hn.lim.2.1
   rw[h4]at a11
   rw[h5]at a12
   have c0:=aSH n.bld.hav
   have q2:(!decide (iP X.n.bld.hav=IntKind.i64.wrap (iP n.bld.hav+1)))=false:=by
    rw[h2,show IntKind.i64.wrap (iP n.bld.hav+1)=iP n.bld.hav+1 from by rw[IntKind.wrap_i64];omega,decide_eq_true rfl];rfl
   have hrl:(X.out.map (Pkt.row true)).length=X.out.length:=List.length_map _
   have ol:X.out.length≤4194304:=l1.2.1
   refine U.run rfl rfl fun W Z=>?_
   conv=>lhs;whnf
   repeat'((first|with_reducible apply Z.bf (q1)|with_reducible apply Z.bf (decide_eq_false h1)|with_reducible apply Z.bf (q2)|apply Z.t|apply Z.f|(apply Z.q;exact aE)|apply Z.w (ab)|apply Z.w (d1)|apply Z.w (d2)|apply Z.w (d3)|apply Z.w (a1)|apply Z.w (a2)|apply Z.w (a3)|apply Z.w (a4)|apply Z.w (a5)|apply Z.w (a6)|apply Z.w (a7)|apply Z.w (a8)|apply Z.w (a9)|apply Z.w (a10)|apply Z.w (b1)|apply Z.w (b2)|(apply Z.b<;>intro h))<;>conv=>lhs;whnf)
   refine Z.loop (σ:=Nat) (γ:=Nat) (fun i s=>s.sl 14 (v1 (.t (.int .i64 i)))) (fun i n=>i=n∧n≤X.out.length) (fun n=>X.out.length-n) (fun _=>([bv true],[])) 0 0 ?_ ?_ ?_ ?_
   ·intro K
    conv=>lhs;whnf
    conv=>rhs;whnf
    try rfl
   ·exact⟨rfl,by omega⟩
   ·rintro kl t _ ⟨rfl,ht⟩ ih
    conv=>lhs;whnf
    apply Z.b<;>intro g1<;>conv=>lhs;whnf
    ·have g1:t<X.out.length:=by simpa[hrl] using g1
     obtain⟨x,x1,x2,x3⟩:=h6 X.out[t] (List.getElem_mem g1)
     have a13:=aIw U X.out[t].b (by have:=(aHV x1).2.2;omega)
     rw[x1]at a13
     have a13:E 329 [sv (aT X.out[t].b)]=some ([gv (x.cs cT),bv true],[]):=a13
     have a14:=aNm U x.b m.b (by have:=(aU6 x1).2;omega)
     rw[decide_eq_true x3]at a14
     have q3:(!decide (x.i=m.i))=false:=by rw[x2,decide_eq_true rfl];rfl
     repeat((first|apply Z.t|apply Z.f|(apply Z.q;exact aE)|(refine Z.w (cP ?_) ?_;omega));conv=>lhs;whnf)
     repeat'((first|with_reducible apply Z.bf (q3)|apply Z.t|apply Z.f|(apply Z.q;exact aE)|apply Z.w (a13)|(apply Z.b<;>intro h))<;>conv=>lhs;whnf)
     apply Z.w (a14)
     conv=>lhs;whnf
     repeat((first|apply Z.t|apply Z.f|(apply Z.q;exact aE));conv=>lhs;whnf)
     refine ih (t+1) (t+1) _ ?_ ⟨rfl,by omega⟩ (by omega)
     intro K
     conv=>lhs;whnf
     conv=>rhs;whnf
     try rfl
     rw[show IntKind.i64.wrap ((t:Int)+1)=_ from aO (by omega)]
     try rfl
    ·repeat'((first|with_reducible apply Z.bt (decide_eq_true dq)|apply Z.t|apply Z.f|(apply Z.q;exact aE)|apply Z.w (a11)|apply Z.w (a12)|(apply Z.b<;>intro h))<;>conv=>lhs;whnf)
     rfl
   ·rfl
theorem aPU {row:List Sh} {e:List T} (hl:e.length=row.length) (h:∀ (j:Nat) s t,row[j]?=some s→e[j]?=some t→Fit s t):All2 Fit row e:=by
 induction row generalizing e with
 |nil=>cases e with
  |nil=>exact .nil
  |cons _ _=>cases hl
 |cons s r ih=>cases e with
  |nil=>cases hl
  |cons t u=>exact .cons (h 0 s t rfl rfl) (ih (by simpa using hl) fun j s t h1 h2=>h (j+1) s t (by simpa using h1) (by simpa using h2))
theorem aT0 {α:Type} (f:α→List T) (Q:α→Prop) {row:List Sh} {by_:Nat} {t:T} (hr:∀ e:List T,All2 Fit row e→∃ x,e=f x∧Q x) (h:Fit (.sl row by_) t):∃ l:List α,t = .sl false (l.map f)∧l.length*by_≤reachBytes∧∀ x∈l,Q x:=by
 cases h with
 |sl h hs hx =>
  rename_i es
  have:∃ l:List α,es=l.map f∧∀ x∈l,Q x:=by
   clear h
   induction es with
   |nil=>exact⟨[],rfl,by simp⟩
   |cons e r ih =>
    obtain⟨l,h1,h2⟩:=ih (fun e he=>hs e (by simp[he])) fun i e he j s t h3 h4=>hx (i+1) e (by simpa using he) j s t h3 h4
    obtain⟨x,h3,h4⟩:=hr e (aPU (hs e (by simp)) fun j s t h5 h6=>hx 0 e rfl j s t h5 h6)
    exact⟨x::l,by rw[h1,h3];rfl,fun y hy=>by rcases List.mem_cons.mp hy with rfl|hy;exact h4;exact h2 y hy⟩
  obtain⟨l,rfl,hq⟩:=this
  exact⟨l,rfl,by simpa using h,hq⟩
theorem aSK {e:List T} (h:All2 Fit [.int .u8] e):∃ x:UInt8,e=mK x∧True:=by
 cases h with
 |cons h t =>
  cases t
  cases h with
  |int h =>
   rename_i n
   have h:0≤n∧n≤255:=by simpa[Lit.wf,IntKind.min,IntKind.max,IntKind.bits,IntKind.signed] using h
   refine⟨UInt8.ofNat n.toNat,?_,trivial⟩
   simp only[mK,UInt8.toNat_ofNat']
   congr 2
   omega
theorem aT1 {n by_:Nat} (hb:0<by_) (h:n*by_≤reachBytes):n≤2 ^ 47:=by
 have:n*1≤n*by_:=Nat.mul_le_mul_left _ hb
 unfold reachBytes at h
 omega
def aU9 (P:Program) (t:TypeId):Bool:=match P.underlying t with|some (.struct _)=>true|_=>false
theorem aT2 {P:Program} {t:TypeId} {a:A} {sh:Sh} (h:aLw P t a) (hs:aAG P 12 t=some [sh]) (hu:aU9 P t=false):∃ x,a = .v false [.t x]∧Fit sh x:=by
 obtain⟨sh',ts,h1,h2,h3⟩:=h
 rw[hs]at h1
 cases h1
 cases h2 with
 |cons h2 t=>cases t;exact⟨_,by rw[h3];exact congrArg (fun g=>A.v g _) hu,h2⟩
theorem aPV {α β:Type} {R:α→β→Prop} {a:α} {l:List α} {e:List β} (h:All2 R (a::l) e):∃ x r,e=x::r∧R a x∧All2 R l r:=by
 cases h with
 |cons h t=>exact⟨_,_,rfl,h,t⟩
theorem aSL {P:Program} {t:TypeId} {a:A} {sh:Sh} (h:aLw P t a) (hs:aAG P 12 t=some [sh]) (hu:aU9 P t=false):∃ x,a = .v false [.t x]∧Fit sh x:=aT2 h hs hu
theorem aT3 {P:Program} {As:List A} (h:All2 (aLw P) [] As):As=[]:=by cases h;rfl
theorem aPW {t:T} (h:Fit (.sl [.int .u8] 1) t):∃ l:List UInt8,t = .sl false (aT l)∧l.length≤140737488355328:=by
 obtain⟨l,h1,h2,h3⟩:=aT0 mK (fun _=>True) (fun e he=>aSK he) h
 exact⟨l,h1,aT1 (by decide) h2⟩
end Tev
