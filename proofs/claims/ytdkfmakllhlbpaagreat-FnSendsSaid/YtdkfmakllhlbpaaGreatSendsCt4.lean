/- What the functions compute, one contract each. -/
import Derived.Test.YtdkfmakllhlbpaaGreatSendsCt3
set_option linter.unusedSimpArgs false
set_option linter.unusedVariables false
namespace Tev
open Go
set_option maxRecDepth 50000
set_option maxHeartbeats 20000000
theorem aNt {a b:Nat} (ha:a<1099511627776) (hb:b<1099511627776):∃ n:Nat,mU (a:Int) (b:Int)=n∧n<1099511627776∧∀ i,n.testBit i=(a.testBit i && !b.testBit i):=by
 have hle:(BitVec.ofNat 64 a &&& ~~~BitVec.ofNat 64 b).toNat≤a:=by
  rw[BitVec.toNat_and,BitVec.toNat_ofNat]
  exact Nat.le_trans Nat.and_le_left (Nat.mod_le _ _)
 refine⟨(BitVec.ofNat 64 a &&& ~~~BitVec.ofNat 64 b).toNat,?_,by omega,fun i=>?_⟩
 ·have h:mU (a:Int) (b:Int)=IntKind.i64.wrap ((BitVec.ofInt 64 (a:Int) &&& ~~~BitVec.ofInt 64 (b:Int)).toNat:Nat):=rfl
  rw[h,BitVec.ofInt_natCast,BitVec.ofInt_natCast]
  exact aI (by omega)
 ·rw[BitVec.testBit_toNat,BitVec.getLsbD_and,BitVec.getLsbD_not,BitVec.getLsbD_ofNat,BitVec.getLsbD_ofNat]
  by_cases hi:i<64
  ·simp[hi]
  ·have:a.testBit i=false:=Nat.testBit_lt_two_pow (Nat.lt_of_lt_of_le (by omega:a<2 ^ 64) (Nat.pow_le_pow_right (by decide) (by omega)))
   simp[hi,this]
theorem aHQ {pre post:List Kid} {e:Kid} {id s:Int} (hp:∀ x∈pre,x.id≠id) (he:e.id=id):bH (pre++e::post) id s=if bG s=false∨bG e.sent=false then pre++e::post else pre++{ e with sent:=aFE e.sent s }::post:=by
 have hk:=aJd (post:=post) hp he
 rw[qX (n:=pre.length) (by simp) hk,List.getElem_append_right (Nat.le_refl _)]
 simp only[Nat.sub_self,List.getElem_cons_zero]
 rw[aTV]
theorem aSB {pre post:List Kid} {e:Kid} {id hv:Int} (hp:∀ x∈pre,x.id≠id) (he:e.id=id):∃ s:Nat,s<1099511627776∧dE (pre++e::post) id hv=s∧∃ e',bH (pre++e::post) id s=pre++e'::post∧e'.id=e.id∧e'.want=e.want∧e'.done=e.done∧e'.age=e.age ∧
 dE (pre++e'::post) id hv=0∧bH (pre++e'::post) id 0=pre++e'::post:=by
 have h0:bG 0=true:=by decide
 by_cases hbad:bG hv=false∨bG e.want=false∨bG e.sent=false
 ·have hs:dE (pre++e::post) id hv=0:=by rw[aHP hp he,if_pos hbad]
  have hm:bH (pre++e::post) id 0=pre++e::post:=by
   rw[aHQ hp he]
   split
   ·rfl
   ·rename_i h
    have h3:bG e.sent=true:=by
     cases h4:bG e.sent
     ·exact absurd (.inr h4) h
     ·rfl
    rw[aL6 h3]
  exact⟨0,by decide,hs,e,hm,rfl,rfl,rfl,rfl,hs,hm⟩
 ·have q1:bG hv=true:=by cases h:bG hv;exact absurd (.inl h) hbad;rfl
  have q2:bG e.want=true:=by cases h:bG e.want;exact absurd (.inr (.inl h)) hbad;rfl
  have q3:bG e.sent=true:=by cases h:bG e.sent;exact absurd (.inr (.inr h)) hbad;rfl
  obtain⟨a,ha,la⟩:=pY q1
  obtain⟨b,hb,lb⟩:=pY q2
  obtain⟨c,hc,lc⟩:=pY q3
  obtain⟨w1,w2⟩:=aPQ lb la
  obtain⟨n,n1,n2,n3⟩:=aNt w2 lc
  have hs:dE (pre++e::post) id hv=n:=by rw[aHP hp he,if_neg hbad,ha,hb,hc,w1,n1]
  have hsent:aFE e.sent (n:Int)=((c ||| n:Nat):Int):=by rw[hc];exact(oA lc n2).1
  have hlt:=(oA lc n2).2
  refine⟨n,n2,hs,{ e with sent:=aFE e.sent n },?_,rfl,rfl,rfl,rfl,?_,?_⟩
  ·rw[aHQ hp he,if_neg]
   rintro(h|h)
   ·rw[aED n2]at h;cases h
   ·rw[q3]at h;cases h
  ·rw[aHP hp (by exact he)]
   split
   ·rfl
   ·rw[hsent,ha,hb,w1]
    exact aPI w2 hlt fun i hi=>by
     rw[Nat.testBit_or,n3 i,hi]
     cases c.testBit i<;>rfl
  ·rw[aHQ hp (by exact he)]
   split
   ·rfl
   ·simp only[hsent]
    rw[aL6 (aED hlt)]
theorem aTW {size n:Int} {i:Nat} (h:(i:Int)<bA size n):1≤aX size n i∧aX size n i≤6∧0≤bP size n i∧bP size n i+aX size n i≤n:=by
 rcases jJ (size:=size) (n:=n) (i:=(i:Int)) with h1|h1
 ·exfalso
  have hs:cL size n=true:=by
   by_cases hs:cL size n=true
   ·exact hs
   ·unfold bA at h;rw[if_neg hs]at h;omega
  have hb:=mV hs
  obtain⟨q1,q2,q3,q4⟩:=xP hs
  have hr:aW (i:Int) 0 (IntKind.i64.wrap (bA size n-1))=true:=by
   rw[show IntKind.i64.wrap (bA size n-1)=bA size n-1 from aI (by omega)]
   simp[aW];omega
  have h2:=h1.1
  unfold aX at h2
  rw[if_pos hr]at h2
  have hlt:(i:Int)*size<n:=by
   rw[hb.1]at h
   have h3:((i:Int)+1)≤(n+size-1)/size:=by omega
   have h4:=(Int.le_ediv_iff_mul_le (by omega)).mp h3
   rw[Int.add_mul]at h4
   omega
  have h0:0≤(i:Int)*size:=Int.mul_nonneg (by omega) (by omega)
  rw[show IntKind.i64.wrap ((i:Int)*size)=(i:Int)*size from aI (by omega),show IntKind.i64.wrap (n-(i:Int)*size)=n-(i:Int)*size from aI (by omega)]at h2
  unfold wA at h2
  split at h2<;>omega
 ·exact⟨h1.2.1,h1.2.2.1,h1.1,h1.2.2.2.1⟩
theorem aNu {m:Man} {n:Nat} (h:aY m=true) (hn:n<m.sums.length):(m.sums.length:Int)=bA m.size m.len:=by
 unfold aY at h
 by_cases hg:m.gen=0
 ·rw[if_pos hg]at h
  unfold bX at h
  simp at h
  rw[show m.sums.length=0 from by simp[h]]at hn
  omega
 ·rw[if_neg hg]at h
  simp only[Bool.and_eq_true,decide_eq_true_eq]at h
  exact h.2.2.1
theorem aKn:cQ 0=[]:=by decide
theorem aNv {gen i:Int} {b:aD} (hg:1≤gen∧gen≤1000000) (hi:0≤i∧i≤39) (hb:1≤b.length∧b.length≤6):bT (cI gen i b)=true:=by
 unfold bT cI
 simp[aW,bX]
 omega
theorem aSC (gen i:Int) {b:aD} (hb:b.length≤6):(bZ (cI gen i b)).length≤400:=by
 unfold bZ
 split
 ·have h:=aL (iL (cI gen i b)) (bB (iL (cI gen i b)))
  have h2:(iL (cI gen i b)).length≤200:=by
   have e:iL (cI gen i b)=cC (aC (aC (aC [] 3) gen) i) b:=rfl
   have l1:=aL [] 3
   have l2:=aL (aC [] 3) gen
   have l3:=aL (aC (aC [] 3) gen) i
   have l4:=aL (aC (aC (aC [] 3) gen) i) b.length
   have el:(cC (aC (aC (aC [] 3) gen) i) b).length=(aC (aC (aC (aC [] 3) gen) i) b.length).length+b.length:=by unfold cC;exact List.length_append
   rw[e,el]
   simp at l1
   omega
  omega
 ·simp
theorem aPR {gen i:Int} {b:aD} (hg:1≤gen∧gen≤1000000) (hi:0≤i∧i≤39) (hb:1≤b.length∧b.length≤6):pS (bZ (cI gen i b))=some (cI gen i b) :=
 (aKd (aNv hg hi hb) rfl (aSC gen i hb.2)).1
theorem aPS (l:List Kid) (id hv:Int):dE (bH l id (dE l id hv)) id hv=0:=by
 by_cases hn:eQ l id<0
 ·rw[oF hn]
  exact wK hn
 ·obtain⟨n,hnl,hk⟩:=mR hn
  obtain⟨pre,e,post,hl,h1,h2,h3⟩:=aNs (p:=fun x:Kid=>decide (x.id=id)) (n:=0) (k:=n) (l:=l) (by rw[Nat.zero_add];exact hk)
  rw[hl]
  obtain⟨s,_,q1,e',q2,_,_,_,_,q3,q4⟩:=aSB (hv:=hv) (post:=post) (fun x hx=>of_decide_eq_false (h3 x hx)) (of_decide_eq_true h2:e.id=id)
  rw[q1,q2]
  exact q3
theorem aPT {s:Int}:∀ {k i:Nat} {x:Int},x∈kM s i k→eL s x=true∧x<i+k:=by
 intro k
 induction k with
 |zero=>intro i x h;cases h
 |succ k ih =>
  intro i x h
  unfold kM at h
  split at h
  ·rename_i hi
   rcases List.mem_cons.mp h with rfl|h
   ·exact⟨hi,by omega⟩
   ·have:=ih h
    exact⟨this.1,by omega⟩
  ·have:=ih h
   exact⟨this.1,by omega⟩
theorem aPU {m:Man} {x:Bld} {i:Int} (h:dN m x i=true):pS (bZ (cI m.gen i (dY m x i)))=some (cI m.gen i (dY m x i)):=by
 have hp:dY m x i=eR x.buf m.size i:=by unfold dY;rw[if_pos h]
 obtain⟨j,rfl,hj,h40,hl,hm,_⟩:=aHC h
 have hbk:=aNu hm hj
 have hsi:=aTW (size:=m.size) (n:=m.len) (i:=j) (by omega)
 have hbl:=aFd (b:=x.buf) (size:=m.size) (i:=(j:Int))
 rw[hl]at hbl
 have hg:1≤m.gen∧m.gen≤1000000:=by
  have hm':=hm
  unfold aY at hm'
  by_cases hg:m.gen=0
  ·rw[if_pos hg]at hm'
   unfold bX at hm'
   simp at hm'
   rw[show m.sums.length=0 from by simp[hm']]at hj
   omega
  ·rw[if_neg hg]at hm'
   simp only[Bool.and_eq_true]at hm'
   exact bS hm'.1
 exact aPR hg (by omega) (by rw[hp];omega)
theorem aL7 {n:Node} {k id s:Int} {p:Pkt} (h:p∈jP n k id (cQ s)):p.frm=k∧p.to=id∧∃ x,pS p.b=some x∧x.kind=3∧eL s x.i=true:=by
 obtain⟨i,hi,hp⟩:=List.mem_flatMap.mp h
 unfold aBd at hp
 split at hp
 ·rename_i ho
  rw[List.mem_singleton.mp hp]
  exact⟨rfl,rfl,_,aPU ho,rfl,(aPT hi).1⟩
 ·cases hp
theorem aSD:∀ {l:List Pkt} {n:Nat},(∀ p∈l,aHz p.b=true)→n+l.length≤1048576→aA9 l n=((n+l.length:Nat):Int):=by
 intro l
 induction l with
 |nil=>intro n _ _;rfl
 |cons x r ih =>
  intro n h hl
  rw[List.length_cons]at hl
  rw[aA9,if_pos (h x List.mem_cons_self),show IntKind.i64.wrap ((n:Int)+1)=((n+1:Nat):Int) from aK (by omega),ih (fun p hp=>h p (List.mem_cons_of_mem _ hp)) (by omega),List.length_cons]
  congr 1
  omega
theorem aNw {n:Node} {k id s:Int}:eI (jP n k id (cQ s))=((jP n k id (cQ s)).length:Int):=by
 have hl:=Nat.le_trans (aEC n k id (cQ s)) jH
 have:=aSD (l:=jP n k id (cQ s)) (n:=0) (fun p hp=>by
  obtain⟨_,_,x,h1,h2,_⟩:=aL7 hp
  unfold aHz
  rw[h1]
  exact decide_eq_true h2) (by omega)
 rw[Nat.zero_add]at this
 exact this
theorem aL8 (n:Node) (k id:Int):(bJ n k id).out.length≤40:=Nat.le_trans (aEC n k id _) jH
theorem aNx (n:Node) (k id:Int):(bJ (bJ n k id).n k id).out=[]:=by
 show jP _ k id (cQ (dE (bH n.kids id (dE n.kids id n.bld.hav)) id n.bld.hav))=[]
 rw[aPS,aKn]
 rfl
theorem aNy (n:Node) (k id:Int) (m:Msg):(dG n k id m).out.length≤40:=by
 unfold dG
 split
 ·exact Nat.zero_le _
 ·split
  ·exact(by decide:1≤40)
  ·split
   ·exact(by decide:1≤40)
   ·split
    ·exact(by decide:1≤40)
    ·exact aL8 _ k id
theorem aL9 (n:Node) (k i:Int):(gJ n k i).out.length≤n.kids.length:=by
 unfold gJ
 split
 ·have:=(aL4 (n:=n) (k:=k) (i:=i) (l:=n.kids) (c:=n.kids) (o:=[])).2
  rwa [List.length_nil,Nat.zero_add]at this
 ·exact Nat.zero_le _
theorem aDB {E:aR} (J:Sys E) {b:aD} (hb:b.length≤1048576):∃ (l m:List Pkt),(rB l∧rB m)∧E 586 [sv (aU b)]=some ([sv (l.map (Pkt.row true)),sv (m.map (Pkt.row true))],[]):=by
 have key:rA (E 586 [sv (aU b)]) fun r=>∃ (l m:List Pkt),(rB l∧rB m)∧r=([sv (l.map (Pkt.row true)),sv (m.map (Pkt.row true))],[]):=by
  refine J.runS rfl rfl fun W U=>?_
  conv=>lhs;whnf
  repeat((first|apply U.t|apply U.f|(apply U.q;exact aE));conv=>lhs;whnf)
  apply U.w (aI6 J hb)
  conv=>lhs;whnf
  repeat((first|apply U.t|apply U.f|(apply U.q;exact aE));conv=>lhs;whnf)
  obtain⟨l,c1,hl,a1⟩:=rC J (dF b) (aLS b) hb
  have hrl:(l.map (Pkt.row true)).length=l.length:=List.length_map _
  have h4:=hl.1
  apply U.w (a1)
  conv=>lhs;whnf
  repeat((first|apply U.t|apply U.f|(apply U.q;exact aE));conv=>lhs;whnf)
  have a2:=jN J (dF b) c1 hb 2
  generalize aF b c1 2=u at a2
  obtain⟨f,c2⟩:=u
  simp only at a2
  apply U.w (a2)
  conv=>lhs;whnf
  repeat((first|apply U.t|apply U.f|(apply U.q;exact aE));conv=>lhs;whnf)
  apply U.b<;>intro g1<;>conv=>lhs;whnf
  ·repeat((first|apply U.t|apply U.f|(apply U.q;exact aE));conv=>lhs;whnf)
   refine U.q (by exact⟨by decide,aPG l,by rw[hrl];omega,by rw[hrl];omega⟩) ?_
   conv=>lhs;whnf
   repeat((first|apply U.t|apply U.f|(apply U.q;exact aE));conv=>lhs;whnf)
   exact⟨_,rfl,l,l,⟨hl,hl⟩,rfl⟩
  ·repeat((first|apply U.t|apply U.f|(apply U.q;exact aE));conv=>lhs;whnf)
   obtain⟨m,c3,hm,a3⟩:=rC J (dF b) c2 hb
   apply U.w (a3)
   conv=>lhs;whnf
   repeat((first|apply U.t|apply U.f|(apply U.q;exact aE));conv=>lhs;whnf)
   exact⟨_,rfl,l,m,⟨hl,hm⟩,rfl⟩
 obtain⟨r,h1,l,m,h2,rfl⟩:=key
 exact⟨l,m,h2,h1⟩
theorem aSE {E:aR} (J:Sys E) (b:aD) (hb0:b.length≤140737488355328):E 594 [sv (aU b)]=some ([bv true],[]):=by
 have ab:=aVO J b
 by_cases hb:b.length>1048576
 ·rw[decide_eq_true hb]at ab
  refine J.run rfl rfl fun W U=>?_
  conv=>lhs;whnf
  apply U.w (ab)
  conv=>lhs;whnf
  repeat((first|apply U.t|apply U.f|(apply U.q;exact aE));conv=>lhs;whnf)
  rfl
 ·rw[decide_eq_false hb]at ab
  have hb:b.length≤1048576:=by omega
  obtain⟨n,k,id,hn,d1⟩:=aF0 J hb
  obtain⟨v,j,i,m,⟨hv,hm⟩,d2⟩:=aEF J hb
  obtain⟨f,g,h,hf,d3⟩:=aIe J hb
  obtain⟨x,y,⟨hx,hy⟩,d4⟩:=aHM J hb
  obtain⟨p,q,⟨hp,hq⟩,d5⟩:=aDB J hb
  obtain⟨r,hr,d6⟩:=aDA J hb
  have hv':v.man.sums.length≤1048576∧v.bld.buf.length≤1048576∧v.kids.length+1≤4194304:=⟨hv.lim.1,hv.lim.2.1,by have:=hv.2.2;omega⟩
  have a1:=kR J n k id hn.lim.k
  have a2:=pX J n k id hn.lim.k
  have a3:=aBg J v j i m hv'
  have a4:=aBf J v j i m hv'
  have a5:=aHO J f g h hf.lim.k
  have a6:=aHN J f g h hf.lim.k
  have a7:=aFJ J x y hx.lim hy.lim
  have a8:=aA3 J p q (wW hp) (wW hq)
  have a9:=nA J (o:=true) r (wW hr)
  have a10:=aBa J (o:=true) r (wW hr)
  have l1:=wT n k id hn.lim.k
  have l2:=aF1 v j i m hv.lim hm.lim
  have l3:=aKl f g h hf.lim.k
  have b1:=aBe J (o:=true) (o':=true) (bJ n k id) (bJ n k id) (Actn.lim_mono (by decide) l1)
  rw[decide_eq_true rfl]at b1
  have b2:=aBe J (o:=true) (o':=true) (dG v j i m) (dG v j i m) (Actn.lim_mono (by decide) l2)
  rw[decide_eq_true rfl]at b2
  have b3:=aBe J (o:=true) (o':=true) (gJ f g h) (gJ f g h) (Actn.lim_mono (by decide) l3)
  rw[decide_eq_true rfl]at b3
  have b4:=aFe J x y (Node.lim_mono (by decide) hx.lim)
  have b5:=wV J (o:=true) (o':=true) p q (aIS (fun _ hx=>Pkt.lim_mono (by decide:1048576≤1099511627776) hx) (by decide:1048576≤1099511627776) (wW hp))
  have q1:(!decide (xO x y=decide (x=y)))=false:=by rw[decide_eq_true rfl];rfl
  have q2:(!decide (aDn p q=decide (p=q)))=false:=by rw[decide_eq_true rfl];rfl
  have q3:(!decide (eI r=eI r))=false:=by rw[decide_eq_true rfl];rfl
  have a11:=nD J n
  have a12:=oI J n.kids id n.bld.hav (Nat.le_trans hn.lim.2.2 (by decide))
  have hs:∀ z∈(bJ n k id).out,z.frm=k∧z.to=id∧∃ w,pS z.b=some w∧w.kind=3∧eL (dE n.kids id n.bld.hav) w.i=true:=fun z hz=>aL7 hz
  have h40:=aL8 n k id
  have pp:eI (bJ n k id).out=((bJ n k id).out.length:Int):=aNw
  have tw:=aNx n k id
  have kk:(bJ n k id).n.limk:=⟨hn.lim.1,hn.lim.2.1,by show(bH _ _ _).length≤_;rw[dS];exact hn.lim.k.2.2⟩
  have a13:=kR J (bJ n k id).n k id kk
  have al:=aNy v j i m
  have fl:=aL9 f g h
  generalize bJ n k id=X at a1 a2 b1 l1 hs h40 pp tw kk a13
  generalize bJ X.n k id=X2 at tw a13
  generalize dG v j i m=Y at a3 a4 b2 l2 al
  generalize gJ f g h=Z at a5 a6 b3 l3 fl
  have a14:=nA J (o:=true) X.out ⟨Nat.le_trans h40 (by decide),fun z hz=>by
   obtain⟨_,_,w,h1,_⟩:=hs z hz
   have:=(aHu h1).2.2
   show z.b.length≤1048576
   omega⟩
  rw[pp]at a14
  have hrx:(X.out.map (Pkt.row true)).length=X.out.length:=List.length_map _
  have hry:(Y.out.map (Pkt.row true)).length=Y.out.length:=List.length_map _
  have hrz:(Z.out.map (Pkt.row true)).length=Z.out.length:=List.length_map _
  have hrk:(f.kids.map Kid.row).length=f.kids.length:=List.length_map _
  have hr2:(X2.out.map (Pkt.row true)).length=X2.out.length:=List.length_map _
  have e1:decide (((X.out.length:Nat):Int)=(((X.out.map (Pkt.row true)).length:Nat):Int))=true:=by rw[hrx];exact decide_eq_true rfl
  have e2:decide ((((X2.out.map (Pkt.row true)).length:Nat):Int)=0)=true:=by rw[hr2,tw];rfl
  have e3:decide ((((Y.out.map (Pkt.row true)).length:Nat):Int)≤40)=true:=by rw[hry];exact decide_eq_true (by omega)
  have e4:decide ((((Z.out.map (Pkt.row true)).length:Nat):Int)≤(((f.kids.map Kid.row).length:Nat):Int))=true:=by rw[hrz,hrk];exact decide_eq_true (by omega)
  refine J.run rfl rfl fun W U=>?_
  conv=>lhs;whnf
  repeat'((first|with_reducible apply U.bf (q1)|with_reducible apply U.bf (q2)|with_reducible apply U.bf (q3)|apply U.t|apply U.f|(apply U.q;exact aE)|apply U.w (ab)|apply U.w (d1)|apply U.w (d2)|apply U.w (d3)|apply U.w (d4)|apply U.w (d5)|apply U.w (d6)|apply U.w (a1)|apply U.w (a2)|apply U.w (a3)|apply U.w (a4)|apply U.w (a5)|apply U.w (a6)|apply U.w (a7)|apply U.w (a8)|apply U.w (a9)|apply U.w (a10)|apply U.w (a11)|apply U.w (a12)|apply U.w (b1)|apply U.w (b2)|apply U.w (b3)|apply U.w (b4)|apply U.w (b5)|(apply U.b<;>intro h))<;>conv=>lhs;whnf)
  refine U.loop (σ:=Nat) (γ:=Nat) (fun i s=>s.sl 22 (v1 (.t (.int .i64 i)))) (fun i n=>i=n∧n≤X.out.length) (fun n=>X.out.length-n) (fun _=>([bv true],[])) 0 0 ?_ ?_ ?_ ?_
  ·intro K
   conv=>lhs;whnf
   conv=>rhs;whnf
   try rfl
  ·exact⟨rfl,by omega⟩
  ·rintro kl t _ ⟨rfl,ht⟩ ih
   conv=>lhs;whnf
   apply U.b<;>intro g1<;>conv=>lhs;whnf
   ·have g1:t<X.out.length:=by simpa[hrx] using g1
    obtain⟨z1,z2,w,x1,x2,x3⟩:=hs X.out[t] (List.getElem_mem g1)
    have a15:=aAv J X.out[t].b (by have:=(aHu x1).2.2;omega)
    rw[x1]at a15
    have a15:E 329 [sv (aU X.out[t].b)]=some ([gv (w.cs dH),bv true],[]):=a15
    have a16:=fD J (dE n.kids id n.bld.hav) w.i
    rw[x3]at a16
    have r1:(!decide (w.kind=3))=false:=by rw[decide_eq_true x2];rfl
    have r2:(!decide (X.out[t].to=id))=false:=by rw[decide_eq_true z2];rfl
    have r3:(!decide (X.out[t].frm=k))=false:=by rw[decide_eq_true z1];rfl
    have ix:(X.out.map (Pkt.row true))[(t:Int).toNat]?=some (Pkt.row true X.out[t]):=by simp[g1]
    repeat((first|apply U.t|apply U.f|(apply U.q;exact aE)|(refine U.w (cG ?_) ?_;omega));conv=>lhs;whnf)
    repeat'((first|with_reducible apply U.bf (r1)|with_reducible apply U.bf (r2)|with_reducible apply U.bf (r3)|apply U.t|apply U.f|(apply U.q;exact aE)|apply U.w (ix)|apply U.w (a15)|apply U.w (a16)|(apply U.b<;>intro h))<;>conv=>lhs;whnf)
    refine ih (t+1) (t+1) _ ?_ ⟨rfl,by omega⟩ (by omega)
    intro K
    conv=>lhs;whnf
    conv=>rhs;whnf
    try rfl
    rw[show IntKind.i64.wrap ((t:Int)+1)=_ from aK (by omega)]
    try rfl
   ·repeat'((first|with_reducible apply U.bt (e1)|with_reducible apply U.bt (e2)|with_reducible apply U.bt (e3)|apply U.t|apply U.f|(apply U.q;exact aE)|apply U.w (a14)|apply U.w (a13)|(apply U.b<;>intro h))<;>conv=>lhs;whnf)
    exact congrArg (fun y=>(some ([bv y],[]):Option dA)) e4
  ·rfl
theorem aPV {row:List Sh} {e:List T} (hl:e.length=row.length) (h:∀ (j:Nat) s t,row[j]?=some s→e[j]?=some t→Fit s t):All2 Fit row e:=by
 induction row generalizing e with
 |nil=>cases e with
  |nil=>exact .nil
  |cons _ _=>cases hl
 |cons s r ih=>cases e with
  |nil=>cases hl
  |cons t u=>exact .cons (h 0 s t rfl rfl) (ih (by simpa using hl) fun j s t h1 h2=>h (j+1) s t (by simpa using h1) (by simpa using h2))
theorem aTX {α:Type} (f:α→List T) (Q:α→Prop) {row:List Sh} {by_:Nat} {t:T} (hr:∀ e:List T,All2 Fit row e→∃ x,e=f x∧Q x) (h:Fit (.sl row by_) t):∃ l:List α,t = .sl false (l.map f)∧l.length*by_≤reachBytes∧∀ x∈l,Q x:=by
 cases h with
 |sl h hs hx =>
  rename_i es
  have:∃ l:List α,es=l.map f∧∀ x∈l,Q x:=by
   clear h
   induction es with
   |nil=>exact⟨[],rfl,by simp⟩
   |cons e r ih =>
    obtain⟨l,h1,h2⟩:=ih (fun e he=>hs e (by simp[he])) fun i e he j s t h3 h4=>hx (i+1) e (by simpa using he) j s t h3 h4
    obtain⟨x,h3,h4⟩:=hr e (aPV (hs e (by simp)) fun j s t h5 h6=>hx 0 e rfl j s t h5 h6)
    exact⟨x::l,by rw[h1,h3];rfl,fun y hy=>by rcases List.mem_cons.mp hy with rfl|hy;exact h4;exact h2 y hy⟩
  obtain⟨l,rfl,hq⟩:=this
  exact⟨l,rfl,by simpa using h,hq⟩
theorem aSF {e:List T} (h:All2 Fit [.int .u8] e):∃ x:UInt8,e=nG x∧True:=by
 cases h with
 |cons h t =>
  cases t
  cases h with
  |int h =>
   rename_i n
   have h:0≤n∧n≤255:=by simpa[Lit.wf,IntKind.min,IntKind.max,IntKind.bits,IntKind.signed] using h
   refine⟨UInt8.ofNat n.toNat,?_,trivial⟩
   simp only[nG,UInt8.toNat_ofNat']
   congr 2
   omega
theorem aTY {n by_:Nat} (hb:0<by_) (h:n*by_≤reachBytes):n≤2 ^ 47:=by
 have:n*1≤n*by_:=Nat.mul_le_mul_left _ hb
 unfold reachBytes at h
 omega
def aVd (P:Program) (t:TypeId):Bool:=match P.underlying t with|some (.struct _)=>true|_=>false
theorem aTZ {P:Program} {t:TypeId} {a:A} {sh:Sh} (h:aLm P t a) (hs:aAM P 12 t=some [sh]) (hu:aVd P t=false):∃ x,a = .v false [.t x]∧Fit sh x:=by
 obtain⟨sh',ts,h1,h2,h3⟩:=h
 rw[hs]at h1
 cases h1
 cases h2 with
 |cons h2 t=>cases t;exact⟨_,by rw[h3];exact congrArg (fun g=>A.v g _) hu,h2⟩
theorem aPW {α β:Type} {R:α→β→Prop} {a:α} {l:List α} {e:List β} (h:All2 R (a::l) e):∃ x r,e=x::r∧R a x∧All2 R l r:=by
 cases h with
 |cons h t=>exact⟨_,_,rfl,h,t⟩
theorem aSG {P:Program} {t:TypeId} {a:A} {sh:Sh} (h:aLm P t a) (hs:aAM P 12 t=some [sh]) (hu:aVd P t=false):∃ x,a = .v false [.t x]∧Fit sh x:=aTZ h hs hu
theorem aT0 {P:Program} {As:List A} (h:All2 (aLm P) [] As):As=[]:=by cases h;rfl
theorem aPX {t:T} (h:Fit (.sl [.int .u8] 1) t):∃ l:List UInt8,t = .sl false (aU l)∧l.length≤140737488355328:=by
 obtain⟨l,h1,h2,h3⟩:=aTX nG (fun _=>True) (fun e he=>aSF he) h
 exact⟨l,h1,aTY (by decide) h2⟩
end Tev
