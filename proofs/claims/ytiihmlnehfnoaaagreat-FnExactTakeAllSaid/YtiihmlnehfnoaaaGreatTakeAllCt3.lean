/- What the functions compute, one contract each. -/
import Derived.Test.YtiihmlnehfnoaaaGreatTakeAllCt2
set_option linter.unusedSimpArgs false
set_option linter.unusedVariables false
namespace Tev
open Go
set_option maxRecDepth 50000
set_option maxHeartbeats 20000000
theorem aDD {E:Env} (hE:Sys E) (l:List Kid) (id want done:Int) (h0:l.length≤4194304):E 114 [sv (l.map Kid.row),iv id,iv want,iv done]=some ([ov 5 ((tN l id want done).map Kid.row)],[]):=by
 have hrl:(l.map Kid.row).length=l.length:=List.length_map _
 refine hE.run rfl rfl fun W hW=>?_
 conv=>lhs;whnf
 apply hW.w (oJ hE l (by omega))
 conv=>lhs;whnf
 repeat((first|apply hW.t|apply hW.f|(apply hW.q;exact rqc));conv=>lhs;whnf)
 have c1:=aDB hE id
 have c2:=cL hE want
 have c3:=cL hE done
 cases ho:nK id want done with
 |false =>
  rw[aEH ho]
  unfold nK at ho
  cases q1:bM id 0 6<;>rw[q1]at c1 ho
  ·apply hW.w (c1)
   conv=>lhs;whnf
   repeat((first|apply hW.t|apply hW.f|(apply hW.q;exact rqc));conv=>lhs;whnf)
   rfl
  ·cases q2:cT want<;>rw[q2]at c2 ho
   ·apply hW.w (c1)
    conv=>lhs;whnf
    repeat((first|apply hW.t|apply hW.f|(apply hW.q;exact rqc));conv=>lhs;whnf)
    apply hW.w (c2)
    conv=>lhs;whnf
    repeat((first|apply hW.t|apply hW.f|(apply hW.q;exact rqc));conv=>lhs;whnf)
    rfl
   ·cases q3:cT done<;>rw[q3]at c3 ho
    ·apply hW.w (c1)
     conv=>lhs;whnf
     repeat((first|apply hW.t|apply hW.f|(apply hW.q;exact rqc));conv=>lhs;whnf)
     apply hW.w (c2)
     conv=>lhs;whnf
     repeat((first|apply hW.t|apply hW.f|(apply hW.q;exact rqc));conv=>lhs;whnf)
     apply hW.w (c3)
     conv=>lhs;whnf
     repeat((first|apply hW.t|apply hW.f|(apply hW.q;exact rqc));conv=>lhs;whnf)
     rfl
    ·cases ho
 |true =>
  have hoo:=ho
  unfold nK at hoo
  simp only[Bool.and_eq_true]at hoo
  rw[hoo.1.1]at c1
  rw[hoo.1.2]at c2
  rw[hoo.2]at c3
  apply hW.w (c1)
  conv=>lhs;whnf
  repeat((first|apply hW.t|apply hW.f|(apply hW.q;exact rqc));conv=>lhs;whnf)
  apply hW.w (c2)
  conv=>lhs;whnf
  repeat((first|apply hW.t|apply hW.f|(apply hW.q;exact rqc));conv=>lhs;whnf)
  apply hW.w (c3)
  conv=>lhs;whnf
  repeat((first|apply hW.t|apply hW.f|(apply hW.q;exact rqc));conv=>lhs;whnf)
  have hle:hAt id l≤l.length:=aHO
  apply hW.w (lK hE l id (by omega))
  conv=>lhs;whnf
  repeat((first|apply hW.t|apply hW.f|(apply hW.q;exact rqc));conv=>lhs;whnf)
  apply hW.b<;>intro hk<;>conv=>lhs;whnf
  ·have hk:gF l id<0:=by simpa using hk
   rw[aCA ho hk]
   repeat((first|apply hW.t|apply hW.f|(apply hW.q;exact rqc));conv=>lhs;whnf)
   have mk:((l.take (hAt id l)++⟨id,0,0,0,0⟩::l.drop (hAt id l)).map Kid.row)[hAt id l]?=some (Kid.row ⟨id,0,0,0,0⟩):=by rw[List.getElem?_map,aMk hle];rfl
   have hm:hAt id l<((l.take (hAt id l)++⟨id,0,0,0,0⟩::l.drop (hAt id l)).map Kid.row).length:=(List.getElem?_eq_some_iff.mp mk).1
   rcases aKc (id:=id) (l:=l) (n:=0) with⟨i1,i2⟩|⟨i1,i2⟩
   ·have ci:=kK hE l (by omega) id
    rw[i1]at ci
    apply hW.w (ci)
    conv=>lhs;whnf
    repeat((first|apply hW.t|apply hW.f|(apply hW.q;exact rqc));conv=>lhs;whnf)
    rw[hrl]
    rw[← i2]
    have cx:=aNt hE l ⟨id,0,0,0,0⟩ (hAt id l) hle h0 false
    apply hW.w (cx)
    conv=>lhs;whnf
    repeat((first|apply hW.t|apply hW.f|(apply hW.q;exact rqc));conv=>lhs;whnf)
    apply hW.w ((aFW mk))
    conv=>lhs;whnf
    repeat((first|apply hW.t|apply hW.f|(apply hW.q;exact rqc));conv=>lhs;whnf)
    apply hW.w ((aFW mk))
    conv=>lhs;whnf
    repeat((first|apply hW.t|apply hW.f|(apply hW.q;exact rqc));conv=>lhs;whnf)
    apply hW.w ((aFW mk))
    conv=>lhs;whnf
    repeat((first|apply hW.t|apply hW.f|(apply hW.q;exact rqc));conv=>lhs;whnf)
    apply hW.w ((rS hm))
    conv=>lhs;whnf
    repeat((first|apply hW.t|apply hW.f|(apply hW.q;exact rqc));conv=>lhs;whnf)
    apply hW.w ((rS (show hAt id l<(List.set _ _ _).length by rw[List.length_set];exact hm)))
    conv=>lhs;whnf
    repeat((first|apply hW.t|apply hW.f|(apply hW.q;exact rqc));conv=>lhs;whnf)
    refine congrArg (fun b=>(some ([ov 5 b],[]):Option Res)) ((aOk _ (hAt id l) _ _ ⟨id,want,wor 0 done,0,0⟩).trans ?_)
    rw[aNs hoo.2,aHQ hle]
   ·have ci:=kK hE l (by omega) id
    rw[i1,Nat.zero_add]at ci
    apply hW.w (ci)
    conv=>lhs;whnf
    repeat((first|apply hW.t|apply hW.f|(apply hW.q;exact rqc));conv=>lhs;whnf)
    try(apply hW.bf (by first|(exact decide_eq_false (by omega))|(simp;done)|(simp;omega));conv=>lhs;whnf)
    repeat((first|apply hW.t|apply hW.f|(apply hW.q;exact rqc));conv=>lhs;whnf)
    have cx:=aNt hE l ⟨id,0,0,0,0⟩ (hAt id l) hle h0 false
    apply hW.w (cx)
    conv=>lhs;whnf
    repeat((first|apply hW.t|apply hW.f|(apply hW.q;exact rqc));conv=>lhs;whnf)
    apply hW.w ((aFW mk))
    conv=>lhs;whnf
    repeat((first|apply hW.t|apply hW.f|(apply hW.q;exact rqc));conv=>lhs;whnf)
    apply hW.w ((aFW mk))
    conv=>lhs;whnf
    repeat((first|apply hW.t|apply hW.f|(apply hW.q;exact rqc));conv=>lhs;whnf)
    apply hW.w ((aFW mk))
    conv=>lhs;whnf
    repeat((first|apply hW.t|apply hW.f|(apply hW.q;exact rqc));conv=>lhs;whnf)
    apply hW.w ((rS hm))
    conv=>lhs;whnf
    repeat((first|apply hW.t|apply hW.f|(apply hW.q;exact rqc));conv=>lhs;whnf)
    apply hW.w ((rS (show hAt id l<(List.set _ _ _).length by rw[List.length_set];exact hm)))
    conv=>lhs;whnf
    repeat((first|apply hW.t|apply hW.f|(apply hW.q;exact rqc));conv=>lhs;whnf)
    refine congrArg (fun b=>(some ([ov 5 b],[]):Option Res)) ((aOk _ (hAt id l) _ _ ⟨id,want,wor 0 done,0,0⟩).trans ?_)
    rw[aNs hoo.2,aHQ hle]
  ·obtain⟨n,hn,hk⟩:=mM (l:=l) (id:=id) (by simpa using hk)
   rw[aEG ho hn hk,hk]
   have hm:n<(l.map Kid.row).length:=by rw[hrl];exact hn
   repeat((first|apply hW.t|apply hW.f|(apply hW.q;exact rqc)|(refine hW.w (bR ?_) ?_;omega));conv=>lhs;whnf)
   apply hW.w ((rS hm))
   conv=>lhs;whnf
   repeat((first|apply hW.t|apply hW.f|(apply hW.q;exact rqc));conv=>lhs;whnf)
   apply hW.w ((rS (show n<((l.map Kid.row).set n _).length by rw[List.length_set];exact hm)))
   conv=>lhs;whnf
   repeat((first|apply hW.t|apply hW.f|(apply hW.q;exact rqc));conv=>lhs;whnf)
   exact congrArg (fun b=>(some ([ov 5 b],[]):Option Res)) (aOk l n _ _ ⟨l[n].id,want,wor l[n].done done,0,l[n].sent⟩)
theorem lZ {E:Env} (hE:Sys E) (m:Man) (x:Bld) (i:Int) (a n:Nat) (ha:bF m.size m.len i=a) (hn:aU m.size m.len i=n) (hf:a+n≤x.buf.length) (hx:x.buf.length≤1048576):E 361 [gv (x.cs aP),gv (m.cs aP),iv i]=some ([.v false [.alias 0 1 a n]],[]):=by
 have a4:=fE hE m.size m.len i
 rw[ha,hn]at a4
 have hc:a+n≤(bys x.buf).length:=by rw[aF];exact hf
 refine hE.run rfl rfl fun W hW=>?_
 conv=>lhs;whnf
 apply hW.w (a4)
 conv=>lhs;whnf
 repeat((first|apply hW.t|apply hW.f|(apply hW.q;exact rqc));conv=>lhs;whnf)
 rw[show IntKind.i64.wrap ((a:Int)+(n:Int))=((a+n:Nat):Int) from(aG (by omega)).trans (by omega)]
 repeat((first|apply hW.t|apply hW.f|(apply hW.q;exact rqc));conv=>lhs;whnf)
 refine hW.q (by exact⟨by omega,by rw[aF];omega,bB _⟩) ?_
 conv=>lhs;whnf
 repeat((first|apply hW.t|apply hW.f|(apply hW.q;exact rqc));conv=>lhs;whnf)
 rw[show((a:Int).toNat)=a from by omega,show(((a+n:Nat):Int)).toNat-a=n from by omega]
 refine hW.q (by exact hc) ?_
 conv=>lhs;whnf
 repeat((first|apply hW.t|apply hW.f|(apply hW.q;exact rqc));conv=>lhs;whnf)
 rfl
def fG (m:Man):Bld:=if bA m=true then⟨0,List.replicate m.len.toNat 0⟩ else⟨0,[]⟩
theorem wK {m:Man} (h:bA m=true):0≤m.len∧m.len≤240:=by
 unfold bA at h
 split at h
 ·simp[bW]at h;omega
 ·simp only[Bool.and_eq_true]at h
  obtain⟨_,h2,_⟩:=h
  have:=vW h2
  omega
theorem wL {E:Env} (hE:Sys E) (m:Man) (hm:m.sums.length≤1048576):E 368 [gv (m.cs aP)]=some ([gv ((fG m).cs dF)],[]):=by
 have a:=dI hE m hm
 unfold fG
 cases h:bA m
 ·rw[h]at a
  refine hE.run rfl rfl fun W hW=>?_
  conv=>lhs;whnf
  repeat'((first|apply hW.t|apply hW.f|(apply hW.q;exact rqc)|apply hW.w (a)|(apply hW.b<;>intro h))<;>conv=>lhs;whnf)
  rfl
 ·rw[h]at a
  have hl:=wK h
  refine hE.run rfl rfl fun W hW=>?_
  conv=>lhs;whnf
  apply hW.w (a)
  conv=>lhs;whnf
  repeat((first|apply hW.t|apply hW.f|(apply hW.q;exact rqc));conv=>lhs;whnf)
  refine hW.q (by exact⟨by omega, .inl rfl,by omega,by omega,by omega,by decide,rfl⟩) ?_
  conv=>lhs;whnf
  repeat((first|apply hW.t|apply hW.f|(apply hW.q;exact rqc));conv=>lhs;whnf)
  simp only[if_true]
  rw[show(List.replicate m.len.toNat [T.int IntKind.u8 0])=bys (List.replicate m.len.toNat 0) from by simp[bys,mX]]
  rfl
theorem wM {E:Env} (hE:Sys E) (m:Man) (hm:m.sums.length≤1048576):E 371 [gv (m.cs aP)]=some ([gv ((fG m).cs dF)],[]):=by
 have a:=dW hE m hm
 unfold fG
 cases h:bA m
 ·rw[h]at a
  refine hE.run rfl rfl fun W hW=>?_
  conv=>lhs;whnf
  repeat'((first|apply hW.t|apply hW.f|(apply hW.q;exact rqc)|apply hW.w (a)|(apply hW.b<;>intro h))<;>conv=>lhs;whnf)
  rfl
 ·rw[h]at a
  have hl:=wK h
  refine hE.run rfl rfl fun W hW=>?_
  conv=>lhs;whnf
  apply hW.w (a)
  conv=>lhs;whnf
  repeat((first|apply hW.t|apply hW.f|(apply hW.q;exact rqc));conv=>lhs;whnf)
  refine hW.q (by exact⟨by omega, .inl rfl,by omega,by omega,by omega,by decide,rfl⟩) ?_
  conv=>lhs;whnf
  repeat((first|apply hW.t|apply hW.f|(apply hW.q;exact rqc));conv=>lhs;whnf)
  simp only[if_true]
  rw[show(List.replicate m.len.toNat [T.int IntKind.u8 0])=bys (List.replicate m.len.toNat 0) from by simp[bys,mX]]
  rfl
def lay (b:aE) (at_:Nat) (x:aE):aE:=b.take at_++x++b.drop (at_+x.length)
theorem aHR {b x:aE} {a:Nat} (h:a+x.length≤b.length):(lay b a x).length=b.length:=by
 unfold lay;simp;omega
theorem aCB {b x:aE} {a k:Nat} (h:a+x.length≤b.length) (hk:k<x.length):lay b a (x.take k)=(b.take a++x.take k)++b[a+k]::b.drop (a+k+1):=by
 unfold lay
 rw[List.length_take,show min k x.length=k from by omega,List.drop_eq_getElem_cons (show a+k<b.length by omega)]
theorem aHS {b x:aE} {a k:Nat} (h:a+x.length≤b.length) (hk:k<x.length):(bys (lay b a (x.take k)))[a+k]?=some (mX b[a+k]):=by
 have hl:(b.take a++x.take k).length=a+k:=by simp;omega
 rw[aCB h hk,bys,List.getElem?_map,List.getElem?_append_right (by omega),hl,Nat.sub_self]
 rfl
theorem aMl {b x:aE} {a k:Nat} (h:a+x.length≤b.length) (hk:k<x.length):(bys (lay b a (x.take k))).set (a+k) (mX x[k])=bys (lay b a (x.take (k+1))):=by
 have hl:(b.take a++x.take k).length=a+k:=by simp;omega
 rw[bys,← List.map_set,aCB h hk,List.set_append,if_neg (by omega),hl,Nat.sub_self,List.set_cons_zero]
 unfold bys lay
 congr 1
 rw[List.length_take,show min (k+1) x.length=k+1 from by omega,show x.take (k+1)=x.take k++[x[k]] from by rw[List.take_add_one,List.getElem?_eq_getElem hk];rfl,Nat.add_assoc]
 simp only[List.append_assoc,List.singleton_append]
theorem aMm {b x:aE} {a:Nat}:lay b a (x.take x.length)=lay b a x:=by rw[List.take_length]
theorem aMn {b x:aE} {a:Nat} (h:a≤b.length):lay b a (x.take 0)=b:=by simp[lay]
def aF5 (m:Man) (x:Bld) (i:Nat) (b:aE):Bld:=⟨wor x.hav (aFN i),lay x.buf (bF m.size m.len i).toNat b⟩
theorem sY {E:Env} (hE:Sys E) (m:Man) (x:Bld) (i:Nat) (b:aE) (hm:m.sums.length≤1048576) (hi:i<m.sums.length) (h40:i<40) (hs:cT x.hav=true) (hin:dP x.hav i=false) (hb:bH b=m.sums[i]) (hbl:b.length≤6) (hat:0≤bF m.size m.len i) (hfit:bF m.size m.len i+b.length≤x.buf.length) (hx:x.buf.length≤1048576):E 369 [gv (m.cs aP), .pt true (x.cs dF),iv i,sv (bys b)]=some ([bv true],(aF5 m x i b).cs dF):=by
 have hrl:(m.sums.map Sum.row).length=m.sums.length:=List.length_map _
 have a1:=bG hE i 0 ((m.sums.length:Int)-1)
 rw[show bM i 0 ((m.sums.length:Int)-1)=true from by simp[bM];omega]at a1
 have a2:=dA hE x.hav i
 rw[hin]at a2
 have a3:=dV hE b (by omega)
 have a4:=dK hE m.size m.len i
 have a5:=lO hE x.hav i
 rw[show jE x.hav i=wor x.hav (aFN i) from by unfold jE;rw[if_pos ⟨hs,by simp[bM];omega⟩]]at a5
 refine hE.run rfl rfl fun W hW=>?_
 conv=>lhs;whnf
 repeat((first|apply hW.t|apply hW.f|(apply hW.q;exact rqc));conv=>lhs;whnf)
 rw[hrl,show IntKind.i64.wrap ((m.sums.length:Int)-1)=(m.sums.length:Int)-1 from aG (by omega)]
 apply hW.w (a1)
 conv=>lhs;whnf
 repeat((first|apply hW.t|apply hW.f|(apply hW.q;exact rqc));conv=>lhs;whnf)
 apply hW.w (a2)
 conv=>lhs;whnf
 repeat((first|apply hW.t|apply hW.f|(apply hW.q;exact rqc));conv=>lhs;whnf)
 repeat((first|apply hW.t|apply hW.f|(apply hW.q;exact rqc)|(refine hW.w (bR ?_) ?_;omega));conv=>lhs;whnf)
 apply hW.w (a3)
 conv=>lhs;whnf
 repeat((first|apply hW.t|apply hW.f|(apply hW.q;exact rqc));conv=>lhs;whnf)
 apply hW.bf (by rw[hb];simp)
 conv=>lhs;whnf
 repeat((first|apply hW.t|apply hW.f|(apply hW.q;exact rqc));conv=>lhs;whnf)
 rw[aZ]
 apply hW.bf (by simp;omega)
 conv=>lhs;whnf
 repeat((first|apply hW.t|apply hW.f|(apply hW.q;exact rqc));conv=>lhs;whnf)
 apply hW.w (a4)
 conv=>lhs;whnf
 repeat((first|apply hW.t|apply hW.f|(apply hW.q;exact rqc));conv=>lhs;whnf)
 obtain⟨a,ha⟩:∃ a:Nat,bF m.size m.len i=a:=⟨(bF m.size m.len i).toNat,by omega⟩
 have hfit':a+b.length≤x.buf.length:=by omega
 unfold aF5
 rw[ha,show((a:Int).toNat)=a from by omega]
 refine hW.loop (σ:=Nat) (γ:=Nat) (fun i s=>(s.sl 11 (v1 (.t (.int .i64 i)))).bl ⟨101,1, .own,bys (lay x.buf a (b.take i))⟩) (fun i k=>i=k∧k≤b.length) (fun k=>b.length-k) (fun _=>([bv true],Bld.cs dF ⟨wor x.hav (aFN i),lay x.buf a b⟩)) 0 0 ?_ ?_ ?_ ?_
 ·intro K
  conv=>lhs;whnf
  conv=>rhs;whnf
  try rfl
  rw[aMn (by omega)]
  rfl
 ·exact⟨rfl,by omega⟩
 ·rintro kl k _ ⟨rfl,hk⟩ ih
  conv=>lhs;whnf
  rw[aZ]
  apply hW.b<;>intro g1<;>conv=>lhs;whnf
  ·have g1:k<b.length:=by simpa using g1
   repeat((first|apply hW.t|apply hW.f|(apply hW.q;exact rqc)|(refine hW.w (bR ?_) ?_;omega));conv=>lhs;whnf)
   rw[show IntKind.i64.wrap ((a:Int)+(k:Int))=((a+k:Nat):Int) from(aG (by omega)).trans (by omega)]
   repeat((first|apply hW.t|apply hW.f|(apply hW.q;exact rqc));conv=>lhs;whnf)
   apply hW.w (aHS hfit' g1)
   conv=>lhs;whnf
   repeat((first|apply hW.t|apply hW.f|(apply hW.q;exact rqc));conv=>lhs;whnf)
   apply hW.w (aHS hfit' g1)
   conv=>lhs;whnf
   repeat((first|apply hW.t|apply hW.f|(apply hW.q;exact rqc));conv=>lhs;whnf)
   refine ih (k+1) (k+1) _ ?_ ⟨rfl,by omega⟩ (by omega)
   intro K
   conv=>lhs;whnf
   conv=>rhs;whnf
   try rfl
   rw[show IntKind.i64.wrap ((k:Int)+1)=_ from aH (by omega),← aMl hfit' g1]
   rfl
  ·have:k=b.length:=by simp at g1;omega
   subst this
   repeat((first|apply hW.t|apply hW.f|(apply hW.q;exact rqc));conv=>lhs;whnf)
   apply hW.w (a5)
   conv=>lhs;whnf
   repeat((first|apply hW.t|apply hW.f|(apply hW.q;exact rqc));conv=>lhs;whnf)
   rw[aMm]
   rfl
 ·rfl
theorem aAr {E:Env} (hE:Sys E) (m:Man) (x:Bld) (i:Nat) (b:aE) (h40:i<40) (hn:aU m.size m.len i=b.length) (hat:0≤bF m.size m.len i) (hfit:bF m.size m.len i+b.length≤x.buf.length) (hx:x.buf.length≤1048576):E 372 [.pt true (x.cs dF),gv (m.cs aP),iv i,sv (bys b)]=some ([],(aF5 m x i b).cs dF):=by
 obtain⟨a,ha⟩:∃ a:Nat,bF m.size m.len i=a:=⟨(bF m.size m.len i).toNat,by omega⟩
 have hfit':a+b.length≤x.buf.length:=by omega
 unfold aF5
 rw[ha,show((a:Int).toNat)=a from by omega]
 have hb:=lZ hE m x i a b.length ha hn hfit' hx
 refine hE.run rfl rfl fun W hW=>?_
 conv=>lhs;whnf
 repeat((first|apply hW.t|apply hW.f|(apply hW.q;exact rqc));conv=>lhs;whnf)
 apply hW.w (hb)
 conv=>lhs;whnf
 repeat((first|apply hW.t|apply hW.f|(apply hW.q;exact rqc));conv=>lhs;whnf)
 have hl:(List.take b.length (List.drop a (bys x.buf))).length=b.length:=by simp[aF];omega
 refine hW.q (by exact⟨dB _,bB _,fun e he=>bB _ e (List.mem_of_mem_drop (List.mem_of_mem_take he))⟩) ?_
 conv=>lhs;whnf
 rw[hl,show(bys b).take b.length=bys b from List.take_of_length_le (by rw[aF];exact Nat.le_refl _)]
 repeat((first|apply hW.t|apply hW.f|(apply hW.q;exact rqc));conv=>lhs;whnf)
 rw[show splice (bys x.buf) (100*0+(0+1),a).snd (bys b)=bys (lay x.buf a b) from by simp[splice,lay,bys,List.map_take,List.map_drop]]
 rfl
def nL (m:Man) (old:aE) (i:Nat):aE:=(old.drop (bK old m i).toNat).take (aU m.size m.len i).toNat
def sZ (m:Man) (old:aE) (x:Bld) (i:Nat):Bld:=if 0≤bK old m i then aF5 m x i (nL m old i) else x
def aFX (m:Man) (old:aE):Nat→Bld
 |0=>fG m
 |k+1=>sZ m old (aFX m old k) k
def fU (m:Man) (old:aE):Bld:=if bA m=true then aFX m old m.sums.length else fG m
theorem jI {m:Man} (h:bA m=true):m.sums.length≤40∧0≤m.len∧m.len≤240:=by
 have hl:=wK h
 refine⟨?_,hl⟩
 unfold bA at h
 split at h
 ·have h3:m.sums.length=0:=by simp[bW]at h;simp[h]
  omega
 ·simp only[Bool.and_eq_true,decide_eq_true_eq]at h
  obtain⟨_,h2,h3,_⟩:=h
  have:=(rI h2).2.2
  omega
structure BldIn (m:Man) (k:Nat) (x:Bld):Prop where
 hav:∃ h:Nat,x.hav=h∧h<2 ^ k
 len:(x.buf.length:Int)=m.len
theorem wN {m:Man} {old:aE} {k:Nat} (hk:k<m.sums.length) (hp:0≤bK old m k) :
 (nL m old k).length=(aU m.size m.len k).toNat∧bH (nL m old k)=m.sums[k]∧1≤aU m.size m.len k∧aU m.size m.len k≤6∧bK old m k+aU m.size m.len k≤old.length:=by
 obtain⟨a,ha⟩:∃ a:Nat,bK old m k=a:=⟨(bK old m k).toNat,by omega⟩
 obtain⟨h1,h2,h3,h4⟩:=aFV hk ha
 unfold nL
 rw[ha,show((a:Int).toNat)=a from by omega]
 refine⟨?_,h4,h1,h2,h3⟩
 rw[List.length_take,List.length_drop]
 omega
theorem aNu {m:Man} {k:Nat} {x:Bld} {b:aE} (h40:k<40) (h:BldIn m k x) (hb:(b.length:Int)=aU m.size m.len k) (h1:1≤aU m.size m.len k):BldIn m (k+1) (aF5 m x k b):=by
 obtain⟨⟨n,hn,hlt⟩,hl⟩:=h
 have hp:2 ^ k≤2 ^ 39:=Nat.pow_le_pow_right (by decide) (by omega)
 have hp2:(2:Nat) ^ 39=549755813888:=by decide
 have hs:=jX (size:=m.size) (n:=m.len) (i:=k)
 refine⟨⟨n ||| 2 ^ k,?_,Nat.or_lt_two_pow (by rw[Nat.pow_succ];omega) (by rw[Nat.pow_succ];have:=Nat.one_le_two_pow (n:=k);omega)⟩,?_⟩
 ·unfold aF5
  simp only
  rw[hn,(aHJ (by omega)).1]
  exact(aBj (by omega) (by omega)).1
 ·unfold aF5
  simp only
  rw[aHR (by omega)]
  exact hl
theorem BldIn.up {m:Man} {k:Nat} {x:Bld} (h:BldIn m k x):BldIn m (k+1) x:=by
 obtain⟨⟨n,hn,hlt⟩,hl⟩:=h
 exact⟨⟨n,hn,by rw[Nat.pow_succ];omega⟩,hl⟩
theorem aDE {m:Man} {old:aE} (hm:bA m=true) {k:Nat} (hk:k≤m.sums.length):BldIn m k (aFX m old k):=by
 have hc:=jI hm
 induction k with
 |zero =>
  simp only[aFX,fG,if_pos hm]
  exact⟨⟨0,rfl,by decide⟩,by simp;omega⟩
 |succ k ih =>
  simp only[aFX,sZ]
  split
  ·rename_i hp
   have:=wN (by omega) hp
   exact aNu (by omega) (ih (by omega)) (by omega) (by omega)
  ·exact(ih (by omega)).up
theorem BldIn.facts {m:Man} {k:Nat} {x:Bld} (hk:k<40) (h:BldIn m k x) (hs:1≤aU m.size m.len k):cT x.hav=true∧dP x.hav k=false∧0≤bF m.size m.len k∧bF m.size m.len k+aU m.size m.len k≤x.buf.length∧x.buf.length≤1048576:=by
 obtain⟨⟨n,hn,hlt⟩,hl⟩:=h
 have hp:2 ^ k≤2 ^ 39:=Nat.pow_le_pow_right (by decide) (by omega)
 have hp2:(2:Nat) ^ 39=549755813888:=by decide
 have hs:=jX (size:=m.size) (n:=m.len) (i:=k)
 rw[hn]
 refine⟨by simp only[cT,bM,Bool.and_eq_true,decide_eq_true_eq];omega,?_,by omega,by omega,by omega⟩
 rw[aCy (by omega) hk]
 exact Nat.testBit_lt_two_pow hlt
theorem tO {E:Env} (hE:Sys E) (m:Man) (old:aE) (h0:m.sums.length≤1048576) (ho:old.length≤1048576):E 367 [gv (m.cs aP),sv (bys old)]=some ([gv ((fU m old).cs dF)],[]):=by
 have a1:=wL hE m h0
 have a2:=dI hE m h0
 have hrl:(m.sums.map Sum.row).length=m.sums.length:=List.length_map _
 unfold fU
 cases hm:bA m
 ·rw[hm]at a2
  refine hE.run rfl rfl fun W hW=>?_
  conv=>lhs;whnf
  repeat'((first|apply hW.t|apply hW.f|(apply hW.q;exact rqc)|apply hW.w (a1)|apply hW.w (a2)|(apply hW.b<;>intro h))<;>conv=>lhs;whnf)
  rfl
 ·rw[hm]at a2
  have hc:=jI hm
  refine hE.run rfl rfl fun W hW=>?_
  conv=>lhs;whnf
  repeat'((first|apply hW.t|apply hW.f|(apply hW.q;exact rqc)|apply hW.w (a1)|apply hW.w (a2)|(apply hW.b<;>intro h))<;>conv=>lhs;whnf)
  refine hW.loop (σ:=Nat × Bld) (γ:=Nat) (fun i s=>((s.sl 6 (v1 (.t (.int .i64 i.1)))).sl 5 (.box true [.t (.int .i64 i.2.hav), .blk 50501])).bl ⟨50501,1, .own,bys i.2.buf⟩) (fun i k=>i.1=k∧k≤m.sums.length∧i.2=aFX m old k) (fun k=>m.sums.length-k) (fun _=>([gv ((aFX m old m.sums.length).cs dF)],[])) (0,fG m) 0 ?_ ?_ ?_ ?_
  ·intro K
   conv=>lhs;whnf
   conv=>rhs;whnf
   try rfl
  ·exact⟨rfl,by omega,rfl⟩
  ·rintro kl ⟨i,x⟩ k ⟨e1,hk,e2⟩ ih
   simp only at e1 e2 hk
   subst e1
   have hx:=aDE (old:=old) hm hk
   rw[← e2]at hx
   conv=>lhs;whnf
   rw[hrl]
   apply hW.b<;>intro g1<;>conv=>lhs;whnf
   ·have g1:i<m.sums.length:=by simpa using g1
    have e3:aFX m old (i+1)=sZ m old x i:=by rw[aFX,← e2]
    repeat((first|apply hW.t|apply hW.f|(apply hW.q;exact rqc)|(refine hW.w (bR ?_) ?_;omega));conv=>lhs;whnf)
    apply hW.w (yP hE old m i ho (by omega))
    conv=>lhs;whnf
    repeat((first|apply hW.t|apply hW.f|(apply hW.q;exact rqc));conv=>lhs;whnf)
    apply hW.w (dK hE m.size m.len i)
    conv=>lhs;whnf
    repeat((first|apply hW.t|apply hW.f|(apply hW.q;exact rqc));conv=>lhs;whnf)
    apply hW.b<;>intro g2<;>conv=>lhs;whnf
    ·have g2:0≤bK old m i:=by simpa using g2
     obtain⟨b1,b2,b3,b4,b5⟩:=wN g1 g2
     obtain⟨f1,f2,f3,f4,f5⟩:=hx.facts (by omega) b3
     refine hW.q (by exact g2) ?_
     conv=>lhs;whnf
     rw[show IntKind.i64.wrap (bK old m i+aU m.size m.len i)=bK old m i+aU m.size m.len i from aG (by omega)]
     refine hW.q (by omega) ?_
     conv=>lhs;whnf
     refine hW.q (by exact⟨by omega,by rw[aF];omega,bB _⟩) ?_
     conv=>lhs;whnf
     rw[show(bK old m i+aU m.size m.len i).toNat-(bK old m i).toNat=(aU m.size m.len i).toNat from by omega]
     repeat((first|apply hW.t|apply hW.f|(apply hW.q;exact rqc));conv=>lhs;whnf)
     rw[show((bys old).drop (bK old m i).toNat).take (aU m.size m.len i).toNat=bys (nL m old i) from fF _ _ _]
     apply hW.w (sY hE m x i (nL m old i) h0 g1 (by omega) f1 f2 b2 (by omega) f3 (by omega) f5)
     conv=>lhs;whnf
     repeat((first|apply hW.t|apply hW.f|(apply hW.q;exact rqc));conv=>lhs;whnf)
     refine ih (i+1,aF5 m x i (nL m old i)) (i+1) _ ?_ ⟨rfl,by omega,by rw[e3,sZ,if_pos g2]⟩ (by omega)
     intro K
     conv=>lhs;whnf
     conv=>rhs;whnf
     try rfl
     try rw[show IntKind.i64.wrap ((i:Int)+1)=_ from aH (by omega)]
     try rfl
    ·have g2:¬ 0≤bK old m i:=by simpa using g2
     repeat((first|apply hW.t|apply hW.f|(apply hW.q;exact rqc));conv=>lhs;whnf)
     refine ih (i+1,x) (i+1) _ ?_ ⟨rfl,by omega,by rw[e3,sZ,if_neg g2]⟩ (by omega)
     intro K
     conv=>lhs;whnf
     conv=>rhs;whnf
     try rfl
     rw[show IntKind.i64.wrap ((i:Int)+1)=_ from aH (by omega)]
     try rfl
   ·have:i=m.sums.length:=by simp at g1;omega
    subst this
    repeat((first|apply hW.t|apply hW.f|(apply hW.q;exact rqc));conv=>lhs;whnf)
    subst e2
    rfl
  ·rfl
theorem tP {E:Env} (hE:Sys E) (m:Man) (old:aE) (h0:m.sums.length≤1048576) (ho:old.length≤1048576):E 370 [gv (m.cs aP),sv (bys old)]=some ([gv ((fU m old).cs dF)],[]):=by
 have a1:=wM hE m h0
 have a2:=dW hE m h0
 have hrl:(m.sums.map Sum.row).length=m.sums.length:=List.length_map _
 unfold fU
 cases hm:bA m
 ·rw[hm]at a2
  refine hE.run rfl rfl fun W hW=>?_
  conv=>lhs;whnf
  repeat'((first|apply hW.t|apply hW.f|(apply hW.q;exact rqc)|apply hW.w (a1)|apply hW.w (a2)|(apply hW.b<;>intro h))<;>conv=>lhs;whnf)
  rfl
 ·rw[hm]at a2
  have hc:=jI hm
  refine hE.run rfl rfl fun W hW=>?_
  conv=>lhs;whnf
  repeat'((first|apply hW.t|apply hW.f|(apply hW.q;exact rqc)|apply hW.w (a1)|apply hW.w (a2)|(apply hW.b<;>intro h))<;>conv=>lhs;whnf)
  rw[hrl]
  refine hW.loop (σ:=Nat × Bld) (γ:=Nat) (fun i s=>((s.sl 19 (v1 (.t (.int .i64 i.1)))).sl 5 (.box true [.t (.int .i64 i.2.hav), .blk 50501])).bl ⟨50501,1, .own,bys i.2.buf⟩) (fun i k=>i.1=k∧k≤m.sums.length∧i.2=aFX m old k) (fun k=>m.sums.length-k) (fun _=>([gv ((aFX m old m.sums.length).cs dF)],[])) (0,fG m) 0 ?_ ?_ ?_ ?_
  ·intro K
   conv=>lhs;whnf
   conv=>rhs;whnf
   try rfl
  ·exact⟨rfl,by omega,rfl⟩
  ·rintro kl ⟨i,x⟩ k ⟨e1,hk,e2⟩ ih
   simp only at e1 e2 hk
   subst e1
   have hx:=aDE (old:=old) hm hk
   rw[← e2]at hx
   conv=>lhs;whnf
   apply hW.b<;>intro g1<;>conv=>lhs;whnf
   ·have g1:i<m.sums.length:=by simpa using g1
    have e3:aFX m old (i+1)=sZ m old x i:=by rw[aFX,← e2]
    repeat((first|apply hW.t|apply hW.f|(apply hW.q;exact rqc)|(refine hW.w (bR ?_) ?_;omega));conv=>lhs;whnf)
    apply hW.w (fE hE m.size m.len i)
    conv=>lhs;whnf
    repeat((first|apply hW.t|apply hW.f|(apply hW.q;exact rqc));conv=>lhs;whnf)
    apply hW.w (yQ hE old m i ho (by omega))
    conv=>lhs;whnf
    repeat((first|apply hW.t|apply hW.f|(apply hW.q;exact rqc));conv=>lhs;whnf)
    apply hW.b<;>intro g2<;>conv=>lhs;whnf
    ·have g2:0≤bK old m i:=by simpa using g2
     obtain⟨b1,b2,b3,b4,b5⟩:=wN g1 g2
     obtain⟨f1,f2,f3,f4,f5⟩:=hx.facts (by omega) b3
     refine hW.q (by exact g2) ?_
     conv=>lhs;whnf
     rw[show IntKind.i64.wrap (bK old m i+aU m.size m.len i)=bK old m i+aU m.size m.len i from aG (by omega)]
     refine hW.q (by omega) ?_
     conv=>lhs;whnf
     refine hW.q (by exact⟨by omega,by rw[aF];omega,bB _⟩) ?_
     conv=>lhs;whnf
     rw[show(bK old m i+aU m.size m.len i).toNat-(bK old m i).toNat=(aU m.size m.len i).toNat from by omega]
     repeat((first|apply hW.t|apply hW.f|(apply hW.q;exact rqc));conv=>lhs;whnf)
     rw[show((bys old).drop (bK old m i).toNat).take (aU m.size m.len i).toNat=bys (nL m old i) from fF _ _ _]
     apply hW.w (aAr hE m x i (nL m old i) (by omega) (by omega) f3 (by omega) f5)
     conv=>lhs;whnf
     repeat((first|apply hW.t|apply hW.f|(apply hW.q;exact rqc));conv=>lhs;whnf)
     refine ih (i+1,aF5 m x i (nL m old i)) (i+1) _ ?_ ⟨rfl,by omega,by rw[e3,sZ,if_pos g2]⟩ (by omega)
     intro K
     conv=>lhs;whnf
     conv=>rhs;whnf
     try rfl
     try rw[show IntKind.i64.wrap ((i:Int)+1)=_ from aH (by omega)]
     try rfl
    ·have g2:¬ 0≤bK old m i:=by simpa using g2
     repeat((first|apply hW.t|apply hW.f|(apply hW.q;exact rqc));conv=>lhs;whnf)
     refine ih (i+1,x) (i+1) _ ?_ ⟨rfl,by omega,by rw[e3,sZ,if_neg g2]⟩ (by omega)
     intro K
     conv=>lhs;whnf
     conv=>rhs;whnf
     try rfl
     rw[show IntKind.i64.wrap ((i:Int)+1)=_ from aH (by omega)]
     try rfl
   ·have:i=m.sums.length:=by simp at g1;omega
    subst this
    repeat((first|apply hW.t|apply hW.f|(apply hW.q;exact rqc));conv=>lhs;whnf)
    subst e2
    rfl
  ·rfl
theorem xM {a b:Int} (h:a=b):decide (a=b)=true:=decide_eq_true h
theorem gO {a b:Int} (h:¬ a=b):decide (a=b)=false:=decide_eq_false h
def yT (n:Node):Node:={ n with drops:=IntKind.i64.wrap (n.drops+1) }
def iO (n:Node) (d:Disk) (m:Man):Node :=
 if n.phase=0 then
  if bA m=false then n else if m.gen=0 then n else
   { n with man:=m,bld:=fU m (lY d),phase:=if decide (lX d=m.gen)&&nF m (lY d) then 5 else 1 }
 else if n.man=m then n else yT n
theorem gB {E:Env} (hE:Sys E) (n:Node) (hn:n.lim 8388608):E 417 [gv (n.cs aP)]=some ([gv ((yT n).cs dF)],[]):=by
 refine hE.run rfl rfl fun W hW=>?_
 conv=>lhs;whnf
 repeat'((first|apply hW.t|apply hW.f|(apply hW.q;exact rqc)|apply hW.w (cM hE n hn)|(apply hW.b<;>intro h))<;>conv=>lhs;whnf)
 rfl
theorem aBk (n:Node) (d:Disk) (m:Man) (hn:n.limk) (hm:m.lim 1048576):(iO n d m).limk∧(iO n d m).kids=n.kids:=by
 unfold iO
 split
 ·split
  ·exact⟨hn,rfl⟩
  ·split
   ·exact⟨hn,rfl⟩
   ·rename_i _ h _
    have h:bA m=true:=by simpa using h
    have:=(aDE (old:=lY d) h (Nat.le_refl _)).len
    have hc:=jI h
    refine⟨⟨hm,?_,hn.2.2⟩,rfl⟩
    show(fU m (lY d)).buf.length≤_
    unfold fU
    rw[if_pos h]
    omega
 ·split
  ·exact⟨hn,rfl⟩
  ·exact⟨hn,rfl⟩
theorem aAs {a b:Int} (h:a=b):(!decide (a=b))=false:=by simp[h]
theorem aIs {a b:Int} (h:¬ a=b):(!decide (a=b))=true:=by simp[h]
theorem yU {E:Env} (hE:Sys E) (n:Node) (d:Disk) (m:Man) (hn:n.limk) (hd:d.lim 1048576) (hm:m.lim 1048576):E 454 [gv (n.cs aP),gv (d.cs aP true),gv (m.cs aP)]=some ([gv ((iO n d m).cs dF)],[]):=by
 have h0:m.sums.length≤1048576:=hm
 have c1:=cM hE n hn.l8
 have c2:=gB hE n hn.l8
 have a1:=eK hE n.man m (Nat.le_trans hn.1 (by decide))
 have a2:=dI hE m h0
 have hl:=Nat.le_trans (wB d) (show 240≤1048576 from by decide)
 have a3:=yL hE (o:=true) d hd
 have a4:=pW hE m (by omega)
 have a5:=tO hE m (lY d) h0 hl
 have a6:=aCt hE m (lY d) hl
 unfold iO
 by_cases h1:n.phase=0
 ·rw[if_pos h1]
  cases h2:bA m
  ·rw[h2]at a2
   refine hE.run rfl rfl fun W hW=>?_
   conv=>lhs;whnf
   repeat'((first|with_reducible apply hW.bf (aAs h1)|apply hW.t|apply hW.f|(apply hW.q;exact rqc)|apply hW.w (c1)|apply hW.w (a2)|(apply hW.b<;>intro h))<;>conv=>lhs;whnf)
   rfl
  ·rw[h2]at a2
   by_cases h3:m.gen=0
   ·rw[if_neg (by decide),if_pos h3]
    refine hE.run rfl rfl fun W hW=>?_
    conv=>lhs;whnf
    repeat'((first|with_reducible apply hW.bf (aAs h1)|with_reducible apply hW.bt (xM h3)|apply hW.t|apply hW.f|(apply hW.q;exact rqc)|apply hW.w (c1)|apply hW.w (a2)|(apply hW.b<;>intro h))<;>conv=>lhs;whnf)
    rfl
   ·rw[if_neg (by decide),if_neg h3]
    by_cases h4:lX d=m.gen
    ·rw[xM h4,Bool.true_and]
     cases h5:nF m (lY d)
     ·rw[h5]at a6
      refine hE.run rfl rfl fun W hW=>?_
      conv=>lhs;whnf
      repeat'((first|with_reducible apply hW.bf (aAs h1)|with_reducible apply hW.bf (gO h3)|with_reducible apply hW.bt (xM h4)|apply hW.t|apply hW.f|(apply hW.q;exact rqc)|apply hW.w (c1)|apply hW.w (a2)|apply hW.w (a3)|apply hW.w (a4)|apply hW.w (a5)|apply hW.w (a6)|(apply hW.b<;>intro h))<;>conv=>lhs;whnf)
      rfl
     ·rw[h5]at a6
      refine hE.run rfl rfl fun W hW=>?_
      conv=>lhs;whnf
      repeat'((first|with_reducible apply hW.bf (aAs h1)|with_reducible apply hW.bf (gO h3)|with_reducible apply hW.bt (xM h4)|apply hW.t|apply hW.f|(apply hW.q;exact rqc)|apply hW.w (c1)|apply hW.w (a2)|apply hW.w (a3)|apply hW.w (a4)|apply hW.w (a5)|apply hW.w (a6)|(apply hW.b<;>intro h))<;>conv=>lhs;whnf)
      rfl
    ·rw[gO h4,Bool.false_and]
     refine hE.run rfl rfl fun W hW=>?_
     conv=>lhs;whnf
     repeat'((first|with_reducible apply hW.bf (aAs h1)|with_reducible apply hW.bf (gO h3)|with_reducible apply hW.bf (gO h4)|apply hW.t|apply hW.f|(apply hW.q;exact rqc)|apply hW.w (c1)|apply hW.w (a2)|apply hW.w (a3)|apply hW.w (a4)|apply hW.w (a5)|(apply hW.b<;>intro h))<;>conv=>lhs;whnf)
     rfl
 ·rw[if_neg h1]
  by_cases h2:n.man=m
  ·rw[if_pos h2]
   rw[decide_eq_true h2]at a1
   refine hE.run rfl rfl fun W hW=>?_
   conv=>lhs;whnf
   repeat'((first|with_reducible apply hW.bt (aIs h1)|apply hW.t|apply hW.f|(apply hW.q;exact rqc)|apply hW.w (c1)|apply hW.w (a1)|(apply hW.b<;>intro h))<;>conv=>lhs;whnf)
   rfl
  ·rw[if_neg h2]
   rw[decide_eq_false h2]at a1
   refine hE.run rfl rfl fun W hW=>?_
   conv=>lhs;whnf
   repeat'((first|with_reducible apply hW.bt (aIs h1)|apply hW.t|apply hW.f|(apply hW.q;exact rqc)|apply hW.w (c1)|apply hW.w (a1)|apply hW.w (c2)|(apply hW.b<;>intro h))<;>conv=>lhs;whnf)
   rfl
theorem yV {E:Env} (hE:Sys E) (n:Node) (d:Disk) (m:Man) (hn:n.limk) (hd:d.lim 1048576) (hm:m.lim 1048576):E 457 [gv (n.cs aP),gv (d.cs aP true),gv (m.cs aP)]=some ([gv ((iO n d m).cs dF)],[]):=by
 have h0:m.sums.length≤1048576:=hm
 have c1:=cR hE n hn.l8
 have a1:=yD hE m n.man (by omega)
 have a2:=dW hE m h0
 have hl:=Nat.le_trans (wB d) (show 240≤1048576 from by decide)
 have a3:=nG hE (o:=true) d hd
 have a4:=nA hE m (by omega)
 have a5:=tP hE m (lY d) h0 hl
 have a6:=tL hE d m hd
 unfold iO
 by_cases h1:n.phase=0
 ·rw[if_pos h1]
  cases h2:bA m
  ·rw[h2]at a2
   refine hE.run rfl rfl fun W hW=>?_
   conv=>lhs;whnf
   repeat'((first|with_reducible apply hW.bf (aAs h1)|apply hW.t|apply hW.f|(apply hW.q;exact rqc)|apply hW.w (c1)|apply hW.w (a2)|(apply hW.b<;>intro h))<;>conv=>lhs;whnf)
   rfl
  ·rw[h2]at a2
   by_cases h3:m.gen=0
   ·rw[if_neg (by decide),if_pos h3]
    refine hE.run rfl rfl fun W hW=>?_
    conv=>lhs;whnf
    repeat'((first|with_reducible apply hW.bf (aAs h1)|with_reducible apply hW.bf (aAs h3)|apply hW.t|apply hW.f|(apply hW.q;exact rqc)|apply hW.w (c1)|apply hW.w (a2)|(apply hW.b<;>intro h))<;>conv=>lhs;whnf)
    rfl
   ·rw[if_neg (by decide),if_neg h3]
    cases h5:decide (lX d=m.gen)&&nF m (lY d)
    ·rw[h5]at a6
     refine hE.run rfl rfl fun W hW=>?_
     conv=>lhs;whnf
     repeat'((first|with_reducible apply hW.bf (aAs h1)|with_reducible apply hW.bt (aIs h3)|apply hW.t|apply hW.f|(apply hW.q;exact rqc)|apply hW.w (c1)|apply hW.w (a2)|apply hW.w (a3)|apply hW.w (a4)|apply hW.w (a5)|apply hW.w (a6)|(apply hW.b<;>intro h))<;>conv=>lhs;whnf)
     rfl
    ·rw[h5]at a6
     refine hE.run rfl rfl fun W hW=>?_
     conv=>lhs;whnf
     repeat'((first|with_reducible apply hW.bf (aAs h1)|with_reducible apply hW.bt (aIs h3)|apply hW.t|apply hW.f|(apply hW.q;exact rqc)|apply hW.w (c1)|apply hW.w (a2)|apply hW.w (a3)|apply hW.w (a4)|apply hW.w (a5)|apply hW.w (a6)|(apply hW.b<;>intro h))<;>conv=>lhs;whnf)
     rfl
 ·rw[if_neg h1]
  by_cases h2:n.man=m
  ·rw[if_pos h2]
   rw[decide_eq_true h2.symm]at a1
   refine hE.run rfl rfl fun W hW=>?_
   conv=>lhs;whnf
   repeat'((first|with_reducible apply hW.bt (aIs h1)|apply hW.t|apply hW.f|(apply hW.q;exact rqc)|apply hW.w (c1)|apply hW.w (a1)|(apply hW.b<;>intro h))<;>conv=>lhs;whnf)
   rfl
  ·rw[if_neg h2]
   rw[decide_eq_false (fun e=>h2 e.symm)]at a1
   refine hE.run rfl rfl fun W hW=>?_
   conv=>lhs;whnf
   repeat'((first|with_reducible apply hW.bt (aIs h1)|apply hW.t|apply hW.f|(apply hW.q;exact rqc)|apply hW.w (c1)|apply hW.w (a1)|(apply hW.b<;>intro h))<;>conv=>lhs;whnf)
   rfl
theorem nM {E:Env} (hE:Sys E) (m:Man) (x:Bld) (hm:m.sums.length≤1048576) (hx:x.buf.length≤1048576):E 360 [gv (m.cs aP),gv (x.cs aP)]=some ([bv (dE m x)],[]):=by
 have a1:=dW hE m hm
 have a2:=cL hE x.hav
 have a3:=vU hE m
 have hrl:(m.sums.map Sum.row).length=m.sums.length:=List.length_map _
 unfold dE
 cases h1:bA m
 ·rw[h1]at a1
  refine hE.run rfl rfl fun W hW=>?_
  conv=>lhs;whnf
  repeat'((first|apply hW.t|apply hW.f|(apply hW.q;exact rqc)|apply hW.w (a1)|(apply hW.b<;>intro h))<;>conv=>lhs;whnf)
  rfl
 ·rw[h1]at a1
  cases h2:cT x.hav
  ·rw[h2]at a2
   refine hE.run rfl rfl fun W hW=>?_
   conv=>lhs;whnf
   repeat'((first|apply hW.t|apply hW.f|(apply hW.q;exact rqc)|apply hW.w (a1)|apply hW.w (a2)|(apply hW.b<;>intro h))<;>conv=>lhs;whnf)
   rfl
  ·rw[h2]at a2
   have h3w:∀ b,yB x.hav (cQ m)=b→IntKind.i64.wrap (BitVec.ofInt IntKind.i64.bits x.hav &&& ~~~BitVec.ofInt IntKind.i64.bits (cQ m)).toNat=b:=fun _ h=>h
   by_cases h3:yB x.hav (cQ m)=0
   ·by_cases h4:(x.buf.length:Int)=m.len
    ·have h4':((bys x.buf).length:Int)=m.len:=by rw[aZ];exact h4
     rw[decide_eq_true h3,decide_eq_true h4]
     simp only[Bool.true_and]
     refine hE.run rfl rfl fun W hW=>?_
     conv=>lhs;whnf
     repeat'((first|with_reducible apply hW.bf (ndf (h3w 0 h3))|with_reducible apply hW.bf (ndf h4')|apply hW.t|apply hW.f|(apply hW.q;exact rqc)|apply hW.w (a1)|apply hW.w (a2)|apply hW.w (a3)|(apply hW.b<;>intro h))<;>conv=>lhs;whnf)
     rw[hrl]
     refine hW.loop (σ:=Nat) (γ:=Nat) (fun i s=>s.sl 36 (v1 (.t (.int .i64 i)))) (fun i k=>i=k∧k≤m.sums.length) (fun k=>m.sums.length-k) (fun k=>([bv (aMI m x k (m.sums.drop k))],[])) 0 0 ?_ ?_ ?_ ?_
     ·intro K
      conv=>lhs;whnf
      conv=>rhs;whnf
      try rfl
     ·exact⟨rfl,by omega⟩
     ·rintro kl n _ ⟨rfl,hn⟩ ih
      conv=>lhs;whnf
      apply hW.b<;>intro g1<;>conv=>lhs;whnf
      ·have g1:n<m.sums.length:=by simpa using g1
       have hs:=jX (size:=m.size) (n:=m.len) (i:=n)
       have hk:nE x.buf m.size n=(x.buf.drop (bF m.size m.len n).toNat).take (aU m.size m.len n).toNat:=by unfold nE;rw[h4]
       have hkl:=mO x.buf m.size n
       rw[List.drop_eq_getElem_cons g1,aMI,aMj]
       obtain⟨a,ha⟩:∃ a:Nat,bF m.size m.len n=a:=⟨(bF m.size m.len n).toNat,by omega⟩
       obtain⟨w,hw⟩:∃ w:Nat,aU m.size m.len n=w:=⟨(aU m.size m.len n).toNat,by omega⟩
       have hc:((bys x.buf).drop a).take w=bys (nE x.buf m.size n):=by
        rw[fF,hk,ha,hw]
        rfl
       repeat((first|apply hW.t|apply hW.f|(apply hW.q;exact rqc)|(refine hW.w (bR ?_) ?_;omega));conv=>lhs;whnf)
       apply hW.w (lZ hE m x n a w ha hw (by omega) hx)
       conv=>lhs;whnf
       repeat((first|apply hW.t|apply hW.f|(apply hW.q;exact rqc));conv=>lhs;whnf)
       apply hW.w (dH hE x.hav n)
       conv=>lhs;whnf
       repeat((first|apply hW.t|apply hW.f|(apply hW.q;exact rqc));conv=>lhs;whnf)
       apply hW.b<;>intro gi<;>conv=>lhs;whnf
       ·rw[if_pos gi]
        repeat((first|apply hW.t|apply hW.f|(apply hW.q;exact rqc)|(refine hW.w (bR ?_) ?_;omega));conv=>lhs;whnf)
        rw[hc]
        apply hW.w (gH hE (nE x.buf m.size n) (by omega))
        conv=>lhs;whnf
        repeat((first|apply hW.t|apply hW.f|(apply hW.q;exact rqc));conv=>lhs;whnf)
        apply hW.b<;>intro g4<;>conv=>lhs;whnf
        ·have g4:¬ bH (nE x.buf m.size n)=m.sums[n]:=by intro e;rw[e]at g4;simp at g4
         rw[decide_eq_false g4]
         repeat((first|apply hW.t|apply hW.f|(apply hW.q;exact rqc));conv=>lhs;whnf)
         rfl
        ·have g4:bH (nE x.buf m.size n)=m.sums[n]:=by
          revert g4
          generalize bH (nE x.buf m.size n)=y
          generalize m.sums[n]=z
          cases y;cases z
          simp
         rw[decide_eq_true g4]
         simp only[Bool.true_and]
         repeat((first|apply hW.t|apply hW.f|(apply hW.q;exact rqc));conv=>lhs;whnf)
         apply hW.w (dH hE x.hav n)
         conv=>lhs;whnf
         repeat((first|apply hW.t|apply hW.f|(apply hW.q;exact rqc));conv=>lhs;whnf)
         rw[gi]
         repeat((first|apply hW.t|apply hW.f|(apply hW.q;exact rqc));conv=>lhs;whnf)
         refine ih (n+1) (n+1) _ ?_ ⟨rfl,by omega⟩ (by omega)
         intro K
         conv=>lhs;whnf
         conv=>rhs;whnf
         try rfl
         rw[show IntKind.i64.wrap ((n:Int)+1)=_ from aH (by omega)]
         try rfl
       ·rw[if_neg (by rw[gi];decide)]
        repeat((first|apply hW.t|apply hW.f|(apply hW.q;exact rqc));conv=>lhs;whnf)
        apply hW.w (dH hE x.hav n)
        conv=>lhs;whnf
        repeat((first|apply hW.t|apply hW.f|(apply hW.q;exact rqc));conv=>lhs;whnf)
        rw[gi]
        repeat((first|apply hW.t|apply hW.f|(apply hW.q;exact rqc));conv=>lhs;whnf)
        rw[hc]
        apply hW.w (oL hE (nE x.buf m.size n) (by omega))
        conv=>lhs;whnf
        repeat((first|apply hW.t|apply hW.f|(apply hW.q;exact rqc));conv=>lhs;whnf)
        apply hW.b<;>intro g5<;>conv=>lhs;whnf
        ·rw[kO g5]
         repeat((first|apply hW.t|apply hW.f|(apply hW.q;exact rqc));conv=>lhs;whnf)
         rfl
        ·rw[iD g5]
         simp only[Bool.true_and]
         repeat((first|apply hW.t|apply hW.f|(apply hW.q;exact rqc));conv=>lhs;whnf)
         refine ih (n+1) (n+1) _ ?_ ⟨rfl,by omega⟩ (by omega)
         intro K
         conv=>lhs;whnf
         conv=>rhs;whnf
         try rfl
         rw[show IntKind.i64.wrap ((n:Int)+1)=_ from aH (by omega)]
         try rfl
      ·have:n=m.sums.length:=by simp at g1;omega
       rw[this,List.drop_length]
       repeat((first|apply hW.t|apply hW.f|(apply hW.q;exact rqc));conv=>lhs;whnf)
       rfl
     ·rfl
    ·have h4':¬ ((bys x.buf).length:Int)=m.len:=by rw[aZ];exact h4
     rw[decide_eq_true h3,decide_eq_false h4]
     refine hE.run rfl rfl fun W hW=>?_
     conv=>lhs;whnf
     repeat'((first|with_reducible apply hW.bf (ndf (h3w 0 h3))|with_reducible apply hW.bt (ndt h4')|apply hW.t|apply hW.f|(apply hW.q;exact rqc)|apply hW.w (a1)|apply hW.w (a2)|apply hW.w (a3)|(apply hW.b<;>intro h))<;>conv=>lhs;whnf)
     rfl
   ·have h3n:¬ IntKind.i64.wrap (BitVec.ofInt IntKind.i64.bits x.hav &&& ~~~BitVec.ofInt IntKind.i64.bits (cQ m)).toNat=0:=h3
    rw[decide_eq_false h3]
    refine hE.run rfl rfl fun W hW=>?_
    conv=>lhs;whnf
    repeat'((first|with_reducible apply hW.bt (ndt h3n)|apply hW.t|apply hW.f|(apply hW.q;exact rqc)|apply hW.w (a1)|apply hW.w (a2)|apply hW.w (a3)|(apply hW.b<;>intro h))<;>conv=>lhs;whnf)
    rfl
def wand (a b:Int):Int:=IntKind.i64.wrap (BitVec.ofInt IntKind.i64.bits a &&& BitVec.ofInt IntKind.i64.bits b).toNat
def iV (l:List Kid) (id have_:Int):Int :=
 match l[(gF l id).toNat]? with
 |none=>0
 |some x=>if gF l id<0∨cT have_=false∨cT x.want=false∨cT x.sent=false then 0 else yB (wand x.want have_) x.sent
theorem wO {l:List Kid} {id h:Int} (hk:gF l id<0):iV l id h=0:=by
 unfold iV;split
 ·rfl
 ·rw[if_pos (.inl hk)]
theorem aAt {l:List Kid} {id h:Int} {n:Nat} (hn:n<l.length) (hk:gF l id=n):iV l id h=if cT h=false∨cT l[n].want=false∨cT l[n].sent=false then 0 else yB (wand l[n].want h) l[n].sent:=by
 unfold iV
 rw[hk,Int.toNat_natCast,List.getElem?_eq_getElem hn]
 simp only[show ¬ ((n:Int)<0) from by omega,false_or]
theorem qH {E:Env} (hE:Sys E) (l:List Kid) (id h:Int) (h0:l.length≤1099511627776):E 291 [sv (l.map Kid.row),iv id,iv h]=some ([iv (iV l id h)],[]):=by
 refine hE.run rfl rfl fun W hW=>?_
 conv=>lhs;whnf
 apply hW.w (lJ hE l id h0)
 conv=>lhs;whnf
 repeat((first|apply hW.t|apply hW.f|(apply hW.q;exact rqc));conv=>lhs;whnf)
 apply hW.b<;>intro h1<;>conv=>lhs;whnf
 ·have h1:gF l id<0:=by simpa using h1
  rw[wO h1]
  repeat((first|apply hW.t|apply hW.f|(apply hW.q;exact rqc));conv=>lhs;whnf)
  rfl
 ·obtain⟨n,hn,hk⟩:=mM (l:=l) (id:=id) (by simpa using h1)
  rw[aAt hn hk,hk]
  repeat((first|apply hW.t|apply hW.f|(apply hW.q;exact rqc));conv=>lhs;whnf)
  apply hW.w (bS hE h)
  conv=>lhs;whnf
  repeat((first|apply hW.t|apply hW.f|(apply hW.q;exact rqc));conv=>lhs;whnf)
  apply hW.b<;>intro h2<;>conv=>lhs;whnf
  ·repeat((first|apply hW.t|apply hW.f|(apply hW.q;exact rqc));conv=>lhs;whnf)
   rw[if_pos (.inl (kO h2))];rfl
  ·repeat((first|apply hW.t|apply hW.f|(apply hW.q;exact rqc)|(refine hW.w (bR ?_) ?_;omega));conv=>lhs;whnf)
   apply hW.w (bS hE l[n].want)
   conv=>lhs;whnf
   repeat((first|apply hW.t|apply hW.f|(apply hW.q;exact rqc));conv=>lhs;whnf)
   apply hW.b<;>intro h3<;>conv=>lhs;whnf
   ·repeat((first|apply hW.t|apply hW.f|(apply hW.q;exact rqc));conv=>lhs;whnf)
    rw[if_pos (.inr (.inl (kO h3)))];rfl
   ·repeat((first|apply hW.t|apply hW.f|(apply hW.q;exact rqc)|(refine hW.w (bR ?_) ?_;omega));conv=>lhs;whnf)
    apply hW.w (bS hE l[n].sent)
    conv=>lhs;whnf
    repeat((first|apply hW.t|apply hW.f|(apply hW.q;exact rqc));conv=>lhs;whnf)
    apply hW.b<;>intro h4<;>conv=>lhs;whnf
    ·repeat((first|apply hW.t|apply hW.f|(apply hW.q;exact rqc));conv=>lhs;whnf)
     rw[if_pos (.inr (.inr (kO h4)))];rfl
    ·rw[if_neg (by rw[iD h2,iD h3,iD h4];decide)]
     repeat((first|apply hW.t|apply hW.f|(apply hW.q;exact rqc)|(refine hW.w (bR ?_) ?_;omega));conv=>lhs;whnf)
     rfl
theorem qI {E:Env} (hE:Sys E) (l:List Kid) (id h:Int) (h0:l.length≤1099511627776):E 290 [sv (l.map Kid.row),iv id,iv h]=some ([iv (iV l id h)],[]):=by
 refine hE.run rfl rfl fun W hW=>?_
 conv=>lhs;whnf
 apply hW.w (lK hE l id h0)
 conv=>lhs;whnf
 repeat((first|apply hW.t|apply hW.f|(apply hW.q;exact rqc));conv=>lhs;whnf)
 apply hW.b<;>intro h1<;>conv=>lhs;whnf
 ·have h1:gF l id<0:=by simpa using h1
  rw[wO h1]
  repeat((first|apply hW.t|apply hW.f|(apply hW.q;exact rqc));conv=>lhs;whnf)
  rfl
 ·obtain⟨n,hn,hk⟩:=mM (l:=l) (id:=id) (by simpa using h1)
  rw[aAt hn hk,hk]
  repeat((first|apply hW.t|apply hW.f|(apply hW.q;exact rqc));conv=>lhs;whnf)
  apply hW.w (cL hE h)
  conv=>lhs;whnf
  repeat((first|apply hW.t|apply hW.f|(apply hW.q;exact rqc));conv=>lhs;whnf)
  apply hW.b<;>intro h2<;>conv=>lhs;whnf
  ·repeat((first|apply hW.t|apply hW.f|(apply hW.q;exact rqc));conv=>lhs;whnf)
   rw[if_pos (.inl (kO h2))];rfl
  ·repeat((first|apply hW.t|apply hW.f|(apply hW.q;exact rqc)|(refine hW.w (bR ?_) ?_;omega));conv=>lhs;whnf)
   apply hW.w (cL hE l[n].want)
   conv=>lhs;whnf
   repeat((first|apply hW.t|apply hW.f|(apply hW.q;exact rqc));conv=>lhs;whnf)
   apply hW.b<;>intro h3<;>conv=>lhs;whnf
   ·repeat((first|apply hW.t|apply hW.f|(apply hW.q;exact rqc));conv=>lhs;whnf)
    rw[if_pos (.inr (.inl (kO h3)))];rfl
   ·repeat((first|apply hW.t|apply hW.f|(apply hW.q;exact rqc)|(refine hW.w (bR ?_) ?_;omega));conv=>lhs;whnf)
    apply hW.w (cL hE l[n].sent)
    conv=>lhs;whnf
    repeat((first|apply hW.t|apply hW.f|(apply hW.q;exact rqc));conv=>lhs;whnf)
    apply hW.b<;>intro h4<;>conv=>lhs;whnf
    ·repeat((first|apply hW.t|apply hW.f|(apply hW.q;exact rqc));conv=>lhs;whnf)
     rw[if_pos (.inr (.inr (kO h4)))];rfl
    ·rw[if_neg (by rw[iD h2,iD h3,iD h4];decide)]
     repeat((first|apply hW.t|apply hW.f|(apply hW.q;exact rqc)|(refine hW.w (bR ?_) ?_;omega));conv=>lhs;whnf)
     rfl
theorem yW {E:Env} (hE:Sys E) (s:Int):E 432 [iv s]=some ([ov 1 (bN (dR s))],[]):=by
 refine hE.run rfl rfl fun W hW=>?_
 conv=>lhs;whnf
 refine hW.loop (σ:=Nat × List Int) (γ:=Nat) (fun i s=>(s.sl 4 (v1 (.t (.int .i64 i.1)))).bl ⟨50300,1, .own,bN i.2⟩) (fun i m=>i.1=m∧m≤40∧i.2.length≤m∧i.2++lR s m (40-m)=dR s) (fun m=>40-m) (fun _=>([ov 1 (bN (dR s))],[])) (0,[]) 0 ?_ ?_ ?_ ?_
 ·intro K
  conv=>lhs;whnf
  conv=>rhs;whnf
  try rfl
 ·exact⟨rfl,by omega,by simp,rfl⟩
 ·rintro kl ⟨m,acc⟩ _ ⟨rfl,hm,hl,hs⟩ ih
  simp only at hs hm hl
  conv=>lhs;whnf
  apply hW.b<;>intro h1<;>conv=>lhs;whnf
  ·have h1:m<40:=by
    have:(m:Int)<40:=by simpa using h1
    omega
   rw[show 40-m=(40-(m+1))+1 from by omega,lR]at hs
   repeat((first|apply hW.t|apply hW.f|(apply hW.q;exact rqc));conv=>lhs;whnf)
   apply hW.w (dA hE s m)
   conv=>lhs;whnf
   try(apply hW.q;exact rqc;conv=>lhs;whnf)
   apply hW.b<;>intro h3<;>conv=>lhs;whnf
   ·rw[if_pos h3]at hs
    repeat((first|apply hW.t|apply hW.f|(apply hW.q;exact rqc));conv=>lhs;whnf)
    refine hW.q (by exact⟨by decide,by intro e he;simp at he;subst he;rfl,by simp[bN];omega,by simp[bN];omega⟩) ?_
    conv=>lhs;whnf
    repeat((first|apply hW.t|apply hW.f|(apply hW.q;exact rqc));conv=>lhs;whnf)
    refine ih (m+1,acc++[(m:Int)]) (m+1) _ ?_ ⟨rfl,by omega,by simp;omega,by simpa using hs⟩ (by omega)
    intro K
    conv=>lhs;whnf
    conv=>rhs;whnf
    try rfl
    rw[show IntKind.i64.wrap ((m:Int)+1)=_ from aH (by omega)]
    simp[bN,qQ]
   ·rw[if_neg (by rw[h3];decide)]at hs
    repeat((first|apply hW.t|apply hW.f|(apply hW.q;exact rqc));conv=>lhs;whnf)
    refine ih (m+1,acc) (m+1) _ ?_ ⟨rfl,by omega,by simp only;omega,hs⟩ (by omega)
    intro K
    conv=>lhs;whnf
    conv=>rhs;whnf
    try rfl
    rw[show IntKind.i64.wrap ((m:Int)+1)=_ from aH (by omega)]
    try rfl
  ·have:m=40:=by
    have:¬ (m:Int)<40:=by simpa using h1
    omega
   subst this
   simp only[Nat.sub_self,lR,List.append_nil]at hs
   repeat((first|apply hW.t|apply hW.f|(apply hW.q;exact rqc));conv=>lhs;whnf)
   rw[← hs];rfl
 ·rfl
def dN (m:Man) (x:Bld) (i:Int):Bool:=dE m x&&dP x.hav i
def fN (m:Man) (x:Bld) (i:Int):aE:=if dN m x i=true then nE x.buf m.size i else[]
theorem aFY {a b:Nat} (ha:a<1099511627776) (hb:b<1099511627776) (h:yB a b=0) {i:Nat} (hi:a.testBit i=true):b.testBit i=true:=by
 unfold yB at h
 have e:(BitVec.ofInt IntKind.i64.bits (a:Int) &&& ~~~BitVec.ofInt IntKind.i64.bits (b:Int)).toNat≤a:=by
  rw[BitVec.toNat_and,BitVec.ofInt_natCast,BitVec.toNat_ofNat]
  refine Nat.le_trans Nat.and_le_left (Nat.mod_le _ _)
 rw[show IntKind.i64.wrap (((BitVec.ofInt IntKind.i64.bits (a:Int) &&& ~~~BitVec.ofInt IntKind.i64.bits (b:Int)).toNat:Nat):Int)=(((BitVec.ofInt IntKind.i64.bits (a:Int) &&& ~~~BitVec.ofInt IntKind.i64.bits (b:Int)).toNat:Nat):Int) from aG (by omega)]at h
 have h:(BitVec.ofInt IntKind.i64.bits (a:Int) &&& ~~~BitVec.ofInt IntKind.i64.bits (b:Int)).toNat=0:=by omega
 have hz:BitVec.ofInt IntKind.i64.bits (a:Int) &&& ~~~BitVec.ofInt IntKind.i64.bits (b:Int)=0#_:=by
  apply BitVec.eq_of_toNat_eq;rw[h];simp
 have hlt:i<40:=by
  by_cases h:i<40
  ·exact h
  ·exfalso
   have:a.testBit i=false:=Nat.testBit_lt_two_pow (Nat.lt_of_lt_of_le ha (show 2 ^ 40≤2 ^ i from Nat.pow_le_pow_right (by decide) (by omega)))
   rw[this]at hi;cases hi
 have hg:=congrArg (fun v=>v.getLsbD i) hz
 simp only[BitVec.getLsbD_and,BitVec.getLsbD_not,BitVec.getLsbD_zero,BitVec.ofInt_natCast,BitVec.getLsbD_ofNat]at hg
 have hb64:i<IntKind.i64.bits:=by simp only[IntKind.bits];omega
 simp[hb64,hi]at hg
 exact hg
theorem aEI {m:Man} {x:Bld} {i:Int} (h:dN m x i=true):∃ n:Nat,i=n∧n<m.sums.length∧n<40∧(x.buf.length:Int)=m.len∧bA m=true∧cT x.hav=true:=by
 unfold dN at h
 simp only[Bool.and_eq_true]at h
 obtain⟨h1,h2⟩:=h
 unfold dE at h1
 simp only[Bool.and_eq_true,decide_eq_true_eq]at h1
 obtain⟨h3,h4,h5,h6,h7⟩:=h1
 have h2':=h2
 unfold dP at h2'
 simp only[Bool.and_eq_true]at h2'
 have hi:=bT h2'.2.1
 have hc:=(jI h3).1
 obtain⟨n,rfl⟩:∃ n:Nat,i=n:=⟨i.toNat,by omega⟩
 have h4':=h4
 unfold cT at h4'
 have hv:=bT h4'
 obtain⟨v,hv'⟩:∃ v:Nat,x.hav=v:=⟨x.hav.toNat,by omega⟩
 have hap:cQ m=((2 ^ m.sums.length-1:Nat):Int)∧(2 ^ m.sums.length-1:Nat)<1099511627776:=by
  unfold cQ jW
  rw[if_pos (by simp only[bM,Bool.and_eq_true,decide_eq_true_eq];omega)]
  generalize hn:m.sums.length=k at hc
  have hp:2 ^ k≤2 ^ 40:=Nat.pow_le_pow_right (by decide) (by omega)
  have h40:(2:Nat) ^ 40=1099511627776:=by decide
  have h1:1≤2 ^ k:=Nat.one_le_two_pow
  rw[show min ((k:Int).toNat) IntKind.i64.bits=k from by simp only[IntKind.bits];omega,show(1:Int)*2 ^ k=((2 ^ k:Nat):Int) from by push_cast;omega]
  generalize 2 ^ k=p at hp h1 ⊢
  rw[show IntKind.i64.wrap (p:Int)=p from aG (by omega),show IntKind.i64.wrap ((p:Int)-1)=(p:Int)-1 from aG (by omega)]
  omega
 rw[hap.1,hv']at h5
 rw[hv',aCy (by omega) (by omega)]at h2
 have:=aFY (by omega) hap.2 h5 h2
 rw[Nat.testBit_two_pow_sub_one]at this
 exact⟨n,rfl,by simpa using this,by omega,h6,h3,h4⟩
theorem aHT {m:Man} {x:Bld} {n:Nat} (h:(x.buf.length:Int)=m.len):nE x.buf m.size n=(x.buf.drop (bF m.size m.len n).toNat).take (aU m.size m.len n).toNat:=by unfold nE;rw[h]
theorem nN {E:Env} (hE:Sys E) (m:Man) (x:Bld) (i:Int) (hm:m.sums.length≤1048576) (hx:x.buf.length≤1048576):E 420 [gv (m.cs aP),gv (x.cs aP),iv i]=some ([ov 1 (bys (fN m x i)),bv (dN m x i)],[]):=by
 have a1:=nJ hE m x hm hx
 have a2:=dA hE x.hav i
 unfold fN
 cases h:dN m x i
 ·have h':=h
  unfold dN at h'
  rw[Bool.and_eq_false_iff]at h'
  cases h1:dE m x
  ·rw[h1]at a1
   refine hE.run rfl rfl fun W hW=>?_
   conv=>lhs;whnf
   repeat'((first|apply hW.t|apply hW.f|(apply hW.q;exact rqc)|apply hW.w (a1)|(apply hW.b<;>intro h))<;>conv=>lhs;whnf)
   rfl
  ·have h2:dP x.hav i=false:=by rcases h' with h'|h';(rw[h1]at h';cases h');exact h'
   rw[h1]at a1
   rw[h2]at a2
   refine hE.run rfl rfl fun W hW=>?_
   conv=>lhs;whnf
   repeat'((first|apply hW.t|apply hW.f|(apply hW.q;exact rqc)|apply hW.w (a1)|apply hW.w (a2)|(apply hW.b<;>intro h))<;>conv=>lhs;whnf)
   rfl
 ·obtain⟨n,rfl,h1,h2,h3,h4,h5⟩:=aEI h
  have h':=h
  unfold dN at h'
  simp only[Bool.and_eq_true]at h'
  rw[h'.1]at a1
  rw[h'.2]at a2
  have hs:=jX (size:=m.size) (n:=m.len) (i:=n)
  obtain⟨a,ha⟩:∃ a:Nat,bF m.size m.len n=a:=⟨(bF m.size m.len n).toNat,by omega⟩
  obtain⟨w,hw⟩:∃ w:Nat,aU m.size m.len n=w:=⟨(aU m.size m.len n).toNat,by omega⟩
  have a3:=dK hE m.size m.len n
  rw[ha,hw]at a3
  have hk:=aHT (m:=m) (x:=x) (n:=n) h3
  rw[ha,hw,Int.toNat_natCast,Int.toNat_natCast]at hk
  refine hE.run rfl rfl fun W hW=>?_
  conv=>lhs;whnf
  apply hW.w (a1)
  conv=>lhs;whnf
  repeat((first|apply hW.t|apply hW.f|(apply hW.q;exact rqc));conv=>lhs;whnf)
  apply hW.w (a2)
  conv=>lhs;whnf
  repeat((first|apply hW.t|apply hW.f|(apply hW.q;exact rqc));conv=>lhs;whnf)
  apply hW.w (a3)
  conv=>lhs;whnf
  repeat((first|apply hW.t|apply hW.f|(apply hW.q;exact rqc));conv=>lhs;whnf)
  rw[show IntKind.i64.wrap ((a:Int)+(w:Int))=((a+w:Nat):Int) from(aG (by omega)).trans (by omega)]
  repeat((first|apply hW.t|apply hW.f|(apply hW.q;exact rqc));conv=>lhs;whnf)
  refine hW.q (by exact⟨by omega,by rw[aF];omega,bB _⟩) ?_
  conv=>lhs;whnf
  repeat((first|apply hW.t|apply hW.f|(apply hW.q;exact rqc));conv=>lhs;whnf)
  rw[show((a:Int).toNat)=a from by omega,show(((a+w:Nat):Int)).toNat-a=w from by omega,fF]
  refine hW.q (by exact⟨by decide,bB _,by simp[bys];omega,by simp[bys];omega⟩) ?_
  conv=>lhs;whnf
  apply hW.bt (dB _)
  conv=>lhs;whnf
  repeat((first|apply hW.t|apply hW.f|(apply hW.q;exact rqc));conv=>lhs;whnf)
  rw[hk]
  rfl
theorem nO {E:Env} (hE:Sys E) (m:Man) (x:Bld) (i:Int) (hm:m.sums.length≤1048576) (hx:x.buf.length≤1048576):E 425 [gv (m.cs aP),gv (x.cs aP),iv i]=some ([ov 1 (bys (fN m x i)),bv (dN m x i)],[]):=by
 have a1:=nM hE m x hm hx
 have a2:=dH hE x.hav i
 unfold fN
 cases h:dN m x i
 ·have h':=h
  unfold dN at h'
  rw[Bool.and_eq_false_iff]at h'
  cases h1:dE m x
  ·rw[h1]at a1
   refine hE.run rfl rfl fun W hW=>?_
   conv=>lhs;whnf
   repeat'((first|apply hW.t|apply hW.f|(apply hW.q;exact rqc)|apply hW.w (a1)|(apply hW.b<;>intro h))<;>conv=>lhs;whnf)
   rfl
  ·have h2:dP x.hav i=false:=by rcases h' with h'|h';(rw[h1]at h';cases h');exact h'
   rw[h1]at a1
   rw[h2]at a2
   refine hE.run rfl rfl fun W hW=>?_
   conv=>lhs;whnf
   repeat'((first|apply hW.t|apply hW.f|(apply hW.q;exact rqc)|apply hW.w (a1)|apply hW.w (a2)|(apply hW.b<;>intro h))<;>conv=>lhs;whnf)
   rfl
 ·obtain⟨n,rfl,h1,h2,h3,h4,h5⟩:=aEI h
  have h':=h
  unfold dN at h'
  simp only[Bool.and_eq_true]at h'
  rw[h'.1]at a1
  rw[h'.2]at a2
  have hs:=jX (size:=m.size) (n:=m.len) (i:=n)
  obtain⟨a,ha⟩:∃ a:Nat,bF m.size m.len n=a:=⟨(bF m.size m.len n).toNat,by omega⟩
  obtain⟨w,hw⟩:∃ w:Nat,aU m.size m.len n=w:=⟨(aU m.size m.len n).toNat,by omega⟩
  have hk:=aHT (m:=m) (x:=x) (n:=n) h3
  rw[ha,hw,Int.toNat_natCast,Int.toNat_natCast]at hk
  refine hE.run rfl rfl fun W hW=>?_
  conv=>lhs;whnf
  apply hW.w (a1)
  conv=>lhs;whnf
  repeat((first|apply hW.t|apply hW.f|(apply hW.q;exact rqc));conv=>lhs;whnf)
  apply hW.w (a2)
  conv=>lhs;whnf
  repeat((first|apply hW.t|apply hW.f|(apply hW.q;exact rqc));conv=>lhs;whnf)
  apply hW.w (lZ hE m x n a w ha hw (by omega) hx)
  conv=>lhs;whnf
  repeat((first|apply hW.t|apply hW.f|(apply hW.q;exact rqc));conv=>lhs;whnf)
  rw[fF,← hk]
  apply hW.w (cJ hE (nE x.buf m.size n) (by have:=mO x.buf m.size n;omega))
  conv=>lhs;whnf
  repeat((first|apply hW.t|apply hW.f|(apply hW.q;exact rqc));conv=>lhs;whnf)
  rfl
def gC (gen i:Int) (b:aE):Msg:=⟨3,gen,⟨0,0,0,[]⟩,0,0,i,b⟩
theorem nP {E:Env} (hE:Sys E) (gen i:Int) (b:aE) (hb:b.length≤1073741824):E 421 [iv gen,iv i,sv (bys b)]=some ([gv ((gC gen i b).cs dF)],[]):=by
 refine hE.run rfl rfl fun W hW=>?_
 conv=>lhs;whnf
 repeat((first|apply hW.t|apply hW.f|(apply hW.q;exact rqc));conv=>lhs;whnf)
 refine hW.q (by exact⟨by decide,bB _,by simp[bys];omega,by simp[bys];omega⟩) ?_
 conv=>lhs;whnf
 apply hW.bt (dB _)
 conv=>lhs;whnf
 repeat((first|apply hW.t|apply hW.f|(apply hW.q;exact rqc));conv=>lhs;whnf)
 rfl
theorem nQ {E:Env} (hE:Sys E) (gen i:Int) (b:aE) (hb:b.length≤1073741824):E 426 [iv gen,iv i,sv (bys b)]=some ([gv ((gC gen i b).cs dF)],[]):=by
 refine hE.run rfl rfl fun W hW=>?_
 conv=>lhs;whnf
 apply hW.w (cJ hE b (by omega))
 conv=>lhs;whnf
 repeat((first|apply hW.t|apply hW.f|(apply hW.q;exact rqc));conv=>lhs;whnf)
 rfl
def aAu (n:Node) (k id i:Int):List Pkt:=if dN n.man n.bld i=true then[eL k id (gC n.man.gen i (fN n.man n.bld i))] else[]
def qJ (n:Node) (k id:Int) (l:List Int):List Pkt:=l.flatMap (aAu n k id)
def fI (n:Node) (id:Int):Int:=iV n.kids id n.bld.hav
def cV (n:Node) (k id:Int):Actn:=⟨{ n with kids:=cZ n.kids id (fI n id) },qJ n k id (dR (fI n id))⟩
theorem nR {E:Env} (hE:Sys E) (n:Node):E 71 [gv (n.cs aP)]=some ([iv (aHB n)],[]):=by
 refine hE.run rfl rfl fun W hW=>?_
 conv=>lhs;whnf
 rfl
theorem nS {E:Env} (hE:Sys E) (n:Node):E 72 [gv (n.cs aP)]=some ([iv (aHB n)],[]):=by
 refine hE.run rfl rfl fun W hW=>?_
 conv=>lhs;whnf
 rfl
theorem eR (m:Man) (x:Bld) (i:Int):(fN m x i).length≤x.buf.length:=by
 unfold fN
 split
 ·exact mO x.buf m.size i
 ·exact Nat.zero_le _
theorem aFZ (n:Node) (k id i:Int):(aAu n k id i).length≤1:=by
 unfold aAu;split<;>simp
theorem aHU (n:Node) (k id:Int) (l:List Int):(qJ n k id l).length≤l.length:=by
 unfold qJ
 induction l with
 |nil=>simp
 |cons a r ih =>
  have:=aFZ n k id a
  simp only[List.flatMap_cons,List.length_append,List.length_cons];omega
theorem aCC {o:Bool} (l:List Pkt):∀ e∈l.map (Pkt.row o),e.length=3:=aMG fun _=>rfl
theorem tQ {E:Env} (hE:Sys E) (n:Node) (k id:Int) (hn:n.limk):E 430 [gv (n.cs aP),iv k,iv id]=some ([gv ((cV n k id).cs dF true)],[]):=by
 have hp:=lS (s:=fI n id)
 have hrl:(bN (dR (fI n id))).length=(dR (fI n id)).length:=List.length_map _
 have hrk:(n.kids.map Kid.row).length=n.kids.length:=List.length_map _
 refine hE.run rfl rfl fun W hW=>?_
 conv=>lhs;whnf
 apply hW.w (cM hE n hn.l8)
 conv=>lhs;whnf
 repeat((first|apply hW.t|apply hW.f|(apply hW.q;exact rqc));conv=>lhs;whnf)
 apply hW.w (nR hE n)
 conv=>lhs;whnf
 repeat((first|apply hW.t|apply hW.f|(apply hW.q;exact rqc));conv=>lhs;whnf)
 apply hW.w (qH hE n.kids id n.bld.hav (Nat.le_trans hn.2.2 (by decide)))
 conv=>lhs;whnf
 repeat((first|apply hW.t|apply hW.f|(apply hW.q;exact rqc));conv=>lhs;whnf)
 apply hW.w (yW hE (fI n id))
 conv=>lhs;whnf
 repeat((first|apply hW.t|apply hW.f|(apply hW.q;exact rqc));conv=>lhs;whnf)
 generalize hP:dR (fI n id)=l at hp hrl
 refine hW.loop (σ:=Nat × List Pkt) (γ:=Nat) (fun i s=>(s.sl 10 (v1 (.t (.int .i64 i.1)))).bl ⟨50712,3, .own,i.2.map (Pkt.row true)⟩) (fun i m=>i.1=m∧m≤l.length∧i.2.length≤m∧i.2++qJ n k id (l.drop m)=qJ n k id l) (fun m=>l.length-m) (fun _=>([gv ((cV n k id).cs dF true)],[])) (0,[]) 0 ?_ ?_ ?_ ?_
 ·intro K
  conv=>lhs;whnf
  conv=>rhs;whnf
  try rfl
 ·exact⟨rfl,by omega,by simp,rfl⟩
 ·rintro kl ⟨m,acc⟩ _ ⟨rfl,hm,hl,hs⟩ ih
  simp only at hs hm hl
  conv=>lhs;whnf
  apply hW.b<;>intro h1<;>conv=>lhs;whnf
  ·have h1:m<l.length:=by simpa[hrl] using h1
   rw[List.drop_eq_getElem_cons h1,qJ,List.flatMap_cons,aAu]at hs
   repeat((first|apply hW.t|apply hW.f|(apply hW.q;exact rqc)|(refine hW.w (bR ?_) ?_;omega));conv=>lhs;whnf)
   apply hW.w (nN hE n.man n.bld l[m] hn.1 hn.2.1)
   conv=>lhs;whnf
   repeat((first|apply hW.t|apply hW.f|(apply hW.q;exact rqc));conv=>lhs;whnf)
   apply hW.b<;>intro h3<;>conv=>lhs;whnf
   ·rw[if_pos h3]at hs
    repeat((first|apply hW.t|apply hW.f|(apply hW.q;exact rqc)|(refine hW.w (bR ?_) ?_;omega));conv=>lhs;whnf)
    apply hW.w (nP hE n.man.gen l[m] (fN n.man n.bld l[m]) (Nat.le_trans (eR _ _ _) (Nat.le_trans hn.2.1 (by decide))))
    conv=>lhs;whnf
    repeat((first|apply hW.t|apply hW.f|(apply hW.q;exact rqc));conv=>lhs;whnf)
    apply hW.w (dX hE k id (gC n.man.gen l[m] (fN n.man n.bld l[m])) ⟨Nat.zero_le _,Nat.le_trans (eR _ _ _) hn.2.1⟩)
    conv=>lhs;whnf
    repeat((first|apply hW.t|apply hW.f|(apply hW.q;exact rqc));conv=>lhs;whnf)
    refine hW.q (by exact⟨by decide,by intro e he;simp at he;subst he;rfl,by simp;omega,by simp;omega⟩) ?_
    conv=>lhs;whnf
    repeat((first|apply hW.t|apply hW.f|(apply hW.q;exact rqc));conv=>lhs;whnf)
    refine ih (m+1,acc++[eL k id (gC n.man.gen l[m] (fN n.man n.bld l[m]))]) (m+1) _ ?_ ⟨rfl,by omega,by simp;omega,by rw[List.append_assoc];exact hs⟩ (by omega)
    intro K
    conv=>lhs;whnf
    conv=>rhs;whnf
    try rfl
    rw[show IntKind.i64.wrap ((m:Int)+1)=_ from aH (by omega)]
    rw[List.map_append]
    rfl
   ·rw[if_neg (by rw[h3];decide)]at hs
    repeat((first|apply hW.t|apply hW.f|(apply hW.q;exact rqc));conv=>lhs;whnf)
    refine ih (m+1,acc) (m+1) _ ?_ ⟨rfl,by omega,by simp only;omega,hs⟩ (by omega)
    intro K
    conv=>lhs;whnf
    conv=>rhs;whnf
    try rfl
    rw[show IntKind.i64.wrap ((m:Int)+1)=_ from aH (by omega)]
    try rfl
  ·have:m=l.length:=by simp[hrl]at h1;omega
   subst this
   simp only[List.drop_length,qJ,List.flatMap_nil,List.append_nil]at hs
   repeat((first|apply hW.t|apply hW.f|(apply hW.q;exact rqc));conv=>lhs;whnf)
   apply hW.w (lM hE n.kids id (fI n id) hn.2.2)
   conv=>lhs;whnf
   repeat((first|apply hW.t|apply hW.f|(apply hW.q;exact rqc));conv=>lhs;whnf)
   unfold cV
   rw[hP,qJ,← hs]
   rfl
 ·rfl
theorem tT {E:Env} (hE:Sys E) (n:Node) (k id:Int) (hn:n.limk):E 431 [gv (n.cs aP),iv k,iv id]=some ([gv ((cV n k id).cs dF true)],[]):=by
 have hp:=lS (s:=fI n id)
 have hrl:(bN (dR (fI n id))).length=(dR (fI n id)).length:=List.length_map _
 have hrk:(n.kids.map Kid.row).length=n.kids.length:=List.length_map _
 refine hE.run rfl rfl fun W hW=>?_
 conv=>lhs;whnf
 apply hW.w (cR hE n hn.l8)
 conv=>lhs;whnf
 repeat((first|apply hW.t|apply hW.f|(apply hW.q;exact rqc));conv=>lhs;whnf)
 apply hW.w (nS hE n)
 conv=>lhs;whnf
 repeat((first|apply hW.t|apply hW.f|(apply hW.q;exact rqc));conv=>lhs;whnf)
 apply hW.w (qI hE n.kids id n.bld.hav (Nat.le_trans hn.2.2 (by decide)))
 conv=>lhs;whnf
 repeat((first|apply hW.t|apply hW.f|(apply hW.q;exact rqc));conv=>lhs;whnf)
 apply hW.w (yE hE (fI n id))
 conv=>lhs;whnf
 repeat((first|apply hW.t|apply hW.f|(apply hW.q;exact rqc));conv=>lhs;whnf)
 rw[hrl]
 generalize hP:dR (fI n id)=l at hp hrl
 refine hW.loop (σ:=Nat × List Pkt) (γ:=Nat) (fun i s=>(s.sl 25 (v1 (.t (.int .i64 i.1)))).bl ⟨50712,3, .own,i.2.map (Pkt.row true)⟩) (fun i m=>i.1=m∧m≤l.length∧i.2.length≤m∧i.2++qJ n k id (l.drop m)=qJ n k id l) (fun m=>l.length-m) (fun _=>([gv ((cV n k id).cs dF true)],[])) (0,[]) 0 ?_ ?_ ?_ ?_
 ·intro K
  conv=>lhs;whnf
  conv=>rhs;whnf
  try rfl
 ·exact⟨rfl,by omega,by simp,rfl⟩
 ·rintro kl ⟨m,acc⟩ _ ⟨rfl,hm,hl,hs⟩ ih
  simp only at hs hm hl
  conv=>lhs;whnf
  apply hW.b<;>intro h1<;>conv=>lhs;whnf
  ·have h1:m<l.length:=by simpa using h1
   rw[List.drop_eq_getElem_cons h1,qJ,List.flatMap_cons,aAu]at hs
   repeat((first|apply hW.t|apply hW.f|(apply hW.q;exact rqc)|(refine hW.w (bR ?_) ?_;omega));conv=>lhs;whnf)
   apply hW.w (nO hE n.man n.bld l[m] hn.1 hn.2.1)
   conv=>lhs;whnf
   repeat((first|apply hW.t|apply hW.f|(apply hW.q;exact rqc));conv=>lhs;whnf)
   apply hW.b<;>intro h3<;>conv=>lhs;whnf
   ·rw[if_pos h3]at hs
    repeat((first|apply hW.t|apply hW.f|(apply hW.q;exact rqc)|(refine hW.w (bR ?_) ?_;omega));conv=>lhs;whnf)
    apply hW.w (nQ hE n.man.gen l[m] (fN n.man n.bld l[m]) (Nat.le_trans (eR _ _ _) (Nat.le_trans hn.2.1 (by decide))))
    conv=>lhs;whnf
    repeat((first|apply hW.t|apply hW.f|(apply hW.q;exact rqc));conv=>lhs;whnf)
    apply hW.w (dY hE k id (gC n.man.gen l[m] (fN n.man n.bld l[m])) ⟨Nat.zero_le _,Nat.le_trans (eR _ _ _) hn.2.1⟩)
    conv=>lhs;whnf
    repeat((first|apply hW.t|apply hW.f|(apply hW.q;exact rqc));conv=>lhs;whnf)
    refine hW.q (by exact⟨by decide,by intro e he;simp at he;subst he;rfl,by simp;omega,by simp;omega⟩) ?_
    conv=>lhs;whnf
    repeat((first|apply hW.t|apply hW.f|(apply hW.q;exact rqc));conv=>lhs;whnf)
    refine ih (m+1,acc++[eL k id (gC n.man.gen l[m] (fN n.man n.bld l[m]))]) (m+1) _ ?_ ⟨rfl,by omega,by simp;omega,by rw[List.append_assoc];exact hs⟩ (by omega)
    intro K
    conv=>lhs;whnf
    conv=>rhs;whnf
    try rfl
    rw[show IntKind.i64.wrap ((m:Int)+1)=_ from aH (by omega)]
    rw[List.map_append]
    rfl
   ·rw[if_neg (by rw[h3];decide)]at hs
    repeat((first|apply hW.t|apply hW.f|(apply hW.q;exact rqc));conv=>lhs;whnf)
    refine ih (m+1,acc) (m+1) _ ?_ ⟨rfl,by omega,by simp only;omega,hs⟩ (by omega)
    intro K
    conv=>lhs;whnf
    conv=>rhs;whnf
    try rfl
    rw[show IntKind.i64.wrap ((m:Int)+1)=_ from aH (by omega)]
    try rfl
  ·have:m=l.length:=by simp at h1;omega
   subst this
   simp only[List.drop_length,qJ,List.flatMap_nil,List.append_nil]at hs
   repeat((first|apply hW.t|apply hW.f|(apply hW.q;exact rqc));conv=>lhs;whnf)
   apply hW.w (lN hE n.kids id (fI n id) hn.2.2)
   conv=>lhs;whnf
   repeat((first|apply hW.t|apply hW.f|(apply hW.q;exact rqc));conv=>lhs;whnf)
   unfold cV
   rw[hP,qJ,← hs]
   rfl
 ·rfl
theorem aEJ {b:aE}:∀ {s:Nat},s*256 ^ b.length≤nD b s:=by
 induction b with
 |nil=>intro s;simp[nD]
 |cons c r ih =>
  intro s
  simp only[nD,List.length_cons]
  refine Nat.le_trans ?_ ih
  rw[Nat.pow_succ,Nat.mul_comm (256 ^ r.length) 256,← Nat.mul_assoc]
  exact Nat.mul_le_mul_right _ (by omega)
theorem aCD {a b:aE} (h:nD a 1=nD b 1):a.length=b.length:=by
 have h1:=aEJ (b:=a) (s:=1)
 have h2:=aEJ (b:=b) (s:=1)
 have h3:=aDw (b:=a) (s:=1)
 have h4:=aDw (b:=b) (s:=1)
 rcases Nat.lt_trichotomy a.length b.length with hl|hl|hl
 ·exfalso
  have:256 ^ (a.length+1)≤256 ^ b.length:=Nat.pow_le_pow_right (by decide) hl
  rw[Nat.pow_succ]at this;omega
 ·exact hl
 ·exfalso
  have:256 ^ (b.length+1)≤256 ^ a.length:=Nat.pow_le_pow_right (by decide) hl
  rw[Nat.pow_succ]at this;omega
theorem aMo {m:Man} {l:List Sum}:∀ {i n:Nat} (h:aEF m i l=true) (hn:n<l.length),aCw m (i+n) l[n]=true:=by
 induction l with
 |nil=>intro i n _ hn;cases hn
 |cons x r ih =>
  intro i n h hn
  simp only[aEF,Bool.and_eq_true]at h
  cases n with
  |zero=>exact h.1
  |succ n =>
   rw[show i+(n+1)=(i+1)+n from by omega]
   exact ih h.2 (by simpa using hn)
theorem aKe {m:Man} (h:bA m=true) {n:Nat} (hn:n<m.sums.length):aCw m n m.sums[n]=true:=by
 unfold bA at h
 split at h
 ·have h3:m.sums=[]:=by simp[bW]at h;exact h.2.2.2
  rw[h3]at hn;cases hn
 ·simp only[Bool.and_eq_true]at h
  have:=aMo h.2.2.2 hn
  rwa [Nat.zero_add]at this
theorem aHV {m:Man} (h:bA m=true) {n:Nat} (hn:n<m.sums.length) {b:aE} (hb:bH b=m.sums[n]):(b.length:Int)=aU m.size m.len n∧b.length≤6:=by
 have ha:=aKe h hn
 simp only[aCw,Bool.and_eq_true,decide_eq_true_eq]at ha
 obtain⟨h1,h2,h3⟩:=ha
 have hl:=hU m.sums[n].s
 have hb6:b.length≤6:=by
  rcases Nat.lt_or_ge 6 b.length with h6|h6
  ·exfalso
   unfold bH at hb
   rw[if_pos (by omega)]at hb
   rw[← hb]at h1
   exact absurd h1 (by decide)
  ·exact h6
 have e:=h3.trans hb.symm
 unfold bH at e
 rw[if_neg (by omega),if_neg (by omega)]at e
 have e:=congrArg Sum.s e
 simp only at e
 have e:nD (bQ m.sums[n].s) 1=nD b 1:=by omega
 have:=aCD e
 omega
theorem aHW {m:Man} {x:Bld} (h:dE m x=true):bA m=true∧cT x.hav=true∧(x.buf.length:Int)=m.len:=by
 unfold dE at h
 simp only[Bool.and_eq_true,decide_eq_true_eq]at h
 exact⟨h.1,h.2.1,h.2.2.2.1⟩
def mA (m:Man) (x:Bld) (i:Int) (b:aE):Bool:=dE m x&&(bM i 0 ((m.sums.length:Int)-1)&&(!dP x.hav i&&decide (bH b=m.sums.getD i.toNat ⟨0,0⟩)))
def dZ (m:Man) (x:Bld) (i:Int) (b:aE):Bld:=if mA m x i b=true then aF5 m x i.toNat b else x
theorem aHX {m:Man} {x:Bld} {i:Int} {b:aE} (h:mA m x i b=true):∃ n:Nat,∃ hn:n<m.sums.length,i=n∧n<40∧dE m x=true∧bA m=true∧cT x.hav=true∧dP x.hav n=false∧bH b=m.sums[n]∧b.length≤6∧aU m.size m.len n=b.length∧0≤bF m.size m.len n∧bF m.size m.len n+b.length≤x.buf.length:=by
 unfold mA at h
 simp only[Bool.and_eq_true,decide_eq_true_eq,Bool.not_eq_true']at h
 obtain⟨h1,h2,h3,h4⟩:=h
 have h2:=bT h2
 obtain⟨n,rfl⟩:∃ n:Nat,i=n:=⟨i.toNat,by omega⟩
 have hn:n<m.sums.length:=by omega
 obtain⟨hm,hs,hl⟩:=aHW h1
 have hc:=jI hm
 rw[Int.toNat_natCast,List.getD_eq_getElem?_getD,List.getElem?_eq_getElem hn,Option.getD_some]at h4
 have hp:=aHV hm hn h4
 have hsp:=jX (size:=m.size) (n:=m.len) (i:=n)
 refine⟨n,hn,rfl,by omega,h1,hm,hs,h3,h4,hp.2,hp.1.symm,by omega,by omega⟩
theorem aK4 {m:Man} {x:Bld} {i:Int} {b:aE} (hb:dE m x=true) (h:mA m x i b=false):bM i 0 ((m.sums.length:Int)-1)=false∨∃ n:Nat,∃ hn:n<m.sums.length,i=n∧(dP x.hav n=true∨dP x.hav n=false∧¬ bH b=m.sums[n]):=by
 unfold mA at h
 rw[hb,Bool.true_and]at h
 cases h2:bM i 0 ((m.sums.length:Int)-1)
 ·exact .inl rfl
 ·right
  rw[h2,Bool.true_and]at h
  have h2:=bT h2
  obtain⟨n,rfl⟩:∃ n:Nat,i=n:=⟨i.toNat,by omega⟩
  have hn:n<m.sums.length:=by omega
  refine⟨n,hn,rfl,?_⟩
  rw[Int.toNat_natCast,List.getD_eq_getElem?_getD,List.getElem?_eq_getElem hn,Option.getD_some]at h
  cases h3:dP x.hav n
  ·rw[h3]at h
   right
   exact⟨rfl,by simpa using h⟩
  ·exact .inl rfl
theorem aBl {E:Env} (hE:Sys E) (m:Man) (x:Bld) (i:Int) (b:aE) (hm:m.sums.length≤1048576) (hb:b.length≤1048576) (h:dE m x=true) (hf:mA m x i b=false):E 369 [gv (m.cs aP), .pt true (x.cs dF),iv i,sv (bys b)]=some ([bv false],x.cs dF):=by
 have hrl:(m.sums.map Sum.row).length=m.sums.length:=List.length_map _
 have a1:=bG hE i 0 ((m.sums.length:Int)-1)
 have a2:=dA hE x.hav i
 have a3:=dV hE b (by omega)
 rcases aK4 h hf with h1|⟨n,hn,rfl,h2|⟨h2,h3⟩⟩
 ·rw[h1]at a1
  refine hE.run rfl rfl fun W hW=>?_
  conv=>lhs;whnf
  repeat((first|apply hW.t|apply hW.f|(apply hW.q;exact rqc));conv=>lhs;whnf)
  rw[hrl,show IntKind.i64.wrap ((m.sums.length:Int)-1)=(m.sums.length:Int)-1 from aG (by omega)]
  apply hW.w (a1)
  conv=>lhs;whnf
  repeat((first|apply hW.t|apply hW.f|(apply hW.q;exact rqc));conv=>lhs;whnf)
  rfl
 ·rw[show bM n 0 ((m.sums.length:Int)-1)=true from by simp[bM];omega]at a1
  rw[h2]at a2
  refine hE.run rfl rfl fun W hW=>?_
  conv=>lhs;whnf
  repeat((first|apply hW.t|apply hW.f|(apply hW.q;exact rqc));conv=>lhs;whnf)
  rw[hrl,show IntKind.i64.wrap ((m.sums.length:Int)-1)=(m.sums.length:Int)-1 from aG (by omega)]
  apply hW.w (a1)
  conv=>lhs;whnf
  repeat((first|apply hW.t|apply hW.f|(apply hW.q;exact rqc));conv=>lhs;whnf)
  apply hW.w (a2)
  conv=>lhs;whnf
  repeat((first|apply hW.t|apply hW.f|(apply hW.q;exact rqc));conv=>lhs;whnf)
  rfl
 ·rw[show bM n 0 ((m.sums.length:Int)-1)=true from by simp[bM];omega]at a1
  rw[h2]at a2
  refine hE.run rfl rfl fun W hW=>?_
  conv=>lhs;whnf
  repeat((first|apply hW.t|apply hW.f|(apply hW.q;exact rqc));conv=>lhs;whnf)
  rw[hrl,show IntKind.i64.wrap ((m.sums.length:Int)-1)=(m.sums.length:Int)-1 from aG (by omega)]
  apply hW.w (a1)
  conv=>lhs;whnf
  repeat((first|apply hW.t|apply hW.f|(apply hW.q;exact rqc));conv=>lhs;whnf)
  apply hW.w (a2)
  conv=>lhs;whnf
  repeat((first|apply hW.t|apply hW.f|(apply hW.q;exact rqc));conv=>lhs;whnf)
  repeat((first|apply hW.t|apply hW.f|(apply hW.q;exact rqc)|(refine hW.w (bR ?_) ?_;omega));conv=>lhs;whnf)
  apply hW.w (a3)
  conv=>lhs;whnf
  repeat((first|apply hW.t|apply hW.f|(apply hW.q;exact rqc));conv=>lhs;whnf)
  apply hW.bt (by(revert h3;generalize bH b=y;generalize m.sums[n]=z;cases y;cases z;simp;exact fun h=>Decidable.or_iff_not_imp_left.mpr fun h'=>h (Decidable.not_not.mp h')))
  conv=>lhs;whnf
  repeat((first|apply hW.t|apply hW.f|(apply hW.q;exact rqc));conv=>lhs;whnf)
  rfl
theorem wQ {E:Env} (hE:Sys E) (m:Man) (x:Bld) (i:Int) (b:aE) (hm:m.sums.length≤1048576) (hx:x.buf.length≤1048576) (hb:b.length≤1048576):E 418 [gv (m.cs aP),gv (x.cs aP),iv i,sv (bys b)]=some ([gv ((dZ m x i b).cs dF),bv (mA m x i b)],[]):=by
 have a0:=pX hE x (by omega)
 have a1:=nJ hE m x hm hx
 unfold dZ
 cases h1:dE m x
 ·rw[show mA m x i b=false from by unfold mA;rw[h1];rfl]
  rw[h1]at a1
  refine hE.run rfl rfl fun W hW=>?_
  conv=>lhs;whnf
  repeat'((first|apply hW.t|apply hW.f|(apply hW.q;exact rqc)|apply hW.w (a0)|apply hW.w (a1)|(apply hW.b<;>intro h))<;>conv=>lhs;whnf)
  rfl
 ·rw[h1]at a1
  cases h2:mA m x i b
  ·have a2:=aBl hE m x i b hm hb h1 h2
   refine hE.run rfl rfl fun W hW=>?_
   conv=>lhs;whnf
   repeat'((first|apply hW.t|apply hW.f|(apply hW.q;exact rqc)|apply hW.w (a0)|apply hW.w (a1)|apply hW.w (a2)|(apply hW.b<;>intro h))<;>conv=>lhs;whnf)
   rfl
  ·obtain⟨n,hn,rfl,h40,_,_,hs,hin,hsum,h6,hsp,hat,hfit⟩:=aHX h2
   have a2:=sY hE m x n b hm hn h40 hs hin hsum h6 hat hfit hx
   refine hE.run rfl rfl fun W hW=>?_
   conv=>lhs;whnf
   repeat'((first|apply hW.t|apply hW.f|(apply hW.q;exact rqc)|apply hW.w (a0)|apply hW.w (a1)|apply hW.w (a2)|(apply hW.b<;>intro h))<;>conv=>lhs;whnf)
   rfl
theorem wS {E:Env} (hE:Sys E) (m:Man) (x:Bld) (i:Int) (b:aE) (hm:m.sums.length≤1048576) (hx:x.buf.length≤1048576) (hb:b.length≤1048576):E 423 [gv (m.cs aP),gv (x.cs aP),iv i,sv (bys b)]=some ([gv ((dZ m x i b).cs dF),bv (mA m x i b)],[]):=by
 have hrl:(m.sums.map Sum.row).length=m.sums.length:=List.length_map _
 have a0:=kH hE x (by omega)
 have a1:=nM hE m x hm hx
 have a2:=bJ hE i 0 ((m.sums.length:Int)-1)
 have a3:=dH hE x.hav i
 have a4:=gH hE b (by omega)
 have hw:IntKind.i64.wrap ((m.sums.length:Int)-1)=(m.sums.length:Int)-1:=aG (by omega)
 unfold dZ
 cases h1:dE m x
 ·rw[show mA m x i b=false from by unfold mA;rw[h1];rfl]
  rw[h1]at a1
  refine hE.run rfl rfl fun W hW=>?_
  conv=>lhs;whnf
  repeat'((first|apply hW.t|apply hW.f|(apply hW.q;exact rqc)|apply hW.w (a0)|apply hW.w (a1)|(apply hW.b<;>intro h))<;>conv=>lhs;whnf)
  rfl
 ·rw[h1]at a1
  cases h2:mA m x i b
  ·rcases aK4 h1 h2 with h3|⟨n,hn,rfl,h3|⟨h3,h4⟩⟩
   ·rw[h3]at a2
    refine hE.run rfl rfl fun W hW=>?_
    conv=>lhs;whnf
    repeat'((first|apply hW.t|apply hW.f|(apply hW.q;exact rqc)|apply hW.w (a0)|apply hW.w (a1)|(apply hW.b<;>intro h))<;>conv=>lhs;whnf)
    rw[hrl,hw]
    repeat'((first|apply hW.t|apply hW.f|(apply hW.q;exact rqc)|apply hW.w (a2)|(apply hW.b<;>intro h))<;>conv=>lhs;whnf)
    rfl
   ·rw[show bM n 0 ((m.sums.length:Int)-1)=true from by simp[bM];omega]at a2
    rw[h3]at a3
    refine hE.run rfl rfl fun W hW=>?_
    conv=>lhs;whnf
    repeat'((first|apply hW.t|apply hW.f|(apply hW.q;exact rqc)|apply hW.w (a0)|apply hW.w (a1)|(apply hW.b<;>intro h))<;>conv=>lhs;whnf)
    rw[hrl,hw]
    repeat'((first|apply hW.t|apply hW.f|(apply hW.q;exact rqc)|apply hW.w (a2)|apply hW.w (a3)|(apply hW.b<;>intro h))<;>conv=>lhs;whnf)
    rfl
   ·rw[show bM n 0 ((m.sums.length:Int)-1)=true from by simp[bM];omega]at a2
    rw[h3]at a3
    refine hE.run rfl rfl fun W hW=>?_
    conv=>lhs;whnf
    repeat'((first|apply hW.t|apply hW.f|(apply hW.q;exact rqc)|apply hW.w (a0)|apply hW.w (a1)|(apply hW.b<;>intro h))<;>conv=>lhs;whnf)
    rw[hrl,hw]
    apply hW.w (a2)
    conv=>lhs;whnf
    repeat((first|apply hW.t|apply hW.f|(apply hW.q;exact rqc));conv=>lhs;whnf)
    apply hW.w (a3)
    conv=>lhs;whnf
    repeat((first|apply hW.t|apply hW.f|(apply hW.q;exact rqc)|(refine hW.w (bR ?_) ?_;omega));conv=>lhs;whnf)
    apply hW.w (a4)
    conv=>lhs;whnf
    repeat((first|apply hW.t|apply hW.f|(apply hW.q;exact rqc));conv=>lhs;whnf)
    apply hW.bt (by(revert h4;generalize bH b=y;generalize m.sums[n]=z;cases y;cases z;simp;exact fun h=>Decidable.or_iff_not_imp_left.mpr fun h'=>h (Decidable.not_not.mp h')))
    conv=>lhs;whnf
    repeat((first|apply hW.t|apply hW.f|(apply hW.q;exact rqc));conv=>lhs;whnf)
    rfl
  ·obtain⟨n,hn,rfl,h40,_,_,hs,hin,hsum,h6,hsp,hat,hfit⟩:=aHX h2
   have a5:=aAr hE m x n b h40 hsp hat hfit hx
   rw[show bM n 0 ((m.sums.length:Int)-1)=true from by simp[bM];omega]at a2
   rw[hin]at a3
   refine hE.run rfl rfl fun W hW=>?_
   conv=>lhs;whnf
   repeat'((first|apply hW.t|apply hW.f|(apply hW.q;exact rqc)|apply hW.w (a0)|apply hW.w (a1)|(apply hW.b<;>intro h))<;>conv=>lhs;whnf)
   rw[hrl,hw]
   apply hW.w (a2)
   conv=>lhs;whnf
   repeat((first|apply hW.t|apply hW.f|(apply hW.q;exact rqc));conv=>lhs;whnf)
   apply hW.w (a3)
   conv=>lhs;whnf
   repeat((first|apply hW.t|apply hW.f|(apply hW.q;exact rqc)|(refine hW.w (bR ?_) ?_;omega));conv=>lhs;whnf)
   apply hW.w (a4)
   conv=>lhs;whnf
   repeat((first|apply hW.t|apply hW.f|(apply hW.q;exact rqc));conv=>lhs;whnf)
   apply hW.bf (by rw[hsum];simp)
   conv=>lhs;whnf
   repeat((first|apply hW.t|apply hW.f|(apply hW.q;exact rqc));conv=>lhs;whnf)
   apply hW.w (a5)
   conv=>lhs;whnf
   repeat((first|apply hW.t|apply hW.f|(apply hW.q;exact rqc));conv=>lhs;whnf)
   rfl
def aKf (n:Node) (k i id:Int):Pkt:=eL k id (gC n.man.gen i (fN n.man n.bld i))
def yX (n:Node) (k i:Int):List Kid→List Kid→List Pkt→List Kid × List Pkt
 |[],c,o=>(c,o)
 |x::r,c,o=>if dP (iV c x.id n.bld.hav) i=true then yX n k i r (cZ c x.id (aFN i)) (o++[aKf n k i x.id]) else yX n k i r c o
def jZ (n:Node) (k i:Int):Actn:=if dN n.man n.bld i=true then⟨{ n with kids:=(yX n k i n.kids n.kids []).1 },(yX n k i n.kids n.kids []).2⟩ else⟨n,[]⟩
theorem aKg {n:Node} {k i:Int} {l:List Kid}:∀ {c:List Kid} {o:List Pkt},(yX n k i l c o).1.length=c.length∧(yX n k i l c o).2.length≤o.length+l.length:=by
 induction l with
 |nil=>intro c o;exact⟨rfl,Nat.le_refl _⟩
 |cons x r ih =>
  intro c o
  simp only[yX]
  split
  ·have:=ih (c:=cZ c x.id (aFN i)) (o:=o++[aKf n k i x.id])
   rw[gW]at this
   simp only[List.length_append,List.length_cons,List.length_nil]at this ⊢
   omega
  ·have:=ih (c:=c) (o:=o)
   simp only[List.length_cons]
   omega
theorem aHY {i:Int} (h:bM i 0 39=true):jE 0 i=aFN i:=by
 unfold jE
 rw[if_pos ⟨by decide,h⟩]
 have h:=bT h
 obtain⟨n,rfl⟩:∃ n:Nat,i=n:=⟨i.toNat,by omega⟩
 have hw:=aHJ (i:=n) (by omega)
 rw[hw.1]
 have:=(aBj (a:=0) (b:=2 ^ n) (by omega) (by omega)).1
 rw[Nat.zero_or]at this
 exact this
theorem aEK {s i:Int} (h:dP s i=true):bM i 0 39=true:=by
 unfold dP at h
 simp only[Bool.and_eq_true]at h
 exact h.2.1
theorem yY {E:Env} (hE:Sys E) (n:Node) (k i:Int) (hn:n.limk):E 419 [gv (n.cs aP),iv k,iv i]=some ([gv ((jZ n k i).cs dF true)],[]):=by
 have hrk:(n.kids.map Kid.row).length=n.kids.length:=List.length_map _
 have hkl:=hn.2.2
 have a0:=cM hE n hn.l8
 have a1:=nN hE n.man n.bld i hn.1 hn.2.1
 unfold jZ
 cases hok:dN n.man n.bld i
 ·rw[hok]at a1
  refine hE.run rfl rfl fun W hW=>?_
  conv=>lhs;whnf
  apply hW.w (a0)
  conv=>lhs;whnf
  repeat((first|apply hW.t|apply hW.f|(apply hW.q;exact rqc));conv=>lhs;whnf)
  apply hW.w (a1)
  conv=>lhs;whnf
  repeat((first|apply hW.t|apply hW.f|(apply hW.q;exact rqc));conv=>lhs;whnf)
  refine hW.loop (σ:=Unit) (γ:=Unit) (fun _ s=>s.sl 10 (v1 (.t (.int .i64 0)))) (fun _ _=>True) (fun _=>0) (fun _=>([gv (Actn.cs dF true ⟨n,[]⟩)],[])) () () ?_ ?_ ?_ ?_
  ·intro K
   conv=>lhs;whnf
   conv=>rhs;whnf
   try rfl
  ·trivial
  ·rintro kl _ _ _ ih
   conv=>lhs;whnf
   apply hW.b<;>intro h1<;>conv=>lhs;whnf
   ·repeat((first|apply hW.t|apply hW.f|(apply hW.q;exact rqc));conv=>lhs;whnf)
    rfl
   ·repeat((first|apply hW.t|apply hW.f|(apply hW.q;exact rqc));conv=>lhs;whnf)
    rfl
  ·rfl
 ·rw[hok]at a1
  refine hE.run rfl rfl fun W hW=>?_
  conv=>lhs;whnf
  apply hW.w (a0)
  conv=>lhs;whnf
  repeat((first|apply hW.t|apply hW.f|(apply hW.q;exact rqc));conv=>lhs;whnf)
  apply hW.w (a1)
  conv=>lhs;whnf
  repeat((first|apply hW.t|apply hW.f|(apply hW.q;exact rqc));conv=>lhs;whnf)
  refine hW.loop (σ:=Nat × List Kid × List Pkt) (γ:=Nat) (fun i s=>((s.sl 10 (v1 (.t (.int .i64 i.1)))).bl ⟨50710,5, .own,i.2.1.map Kid.row⟩).bl ⟨50712,3, .own,i.2.2.map (Pkt.row true)⟩) (fun j m=>j.1=m∧m≤n.kids.length∧j.2.1.length=n.kids.length∧j.2.2.length≤m∧yX n k i (n.kids.drop m) j.2.1 j.2.2=yX n k i n.kids n.kids []) (fun m=>n.kids.length-m) (fun _=>([gv (Actn.cs dF true ⟨{ n with kids:=(yX n k i n.kids n.kids []).1 },(yX n k i n.kids n.kids []).2⟩)],[])) (0,n.kids,[]) 0 ?_ ?_ ?_ ?_
  ·intro K
   conv=>lhs;whnf
   conv=>rhs;whnf
   try rfl
  ·exact⟨rfl,by omega,rfl,by simp,rfl⟩
  ·rintro kl ⟨m,c,o⟩ _ ⟨rfl,hm,hc,ho,hs⟩ ih
   simp only at hs hm hc ho
   conv=>lhs;whnf
   rw[hrk]
   apply hW.b<;>intro h1<;>conv=>lhs;whnf
   ·have h1:m<n.kids.length:=by simpa using h1
    rw[List.drop_eq_getElem_cons h1,yX]at hs
    repeat((first|apply hW.t|apply hW.f|(apply hW.q;exact rqc)|(refine hW.w (bR ?_) ?_;omega));conv=>lhs;whnf)
    apply hW.w (nR hE n)
    conv=>lhs;whnf
    repeat((first|apply hW.t|apply hW.f|(apply hW.q;exact rqc));conv=>lhs;whnf)
    apply hW.w (qH hE c n.kids[m].id n.bld.hav (by omega))
    conv=>lhs;whnf
    repeat((first|apply hW.t|apply hW.f|(apply hW.q;exact rqc));conv=>lhs;whnf)
    apply hW.w (dA hE (iV c n.kids[m].id n.bld.hav) i)
    conv=>lhs;whnf
    repeat((first|apply hW.t|apply hW.f|(apply hW.q;exact rqc));conv=>lhs;whnf)
    apply hW.b<;>intro h3<;>conv=>lhs;whnf
    ·rw[if_pos h3]at hs
     have h4:=aHY (aEK h3)
     repeat((first|apply hW.t|apply hW.f|(apply hW.q;exact rqc)|(refine hW.w (bR ?_) ?_;omega));conv=>lhs;whnf)
     apply hW.w (nP hE n.man.gen i (fN n.man n.bld i) (Nat.le_trans (eR _ _ _) (Nat.le_trans hn.2.1 (by decide))))
     conv=>lhs;whnf
     repeat((first|apply hW.t|apply hW.f|(apply hW.q;exact rqc));conv=>lhs;whnf)
     apply hW.w (dX hE k n.kids[m].id (gC n.man.gen i (fN n.man n.bld i)) ⟨Nat.zero_le _,Nat.le_trans (eR _ _ _) hn.2.1⟩)
     conv=>lhs;whnf
     repeat((first|apply hW.t|apply hW.f|(apply hW.q;exact rqc));conv=>lhs;whnf)
     refine hW.q (by exact⟨by decide,by intro e he;simp at he;subst he;rfl,by simp;omega,by simp;omega⟩) ?_
     conv=>lhs;whnf
     repeat((first|apply hW.t|apply hW.f|(apply hW.q;exact rqc));conv=>lhs;whnf)
     apply hW.w (lO hE 0 i)
     conv=>lhs;whnf
     repeat((first|apply hW.t|apply hW.f|(apply hW.q;exact rqc));conv=>lhs;whnf)
     rw[h4]
     apply hW.w (lM hE c n.kids[m].id (aFN i) (by omega))
     conv=>lhs;whnf
     repeat((first|apply hW.t|apply hW.f|(apply hW.q;exact rqc));conv=>lhs;whnf)
     refine ih (m+1,cZ c n.kids[m].id (aFN i),o++[aKf n k i n.kids[m].id]) (m+1) _ ?_ ⟨rfl,by omega,by simp only;rw[gW];exact hc,by simp;omega,hs⟩ (by omega)
     intro K
     conv=>lhs;whnf
     conv=>rhs;whnf
     try rfl
     rw[show IntKind.i64.wrap ((m:Int)+1)=_ from aH (by omega)]
     rw[List.map_append]
     rfl
    ·rw[if_neg (by rw[h3];decide)]at hs
     repeat((first|apply hW.t|apply hW.f|(apply hW.q;exact rqc));conv=>lhs;whnf)
     refine ih (m+1,c,o) (m+1) _ ?_ ⟨rfl,by omega,hc,by simp only;omega,hs⟩ (by omega)
     intro K
     conv=>lhs;whnf
     conv=>rhs;whnf
     try rfl
     rw[show IntKind.i64.wrap ((m:Int)+1)=_ from aH (by omega)]
     try rfl
   ·have:m=n.kids.length:=by simp at h1;omega
    subst this
    simp only[List.drop_length,yX]at hs
    repeat((first|apply hW.t|apply hW.f|(apply hW.q;exact rqc));conv=>lhs;whnf)
    rw[← hs]
    rfl
  ·rfl
theorem yZ {E:Env} (hE:Sys E) (n:Node) (k i:Int) (hn:n.limk):E 424 [gv (n.cs aP),iv k,iv i]=some ([gv ((jZ n k i).cs dF true)],[]):=by
 have hrk:(n.kids.map Kid.row).length=n.kids.length:=List.length_map _
 have hkl:=hn.2.2
 have a0:=cR hE n hn.l8
 have a1:=nO hE n.man n.bld i hn.1 hn.2.1
 unfold jZ
 cases hok:dN n.man n.bld i
 ·rw[hok]at a1
  refine hE.run rfl rfl fun W hW=>?_
  conv=>lhs;whnf
  repeat'((first|apply hW.t|apply hW.f|(apply hW.q;exact rqc)|apply hW.w (a0)|apply hW.w (a1)|(apply hW.b<;>intro h))<;>conv=>lhs;whnf)
  rfl
 ·rw[hok]at a1
  refine hE.run rfl rfl fun W hW=>?_
  conv=>lhs;whnf
  apply hW.w (a0)
  conv=>lhs;whnf
  repeat((first|apply hW.t|apply hW.f|(apply hW.q;exact rqc));conv=>lhs;whnf)
  apply hW.w (a1)
  conv=>lhs;whnf
  repeat((first|apply hW.t|apply hW.f|(apply hW.q;exact rqc));conv=>lhs;whnf)
  rw[hrk]
  refine hW.loop (σ:=Nat × List Kid × List Pkt) (γ:=Nat) (fun i s=>((s.sl 30 (v1 (.t (.int .i64 i.1)))).bl ⟨50710,5, .own,i.2.1.map Kid.row⟩).bl ⟨50712,3, .own,i.2.2.map (Pkt.row true)⟩) (fun j m=>j.1=m∧m≤n.kids.length∧j.2.1.length=n.kids.length∧j.2.2.length≤m∧yX n k i (n.kids.drop m) j.2.1 j.2.2=yX n k i n.kids n.kids []) (fun m=>n.kids.length-m) (fun _=>([gv (Actn.cs dF true ⟨{ n with kids:=(yX n k i n.kids n.kids []).1 },(yX n k i n.kids n.kids []).2⟩)],[])) (0,n.kids,[]) 0 ?_ ?_ ?_ ?_
  ·intro K
   conv=>lhs;whnf
   conv=>rhs;whnf
   try rfl
  ·exact⟨rfl,by omega,rfl,by simp,rfl⟩
  ·rintro kl ⟨m,c,o⟩ _ ⟨rfl,hm,hc,ho,hs⟩ ih
   simp only at hs hm hc ho
   conv=>lhs;whnf
   apply hW.b<;>intro h1<;>conv=>lhs;whnf
   ·have h1:m<n.kids.length:=by simpa using h1
    rw[List.drop_eq_getElem_cons h1,yX]at hs
    repeat((first|apply hW.t|apply hW.f|(apply hW.q;exact rqc)|(refine hW.w (bR ?_) ?_;omega));conv=>lhs;whnf)
    apply hW.w (nS hE n)
    conv=>lhs;whnf
    repeat((first|apply hW.t|apply hW.f|(apply hW.q;exact rqc));conv=>lhs;whnf)
    apply hW.w (qI hE c n.kids[m].id n.bld.hav (by omega))
    conv=>lhs;whnf
    repeat((first|apply hW.t|apply hW.f|(apply hW.q;exact rqc));conv=>lhs;whnf)
    apply hW.w (dH hE (iV c n.kids[m].id n.bld.hav) i)
    conv=>lhs;whnf
    repeat((first|apply hW.t|apply hW.f|(apply hW.q;exact rqc));conv=>lhs;whnf)
    apply hW.b<;>intro h3<;>conv=>lhs;whnf
    ·rw[if_pos h3]at hs
     have h4:=bT (aEK h3)
     repeat((first|apply hW.t|apply hW.f|(apply hW.q;exact rqc)|(refine hW.w (bR ?_) ?_;omega));conv=>lhs;whnf)
     apply hW.w (nQ hE n.man.gen i (fN n.man n.bld i) (Nat.le_trans (eR _ _ _) (Nat.le_trans hn.2.1 (by decide))))
     conv=>lhs;whnf
     repeat((first|apply hW.t|apply hW.f|(apply hW.q;exact rqc));conv=>lhs;whnf)
     apply hW.w (dY hE k n.kids[m].id (gC n.man.gen i (fN n.man n.bld i)) ⟨Nat.zero_le _,Nat.le_trans (eR _ _ _) hn.2.1⟩)
     conv=>lhs;whnf
     repeat((first|apply hW.t|apply hW.f|(apply hW.q;exact rqc));conv=>lhs;whnf)
     refine hW.q (by exact⟨by decide,by intro e he;simp at he;subst he;rfl,by simp;omega,by simp;omega⟩) ?_
     conv=>lhs;whnf
     repeat((first|apply hW.t|apply hW.f|(apply hW.q;exact rqc));conv=>lhs;whnf)
     apply hW.w (lN hE c n.kids[m].id (aFN i) (by omega))
     conv=>lhs;whnf
     repeat((first|apply hW.t|apply hW.f|(apply hW.q;exact rqc));conv=>lhs;whnf)
     refine ih (m+1,cZ c n.kids[m].id (aFN i),o++[aKf n k i n.kids[m].id]) (m+1) _ ?_ ⟨rfl,by omega,by simp only;rw[gW];exact hc,by simp;omega,hs⟩ (by omega)
     intro K
     conv=>lhs;whnf
     conv=>rhs;whnf
     try rfl
     rw[show IntKind.i64.wrap ((m:Int)+1)=_ from aH (by omega)]
     rw[List.map_append]
     rfl
    ·rw[if_neg (by rw[h3];decide)]at hs
     repeat((first|apply hW.t|apply hW.f|(apply hW.q;exact rqc));conv=>lhs;whnf)
     refine ih (m+1,c,o) (m+1) _ ?_ ⟨rfl,by omega,hc,by simp only;omega,hs⟩ (by omega)
     intro K
     conv=>lhs;whnf
     conv=>rhs;whnf
     try rfl
     rw[show IntKind.i64.wrap ((m:Int)+1)=_ from aH (by omega)]
     try rfl
   ·have:m=n.kids.length:=by simp at h1;omega
    subst this
    simp only[List.drop_length,yX]at hs
    repeat((first|apply hW.t|apply hW.f|(apply hW.q;exact rqc));conv=>lhs;whnf)
    rw[← hs]
    rfl
  ·rfl
def jJ (n:Node) (k:Int) (m:Msg):Actn :=
 if n.phase=0 then⟨yT n,[]⟩ else if ¬ m.gen=n.man.gen then⟨yT n,[]⟩ else if dP n.bld.hav m.i=true then⟨n,[]⟩
 else if mA n.man n.bld m.i m.b=false then⟨yT n,[]⟩ else jZ { n with bld:=dZ n.man n.bld m.i m.b } k m.i
theorem aCE (m:Man) (x:Bld) (i:Int) (b:aE):(dZ m x i b).buf.length=x.buf.length:=by
 unfold dZ
 split
 ·rename_i h
  obtain⟨n,hn,rfl,h40,_,_,hs,hin,hsum,h6,hsp,hat,hfit⟩:=aHX h
  unfold aF5
  rw[Int.toNat_natCast]
  exact aHR (by omega)
 ·rfl
theorem aBm {n:Node} {i:Int} {b:aE} (hn:n.limk):({ n with bld:=dZ n.man n.bld i b }:Node).limk:=⟨hn.1,by show(dZ n.man n.bld i b).buf.length≤_;rw[aCE];exact hn.2.1,hn.2.2⟩
theorem aAv {E:Env} (hE:Sys E) (x:Node) (h0:x.lim 8388608):E 212 [gv (x.cs aP)]=some ([gv (x.cs dF)],[]):=cM hE x h0
theorem aAw {E:Env} (hE:Sys E) (x:Node) (h0:x.lim 8388608):E 215 [gv (x.cs aP)]=some ([gv (x.cs dF)],[]):=cR hE x h0
theorem wT {E:Env} (hE:Sys E) (n:Node) (k:Int) (m:Msg) (hn:n.limk) (hm:m.lim 1048576):E 416 [gv (n.cs aP),iv k,gv (m.cs aP)]=some ([gv ((jJ n k m).cs dF true)],[]):=by
 have c0:=aAv hE n hn.l8
 have c1:=gB hE n hn.l8
 have a1:=dA hE n.bld.hav m.i
 have a2:=wQ hE n.man n.bld m.i m.b hn.1 hn.2.1 hm.2
 have a3:=yY hE { n with bld:=dZ n.man n.bld m.i m.b } k m.i (aBm hn)
 unfold jJ
 by_cases h1:n.phase=0
 ·rw[if_pos h1]
  refine hE.run rfl rfl fun W hW=>?_
  conv=>lhs;whnf
  repeat'((first|with_reducible apply hW.bt (xM h1)|apply hW.t|apply hW.f|(apply hW.q;exact rqc)|apply hW.w (c0)|apply hW.w (c1)|(apply hW.b<;>intro h))<;>conv=>lhs;whnf)
  rfl
 ·rw[if_neg h1]
  by_cases h2:m.gen=n.man.gen
  ·rw[if_neg (fun h=>h h2)]
   cases h3:dP n.bld.hav m.i
   ·rw[h3]at a1
    cases h4:mA n.man n.bld m.i m.b
    ·rw[h4]at a2
     refine hE.run rfl rfl fun W hW=>?_
     conv=>lhs;whnf
     repeat'((first|with_reducible apply hW.bf (gO h1)|with_reducible apply hW.bf (aAs h2)|apply hW.t|apply hW.f|(apply hW.q;exact rqc)|apply hW.w (c0)|apply hW.w (a1)|apply hW.w (a2)|apply hW.w (c1)|(apply hW.b<;>intro h))<;>conv=>lhs;whnf)
     rfl
    ·rw[h4]at a2
     refine hE.run rfl rfl fun W hW=>?_
     conv=>lhs;whnf
     repeat'((first|with_reducible apply hW.bf (gO h1)|with_reducible apply hW.bf (aAs h2)|apply hW.t|apply hW.f|(apply hW.q;exact rqc)|apply hW.w (c0)|apply hW.w (a1)|apply hW.w (a2)|apply hW.w (a3)|(apply hW.b<;>intro h))<;>conv=>lhs;whnf)
     rfl
   ·rw[h3]at a1
    refine hE.run rfl rfl fun W hW=>?_
    conv=>lhs;whnf
    repeat'((first|with_reducible apply hW.bf (gO h1)|with_reducible apply hW.bf (aAs h2)|apply hW.t|apply hW.f|(apply hW.q;exact rqc)|apply hW.w (c0)|apply hW.w (a1)|(apply hW.b<;>intro h))<;>conv=>lhs;whnf)
    rfl
  ·rw[if_pos h2]
   refine hE.run rfl rfl fun W hW=>?_
   conv=>lhs;whnf
   repeat'((first|with_reducible apply hW.bf (gO h1)|with_reducible apply hW.bt (aIs h2)|apply hW.t|apply hW.f|(apply hW.q;exact rqc)|apply hW.w (c0)|apply hW.w (c1)|(apply hW.b<;>intro h))<;>conv=>lhs;whnf)
   rfl
theorem wU {E:Env} (hE:Sys E) (n:Node) (k:Int) (m:Msg) (hn:n.limk) (hm:m.lim 1048576):E 422 [gv (n.cs aP),iv k,gv (m.cs aP)]=some ([gv ((jJ n k m).cs dF true)],[]):=by
 have c0:=aAw hE n hn.l8
 have c1:=gB hE n hn.l8
 have a1:=dH hE n.bld.hav m.i
 have a2:=wS hE n.man n.bld m.i m.b hn.1 hn.2.1 hm.2
 have a3:=yZ hE { n with bld:=dZ n.man n.bld m.i m.b } k m.i (aBm hn)
 unfold jJ
 by_cases h1:n.phase=0
 ·rw[if_pos h1]
  refine hE.run rfl rfl fun W hW=>?_
  conv=>lhs;whnf
  repeat'((first|with_reducible apply hW.bt (xM h1)|apply hW.t|apply hW.f|(apply hW.q;exact rqc)|apply hW.w (c0)|apply hW.w (c1)|(apply hW.b<;>intro h))<;>conv=>lhs;whnf)
  rfl
 ·rw[if_neg h1]
  by_cases h2:m.gen=n.man.gen
  ·rw[if_neg (fun h=>h h2)]
   cases h3:dP n.bld.hav m.i
   ·rw[h3]at a1
    cases h4:mA n.man n.bld m.i m.b
    ·rw[h4]at a2
     refine hE.run rfl rfl fun W hW=>?_
     conv=>lhs;whnf
     repeat'((first|with_reducible apply hW.bf (gO h1)|with_reducible apply hW.bf (aAs h2)|apply hW.t|apply hW.f|(apply hW.q;exact rqc)|apply hW.w (c0)|apply hW.w (a1)|apply hW.w (a2)|apply hW.w (c1)|(apply hW.b<;>intro h))<;>conv=>lhs;whnf)
     rfl
    ·rw[h4]at a2
     refine hE.run rfl rfl fun W hW=>?_
     conv=>lhs;whnf
     repeat'((first|with_reducible apply hW.bf (gO h1)|with_reducible apply hW.bf (aAs h2)|apply hW.t|apply hW.f|(apply hW.q;exact rqc)|apply hW.w (c0)|apply hW.w (a1)|apply hW.w (a2)|apply hW.w (a3)|(apply hW.b<;>intro h))<;>conv=>lhs;whnf)
     rfl
   ·rw[h3]at a1
    refine hE.run rfl rfl fun W hW=>?_
    conv=>lhs;whnf
    repeat'((first|with_reducible apply hW.bf (gO h1)|with_reducible apply hW.bf (aAs h2)|apply hW.t|apply hW.f|(apply hW.q;exact rqc)|apply hW.w (c0)|apply hW.w (a1)|(apply hW.b<;>intro h))<;>conv=>lhs;whnf)
    rfl
  ·rw[if_pos h2]
   refine hE.run rfl rfl fun W hW=>?_
   conv=>lhs;whnf
   repeat'((first|with_reducible apply hW.bf (gO h1)|with_reducible apply hW.bt (aIs h2)|apply hW.t|apply hW.f|(apply hW.q;exact rqc)|apply hW.w (c0)|apply hW.w (c1)|(apply hW.b<;>intro h))<;>conv=>lhs;whnf)
   rfl
def zA (n:Node):Node:={ n with quiet:=0 }
def iF (n:Node) (k:Int) (d:Disk) (m:Msg):Actn :=
 if m.kind=1 then⟨iO (zA n) d m.man,[]⟩ else if m.kind=3 then jJ (zA n) k m else if m.kind=2 then⟨yT (zA n),[]⟩ else⟨zA n,[]⟩
theorem jK {n:Node} (hn:n.limk):(zA n).limk:=⟨hn.1,hn.2.1,hn.2.2⟩
theorem wV {E:Env} (hE:Sys E) (n:Node) (k:Int) (d:Disk) (m:Msg) (hn:n.limk) (hd:d.lim 1048576) (hm:m.lim 1048576):E 453 [gv (n.cs aP),iv k,gv (d.cs aP true),gv (m.cs aP)]=some ([gv ((iF n k d m).cs dF true)],[]):=by
 have c0:=aAv hE n hn.l8
 have a1:=yU hE (zA n) d m.man (jK hn) hd hm.1
 have a2:=wT hE (zA n) k m (jK hn) hm
 unfold iF
 by_cases h1:m.kind=1
 ·rw[if_pos h1]
  refine hE.run rfl rfl fun W hW=>?_
  conv=>lhs;whnf
  repeat'((first|with_reducible apply hW.bt (xM h1)|apply hW.t|apply hW.f|(apply hW.q;exact rqc)|apply hW.w (c0)|apply hW.w (a1)|(apply hW.b<;>intro h))<;>conv=>lhs;whnf)
  rfl
 ·rw[if_neg h1]
  by_cases h2:m.kind=3
  ·rw[if_pos h2]
   refine hE.run rfl rfl fun W hW=>?_
   conv=>lhs;whnf
   repeat'((first|with_reducible apply hW.bf (gO h1)|with_reducible apply hW.bt (xM h2)|apply hW.t|apply hW.f|(apply hW.q;exact rqc)|apply hW.w (c0)|apply hW.w (a2)|(apply hW.b<;>intro h))<;>conv=>lhs;whnf)
   rfl
  ·rw[if_neg h2]
   by_cases h3:m.kind=2
   ·rw[if_pos h3]
    refine hE.run rfl rfl fun W hW=>?_
    conv=>lhs;whnf
    repeat'((first|with_reducible apply hW.bf (gO h1)|with_reducible apply hW.bf (gO h2)|with_reducible apply hW.bt (xM h3)|apply hW.t|apply hW.f|(apply hW.q;exact rqc)|apply hW.w (c0)|(apply hW.b<;>intro h))<;>conv=>lhs;whnf)
    rfl
   ·rw[if_neg h3]
    refine hE.run rfl rfl fun W hW=>?_
    conv=>lhs;whnf
    repeat'((first|with_reducible apply hW.bf (gO h1)|with_reducible apply hW.bf (gO h2)|with_reducible apply hW.bf (gO h3)|apply hW.t|apply hW.f|(apply hW.q;exact rqc)|apply hW.w (c0)|(apply hW.b<;>intro h))<;>conv=>lhs;whnf)
    rfl
theorem wW {E:Env} (hE:Sys E) (n:Node) (k:Int) (d:Disk) (m:Msg) (hn:n.limk) (hd:d.lim 1048576) (hm:m.lim 1048576):E 456 [gv (n.cs aP),iv k,gv (d.cs aP true),gv (m.cs aP)]=some ([gv ((iF n k d m).cs dF true)],[]):=by
 have c0:=aAw hE n hn.l8
 have a1:=yV hE (zA n) d m.man (jK hn) hd hm.1
 have a2:=wU hE (zA n) k m (jK hn) hm
 unfold iF
 by_cases h1:m.kind=1
 ·rw[if_pos h1]
  refine hE.run rfl rfl fun W hW=>?_
  conv=>lhs;whnf
  repeat'((first|with_reducible apply hW.bt (xM h1)|apply hW.t|apply hW.f|(apply hW.q;exact rqc)|apply hW.w (c0)|apply hW.w (a1)|(apply hW.b<;>intro h))<;>conv=>lhs;whnf)
  rfl
 ·rw[if_neg h1]
  by_cases h2:m.kind=3
  ·rw[if_pos h2]
   refine hE.run rfl rfl fun W hW=>?_
   conv=>lhs;whnf
   repeat'((first|with_reducible apply hW.bf (gO h1)|with_reducible apply hW.bt (xM h2)|apply hW.t|apply hW.f|(apply hW.q;exact rqc)|apply hW.w (c0)|apply hW.w (a2)|(apply hW.b<;>intro h))<;>conv=>lhs;whnf)
   rfl
  ·rw[if_neg h2]
   by_cases h3:m.kind=2
   ·rw[if_pos h3]
    refine hE.run rfl rfl fun W hW=>?_
    conv=>lhs;whnf
    repeat'((first|with_reducible apply hW.bf (gO h1)|with_reducible apply hW.bf (gO h2)|with_reducible apply hW.bt (xM h3)|apply hW.t|apply hW.f|(apply hW.q;exact rqc)|apply hW.w (c0)|(apply hW.b<;>intro h))<;>conv=>lhs;whnf)
    rfl
   ·rw[if_neg h3]
    refine hE.run rfl rfl fun W hW=>?_
    conv=>lhs;whnf
    repeat'((first|with_reducible apply hW.bf (gO h1)|with_reducible apply hW.bf (gO h2)|with_reducible apply hW.bf (gO h3)|apply hW.t|apply hW.f|(apply hW.q;exact rqc)|apply hW.w (c0)|(apply hW.b<;>intro h))<;>conv=>lhs;whnf)
    rfl
def rdF:Nat→Nat→Nat→aE→Option (Nat × Nat × Bool)
 |0,_,_,_=>none
 |_+1,_,_,[]=>none
 |m+1,k,n,x::t=>if x.toNat<128 then some (n+x.toNat*128 ^ k,k+1,decide (k=0)||decide (0<x.toNat)) else rdF m (k+1) (n+(x.toNat%128)*128 ^ k) t
def rdN (most:Nat) (b:aE) (a:Nat):Option (Nat × Nat × Bool):=rdF most 0 0 (b.drop a)
def rN (o:Option (Nat × Nat × Bool)):Int:=match o with|some p=>p.1|none=>0
def rP (a:Nat) (o:Option (Nat × Nat × Bool)):Int:=match o with|some p=>((a+p.2.1:Nat):Int)|none=>0
def rO (o:Option (Nat × Nat × Bool)):Bool:=match o with|some p=>p.2.2|none=>false
theorem aHZ {x:UInt8}:IntKind.i64.wrap (BitVec.ofInt IntKind.i64.bits (IntKind.i64.wrap (x.toNat:Int)) &&& BitVec.ofInt IntKind.i64.bits 127).toNat=((x.toNat%128:Nat):Int):=by
 have hx:x.toNat<256:=x.toNat_lt
 rw[show IntKind.i64.wrap (x.toNat:Int)=(x.toNat:Int) from aG (by omega)]
 rw[BitVec.toNat_and,BitVec.ofInt_natCast,show BitVec.ofInt IntKind.i64.bits 127=BitVec.ofNat IntKind.i64.bits 127 from rfl,BitVec.toNat_ofNat,BitVec.toNat_ofNat]
 rw[Nat.mod_eq_of_lt (show x.toNat<2 ^ IntKind.i64.bits from by simp only[IntKind.bits];omega),Nat.mod_eq_of_lt (show 127<2 ^ IntKind.i64.bits from by decide),Nat.and_two_pow_sub_one_eq_mod x.toNat 7]
 exact aG (by omega)
theorem aEL (k:Nat):(128:Nat) ^ k=2 ^ (7*k):=by rw[Nat.pow_mul]
theorem aCF {k:Nat} (h:k≤7):128 ^ k≤562949953421312:=by
 have:(128:Nat) ^ k≤128 ^ 7:=Nat.pow_le_pow_right (by decide) h
 have e:(128:Nat) ^ 7=562949953421312:=by decide
 omega
theorem oM {n k a:Nat} (hk:k≤7) (hn:n<128 ^ k) (ha:a<128):IntKind.i64.wrap (BitVec.ofInt IntKind.i64.bits (n:Int) ||| BitVec.ofInt IntKind.i64.bits (IntKind.i64.wrap ((a:Int)*2 ^ (min (IntKind.i64.wrap (7*(k:Int))).toNat IntKind.i64.bits)))).toNat=((n+a*128 ^ k:Nat):Int)∧n+a*128 ^ k<128 ^ (k+1):=by
 have h7:=aCF hk
 have hb:n+a*128 ^ k<128 ^ (k+1):=by
  rw[Nat.pow_succ]
  have:a*128 ^ k≤127*128 ^ k:=Nat.mul_le_mul_right _ (by omega)
  omega
 refine⟨?_,hb⟩
 have hm:a*128 ^ k≤127*562949953421312:=Nat.mul_le_mul (by omega) h7
 rw[show IntKind.i64.wrap (7*(k:Int))=((7*k:Nat):Int) from(aG (by omega)).trans (by omega),Int.toNat_natCast,show min (7*k) IntKind.i64.bits=7*k from by simp only[IntKind.bits];omega]
 rw[show(a:Int)*2 ^ (7*k)=((a*128 ^ k:Nat):Int) from by rw[aEL];push_cast;rfl]
 rw[show IntKind.i64.wrap ((a*128 ^ k:Nat):Int)=((a*128 ^ k:Nat):Int) from aG (by omega)]
 rw[BitVec.toNat_or,BitVec.ofInt_natCast,BitVec.ofInt_natCast,BitVec.toNat_ofNat,BitVec.toNat_ofNat]
 rw[Nat.mod_eq_of_lt (show n<2 ^ IntKind.i64.bits from by simp only[IntKind.bits];omega),Nat.mod_eq_of_lt (show a*128 ^ k<2 ^ IntKind.i64.bits from by simp only[IntKind.bits];omega)]
 rw[Nat.or_comm,aEL,Nat.mul_comm a,← Nat.two_pow_add_eq_or_of_lt (by rw[← aEL];exact hn)]
 rw[Nat.add_comm]
 exact aG (by rw[← aEL,Nat.mul_comm];omega)
theorem aBn (x:UInt8):IntKind.i64.wrap (x.toNat:Int)=(x.toNat:Int):=aG (by have:x.toNat<256:=x.toNat_lt;omega)
theorem nT {E:Env} (hE:Sys E) (b:aE) (a most:Nat) (hb:b.length≤1099511627776) (ha:a≤1099511627776) (hm:most≤8):E 332 [sv (bys b),iv a,iv most]=some ([iv (rN (rdN most b a)),iv (rP a (rdN most b a)),bv (rO (rdN most b a))],[]):=by
 refine hE.run rfl rfl fun W hW=>?_
 conv=>lhs;whnf
 refine hW.loop (σ:=Nat × Nat) (γ:=Nat) (fun i s=>(s.sl 13 (v1 (.t (.int .i64 i.1)))).sl 9 (v1 (.t (.int .i64 i.2)))) (fun i k=>i.1=k∧k≤most∧i.2<128 ^ k∧rdF (most-k) k i.2 (b.drop (a+k))=rdN most b a) (fun k=>most-k) (fun _=>([iv (rN (rdN most b a)),iv (rP a (rdN most b a)),bv (rO (rdN most b a))],[])) (0,0) 0 ?_ ?_ ?_ ?_
 ·intro K
  conv=>lhs;whnf
  conv=>rhs;whnf
  try rfl
 ·exact⟨rfl,by omega,by decide,rfl⟩
 ·rintro kl ⟨k,n⟩ _ ⟨rfl,hk,hn,hs⟩ ih
  simp only at hk hn hs
  conv=>lhs;whnf
  apply hW.b<;>intro g1<;>conv=>lhs;whnf
  ·have g1:k<most:=by simpa using g1
   rw[show most-k=(most-(k+1))+1 from by omega]at hs
   repeat((first|apply hW.t|apply hW.f|(apply hW.q;exact rqc));conv=>lhs;whnf)
   rw[aZ,show IntKind.i64.wrap ((b.length:Int)-1)=(b.length:Int)-1 from aG (by omega),show IntKind.i64.wrap ((b.length:Int)-1-k)=(b.length:Int)-1-k from aG (by omega)]
   apply hW.w (bJ hE a 0 ((b.length:Int)-1-k))
   conv=>lhs;whnf
   repeat((first|apply hW.t|apply hW.f|(apply hW.q;exact rqc));conv=>lhs;whnf)
   apply hW.b<;>intro g2<;>conv=>lhs;whnf
   ·have g2:=kO g2
    have hl:b.length≤a+k:=by simp[bM]at g2;omega
    rw[List.drop_eq_nil_of_le hl,rdF]at hs
    repeat((first|apply hW.t|apply hW.f|(apply hW.q;exact rqc));conv=>lhs;whnf)
    rw[← hs]
    rfl
   ·have g2:=bT (iD g2)
    have hl:a+k<b.length:=by omega
    rw[List.drop_eq_getElem_cons hl,rdF]at hs
    repeat((first|apply hW.t|apply hW.f|(apply hW.q;exact rqc));conv=>lhs;whnf)
    rw[show IntKind.i64.wrap ((a:Int)+(k:Int))=((a+k:Nat):Int) from(aG (by omega)).trans (by omega)]
    repeat((first|apply hW.t|apply hW.f|(apply hW.q;exact rqc)|(refine hW.w (bR ?_) ?_;omega));conv=>lhs;whnf)
    have hx:(b[a+k]).toNat<256:=(b[a+k]).toNat_lt
    refine hW.q (by exact(show(0:Int)≤w64 (7*(k:Int)) from by rw[aG (by omega)];omega)) ?_
    conv=>lhs;whnf
    repeat((first|apply hW.t|apply hW.f|(apply hW.q;exact rqc));conv=>lhs;whnf)
    rw[aHZ,(oM (a:=(b[a+k]).toNat%128) (by omega) hn (by omega)).1,aBn]
    apply hW.b<;>intro g3<;>conv=>lhs;whnf
    ·have g3:(b[a+k]).toNat<128:=by simp at g3;omega
     rw[if_pos g3]at hs
     rw[Nat.mod_eq_of_lt g3,show IntKind.i64.wrap ((a:Int)+(k:Int))=((a+k:Nat):Int) from(aG (by omega)).trans (by omega),show IntKind.i64.wrap (((a+k:Nat):Int)+1)=((a+(k+1):Nat):Int) from(aG (by omega)).trans (by omega)]
     apply hW.b<;>intro g4<;>conv=>lhs;whnf
     ·have k0:k=0:=by simp at g4;omega
      subst k0
      repeat((first|apply hW.t|apply hW.f|(apply hW.q;exact rqc));conv=>lhs;whnf)
      rw[← hs]
      rfl
     ·repeat((first|apply hW.t|apply hW.f|(apply hW.q;exact rqc));conv=>lhs;whnf)
      rw[← hs,show decide (k=0)=false from by simp at g4 ⊢;omega,Bool.false_or]
      simp only[rN,rP,rO]
      rw[show decide (((b[a+k]).toNat:Int)>0)=decide (0<(b[a+k]).toNat) from decide_eq_decide.mpr (by omega)]
      rfl
    ·have g3:¬ (b[a+k]).toNat<128:=by simp at g3;omega
     rw[if_neg g3]at hs
     repeat((first|apply hW.t|apply hW.f|(apply hW.q;exact rqc));conv=>lhs;whnf)
     refine ih (k+1,n+(b[a+k]).toNat%128*128 ^ k) (k+1) _ ?_ ⟨rfl,by omega,(oM (by omega) hn (by omega)).2,hs⟩ (by omega)
     intro K
     conv=>lhs;whnf
     conv=>rhs;whnf
     try rfl
     rw[show IntKind.i64.wrap ((k:Int)+1)=_ from aH (by omega)]
     try rfl
  ·have:k=most:=by simp at g1;omega
   subst this
   rw[Nat.sub_self,rdF]at hs
   repeat((first|apply hW.t|apply hW.f|(apply hW.q;exact rqc));conv=>lhs;whnf)
   rw[← hs]
   rfl
 ·rfl
def gV (l:aE):Option (Nat × Nat):=match rdF 6 0 0 l with|some (n,c,true)=>if n≤1000000000000 then some (n,c) else none|_=>none
def gS (l:aE):Option (Nat × Nat):=match rdF 8 0 0 l with|some (n,c,true)=>some (n,c)|_=>none
def vN (o:Option (Nat × Nat)):Int:=match o with|some p=>p.1|none=>0
def vP (a:Nat) (o:Option (Nat × Nat)):Int:=match o with|some p=>((a+p.2:Nat):Int)|none=>0
theorem gZ {E:Env} (hE:Sys E) (b:aE) (a:Nat) (hb:b.length≤1099511627776) (ha:a≤1099511627776):E 330 [sv (bys b),iv a]=some ([iv (vN (gV (b.drop a))),iv (vP a (gV (b.drop a))),bv (gV (b.drop a)).isSome],[]):=by
 have hr:=nT hE b a 6 hb ha (by decide)
 unfold gV
 rw[show rdN 6 b a=rdF 6 0 0 (b.drop a) from rfl]at hr
 cases hd:rdF 6 0 0 (b.drop a) with
 |none =>
  rw[hd]at hr
  refine hE.run rfl rfl fun W hW=>?_
  conv=>lhs;whnf
  apply hW.w (hr)
  conv=>lhs;whnf
  repeat((first|apply hW.t|apply hW.f|(apply hW.q;exact rqc)|(refine hW.w (bR ?_) ?_;omega));conv=>lhs;whnf)
  rfl
 |some p =>
  obtain⟨n,c,ok⟩:=p
  rw[hd]at hr
  cases ok with
  |false =>
   refine hE.run rfl rfl fun W hW=>?_
   conv=>lhs;whnf
   apply hW.w (hr)
   conv=>lhs;whnf
   repeat((first|apply hW.t|apply hW.f|(apply hW.q;exact rqc)|(refine hW.w (bR ?_) ?_;omega));conv=>lhs;whnf)
   rfl
  |true =>
   refine hE.run rfl rfl fun W hW=>?_
   conv=>lhs;whnf
   apply hW.w (hr)
   conv=>lhs;whnf
   repeat((first|apply hW.t|apply hW.f|(apply hW.q;exact rqc));conv=>lhs;whnf)
   apply hW.b<;>intro g1<;>conv=>lhs;whnf
   ·have g1:¬ n≤1000000000000:=by simp[rN]at g1;omega
    repeat((first|apply hW.t|apply hW.f|(apply hW.q;exact rqc));conv=>lhs;whnf)
    rw[show(match (some (n,c,true):Option (Nat × Nat × Bool)) with|some (n,c,true)=>if n≤1000000000000 then some (n,c) else none|_=>none)=none from if_neg g1]
    rfl
   ·have g1:n≤1000000000000:=by simp[rN]at g1;omega
    repeat((first|apply hW.t|apply hW.f|(apply hW.q;exact rqc));conv=>lhs;whnf)
    rw[show(match (some (n,c,true):Option (Nat × Nat × Bool)) with|some (n,c,true)=>if n≤1000000000000 then some (n,c) else none|_=>none)=some (n,c) from if_pos g1]
    rfl
theorem aH0 {b:aE} {a:Nat} (h:rdN 6 b a=none):gV (b.drop a)=none:=by unfold gV;rw[show rdF 6 0 0 (b.drop a)=none from h]
theorem aNv {b:aE} {a n c:Nat} {o:Bool} (h:rdN 6 b a=some (n,c,o)) (ho:o=false):gV (b.drop a)=none:=by unfold gV;rw[show rdF 6 0 0 (b.drop a)=_ from h,ho]
theorem aK5 {b:aE} {a n c:Nat} {o:Bool} (h:rdN 6 b a=some (n,c,o)) (hn:¬ n≤1000000000000):gV (b.drop a)=none:=by
 unfold gV;rw[show rdF 6 0 0 (b.drop a)=_ from h];cases o
 ·rfl
 ·exact if_neg hn
theorem aH1 {b:aE} {a n c:Nat} {o:Bool} (h:rdN 6 b a=some (n,c,o)) (ho:o=true) (hn:n≤1000000000000):gV (b.drop a)=some (n,c):=by
 unfold gV;rw[show rdF 6 0 0 (b.drop a)=_ from h,ho];exact if_pos hn
theorem wX {E:Env} (hE:Sys E) (b:aE) (a:Nat) (hb:b.length≤1099511627776) (ha:a≤1099511627776):E 328 [sv (bys b),iv a]=some ([iv (rN (rdN 8 b a)),iv (rP a (rdN 8 b a)),bv (rO (rdN 8 b a))],[]):=by
 refine hE.run rfl rfl fun W hW=>?_
 conv=>lhs;whnf
 refine hW.loop (σ:=Nat × Nat) (γ:=Nat) (fun i s=>(s.sl 8 (v1 (.t (.int .i64 i.1)))).sl 7 (v1 (.t (.int .i64 i.2)))) (fun i k=>i.1=k∧k≤8∧i.2<128 ^ k∧rdF (8-k) k i.2 (b.drop (a+k))=rdN 8 b a) (fun k=>8-k) (fun _=>([iv (rN (rdN 8 b a)),iv (rP a (rdN 8 b a)),bv (rO (rdN 8 b a))],[])) (0,0) 0 ?_ ?_ ?_ ?_
 ·intro K
  conv=>lhs;whnf
  conv=>rhs;whnf
  try rfl
 ·exact⟨rfl,by omega,by decide,rfl⟩
 ·rintro kl ⟨k,n⟩ _ ⟨rfl,hk,hn,hs⟩ ih
  simp only at hk hn hs
  conv=>lhs;whnf
  apply hW.b<;>intro g1<;>conv=>lhs;whnf
  ·have g1:k<8:=by simp at g1;omega
   rw[show 8-k=(8-(k+1))+1 from by omega]at hs
   repeat((first|apply hW.t|apply hW.f|(apply hW.q;exact rqc));conv=>lhs;whnf)
   rw[aZ,show IntKind.i64.wrap ((b.length:Int)-k)=(b.length:Int)-k from aG (by omega)]
   apply hW.b<;>intro g2<;>conv=>lhs;whnf
   ·have hl:b.length≤a+k:=by simp at g2;omega
    rw[List.drop_eq_nil_of_le hl,rdF]at hs
    repeat((first|apply hW.t|apply hW.f|(apply hW.q;exact rqc));conv=>lhs;whnf)
    rw[← hs]
    rfl
   ·have hl:a+k<b.length:=by simp at g2;omega
    rw[List.drop_eq_getElem_cons hl,rdF]at hs
    repeat((first|apply hW.t|apply hW.f|(apply hW.q;exact rqc));conv=>lhs;whnf)
    rw[show IntKind.i64.wrap ((a:Int)+(k:Int))=((a+k:Nat):Int) from(aG (by omega)).trans (by omega)]
    repeat((first|apply hW.t|apply hW.f|(apply hW.q;exact rqc)|(refine hW.w (bR ?_) ?_;omega));conv=>lhs;whnf)
    have hx:(b[a+k]).toNat<256:=(b[a+k]).toNat_lt
    refine hW.q (by exact(show(0:Int)≤w64 (7*(k:Int)) from by rw[aG (by omega)];omega)) ?_
    conv=>lhs;whnf
    repeat((first|apply hW.t|apply hW.f|(apply hW.q;exact rqc));conv=>lhs;whnf)
    rw[aHZ,(oM (a:=(b[a+k]).toNat%128) (by omega) hn (by omega)).1,aBn]
    apply hW.b<;>intro g3<;>conv=>lhs;whnf
    ·have g3:(b[a+k]).toNat<128:=by simp at g3;omega
     rw[if_pos g3]at hs
     rw[Nat.mod_eq_of_lt g3,show IntKind.i64.wrap ((a:Int)+(k:Int))=((a+k:Nat):Int) from(aG (by omega)).trans (by omega),show IntKind.i64.wrap (((a+k:Nat):Int)+1)=((a+(k+1):Nat):Int) from(aG (by omega)).trans (by omega)]
     apply hW.b<;>intro g4<;>conv=>lhs;whnf
     ·repeat((first|apply hW.t|apply hW.f|(apply hW.q;exact rqc));conv=>lhs;whnf)
      rw[← hs,show decide (0<(b[a+k]).toNat)=true from by simp at g4 ⊢;omega,Bool.or_true]
      rfl
     ·repeat((first|apply hW.t|apply hW.f|(apply hW.q;exact rqc));conv=>lhs;whnf)
      rw[← hs,show decide (0<(b[a+k]).toNat)=false from by simp at g4 ⊢;omega,Bool.or_false]
      simp only[rN,rP,rO]
      rw[show decide ((k:Int)=0)=decide (k=0) from decide_eq_decide.mpr (by omega)]
      rfl
    ·have g3:¬ (b[a+k]).toNat<128:=by simp at g3;omega
     rw[if_neg g3]at hs
     repeat((first|apply hW.t|apply hW.f|(apply hW.q;exact rqc));conv=>lhs;whnf)
     refine ih (k+1,n+(b[a+k]).toNat%128*128 ^ k) (k+1) _ ?_ ⟨rfl,by omega,(oM (by omega) hn (by omega)).2,hs⟩ (by omega)
     intro K
     conv=>lhs;whnf
     conv=>rhs;whnf
     try rfl
     rw[show IntKind.i64.wrap ((k:Int)+1)=_ from aH (by omega)]
     try rfl
  ·have:k=8:=by simp at g1;omega
   subst this
   rw[Nat.sub_self,rdF]at hs
   repeat((first|apply hW.t|apply hW.f|(apply hW.q;exact rqc));conv=>lhs;whnf)
   rw[← hs]
   rfl
 ·rfl
theorem bY {E:Env} (hE:Sys E) (b:aE) (a:Nat) (hb:b.length≤1099511627776) (ha:a≤1099511627776):E 324 [sv (bys b),iv a]=some ([iv (vN (gV (b.drop a))),iv (vP a (gV (b.drop a))),bv (gV (b.drop a)).isSome],[]):=by
 refine hE.run rfl rfl fun W hW=>?_
 conv=>lhs;whnf
 refine hW.loop (σ:=Nat × Nat) (γ:=Nat) (fun i s=>(s.sl 8 (v1 (.t (.int .i64 i.1)))).sl 7 (v1 (.t (.int .i64 i.2)))) (fun i k=>i.1=k∧k≤6∧i.2<128 ^ k∧rdF (6-k) k i.2 (b.drop (a+k))=rdN 6 b a) (fun k=>6-k) (fun _=>([iv (vN (gV (b.drop a))),iv (vP a (gV (b.drop a))),bv (gV (b.drop a)).isSome],[])) (0,0) 0 ?_ ?_ ?_ ?_
 ·intro K
  conv=>lhs;whnf
  conv=>rhs;whnf
  try rfl
 ·exact⟨rfl,by omega,by decide,rfl⟩
 ·rintro kl ⟨k,n⟩ _ ⟨rfl,hk,hn,hs⟩ ih
  simp only at hk hn hs
  conv=>lhs;whnf
  apply hW.b<;>intro g1<;>conv=>lhs;whnf
  ·have g1:k<6:=by simp at g1;omega
   rw[show 6-k=(6-(k+1))+1 from by omega]at hs
   repeat((first|apply hW.t|apply hW.f|(apply hW.q;exact rqc));conv=>lhs;whnf)
   rw[aZ,show IntKind.i64.wrap ((b.length:Int)-k)=(b.length:Int)-k from aG (by omega)]
   apply hW.b<;>intro g2<;>conv=>lhs;whnf
   ·have hl:b.length≤a+k:=by simp at g2;omega
    rw[List.drop_eq_nil_of_le hl,rdF]at hs
    repeat((first|apply hW.t|apply hW.f|(apply hW.q;exact rqc));conv=>lhs;whnf)
    rw[aH0 hs.symm]
    rfl
   ·have hl:a+k<b.length:=by simp at g2;omega
    rw[List.drop_eq_getElem_cons hl,rdF]at hs
    repeat((first|apply hW.t|apply hW.f|(apply hW.q;exact rqc));conv=>lhs;whnf)
    rw[show IntKind.i64.wrap ((a:Int)+(k:Int))=((a+k:Nat):Int) from(aG (by omega)).trans (by omega)]
    repeat((first|apply hW.t|apply hW.f|(apply hW.q;exact rqc)|(refine hW.w (bR ?_) ?_;omega));conv=>lhs;whnf)
    have hx:(b[a+k]).toNat<256:=(b[a+k]).toNat_lt
    refine hW.q (by exact(show(0:Int)≤w64 (7*(k:Int)) from by rw[aG (by omega)];omega)) ?_
    conv=>lhs;whnf
    repeat((first|apply hW.t|apply hW.f|(apply hW.q;exact rqc));conv=>lhs;whnf)
    rw[aHZ,(oM (a:=(b[a+k]).toNat%128) (by omega) hn (by omega)).1,aBn]
    apply hW.b<;>intro g3<;>conv=>lhs;whnf
    ·have g3:(b[a+k]).toNat<128:=by simp at g3;omega
     rw[if_pos g3]at hs
     rw[Nat.mod_eq_of_lt g3]
     have hq:n+(b[a+k]).toNat*128 ^ k<562949953421312:=by
      have:=(oM (a:=(b[a+k]).toNat) (by omega) hn g3).2
      have:=aCF (k:=k+1) (by omega)
      omega
     apply hW.b<;>intro g4<;>conv=>lhs;whnf
     ·repeat((first|apply hW.t|apply hW.f|(apply hW.q;exact rqc));conv=>lhs;whnf)
      apply hW.b<;>intro g5<;>conv=>lhs;whnf
      ·repeat((first|apply hW.t|apply hW.f|(apply hW.q;exact rqc));conv=>lhs;whnf)
       rw[aNv hs.symm (by simp at g4 g5 ⊢;omega)]
       rfl
      ·repeat((first|apply hW.t|apply hW.f|(apply hW.q;exact rqc));conv=>lhs;whnf)
       apply hW.b<;>intro g6<;>conv=>lhs;whnf
       ·repeat((first|apply hW.t|apply hW.f|(apply hW.q;exact rqc));conv=>lhs;whnf)
        rw[aK5 hs.symm (by have g6:=of_decide_eq_true g6;omega)]
        rfl
       ·repeat((first|apply hW.t|apply hW.f|(apply hW.q;exact rqc));conv=>lhs;whnf)
        rw[show IntKind.i64.wrap ((a:Int)+(k:Int))=((a+k:Nat):Int) from(aG (by omega)).trans (by omega),show IntKind.i64.wrap (((a+k:Nat):Int)+1)=((a+(k+1):Nat):Int) from(aG (by omega)).trans (by omega),aH1 hs.symm (by simp at g4 g5 ⊢;omega) (by have g6:=of_decide_eq_false g6;omega)]
        rfl
     ·repeat((first|apply hW.t|apply hW.f|(apply hW.q;exact rqc));conv=>lhs;whnf)
      apply hW.b<;>intro g6<;>conv=>lhs;whnf
      ·repeat((first|apply hW.t|apply hW.f|(apply hW.q;exact rqc));conv=>lhs;whnf)
       rw[aK5 hs.symm (by have g6:=of_decide_eq_true g6;omega)]
       rfl
      ·repeat((first|apply hW.t|apply hW.f|(apply hW.q;exact rqc));conv=>lhs;whnf)
       rw[show IntKind.i64.wrap ((a:Int)+(k:Int))=((a+k:Nat):Int) from(aG (by omega)).trans (by omega),show IntKind.i64.wrap (((a+k:Nat):Int)+1)=((a+(k+1):Nat):Int) from(aG (by omega)).trans (by omega),aH1 hs.symm (by simp at g4 ⊢;omega) (by have g6:=of_decide_eq_false g6;omega)]
       rfl
    ·have g3:¬ (b[a+k]).toNat<128:=by simp at g3;omega
     rw[if_neg g3]at hs
     repeat((first|apply hW.t|apply hW.f|(apply hW.q;exact rqc));conv=>lhs;whnf)
     refine ih (k+1,n+(b[a+k]).toNat%128*128 ^ k) (k+1) _ ?_ ⟨rfl,by omega,(oM (by omega) hn (by omega)).2,hs⟩ (by omega)
     intro K
     conv=>lhs;whnf
     conv=>rhs;whnf
     try rfl
     rw[show IntKind.i64.wrap ((k:Int)+1)=_ from aH (by omega)]
     try rfl
  ·have:k=6:=by simp at g1;omega
   subst this
   rw[Nat.sub_self,rdF]at hs
   repeat((first|apply hW.t|apply hW.f|(apply hW.q;exact rqc));conv=>lhs;whnf)
   rw[aH0 hs.symm]
   rfl
 ·rfl
theorem aMp:∀ {m k n:Nat} {l:aE} {x c:Nat} {o:Bool},rdF m k n l=some (x,c,o)→k<c∧c≤k+m∧c≤k+l.length:=by
 intro m
 induction m with
 |zero=>intro k n l x c o h;cases h
 |succ m ih =>
  intro k n l x c o h
  cases l with
  |nil=>cases h
  |cons y t =>
   simp only[rdF]at h
   split at h
   ·obtain⟨rfl,rfl,rfl⟩:_∧_∧_:=by simpa using h
    simp only[List.length_cons];omega
   ·have:=ih h
    simp only[List.length_cons];omega
theorem zB {b:aE} {a n c:Nat} (h:gV (b.drop a)=some (n,c)):1≤c∧c≤6∧a+c≤b.length∧n≤1000000000000:=by
 unfold gV at h
 split at h
 ·rename_i x y he
  split at h
  ·obtain⟨rfl,rfl⟩:_∧_:=by simpa using h
   have:=aMp he
   simp only[List.length_drop]at this
   omega
  ·cases h
 ·cases h
def gVa:Nat→aE→Nat→List Int→Option (List Int × Nat)
 |0,_,a,acc=>some (acc,a)
 |k+1,b,a,acc=>match gV (b.drop a) with|none=>none|some p=>gVa k b (a+p.2) (acc++[(p.1:Int)])
def laL (o:Option (List Int × Nat)):List Int:=match o with|some p=>p.1|none=>[]
def laP (o:Option (List Int × Nat)):Int:=match o with|some p=>(p.2:Int)|none=>0
theorem iG {E:Env} (hE:Sys E) (b:aE) (a k:Nat) (hb:b.length≤1048576) (ha:a≤1048576) (hk:k≤8):E 334 [sv (bys b),iv a,iv k]=some ([ov 1 (bN (laL (gVa k b a []))),iv (laP (gVa k b a [])),bv (gVa k b a []).isSome],[]):=by
 refine hE.run rfl rfl fun W hW=>?_
 conv=>lhs;whnf
 refine hW.loop (σ:=Nat × Nat × List Int) (γ:=Nat) (fun i s=>((s.sl 15 (v1 (.t (.int .i64 i.1)))).sl 1 (v1 (.t (.int .i64 i.2.1)))).bl ⟨50900,1, .own,bN i.2.2⟩) (fun i m=>i.1=m∧m≤k∧i.2.1≤1048576∧i.2.2.length≤m∧gVa (k-m) b i.2.1 i.2.2=gVa k b a []) (fun m=>k-m) (fun _=>([ov 1 (bN (laL (gVa k b a []))),iv (laP (gVa k b a [])),bv (gVa k b a []).isSome],[])) (0,a,[]) 0 ?_ ?_ ?_ ?_
 ·intro K
  conv=>lhs;whnf
  conv=>rhs;whnf
  try rfl
 ·exact⟨rfl,by omega,ha,by simp,rfl⟩
 ·rintro kl ⟨m,p,acc⟩ _ ⟨rfl,hm,hp,hl,hs⟩ ih
  simp only at hs hm hl hp
  conv=>lhs;whnf
  apply hW.b<;>intro h1<;>conv=>lhs;whnf
  ·have h1:m<k:=by simp at h1;omega
   rw[show k-m=(k-(m+1))+1 from by omega,gVa]at hs
   repeat((first|apply hW.t|apply hW.f|(apply hW.q;exact rqc));conv=>lhs;whnf)
   apply hW.w (gZ hE b p (by omega) (by omega))
   conv=>lhs;whnf
   try(apply hW.q;exact rqc;conv=>lhs;whnf)
   cases hg:gV (b.drop p) with
   |none =>
    rw[hg]at hs
    repeat((first|apply hW.t|apply hW.f|(apply hW.q;exact rqc));conv=>lhs;whnf)
    rw[← hs]
    rfl
   |some q =>
    obtain⟨n,c⟩:=q
    rw[hg]at hs
    have hc:=zB hg
    repeat((first|apply hW.t|apply hW.f|(apply hW.q;exact rqc));conv=>lhs;whnf)
    refine hW.q (by exact⟨by decide,by intro e he;simp at he;subst he;rfl,by simp[bN];omega,by simp[bN];omega⟩) ?_
    conv=>lhs;whnf
    repeat((first|apply hW.t|apply hW.f|(apply hW.q;exact rqc));conv=>lhs;whnf)
    refine ih (m+1,p+c,acc++[(n:Int)]) (m+1) _ ?_ ⟨rfl,by omega,by simp only;omega,by simp;omega,hs⟩ (by omega)
    intro K
    conv=>lhs;whnf
    conv=>rhs;whnf
    try rfl
    rw[show IntKind.i64.wrap ((m:Int)+1)=_ from aH (by omega)]
    simp[bN,qQ,vN,vP]
  ·have:m=k:=by simp at h1;omega
   subst this
   rw[Nat.sub_self,gVa]at hs
   repeat((first|apply hW.t|apply hW.f|(apply hW.q;exact rqc));conv=>lhs;whnf)
   rw[← hs]
   rfl
 ·rfl
def gP (b:aE) (a most:Nat):Option (aE × Nat):=match gV (b.drop a) with|none=>none|some q=>if q.1≤most∧q.1+(a+q.2)≤b.length then some ((b.drop (a+q.2)).take q.1,a+q.2+q.1) else none
def paB (o:Option (aE × Nat)):aE:=match o with|some p=>p.1|none=>[]
def paP (o:Option (aE × Nat)):Int:=match o with|some p=>(p.2:Int)|none=>0
theorem wY {E:Env} (hE:Sys E) (b:aE) (a n:Nat) (h0:b.length≤1048576) (h1:a≤b.length) (h3:¬ a+n≤b.length):E 255 [sv (bys b),iv a,iv n]=some ([ov 1 (bys []),bv false],[]):=by
 have ha:=bJ hE a 0 b.length
 have hb:=bJ hE n 0 (b.length-a)
 rw[show bM a 0 b.length=true from by simp[bM];omega]at ha
 rw[show bM n 0 (b.length-a)=false from by simp[bM];omega]at hb
 refine hE.run rfl rfl fun W hW=>?_
 conv=>lhs;whnf
 rw[aZ]
 apply hW.w (ha)
 conv=>lhs;whnf
 repeat((first|apply hW.t|apply hW.f|(apply hW.q;exact rqc));conv=>lhs;whnf)
 rw[aZ]
 rw[show IntKind.i64.wrap ((b.length:Int)-a)=b.length-a from aG (by omega)]
 apply hW.w (hb)
 conv=>lhs;whnf
 repeat((first|apply hW.t|apply hW.f|(apply hW.q;exact rqc));conv=>lhs;whnf)
 rfl
theorem zC {E:Env} (hE:Sys E) (b:aE) (a most:Nat) (hb:b.length≤1048576) (ha:a≤1048576) (hm:most≤1048576):E 335 [sv (bys b),iv a,iv most]=some ([ov 1 (bys (paB (gP b a most))),iv (paP (gP b a most)),bv (gP b a most).isSome],[]):=by
 have hr:=gZ hE b a (by omega) (by omega)
 unfold gP
 cases hg:gV (b.drop a) with
 |none =>
  rw[hg]at hr
  refine hE.run rfl rfl fun W hW=>?_
  conv=>lhs;whnf
  apply hW.w (hr)
  conv=>lhs;whnf
  repeat((first|apply hW.t|apply hW.f|(apply hW.q;exact rqc));conv=>lhs;whnf)
  rfl
 |some q =>
  obtain⟨n,c⟩:=q
  rw[hg]at hr
  have hc:=zB hg
  simp only
  refine hE.run rfl rfl fun W hW=>?_
  conv=>lhs;whnf
  apply hW.w (hr)
  conv=>lhs;whnf
  repeat((first|apply hW.t|apply hW.f|(apply hW.q;exact rqc));conv=>lhs;whnf)
  apply hW.b<;>intro g1<;>conv=>lhs;whnf
  ·have g1:¬ n≤most:=by simp[vN]at g1;omega
   repeat((first|apply hW.t|apply hW.f|(apply hW.q;exact rqc));conv=>lhs;whnf)
   rw[if_neg (by omega)]
   rfl
  ·have g1:n≤most:=by simp[vN]at g1;omega
   repeat((first|apply hW.t|apply hW.f|(apply hW.q;exact rqc));conv=>lhs;whnf)
   by_cases g2:a+c+n≤b.length
   ·apply hW.w (sU hE b (a+c:Nat) n (by omega) (by omega) (by omega) (by omega))
    conv=>lhs;whnf
    repeat((first|apply hW.t|apply hW.f|(apply hW.q;exact rqc));conv=>lhs;whnf)
    rw[if_pos ⟨g1,by omega⟩,show IntKind.i64.wrap (vP a (some (n,c))+vN (some (n,c)))=((a+c+n:Nat):Int) from by simp only[vP,vN];exact(aG (by omega)).trans (by omega)]
    rfl
   ·apply hW.w (wY hE b (a+c) n (by omega) (by omega) (by omega))
    conv=>lhs;whnf
    repeat((first|apply hW.t|apply hW.f|(apply hW.q;exact rqc));conv=>lhs;whnf)
    rw[if_neg (by omega)]
    rfl
theorem nU {E:Env} (hE:Sys E) (b:aE) (a most:Nat) (hb:b.length≤1048576) (ha:a≤1048576) (hm:most≤1048576):E 327 [sv (bys b),iv a,iv most]=some ([ov 1 (bys (paB (gP b a most))),iv (paP (gP b a most)),bv (gP b a most).isSome],[]):=by
 have hr:=bY hE b a (by omega) (by omega)
 unfold gP
 cases hg:gV (b.drop a) with
 |none =>
  rw[hg]at hr
  refine hE.run rfl rfl fun W hW=>?_
  conv=>lhs;whnf
  apply hW.w (hr)
  conv=>lhs;whnf
  repeat((first|apply hW.t|apply hW.f|(apply hW.q;exact rqc));conv=>lhs;whnf)
  rfl
 |some q =>
  obtain⟨n,c⟩:=q
  rw[hg]at hr
  have hc:=zB hg
  simp only
  refine hE.run rfl rfl fun W hW=>?_
  conv=>lhs;whnf
  apply hW.w (hr)
  conv=>lhs;whnf
  repeat((first|apply hW.t|apply hW.f|(apply hW.q;exact rqc));conv=>lhs;whnf)
  apply hW.b<;>intro g1<;>conv=>lhs;whnf
  ·have g1:¬ n≤most:=by simp[vN]at g1;omega
   repeat((first|apply hW.t|apply hW.f|(apply hW.q;exact rqc));conv=>lhs;whnf)
   rw[if_neg (by omega)]
   rfl
  ·have g1:n≤most:=by simp[vN]at g1;omega
   repeat((first|apply hW.t|apply hW.f|(apply hW.q;exact rqc));conv=>lhs;whnf)
   rw[aZ,show IntKind.i64.wrap ((b.length:Int)-vP a (some (n,c)))=((b.length-(a+c):Nat):Int) from by simp only[vP];exact(aG (by omega)).trans (by omega)]
   apply hW.b<;>intro g2<;>conv=>lhs;whnf
   ·have g2:¬ a+c+n≤b.length:=by simp[vN]at g2;omega
    repeat((first|apply hW.t|apply hW.f|(apply hW.q;exact rqc));conv=>lhs;whnf)
    rw[if_neg (by omega)]
    rfl
   ·have g2:a+c+n≤b.length:=by simp[vN]at g2;omega
    rw[if_pos ⟨g1,by omega⟩]
    repeat((first|apply hW.t|apply hW.f|(apply hW.q;exact rqc));conv=>lhs;whnf)
    rw[show IntKind.i64.wrap (vP a (some (n,c))+vN (some (n,c)))=((a+c+n:Nat):Int) from by simp only[vP,vN];exact(aG (by omega)).trans (by omega),show vP a (some (n,c))=((a+c:Nat):Int) from rfl]
    repeat((first|apply hW.t|apply hW.f|(apply hW.q;exact rqc));conv=>lhs;whnf)
    refine hW.q (by exact⟨by omega,by rw[aF];omega,bB b⟩) ?_
    conv=>lhs;whnf
    rw[fF]
    repeat((first|apply hW.t|apply hW.f|(apply hW.q;exact rqc));conv=>lhs;whnf)
    refine hW.q (by exact⟨by decide,bB _,by simp[aF];omega,by simp[aF];omega⟩) ?_
    conv=>lhs;whnf
    repeat((first|apply hW.t|apply hW.f|(apply hW.q;exact rqc));conv=>lhs;whnf)
    rw[show((a+c+n:Nat):Int).toNat-((a+c:Nat):Int).toNat=n from by omega]
    apply hW.bt (dB _)
    conv=>lhs;whnf
    repeat((first|apply hW.t|apply hW.f|(apply hW.q;exact rqc));conv=>lhs;whnf)
    rw[show IntKind.i64.wrap (((a+c:Nat):Int)+vN (some (n,c)))=((a+c+n:Nat):Int) from by simp only[vN];exact(aG (by omega)).trans (by omega)]
    rfl
def vQ (a:Nat) (o:Option (Nat × Nat)):Nat:=match o with|some p=>a+p.2|none=>0
theorem vP_q (a:Nat) (o:Option (Nat × Nat)):vP a o=(vQ a o:Int):=by cases o<;>rfl
theorem aNw {b:aE} {a:Nat}:vQ a (gV (b.drop a))≤b.length:=by
 cases h:gV (b.drop a) with
 |none=>exact Nat.zero_le _
 |some q=>exact(zB h).2.2.1
theorem aOl {b:aE} {a n c:Nat} (h:gS (b.drop a)=some (n,c)):1≤c∧a+c≤b.length∧rdN 8 b a=some (n,c,true):=by
 unfold gS at h
 split at h
 ·rename_i x y he
  obtain⟨rfl,rfl⟩:_∧_:=by simpa using h
  have:=aMp he
  simp only[List.length_drop]at this
  exact⟨by omega,by omega,he⟩
 ·cases h
theorem aNx {b:aE} {a:Nat} (h:gS (b.drop a)=none):rO (rdN 8 b a)=false:=by
 unfold gS at h
 unfold rdN
 split at h
 ·cases h
 ·rename_i hn
  cases hr:rdF 8 0 0 (b.drop a) with
  |none=>rfl
  |some p =>
   obtain⟨x,c,o⟩:=p
   cases o with
   |false=>rfl
   |true=>exact absurd hr (hn _ _)
def aH2 (s:Nat):Sum:=⟨(bH (bQ s)).w,s⟩
def sMs:Nat→aE→Nat→List Sum→Option (List Sum × Nat)
 |0,_,a,acc=>some (acc,a)
 |k+1,b,a,acc=>match gS (b.drop a) with|none=>none|some p=>sMs k b (a+p.2) (acc++[aH2 p.1])
def iMs:Nat→aE→Nat→List Sum→Option (List Sum × Nat)
 |0,_,a,acc=>some (acc,a)
 |k+1,b,a,acc=>match gS (b.drop a) with|none=>none|some p=>if bV p.1=true then iMs k b (a+p.2) (acc++[bH (bQ p.1)]) else none
def zD (g s n:Int) (o:Option (List Sum × Nat)):Option (Man × Nat):=match o with|none=>none|some (l,q)=>if bA ⟨g,s,n,l⟩=true then some (⟨g,s,n,l⟩,q) else none
theorem aBo {g s n:Int} {l:List Sum} {q:Nat} (h:bA ⟨g,s,n,l⟩=true):zD g s n (some (l,q))=some (⟨g,s,n,l⟩,q):=if_pos h
theorem aDF {g s n:Int} {l:List Sum} {q:Nat} (h:bA ⟨g,s,n,l⟩=false):zD g s n (some (l,q))=none:=if_neg (by rw[h];decide)
def aBx (b:aE) (a:Nat):Option (Man × Nat) :=
 match gV (b.drop a) with
 |none=>none
 |some (g,c1)=>match gV (b.drop (a+c1)) with
  |none=>none
  |some (s,c2)=>match gV (b.drop (a+c1+c2)) with
   |none=>none
   |some (n,c3)=>zD g s n (sMs (if 0<g then(bE s n).toNat else 0) b (a+c1+c2+c3) [])
def maM (o:Option (Man × Nat)):Man:=match o with|some p=>p.1|none=>⟨0,0,0,[]⟩
def maP (o:Option (Man × Nat)):Int:=match o with|some p=>(p.2:Int)|none=>0
theorem aBp {E:Env} (hE:Sys E) (b:aE) (a:Nat) (hb:b.length≤1048576) (ha:a≤1048576):E 326 [sv (bys b),iv a]=some ([gv ((maM (aBx b a)).cs dF),iv (maP (aBx b a)),bv (aBx b a).isSome],[]):=by
 have r1:=bY hE b a (by omega) (by omega)
 have q1:vQ a (gV (b.drop a))≤b.length:=aNw
 have r2:=bY hE b (vQ a (gV (b.drop a))) (by omega) (by omega)
 have q2:vQ (vQ a (gV (b.drop a))) (gV (b.drop (vQ a (gV (b.drop a)))))≤b.length:=aNw
 have r3:=bY hE b (vQ (vQ a (gV (b.drop a))) (gV (b.drop (vQ a (gV (b.drop a)))))) (by omega) (by omega)
 rw[vP_q]at r1 r2 r3
 unfold aBx
 cases h1:gV (b.drop a) with
 |none =>
  rw[h1]at r1 r2 r3
  simp only
  refine hE.run rfl rfl fun W hW=>?_
  conv=>lhs;whnf
  repeat'((first|apply hW.t|apply hW.f|(apply hW.q;exact rqc)|apply hW.w (r1)|apply hW.w (r2)|apply hW.w (r3)|(apply hW.b<;>intro h))<;>conv=>lhs;whnf)
  rfl
 |some p1 =>
  obtain⟨g,c1⟩:=p1
  have f1:=zB h1
  rw[h1]at r1 r2 r3 q1 q2
  rw[show vQ a (some (g,c1))=a+c1 from rfl]at r1 r2 r3 q2
  simp only
  cases h2:gV (b.drop (a+c1)) with
  |none =>
   rw[h2]at r2 r3
   simp only
   refine hE.run rfl rfl fun W hW=>?_
   conv=>lhs;whnf
   repeat'((first|apply hW.t|apply hW.f|(apply hW.q;exact rqc)|apply hW.w (r1)|apply hW.w (r2)|apply hW.w (r3)|(apply hW.b<;>intro h))<;>conv=>lhs;whnf)
   rfl
  |some p2 =>
   obtain⟨s,c2⟩:=p2
   have f2:=zB h2
   rw[h2]at r2 r3 q2
   rw[show vQ (a+c1) (some (s,c2))=a+c1+c2 from rfl]at r2 r3
   simp only
   cases h3:gV (b.drop (a+c1+c2)) with
   |none =>
    rw[h3]at r3
    simp only
    refine hE.run rfl rfl fun W hW=>?_
    conv=>lhs;whnf
    repeat'((first|apply hW.t|apply hW.f|(apply hW.q;exact rqc)|apply hW.w (r1)|apply hW.w (r2)|apply hW.w (r3)|(apply hW.b<;>intro h))<;>conv=>lhs;whnf)
    rfl
   |some p3 =>
    obtain⟨n,c3⟩:=p3
    have f3:=zB h3
    rw[h3]at r3
    rw[show vQ (a+c1+c2) (some (n,c3))=a+c1+c2+c3 from rfl]at r3
    simp only
    have hB:=jF (s:Int) (n:Int)
    obtain⟨nb,hnb⟩:∃ nb:Nat,bE (s:Int) (n:Int)=nb:=⟨(bE (s:Int) (n:Int)).toNat,by omega⟩
    rw[hnb,Int.toNat_natCast]
    refine hE.run rfl rfl fun W hW=>?_
    conv=>lhs;whnf
    repeat'((first|apply hW.t|apply hW.f|(apply hW.q;exact rqc)|apply hW.w (r1)|apply hW.w (r2)|apply hW.w (r3)|(apply hW.b<;>intro h))<;>conv=>lhs;whnf)
    obtain⟨K,hK⟩:∃ K:Nat,K=if 0<g then nb else 0:=⟨_,rfl⟩
    rw[← hK]
    have hK40:K≤40:=by rw[hK];split<;>omega
    have fv:vN (some (g,c1))=(g:Int):=rfl
    have fs:vN (some (s,c2))=(s:Int):=rfl
    have fn:vN (some (n,c3))=(n:Int):=rfl
    rw[fv,fs,fn]
    generalize hR:zD g s n (sMs K b (a+c1+c2+c3) [])=R
    refine hW.loop (σ:=Nat × Nat × List Sum) (γ:=Nat) (fun i s'=>(((s'.sl 18 (v1 (.t (.int .i64 i.1)))).sl 15 (v1 (.t (.int .i64 i.2.1)))).sl 17 (.box true [.t (.int .i64 g), .t (.int .i64 s), .t (.int .i64 n), .blk 51703])).bl ⟨51703,2, .own,i.2.2.map Sum.row⟩) (fun i m=>i.1=m∧m≤K∧i.2.1≤1048576∧i.2.2.length≤m∧zD g s n (sMs (K-m) b i.2.1 i.2.2)=R) (fun m=>K-m) (fun _=>([gv ((maM R).cs dF),iv (maP R),bv R.isSome],[])) (0,a+c1+c2+c3,[]) 0 ?_ ?_ ?_ ?_
    ·intro K
     conv=>lhs;whnf
     conv=>rhs;whnf
     try rfl
    ·exact⟨rfl,by omega,by simp only;omega,by simp,hR⟩
    ·rintro kl ⟨m,p,acc⟩ _ ⟨rfl,hm,hp,hl,hs⟩ ih
     simp only at hs hm hl hp
     conv=>lhs;whnf
     apply hW.w ((fB hE s n))
     conv=>lhs;whnf
     try(apply hW.q;exact rqc;conv=>lhs;whnf)
     rw[hnb]
     apply hW.b<;>intro g1<;>conv=>lhs;whnf
     ·have g1:m<nb:=by simp at g1;omega
      repeat((first|apply hW.t|apply hW.f|(apply hW.q;exact rqc));conv=>lhs;whnf)
      apply hW.b<;>intro g2<;>conv=>lhs;whnf
      ·have g2:0<g:=by simp at g2;omega
       rw[if_pos g2]at hK
       rw[show K-m=(K-(m+1))+1 from by omega,sMs]at hs
       repeat((first|apply hW.t|apply hW.f|(apply hW.q;exact rqc));conv=>lhs;whnf)
       have rg:=wX hE b p (by omega) (by omega)
       cases hg:gS (b.drop p) with
       |none =>
        rw[hg]at hs
        rw[aNx hg]at rg
        apply hW.w (rg)
        conv=>lhs;whnf
        repeat((first|apply hW.t|apply hW.f|(apply hW.q;exact rqc));conv=>lhs;whnf)
        rw[← hs]
        rfl
       |some q =>
        obtain⟨x,c⟩:=q
        rw[hg]at hs
        have hc:=aOl hg
        rw[hc.2.2]at rg
        apply hW.w (rg)
        conv=>lhs;whnf
        repeat((first|apply hW.t|apply hW.f|(apply hW.q;exact rqc));conv=>lhs;whnf)
        apply hW.w (nH hE x)
        conv=>lhs;whnf
        repeat((first|apply hW.t|apply hW.f|(apply hW.q;exact rqc));conv=>lhs;whnf)
        apply hW.w (dV hE (bQ x) (Nat.le_trans (hU x) (by decide)))
        conv=>lhs;whnf
        repeat((first|apply hW.t|apply hW.f|(apply hW.q;exact rqc));conv=>lhs;whnf)
        refine hW.q (by exact⟨by decide,by intro e he;simp at he;subst he;rfl,by simp;omega,by simp;omega⟩) ?_
        conv=>lhs;whnf
        repeat((first|apply hW.t|apply hW.f|(apply hW.q;exact rqc));conv=>lhs;whnf)
        refine ih (m+1,p+c,acc++[aH2 x]) (m+1) _ ?_ ⟨rfl,by omega,by simp only;omega,by simp;omega,hs⟩ (by omega)
        intro K
        conv=>lhs;whnf
        conv=>rhs;whnf
        try rfl
        rw[show IntKind.i64.wrap ((m:Int)+1)=_ from aH (by omega)]
        rw[List.map_append]
        rfl
      ·have g2:¬ 0<g:=by simp at g2;omega
       rw[if_neg g2]at hK
       have:m=K:=by omega
       subst this
       rw[Nat.sub_self,sMs]at hs
       repeat((first|apply hW.t|apply hW.f|(apply hW.q;exact rqc));conv=>lhs;whnf)
       have rm:=dI hE ⟨g,s,n,acc⟩ (by simp only;omega)
       cases hok:bA ⟨g,s,n,acc⟩ with
       |true =>
        rw[hok]at rm
        rw[aBo hok]at hs
        apply hW.w (rm)
        conv=>lhs;whnf
        repeat((first|apply hW.t|apply hW.f|(apply hW.q;exact rqc));conv=>lhs;whnf)
        rw[← hs]
        rfl
       |false =>
        rw[hok]at rm
        rw[aDF hok]at hs
        apply hW.w (rm)
        conv=>lhs;whnf
        repeat((first|apply hW.t|apply hW.f|(apply hW.q;exact rqc));conv=>lhs;whnf)
        rw[← hs]
        rfl
     ·have g1:¬ m<nb:=by simp at g1;omega
      have:m=K:=by
       have:K≤nb:=by rw[hK];split<;>omega
       omega
      subst this
      rw[Nat.sub_self,sMs]at hs
      repeat((first|apply hW.t|apply hW.f|(apply hW.q;exact rqc));conv=>lhs;whnf)
      have rm:=dI hE ⟨g,s,n,acc⟩ (by simp only;omega)
      cases hok:bA ⟨g,s,n,acc⟩ with
      |true =>
       rw[hok]at rm
       rw[aBo hok]at hs
       apply hW.w (rm)
       conv=>lhs;whnf
       repeat((first|apply hW.t|apply hW.f|(apply hW.q;exact rqc));conv=>lhs;whnf)
       rw[← hs]
       rfl
      |false =>
       rw[hok]at rm
       rw[aDF hok]at hs
       apply hW.w (rm)
       conv=>lhs;whnf
       repeat((first|apply hW.t|apply hW.f|(apply hW.q;exact rqc));conv=>lhs;whnf)
       rw[← hs]
       rfl
    ·rfl
def aF6 (b:aE) (a:Nat):Option (Man × Nat) :=
 match gV (b.drop a) with
 |none=>none
 |some (g,c1)=>match gV (b.drop (a+c1)) with
  |none=>none
  |some (s,c2)=>match gV (b.drop (a+c1+c2)) with
   |none=>none
   |some (n,c3)=>zD g s n (iMs (bE s n).toNat b (a+c1+c2+c3) [])
theorem aBq {E:Env} (hE:Sys E) (b:aE) (a:Nat) (hb:b.length≤1048576) (ha:a≤1048576):E 333 [sv (bys b),iv a]=some ([gv ((maM (aF6 b a)).cs dF),iv (maP (aF6 b a)),bv (aF6 b a).isSome],[]):=by
 have r1:=iG hE b a 3 hb ha (by decide)
 unfold aF6
 cases h1:gV (b.drop a) with
 |none =>
  simp only[gVa,h1]at r1
  simp only
  refine hE.run rfl rfl fun W hW=>?_
  conv=>lhs;whnf
  repeat'((first|apply hW.t|apply hW.f|(apply hW.q;exact rqc)|apply hW.w (r1)|(apply hW.b<;>intro h))<;>conv=>lhs;whnf)
  rfl
 |some p1 =>
  obtain⟨g,c1⟩:=p1
  have f1:=zB h1
  simp only
  cases h2:gV (b.drop (a+c1)) with
  |none =>
   simp only[gVa,h1,h2]at r1
   simp only
   refine hE.run rfl rfl fun W hW=>?_
   conv=>lhs;whnf
   repeat'((first|apply hW.t|apply hW.f|(apply hW.q;exact rqc)|apply hW.w (r1)|(apply hW.b<;>intro h))<;>conv=>lhs;whnf)
   rfl
  |some p2 =>
   obtain⟨s,c2⟩:=p2
   have f2:=zB h2
   simp only
   cases h3:gV (b.drop (a+c1+c2)) with
   |none =>
    simp only[gVa,h1,h2,h3]at r1
    simp only
    refine hE.run rfl rfl fun W hW=>?_
    conv=>lhs;whnf
    repeat'((first|apply hW.t|apply hW.f|(apply hW.q;exact rqc)|apply hW.w (r1)|(apply hW.b<;>intro h))<;>conv=>lhs;whnf)
    rfl
   |some p3 =>
    obtain⟨n,c3⟩:=p3
    have f3:=zB h3
    simp only[gVa,h1,h2,h3,List.nil_append,List.cons_append]at r1
    simp only
    have hB:=jF (s:Int) (n:Int)
    obtain⟨K,hK⟩:∃ K:Nat,bE (s:Int) (n:Int)=K:=⟨(bE (s:Int) (n:Int)).toNat,by omega⟩
    have r2:=fD hE s n
    rw[hK]at r2
    rw[hK,Int.toNat_natCast]
    refine hE.run rfl rfl fun W hW=>?_
    conv=>lhs;whnf
    rw[show laL (some ([(g:Int),s,n],a+c1+c2+c3))=[(g:Int),s,n] from rfl,show laP (some ([(g:Int),s,n],a+c1+c2+c3))=((a+c1+c2+c3:Nat):Int) from rfl]at r1
    have l0:(bN [(g:Int),s,n])[Int.toNat 0]?=some (qQ g):=rfl
    have l1:(bN [(g:Int),s,n])[Int.toNat 1]?=some (qQ s):=rfl
    have l2:(bN [(g:Int),s,n])[Int.toNat 2]?=some (qQ n):=rfl
    repeat'((first|apply hW.t|apply hW.f|(apply hW.q;exact rqc)|apply hW.w (r1)|apply hW.w (r2)|apply hW.w (l0)|apply hW.w (l1)|apply hW.w (l2)|(apply hW.b<;>intro h))<;>conv=>lhs;whnf)
    generalize hR:zD g s n (iMs K b (a+c1+c2+c3) [])=R
    refine hW.loop (σ:=Nat × Nat × List Sum) (γ:=Nat) (fun i s'=>(((s'.sl 40 (v1 (.t (.int .i64 i.1)))).sl 1 (v1 (.t (.int .i64 i.2.1)))).sl 9 (.box true [.t (.int .i64 g), .t (.int .i64 s), .t (.int .i64 n), .blk 50903])).bl ⟨50903,2, .own,i.2.2.map Sum.row⟩) (fun i m=>i.1=m∧m≤K∧i.2.1≤1048576∧i.2.2.length≤m∧zD g s n (iMs (K-m) b i.2.1 i.2.2)=R) (fun m=>K-m) (fun _=>([gv ((maM R).cs dF),iv (maP R),bv R.isSome],[])) (0,a+c1+c2+c3,[]) 0 ?_ ?_ ?_ ?_
    ·intro K
     conv=>lhs;whnf
     conv=>rhs;whnf
     try rfl
    ·exact⟨rfl,by omega,by simp only;omega,by simp,hR⟩
    ·rintro kl ⟨m,p,acc⟩ _ ⟨rfl,hm,hp,hl,hs⟩ ih
     simp only at hs hm hl hp
     conv=>lhs;whnf
     apply hW.b<;>intro g1<;>conv=>lhs;whnf
     ·have g1:m<K:=by simp at g1;omega
      rw[show K-m=(K-(m+1))+1 from by omega,iMs]at hs
      repeat((first|apply hW.t|apply hW.f|(apply hW.q;exact rqc));conv=>lhs;whnf)
      have rg:=nT hE b p 8 (by omega) (by omega) (by decide)
      cases hg:gS (b.drop p) with
      |none =>
       rw[hg]at hs
       rw[aNx hg]at rg
       apply hW.w (rg)
       conv=>lhs;whnf
       repeat((first|apply hW.t|apply hW.f|(apply hW.q;exact rqc));conv=>lhs;whnf)
       apply hW.w (iU hE (rN (rdN 8 b p)))
       conv=>lhs;whnf
       repeat((first|apply hW.t|apply hW.f|(apply hW.q;exact rqc));conv=>lhs;whnf)
       rw[← hs]
       rfl
      |some q =>
       obtain⟨x,c⟩:=q
       rw[hg]at hs
       simp only at hs
       have hc:=aOl hg
       rw[hc.2.2]at rg
       apply hW.w (rg)
       conv=>lhs;whnf
       repeat((first|apply hW.t|apply hW.f|(apply hW.q;exact rqc));conv=>lhs;whnf)
       have rb:=iU hE x
       cases hk:bV (x:Int) with
       |false =>
        rw[hk]at rb
        rw[if_neg (by rw[hk];decide)]at hs
        apply hW.w (rb)
        conv=>lhs;whnf
        repeat((first|apply hW.t|apply hW.f|(apply hW.q;exact rqc));conv=>lhs;whnf)
        rw[← hs]
        rfl
       |true =>
        rw[hk]at rb
        rw[if_pos hk]at hs
        apply hW.w (rb)
        conv=>lhs;whnf
        repeat((first|apply hW.t|apply hW.f|(apply hW.q;exact rqc));conv=>lhs;whnf)
        apply hW.w (gH hE (bQ x) (Nat.le_trans (hU x) (by decide)))
        conv=>lhs;whnf
        repeat((first|apply hW.t|apply hW.f|(apply hW.q;exact rqc));conv=>lhs;whnf)
        refine hW.q (by exact⟨by decide,by intro e he;simp at he;subst he;rfl,by simp;omega,by simp;omega⟩) ?_
        conv=>lhs;whnf
        repeat((first|apply hW.t|apply hW.f|(apply hW.q;exact rqc));conv=>lhs;whnf)
        refine ih (m+1,p+c,acc++[bH (bQ x)]) (m+1) _ ?_ ⟨rfl,by omega,by simp only;omega,by simp;omega,hs⟩ (by omega)
        intro K
        conv=>lhs;whnf
        conv=>rhs;whnf
        try rfl
        rw[show IntKind.i64.wrap ((m:Int)+1)=_ from aH (by omega)]
        rw[List.map_append]
        rfl
     ·have:m=K:=by simp at g1;omega
      subst this
      rw[Nat.sub_self,iMs]at hs
      repeat((first|apply hW.t|apply hW.f|(apply hW.q;exact rqc));conv=>lhs;whnf)
      have rm:=dW hE ⟨g,s,n,acc⟩ (by simp only;omega)
      cases hok:bA ⟨g,s,n,acc⟩ with
      |true =>
       rw[hok]at rm
       rw[aBo hok]at hs
       apply hW.w (rm)
       conv=>lhs;whnf
       repeat((first|apply hW.t|apply hW.f|(apply hW.q;exact rqc));conv=>lhs;whnf)
       rw[← hs]
       rfl
      |false =>
       rw[hok]at rm
       rw[aDF hok]at hs
       apply hW.w (rm)
       conv=>lhs;whnf
       repeat((first|apply hW.t|apply hW.f|(apply hW.q;exact rqc));conv=>lhs;whnf)
       rw[← hs]
       rfl
    ·rfl
def gWa:Nat→aE→Nat→List Int→Option (List Int × Nat)
 |0,_,a,acc=>some (acc,a)
 |k+1,b,a,acc=>match gV (b.drop a) with|none=>none|some p=>if p.1<1048576 then gWa k b (a+p.2) (acc++[(p.1:Int)]) else none
def mB:Man:=⟨0,0,0,[]⟩
def aMq (g:Nat) (o:Option (List Int × Nat)):Option (Msg × Nat):=match o with|some ([w0,w1,d0,d1],q)=>some (⟨2,g,mB,w0+w1*1048576,d0+d1*1048576,0,[]⟩,q)|_=>none
def aOm (g i:Nat) (o:Option (aE × Nat)):Option (Msg × Nat):=match o with|some (p,q)=>some (⟨3,g,mB,0,0,i,p⟩,q)|none=>none
def mMsg (o:Option (Man × Nat)):Option (Msg × Nat):=match o with|some (x,q)=>some (⟨1,0,x,0,0,0,[]⟩,q)|none=>none
def eC (b:aE) (a k:Nat):Option (Msg × Nat) :=
 if k=1 then mMsg (aBx b a) else
 match gV (b.drop a) with
 |none=>none
 |some (g,c) =>
  if k=2 then aMq g (gWa 4 b (a+c) [])
  else if k=3 then(match gV (b.drop (a+c)) with|none=>none|some (i,d)=>aOm g i (gP b (a+c+d) 6))
  else some (⟨k,g,mB,0,0,0,[]⟩,a+c)
def aCG (E:Env) (b:aE) (a k:Nat):Prop:=∃ r p,E 325 [sv (bys b),iv a,iv k]=some ([gv (Msg.cs dF r),iv p,bv (eC b a k).isSome],[])∧∀ m q,eC b a k=some (m,q)→r=m∧p=(q:Nat)
theorem wZ {E:Env} (hE:Sys E) (b:aE) (a:Nat) (hb:b.length≤1048576) (ha:a≤1048576):aCG E b a 1:=by
 have r1:=aBp hE b a hb ha
 refine⟨⟨1,0,maM (aBx b a),0,0,0,[]⟩,maP (aBx b a),?_,?_⟩
 ·rw[show(eC b a 1).isSome=(aBx b a).isSome from by unfold eC;rw[if_pos rfl];cases aBx b a<;>rfl]
  refine hE.run rfl rfl fun W hW=>?_
  conv=>lhs;whnf
  repeat'((first|apply hW.t|apply hW.f|(apply hW.q;exact rqc)|apply hW.w (r1)|(apply hW.b<;>intro h))<;>conv=>lhs;whnf)
  rfl
 ·intro m q h
  unfold eC at h
  rw[if_pos rfl]at h
  cases hm:aBx b a with
  |none=>rw[hm]at h;cases h
  |some x =>
   rw[hm]at h
   obtain⟨x,y⟩:=x
   have h:(⟨1,0,x,0,0,0,[]⟩,y)=(m,q):=Option.some.inj h
   cases h
   exact⟨rfl,rfl⟩
theorem xA {E:Env} (hE:Sys E) (b:aE) (a:Nat) (hb:b.length≤1048576) (ha:a≤1048576):aCG E b a 3:=by
 have r1:=bY hE b a (by omega) (by omega)
 unfold aCG
 cases h1:gV (b.drop a) with
 |none =>
  rw[h1]at r1
  rw[show eC b a 3=none from by unfold eC;rw[if_neg (by decide),h1]]
  refine⟨⟨3,0,mB,0,0,0,[]⟩,0,?_,by intro m q h;cases h⟩
  refine hE.run rfl rfl fun W hW=>?_
  conv=>lhs;whnf
  repeat'((first|apply hW.t|apply hW.f|(apply hW.q;exact rqc)|apply hW.w (r1)|(apply hW.b<;>intro h))<;>conv=>lhs;whnf)
  rfl
 |some p1 =>
  obtain⟨g,c⟩:=p1
  have f1:=zB h1
  rw[h1]at r1
  rw[show eC b a 3=(match gV (b.drop (a+c)) with|none=>none|some (i,d)=>aOm g i (gP b (a+c+d) 6)) from by unfold eC;rw[if_neg (by decide),h1];rfl]
  have r2:=bY hE b (a+c) (by omega) (by omega)
  cases h2:gV (b.drop (a+c)) with
  |none =>
   rw[h2]at r2
   have r3:=nU hE b 0 6 (by omega) (by omega) (by decide)
   refine⟨⟨3,g,mB,0,0,0,paB (gP b 0 6)⟩,paP (gP b 0 6),?_,by intro m q h;cases h⟩
   refine hE.run rfl rfl fun W hW=>?_
   conv=>lhs;whnf
   repeat'((first|apply hW.t|apply hW.f|(apply hW.q;exact rqc)|apply hW.w (r1)|apply hW.w (r2)|apply hW.w (r3)|(apply hW.b<;>intro h))<;>conv=>lhs;whnf)
   rfl
  |some p2 =>
   obtain⟨i,d⟩:=p2
   have f2:=zB h2
   rw[h2]at r2
   simp only
   have r3:=nU hE b (a+c+d) 6 (by omega) (by omega) (by decide)
   refine⟨⟨3,g,mB,0,0,i,paB (gP b (a+c+d) 6)⟩,paP (gP b (a+c+d) 6),?_,?_⟩
   ·rw[show(aOm g i (gP b (a+c+d) 6)).isSome=(gP b (a+c+d) 6).isSome from by cases gP b (a+c+d) 6<;>rfl]
    refine hE.run rfl rfl fun W hW=>?_
    conv=>lhs;whnf
    repeat'((first|apply hW.t|apply hW.f|(apply hW.q;exact rqc)|apply hW.w (r1)|apply hW.w (r2)|apply hW.w (r3)|(apply hW.b<;>intro h))<;>conv=>lhs;whnf)
    rfl
   ·intro m q h
    cases hm:gP b (a+c+d) 6 with
    |none=>rw[hm]at h;cases h
    |some x =>
     rw[hm]at h
     obtain⟨x,y⟩:=x
     have h:(⟨3,g,mB,0,0,i,x⟩,y)=(m,q):=Option.some.inj h
     cases h
     exact⟨rfl,rfl⟩
theorem xB {E:Env} (hE:Sys E) (b:aE) (a k:Nat) (hb:b.length≤1048576) (ha:a≤1048576) (k1:k≠1) (k2:k≠2) (k3:k≠3):aCG E b a k:=by
 have r1:=bY hE b a (by omega) (by omega)
 have e1:decide ((k:Int)=1)=false:=decide_eq_false (by omega)
 have e2:decide ((k:Int)=2)=false:=decide_eq_false (by omega)
 have e3:decide ((k:Int)=3)=false:=decide_eq_false (by omega)
 unfold aCG
 cases h1:gV (b.drop a) with
 |none =>
  rw[h1]at r1
  rw[show eC b a k=none from by unfold eC;rw[if_neg k1,h1]]
  refine⟨⟨k,0,mB,0,0,0,[]⟩,0,?_,by intro m q h;cases h⟩
  refine hE.run rfl rfl fun W hW=>?_
  conv=>lhs;whnf
  repeat'((first|with_reducible apply hW.bf (e1)|with_reducible apply hW.bf (e2)|with_reducible apply hW.bf (e3)|apply hW.t|apply hW.f|(apply hW.q;exact rqc)|apply hW.w (r1)|(apply hW.b<;>intro h))<;>conv=>lhs;whnf)
  rfl
 |some p1 =>
  obtain⟨g,c⟩:=p1
  have f1:=zB h1
  rw[h1]at r1
  rw[show eC b a k=some (⟨k,g,mB,0,0,0,[]⟩,a+c) from by unfold eC;rw[if_neg k1,h1];simp only;rw[if_neg k2,if_neg k3]]
  refine⟨⟨k,g,mB,0,0,0,[]⟩,((a+c:Nat):Int),?_,?_⟩
  ·refine hE.run rfl rfl fun W hW=>?_
   conv=>lhs;whnf
   repeat'((first|with_reducible apply hW.bf (e1)|with_reducible apply hW.bf (e2)|with_reducible apply hW.bf (e3)|apply hW.t|apply hW.f|(apply hW.q;exact rqc)|apply hW.w (r1)|(apply hW.b<;>intro h))<;>conv=>lhs;whnf)
   rfl
  ·intro m q h
   have h:=Option.some.inj h
   cases h
   exact⟨rfl,rfl⟩
def wR (g:Nat) (o:Option (Msg × Nat)):Msg:=match o with|some p=>p.1|none=>⟨2,g,mB,0,0,0,[]⟩
def wP (o:Option (Msg × Nat)):Int:=match o with|some p=>(p.2:Nat)|none=>0
theorem aMr {x:Int} (h0:0≤x) (h1:x<1048576):IntKind.i64.wrap (x*2 ^ (min (20:Int).toNat IntKind.i64.bits))=x*1048576:=by
 rw[show min (20:Int).toNat IntKind.i64.bits=20 from by decide,show(2:Int) ^ 20=1048576 from by decide]
 exact aG (by omega)
theorem aNy {x y:Int} (h0:0≤x) (h1:x<1048576) (h2:0≤y) (h3:y<1048576):IntKind.i64.wrap (x+y*1048576)=x+y*1048576:=aG (by omega)
theorem xC {E:Env} (hE:Sys E) (b:aE) (a:Nat) (hb:b.length≤1048576) (ha:a≤1048576):aCG E b a 2:=by
 have r1:=bY hE b a (by omega) (by omega)
 unfold aCG
 cases h1:gV (b.drop a) with
 |none =>
  rw[h1]at r1
  rw[show eC b a 2=none from by unfold eC;rw[if_neg (by decide),h1]]
  refine⟨⟨2,0,mB,0,0,0,[]⟩,0,?_,by intro m q h;cases h⟩
  refine hE.run rfl rfl fun W hW=>?_
  conv=>lhs;whnf
  repeat'((first|apply hW.t|apply hW.f|(apply hW.q;exact rqc)|apply hW.w (r1)|(apply hW.b<;>intro h))<;>conv=>lhs;whnf)
  rfl
 |some p1 =>
  obtain⟨g,c⟩:=p1
  have f1:=zB h1
  rw[h1]at r1
  rw[show vP a (some (g,c))=((a+c:Nat):Int) from rfl,show vN (some (g,c))=(g:Int) from rfl]at r1
  rw[show eC b a 2=aMq g (gWa 4 b (a+c) []) from by unfold eC;rw[if_neg (by decide),h1];rfl]
  generalize hR:aMq g (gWa 4 b (a+c) [])=R
  refine⟨wR g R,wP R,?_,by rintro m q rfl;exact⟨rfl,rfl⟩⟩
  refine hE.run rfl rfl fun W hW=>?_
  conv=>lhs;whnf
  repeat'((first|apply hW.t|apply hW.f|(apply hW.q;exact rqc)|apply hW.w (r1)|(apply hW.b<;>intro h))<;>conv=>lhs;whnf)
  refine hW.loop (σ:=Nat × Nat × List Int) (γ:=Nat) (fun i s'=>(((s'.sl 17 (v1 (.t (.int .i64 i.1)))).sl 14 (v1 (.t (.int .i64 i.2.1))))).bl ⟨51600,1, .own,bN i.2.2⟩) (fun i m=>i.1=m∧m≤4∧i.2.1≤1048576∧i.2.2.length=m∧(∀ x∈i.2.2,0≤x∧x<1048576)∧aMq g (gWa (4-m) b i.2.1 i.2.2)=R) (fun m=>4-m) (fun _=>([gv ((wR g R).cs dF),iv (wP R),bv R.isSome],[])) (0,a+c,[]) 0 ?_ ?_ ?_ ?_
  ·intro K
   conv=>lhs;whnf
   conv=>rhs;whnf
   try rfl
  ·exact⟨rfl,by omega,by simp only;omega,rfl,by simp,hR⟩
  ·rintro kl ⟨m,p,acc⟩ _ ⟨rfl,hm,hp,hl,hx,hs⟩ ih
   simp only at hs hm hl hp hx
   conv=>lhs;whnf
   apply hW.b<;>intro g1<;>conv=>lhs;whnf
   ·have g1:m<4:=by simp at g1;omega
    rw[show 4-m=(4-(m+1))+1 from by omega,gWa]at hs
    repeat((first|apply hW.t|apply hW.f|(apply hW.q;exact rqc));conv=>lhs;whnf)
    have r2:=bY hE b p (by omega) (by omega)
    cases hg:gV (b.drop p) with
    |none =>
     rw[hg]at hs r2
     apply hW.w (r2)
     conv=>lhs;whnf
     repeat((first|apply hW.t|apply hW.f|(apply hW.q;exact rqc));conv=>lhs;whnf)
     rw[← hs]
     rfl
    |some q =>
     obtain⟨n,d⟩:=q
     have hc:=zB hg
     rw[hg]at hs r2
     simp only at hs
     apply hW.w (r2)
     conv=>lhs;whnf
     repeat((first|apply hW.t|apply hW.f|(apply hW.q;exact rqc));conv=>lhs;whnf)
     apply hW.b<;>intro g2<;>conv=>lhs;whnf
     ·have g2:¬ n<1048576:=by simp[vN]at g2;omega
      rw[if_neg g2]at hs
      repeat((first|apply hW.t|apply hW.f|(apply hW.q;exact rqc));conv=>lhs;whnf)
      rw[← hs]
      rfl
     ·have g2:n<1048576:=by simp[vN]at g2;omega
      rw[if_pos g2]at hs
      repeat((first|apply hW.t|apply hW.f|(apply hW.q;exact rqc));conv=>lhs;whnf)
      refine hW.q (by exact⟨by decide,by intro e he;simp at he;subst he;rfl,by simp[bN];omega,by simp[bN];omega⟩) ?_
      conv=>lhs;whnf
      repeat((first|apply hW.t|apply hW.f|(apply hW.q;exact rqc));conv=>lhs;whnf)
      refine ih (m+1,p+d,acc++[(n:Int)]) (m+1) _ ?_ ⟨rfl,by omega,by simp only;omega,by simp;omega,?_,hs⟩ (by omega)
      ·intro K
       conv=>lhs;whnf
       conv=>rhs;whnf
       try rfl
       rw[show IntKind.i64.wrap ((m:Int)+1)=_ from aH (by omega)]
       simp[bN,qQ,vN,vP]
      ·intro x h
       rcases List.mem_append.mp h with h|h
       ·exact hx x h
       ·simp at h;omega
   ·have:m=4:=by simp at g1;omega
    subst this
    match acc,hl,hx,hs with
    |[w0,w1,d0,d1],hl,hx,hs =>
    rw[Nat.sub_self,gWa]at hs
    have x0:=hx w0 (by simp)
    have x1:=hx w1 (by simp)
    have x2:=hx d0 (by simp)
    have x3:=hx d1 (by simp)
    have l0:(bN [w0,w1,d0,d1])[Int.toNat 0]?=some (qQ w0):=rfl
    have l1:(bN [w0,w1,d0,d1])[Int.toNat 1]?=some (qQ w1):=rfl
    have l2:(bN [w0,w1,d0,d1])[Int.toNat 2]?=some (qQ d0):=rfl
    have l3:(bN [w0,w1,d0,d1])[Int.toNat 3]?=some (qQ d1):=rfl
    repeat'((first|apply hW.t|apply hW.f|(apply hW.q;exact rqc)|apply hW.w (l0)|apply hW.w (l1)|apply hW.w (l2)|apply hW.w (l3)|(apply hW.b<;>intro h))<;>conv=>lhs;whnf)
    rw[aMr x1.1 x1.2,aNy x0.1 x0.2 x1.1 x1.2,aMr x3.1 x3.2,aNy x2.1 x2.2 x3.1 x3.2]
    rw[← hs]
    rfl
  ·rfl
theorem zE {E:Env} (hE:Sys E) (b:aE) (a k:Nat) (hb:b.length≤1048576) (ha:a≤1048576):aCG E b a k:=by
 by_cases k1:k=1
 ·subst k1;exact wZ hE b a hb ha
 by_cases k2:k=2
 ·subst k2;exact xC hE b a hb ha
 by_cases k3:k=3
 ·subst k3;exact xA hE b a hb ha
 exact xB hE b a k hb ha k1 k2 k3
theorem aH3:∀ {k:Nat} {b:aE} {a:Nat} {acc l:List Int} {q:Nat},gVa k b a acc=some (l,q)→l.length=acc.length+k∧(k≠0→q≤b.length):=by
 intro k
 induction k with
 |zero=>intro b a acc l q h;cases h;exact⟨rfl,fun h=>absurd rfl h⟩
 |succ k ih =>
  intro b a acc l q h
  rw[gVa]at h
  cases hg:gV (b.drop a) with
  |none=>rw[hg]at h;cases h
  |some p =>
   rw[hg]at h
   have:=ih h
   simp only[List.length_append,List.length_cons,List.length_nil]at this
   refine⟨by omega,fun _=>?_⟩
   by_cases hk:k=0
   ·subst hk
    cases h
    exact(zB hg).2.2.1
   ·exact this.2 hk
def aMs (x:Int):Int:=IntKind.i64.wrap (x*2 ^ (min (20:Int).toNat IntKind.i64.bits))
def aKh (o:Option (List Int × Nat)):Option Msg:=match o with|some ([g,w0,w1,d0,d1],_)=>some ⟨2,g,mB,wor w0 (aMs w1),wor d0 (aMs d1),0,[]⟩|_=>none
def aH4 (b:aE) (o:Option (List Int × Nat)):Option Msg:=match o with|some ([g,i],q)=>(match gP b q 6 with|some (p,_)=>some ⟨3,g,mB,0,0,i,p⟩|none=>none)|_=>none
def iJ (b:aE) (a k:Nat):Option Msg :=
 if k=1 then(match aF6 b a with|some (x,_)=>some ⟨1,0,x,0,0,0,[]⟩|none=>none)
 else if k=2 then aKh (gVa 5 b a [])
 else if k=3 then aH4 b (gVa 2 b a [])
 else if k=4 then(match gV (b.drop a) with|some (g,_)=>some ⟨4,g,mB,0,0,0,[]⟩|none=>none)
 else none
def xD (E:Env) (b:aE) (a k:Nat):Prop:=∃ r,E 331 [sv (bys b),iv k,iv a]=some ([gv (Msg.cs dF r),bv (iJ b a k).isSome],[])∧∀ m,iJ b a k=some m→r=m
theorem xE {E:Env} (hE:Sys E) (b:aE) (a:Nat) (hb:b.length≤1048576) (ha:a≤1048576):xD E b a 1:=by
 have r1:=aBq hE b a hb ha
 unfold xD
 rw[show iJ b a 1=(match aF6 b a with|some (x,_)=>some ⟨1,0,x,0,0,0,[]⟩|none=>none) from rfl]
 cases h1:aF6 b a with
 |none =>
  rw[h1]at r1
  refine⟨⟨1,0,mB,0,0,0,[]⟩,?_,by intro m h;cases h⟩
  refine hE.run rfl rfl fun W hW=>?_
  conv=>lhs;whnf
  repeat'((first|apply hW.t|apply hW.f|(apply hW.q;exact rqc)|apply hW.w (r1)|(apply hW.b<;>intro h))<;>conv=>lhs;whnf)
  rfl
 |some p =>
  obtain⟨x,q⟩:=p
  rw[h1]at r1
  refine⟨⟨1,0,x,0,0,0,[]⟩,?_,by intro m h;exact Option.some.inj h⟩
  refine hE.run rfl rfl fun W hW=>?_
  conv=>lhs;whnf
  repeat'((first|apply hW.t|apply hW.f|(apply hW.q;exact rqc)|apply hW.w (r1)|(apply hW.b<;>intro h))<;>conv=>lhs;whnf)
  rfl
theorem xF {E:Env} (hE:Sys E) (b:aE) (a:Nat) (hb:b.length≤1048576) (ha:a≤1048576):xD E b a 2:=by
 have r1:=iG hE b a 5 hb ha (by decide)
 unfold xD
 rw[show iJ b a 2=aKh (gVa 5 b a []) from rfl]
 cases h1:gVa 5 b a [] with
 |none =>
  rw[h1]at r1
  refine⟨⟨0,0,mB,0,0,0,[]⟩,?_,by intro m h;cases h⟩
  refine hE.run rfl rfl fun W hW=>?_
  conv=>lhs;whnf
  repeat'((first|apply hW.t|apply hW.f|(apply hW.q;exact rqc)|apply hW.w (r1)|(apply hW.b<;>intro h))<;>conv=>lhs;whnf)
  rfl
 |some p =>
  obtain⟨l,q⟩:=p
  have hl:=aH3 h1
  rw[h1]at r1
  match l,hl,r1 with
  |[g,w0,w1,d0,d1],hl,r1 =>
  rw[show laL (some ([g,w0,w1,d0,d1],q))=[g,w0,w1,d0,d1] from rfl,show laP (some ([g,w0,w1,d0,d1],q))=(q:Int) from rfl]at r1
  have l0:(bN [g,w0,w1,d0,d1])[Int.toNat 0]?=some (qQ g):=rfl
  have l1:(bN [g,w0,w1,d0,d1])[Int.toNat 1]?=some (qQ w0):=rfl
  have l2:(bN [g,w0,w1,d0,d1])[Int.toNat 2]?=some (qQ w1):=rfl
  have l3:(bN [g,w0,w1,d0,d1])[Int.toNat 3]?=some (qQ d0):=rfl
  have l4:(bN [g,w0,w1,d0,d1])[Int.toNat 4]?=some (qQ d1):=rfl
  refine⟨⟨2,g,mB,wor w0 (aMs w1),wor d0 (aMs d1),0,[]⟩,?_,by intro m h;exact Option.some.inj h⟩
  refine hE.run rfl rfl fun W hW=>?_
  conv=>lhs;whnf
  repeat'((first|apply hW.t|apply hW.f|(apply hW.q;exact rqc)|apply hW.w (r1)|apply hW.w (l0)|apply hW.w (l1)|apply hW.w (l2)|apply hW.w (l3)|apply hW.w (l4)|(apply hW.b<;>intro h))<;>conv=>lhs;whnf)
  rfl
theorem xG {E:Env} (hE:Sys E) (b:aE) (a:Nat) (hb:b.length≤1048576) (ha:a≤1048576):xD E b a 3:=by
 have r1:=iG hE b a 2 hb ha (by decide)
 unfold xD
 rw[show iJ b a 3=aH4 b (gVa 2 b a []) from rfl]
 cases h1:gVa 2 b a [] with
 |none =>
  rw[h1]at r1
  refine⟨⟨0,0,mB,0,0,0,[]⟩,?_,by intro m h;cases h⟩
  refine hE.run rfl rfl fun W hW=>?_
  conv=>lhs;whnf
  repeat'((first|apply hW.t|apply hW.f|(apply hW.q;exact rqc)|apply hW.w (r1)|(apply hW.b<;>intro h))<;>conv=>lhs;whnf)
  rfl
 |some p =>
  obtain⟨l,q⟩:=p
  have hl:=aH3 h1
  rw[h1]at r1
  have hq:q≤b.length:=hl.2 (by decide)
  match l,hl,r1 with
  |[g,i],hl,r1 =>
  rw[show laL (some ([g,i],q))=[g,i] from rfl,show laP (some ([g,i],q))=(q:Int) from rfl]at r1
  have l0:(bN [g,i])[Int.toNat 0]?=some (qQ g):=rfl
  have l1:(bN [g,i])[Int.toNat 1]?=some (qQ i):=rfl
  have r2:=zC hE b q 6 hb (by omega) (by decide)
  rw[show aH4 b (some ([g,i],q))=(match gP b q 6 with|some (p,_)=>some ⟨3,g,mB,0,0,i,p⟩|none=>none) from rfl]
  cases h2:gP b q 6 with
  |none =>
   rw[h2]at r2
   refine⟨⟨3,g,mB,0,0,i,[]⟩,?_,by intro m h;cases h⟩
   refine hE.run rfl rfl fun W hW=>?_
   conv=>lhs;whnf
   repeat'((first|apply hW.t|apply hW.f|(apply hW.q;exact rqc)|apply hW.w (r1)|apply hW.w (l0)|apply hW.w (l1)|apply hW.w (r2)|(apply hW.b<;>intro h))<;>conv=>lhs;whnf)
   rfl
  |some y =>
   obtain⟨y,z⟩:=y
   rw[h2]at r2
   refine⟨⟨3,g,mB,0,0,i,y⟩,?_,by intro m h;exact Option.some.inj h⟩
   refine hE.run rfl rfl fun W hW=>?_
   conv=>lhs;whnf
   repeat'((first|apply hW.t|apply hW.f|(apply hW.q;exact rqc)|apply hW.w (r1)|apply hW.w (l0)|apply hW.w (l1)|apply hW.w (r2)|(apply hW.b<;>intro h))<;>conv=>lhs;whnf)
   rfl
theorem xH {E:Env} (hE:Sys E) (b:aE) (a:Nat) (hb:b.length≤1048576) (ha:a≤1048576):xD E b a 4:=by
 have r1:=gZ hE b a (by omega) (by omega)
 unfold xD
 rw[show iJ b a 4=(match gV (b.drop a) with|some (g,_)=>some ⟨4,g,mB,0,0,0,[]⟩|none=>none) from rfl]
 cases h1:gV (b.drop a) with
 |none =>
  rw[h1]at r1
  refine⟨⟨4,0,mB,0,0,0,[]⟩,?_,by intro m h;cases h⟩
  refine hE.run rfl rfl fun W hW=>?_
  conv=>lhs;whnf
  repeat'((first|apply hW.t|apply hW.f|(apply hW.q;exact rqc)|apply hW.w (r1)|(apply hW.b<;>intro h))<;>conv=>lhs;whnf)
  rfl
 |some p =>
  obtain⟨g,c⟩:=p
  rw[h1]at r1
  refine⟨⟨4,g,mB,0,0,0,[]⟩,?_,by intro m h;exact Option.some.inj h⟩
  refine hE.run rfl rfl fun W hW=>?_
  conv=>lhs;whnf
  repeat'((first|apply hW.t|apply hW.f|(apply hW.q;exact rqc)|apply hW.w (r1)|(apply hW.b<;>intro h))<;>conv=>lhs;whnf)
  rfl
theorem xI {E:Env} (hE:Sys E) (b:aE) (a k:Nat) (k1:k≠1) (k2:k≠2) (k3:k≠3) (k4:k≠4):xD E b a k:=by
 have e1:decide ((k:Int)=1)=false:=decide_eq_false (by omega)
 have e2:decide ((k:Int)=2)=false:=decide_eq_false (by omega)
 have e3:decide ((k:Int)=3)=false:=decide_eq_false (by omega)
 have e4:decide ((k:Int)=4)=false:=decide_eq_false (by omega)
 unfold xD
 rw[show iJ b a k=none from by unfold iJ;rw[if_neg k1,if_neg k2,if_neg k3,if_neg k4]]
 refine⟨⟨k,0,mB,0,0,0,[]⟩,?_,by intro m h;cases h⟩
 refine hE.run rfl rfl fun W hW=>?_
 conv=>lhs;whnf
 repeat'((first|with_reducible apply hW.bf (e1)|with_reducible apply hW.bf (e2)|with_reducible apply hW.bf (e3)|with_reducible apply hW.bf (e4)|apply hW.t|apply hW.f|(apply hW.q;exact rqc)|(apply hW.b<;>intro h))<;>conv=>lhs;whnf)
 rfl
theorem zG {E:Env} (hE:Sys E) (b:aE) (a k:Nat) (hb:b.length≤1048576) (ha:a≤1048576):xD E b a k:=by
 by_cases k1:k=1
 ·subst k1;exact xE hE b a hb ha
 by_cases k2:k=2
 ·subst k2;exact xF hE b a hb ha
 by_cases k3:k=3
 ·subst k3;exact xG hE b a hb ha
 by_cases k4:k=4
 ·subst k4;exact xH hE b a hb ha
 exact xI hE b a k k1 k2 k3 k4
theorem aMt:∀ {k:Nat} {b:aE} {a:Nat} {acc l:List Sum} {q:Nat},sMs k b a acc=some (l,q)→a≤b.length→q≤b.length:=by
 intro k
 induction k with
 |zero=>intro b a acc l q h ha;cases h;exact ha
 |succ k ih =>
  intro b a acc l q h ha
  rw[sMs]at h
  cases hg:gS (b.drop a) with
  |none=>rw[hg]at h;cases h
  |some p =>
   rw[hg]at h
   exact ih h (aOl hg).2.1
theorem rT {g s n:Int} {o:Option (List Sum × Nat)} {x:Man} {q:Nat} (h:zD g s n o=some (x,q)):∃ l,o=some (l,q)∧x=⟨g,s,n,l⟩∧bA x=true:=by
 unfold zD at h
 cases o with
 |none=>cases h
 |some p =>
  obtain⟨l,q'⟩:=p
  simp only at h
  split at h
  ·rename_i hk
   cases h
   exact⟨l,rfl,rfl,hk⟩
  ·cases h
theorem aCH {b:aE} {a:Nat} {x:Man} {q:Nat} (h:aBx b a=some (x,q)):bA x=true∧q≤b.length:=by
 unfold aBx at h
 cases h1:gV (b.drop a) with
 |none=>rw[h1]at h;cases h
 |some p1 =>
  obtain⟨g,c1⟩:=p1
  rw[h1]at h
  simp only at h
  cases h2:gV (b.drop (a+c1)) with
  |none=>rw[h2]at h;cases h
  |some p2 =>
   obtain⟨s,c2⟩:=p2
   rw[h2]at h
   simp only at h
   cases h3:gV (b.drop (a+c1+c2)) with
   |none=>rw[h3]at h;cases h
   |some p3 =>
    obtain⟨n,c3⟩:=p3
    rw[h3]at h
    obtain⟨l,e1,e2,e3⟩:=rT h
    exact⟨e3,aMt e1 (zB h3).2.2.1⟩
theorem aH5 {b:aE} {a:Nat} {x:Man} {q:Nat} (h:aF6 b a=some (x,q)):bA x=true:=by
 unfold aF6 at h
 cases h1:gV (b.drop a) with
 |none=>rw[h1]at h;cases h
 |some p1 =>
  obtain⟨g,c1⟩:=p1
  rw[h1]at h
  simp only at h
  cases h2:gV (b.drop (a+c1)) with
  |none=>rw[h2]at h;cases h
  |some p2 =>
   obtain⟨s,c2⟩:=p2
   rw[h2]at h
   simp only at h
   cases h3:gV (b.drop (a+c1+c2)) with
   |none=>rw[h3]at h;cases h
   |some p3 =>
    obtain⟨n,c3⟩:=p3
    rw[h3]at h
    obtain⟨l,e1,e2,e3⟩:=rT h
    exact e3
theorem aK6 {b:aE} {a most:Nat} {p:aE} {q:Nat} (h:gP b a most=some (p,q)):p.length≤most∧q≤b.length:=by
 unfold gP at h
 cases h1:gV (b.drop a) with
 |none=>rw[h1]at h;cases h
 |some x =>
  rw[h1]at h
  simp only at h
  split at h
  ·rename_i hk
   cases h
   simp only[List.length_take,List.length_drop]
   omega
  ·cases h
theorem aMu:∀ {k:Nat} {b:aE} {a:Nat} {acc l:List Int} {q:Nat},gWa k b a acc=some (l,q)→a≤b.length→q≤b.length:=by
 intro k
 induction k with
 |zero=>intro b a acc l q h ha;cases h;exact ha
 |succ k ih =>
  intro b a acc l q h ha
  rw[gWa]at h
  cases hg:gV (b.drop a) with
  |none=>rw[hg]at h;cases h
  |some p =>
   rw[hg]at h
   simp only at h
   split at h
   ·exact ih h (zB hg).2.2.1
   ·cases h
theorem aCI {g:Nat} {o:Option (List Int × Nat)} {m:Msg} {q:Nat} (h:aMq g o=some (m,q)):∃ w0 w1 d0 d1,o=some ([w0,w1,d0,d1],q)∧m=⟨2,g,mB,w0+w1*1048576,d0+d1*1048576,0,[]⟩:=by
 unfold aMq at h
 split at h
 ·cases h;exact⟨_,_,_,_,rfl,rfl⟩
 ·cases h
theorem aAx {b:aE} {a k:Nat} {m:Msg} {q:Nat} (h:eC b a k=some (m,q)):m.lim 1048576∧q≤b.length:=by
 unfold eC at h
 split at h
 ·cases hm:aBx b a with
  |none=>rw[hm]at h;cases h
  |some x =>
   rw[hm]at h
   obtain⟨x,y⟩:=x
   have h:=Option.some.inj h
   cases h
   have hx:=aCH hm
   exact⟨⟨Nat.le_trans (jH hx.1).1 (by decide),Nat.zero_le _⟩,hx.2⟩
 ·cases h1:gV (b.drop a) with
  |none=>rw[h1]at h;cases h
  |some p1 =>
   obtain⟨g,c⟩:=p1
   rw[h1]at h
   simp only at h
   have hc:=zB h1
   split at h
   ·obtain⟨w0,w1,d0,d1,e,rfl⟩:=aCI h
    exact⟨⟨Nat.zero_le _,Nat.zero_le _⟩,aMu e hc.2.2.1⟩
   ·split at h
    ·cases h2:gV (b.drop (a+c)) with
     |none=>rw[h2]at h;cases h
     |some p2 =>
      obtain⟨i,d⟩:=p2
      rw[h2]at h
      simp only at h
      cases h3:gP b (a+c+d) 6 with
      |none=>rw[h3]at h;cases h
      |some x =>
       obtain⟨p,y⟩:=x
       rw[h3]at h
       have h:=Option.some.inj h
       cases h
       have hp:=aK6 h3
       exact⟨⟨Nat.zero_le _,Nat.le_trans hp.1 (by decide)⟩,hp.2⟩
    ·cases h
     exact⟨⟨Nat.zero_le _,Nat.zero_le _⟩,hc.2.2.1⟩
theorem aF0 {b:aE} {a k:Nat} {m:Msg} (h:iJ b a k=some m):m.lim 1048576:=by
 unfold iJ at h
 split at h
 ·cases hm:aF6 b a with
  |none=>rw[hm]at h;cases h
  |some x =>
   rw[hm]at h
   have h:=Option.some.inj h
   cases h
   exact⟨Nat.le_trans (jH (aH5 (q:=x.2) hm)).1 (by decide),Nat.zero_le _⟩
 ·split at h
  ·unfold aKh at h
   split at h
   ·cases h;exact⟨Nat.zero_le _,Nat.zero_le _⟩
   ·cases h
  ·split at h
   ·unfold aH4 at h
    split at h
    ·split at h
     ·rename_i e
      cases h
      exact⟨Nat.zero_le _,Nat.le_trans (aK6 e).1 (by decide)⟩
     ·cases h
    ·cases h
   ·split at h
    ·split at h
     ·cases h;exact⟨Nat.zero_le _,Nat.zero_le _⟩
     ·cases h
    ·cases h
def aH6 (b:aE) (m:Msg) (q:Nat):Option Msg:=if bX m=true then(match gV (b.drop q) with|some (w,c)=>if q+c=b.length∧(w:Int)=aY (b.take q) then some m else none|none=>none) else none
def pS (b:aE):Option Msg:=match gV (b.drop 0) with
 |none=>none
 |some (k,c)=>if b.length≤400 then(match eC b c k with|none=>none|some (m,q)=>aH6 b m q) else none
def pI (b:aE):Option Msg:=match gV (b.drop 0) with
 |none=>none
 |some (k,c)=>if b.length≤400 then(match iJ b c k with|none=>none|some m=>if bX m=true∧cU m=b then some m else none) else none
def gM (o:Option Msg):Msg:=match o with|some m=>m|none=>⟨0,0,mB,0,0,0,[]⟩
theorem zH {E:Env} (hE:Sys E) (b:aE) (hb:b.length≤1048576):E 329 [sv (bys b)]=some ([gv ((gM (pI b)).cs dF),bv (pI b).isSome],[]):=by
 have r1:=gZ hE b 0 (by omega) (by omega)
 unfold pI
 cases h1:gV (b.drop 0) with
 |none =>
  rw[h1]at r1
  refine hE.run rfl rfl fun W hW=>?_
  conv=>lhs;whnf
  repeat'((first|apply hW.t|apply hW.f|(apply hW.q;exact rqc)|apply hW.w (r1)|(apply hW.b<;>intro h))<;>conv=>lhs;whnf)
  rfl
 |some p1 =>
  obtain⟨k,c⟩:=p1
  have f1:=zB h1
  rw[h1]at r1
  rw[show vP 0 (some (k,c))=((c:Nat):Int) from congrArg Int.ofNat (Nat.zero_add c),show vN (some (k,c))=(k:Int) from rfl]at r1
  simp only
  by_cases hl:b.length≤400
  ·rw[if_pos hl]
   have el:decide (((bys b).length:Int)>400)=false:=decide_eq_false (by rw[aF];omega)
   obtain⟨r,r2,hr⟩:=zG hE b c k hb (by omega)
   cases h2:iJ b c k with
   |none =>
    rw[h2]at r2
    refine hE.run rfl rfl fun W hW=>?_
    conv=>lhs;whnf
    repeat'((first|with_reducible apply hW.bf (el)|apply hW.t|apply hW.f|(apply hW.q;exact rqc)|apply hW.w (r1)|apply hW.w (r2)|(apply hW.b<;>intro h))<;>conv=>lhs;whnf)
    rfl
   |some m =>
    obtain rfl:=hr m h2
    rw[h2]at r2
    have hm:=aF0 h2
    have r3:=sX hE r hm
    have r4:=qG hE r hm
    have r5:=tK hE (cU r) b
    simp only
    cases ho:bX r with
    |false =>
     rw[ho]at r3
     rw[if_neg (fun h=>by cases h.1)]
     refine hE.run rfl rfl fun W hW=>?_
     conv=>lhs;whnf
     repeat'((first|with_reducible apply hW.bf (el)|apply hW.t|apply hW.f|(apply hW.q;exact rqc)|apply hW.w (r1)|apply hW.w (r2)|apply hW.w (r3)|(apply hW.b<;>intro h))<;>conv=>lhs;whnf)
     rfl
    |true =>
     rw[ho]at r3
     by_cases hp:cU r=b
     ·rw[if_pos ⟨rfl,hp⟩]
      rw[decide_eq_true hp]at r5
      refine hE.run rfl rfl fun W hW=>?_
      conv=>lhs;whnf
      repeat'((first|with_reducible apply hW.bf (el)|apply hW.t|apply hW.f|(apply hW.q;exact rqc)|apply hW.w (r1)|apply hW.w (r2)|apply hW.w (r3)|apply hW.w (r4)|apply hW.w (r5)|(apply hW.b<;>intro h))<;>conv=>lhs;whnf)
      rfl
     ·rw[if_neg (fun h=>hp h.2)]
      rw[decide_eq_false hp]at r5
      refine hE.run rfl rfl fun W hW=>?_
      conv=>lhs;whnf
      repeat'((first|with_reducible apply hW.bf (el)|apply hW.t|apply hW.f|(apply hW.q;exact rqc)|apply hW.w (r1)|apply hW.w (r2)|apply hW.w (r3)|apply hW.w (r4)|apply hW.w (r5)|(apply hW.b<;>intro h))<;>conv=>lhs;whnf)
      rfl
  ·rw[if_neg hl]
   have el:decide (((bys b).length:Int)>400)=true:=decide_eq_true (by rw[aF];omega)
   refine hE.run rfl rfl fun W hW=>?_
   conv=>lhs;whnf
   repeat'((first|with_reducible apply hW.bt (el)|apply hW.t|apply hW.f|(apply hW.q;exact rqc)|apply hW.w (r1)|(apply hW.b<;>intro h))<;>conv=>lhs;whnf)
   rfl
end Tev
