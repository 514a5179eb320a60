/- What the functions compute, one contract each. -/
import Derived.Test.YtilhpmmecmeedaaGreatTwiceIr1
set_option linter.unusedSimpArgs false
set_option linter.unusedVariables false
namespace Tev
open Go
set_option maxRecDepth 50000
set_option maxHeartbeats 20000000
def rg (v:Int):Prop := -1≤v∧v≤1048576
def aJA {α:Type} (P:Nat→α→Prop) (B:Nat) (l:List α):Prop:=l.length≤B∧∀ x∈l,P B x
theorem aIw {α:Type} {P:Nat→α→Prop} {B C:Nat} (hp:∀ x,P B x→P C x) (h:B≤C) {l:List α} (hl:aJA P B l):aJA P C l:=⟨by have:=hl.1;omega,fun x hx=>hp x (hl.2 x hx)⟩
theorem aFg {α:Type} (f:α→List T) {l:List α} {n:Nat} (h:n<l.length) (z:List T):((l.take n).map f++List.replicate (l.length-n) z).set n (f l[n])=(l.take (n+1)).map f++List.replicate (l.length-(n+1)) z:=by
 have h1:((l.take n).map f).length=n:=by rw[List.length_map,List.length_take];omega
 rw[List.set_append,if_neg (by omega),h1,Nat.sub_self,show l.length-n=(l.length-(n+1))+1 from by omega,List.replicate_succ,List.set_cons_zero,show l.take (n+1)=l.take n++[l[n]] from by rw[List.take_add_one,List.getElem?_eq_getElem h];rfl,List.map_append]
 simp
theorem uV {α:Type} {f:α→List T} {l:List α} {n:Nat} (h:n<l.length) (z:List T):((l.take n).map f++List.replicate (l.length-n) z)[(n:Int).toNat]?=some z:=by
 have h1:((l.take n).map f).length=n:=by rw[List.length_map,List.length_take];omega
 rw[Int.toNat_natCast,List.getElem?_append_right (by omega),h1,Nat.sub_self,show l.length-n=(l.length-(n+1))+1 from by omega]
 rfl
def dX (k:Int):UInt8:=UInt8.ofNat (k%256).toNat
theorem gT (k:Int):((dX k).toNat:Int)=IntKind.u8.wrap k:=by
 unfold dX
 rw[UInt8.toNat_ofNat']
 simp only[IntKind.wrap,IntKind.bits,IntKind.signed]
 have h1:0≤k%256:=Int.emod_nonneg _ (by omega)
 have h2:k%256<256:=Int.emod_lt_of_pos _ (by omega)
 simp
 omega
def Sent.cs (x:Sent):List CA:=[ci x.frm,ci x.to,ci x.i]
def Man.lim (B:Nat) (x:Man):Prop:=x.sums.length≤B
theorem Man.lim_mono {B C:Nat} (h:B≤C) {x:Man} (hx:x.lim B):x.lim C:=by
 exact Nat.le_trans (id hx) h
def Bld.lim (B:Nat) (x:Bld):Prop:=x.buf.length≤B
theorem Bld.lim_mono {B C:Nat} (h:B≤C) {x:Bld} (hx:x.lim B):x.lim C:=by
 exact Nat.le_trans (id hx) h
def Put.lim (B:Nat) (x:Put):Prop:=x.b.length≤B
theorem Put.lim_mono {B C:Nat} (h:B≤C) {x:Put} (hx:x.lim B):x.lim C:=by
 exact Nat.le_trans (id hx) h
def Pkt.lim (B:Nat) (x:Pkt):Prop:=x.b.length≤B
def Image.lim (B:Nat) (x:Image):Prop:=x.b.length≤B
def Tree.lim (B:Nat) (x:Tree):Prop:=x.up.length≤B
def Disk.lim (B:Nat) (x:Disk):Prop:=x.a.length≤B∧x.b.length≤B∧aJA (fun B=>Put.lim B) B x.p
theorem Disk.lim_mono {B C:Nat} (h:B≤C) {x:Disk} (hx:x.lim B):x.lim C:=by
 obtain⟨h0,h1,h2⟩:=hx
 exact⟨Nat.le_trans h0 h,Nat.le_trans h1 h,aIw (fun x hx=>Put.lim_mono h hx) h h2⟩
def Msg.lim (B:Nat) (x:Msg):Prop:=x.man.lim B∧x.b.length≤B
def Node.lim (B:Nat) (x:Node):Prop:=x.man.lim B∧x.bld.lim B∧x.kids.length≤B
theorem Node.lim_mono {B C:Nat} (h:B≤C) {x:Node} (hx:x.lim B):x.lim C:=by
 obtain⟨h0,h1,h2⟩:=hx
 exact⟨Man.lim_mono h h0,Bld.lim_mono h h1,Nat.le_trans h2 h⟩
def Actn.lim (B:Nat) (x:Actn):Prop:=x.n.lim B∧aJA (fun B=>Pkt.lim B) B x.out
def Beat.lim (B:Nat) (x:Beat):Prop:=x.n.lim B∧x.d.lim B∧aJA (fun B=>Pkt.lim B) B x.out
def World.lim (B:Nat) (x:World):Prop:=x.t.lim B∧x.new.length≤B∧aJA (fun B=>Image.lim B) B x.old∧aJA (fun B=>Node.lim B) B x.n∧aJA (fun B=>Disk.lim B) B x.d∧aJA (fun B=>Pkt.lim B) B x.net∧x.log.length≤B
structure Cur where
 i:Nat
 h:Int
def nH (es:List (List T)) (c:Cur):A := .pt true [.t (.sl false es),ci c.i,ci c.h]
def gU (c:Cur):List CA:=[.gone,ci c.i,ci c.h]
def aOr (a b:Int):Int:=IntKind.i64.wrap (BitVec.ofInt IntKind.i64.bits a &&& BitVec.ofInt IntKind.i64.bits b).toNat
def aKZ (h:Int):Int:=IntKind.i64.wrap (IntKind.i64.wrap (h*6364136223846793005)+1442695040888963407)
def mixH (h:Int):Int:=aOr (IntKind.i64.wrap (BitVec.ofInt IntKind.i64.bits (h.fdiv (2 ^ (min (33:Int).toNat IntKind.i64.bits))) ^^^ BitVec.ofInt IntKind.i64.bits (h.fdiv (2 ^ (min (47:Int).toNat IntKind.i64.bits)))).toNat) 255
def fA (b:aD) (c:Cur):Int × Cur :=
 if h:c.i<b.length then(aOr (IntKind.i64.wrap (mixH (aKZ c.h)+IntKind.i64.wrap (b[c.i].toNat:Int))) 255,⟨c.i+1,aKZ c.h⟩) else(mixH (aKZ c.h),⟨c.i,aKZ c.h⟩)
theorem aFh {E:Env} (hE:Sys E) {es:List (List T)} {b:aD} (he:es=bys b) (c:Cur) (hb:b.length≤1048576):E 161 [nH es c]=some ([iv (fA b c).1],gU (fA b c).2):=by
 subst he
 have hl:=cX b
 unfold fA
 by_cases h:c.i<b.length
 ·rw[dif_pos h]
  refine hE.run rfl rfl fun W hW=>?_
  conv=>lhs;whnf
  repeat((first|apply hW.t|apply hW.f|(apply hW.q;exact rqc));conv=>lhs;whnf)
  apply hW.bt ((decide_eq_true (show(c.i:Int)<((bys b).length:Nat) by rw[hl];omega)))
  conv=>lhs;whnf
  repeat((first|apply hW.t|apply hW.f|(apply hW.q;exact rqc)|(refine hW.w (eR ?_) ?_;omega));conv=>lhs;whnf)
  rw[show IntKind.i64.wrap ((c.i:Int)+1)=((c.i+1:Nat):Int) from aL (by omega)]
  rfl
 ·rw[dif_neg h]
  refine hE.run rfl rfl fun W hW=>?_
  conv=>lhs;whnf
  repeat((first|apply hW.t|apply hW.f|(apply hW.q;exact rqc));conv=>lhs;whnf)
  apply hW.bf ((decide_eq_false (show ¬ (c.i:Int)<((bys b).length:Nat) by rw[hl];omega)))
  conv=>lhs;whnf
  repeat((first|apply hW.t|apply hW.f|(apply hW.q;exact rqc));conv=>lhs;whnf)
  rfl
theorem aIx (a:Int):0≤aOr a 255∧aOr a 255≤255:=by
 unfold aOr
 have h:(BitVec.ofInt IntKind.i64.bits a &&& BitVec.ofInt IntKind.i64.bits 255).toNat≤255:=by
  rw[BitVec.toNat_and]
  exact Nat.and_le_right
 rw[show IntKind.i64.wrap _=_ from aI (by omega)]
 omega
theorem aA9 (b:aD) (c:Cur):0≤(fA b c).1∧(fA b c).1≤255:=by
 unfold fA
 split
 ·exact aIx _
 ·exact aIx _
def aE (b:aD) (c:Cur) (n:Int):Int × Cur :=
 if n≤0 then(0,c)
 else if n≤256 then((fA b c).1.tmod n,(fA b c).2)
 else((IntKind.i64.wrap (IntKind.i64.wrap (IntKind.i64.wrap ((fA b c).1*65536)+IntKind.i64.wrap ((fA b (fA b c).2).1*256))+(fA b (fA b (fA b c).2).2).1)).tmod n,(fA b (fA b (fA b c).2).2).2)
theorem cF (b:aD) (c:Cur) {n:Int} (hn:0<n):0≤(aE b c n).1∧(aE b c n).1<n:=by
 unfold aE
 rw[if_neg (by omega)]
 have h1:=aA9 b c
 split
 ·exact⟨Int.tmod_nonneg _ h1.1,Int.tmod_lt_of_pos _ hn⟩
 ·have h2:=aA9 b (fA b c).2
  have h3:=aA9 b (fA b (fA b c).2).2
  rw[show IntKind.i64.wrap ((fA b c).1*65536)=_ from aI (by omega),show IntKind.i64.wrap ((fA b (fA b c).2).1*256)=_ from aI (by omega),show IntKind.i64.wrap ((fA b c).1*65536+(fA b (fA b c).2).1*256)=_ from aI (by omega),show IntKind.i64.wrap _=_ from aI (by omega)]
  exact⟨Int.tmod_nonneg _ (by omega),Int.tmod_lt_of_pos _ hn⟩
theorem aQ {E:Env} (hE:Sys E) {es:List (List T)} {b:aD} (he:es=bys b) (c:Cur) (hb:b.length≤1048576) (n:Int):E 157 [nH es c,iv n]=some ([iv (aE b c n).1],gU (aE b c n).2):=by
 unfold aE
 by_cases h1:n≤0
 ·rw[if_pos h1]
  refine hE.run rfl rfl fun W hW=>?_
  conv=>lhs;whnf
  repeat'((first|with_reducible apply hW.bt (decide_eq_true h1)|apply hW.t|apply hW.f|(apply hW.q;exact rqc)|(apply hW.b<;>intro h))<;>conv=>lhs;whnf)
  rfl
 ·rw[if_neg h1]
  by_cases h2:n≤256
  ·rw[if_pos h2]
   refine hE.run rfl rfl fun W hW=>?_
   conv=>lhs;whnf
   repeat'((first|with_reducible apply hW.bf (decide_eq_false h1)|with_reducible apply hW.bt (decide_eq_true h2)|apply hW.t|apply hW.f|(apply hW.q;exact rqc)|(apply hW.b<;>intro h))<;>conv=>lhs;whnf)
   apply hW.w (aFh hE he c hb)
   conv=>lhs;whnf
   repeat((first|apply hW.t|apply hW.f|(apply hW.q;exact rqc));conv=>lhs;whnf)
   rfl
  ·rw[if_neg h2]
   refine hE.run rfl rfl fun W hW=>?_
   conv=>lhs;whnf
   repeat'((first|with_reducible apply hW.bf (decide_eq_false h1)|with_reducible apply hW.bf (decide_eq_false h2)|apply hW.t|apply hW.f|(apply hW.q;exact rqc)|(apply hW.b<;>intro h))<;>conv=>lhs;whnf)
   apply hW.w (aFh hE he c hb)
   conv=>lhs;whnf
   repeat((first|apply hW.t|apply hW.f|(apply hW.q;exact rqc));conv=>lhs;whnf)
   apply hW.w (aFh hE he (fA b c).2 hb)
   conv=>lhs;whnf
   repeat((first|apply hW.t|apply hW.f|(apply hW.q;exact rqc));conv=>lhs;whnf)
   apply hW.w (aFh hE he (fA b (fA b c).2).2 hb)
   conv=>lhs;whnf
   repeat((first|apply hW.t|apply hW.f|(apply hW.q;exact rqc));conv=>lhs;whnf)
   rfl
theorem eF {E:Env} (hE:Sys E) {es:List (List T)} {b:aD} (he:es=bys b) (c:Cur) (hb:b.length≤1048576) (n:Int):E 162 [nH es c,iv n]=some ([bv (decide ((aE b c n).1=0))],gU (aE b c n).2):=by
 refine hE.run rfl rfl fun W hW=>?_
 conv=>lhs;whnf
 repeat((first|apply hW.t|apply hW.f|(apply hW.q;exact rqc));conv=>lhs;whnf)
 apply hW.w (aQ hE he c hb n)
 conv=>lhs;whnf
 repeat((first|apply hW.t|apply hW.f|(apply hW.q;exact rqc));conv=>lhs;whnf)
 rfl
def aIy (b:aD) (c:Cur) (l:List Int):Int × Cur:=(l.getD (aE b c l.length).1.toNat 0,(aE b c l.length).2)
theorem aDS {E:Env} (hE:Sys E) {es:List (List T)} {b:aD} (he:es=bys b) (c:Cur) (hb:b.length≤1048576) (l:List Int) (hl:0<l.length):E 160 [nH es c,sv (cG l)]=some ([iv (aIy b c l).1],gU (aIy b c l).2):=by
 have hrl:(cG l).length=l.length:=List.length_map _
 have hr:=cF b c (n:=(l.length:Int)) (by omega)
 have hix:(cG l)[(aE b c (l.length:Int)).1.toNat]?=some (rD (l.getD (aE b c (l.length:Int)).1.toNat 0)):=by
  unfold cG
  rw[List.getElem?_map,List.getElem?_eq_getElem (by omega),List.getD_eq_getElem?_getD,List.getElem?_eq_getElem (by omega)]
  rfl
 refine hE.run rfl rfl fun W hW=>?_
 conv=>lhs;whnf
 repeat((first|apply hW.t|apply hW.f|(apply hW.q;exact rqc));conv=>lhs;whnf)
 rw[hrl]
 apply hW.w (aQ hE he c hb (l.length:Int))
 conv=>lhs;whnf
 repeat((first|apply hW.t|apply hW.f|(apply hW.q;exact rqc));conv=>lhs;whnf)
 apply hW.w (hix)
 conv=>lhs;whnf
 repeat((first|apply hW.t|apply hW.f|(apply hW.q;exact rqc));conv=>lhs;whnf)
 rfl
def iO (b:aD) (c:Cur):Int × Cur :=
 if(aE b c 3).1=0 then aIy b (aE b c 3).2 [0,1,3,1099511627775,549755813888]
 else(IntKind.i64.wrap ((aE b (aE b c 3).2 65536).1*2 ^ (min (aE b (aE b (aE b c 3).2 65536).2 20).1.toNat IntKind.i64.bits)),(aE b (aE b (aE b c 3).2 65536).2 20).2)
theorem aIz {E:Env} (hE:Sys E) {es:List (List T)} {b:aD} (he:es=bys b) (c:Cur) (hb:b.length≤1048576):E 163 [nH es c]=some ([iv (iO b c).1],gU (iO b c).2):=by
 unfold iO
 have a0:=eF hE he c hb 3
 by_cases h:(aE b c 3).1=0
 ·rw[if_pos h]
  rw[decide_eq_true h]at a0
  refine hE.run rfl rfl fun W hW=>?_
  conv=>lhs;whnf
  repeat((first|apply hW.t|apply hW.f|(apply hW.q;exact rqc));conv=>lhs;whnf)
  apply hW.w (a0)
  conv=>lhs;whnf
  repeat((first|apply hW.t|apply hW.f|(apply hW.q;exact rqc));conv=>lhs;whnf)
  apply hW.w (aDS hE he (aE b c 3).2 hb [0,1,3,1099511627775,549755813888] (by decide))
  conv=>lhs;whnf
  repeat((first|apply hW.t|apply hW.f|(apply hW.q;exact rqc));conv=>lhs;whnf)
  rfl
 ·rw[if_neg h]
  rw[decide_eq_false h]at a0
  refine hE.run rfl rfl fun W hW=>?_
  conv=>lhs;whnf
  repeat((first|apply hW.t|apply hW.f|(apply hW.q;exact rqc));conv=>lhs;whnf)
  apply hW.w (a0)
  conv=>lhs;whnf
  repeat((first|apply hW.t|apply hW.f|(apply hW.q;exact rqc));conv=>lhs;whnf)
  apply hW.w (aQ hE he (aE b c 3).2 hb 65536)
  conv=>lhs;whnf
  repeat((first|apply hW.t|apply hW.f|(apply hW.q;exact rqc));conv=>lhs;whnf)
  apply hW.w (aQ hE he (aE b (aE b c 3).2 65536).2 hb 20)
  conv=>lhs;whnf
  repeat((first|apply hW.t|apply hW.f|(apply hW.q;exact rqc));conv=>lhs;whnf)
  refine hW.q (by exact(cF b (aE b (aE b c 3).2 65536).2 (n:=20) (by decide)).1) ?_
  conv=>lhs;whnf
  repeat((first|apply hW.t|apply hW.f|(apply hW.q;exact rqc));conv=>lhs;whnf)
  rfl
def aM6 (b:aD) (c:Cur):Int × Cur:=if(aE b c 8).1=0 then aIy b (aE b c 8).2 [-1,1099511627776] else iO b (aE b c 8).2
theorem aOs {E:Env} (hE:Sys E) {es:List (List T)} {b:aD} (he:es=bys b) (c:Cur) (hb:b.length≤1048576):E 158 [nH es c]=some ([iv (aM6 b c).1],gU (aM6 b c).2):=by
 unfold aM6
 have a0:=eF hE he c hb 8
 by_cases h:(aE b c 8).1=0
 ·rw[if_pos h]
  rw[decide_eq_true h]at a0
  refine hE.run rfl rfl fun W hW=>?_
  conv=>lhs;whnf
  repeat((first|apply hW.t|apply hW.f|(apply hW.q;exact rqc));conv=>lhs;whnf)
  apply hW.w (a0)
  conv=>lhs;whnf
  repeat((first|apply hW.t|apply hW.f|(apply hW.q;exact rqc));conv=>lhs;whnf)
  apply hW.w (aDS hE he (aE b c 8).2 hb [-1,1099511627776] (by decide))
  conv=>lhs;whnf
  repeat((first|apply hW.t|apply hW.f|(apply hW.q;exact rqc));conv=>lhs;whnf)
  rfl
 ·rw[if_neg h]
  rw[decide_eq_false h]at a0
  refine hE.run rfl rfl fun W hW=>?_
  conv=>lhs;whnf
  repeat((first|apply hW.t|apply hW.f|(apply hW.q;exact rqc));conv=>lhs;whnf)
  apply hW.w (a0)
  conv=>lhs;whnf
  repeat((first|apply hW.t|apply hW.f|(apply hW.q;exact rqc));conv=>lhs;whnf)
  apply hW.w (aIz hE he (aE b c 8).2 hb)
  conv=>lhs;whnf
  repeat((first|apply hW.t|apply hW.f|(apply hW.q;exact rqc));conv=>lhs;whnf)
  rfl
def hN (b:aD):Nat→Int
 |0=>IntKind.i64.wrap (162416+(b.length:Int))
 |n+1=>IntKind.i64.wrap (BitVec.ofInt IntKind.i64.bits (IntKind.i64.wrap (IntKind.i64.wrap (IntKind.i64.wrap (hN b n*137)+IntKind.i64.wrap ((b.getD n 0).toNat:Int))+11)) &&& BitVec.ofInt IntKind.i64.bits 1073741823).toNat
def aPD (b:aD):Cur:=⟨0,hN b (min 4000 b.length)⟩
theorem aPE {E:Env} (hE:Sys E) {b:aD} (hb:b.length≤1048576):E 155 [sv (bys b)]=some ([.pt true [.alias 0 0 0 b.length,ci 0,ci (aPD b).h]],[]):=by
 have hl:=cX b
 refine hE.run rfl rfl fun W hW=>?_
 conv=>lhs;whnf
 repeat((first|apply hW.t|apply hW.f|(apply hW.q;exact rqc));conv=>lhs;whnf)
 refine hW.loop (σ:=Nat) (γ:=Nat) (fun i s=>(s.sl 4 (v1 (.t (.int .i64 i)))).sl 3 (v1 (.t (.int .i64 (hN b i))))) (fun i m=>i=m∧m≤min 4000 b.length) (fun m=>b.length-m) (fun _=>([.pt true [.alias 0 0 0 b.length,ci 0,ci (aPD b).h]],[])) 0 0 ?_ ?_ ?_ ?_
 ·intro K
  conv=>lhs;whnf
  conv=>rhs;whnf
  try rfl
  rw[hl]
  rfl
 ·exact⟨rfl,Nat.zero_le _⟩
 ·rintro kl m _ ⟨rfl,hm⟩ ih
  conv=>lhs;whnf
  apply hW.b<;>intro g1<;>conv=>lhs;whnf
  ·have g1:m<b.length:=by simpa[hl] using g1
   repeat((first|apply hW.t|apply hW.f|(apply hW.q;exact rqc));conv=>lhs;whnf)
   apply hW.b<;>intro g2<;>conv=>lhs;whnf
   ·have g2:m<4000:=by have g2:=of_decide_eq_true g2;omega
    repeat((first|apply hW.t|apply hW.f|(apply hW.q;exact rqc)|(refine hW.w (eR ?_) ?_;omega));conv=>lhs;whnf)
    refine ih (m+1) (m+1) _ ?_ ⟨rfl,by omega⟩ (by omega)
    intro K
    conv=>lhs;whnf
    conv=>rhs;whnf
    try rfl
    rw[show IntKind.i64.wrap ((m:Int)+1)=_ from aL (by omega)]
    have e:hN b (m+1)=IntKind.i64.wrap (BitVec.ofInt IntKind.i64.bits (IntKind.i64.wrap (IntKind.i64.wrap (IntKind.i64.wrap (hN b m*137)+IntKind.i64.wrap ((b[m]).toNat:Int))+11)) &&& BitVec.ofInt IntKind.i64.bits 1073741823).toNat:=by
     rw[hN,List.getD_eq_getElem?_getD,List.getElem?_eq_getElem g1]
     rfl
    rw[e]
   ·have g2:m=min 4000 b.length:=by have g2:=of_decide_eq_false g2;omega
    repeat((first|apply hW.t|apply hW.f|(apply hW.q;exact rqc));conv=>lhs;whnf)
    rw[hl]
    show some ([A.pt true [.alias 0 0 0 b.length,ci 0,ci (hN b m)]],[])=_
    rw[g2]
    rfl
  ·have g1:m=b.length:=by simp[hl]at g1;omega
   repeat((first|apply hW.t|apply hW.f|(apply hW.q;exact rqc));conv=>lhs;whnf)
   rw[hl]
   show some ([A.pt true [.alias 0 0 0 b.length,ci 0,ci (hN b m)]],[])=_
   rw[show m=min 4000 b.length by omega]
   rfl
 ·rfl
theorem nI (b:aD):((bys b).drop 0).take b.length=bys b:=by
 rw[List.drop_zero,List.take_of_length_le (Nat.le_of_eq (cX b))]
def Sat {R:Type} (x:Option R) (P:R→Prop):Prop:=∃ r,x=some r∧P r
structure Wd.Sk {R:Type} (W:Wd R):Prop where
 ok:W.Ok
theorem Wd.Sk.b {R:Type} {W:Wd R} (h:W.Sk) {P:R→Prop} {b:Bool} {x y:Unit→Option R} (h1:b=true→Sat (x ()) P) (h2:b=false→Sat (y ()) P):Sat (W.br b x y) P:=by
 rw[h.ok.br]
 cases b
 ·exact h2 rfl
 ·exact h1 rfl
theorem Wd.Sk.t {R:Type} {W:Wd R} (h:W.Sk) {P:R→Prop} {x y:Unit→Option R} (h1:Sat (x ()) P):Sat (W.br true x y) P:=by rw[h.ok.br];exact h1
theorem Wd.Sk.f {R:Type} {W:Wd R} (h:W.Sk) {P:R→Prop} {x y:Unit→Option R} (h1:Sat (y ()) P):Sat (W.br false x y) P:=by rw[h.ok.br];exact h1
theorem Wd.Sk.bt {R:Type} {W:Wd R} (h:W.Sk) {P:R→Prop} {b:Bool} {x y:Unit→Option R} (hb:b=true) (h1:Sat (x ()) P):Sat (W.br b x y) P:=by rw[h.ok.br,hb];exact h1
theorem Wd.Sk.bf {R:Type} {W:Wd R} (h:W.Sk) {P:R→Prop} {b:Bool} {x y:Unit→Option R} (hb:b=false) (h1:Sat (y ()) P):Sat (W.br b x y) P:=by rw[h.ok.br,hb];exact h1
theorem Wd.Sk.q {R:Type} {W:Wd R} (h:W.Sk) {P:R→Prop} {c:Prop} [Decidable c] {x:Unit→Option R} (hc:c) (h1:Sat (x ()) P):Sat (W.rq c x) P:=by rw[h.ok.rq,chk_true _ hc];exact h1
theorem Wd.Sk.w {R:Type} {W:Wd R} (h:W.Sk) {P:R→Prop} {α:Type} {x:Option α} {f:α→Option R} {a:α} (h1:x=some a) (h2:Sat (f a) P):Sat (W.wt x f) P:=by rw[h.ok.wt,h1];exact h2
theorem Wd.Sk.loop {R:Type} {W:Wd R} (h:W.Sk) {P:R→Prop} {E:Env} {hand:Nat→Option (Nat × HK)} {i:IC} {keep:List Bool} {drops:List Nat} {can:List (Nat × Nat × Nat × Nat)} {S:St} {k:X × St→Option R} {σ γ:Type} (upd:σ→St→St) (I:σ→γ→Prop) (m:γ→Nat) (a0:σ) (c0:γ)
 (h0:∀ K:St→Option R,aGR keep drops can S K=aGR keep drops can S fun s=>fce (upd a0 s) K) (hI:I a0 c0)
 (step:∀ (kl:St→Option R) a c,I a c→(∀ a' c' S',(∀ K:St→Option R,aGR keep drops can S' K=aGR keep drops can S fun s=>fce (upd a' s) K)→I a' c'→m c'<m c→Sat (kl S') P) →
  Sat (aGR keep drops can S fun s=>fce (upd a s) fun s=>kC W E hand i s fun x s'=>match x with
   |.nor=>kl s'
   |.ret=>k (.ret,s')
   |.exit id=>k (.exit id,s')) P) :
 Sat (W.wt (lJ (evC E hand i) (fun s=>(canon s can).mask keep drops) S) k) P:=by
 simp only[aIv,iF]at h0 step
 rw[h.ok.wt]
 have key:∀ (n:Nat) a c S',m c<n→(∀ K:St→Option R,K ((canon S' can).mask keep drops)=K (upd a ((canon S can).mask keep drops)))→I a c→Sat (bnd (lJ (evC E hand i) (fun s=>(canon s can).mask keep drops) S') k) P:=by
  intro n
  induction n with
  |zero=>intro a c S' h;omega
  |succ n ih =>
   intro a c S' hn hS ha
   have:=step (fun s=>bnd (lJ (evC E hand i) (fun s=>(canon s can).mask keep drops) s) k) a c ha (fun a' c' S1 h1 h2 h3=>ih a' c' S1 (by omega) h1 h2)
   rw[← hS fun s=>kC W E hand i s fun x s'=>match x with
    |.nor=>bnd (lJ (evC E hand i) (fun s=>(canon s can).mask keep drops) s') k
    |.ret=>k (.ret,s')
    |.exit id=>k (.exit id,s')]at this
   obtain⟨r,hr,hp⟩:=this
   have:=aM0 W E hand h.ok _ _ _ hr
   rw[aEY]
   obtain⟨r1,h1,h2⟩:=aA.mp this
   rw[h1]
   refine⟨r,?_,hp⟩
   obtain⟨x,s'⟩:=r1
   cases x with
   |nor=>simpa using h2
   |ret=>simpa using h2
   |exit id=>simpa using h2
 exact key (m c0+1) a0 c0 S (by omega) h0 hI
theorem Sys.runS {E:Env} (h:Sys E) {f:Nat} {c:Fn} {args:List A} {P:Res→Prop} (hf:tbl f=some c) (hn:c.nbody=none) (h':∀ W:Wd Res,W.Sk→Sat (aIu W E hnd c c.body args) P):Sat (E f args) P:=by
 obtain⟨r,hr,hp⟩:=h' _ ⟨Wd.std_ok Res⟩
 refine⟨r,h.fn f c args r hf ?_,hp⟩
 unfold tY
 rw[hn]
 exact aA8 (Wd.std_ok Res) hr
def nW {α:Type} (p:α→Bool):Nat→List α→Int
 |_,[] => -1
 |n,x::r=>if p x then n else nW p (n+1) r
theorem aFi {α:Type} {p:α→Bool} {l:List α}:∀ {n:Nat},nW p n l = -1∨∃ i:Nat,i<l.length∧nW p n l=((n+i:Nat):Int):=by
 induction l with
 |nil=>intro n;exact .inl rfl
 |cons x r ih =>
  intro n
  simp only[nW]
  cases p x
  ·simp only[Bool.false_eq_true,if_false]
   rcases ih (n:=n+1) with h|⟨i,h1,h2⟩
   ·exact .inl h
   ·exact .inr ⟨i+1,by simpa using h1,by rw[h2];congr 1;omega⟩
  ·exact .inr ⟨0,by simp,by simp⟩
def bK (x lo hi:Int):Bool:=decide (lo≤x)&&decide (x≤hi)
def bN (s:Int):Bool:=bK s 0 1099511627775
theorem bJ {E:Env} (hE:Sys E) (x lo hi:Int):E 1 [iv x,iv lo,iv hi]=some ([bv (bK x lo hi)],[]):=by
 refine hE.run rfl rfl fun W hW=>?_
 conv=>lhs;whnf
 unfold bK
 apply hW.b<;>intro h1<;>conv=>lhs;whnf
 ·rw[h1]
  repeat((first|apply hW.t|apply hW.f|(apply hW.q;exact rqc));conv=>lhs;whnf)
  simp_all;rfl
 ·rw[h1]
  repeat((first|apply hW.t|apply hW.f|(apply hW.q;exact rqc));conv=>lhs;whnf)
  simp_all;rfl
theorem bL {E:Env} (hE:Sys E) (x lo hi:Int):E 2 [iv x,iv lo,iv hi]=some ([bv (bK x lo hi)],[]):=by
 refine hE.run rfl rfl fun W hW=>?_
 conv=>lhs;whnf
 unfold bK
 apply hW.b<;>intro h1<;>conv=>lhs;whnf
 ·rw[h1]
  repeat((first|apply hW.t|apply hW.f|(apply hW.q;exact rqc));conv=>lhs;whnf)
  simp_all;rfl
 ·rw[h1]
  repeat((first|apply hW.t|apply hW.f|(apply hW.q;exact rqc));conv=>lhs;whnf)
  simp_all;rfl
theorem dB {E:Env} (hE:Sys E) (s:Int):E 26 [iv s]=some ([bv (bN s)],[]):=by
 refine hE.run rfl rfl fun W hW=>?_
 conv=>lhs;whnf
 apply hW.w (bJ hE s 0 1099511627775)
 conv=>lhs;whnf
 try(apply hW.q;exact rqc;conv=>lhs;whnf)
 rfl
theorem cP {E:Env} (hE:Sys E) (s:Int):E 32 [iv s]=some ([bv (bN s)],[]):=by
 refine hE.run rfl rfl fun W hW=>?_
 conv=>lhs;whnf
 apply hW.w (bL hE s 0 1099511627775)
 conv=>lhs;whnf
 try(apply hW.q;exact rqc;conv=>lhs;whnf)
 rfl
def fB (l:List Kid) (id:Int):Int:=nW (fun x:Kid=>decide (x.id=id)) 0 l
theorem tL {E:Env} (hE:Sys E) (l:List Kid) (id:Int) (h0:l.length≤1099511627776):E 25 [sv (l.map Kid.row),iv id]=some ([iv (fB l id)],[]):=by
 refine hE.run rfl rfl fun W hW=>?_
 conv=>lhs;whnf
 refine hW.loop (σ:=Nat) (γ:=Nat) (fun i s=>s.sl 5 (v1 (.t (.int .i64 i)))) (fun i n=>i=n∧n≤l.length) (fun n=>l.length-n) (fun n=>([iv (nW (fun x:Kid=>decide (x.id=id)) n (l.drop n))],[])) 0 0 ?_ ?_ ?_ ?_
 ·intro K
  conv=>lhs;whnf
  conv=>rhs;whnf
  try rfl
 ·simp
 ·rintro kl n _ ⟨rfl,hn⟩ ih
  conv=>lhs;whnf
  apply hW.b<;>intro h2<;>conv=>lhs;whnf
  ·have h2:n<l.length:=by simpa using h2
   rw[List.drop_eq_getElem_cons h2,nW]
   repeat((first|apply hW.t|apply hW.f|(apply hW.q;exact rqc)|(refine hW.w (eR ?_) ?_;omega));conv=>lhs;whnf)
   apply hW.b<;>intro h3<;>conv=>lhs;whnf
   ·simp only[h3,if_true];rfl
   ·simp only[h3,if_false,Bool.false_eq_true]
    refine ih (n+1) (n+1) _ ?_ ⟨rfl,by omega⟩ (by omega)
    intro K
    conv=>lhs;whnf
    conv=>rhs;whnf
    try rfl
    rw[show IntKind.i64.wrap ((n:Int)+1)=_ from aL (by omega)]
  ·have:n=l.length:=by simp at h2;omega
   subst this
   rw[List.drop_length];rfl
 ·rfl
theorem aIA {E:Env} (hE:Sys E) (x:Kid) (id:Int):E 102 [gv x.cs, .pt false [ci id]]=some ([bv (decide (x.id=id))],[]):=by
 refine hE.run rfl rfl fun W hW=>?_
 conv=>lhs;whnf
 rfl
theorem rX {E:Env} (hE:Sys E) (l:List Kid) (h0:l.length≤1099511627776) (id:Int):E 29 [sv (l.map Kid.row), .fn 102 [[ci id]]]=some ([iv (nW (fun x:Kid=>decide (x.id=id)) 0 l)],[]):=by
 have hrl:(l.map Kid.row).length=l.length:=by simp[bys,cG]
 refine hE.run rfl rfl fun W hW=>?_
 conv=>lhs;whnf
 refine hW.loop (σ:=Nat) (γ:=Nat) (fun i s=>s.sl 8 (v1 (.t (.int .i64 i)))) (fun i n=>i=n∧n≤l.length) (fun n=>l.length-n) (fun n=>([iv (nW (fun x:Kid=>decide (x.id=id)) n (l.drop n))],[])) 0 0 ?_ ?_ ?_ ?_
 ·intro K
  conv=>lhs;whnf
  conv=>rhs;whnf
  try rfl
 ·simp
 ·rintro kl n _ ⟨rfl,hn⟩ ih
  conv=>lhs;whnf
  apply hW.b<;>intro h2<;>conv=>lhs;whnf
  ·have h2:n<l.length:=by simpa[hrl] using h2
   rw[List.drop_eq_getElem_cons h2]
   repeat((first|apply hW.t|apply hW.f|(apply hW.q;exact rqc)|(refine hW.w (eR ?_) ?_;omega));conv=>lhs;whnf)
   apply hW.w (aIA hE l[n] id)
   conv=>lhs;whnf
   try(apply hW.q;exact rqc;conv=>lhs;whnf)
   simp only[nW]
   apply hW.b<;>intro h3<;>conv=>lhs;whnf
   ·simp only[h3,if_true];rfl
   ·simp only[h3,if_false,Bool.false_eq_true]
    refine ih (n+1) (n+1) _ ?_ ⟨rfl,by omega⟩ (by omega)
    intro K
    conv=>lhs;whnf
    conv=>rhs;whnf
    try rfl
    rw[show IntKind.i64.wrap ((n:Int)+1)=_ from aL (by omega)]
    try rfl
  ·have:n=l.length:=by simp[hrl]at h2;omega
   subst this
   rw[List.drop_length];rfl
 ·rfl
theorem mC {E:Env} (hE:Sys E) (l:List Kid) (id:Int) (h0:l.length≤1099511627776):E 31 [sv (l.map Kid.row),iv id]=some ([iv (fB l id)],[]):=by
 refine hE.run rfl rfl fun W hW=>?_
 conv=>lhs;whnf
 apply hW.w (rX hE l h0 id)
 conv=>lhs;whnf
 try(apply hW.q;exact rqc;conv=>lhs;whnf)
 rfl
theorem pC {E:Env} (hE:Sys E) (l:List Kid) (h0:l.length≤68719476736):E 30 [sv (l.map Kid.row)]=some ([ov 5 (l.map Kid.row)],[]):=by
 have hfl:mW (l.map Kid.row)=true:=uU (fun _=>rfl) l
 have hrl:(l.map Kid.row).length=l.length:=by simp[bys,cG]
 have hro:∀ e∈l.map Kid.row,e.length=5:=aFe fun _=>rfl
 refine hE.run2 rfl rfl (fun W hW=>?_) (fun he W hW=>?_)
 ·conv=>lhs;whnf
  repeat((first|apply hW.t|apply hW.f|(apply hW.q;exact rqc));conv=>lhs;whnf)
  refine hW.q (by exact⟨by decide,hro,by simp only[List.length_nil,hrl];omega,by simp only[List.length_nil,hrl];omega⟩) ?_
  conv=>lhs;whnf
  apply hW.bt (hfl)
  conv=>lhs;whnf
  rfl
 ·cases l with
  |cons x r=>exact absurd (show false=true from he) (by decide)
  |nil =>
   conv=>lhs;whnf
   repeat((first|apply hW.t|apply hW.f|(apply hW.q;exact rqc));conv=>lhs;whnf)
   rfl
def Node.limk (n:Node):Prop:=n.man.sums.length≤1048576∧n.bld.buf.length≤1048576∧n.kids.length≤4194304
theorem Node.lim.k {n:Node} (h:n.lim 1048576):n.limk:=⟨h.1,h.2.1,Nat.le_trans h.2.2 (by decide)⟩
theorem Node.limk.l4 {n:Node} (h:n.limk):n.lim 4194304:=⟨Nat.le_trans h.1 (by decide),Nat.le_trans h.2.1 (by decide),h.2.2⟩
theorem Node.limk.l8 {n:Node} (h:n.limk):n.lim 8388608:=Node.lim_mono (by decide) h.l4
abbrev aM7 (n:Node):Int:=n.bld.hav
def aGq (boss:Int):Node:=⟨true,boss,0,⟨0,0,0,[]⟩,⟨0,[]⟩,0,[],0⟩
theorem uC {E:Env} (hE:Sys E) (boss:Int):E 81 [iv boss]=some ([gv ((aGq boss).cs eQ)],[]):=by
 refine hE.run rfl rfl fun W hW=>?_
 conv=>lhs;whnf
 rfl
def wor (a b:Int):Int:=IntKind.i64.wrap (BitVec.ofInt IntKind.i64.bits a ||| BitVec.ofInt IntKind.i64.bits b).toNat
theorem kN {l:List Kid} {id:Int} (h:¬ fB l id<0):∃ n:Nat,∃ _:n<l.length,fB l id=n:=by
 rcases aFi (p:=fun x:Kid=>decide (x.id=id)) (l:=l) (n:=0) with h1|⟨i,h1,h2⟩
 ·rw[show fB l id=_ from h1]at h;exact absurd (by decide) h
 ·exact⟨i,h1,by rw[show fB l id=_ from h2];simp⟩
def aR (l:List Kid) (id s:Int):List Kid :=
 match l[(fB l id).toNat]? with
 |none=>l
 |some x=>if fB l id<0∨bN s=false∨bN x.sent=false then l else l.set (fB l id).toNat { x with sent:=wor x.sent s }
theorem dY (l:List Kid) (id s:Int):(aR l id s).length=l.length:=by
 unfold aR
 split
 ·rfl
 ·split<;>simp
theorem gW {l:List Kid} {id s:Int} (h:fB l id<0):aR l id s=l:=by
 unfold aR;split
 ·rfl
 ·rw[if_pos (.inl h)]
theorem mD {l:List Kid} {id s:Int} {n:Nat} (hn:n<l.length) (h:fB l id=n):aR l id s=if bN s=false∨bN l[n].sent=false then l else l.set n { l[n] with sent:=wor l[n].sent s }:=by
 unfold aR
 rw[h,Int.toNat_natCast,List.getElem?_eq_getElem hn]
 simp only[show ¬ ((n:Int)<0) from by omega,false_or]
theorem mE (l:List Kid):mW (l.map Kid.row)=true:=uU (fun _=>rfl) l
theorem kids_rows (l:List Kid):∀ e∈l.map Kid.row,e.length=5:=aFe fun _=>rfl
theorem mF {E:Env} (hE:Sys E) (l:List Kid) (id s:Int) (h0:l.length≤4194304):E 36 [sv (l.map Kid.row),iv id,iv s]=some ([ov 5 ((aR l id s).map Kid.row)],[]):=by
 refine hE.run rfl rfl fun W hW=>?_
 conv=>lhs;whnf
 repeat((first|apply hW.t|apply hW.f|(apply hW.q;exact rqc));conv=>lhs;whnf)
 refine hW.q (by exact⟨by decide,kids_rows l,by simp;omega,by simp;omega⟩) ?_
 conv=>lhs;whnf
 apply hW.bt (mE l)
 conv=>lhs;whnf
 apply hW.w (tL hE l id (by omega))
 conv=>lhs;whnf
 try(apply hW.q;exact rqc;conv=>lhs;whnf)
 apply hW.b<;>intro h1<;>conv=>lhs;whnf
 ·repeat((first|apply hW.t|apply hW.f|(apply hW.q;exact rqc));conv=>lhs;whnf)
  have h1:fB l id<0:=by simpa using h1
  rw[gW h1];rfl
 ·obtain⟨n,hn,hk⟩:=kN (by simpa using h1)
  rw[mD hn hk,hk]
  repeat((first|apply hW.t|apply hW.f|(apply hW.q;exact rqc));conv=>lhs;whnf)
  apply hW.w (dB hE s)
  conv=>lhs;whnf
  repeat((first|apply hW.t|apply hW.f|(apply hW.q;exact rqc));conv=>lhs;whnf)
  apply hW.b<;>intro h2<;>conv=>lhs;whnf
  ·repeat((first|apply hW.t|apply hW.f|(apply hW.q;exact rqc));conv=>lhs;whnf)
   rw[if_pos (.inl (by simpa using h2))];rfl
  ·repeat((first|apply hW.t|apply hW.f|(apply hW.q;exact rqc)|(refine hW.w (eR ?_) ?_;omega));conv=>lhs;whnf)
   apply hW.w (dB hE l[n].sent)
   conv=>lhs;whnf
   repeat((first|apply hW.t|apply hW.f|(apply hW.q;exact rqc));conv=>lhs;whnf)
   apply hW.b<;>intro h3<;>conv=>lhs;whnf
   ·repeat((first|apply hW.t|apply hW.f|(apply hW.q;exact rqc));conv=>lhs;whnf)
    rw[if_pos (.inr (by simpa using h3))];rfl
   ·rw[if_neg (by simp at h2 h3;simp[h2,h3]),List.map_set]
    repeat((first|apply hW.t|apply hW.f|(apply hW.q;exact rqc)|(refine hW.w (eR ?_) ?_;omega));conv=>lhs;whnf)
    rfl
theorem mG {E:Env} (hE:Sys E) (l:List Kid) (id s:Int) (h0:l.length≤4194304):E 37 [sv (l.map Kid.row),iv id,iv s]=some ([ov 5 ((aR l id s).map Kid.row)],[]):=by
 refine hE.run rfl rfl fun W hW=>?_
 conv=>lhs;whnf
 apply hW.w (pC hE l (by omega))
 conv=>lhs;whnf
 repeat((first|apply hW.t|apply hW.f|(apply hW.q;exact rqc));conv=>lhs;whnf)
 apply hW.w (mC hE l id (by omega))
 conv=>lhs;whnf
 repeat((first|apply hW.t|apply hW.f|(apply hW.q;exact rqc));conv=>lhs;whnf)
 apply hW.b<;>intro h1<;>conv=>lhs;whnf
 ·obtain⟨n,hn,hk⟩:=kN (l:=l) (id:=id) (by simpa using h1)
  rw[mD hn hk,hk]
  repeat((first|apply hW.t|apply hW.f|(apply hW.q;exact rqc));conv=>lhs;whnf)
  apply hW.w (cP hE s)
  conv=>lhs;whnf
  repeat((first|apply hW.t|apply hW.f|(apply hW.q;exact rqc));conv=>lhs;whnf)
  apply hW.b<;>intro h2<;>conv=>lhs;whnf
  ·repeat((first|apply hW.t|apply hW.f|(apply hW.q;exact rqc)|(refine hW.w (eR ?_) ?_;omega));conv=>lhs;whnf)
   apply hW.w (cP hE l[n].sent)
   conv=>lhs;whnf
   repeat((first|apply hW.t|apply hW.f|(apply hW.q;exact rqc));conv=>lhs;whnf)
   apply hW.b<;>intro h3<;>conv=>lhs;whnf
   ·rw[if_neg (by rintro(h|h)<;>simp_all),List.map_set]
    repeat((first|apply hW.t|apply hW.f|(apply hW.q;exact rqc)|(refine hW.w (eR ?_) ?_;omega));conv=>lhs;whnf)
    rfl
   ·repeat((first|apply hW.t|apply hW.f|(apply hW.q;exact rqc));conv=>lhs;whnf)
    rw[if_pos (.inr (by simpa using h3))];rfl
  ·repeat((first|apply hW.t|apply hW.f|(apply hW.q;exact rqc));conv=>lhs;whnf)
   rw[if_pos (.inl (by simpa using h2))];rfl
 ·repeat((first|apply hW.t|apply hW.f|(apply hW.q;exact rqc));conv=>lhs;whnf)
  have h1:fB l id<0:=by simpa using h1
  rw[gW h1];rfl
theorem bU {x lo hi:Int} (h:bK x lo hi=true):lo≤x∧x≤hi:=by simpa[bK] using h
theorem mH {b:Bool} (h:(!b)=false):b=true:=by simpa using h
theorem uD {b:Bool} (h:(!b)=true):b=false:=by simpa using h
def nJ (n:Int):Int:=if bK n 0 40=true then IntKind.i64.wrap (IntKind.i64.wrap (1*2 ^ (min n.toNat IntKind.i64.bits))-1) else 0
theorem yL {E:Env} (hE:Sys E) (n:Int):E 89 [iv n]=some ([iv (nJ n)],[]):=by
 refine hE.run rfl rfl fun W hW=>?_
 conv=>lhs;whnf
 apply hW.w (bJ hE n 0 40)
 conv=>lhs;whnf
 try(apply hW.q;exact rqc;conv=>lhs;whnf)
 unfold nJ
 apply hW.b<;>intro h1<;>conv=>lhs;whnf
 ·rw[uD h1]
  repeat((first|apply hW.t|apply hW.f|(apply hW.q;exact rqc));conv=>lhs;whnf)
  rfl
 ·rw[mH h1]
  have:=bU (mH h1)
  repeat((first|apply hW.t|apply hW.f|(apply hW.q;exact rqc));conv=>lhs;whnf)
  rfl
theorem yM {E:Env} (hE:Sys E) (n:Int):E 93 [iv n]=some ([iv (nJ n)],[]):=by
 refine hE.run rfl rfl fun W hW=>?_
 conv=>lhs;whnf
 apply hW.w (bL hE n 0 40)
 conv=>lhs;whnf
 try(apply hW.q;exact rqc;conv=>lhs;whnf)
 unfold nJ
 apply hW.b<;>intro h1<;>conv=>lhs;whnf
 ·rw[uD h1]
  repeat((first|apply hW.t|apply hW.f|(apply hW.q;exact rqc));conv=>lhs;whnf)
  rfl
 ·rw[mH h1]
  have:=bU (mH h1)
  repeat((first|apply hW.t|apply hW.f|(apply hW.q;exact rqc));conv=>lhs;whnf)
  rfl
def dQ (m:Man):Int:=nJ m.sums.length
theorem wJ {E:Env} (hE:Sys E) (m:Man):E 90 [gv (m.cs aN)]=some ([iv (dQ m)],[]):=by
 refine hE.run rfl rfl fun W hW=>?_
 conv=>lhs;whnf
 rw[show(m.sums.map Sum.row).length=m.sums.length from List.length_map _]
 apply hW.w (yL hE m.sums.length)
 conv=>lhs;whnf
 try(apply hW.q;exact rqc;conv=>lhs;whnf)
 rfl
theorem wK {E:Env} (hE:Sys E) (m:Man):E 94 [gv (m.cs aN)]=some ([iv (dQ m)],[]):=by
 refine hE.run rfl rfl fun W hW=>?_
 conv=>lhs;whnf
 rw[show(m.sums.map Sum.row).length=m.sums.length from List.length_map _]
 apply hW.w (yM hE m.sums.length)
 conv=>lhs;whnf
 try(apply hW.q;exact rqc;conv=>lhs;whnf)
 rfl
def rY (a b:Int):Int:=IntKind.i64.wrap (BitVec.ofInt IntKind.i64.bits a &&& ~~~BitVec.ofInt IntKind.i64.bits b).toNat
def aBa (a b:Int):Int:=if bN a=true∧bN b=true then rY a b else 0
theorem yN {E:Env} (hE:Sys E) (a b:Int):E 91 [iv a,iv b]=some ([iv (aBa a b)],[]):=by
 refine hE.run rfl rfl fun W hW=>?_
 conv=>lhs;whnf
 apply hW.w (dB hE a)
 conv=>lhs;whnf
 try(apply hW.q;exact rqc;conv=>lhs;whnf)
 unfold aBa
 repeat((first|apply hW.t|apply hW.f|(apply hW.q;exact rqc));conv=>lhs;whnf)
 apply hW.b<;>intro h1<;>conv=>lhs;whnf
 ·rw[if_neg (by rintro⟨h,_⟩;rw[h]at h1;cases h1)]
  repeat((first|apply hW.t|apply hW.f|(apply hW.q;exact rqc));conv=>lhs;whnf)
  rfl
 ·rw[mH h1]
  repeat((first|apply hW.t|apply hW.f|(apply hW.q;exact rqc));conv=>lhs;whnf)
  apply hW.w (dB hE b)
  conv=>lhs;whnf
  repeat((first|apply hW.t|apply hW.f|(apply hW.q;exact rqc));conv=>lhs;whnf)
  apply hW.b<;>intro h2<;>conv=>lhs;whnf
  ·rw[uD h2]
   repeat((first|apply hW.t|apply hW.f|(apply hW.q;exact rqc));conv=>lhs;whnf)
   rfl
  ·rw[mH h2]
   repeat((first|apply hW.t|apply hW.f|(apply hW.q;exact rqc));conv=>lhs;whnf)
   rfl
def aFj (m:Man) (x:Bld):Int:=aBa (dQ m) x.hav
theorem yO {E:Env} (hE:Sys E) (m:Man) (x:Bld):E 92 [gv (m.cs aN),gv (x.cs aN)]=some ([iv (aFj m x)],[]):=by
 refine hE.run rfl rfl fun W hW=>?_
 conv=>lhs;whnf
 apply hW.w (wJ hE m)
 conv=>lhs;whnf
 repeat((first|apply hW.t|apply hW.f|(apply hW.q;exact rqc));conv=>lhs;whnf)
 apply hW.w (yN hE (dQ m) x.hav)
 conv=>lhs;whnf
 try(apply hW.q;exact rqc;conv=>lhs;whnf)
 rfl
def rZ (n:Node):Int:=if n.phase=0 then 0 else aFj n.man n.bld
theorem aBb {E:Env} (hE:Sys E) (n:Node) (_:n.lim 1048576):E 97 [gv (n.cs aN)]=some ([iv (rZ n)],[]):=by
 refine hE.run rfl rfl fun W hW=>?_
 conv=>lhs;whnf
 unfold rZ
 apply hW.b<;>intro h1<;>conv=>lhs;whnf
 ·rw[if_pos (by simpa using h1)]
  repeat((first|apply hW.t|apply hW.f|(apply hW.q;exact rqc));conv=>lhs;whnf)
  rfl
 ·rw[if_neg (by simpa using h1)]
  repeat((first|apply hW.t|apply hW.f|(apply hW.q;exact rqc));conv=>lhs;whnf)
  apply hW.w (yO hE n.man n.bld)
  conv=>lhs;whnf
  try(apply hW.q;exact rqc;conv=>lhs;whnf)
  rfl
theorem oA {E:Env} (hE:Sys E) (i:Int):E 128 [iv i]=some ([bv (bK i 0 39)],[]):=by
 refine hE.run rfl rfl fun W hW=>?_
 conv=>lhs;whnf
 apply hW.w (bL hE i 0 39)
 conv=>lhs;whnf
 try(apply hW.q;exact rqc;conv=>lhs;whnf)
 rfl
theorem oB {E:Env} (hE:Sys E) (i:Int):E 1 [iv i,iv 0,iv 39]=some ([bv (bK i 0 39)],[]):=bJ hE i 0 39
def aJB (n:Int):Int:=IntKind.i64.wrap (1*2 ^ (min n.toNat IntKind.i64.bits))
def qN (s i:Int):Int:=if bN s=true∧bK i 0 39=true then wor s (aJB i) else s
theorem wL {E:Env} (hE:Sys E) (s i:Int):E 123 [iv s,iv i]=some ([iv (qN s i)],[]):=by
 refine hE.run rfl rfl fun W hW=>?_
 conv=>lhs;whnf
 apply hW.w (dB hE s)
 conv=>lhs;whnf
 try(apply hW.q;exact rqc;conv=>lhs;whnf)
 unfold qN
 repeat((first|apply hW.t|apply hW.f|(apply hW.q;exact rqc));conv=>lhs;whnf)
 apply hW.b<;>intro h1<;>conv=>lhs;whnf
 ·rw[if_neg (by rintro⟨h,_⟩;rw[h]at h1;cases h1)]
  repeat((first|apply hW.t|apply hW.f|(apply hW.q;exact rqc));conv=>lhs;whnf)
  rfl
 ·rw[mH h1]
  repeat((first|apply hW.t|apply hW.f|(apply hW.q;exact rqc));conv=>lhs;whnf)
  apply hW.w (oB hE i)
  conv=>lhs;whnf
  repeat((first|apply hW.t|apply hW.f|(apply hW.q;exact rqc));conv=>lhs;whnf)
  apply hW.b<;>intro h2<;>conv=>lhs;whnf
  ·rw[uD h2]
   repeat((first|apply hW.t|apply hW.f|(apply hW.q;exact rqc));conv=>lhs;whnf)
   rfl
  ·rw[mH h2]
   have:=bU (mH h2)
   repeat((first|apply hW.t|apply hW.f|(apply hW.q;exact rqc));conv=>lhs;whnf)
   rfl
def dF (s i:Int):Bool:=bN s&&(bK i 0 39&&decide (IntKind.i64.wrap (BitVec.ofInt IntKind.i64.bits (s.fdiv (2 ^ (min i.toNat IntKind.i64.bits))) &&& BitVec.ofInt IntKind.i64.bits 1).toNat=1))
theorem mI {E:Env} (hE:Sys E) (s i:Int):E 132 [iv s,iv i]=some ([bv (dF s i)],[]):=by
 refine hE.run rfl rfl fun W hW=>?_
 conv=>lhs;whnf
 apply hW.w (dB hE s)
 conv=>lhs;whnf
 try(apply hW.q;exact rqc;conv=>lhs;whnf)
 unfold dF
 repeat((first|apply hW.t|apply hW.f|(apply hW.q;exact rqc));conv=>lhs;whnf)
 apply hW.b<;>intro h1<;>conv=>lhs;whnf
 ·rw[h1]
  repeat((first|apply hW.t|apply hW.f|(apply hW.q;exact rqc));conv=>lhs;whnf)
  apply hW.w (oB hE i)
  conv=>lhs;whnf
  repeat((first|apply hW.t|apply hW.f|(apply hW.q;exact rqc));conv=>lhs;whnf)
  apply hW.b<;>intro h2<;>conv=>lhs;whnf
  ·rw[h2]
   have:=bU h2
   repeat((first|apply hW.t|apply hW.f|(apply hW.q;exact rqc));conv=>lhs;whnf)
   rfl
  ·rw[h2]
   repeat((first|apply hW.t|apply hW.f|(apply hW.q;exact rqc));conv=>lhs;whnf)
   rfl
 ·rw[h1]
  repeat((first|apply hW.t|apply hW.f|(apply hW.q;exact rqc));conv=>lhs;whnf)
  rfl
theorem dG {E:Env} (hE:Sys E) (s i:Int):E 135 [iv s,iv i]=some ([bv (dF s i)],[]):=by
 refine hE.run rfl rfl fun W hW=>?_
 conv=>lhs;whnf
 apply hW.w (cP hE s)
 conv=>lhs;whnf
 try(apply hW.q;exact rqc;conv=>lhs;whnf)
 unfold dF
 repeat((first|apply hW.t|apply hW.f|(apply hW.q;exact rqc));conv=>lhs;whnf)
 apply hW.b<;>intro h1<;>conv=>lhs;whnf
 ·rw[h1]
  repeat((first|apply hW.t|apply hW.f|(apply hW.q;exact rqc));conv=>lhs;whnf)
  apply hW.w (oA hE i)
  conv=>lhs;whnf
  repeat((first|apply hW.t|apply hW.f|(apply hW.q;exact rqc));conv=>lhs;whnf)
  apply hW.b<;>intro h2<;>conv=>lhs;whnf
  ·rw[h2]
   have:=bU h2
   repeat((first|apply hW.t|apply hW.f|(apply hW.q;exact rqc));conv=>lhs;whnf)
   rfl
  ·rw[h2]
   repeat((first|apply hW.t|apply hW.f|(apply hW.q;exact rqc));conv=>lhs;whnf)
   rfl
 ·rw[h1]
  repeat((first|apply hW.t|apply hW.f|(apply hW.q;exact rqc));conv=>lhs;whnf)
  rfl
theorem aCB (a:aD):(⟨a.toArray⟩:ByteArray).toList=a:=by rw[ByteArray.toList_eq]
theorem aBc {E:Env} (hE:Sys E) (a b:aD):E 14 [sv (bys a),sv (bys b)]=some ([bv (decide (a=b))],[]):=by
 refine hE.run rfl rfl fun W hW=>?_
 conv=>lhs;whnf
 apply hW.w (aAk a)
 conv=>lhs;whnf
 try(apply hW.q;exact rqc;conv=>lhs;whnf)
 apply hW.w (aAk b)
 conv=>lhs;whnf
 try(apply hW.q;exact rqc;conv=>lhs;whnf)
 simp only[aCB]
 rfl
theorem uE {E:Env} (hE:Sys E) (a b:aD):E 15 [sv (bys a),sv (bys b)]=some ([bv (decide (a=b))],[]):=by
 refine hE.run rfl rfl fun W hW=>?_
 conv=>lhs;whnf
 apply hW.w (aBc hE a b)
 conv=>lhs;whnf
 try(apply hW.q;exact rqc;conv=>lhs;whnf)
 rfl
theorem mJ {E:Env} (hE:Sys E) (l m:List Sum) (h0:l.length≤1099511627776):E 235 [sv (l.map Sum.row),sv (m.map Sum.row)]=some ([bv (decide (l=m))],[]):=by
 refine hE.run rfl rfl fun W hW=>?_
 conv=>lhs;whnf
 apply hW.b<;>intro h<;>conv=>lhs;whnf
 ·have:l≠m:=by rintro rfl;simp at h
  rw[decide_eq_false this];rfl
 ·have h:l.length=m.length:=by simp at h;omega
  refine hW.loop (σ:=Nat) (γ:=Nat) (fun i s=>s.sl 5 (v1 (.t (.int .i64 i)))) (fun i n=>i=n∧n≤l.length) (fun n=>l.length-n) (fun n=>([bv (decide (l.drop n=m.drop n))],[])) 0 0 ?_ ?_ ?_ ?_
  ·intro K
   conv=>lhs;whnf
   conv=>rhs;whnf
   try rfl
  ·simp
  ·rintro kl n _ ⟨rfl,hn⟩ ih
   conv=>lhs;whnf
   apply hW.b<;>intro h2<;>conv=>lhs;whnf
   ·have h2:n<l.length:=by simpa using h2
    rw[List.drop_eq_getElem_cons h2,List.drop_eq_getElem_cons (l:=m) (i:=n) (by omega)]
    repeat((first|apply hW.t|apply hW.f|(apply hW.q;exact rqc)|(refine hW.w (eR ?_) ?_;omega));conv=>lhs;whnf)
    apply hW.b<;>intro h3<;>conv=>lhs;whnf
    ·have h3:l[n]≠m[n]:=by intro e;rw[e]at h3;simp at h3
     rw[decide_eq_false fun e=>h3 (List.cons.inj e).1];rfl
    ·have h3:l[n]=m[n]:=by
      revert h3
      generalize l[n]=x
      generalize m[n]=y
      cases x;cases y
      simp
     simp only[h3,List.cons.injEq,true_and]
     refine ih (n+1) (n+1) _ ?_ ⟨rfl,by omega⟩ (by omega)
     intro K
     conv=>lhs;whnf
     conv=>rhs;whnf
     try rfl
     rw[show IntKind.i64.wrap ((n:Int)+1)=_ from aL (by omega)]
     try rfl
   ·have:n=l.length:=by simp at h2;omega
    subst this
    rw[List.drop_length,h,List.drop_length];rfl
  ·rfl
theorem mK {E:Env} (hE:Sys E) (l m:List Sum) (h0:l.length≤1099511627776):E 248 [sv (l.map Sum.row),sv (m.map Sum.row)]=some ([bv (decide (l=m))],[]):=by
 refine hE.run rfl rfl fun W hW=>?_
 conv=>lhs;whnf
 apply hW.b<;>intro h<;>conv=>lhs;whnf
 ·have:l≠m:=by rintro rfl;simp at h
  rw[decide_eq_false this];rfl
 ·have h:l.length=m.length:=by simp at h;omega
  refine hW.loop (σ:=Nat) (γ:=Nat) (fun i s=>s.sl 13 (v1 (.t (.int .i64 i)))) (fun i n=>i=n∧n≤l.length) (fun n=>l.length-n) (fun n=>([bv (decide (l.drop n=m.drop n))],[])) 0 0 ?_ ?_ ?_ ?_
  ·intro K
   conv=>lhs;whnf
   conv=>rhs;whnf
   try rfl
  ·simp
  ·rintro kl n _ ⟨rfl,hn⟩ ih
   conv=>lhs;whnf
   apply hW.b<;>intro h2<;>conv=>lhs;whnf
   ·have h2:n<l.length:=by simpa using h2
    rw[List.drop_eq_getElem_cons h2,List.drop_eq_getElem_cons (l:=m) (i:=n) (by omega)]
    repeat((first|apply hW.t|apply hW.f|(apply hW.q;exact rqc)|(refine hW.w (eR ?_) ?_;omega));conv=>lhs;whnf)
    apply hW.b<;>intro h3<;>conv=>lhs;whnf
    ·have h3:l[n]≠m[n]:=by intro e;rw[e]at h3;simp at h3
     rw[decide_eq_false fun e=>h3 (List.cons.inj e).1];rfl
    ·have h3:l[n]=m[n]:=by
      revert h3
      generalize l[n]=x
      generalize m[n]=y
      cases x;cases y
      simp
     simp only[h3,List.cons.injEq,true_and]
     refine ih (n+1) (n+1) _ ?_ ⟨rfl,by omega⟩ (by omega)
     intro K
     conv=>lhs;whnf
     conv=>rhs;whnf
     try rfl
     rw[show IntKind.i64.wrap ((n:Int)+1)=_ from aL (by omega)]
     try rfl
   ·have:n=l.length:=by simp at h2;omega
    subst this
    rw[List.drop_length,h,List.drop_length];rfl
  ·rfl
theorem gF {E:Env} (hE:Sys E) (a b:Man) (h0:a.sums.length≤1099511627776):E 285 [gv (a.cs aN),gv (b.cs aN)]=some ([bv (decide (a=b))],[]):=by
 refine hE.run rfl rfl fun W hW=>?_
 conv=>lhs;whnf
 have key:decide (a=b)=(decide (a.gen=b.gen)&&(decide (a.size=b.size)&&(decide (a.len=b.len)&&decide (a.sums=b.sums)))):=by
  cases a;cases b;simp
 rw[key]
 apply hW.b<;>intro h1<;>conv=>lhs;whnf
 ·rw[h1]
  repeat((first|apply hW.t|apply hW.f|(apply hW.q;exact rqc));conv=>lhs;whnf)
  apply hW.b<;>intro h2<;>conv=>lhs;whnf
  ·rw[h2]
   repeat((first|apply hW.t|apply hW.f|(apply hW.q;exact rqc));conv=>lhs;whnf)
   apply hW.b<;>intro h3<;>conv=>lhs;whnf
   ·rw[h3]
    repeat((first|apply hW.t|apply hW.f|(apply hW.q;exact rqc));conv=>lhs;whnf)
    apply hW.w (mJ hE a.sums b.sums h0)
    conv=>lhs;whnf
    repeat((first|apply hW.t|apply hW.f|(apply hW.q;exact rqc));conv=>lhs;whnf)
    rfl
   ·rw[h3]
    repeat((first|apply hW.t|apply hW.f|(apply hW.q;exact rqc));conv=>lhs;whnf)
    rfl
  ·rw[h2]
   repeat((first|apply hW.t|apply hW.f|(apply hW.q;exact rqc));conv=>lhs;whnf)
   rfl
 ·rw[h1]
  repeat((first|apply hW.t|apply hW.f|(apply hW.q;exact rqc));conv=>lhs;whnf)
  rfl
theorem yP {E:Env} (hE:Sys E) (a b:Man) (h0:a.sums.length≤1099511627776):E 286 [gv (a.cs aN),gv (b.cs aN)]=some ([bv (decide (a=b))],[]):=by
 refine hE.run rfl rfl fun W hW=>?_
 conv=>lhs;whnf
 have key:decide (a=b)=(decide (a.gen=b.gen)&&(decide (a.size=b.size)&&(decide (a.len=b.len)&&decide (a.sums=b.sums)))):=by
  cases a;cases b;simp
 rw[key]
 apply hW.b<;>intro h1<;>conv=>lhs;whnf
 ·rw[h1]
  repeat((first|apply hW.t|apply hW.f|(apply hW.q;exact rqc));conv=>lhs;whnf)
  apply hW.b<;>intro h2<;>conv=>lhs;whnf
  ·rw[h2]
   repeat((first|apply hW.t|apply hW.f|(apply hW.q;exact rqc));conv=>lhs;whnf)
   apply hW.b<;>intro h3<;>conv=>lhs;whnf
   ·rw[h3]
    repeat((first|apply hW.t|apply hW.f|(apply hW.q;exact rqc));conv=>lhs;whnf)
    apply hW.w (mK hE a.sums b.sums h0)
    conv=>lhs;whnf
    repeat((first|apply hW.t|apply hW.f|(apply hW.q;exact rqc));conv=>lhs;whnf)
    rfl
   ·rw[h3]
    repeat((first|apply hW.t|apply hW.f|(apply hW.q;exact rqc));conv=>lhs;whnf)
    rfl
  ·rw[h2]
   repeat((first|apply hW.t|apply hW.f|(apply hW.q;exact rqc));conv=>lhs;whnf)
   rfl
 ·rw[h1]
  repeat((first|apply hW.t|apply hW.f|(apply hW.q;exact rqc));conv=>lhs;whnf)
  rfl
def jQ (s:Int):Nat→Nat→List Int
 |_,0=>[]
 |i,k+1=>if dF s i=true then(i:Int)::jQ s (i+1) k else jQ s (i+1) k
def dL (s:Int):List Int:=jQ s 0 40
theorem aGr {s:Int}:∀ {k i:Nat},(jQ s i k).length≤k:=by
 intro k
 induction k with
 |zero=>intro i;exact Nat.le_refl _
 |succ k ih =>
  intro i
  simp only[jQ]
  split
  ·have:=ih (i:=i+1);simp only[List.length_cons];omega
  ·have:=ih (i:=i+1);omega
theorem aIB {s:Int}:∀ {k i:Nat},∀ x∈jQ s i k,0≤x:=by
 intro k
 induction k with
 |zero=>intro i x h;cases h
 |succ k ih =>
  intro i x h
  simp only[jQ]at h
  split at h
  ·rcases List.mem_cons.mp h with rfl|h
   ·omega
   ·exact ih x h
  ·exact ih x h
theorem mL {s:Int}:(dL s).length≤40:=aGr
theorem yQ {E:Env} (hE:Sys E) (s:Int):E 134 [iv s]=some ([ov 1 (cG (dL s))],[]):=by
 refine hE.run rfl rfl fun W hW=>?_
 conv=>lhs;whnf
 refine hW.loop (σ:=Nat × List Int) (γ:=Nat) (fun i s=>(s.sl 6 (v1 (.t (.int .i64 i.1)))).bl ⟨50300,1, .own,cG i.2⟩) (fun i m=>i.1=m∧m≤40∧i.2.length≤m∧i.2++jQ s m (40-m)=dL s) (fun m=>40-m) (fun _=>([ov 1 (cG (dL s))],[])) (0,[]) 0 ?_ ?_ ?_ ?_
 ·intro K
  conv=>lhs;whnf
  conv=>rhs;whnf
  try rfl
 ·exact⟨rfl,by omega,by simp,rfl⟩
 ·rintro kl ⟨m,acc⟩ _ ⟨rfl,hm,hl,hs⟩ ih
  simp only at hs hm hl
  conv=>lhs;whnf
  apply hW.b<;>intro h1<;>conv=>lhs;whnf
  ·have h1:m<40:=by
    have:(m:Int)<40:=by simpa using h1
    omega
   rw[show 40-m=(40-(m+1))+1 from by omega,jQ]at hs
   repeat((first|apply hW.t|apply hW.f|(apply hW.q;exact rqc));conv=>lhs;whnf)
   apply hW.w (dG hE s m)
   conv=>lhs;whnf
   try(apply hW.q;exact rqc;conv=>lhs;whnf)
   apply hW.b<;>intro h3<;>conv=>lhs;whnf
   ·rw[if_pos h3]at hs
    repeat((first|apply hW.t|apply hW.f|(apply hW.q;exact rqc));conv=>lhs;whnf)
    refine hW.q (by exact⟨by decide,by intro e he;simp at he;subst he;rfl,by simp[cG];omega,by simp[cG];omega⟩) ?_
    conv=>lhs;whnf
    repeat((first|apply hW.t|apply hW.f|(apply hW.q;exact rqc));conv=>lhs;whnf)
    refine ih (m+1,acc++[(m:Int)]) (m+1) _ ?_ ⟨rfl,by omega,by simp;omega,by simpa using hs⟩ (by omega)
    intro K
    conv=>lhs;whnf
    conv=>rhs;whnf
    try rfl
    rw[show IntKind.i64.wrap ((m:Int)+1)=_ from aL (by omega)]
    simp[cG,rD]
   ·rw[if_neg (by rw[h3];decide)]at hs
    repeat((first|apply hW.t|apply hW.f|(apply hW.q;exact rqc));conv=>lhs;whnf)
    refine ih (m+1,acc) (m+1) _ ?_ ⟨rfl,by omega,by simp only;omega,hs⟩ (by omega)
    intro K
    conv=>lhs;whnf
    conv=>rhs;whnf
    try rfl
    rw[show IntKind.i64.wrap ((m:Int)+1)=_ from aL (by omega)]
    try rfl
  ·have:m=40:=by
    have:¬ (m:Int)<40:=by simpa using h1
    omega
   subst this
   simp only[Nat.sub_self,jQ,List.append_nil]at hs
   repeat((first|apply hW.t|apply hW.f|(apply hW.q;exact rqc));conv=>lhs;whnf)
   rw[← hs];rfl
 ·rfl
theorem aIC (l:List Sum):mW (l.map Sum.row)=true:=uU (fun _=>rfl) l
theorem aID (l:List Sum):∀ e∈l.map Sum.row,e.length=2:=aFe fun _=>rfl
theorem aH (l:aD):(bys l).length=l.length:=List.length_map _
theorem aDT {E:Env} (hE:Sys E) (l:List Sum) (h0:l.length≤68719476736):E 218 [sv (l.map Sum.row)]=some ([ov 2 (l.map Sum.row)],[]):=by
 have hfl:mW (l.map Sum.row)=true:=uU (fun _=>rfl) l
 have hrl:(l.map Sum.row).length=l.length:=by simp[bys,cG]
 have hro:∀ e∈l.map Sum.row,e.length=2:=aFe fun _=>rfl
 refine hE.run2 rfl rfl (fun W hW=>?_) (fun he W hW=>?_)
 ·conv=>lhs;whnf
  repeat((first|apply hW.t|apply hW.f|(apply hW.q;exact rqc));conv=>lhs;whnf)
  refine hW.q (by exact⟨by decide,hro,by simp only[List.length_nil,hrl];omega,by simp only[List.length_nil,hrl];omega⟩) ?_
  conv=>lhs;whnf
  apply hW.bt (hfl)
  conv=>lhs;whnf
  rfl
 ·cases l with
  |cons x r=>exact absurd (show false=true from he) (by decide)
  |nil =>
   conv=>lhs;whnf
   repeat((first|apply hW.t|apply hW.f|(apply hW.q;exact rqc));conv=>lhs;whnf)
   rfl
theorem cM {E:Env} (hE:Sys E) (b:aD) (h0:b.length≤68719476736):E 42 [sv (bys b)]=some ([ov 1 (bys b)],[]):=by
 refine hE.run rfl rfl fun W hW=>?_
 conv=>lhs;whnf
 refine hW.q (by exact⟨by omega, .inr rfl,by omega,by rw[aH];omega,by rw[aH];omega,by decide,rfl⟩) ?_
 conv=>lhs;whnf
 repeat((first|apply hW.t|apply hW.f|(apply hW.q;exact rqc));conv=>lhs;whnf)
 refine hW.q (by exact⟨by decide,aX _,by simp[aH];omega,by simp[aH];omega⟩) ?_
 conv=>lhs;whnf
 apply hW.bt (cL _)
 conv=>lhs;whnf
 rfl
theorem aBd {E:Env} (hE:Sys E) (x:Man) (h0:x.sums.length≤8388608):E 213 [gv (x.cs aN)]=some ([gv (x.cs eQ)],[]):=by
 refine hE.run rfl rfl fun W hW=>?_
 conv=>lhs;whnf
 repeat((first|apply hW.t|apply hW.f|(apply hW.q;exact rqc));conv=>lhs;whnf)
 refine hW.q (by exact⟨by decide,aID _,by simp;omega,by simp;omega⟩) ?_
 conv=>lhs;whnf
 apply hW.bt (aIC _)
 conv=>lhs;whnf
 rfl
theorem oC {E:Env} (hE:Sys E) (x:Man) (h0:x.sums.length≤8388608):E 216 [gv (x.cs aN)]=some ([gv (x.cs eQ)],[]):=by
 refine hE.run rfl rfl fun W hW=>?_
 conv=>lhs;whnf
 repeat((first|apply hW.t|apply hW.f|(apply hW.q;exact rqc));conv=>lhs;whnf)
 apply hW.w (aDT hE x.sums (by omega))
 conv=>lhs;whnf
 repeat((first|apply hW.t|apply hW.f|(apply hW.q;exact rqc));conv=>lhs;whnf)
 rfl
theorem kY {E:Env} (hE:Sys E) (x:Bld) (h0:x.buf.length≤8388608):E 217 [gv (x.cs aN)]=some ([gv (x.cs eQ)],[]):=by
 refine hE.run rfl rfl fun W hW=>?_
 conv=>lhs;whnf
 repeat((first|apply hW.t|apply hW.f|(apply hW.q;exact rqc));conv=>lhs;whnf)
 apply hW.w (cM hE x.buf (by omega))
 conv=>lhs;whnf
 repeat((first|apply hW.t|apply hW.f|(apply hW.q;exact rqc));conv=>lhs;whnf)
 rfl
theorem cS {E:Env} (hE:Sys E) (x:Node) (h0:x.lim 8388608):E 215 [gv (x.cs aN)]=some ([gv (x.cs eQ)],[]):=by
 obtain⟨h1,h2,h3⟩:=h0
 refine hE.run rfl rfl fun W hW=>?_
 conv=>lhs;whnf
 repeat((first|apply hW.t|apply hW.f|(apply hW.q;exact rqc));conv=>lhs;whnf)
 apply hW.w (oC hE x.man h1)
 conv=>lhs;whnf
 repeat((first|apply hW.t|apply hW.f|(apply hW.q;exact rqc));conv=>lhs;whnf)
 apply hW.w (kY hE x.bld h2)
 conv=>lhs;whnf
 repeat((first|apply hW.t|apply hW.f|(apply hW.q;exact rqc));conv=>lhs;whnf)
 apply hW.w (pC hE x.kids (by omega))
 conv=>lhs;whnf
 repeat((first|apply hW.t|apply hW.f|(apply hW.q;exact rqc));conv=>lhs;whnf)
 rfl
def oD (r:Rec):Bool:=bK r.gen 0 1000000&&(bK r.slot 0 1&&bK r.len 0 240)
theorem aIE (n:Int):bK n 0 1=(decide (n=0)||decide (n=1)):=by
 rw[Bool.eq_iff_iff];simp[bK];omega
theorem qO {E:Env} (hE:Sys E) (n:Int):E 199 [iv n]=some ([bv (bK n 0 1)],[]):=by
 rw[aIE]
 refine hE.run rfl rfl fun W hW=>?_
 conv=>lhs;whnf
 repeat'((first|apply hW.t|apply hW.f|(apply hW.q;exact rqc)|(apply hW.b<;>intro h))<;>conv=>lhs;whnf)
 all_goals(refine congrArg (fun b=>(some ([bv b],[]):Option Res)) ?_;first|rfl|(simp_all [];done)|(simp_all []<;>(intros;omega)))
theorem mM {E:Env} (hE:Sys E) (n:Int):E 198 [iv n]=some ([bv (bK n 0 1000000)],[]):=by
 refine hE.run rfl rfl fun W hW=>?_
 conv=>lhs;whnf
 repeat'((first|apply hW.t|apply hW.f|(apply hW.q;exact rqc)|apply hW.w (bL hE _ _ _)|(apply hW.b<;>intro h))<;>conv=>lhs;whnf)
 all_goals(refine congrArg (fun b=>(some ([bv b],[]):Option Res)) ?_;first|rfl|(simp_all [];done)|(simp_all []<;>(intros;omega)))
theorem mN {E:Env} (hE:Sys E) (r:Rec):E 193 [gv r.cs]=some ([bv (oD r)],[]):=by
 refine hE.run rfl rfl fun W hW=>?_
 conv=>lhs;whnf
 repeat'((first|apply hW.t|apply hW.f|(apply hW.q;exact rqc)|apply hW.w (bL hE _ _ _)|apply hW.w (mM hE _)|apply hW.w (qO hE _)|(apply hW.b<;>intro h))<;>conv=>lhs;whnf)
 all_goals(refine congrArg (fun b=>(some ([bv b],[]):Option Res)) ?_;first|rfl|(simp_all [oD];done)|(simp_all [oD]<;>(intros;omega)))
def kZ (p:Put):Bool:=if p.what=2 then decide (p.at_=0)&&(decide (p.b=[])&&oD p.r) else bK p.what 0 1&&(bK p.at_ 0 240&&(decide ((p.b.length:Int)≤IntKind.i64.wrap (240-p.at_))&&decide (p.r=⟨0,0,0⟩)))
theorem aY (b:aD):((bys b).length:Int)=b.length:=by rw[aH]
theorem aCC {E:Env} (hE:Sys E) (p:Put) (hp:p.b.length≤8388608):E 200 [gv (p.cs aN)]=some ([bv (kZ p)],[]):=by
 obtain⟨w,a,b,⟨r1,r2,r3⟩⟩:=p
 have hp:b.length≤8388608:=hp
 have hw:IntKind.i64.wrap (240-((bys b).length:Int))=240-b.length:=by rw[aH];exact aI (by omega)
 have hk:bK a 0 (240-b.length)=(bK a 0 240&&decide ((b.length:Int)≤IntKind.i64.wrap (240-a))):=by
  rw[Bool.eq_iff_iff]
  simp only[bK,Bool.and_eq_true,decide_eq_true_eq]
  constructor
  ·rintro⟨h1,h2⟩
   rw[show IntKind.i64.wrap (240-a)=240-a from aI (by omega)]
   omega
  ·rintro⟨⟨h1,h2⟩,h3⟩
   rw[show IntKind.i64.wrap (240-a)=240-a from aI (by omega)]at h3
   omega
 refine hE.run rfl rfl fun W hW=>?_
 conv=>lhs;whnf
 repeat'((first|apply hW.t|apply hW.f|(apply hW.q;exact rqc)|apply hW.w (bL hE _ _ _)|apply hW.w (qO hE _)|apply hW.w (mN hE ⟨r1,r2,r3⟩)|(apply hW.b<;>intro h))<;>conv=>lhs;whnf)
 all_goals(try rw[hw]at *)
 all_goals(try rw[hk]at *)
 all_goals(refine congrArg (fun b=>(some ([bv b],[]):Option Res)) ?_;first|rfl|(simp_all [kZ,aY];done)|(simp_all [kZ,aY]<;>(intros;omega)))
theorem tM {E:Env} (hE:Sys E) {f:Nat→List (List T)→CA} {o:Bool} (hf:∀ z e,f z e=aN z e) (d:Disk) (n:Int) (hn:n=0):E 194 [.pt false (d.cs aN o),iv n]=some ([.apt 0 0],[]):=by
 subst hn
 refine hE.run rfl rfl fun W hW=>?_
 conv=>lhs;whnf
 repeat((first|apply hW.t|apply hW.f|(apply hW.q;exact rqc));conv=>lhs;whnf)
 rfl
theorem tN {E:Env} (hE:Sys E) {o:Bool} (d:Disk) (n:Int) (hn:n≠0):E 194 [.pt false (d.cs aN o),iv n]=some ([.apt 0 1],[]):=by
 refine hE.run rfl rfl fun W hW=>?_
 conv=>lhs;whnf
 apply hW.bf (by simpa using hn)
 conv=>lhs;whnf
 repeat((first|apply hW.t|apply hW.f|(apply hW.q;exact rqc));conv=>lhs;whnf)
 rfl
theorem aFk {α:Type} {p:α→Bool} {l:List α}:∀ {n:Nat},decide (nW p n l≥0)=l.any p:=by
 induction l with
 |nil=>intro n;simp[nW]
 |cons x r ih =>
  intro n
  simp only[nW,List.any_cons]
  by_cases hp:p x=true
  ·simp[hp]
  ·have:=ih (n:=n+1)
   simp_all
theorem aGs {E:Env} (hE:Sys E) (p:Put) (hp:p.b.length≤8388608):E 196 [gv (p.cs aN)]=some ([bv (!kZ p)],[]):=by
 refine hE.run rfl rfl fun W hW=>?_
 conv=>lhs;whnf
 repeat((first|apply hW.t|apply hW.f|(apply hW.q;exact rqc));conv=>lhs;whnf)
 apply hW.w (aCC hE p hp)
 conv=>lhs;whnf
 repeat((first|apply hW.t|apply hW.f|(apply hW.q;exact rqc));conv=>lhs;whnf)
 rfl
theorem wM {E:Env} (hE:Sys E) {o:Bool} (l:List Put) (h0:l.length≤1099511627776) (hb:∀ x∈l,x.b.length≤8388608):E 197 [sv (l.map (Put.row o)), .fn 196 []]=some ([iv (nW (fun x:Put => !kZ x) 0 l)],[]):=by
 have hrl:(l.map (Put.row o)).length=l.length:=by simp[bys,cG]
 refine hE.run rfl rfl fun W hW=>?_
 conv=>lhs;whnf
 refine hW.loop (σ:=Nat) (γ:=Nat) (fun i s=>s.sl 8 (v1 (.t (.int .i64 i)))) (fun i n=>i=n∧n≤l.length) (fun n=>l.length-n) (fun n=>([iv (nW (fun x:Put => !kZ x) n (l.drop n))],[])) 0 0 ?_ ?_ ?_ ?_
 ·intro K
  conv=>lhs;whnf
  conv=>rhs;whnf
  try rfl
 ·simp
 ·rintro kl n _ ⟨rfl,hn⟩ ih
  conv=>lhs;whnf
  apply hW.b<;>intro h2<;>conv=>lhs;whnf
  ·have h2:n<l.length:=by simpa[hrl] using h2
   rw[List.drop_eq_getElem_cons h2]
   repeat((first|apply hW.t|apply hW.f|(apply hW.q;exact rqc)|(refine hW.w (eR ?_) ?_;omega));conv=>lhs;whnf)
   apply hW.w (aGs hE l[n] (hb _ (List.getElem_mem h2)))
   conv=>lhs;whnf
   try(apply hW.q;exact rqc;conv=>lhs;whnf)
   simp only[nW]
   apply hW.b<;>intro h3<;>conv=>lhs;whnf
   ·simp only[h3,if_true];rfl
   ·simp only[h3,if_false,Bool.false_eq_true]
    refine ih (n+1) (n+1) _ ?_ ⟨rfl,by omega⟩ (by omega)
    intro K
    conv=>lhs;whnf
    conv=>rhs;whnf
    try rfl
    rw[show IntKind.i64.wrap ((n:Int)+1)=_ from aL (by omega)]
    try rfl
  ·have:n=l.length:=by simp[hrl]at h2;omega
   subst this
   rw[List.drop_length];rfl
 ·rfl
theorem qP {E:Env} (hE:Sys E) {o:Bool} (l:List Put) (h0:l.length≤1099511627776) (hb:∀ x∈l,x.b.length≤8388608):E 195 [sv (l.map (Put.row o)), .fn 196 []]=some ([bv (l.any fun x => !kZ x)],[]):=by
 refine hE.run rfl rfl fun W hW=>?_
 conv=>lhs;whnf
 apply hW.w (wM hE l h0 hb)
 conv=>lhs;whnf
 try(apply hW.q;exact rqc;conv=>lhs;whnf)
 rw[aFk]
 repeat((first|apply hW.t|apply hW.f|(apply hW.q;exact rqc));conv=>lhs;whnf)
 rfl
def mO (d:Disk):Bool:=decide ((d.a.length:Int)≤240)&&(decide ((d.b.length:Int)≤240)&&(oD d.r&&(decide (d.r.len≤((if d.r.slot=1 then d.b else d.a).length:Int))&&(decide ((d.p.length:Int)≤200)&&d.p.all kZ))))
theorem aCD {r:Rec} (h:oD r=true):r.slot=0∨r.slot=1:=by
 simp[oD,bK]at h;omega
theorem yR {E:Env} (hE:Sys E) {o:Bool} (d:Disk) (hd:d.lim 8388608):E 191 [gv (d.cs aN o)]=some ([bv (mO d)],[]):=by
 obtain⟨h1,h2,h3,h4⟩:=hd
 have hany:d.p.all kZ = !(d.p.any fun x => !kZ x):=by
  rw[Bool.eq_iff_iff];simp
 have hA:d.p.length≤1099511627776:=Nat.le_trans h3 (by decide)
 unfold mO
 rw[hany]
 have hR:=mN hE d.r
 have hC:=qP hE (o:=o) d.p hA h4
 clear hany
 generalize (d.p.any fun x => !kZ x)=q at hC ⊢
 cases hr:oD d.r
 ·rw[hr]at hR
  refine hE.run rfl rfl fun W hW=>?_
  conv=>lhs;whnf
  repeat'((first|apply hW.t|apply hW.f|(apply hW.q;exact rqc)|apply hW.w (hR)|(apply hW.b<;>intro h))<;>conv=>lhs;whnf)
  all_goals(refine congrArg (fun b=>(some ([bv b],[]):Option Res)) ?_;first|rfl|(simp_all [aH];done)|(simp_all [aH]<;>(intros;omega)))
 ·rw[hr]at hR
  rcases aCD hr with hs|hs
  ·refine hE.run rfl rfl fun W hW=>?_
   conv=>lhs;whnf
   repeat'((first|apply hW.t|apply hW.f|(apply hW.q;exact rqc)|apply hW.w (hR)|apply hW.w (tM hE (fun _ _=>rfl) d d.r.slot hs)|apply hW.w (hC)|(apply hW.b<;>intro h))<;>conv=>lhs;whnf)
   all_goals(refine congrArg (fun b=>(some ([bv b],[]):Option Res)) ?_;first|rfl|(simp_all [aH];done)|(simp_all [aH]<;>(intros;omega)))
  ·refine hE.run rfl rfl fun W hW=>?_
   conv=>lhs;whnf
   repeat'((first|apply hW.t|apply hW.f|(apply hW.q;exact rqc)|apply hW.w (hR)|apply hW.w (tN hE d d.r.slot (by omega))|apply hW.w (hC)|(apply hW.b<;>intro h))<;>conv=>lhs;whnf)
   all_goals(refine congrArg (fun b=>(some ([bv b],[]):Option Res)) ?_;first|rfl|(simp_all [aH];done)|(simp_all [aH]<;>(intros;omega)))
theorem aBe {E:Env} (hE:Sys E) {o:Bool} (d:Disk) (hd:d.lim 1048576):E 191 [gv (d.cs aN o)]=some ([bv (mO d)],[]):=yR hE d (Disk.lim_mono (by decide) hd)
def nK (a b:Int):Int:=if bK a 0 1000000000000=true∧bK b 1 1000000000000=true then IntKind.i64.wrap ((IntKind.i64.wrap (IntKind.i64.wrap (a+b)-1)).tdiv b) else 0
theorem yS {E:Env} (hE:Sys E) (a b:Int):E 240 [iv a,iv b]=some ([iv (nK a b)],[]):=by
 have ha:=bJ hE a 0 1000000000000
 have hb:=bJ hE b 1 1000000000000
 unfold nK
 cases h1:bK a 0 1000000000000
 ·rw[h1]at ha
  refine hE.run rfl rfl fun W hW=>?_
  conv=>lhs;whnf
  repeat'((first|apply hW.t|apply hW.f|(apply hW.q;exact rqc)|apply hW.w (ha)|(apply hW.b<;>intro h))<;>conv=>lhs;whnf)
  all_goals(refine congrArg (fun b=>(some ([iv b],[]):Option Res)) ?_;first|rfl|(simp_all [];done)|(simp_all []<;>(intros;omega)))
 ·rw[h1]at ha
  cases h2:bK b 1 1000000000000
  ·rw[h2]at hb
   refine hE.run rfl rfl fun W hW=>?_
   conv=>lhs;whnf
   repeat'((first|apply hW.t|apply hW.f|(apply hW.q;exact rqc)|apply hW.w (ha)|apply hW.w (hb)|(apply hW.b<;>intro h))<;>conv=>lhs;whnf)
   all_goals(refine congrArg (fun b=>(some ([iv b],[]):Option Res)) ?_;first|rfl|(simp_all [];done)|(simp_all []<;>(intros;omega)))
  ·rw[h2]at hb
   have:=bU h2
   refine hE.run rfl rfl fun W hW=>?_
   conv=>lhs;whnf
   repeat'((first|apply hW.t|apply hW.f|(apply hW.q;exact rqc)|apply hW.w (ha)|apply hW.w (hb)|(apply hW.b<;>intro h))<;>conv=>lhs;whnf)
   rfl
theorem yT {E:Env} (hE:Sys E) (a b:Int):E 253 [iv a,iv b]=some ([iv (nK a b)],[]):=by
 have ha:=bL hE a 0 1000000000000
 have hb:=bL hE b 1 1000000000000
 unfold nK
 cases h1:bK a 0 1000000000000
 ·rw[h1]at ha
  refine hE.run rfl rfl fun W hW=>?_
  conv=>lhs;whnf
  repeat'((first|apply hW.t|apply hW.f|(apply hW.q;exact rqc)|apply hW.w (ha)|(apply hW.b<;>intro h))<;>conv=>lhs;whnf)
  all_goals(refine congrArg (fun b=>(some ([iv b],[]):Option Res)) ?_;first|rfl|(simp_all [];done)|(simp_all []<;>(intros;omega)))
 ·rw[h1]at ha
  cases h2:bK b 1 1000000000000
  ·rw[h2]at hb
   refine hE.run rfl rfl fun W hW=>?_
   conv=>lhs;whnf
   repeat'((first|apply hW.t|apply hW.f|(apply hW.q;exact rqc)|apply hW.w (ha)|apply hW.w (hb)|(apply hW.b<;>intro h))<;>conv=>lhs;whnf)
   all_goals(refine congrArg (fun b=>(some ([iv b],[]):Option Res)) ?_;first|rfl|(simp_all [];done)|(simp_all []<;>(intros;omega)))
  ·rw[h2]at hb
   have:=bU h2
   refine hE.run rfl rfl fun W hW=>?_
   conv=>lhs;whnf
   repeat'((first|apply hW.t|apply hW.f|(apply hW.q;exact rqc)|apply hW.w (ha)|apply hW.w (hb)|(apply hW.b<;>intro h))<;>conv=>lhs;whnf)
   rfl
def cN (size n:Int):Bool:=bK size 2 6&&bK n 0 (IntKind.i64.wrap (size*40))
theorem kO {E:Env} (hE:Sys E) (size n:Int):E 239 [iv size,iv n]=some ([bv (cN size n)],[]):=by
 refine hE.run rfl rfl fun W hW=>?_
 conv=>lhs;whnf
 repeat'((first|apply hW.t|apply hW.f|(apply hW.q;exact rqc)|apply hW.w (bJ hE _ _ _)|(apply hW.b<;>intro h))<;>conv=>lhs;whnf)
 all_goals(refine congrArg (fun b=>(some ([bv b],[]):Option Res)) ?_;first|rfl|(simp_all [cN];done)|(simp_all [cN]<;>(intros;omega)))
theorem qQ {E:Env} (hE:Sys E) (size n:Int):E 252 [iv size,iv n]=some ([bv (cN size n)],[]):=by
 have:size*40=40*size:=Int.mul_comm _ _
 unfold cN
 rw[this]
 refine hE.run rfl rfl fun W hW=>?_
 conv=>lhs;whnf
 repeat'((first|apply hW.t|apply hW.f|(apply hW.q;exact rqc)|apply hW.w (bL hE _ _ _)|(apply hW.b<;>intro h))<;>conv=>lhs;whnf)
 all_goals(refine congrArg (fun b=>(some ([bv b],[]):Option Res)) ?_;first|rfl|(simp_all [];done)|(simp_all []<;>(intros;omega)))
def bH (size n:Int):Int:=if cN size n=true then nK n size else 0
theorem fD {E:Env} (hE:Sys E) (size n:Int):E 236 [iv size,iv n]=some ([iv (bH size n)],[]):=by
 have ha:=kO hE size n
 unfold bH
 cases h1:cN size n
 ·rw[h1]at ha
  refine hE.run rfl rfl fun W hW=>?_
  conv=>lhs;whnf
  repeat'((first|apply hW.t|apply hW.f|(apply hW.q;exact rqc)|apply hW.w (ha)|(apply hW.b<;>intro h))<;>conv=>lhs;whnf)
  all_goals(refine congrArg (fun b=>(some ([iv b],[]):Option Res)) ?_;first|rfl|(simp_all [];done)|(simp_all []<;>(intros;omega)))
 ·rw[h1]at ha
  refine hE.run rfl rfl fun W hW=>?_
  conv=>lhs;whnf
  repeat'((first|apply hW.t|apply hW.f|(apply hW.q;exact rqc)|apply hW.w (ha)|apply hW.w (yS hE n size)|(apply hW.b<;>intro h))<;>conv=>lhs;whnf)
  rfl
theorem fE {E:Env} (hE:Sys E) (size n:Int):E 249 [iv size,iv n]=some ([iv (bH size n)],[]):=by
 have ha:=qQ hE size n
 unfold bH
 cases h1:cN size n
 ·rw[h1]at ha
  refine hE.run rfl rfl fun W hW=>?_
  conv=>lhs;whnf
  repeat'((first|apply hW.t|apply hW.f|(apply hW.q;exact rqc)|apply hW.w (ha)|(apply hW.b<;>intro h))<;>conv=>lhs;whnf)
  all_goals(refine congrArg (fun b=>(some ([iv b],[]):Option Res)) ?_;first|rfl|(simp_all [];done)|(simp_all []<;>(intros;omega)))
 ·rw[h1]at ha
  refine hE.run rfl rfl fun W hW=>?_
  conv=>lhs;whnf
  repeat'((first|apply hW.t|apply hW.f|(apply hW.q;exact rqc)|apply hW.w (ha)|apply hW.w (yT hE n size)|(apply hW.b<;>intro h))<;>conv=>lhs;whnf)
  rfl
theorem wN {size n:Int} (h:cN size n=true):2≤size∧size≤6∧0≤n∧n≤size*40:=by
 simp only[cN,Bool.and_eq_true]at h
 obtain⟨h1,h2⟩:=h
 have h1:=bU h1
 rw[show IntKind.i64.wrap (size*40)=size*40 from aI (by omega)]at h2
 have h2:=bU h2
 omega
theorem nL {size n:Int} (h:cN size n=true):bH size n=(n+size-1)/size∧0≤bH size n∧bH size n≤40:=by
 obtain⟨h1,h2,h3,h4⟩:=wN h
 have e:bH size n=(n+size-1)/size:=by
  unfold bH nK
  rw[if_pos h,if_pos ⟨by simp[bK];omega,by simp[bK];omega⟩]
  rw[show IntKind.i64.wrap (n+size)=n+size from aI (by omega),show IntKind.i64.wrap (n+size-1)=n+size-1 from aI (by omega),Int.tdiv_eq_ediv_of_nonneg (by omega)]
  apply aI
  obtain h5|h5|h5|h5|h5:size=2∨size=3∨size=4∨size=5∨size=6:=by omega
  all_goals(subst h5;omega)
 rw[e]
 refine⟨rfl,?_⟩
 obtain h5|h5|h5|h5|h5:size=2∨size=3∨size=4∨size=5∨size=6:=by omega
 all_goals(subst h5;omega)
def wO (a b:Int):Int:=if b<a then b else a
theorem aCE {E:Env} (hE:Sys E) (a b:Int):E 242 [iv a,iv b]=some ([iv (wO a b)],[]):=by
 refine hE.run rfl rfl fun W hW=>?_
 conv=>lhs;whnf
 repeat'((first|apply hW.t|apply hW.f|(apply hW.q;exact rqc)|(apply hW.b<;>intro h))<;>conv=>lhs;whnf)
 all_goals(refine congrArg (fun b=>(some ([iv b],[]):Option Res)) ?_;first|rfl|(simp_all [wO];done)|(simp_all [wO]<;>(intros;omega)))
def bP (size n i:Int):Int:=if bK i 0 (IntKind.i64.wrap (bH size n-1))=true then IntKind.i64.wrap (i*size) else 0
def bA (size n i:Int):Int:=if bK i 0 (IntKind.i64.wrap (bH size n-1))=true then wO size (IntKind.i64.wrap (n-IntKind.i64.wrap (i*size))) else 0
theorem fF {E:Env} (hE:Sys E) (size n i:Int):E 241 [iv size,iv n,iv i]=some ([iv (bP size n i),iv (bA size n i)],[]):=by
 have hb:=bJ hE i 0 (IntKind.i64.wrap (bH size n-1))
 unfold bP bA
 cases h2:bK i 0 (IntKind.i64.wrap (bH size n-1))
 ·rw[h2]at hb
  refine hE.run rfl rfl fun W hW=>?_
  conv=>lhs;whnf
  repeat'((first|apply hW.t|apply hW.f|(apply hW.q;exact rqc)|apply hW.w (fD hE size n)|apply hW.w (hb)|(apply hW.b<;>intro h))<;>conv=>lhs;whnf)
  rfl
 ·rw[h2]at hb
  refine hE.run rfl rfl fun W hW=>?_
  conv=>lhs;whnf
  repeat'((first|apply hW.t|apply hW.f|(apply hW.q;exact rqc)|apply hW.w (fD hE size n)|apply hW.w (hb)|apply hW.w (aCE hE _ _)|(apply hW.b<;>intro h))<;>conv=>lhs;whnf)
  rfl
theorem fG {E:Env} (hE:Sys E) (size n i:Int):E 254 [iv size,iv n,iv i]=some ([iv (bP size n i),iv (bA size n i)],[]):=by
 have hb:=bL hE i 0 (IntKind.i64.wrap (bH size n-1))
 unfold bP bA
 cases h2:bK i 0 (IntKind.i64.wrap (bH size n-1))
 ·rw[h2]at hb
  refine hE.run rfl rfl fun W hW=>?_
  conv=>lhs;whnf
  repeat'((first|apply hW.t|apply hW.f|(apply hW.q;exact rqc)|apply hW.w (fE hE size n)|apply hW.w (hb)|(apply hW.b<;>intro h))<;>conv=>lhs;whnf)
  rfl
 ·rw[h2]at hb
  refine hE.run rfl rfl fun W hW=>?_
  conv=>lhs;whnf
  repeat'((first|apply hW.t|apply hW.f|(apply hW.q;exact rqc)|apply hW.w (fE hE size n)|apply hW.w (hb)|(apply hW.b<;>intro h))<;>conv=>lhs;whnf)
  rw[show ∀ b,wO size b=min size b from fun b=>by unfold wO;omega]
  rfl
def wx (x:Int) (c:UInt8):Int:=(IntKind.i64.wrap (x+IntKind.i64.wrap (c.toNat:Int))).tmod 251
def wy (y x:Int):Int:=(IntKind.i64.wrap (y+x)).tmod 251
def lK:aD→Int→Int→Int × Int
 |[],x,y=>(x,y)
 |c::r,x,y=>lK r (wx x c) (wy y (wx x c))
def aZ (b:aD):Int:=IntKind.i64.wrap ((lK b 0 0).1+IntKind.i64.wrap (251*(lK b 0 0).2))
theorem aM8 {x:Int} {c:UInt8} (h:0≤x∧x<251):0≤wx x c∧wx x c<251:=by
 have:=UInt8.toNat_lt c
 unfold wx
 rw[show IntKind.i64.wrap (c.toNat:Int)=c.toNat from aI (by omega),show IntKind.i64.wrap (x+c.toNat)=x+c.toNat from aI (by omega)]
 rw[Int.tmod_eq_emod_of_nonneg (by omega)]
 omega
theorem aOt {x y:Int} (h:0≤x∧x<251) (h':0≤y∧y<251):0≤wy y x∧wy y x<251:=by
 unfold wy
 rw[show IntKind.i64.wrap (y+x)=y+x from aI (by omega)]
 rw[Int.tmod_eq_emod_of_nonneg (by omega)]
 omega
theorem aK0 {b:aD}:∀ {x y:Int},(0≤x∧x<251)→(0≤y∧y<251)→(0≤(lK b x y).1∧(lK b x y).1<251)∧(0≤(lK b x y).2∧(lK b x y).2<251):=by
 induction b with
 |nil=>intro x y h h';exact⟨h,h'⟩
 |cons c r ih=>intro x y h h';exact ih (aM8 h) (aOt (aM8 h) h')
theorem dH {E:Env} (hE:Sys E) (b:aD) (h0:b.length≤1099511627776):E 243 [sv (bys b)]=some ([iv (aZ b)],[]):=by
 refine hE.run rfl rfl fun W hW=>?_
 conv=>lhs;whnf
 refine hW.loop (σ:=Nat × Int × Int) (γ:=Nat) (fun i s=>((s.sl 5 (v1 (.t (.int .i64 i.1)))).sl 3 (v1 (.t (.int .i64 i.2.1)))).sl 4 (v1 (.t (.int .i64 i.2.2)))) (fun i n=>i.1=n∧n≤b.length∧lK (b.drop n) i.2.1 i.2.2=lK b 0 0) (fun n=>b.length-n) (fun _=>([iv (aZ b)],[])) (0,0,0) 0 ?_ ?_ ?_ ?_
 ·intro K
  conv=>lhs;whnf
  conv=>rhs;whnf
  try rfl
 ·exact⟨rfl,by omega,rfl⟩
 ·rintro kl ⟨n,x,y⟩ _ ⟨rfl,hn,hs⟩ ih
  simp only at hs hn
  conv=>lhs;whnf
  apply hW.b<;>intro h2<;>conv=>lhs;whnf
  ·have h2:n<b.length:=by simpa[aH] using h2
   rw[List.drop_eq_getElem_cons h2,lK]at hs
   repeat((first|apply hW.t|apply hW.f|(apply hW.q;exact rqc)|(refine hW.w (eR ?_) ?_;omega));conv=>lhs;whnf)
   refine ih (n+1,wx x b[n],wy y (wx x b[n])) (n+1) _ ?_ ⟨rfl,by omega,hs⟩ (by omega)
   intro K
   conv=>lhs;whnf
   conv=>rhs;whnf
   try rfl
   rw[show IntKind.i64.wrap ((n:Int)+1)=_ from aL (by omega)]
   try rfl
  ·have:n=b.length:=by simp[aH]at h2;omega
   subst this
   rw[List.drop_length]at hs
   unfold aZ
   rw[← hs];rfl
 ·rfl
def aCF (n m:Int):Int:=if bK m 1 1000000000000=true then(IntKind.i64.wrap (n.tmod m+m)).tmod m else 0
theorem aDU {E:Env} (hE:Sys E) (n m:Int):E 268 [iv n,iv m]=some ([iv (aCF n m)],[]):=by
 have ha:=bJ hE m 1 1000000000000
 unfold aCF
 cases h1:bK m 1 1000000000000
 ·rw[h1]at ha
  refine hE.run rfl rfl fun W hW=>?_
  conv=>lhs;whnf
  repeat'((first|apply hW.t|apply hW.f|(apply hW.q;exact rqc)|apply hW.w (ha)|(apply hW.b<;>intro h))<;>conv=>lhs;whnf)
  all_goals(refine congrArg (fun b=>(some ([iv b],[]):Option Res)) ?_;first|rfl|(simp_all [];done)|(simp_all []<;>(intros;omega)))
 ·rw[h1]at ha
  have:=bU h1
  refine hE.run rfl rfl fun W hW=>?_
  conv=>lhs;whnf
  repeat'((first|apply hW.t|apply hW.f|(apply hW.q;exact rqc)|apply hW.w (ha)|(apply hW.b<;>intro h))<;>conv=>lhs;whnf)
  rfl
theorem wQ {E:Env} (hE:Sys E) (n m:Int):E 258 [iv n,iv m]=some ([iv (aCF n m)],[]):=by
 have ha:=bL hE m 1 1000000000000
 unfold aCF
 cases h1:bK m 1 1000000000000
 ·rw[h1]at ha
  refine hE.run rfl rfl fun W hW=>?_
  conv=>lhs;whnf
  repeat'((first|apply hW.t|apply hW.f|(apply hW.q;exact rqc)|apply hW.w (ha)|(apply hW.b<;>intro h))<;>conv=>lhs;whnf)
  all_goals(refine congrArg (fun b=>(some ([iv b],[]):Option Res)) ?_;first|rfl|(simp_all [];done)|(simp_all []<;>(intros;omega)))
 ·rw[h1]at ha
  have:=bU h1
  refine hE.run rfl rfl fun W hW=>?_
  conv=>lhs;whnf
  repeat'((first|apply hW.t|apply hW.f|(apply hW.q;exact rqc)|apply hW.w (ha)|(apply hW.b<;>intro h))<;>conv=>lhs;whnf)
  rfl
theorem aFl {n:Int} (h:0≤n∧n<251):aCF n 251=n:=by
 unfold aCF
 have e:n.tmod 251=n:=by rw[Int.tmod_eq_emod_of_nonneg (by omega)];omega
 rw[if_pos (by decide),e,show IntKind.i64.wrap (n+251)=n+251 from aI (by omega),Int.tmod_eq_emod_of_nonneg (by omega)]
 omega
theorem aDV {E:Env} (hE:Sys E) (x y:Int) (hx:0≤x∧x<251) (hy:0≤y∧y<251):E 257 [iv x,iv y]=some ([iv (IntKind.i64.wrap (x+IntKind.i64.wrap (251*y)))],[]):=by
 have h1:=wQ hE x 251
 have h2:=wQ hE y 251
 rw[aFl hx]at h1
 rw[aFl hy]at h2
 refine hE.run rfl rfl fun W hW=>?_
 conv=>lhs;whnf
 apply hW.w (h1)
 conv=>lhs;whnf
 repeat((first|apply hW.t|apply hW.f|(apply hW.q;exact rqc));conv=>lhs;whnf)
 apply hW.w (h2)
 conv=>lhs;whnf
 repeat((first|apply hW.t|apply hW.f|(apply hW.q;exact rqc));conv=>lhs;whnf)
 rfl
theorem dZ {E:Env} (hE:Sys E) (b:aD) (h0:b.length≤1099511627776):E 256 [sv (bys b)]=some ([iv (aZ b)],[]):=by
 have hr:=aK0 (b:=b) (x:=0) (y:=0) (by omega) (by omega)
 refine hE.run rfl rfl fun W hW=>?_
 conv=>lhs;whnf
 refine hW.loop (σ:=Nat × Int × Int) (γ:=Nat) (fun i s=>((s.sl 9 (v1 (.t (.int .i64 i.1)))).sl 3 (v1 (.t (.int .i64 i.2.1)))).sl 4 (v1 (.t (.int .i64 i.2.2)))) (fun i n=>i.1=n∧n≤b.length∧lK (b.drop n) i.2.1 i.2.2=lK b 0 0) (fun n=>b.length-n) (fun _=>([iv (aZ b)],[])) (0,0,0) 0 ?_ ?_ ?_ ?_
 ·intro K
  conv=>lhs;whnf
  conv=>rhs;whnf
  try rfl
 ·exact⟨rfl,by omega,rfl⟩
 ·rintro kl ⟨n,x,y⟩ _ ⟨rfl,hn,hs⟩ ih
  simp only at hs hn
  conv=>lhs;whnf
  apply hW.b<;>intro h2<;>conv=>lhs;whnf
  ·have h2:n<b.length:=by simpa[aH] using h2
   rw[List.drop_eq_getElem_cons h2,lK]at hs
   repeat((first|apply hW.t|apply hW.f|(apply hW.q;exact rqc)|(refine hW.w (eR ?_) ?_;omega));conv=>lhs;whnf)
   refine ih (n+1,wx x b[n],wy y (wx x b[n])) (n+1) _ ?_ ⟨rfl,by omega,hs⟩ (by omega)
   intro K
   conv=>lhs;whnf
   conv=>rhs;whnf
   try rfl
   rw[show IntKind.i64.wrap ((n:Int)+1)=_ from aL (by omega)]
   try rfl
  ·have:n=b.length:=by simp[aH]at h2;omega
   subst this
   rw[List.drop_length,lK]at hs
   rw[← hs]at hr
   apply hW.w (aDV hE x y hr.1 hr.2)
   conv=>lhs;whnf
   repeat((first|apply hW.t|apply hW.f|(apply hW.q;exact rqc));conv=>lhs;whnf)
   unfold aZ
   rw[← hs];rfl
 ·rfl
def jR:aD→Nat→Nat
 |[],s=>s
 |c::r,s=>jR r (256*s+c.toNat)
def bF (b:aD):Sum:=if(b.length:Int)>6 then⟨0,0⟩ else⟨aZ b,jR b 1⟩
theorem aOu {s:Nat} {c:UInt8} (h:s≤562949953421312):wor (IntKind.i64.wrap ((s:Int)*2 ^ (min (8:Int).toNat IntKind.i64.bits))) (IntKind.i64.wrap (c.toNat:Int))=((256*s+c.toNat:Nat):Int):=by
 have hc:=UInt8.toNat_lt c
 rw[show((s:Int)*2 ^ (min (8:Int).toNat IntKind.i64.bits))=((256*s:Nat):Int) from by
  rw[show min (8:Int).toNat IntKind.i64.bits=8 from by decide];push_cast;omega]
 rw[show IntKind.i64.wrap ((256*s:Nat):Int)=((256*s:Nat):Int) from aI (by omega),show IntKind.i64.wrap (c.toNat:Int)=c.toNat from aI (by omega)]
 unfold wor
 have e:(BitVec.ofInt IntKind.i64.bits ((256*s:Nat):Int) ||| BitVec.ofInt IntKind.i64.bits (c.toNat:Int)).toNat=256*s+c.toNat:=by
  rw[BitVec.toNat_or,BitVec.ofInt_natCast,BitVec.ofInt_natCast,BitVec.toNat_ofNat,BitVec.toNat_ofNat]
  rw[Nat.mod_eq_of_lt (show 256*s<2 ^ IntKind.i64.bits from by simp only[IntKind.bits];omega),Nat.mod_eq_of_lt (show c.toNat<2 ^ IntKind.i64.bits from by simp only[IntKind.bits];omega)]
  rw[show 256*s=2 ^ 8*s from rfl,Nat.two_pow_add_eq_or_of_lt (by omega)]
 rw[e]
 exact aI (by omega)
theorem aM9 {b:aD}:∀ {s:Nat},s≤jR b s:=by
 induction b with
 |nil=>intro s;exact Nat.le_refl _
 |cons c r ih=>intro s;have:=ih (s:=256*s+c.toNat);simp only[jR];omega
theorem aBf {b:aD}:∀ {s:Nat},jR b s<(s+1)*256 ^ b.length:=by
 induction b with
 |nil=>intro s;simp[jR]
 |cons c r ih =>
  intro s
  have:=ih (s:=256*s+c.toNat)
  have hc:=UInt8.toNat_lt c
  simp only[jR,List.length_cons,Nat.pow_succ]
  have h2:(256*s+c.toNat+1)*256 ^ r.length≤((s+1)*256)*256 ^ r.length:=Nat.mul_le_mul_right _ (by omega)
  have h3:(s+1)*(256 ^ r.length*256)=(s+1)*256*256 ^ r.length:=by rw[Nat.mul_comm (256 ^ r.length) 256,Nat.mul_assoc]
  omega
theorem aOv {b:aD} (h:b.length≤6):jR b 1≤562949953421312:=by
 have h1:=aBf (b:=b) (s:=1)
 have h2:256 ^ b.length≤256 ^ 6:=Nat.pow_le_pow_right (by decide) h
 have h3:(1+1)*256 ^ b.length≤(1+1)*256 ^ 6:=Nat.mul_le_mul_left _ h2
 have h4:(1+1)*256 ^ 6=562949953421312:=by decide
 omega
theorem aCG {b:aD} {n:Nat} (h:b.length≤6) {s:Nat} (hs:jR (b.drop n) s=jR b 1):s≤562949953421312:=by
 have h1:=aM9 (b:=b.drop n) (s:=s)
 have h2:=aOv h
 omega
theorem eM {E:Env} (hE:Sys E) (b:aD) (h0:b.length≤1099511627776):E 238 [sv (bys b)]=some ([gv (bF b).cs],[]):=by
 unfold bF
 refine hE.run rfl rfl fun W hW=>?_
 conv=>lhs;whnf
 rw[aY]
 apply hW.b<;>intro g<;>conv=>lhs;whnf
 ·rw[if_pos (by simpa using g)]
  repeat((first|apply hW.t|apply hW.f|(apply hW.q;exact rqc));conv=>lhs;whnf)
  rfl
 ·rw[if_neg (by simpa using g)]
  have g:b.length≤6:=by simp at g;omega
  refine hW.loop (σ:=Nat × Nat) (γ:=Nat) (fun i s=>(s.sl 4 (v1 (.t (.int .i64 i.1)))).sl 3 (v1 (.t (.int .i64 i.2)))) (fun i n=>i.1=n∧n≤b.length∧jR (b.drop n) i.2=jR b 1) (fun n=>b.length-n) (fun _=>([gv (Sum.cs ⟨aZ b,jR b 1⟩)],[])) (0,1) 0 ?_ ?_ ?_ ?_
  ·intro K
   conv=>lhs;whnf
   conv=>rhs;whnf
   try rfl
  ·exact⟨rfl,by omega,rfl⟩
  ·rintro kl ⟨n,x⟩ _ ⟨rfl,hn,hs⟩ ih
   simp only at hs hn
   conv=>lhs;whnf
   apply hW.b<;>intro h2<;>conv=>lhs;whnf
   ·have h2:n<b.length:=by simpa[aH] using h2
    have hx:=aCG g hs
    have hc:=UInt8.toNat_lt b[n]
    rw[List.drop_eq_getElem_cons h2,jR]at hs
    repeat((first|apply hW.t|apply hW.f|(apply hW.q;exact rqc)|(refine hW.w (eR ?_) ?_;omega));conv=>lhs;whnf)
    refine ih (n+1,256*x+b[n].toNat) (n+1) _ ?_ ⟨rfl,by omega,hs⟩ (by omega)
    intro K
    conv=>lhs;whnf
    conv=>rhs;whnf
    try rfl
    rw[show IntKind.i64.wrap ((n:Int)+1)=_ from aL (by omega),show IntKind.i64.wrap (256*(x:Int))=256*(x:Int) from aI (by omega),show IntKind.i64.wrap (b[n].toNat:Int)=b[n].toNat from aI (by omega),show IntKind.i64.wrap (256*(x:Int)+b[n].toNat)=((256*x+b[n].toNat:Nat):Int) from(aI (n:=256*(x:Int)+b[n].toNat) (by omega)).trans (by push_cast;rfl)]
    try rfl
   ·have:n=b.length:=by simp[aH]at h2;omega
    subst this
    rw[List.drop_length,jR]at hs
    apply hW.w (dH hE b h0)
    conv=>lhs;whnf
    repeat((first|apply hW.t|apply hW.f|(apply hW.q;exact rqc));conv=>lhs;whnf)
    rw[← hs];rfl
  ·rfl
theorem gK {E:Env} (hE:Sys E) (b:aD) (h0:b.length≤1099511627776):E 251 [sv (bys b)]=some ([gv (bF b).cs],[]):=by
 unfold bF
 refine hE.run rfl rfl fun W hW=>?_
 conv=>lhs;whnf
 rw[aY]
 apply hW.b<;>intro g<;>conv=>lhs;whnf
 ·rw[if_pos (by simpa using g)]
  repeat((first|apply hW.t|apply hW.f|(apply hW.q;exact rqc));conv=>lhs;whnf)
  rfl
 ·rw[if_neg (by simpa using g)]
  have g:b.length≤6:=by simp at g;omega
  refine hW.loop (σ:=Nat × Nat) (γ:=Nat) (fun i s=>(s.sl 12 (v1 (.t (.int .i64 i.1)))).sl 3 (v1 (.t (.int .i64 i.2)))) (fun i n=>i.1=n∧n≤b.length∧jR (b.drop n) i.2=jR b 1) (fun n=>b.length-n) (fun _=>([gv (Sum.cs ⟨aZ b,jR b 1⟩)],[])) (0,1) 0 ?_ ?_ ?_ ?_
  ·intro K
   conv=>lhs;whnf
   conv=>rhs;whnf
   try rfl
  ·exact⟨rfl,by omega,rfl⟩
  ·rintro kl ⟨n,x⟩ _ ⟨rfl,hn,hs⟩ ih
   simp only at hs hn
   conv=>lhs;whnf
   apply hW.b<;>intro h2<;>conv=>lhs;whnf
   ·have h2:n<b.length:=by simpa[aH] using h2
    have hx:=aCG g hs
    rw[List.drop_eq_getElem_cons h2,jR]at hs
    repeat((first|apply hW.t|apply hW.f|(apply hW.q;exact rqc)|(refine hW.w (eR ?_) ?_;omega));conv=>lhs;whnf)
    refine ih (n+1,256*x+b[n].toNat) (n+1) _ ?_ ⟨rfl,by omega,hs⟩ (by omega)
    intro K
    conv=>lhs;whnf
    conv=>rhs;whnf
    try rfl
    rw[show IntKind.i64.wrap ((n:Int)+1)=_ from aL (by omega),← aOu hx]
    try rfl
   ·have:n=b.length:=by simp[aH]at h2;omega
    subst this
    rw[List.drop_length,jR]at hs
    apply hW.w (dZ hE b h0)
    conv=>lhs;whnf
    repeat((first|apply hW.t|apply hW.f|(apply hW.q;exact rqc));conv=>lhs;whnf)
    rw[← hs];rfl
  ·rfl
theorem iZ {size n i:Int}:(bA size n i=0∧bP size n i=0)∨(0≤bP size n i∧1≤bA size n i∧bA size n i≤6∧bP size n i+bA size n i≤n∧n≤240):=by
 unfold bA bP
 by_cases h:bK i 0 (IntKind.i64.wrap (bH size n-1))=true
 ·right
  rw[if_pos h,if_pos h]
  have h1:=bU h
  by_cases hs:cN size n=true
  ·obtain⟨e1,e2,e3⟩:=nL hs
   obtain⟨s1,s2,s3,s4⟩:=wN hs
   rw[show IntKind.i64.wrap (bH size n-1)=bH size n-1 from aI (by omega)]at h1
   rw[e1]at h1
   obtain h5|h5|h5|h5|h5:size=2∨size=3∨size=4∨size=5∨size=6:=by omega
   all_goals
    subst h5
    have h6:0≤i∧i≤120:=by omega
    rw[show IntKind.i64.wrap (i*_)=i*_ from aI (by omega)]
    rw[show IntKind.i64.wrap (n-i*_)=n-i*_ from aI (by omega)]
    unfold wO
    split<;>omega
  ·have:bH size n=0:=by unfold bH;rw[if_neg hs]
   rw[this,show IntKind.i64.wrap ((0:Int)-1) = -1 from by decide]at h1
   omega
 ·left
  rw[if_neg h,if_neg h];exact⟨rfl,rfl⟩
def lL (b:aD) (size i:Int):aD:=(b.drop (bP size b.length i).toNat).take (bA size b.length i).toNat
def aFm (b:aD) (size i:Int):Bool := !decide (bA size b.length i=0)
theorem iG (b:aD) (l n:Nat):((bys b).drop l).take n=bys ((b.drop l).take n):=by rw[aKY,aFf]
theorem tO {E:Env} (hE:Sys E) (b:aD) (at_ n:Int) (h0:b.length≤1048576) (h1:0≤at_) (h2:0≤n) (h3:at_+n≤b.length):E 255 [sv (bys b),iv at_,iv n]=some ([ov 1 (bys ((b.drop at_.toNat).take n.toNat)),bv true],[]):=by
 have ha:=bL hE at_ 0 b.length
 have hb:=bL hE n 0 (b.length-at_)
 rw[show bK at_ 0 b.length=true from by simp[bK];omega]at ha
 rw[show bK n 0 (b.length-at_)=true from by simp[bK];omega]at hb
 refine hE.run rfl rfl fun W hW=>?_
 conv=>lhs;whnf
 rw[aY]
 apply hW.w (ha)
 conv=>lhs;whnf
 repeat((first|apply hW.t|apply hW.f|(apply hW.q;exact rqc));conv=>lhs;whnf)
 rw[aY]
 rw[show IntKind.i64.wrap ((b.length:Int)-at_)=b.length-at_ from aI (by omega)]
 apply hW.w (hb)
 conv=>lhs;whnf
 repeat((first|apply hW.t|apply hW.f|(apply hW.q;exact rqc));conv=>lhs;whnf)
 rw[show IntKind.i64.wrap (at_+n)=at_+n from aI (by omega)]
 repeat((first|apply hW.t|apply hW.f|(apply hW.q;exact rqc));conv=>lhs;whnf)
 refine hW.q (by exact⟨by omega,by rw[aH];omega,aX b⟩) ?_
 conv=>lhs;whnf
 rw[iG]
 apply hW.w (cM hE _ (by simp;omega))
 conv=>lhs;whnf
 repeat((first|apply hW.t|apply hW.f|(apply hW.q;exact rqc));conv=>lhs;whnf)
 rw[show(at_+n).toNat-at_.toNat=n.toNat from by omega]
 rfl
theorem oE {E:Env} (hE:Sys E) (b:aD) (size i:Int) (h0:b.length≤1048576):E 237 [sv (bys b),iv size,iv i]=some ([ov 1 (bys (lL b size i)),bv (aFm b size i)],[]):=by
 unfold lL aFm
 refine hE.run rfl rfl fun W hW=>?_
 conv=>lhs;whnf
 rw[aY]
 apply hW.w (fF hE size b.length i)
 conv=>lhs;whnf
 repeat((first|apply hW.t|apply hW.f|(apply hW.q;exact rqc));conv=>lhs;whnf)
 have hs:=iZ (size:=size) (n:=b.length) (i:=i)
 generalize bP size b.length i=at_ at hs ⊢
 generalize bA size b.length i=n at hs ⊢
 apply hW.b<;>intro g<;>conv=>lhs;whnf
 ·have g:n=0:=by simpa using g
  subst g
  repeat((first|apply hW.t|apply hW.f|(apply hW.q;exact rqc));conv=>lhs;whnf)
  rfl
 ·have g:n≠0:=by simpa using g
  repeat((first|apply hW.t|apply hW.f|(apply hW.q;exact rqc));conv=>lhs;whnf)
  rw[show IntKind.i64.wrap (at_+n)=at_+n from aI (by omega)]
  repeat((first|apply hW.t|apply hW.f|(apply hW.q;exact rqc));conv=>lhs;whnf)
  refine hW.q (by exact⟨by omega,by rw[aH];omega,aX b⟩) ?_
  conv=>lhs;whnf
  rw[iG]
  refine hW.q (by exact⟨by decide,aX _,by rw[aH];simp;omega,by rw[aH];simp;omega⟩) ?_
  conv=>lhs;whnf
  apply hW.bt (cL _)
  conv=>lhs;whnf
  repeat((first|apply hW.t|apply hW.f|(apply hW.q;exact rqc));conv=>lhs;whnf)
  rw[show(at_+n).toNat-at_.toNat=n.toNat from by omega,decide_eq_false g]
  rfl
theorem yU {E:Env} (hE:Sys E) (b:aD) (size i:Int) (h0:b.length≤1048576):E 250 [sv (bys b),iv size,iv i]=some ([ov 1 (bys (lL b size i)),bv (aFm b size i)],[]):=by
 unfold lL aFm
 refine hE.run rfl rfl fun W hW=>?_
 conv=>lhs;whnf
 rw[aY]
 apply hW.w (fG hE size b.length i)
 conv=>lhs;whnf
 repeat((first|apply hW.t|apply hW.f|(apply hW.q;exact rqc));conv=>lhs;whnf)
 have hs:=iZ (size:=size) (n:=b.length) (i:=i)
 generalize bP size b.length i=at_ at hs ⊢
 generalize bA size b.length i=n at hs ⊢
 apply hW.b<;>intro g<;>conv=>lhs;whnf
 ·have g:n=0:=by simpa using g
  subst g
  repeat((first|apply hW.t|apply hW.f|(apply hW.q;exact rqc));conv=>lhs;whnf)
  rfl
 ·have g:n≠0:=by simpa using g
  repeat((first|apply hW.t|apply hW.f|(apply hW.q;exact rqc));conv=>lhs;whnf)
  apply hW.w (tO hE b at_ n h0 (by omega) (by omega) (by omega))
  conv=>lhs;whnf
  repeat((first|apply hW.t|apply hW.f|(apply hW.q;exact rqc));conv=>lhs;whnf)
  rw[decide_eq_false g]
  rfl
def aDW (b:aD) (size:Int):Nat:=(bH size b.length).toNat
def aBg (b:aD) (size:Int) (n:Nat):List Sum:=(List.range n).map fun i:Nat=>bF (lL b size (i:Int))
def eJ (b:aD) (size:Int):List Sum:=aBg b size (aDW b size)
theorem jS (size n:Int):0≤bH size n∧bH size n≤40:=by
 by_cases h:cN size n=true
 ·exact(nL h).2
 ·unfold bH;rw[if_neg h];omega
theorem jT (b:aD) (size:Int) (n:Nat):(aBg b size n).length=n:=by simp[aBg]
theorem aAl (b:aD) (size:Int) (n:Nat):(aBg b size n).map Sum.row++[Sum.row (bF (lL b size n))]=(aBg b size (n+1)).map Sum.row:=by
 simp[aBg,List.range_succ]
theorem pD (b:aD) (size:Int):(eJ b size).length≤40:=by
 have:=jS size b.length
 unfold eJ aDW
 rw[jT];omega
theorem nM (b:aD) (size i:Int):(lL b size i).length≤b.length:=by
 unfold lL;simp;omega
theorem qR {E:Env} (hE:Sys E) (b:aD) (size:Int) (h0:b.length≤1048576):E 234 [sv (bys b),iv size]=some ([ov 2 ((eJ b size).map Sum.row)],[]):=by
 have hb:=jS size b.length
 have hk:((aDW b size:Nat):Int)=bH size b.length:=by unfold aDW;omega
 refine hE.run rfl rfl fun W hW=>?_
 conv=>lhs;whnf
 refine hW.loop (σ:=Nat) (γ:=Nat) (fun i s=>(s.sl 6 (v1 (.t (.int .i64 i)))).bl ⟨50500,2, .own,(aBg b size i).map Sum.row⟩) (fun i n=>i=n∧n≤aDW b size) (fun n=>aDW b size-n) (fun _=>([ov 2 ((eJ b size).map Sum.row)],[])) 0 0 ?_ ?_ ?_ ?_
 ·intro K
  conv=>lhs;whnf
  conv=>rhs;whnf
  try rfl
 ·exact⟨rfl,by omega⟩
 ·rintro kl n _ ⟨rfl,hn⟩ ih
  conv=>lhs;whnf
  rw[aY]
  apply hW.w (fD hE size b.length)
  conv=>lhs;whnf
  try(apply hW.q;exact rqc;conv=>lhs;whnf)
  apply hW.b<;>intro g1<;>conv=>lhs;whnf
  ·have g1:(n:Int)<bH size b.length:=by simpa using g1
   repeat((first|apply hW.t|apply hW.f|(apply hW.q;exact rqc));conv=>lhs;whnf)
   apply hW.w (oE hE b size n h0)
   conv=>lhs;whnf
   repeat((first|apply hW.t|apply hW.f|(apply hW.q;exact rqc));conv=>lhs;whnf)
   apply hW.w (eM hE (lL b size n) (Nat.le_trans (nM b size n) (by omega)))
   conv=>lhs;whnf
   repeat((first|apply hW.t|apply hW.f|(apply hW.q;exact rqc));conv=>lhs;whnf)
   refine hW.q (by exact⟨by decide,by intro e he;simp at he;subst he;rfl,by simp[jT];omega,by simp[jT];omega⟩) ?_
   conv=>lhs;whnf
   repeat((first|apply hW.t|apply hW.f|(apply hW.q;exact rqc));conv=>lhs;whnf)
   refine ih (n+1) (n+1) _ ?_ ⟨rfl,by omega⟩ (by omega)
   intro K
   conv=>lhs;whnf
   conv=>rhs;whnf
   try rfl
   rw[show IntKind.i64.wrap ((n:Int)+1)=_ from aL (by omega)]
   rw[← aAl]
   rfl
  ·have g1:¬ (n:Int)<bH size b.length:=by simpa using g1
   have:n=aDW b size:=by omega
   subst this
   repeat((first|apply hW.t|apply hW.f|(apply hW.q;exact rqc));conv=>lhs;whnf)
   rfl
 ·rfl
theorem aBh {E:Env} (hE:Sys E) (b:aD) (size:Int) (h0:b.length≤1048576):E 247 [sv (bys b),iv size]=some ([ov 2 ((eJ b size).map Sum.row)],[]):=by
 have hb:=jS size b.length
 have hk:((aDW b size:Nat):Int)=bH size b.length:=by unfold aDW;omega
 refine hE.run rfl rfl fun W hW=>?_
 conv=>lhs;whnf
 rw[aY]
 apply hW.w (fE hE size b.length)
 conv=>lhs;whnf
 repeat((first|apply hW.t|apply hW.f|(apply hW.q;exact rqc));conv=>lhs;whnf)
 rw[← hk]
 refine hW.loop (σ:=Nat) (γ:=Nat) (fun i s=>(s.sl 14 (v1 (.t (.int .i64 i)))).bl ⟨50500,2, .own,(aBg b size i).map Sum.row⟩) (fun i n=>i=n∧n≤aDW b size) (fun n=>aDW b size-n) (fun _=>([ov 2 ((eJ b size).map Sum.row)],[])) 0 0 ?_ ?_ ?_ ?_
 ·intro K
  conv=>lhs;whnf
  conv=>rhs;whnf
  try rfl
 ·exact⟨rfl,by omega⟩
 ·rintro kl n _ ⟨rfl,hn⟩ ih
  conv=>lhs;whnf
  apply hW.b<;>intro g1<;>conv=>lhs;whnf
  ·have g1:n<aDW b size:=by simpa using g1
   repeat((first|apply hW.t|apply hW.f|(apply hW.q;exact rqc));conv=>lhs;whnf)
   apply hW.w (yU hE b size n h0)
   conv=>lhs;whnf
   repeat((first|apply hW.t|apply hW.f|(apply hW.q;exact rqc));conv=>lhs;whnf)
   apply hW.w (gK hE (lL b size n) (Nat.le_trans (nM b size n) (by omega)))
   conv=>lhs;whnf
   repeat((first|apply hW.t|apply hW.f|(apply hW.q;exact rqc));conv=>lhs;whnf)
   refine hW.q (by exact⟨by decide,by intro e he;simp at he;subst he;rfl,by simp[jT];omega,by simp[jT];omega⟩) ?_
   conv=>lhs;whnf
   repeat((first|apply hW.t|apply hW.f|(apply hW.q;exact rqc));conv=>lhs;whnf)
   refine ih (n+1) (n+1) _ ?_ ⟨rfl,by omega⟩ (by omega)
   intro K
   conv=>lhs;whnf
   conv=>rhs;whnf
   try rfl
   rw[show IntKind.i64.wrap ((n:Int)+1)=_ from aL (by omega)]
   rw[← aAl]
   rfl
  ·have g1:¬ n<aDW b size:=by simpa using g1
   have:n=aDW b size:=by omega
   subst this
   repeat((first|apply hW.t|apply hW.f|(apply hW.q;exact rqc));conv=>lhs;whnf)
   rfl
 ·rfl
def lA (m:Man) (b:aD):Bool:=decide ((b.length:Int)=m.len)&&decide (eJ b m.size=m.sums)
theorem aCH {E:Env} (hE:Sys E) (m:Man) (b:aD) (h0:b.length≤1048576):E 233 [gv (m.cs aN),sv (bys b)]=some ([bv (lA m b)],[]):=by
 have hl:=Nat.le_trans (pD b m.size) (show 40≤1099511627776 from by decide)
 refine hE.run rfl rfl fun W hW=>?_
 conv=>lhs;whnf
 rw[aY]
 repeat'((first|apply hW.t|apply hW.f|(apply hW.q;exact rqc)|apply hW.w (qR hE b m.size h0)|apply hW.w (mJ hE (eJ b m.size) m.sums hl)|(apply hW.b<;>intro h))<;>conv=>lhs;whnf)
 all_goals(refine congrArg (fun b=>(some ([bv b],[]):Option Res)) ?_;first|rfl|(simp_all [lA];done)|(simp_all [lA]<;>(intros;omega)))
theorem aCI {E:Env} (hE:Sys E) (m:Man) (b:aD) (h0:b.length≤1048576):E 246 [gv (m.cs aN),sv (bys b)]=some ([bv (lA m b)],[]):=by
 have hl:=Nat.le_trans (pD b m.size) (show 40≤1099511627776 from by decide)
 refine hE.run rfl rfl fun W hW=>?_
 conv=>lhs;whnf
 rw[aY]
 repeat'((first|apply hW.t|apply hW.f|(apply hW.q;exact rqc)|apply hW.w (aBh hE b m.size h0)|apply hW.w (mK hE (eJ b m.size) m.sums hl)|(apply hW.b<;>intro h))<;>conv=>lhs;whnf)
 all_goals(refine congrArg (fun b=>(some ([bv b],[]):Option Res)) ?_;first|rfl|(simp_all [lA];done)|(simp_all [lA]<;>(intros;omega)))
def aCJ (d:Disk):aD:=if d.r.slot=1 then d.b else d.a
def sB (d:Disk):Int:=if mO d=true then d.r.gen else 0
def qS (d:Disk):aD:=if mO d=true then(aCJ d).take d.r.len.toNat else[]
theorem aFn {d:Disk} (h:mO d=true):d.a.length≤240∧d.b.length≤240∧oD d.r=true∧d.r.len≤(aCJ d).length∧d.p.length≤200∧d.p.all kZ=true∧0≤d.r.len:=by
 simp only[mO,Bool.and_eq_true,decide_eq_true_eq]at h
 obtain⟨h1,h2,h3,h4,h5,h6⟩:=h
 have h7:0≤d.r.len:=by simp[oD,bK]at h3;omega
 exact⟨by omega,by omega,h3,h4,by omega,h6,h7⟩
theorem aCK (d:Disk):(qS d).length≤240:=by
 unfold qS
 split
 ·rename_i h
  obtain⟨h1,h2,h3,h4,h5,h6,h7⟩:=aFn h
  rw[List.length_take]
  unfold aCJ at *
  by_cases hs:d.r.slot=1
  ·rw[if_pos hs];omega
  ·rw[if_neg hs];omega
 ·simp
theorem aNa (b:aD) (n:Nat):((bys b).drop 0).take (n-0)=bys (b.take n):=by rw[iG];simp
theorem oF {E:Env} (hE:Sys E) {o:Bool} (d:Disk) (hd:d.lim 1048576):E 245 [gv (d.cs aN o)]=some ([iv (sB d),ov 1 (bys (qS d))],[]):=by
 have hk:=aBe hE (o:=o) d hd
 unfold sB qS
 cases h:mO d
 ·rw[h]at hk
  refine hE.run rfl rfl fun W hW=>?_
  conv=>lhs;whnf
  repeat'((first|apply hW.t|apply hW.f|(apply hW.q;exact rqc)|apply hW.w (hk)|(apply hW.b<;>intro h))<;>conv=>lhs;whnf)
  rfl
 ·rw[h]at hk
  obtain⟨h1,h2,h3,h4,h5,h6,h7⟩:=aFn h
  simp only[if_true]
  rcases aCD h3 with hs|hs
  ·have e:aCJ d=d.a:=if_neg (by omega)
   rw[e]at h4 ⊢
   refine hE.run rfl rfl fun W hW=>?_
   conv=>lhs;whnf
   repeat'((first|apply hW.t|apply hW.f|(apply hW.q;exact rqc)|apply hW.w (hk)|apply hW.w (tM hE (fun _ _=>rfl) d d.r.slot hs)|(apply hW.b<;>intro h))<;>conv=>lhs;whnf)
   refine hW.q (by exact⟨by omega,by rw[aH];omega,aX _⟩) ?_
   conv=>lhs;whnf
   rw[aNa]
   apply hW.w (cM hE _ (by simp;omega))
   conv=>lhs;whnf
   repeat((first|apply hW.t|apply hW.f|(apply hW.q;exact rqc));conv=>lhs;whnf)
   rfl
  ·have e:aCJ d=d.b:=if_pos hs
   rw[e]at h4 ⊢
   refine hE.run rfl rfl fun W hW=>?_
   conv=>lhs;whnf
   repeat'((first|apply hW.t|apply hW.f|(apply hW.q;exact rqc)|apply hW.w (hk)|apply hW.w (tN hE d d.r.slot (by omega))|(apply hW.b<;>intro h))<;>conv=>lhs;whnf)
   refine hW.q (by exact⟨by omega,by rw[aH];omega,aX _⟩) ?_
   conv=>lhs;whnf
   rw[aNa]
   apply hW.w (cM hE _ (by simp;omega))
   conv=>lhs;whnf
   repeat((first|apply hW.t|apply hW.f|(apply hW.q;exact rqc));conv=>lhs;whnf)
   rfl
theorem uF {E:Env} (hE:Sys E) (d:Disk) (m:Man) (hd:d.lim 1048576):E 244 [gv (d.cs aN true),gv (m.cs aN)]=some ([bv (decide (sB d=m.gen)&&lA m (qS d))],[]):=by
 have hl:=Nat.le_trans (aCK d) (show 240≤1048576 from by decide)
 refine hE.run rfl rfl fun W hW=>?_
 conv=>lhs;whnf
 repeat'((first|apply hW.t|apply hW.f|(apply hW.q;exact rqc)|apply hW.w (oF hE (o:=true) d hd)|apply hW.w (aCI hE m (qS d) hl)|(apply hW.b<;>intro h))<;>conv=>lhs;whnf)
 all_goals(refine congrArg (fun b=>(some ([bv b],[]):Option Res)) ?_;first|rfl|(simp_all [];done)|(simp_all []<;>(intros;omega)))
def lB (gen:Int) (b:aD) (size:Int):Man:=if bK gen 1 1000000=true∧cN size b.length=true then⟨gen,size,b.length,eJ b size⟩ else⟨0,0,0,[]⟩
theorem aCL {E:Env} (hE:Sys E) (gen:Int) (b:aD) (size:Int) (h0:b.length≤1048576):E 462 [iv gen,sv (bys b),iv size]=some ([gv ((lB gen b size).cs eQ)],[]):=by
 have ha:=bJ hE gen 1 1000000
 have hb:=kO hE size b.length
 unfold lB
 cases h1:bK gen 1 1000000
 ·rw[h1]at ha
  rw[if_neg (by simp)]
  refine hE.run rfl rfl fun W hW=>?_
  conv=>lhs;whnf
  repeat'((first|apply hW.t|apply hW.f|(apply hW.q;exact rqc)|apply hW.w (ha)|(apply hW.b<;>intro h))<;>conv=>lhs;whnf)
  rfl
 ·rw[h1]at ha
  cases h2:cN size b.length
  ·rw[h2]at hb
   rw[if_neg (by simp)]
   refine hE.run rfl rfl fun W hW=>?_
   conv=>lhs;whnf
   try rw[aY]
   repeat'((first|apply hW.t|apply hW.f|(apply hW.q;exact rqc)|apply hW.w (ha)|(apply hW.b<;>intro h))<;>conv=>lhs;whnf)
   rw[aY]
   repeat'((first|apply hW.t|apply hW.f|(apply hW.q;exact rqc)|apply hW.w (hb)|(apply hW.b<;>intro h))<;>conv=>lhs;whnf)
   rfl
  ·rw[h2]at hb
   rw[if_pos ⟨rfl,rfl⟩]
   refine hE.run rfl rfl fun W hW=>?_
   conv=>lhs;whnf
   repeat'((first|apply hW.t|apply hW.f|(apply hW.q;exact rqc)|apply hW.w (ha)|(apply hW.b<;>intro h))<;>conv=>lhs;whnf)
   rw[aY]
   repeat'((first|apply hW.t|apply hW.f|(apply hW.q;exact rqc)|apply hW.w (hb)|(apply hW.b<;>intro h))<;>conv=>lhs;whnf)
   rw[aY]
   repeat'((first|apply hW.t|apply hW.f|(apply hW.q;exact rqc)|apply hW.w (qR hE b size h0)|(apply hW.b<;>intro h))<;>conv=>lhs;whnf)
   rfl
def smS:aD→Int
 |[]=>0
 |c::r=>c.toNat+smS r
def smP:aD→Int
 |[]=>0
 |c::r=>((r.length:Int)+1)*c.toNat+smP r
theorem aIF {a b k:Int} (h:a=b+251*k):a%251=b%251:=by omega
theorem aK1 {b:aD}:∀ {x y:Int},(0≤x∧x<251)→(0≤y∧y<251)→(lK b x y).1=(x+smS b)%251∧(lK b x y).2=(y+(b.length:Int)*x+smP b)%251:=by
 induction b with
 |nil=>intro x y h h';simp only[lK,smS,smP,List.length_nil];constructor<;>omega
 |cons c r ih =>
  intro x y h h'
  have hc:=UInt8.toNat_lt c
  have h1:=aM8 (c:=c) h
  have h2:=aOt h1 h'
  obtain⟨i1,i2⟩:=ih h1 h2
  have e1:wx x c=(x+c.toNat)%251:=by
   unfold wx
   rw[show IntKind.i64.wrap (c.toNat:Int)=c.toNat from aI (by omega),show IntKind.i64.wrap (x+c.toNat)=x+c.toNat from aI (by omega),Int.tmod_eq_emod_of_nonneg (by omega)]
  have e2:wy y (wx x c)=(y+wx x c)%251:=by
   unfold wy
   rw[show IntKind.i64.wrap (y+wx x c)=y+wx x c from aI (by omega),Int.tmod_eq_emod_of_nonneg (by omega)]
  simp only[lK,smS,smP,List.length_cons]
  rw[i1,i2]
  constructor
  ·omega
  ·generalize wx x c=x1 at *
   generalize wy y x1=y1 at *
   obtain⟨q,hq⟩:∃ q,x+c.toNat=251*q+x1:=⟨(x+c.toNat)/251,by omega⟩
   obtain⟨p,hp⟩:∃ p,y+x1=251*p+y1:=⟨(y+x1)/251,by omega⟩
   have m1:(r.length:Int)*(x+c.toNat)=251*((r.length:Int)*q)+r.length*x1:=by
    rw[hq,Int.mul_add,Int.mul_left_comm]
   have m2:(r.length:Int)*(x+c.toNat)=(r.length:Int)*x+r.length*c.toNat:=Int.mul_add _ _ _
   have m3:((r.length:Int)+1)*c.toNat=r.length*c.toNat+c.toNat:=by rw[Int.add_mul,Int.one_mul]
   have m4:(((r.length+1:Nat):Int))*x=r.length*x+x:=by push_cast;rw[Int.add_mul,Int.one_mul]
   rw[m3,m4]
   apply(aIF (k:=(r.length:Int)*q+q+p) ?_).symm
   generalize (r.length:Int)*q=u at *
   generalize (r.length:Int)*x1=v at *
   generalize (r.length:Int)*x=w at *
   generalize (r.length:Int)*(c.toNat:Int)=z at *
   omega
theorem nN (b:aD):aZ b=smS b%251+251*(smP b%251):=by
 obtain⟨h1,h2⟩:=aK1 (b:=b) (x:=0) (y:=0) (by omega) (by omega)
 unfold aZ
 rw[h1,h2]
 rw[show(0:Int)+(b.length:Int)*0+smP b=smP b from by omega,show(0:Int)+smS b=smS b from by omega]
 rw[show IntKind.i64.wrap (251*(smP b%251))=251*(smP b%251) from aI (by omega)]
 exact aI (by omega)
theorem aK2 {r:aD} {c:UInt8}:smS (r++[c])=smS r+c.toNat:=by
 induction r with
 |nil=>simp[smS]
 |cons a r ih=>simp only[List.cons_append,smS,ih];omega
theorem aK3 {r:aD} {c:UInt8}:smP (r++[c])=smP r+smS r+c.toNat:=by
 induction r with
 |nil=>simp[smS,smP]
 |cons a r ih =>
  simp only[List.cons_append,smP,smS,ih,List.length_append,List.length_cons,List.length_nil]
  have:((r.length+(0+1):Nat):Int)+1=((r.length:Int)+1)+1:=by push_cast;omega
  rw[this,Int.add_mul ((r.length:Int)+1) 1,Int.one_mul]
  omega
theorem sC {n:Int} (h : -1000000000000000≤n∧n≤1000000000000000):aCF n 251=n%251:=by
 unfold aCF
 rw[if_pos (by decide)]
 by_cases h0:0≤n
 ·rw[Int.tmod_eq_emod_of_nonneg h0,show IntKind.i64.wrap (n%251+251)=n%251+251 from aI (by omega),Int.tmod_eq_emod_of_nonneg (by omega)]
  omega
 ·obtain⟨m,rfl⟩:∃ m,n = -m:=⟨-n,by omega⟩
  have e:(-m).tmod 251 = -(m%251):=by rw[Int.neg_tmod,Int.tmod_eq_emod_of_nonneg (by omega)]
  rw[e,show IntKind.i64.wrap (-(m%251)+251) = -(m%251)+251 from aI (by omega),Int.tmod_eq_emod_of_nonneg (by omega)]
  omega
theorem wS {E:Env} (hE:Sys E) (w:Int):E 266 [iv w]=some ([bv (bK w 0 63000)],[]):=by
 refine hE.run rfl rfl fun W hW=>?_
 conv=>lhs;whnf
 repeat'((first|apply hW.t|apply hW.f|(apply hW.q;exact rqc)|apply hW.w (bJ hE _ _ _)|(apply hW.b<;>intro h))<;>conv=>lhs;whnf)
 rfl
theorem sD {E:Env} (hE:Sys E) (b:aD):E 267 [iv (aZ b)]=some ([iv (smS b%251),iv (smP b%251)],[]):=by
 have e:=nN b
 generalize aZ b=w at e ⊢
 have h:=wS hE w
 rw[show bK w 0 63000=true from by simp[bK];omega]at h
 refine hE.run rfl rfl fun W hW=>?_
 conv=>lhs;whnf
 repeat'((first|apply hW.t|apply hW.f|(apply hW.q;exact rqc)|apply hW.w (h)|(apply hW.b<;>intro h))<;>conv=>lhs;whnf)
 rw[Int.tmod_eq_emod_of_nonneg (by omega),Int.tdiv_eq_ediv_of_nonneg (by omega),show IntKind.i64.wrap (w/251)=w/251 from aI (by omega)]
 rw[show w%251=smS b%251 from by omega,show w/251=smP b%251 from by omega]
 rfl
theorem aDX {E:Env} (hE:Sys E) (o:UInt8) (r:aD) (c:UInt8) (n:Int) (hn:n=r.length+1) (hr:r.length≤6):E 265 [iv (aZ (o::r)),iv n,iv (o.toNat:Int),iv (c.toNat:Int)]=some ([iv (aZ (r++[c]))],[]):=by
 have ho:=UInt8.toNat_lt o
 have hc:=UInt8.toNat_lt c
 have h:=wS hE (aZ (o::r))
 have e:=nN (o::r)
 rw[show bK (aZ (o::r)) 0 63000=true from by simp[bK];omega]at h
 have h1:=bJ hE n 1 1000000000000
 rw[show bK n 1 1000000000000=true from by simp[bK];omega]at h1
 have h2:=bJ hE o.toNat 0 255
 rw[show bK o.toNat 0 255=true from by simp[bK];omega]at h2
 have h3:=bJ hE c.toNat 0 255
 rw[show bK c.toNat 0 255=true from by simp[bK];omega]at h3
 refine hE.run rfl rfl fun W hW=>?_
 conv=>lhs;whnf
 repeat'((first|apply hW.t|apply hW.f|(apply hW.q;exact rqc)|apply hW.w (h)|apply hW.w (h1)|apply hW.w (h2)|apply hW.w (h3)|apply hW.w (sD hE (o::r))|apply hW.w (aDU hE _ _)|(apply hW.b<;>intro h))<;>conv=>lhs;whnf)
 have hz:0≤n*(o.toNat:Int)∧n*(o.toNat:Int)≤7*255:=⟨Int.mul_nonneg (by omega) (by omega),Int.mul_le_mul (by omega) (by omega) (by omega) (by omega)⟩
 have hP:smP (o::r)=n*o.toNat+smP r:=by rw[smP,hn]
 have hS:smS (o::r)=o.toNat+smS r:=rfl
 have n1:n.tmod 251=n:=by rw[Int.tmod_eq_emod_of_nonneg (by omega)];omega
 rw[nN (r++[c]),aK2,aK3,n1]
 rw[show IntKind.i64.wrap (n*(o.toNat:Int))=n*o.toNat from aI (by omega)]
 rw[hP,hS]
 generalize n*(o.toNat:Int)=z at *
 generalize hx:(o.toNat+smS r)%251=X
 generalize hy:(z+smP r)%251=Y
 rw[show IntKind.i64.wrap (X-(o.toNat:Int))=X-o.toNat from aI (by omega),show IntKind.i64.wrap (X-(o.toNat:Int)+c.toNat)=X-o.toNat+c.toNat from aI (by omega),show IntKind.i64.wrap (Y-z)=Y-z from aI (by omega)]
 rw[sC (n:=X-o.toNat+c.toNat) (by omega),sC (n:=Y-z) (by omega)]
 rw[show IntKind.i64.wrap ((Y-z)%251+(X-(o.toNat:Int)+c.toNat)%251)=(Y-z)%251+(X-(o.toNat:Int)+c.toNat)%251 from aI (by omega)]
 rw[sC (n:=(Y-z)%251+(X-(o.toNat:Int)+c.toNat)%251) (by omega)]
 rw[show IntKind.i64.wrap (251*(((Y-z)%251+(X-(o.toNat:Int)+c.toNat)%251)%251))=251*(((Y-z)%251+(X-(o.toNat:Int)+c.toNat)%251)%251) from aI (by omega)]
 refine congrArg (fun b=>(some ([iv b],[]):Option Res)) ((aI (by omega)).trans ?_)
 omega
def win (b:aD) (n i:Nat):aD:=(b.drop i).take n
def wT (b:aD) (n k:Nat):List Int:=(List.range k).map fun i=>aZ (win b n i)
theorem jU (b:aD) (n k:Nat):(wT b n k).length=k:=by simp[wT]
theorem aGt (b:aD) (n k:Nat):cG (wT b n k)++[[ti (aZ (win b n k))]]=cG (wT b n (k+1)):=by
 simp[wT,List.range_succ,cG,rD]
def dI (b:aD) (n:Nat):List Int:=wT b n (if n≤b.length then b.length+1-n else 0)
theorem aK4 {b:aD} {n i:Nat} (hn:1≤n) (h:i+n<b.length):∃ r:aD,r.length+1=n∧win b n i=b[i]::r∧win b n (i+1)=r++[b[i+n]]:=by
 refine⟨(b.drop (i+1)).take (n-1),?_,?_,?_⟩
 ·simp;omega
 ·unfold win
  rw[List.drop_eq_getElem_cons (show i<b.length by omega)]
  obtain⟨m,rfl⟩:∃ m,n=m+1:=⟨n-1,by omega⟩
  rw[List.take_succ_cons];rfl
 ·unfold win
  obtain⟨m,rfl⟩:∃ m,n=m+1:=⟨n-1,by omega⟩
  rw[List.take_add_one]
  simp only[Nat.add_sub_cancel,List.getElem?_drop]
  rw[show i+1+m=i+(m+1) from by omega,List.getElem?_eq_getElem h]
  rfl
theorem yV {E:Env} (hE:Sys E) (b:aD) (n:Nat) (hb:b.length≤1048576) (hn:1≤n∧n≤6):E 264 [sv (bys b),iv n]=some ([ov 1 (cG (dI b n))],[]):=by
 unfold dI
 refine hE.run rfl rfl fun W hW=>?_
 conv=>lhs;whnf
 repeat((first|apply hW.t|apply hW.f|(apply hW.q;exact rqc));conv=>lhs;whnf)
 apply hW.b<;>intro g0<;>conv=>lhs;whnf
 ·have:(n:Int)<1:=by simpa using g0
  omega
 ·repeat((first|apply hW.t|apply hW.f|(apply hW.q;exact rqc));conv=>lhs;whnf)
  rw[aY]
  apply hW.b<;>intro g<;>conv=>lhs;whnf
  ·have g:(n:Int)>b.length:=by simpa using g
   rw[if_neg (by omega)]
   repeat((first|apply hW.t|apply hW.f|(apply hW.q;exact rqc));conv=>lhs;whnf)
   rfl
  ·have g:¬ (n:Int)>b.length:=by simpa using g
   rw[if_pos (by omega)]
   repeat((first|apply hW.t|apply hW.f|(apply hW.q;exact rqc));conv=>lhs;whnf)
   refine hW.q (by exact⟨by omega,by rw[aH];omega,aX b⟩) ?_
   conv=>lhs;whnf
   rw[aNa,show((n:Int).toNat)=n from by omega]
   apply hW.w (dH hE (b.take n) (by simp;omega))
   conv=>lhs;whnf
   repeat((first|apply hW.t|apply hW.f|(apply hW.q;exact rqc));conv=>lhs;whnf)
   refine hW.loop (σ:=Nat) (γ:=Nat) (fun i s=>((s.sl 7 (v1 (.t (.int .i64 (i+n:Nat))))).sl 6 (v1 (.t (.int .i64 (aZ (win b n i)))))).bl ⟨50500,1, .own,cG (wT b n (i+1))⟩) (fun i m=>i=m∧m+n≤b.length) (fun m=>b.length-m) (fun _=>([ov 1 (cG (wT b n (b.length+1-n)))],[])) 0 0 ?_ ?_ ?_ ?_
   ·intro K
    conv=>lhs;whnf
    conv=>rhs;whnf
    try rfl
    simp[wT,win,cG,rD]
   ·exact⟨rfl,by omega⟩
   ·rintro kl i _ ⟨rfl,hi⟩ ih
    conv=>lhs;whnf
    rw[aY]
    apply hW.b<;>intro g1<;>conv=>lhs;whnf
    ·have g1:i+n<b.length:=by
      have:((i+n:Nat):Int)<b.length:=by simpa using g1
      omega
     obtain⟨r,r1,r2,r3⟩:=aK4 hn.1 g1
     have c1:=UInt8.toNat_lt b[i]
     have c2:=UInt8.toNat_lt b[i+n]
     repeat((first|apply hW.t|apply hW.f|(apply hW.q;exact rqc));conv=>lhs;whnf)
     rw[show IntKind.i64.wrap (((i+n:Nat):Int)-(n:Int))=(i:Int) from(aI (by omega)).trans (by omega)]
     repeat((first|apply hW.t|apply hW.f|(apply hW.q;exact rqc)|(refine hW.w (eR ?_) ?_;omega));conv=>lhs;whnf)
     rw[show IntKind.i64.wrap (b[i].toNat:Int)=b[i].toNat from aI (by omega),show IntKind.i64.wrap (b[i+n].toNat:Int)=b[i+n].toNat from aI (by omega),r2]
     apply hW.w (aDX hE b[i] r b[i+n] n (by omega) (by omega))
     conv=>lhs;whnf
     repeat((first|apply hW.t|apply hW.f|(apply hW.q;exact rqc));conv=>lhs;whnf)
     refine hW.q (by exact⟨by decide,by intro e he;simp at he;subst he;rfl,by simp[jU,cG];omega,by simp[jU,cG];omega⟩) ?_
     conv=>lhs;whnf
     repeat((first|apply hW.t|apply hW.f|(apply hW.q;exact rqc));conv=>lhs;whnf)
     refine ih (i+1) (i+1) _ ?_ ⟨rfl,by omega⟩ (by omega)
     intro K
     conv=>lhs;whnf
     conv=>rhs;whnf
     try rfl
     rw[show IntKind.i64.wrap (((i+n:Nat):Int)+1)=((i+1+n:Nat):Int) from(aL (by omega)).trans (by omega),← aGt b n (i+1),r3]
     rfl
    ·have g1:¬ i+n<b.length:=by
      have:¬ ((i+n:Nat):Int)<b.length:=by simpa using g1
      omega
     repeat((first|apply hW.t|apply hW.f|(apply hW.q;exact rqc));conv=>lhs;whnf)
     rw[show b.length+1-n=i+1 from by omega]
     rfl
   ·rfl
def aBi (p:Nat→Bool):Nat→Nat→Int
 |_,0 => -1
 |i,k+1=>if p i=true then(i:Int) else aBi p (i+1) k
def gX (b:aD) (s:Sum) (n:Int):Int:=if bK n 1 6=true then aBi (fun i=>decide (bF (win b n.toNat i)=s)) 0 (dI b n.toNat).length else -1
theorem aIG (b:aD) (n i:Nat):(win b n i).length≤n:=by simp[win];omega
theorem aIH {w:aD} (h:w.length≤6) (s:Sum):(decide (aZ w=s.w)&&decide (bF w=s))=decide (bF w=s):=by
 have:(bF w).w=aZ w:=by unfold bF;rw[if_neg (by omega)]
 rw[Bool.eq_iff_iff]
 simp only[Bool.and_eq_true,decide_eq_true_eq]
 constructor
 ·exact fun h=>h.2
 ·intro h;exact⟨by rw[← this,h],h⟩
theorem aK5 (b:aD) (n k i:Nat) (h:i<k):(wT b n k)[i]?=some (aZ (win b n i)):=by simp[wT,h]
theorem yW {E:Env} (hE:Sys E) (b:aD) (s:Sum) (n:Int) (hb:b.length≤1048576):E 263 [sv (bys b),gv s.cs,iv n]=some ([iv (gX b s n)],[]):=by
 have h1:=bJ hE n 1 6
 unfold gX
 cases hn:bK n 1 6
 ·rw[hn]at h1
  refine hE.run rfl rfl fun W hW=>?_
  conv=>lhs;whnf
  repeat'((first|apply hW.t|apply hW.f|(apply hW.q;exact rqc)|apply hW.w (h1)|(apply hW.b<;>intro h))<;>conv=>lhs;whnf)
  rfl
 ·rw[hn]at h1
  have hr:=bU hn
  obtain⟨m,rfl⟩:∃ m:Nat,n=m:=⟨n.toNat,by omega⟩
  rw[show((m:Int).toNat)=m from by omega]
  have hl:(cG (dI b m)).length=(dI b m).length:=List.length_map _
  have hl2:(dI b m).length+m≤b.length+1∨(dI b m).length=0:=by
   unfold dI;rw[jU];split<;>omega
  have hg:∀ i (h:i<(dI b m).length),(cG (dI b m))[(i:Int).toNat]?=some (rD (aZ (win b m i))):=by
   intro i h
   unfold dI at h ⊢
   rw[jU]at h
   rw[cG,List.getElem?_map,show((i:Int).toNat)=i from by omega,aK5 _ _ _ _ h]
   rfl
  simp only[if_true]
  refine hE.run rfl rfl fun W hW=>?_
  conv=>lhs;whnf
  apply hW.w (h1)
  conv=>lhs;whnf
  repeat((first|apply hW.t|apply hW.f|(apply hW.q;exact rqc));conv=>lhs;whnf)
  apply hW.w (yV hE b m hb (by omega))
  conv=>lhs;whnf
  repeat((first|apply hW.t|apply hW.f|(apply hW.q;exact rqc));conv=>lhs;whnf)
  generalize dI b m=l at hl hl2 hg ⊢
  refine hW.loop (σ:=Nat) (γ:=Nat) (fun i s=>s.sl 8 (v1 (.t (.int .i64 i)))) (fun i k=>i=k∧k≤l.length) (fun k=>l.length-k) (fun k=>([iv (aBi (fun i=>decide (bF (win b m i)=s)) k (l.length-k))],[])) 0 0 ?_ ?_ ?_ ?_
  ·intro K
   conv=>lhs;whnf
   conv=>rhs;whnf
   try rfl
  ·exact⟨rfl,by omega⟩
  ·rintro kl i _ ⟨rfl,hi⟩ ih
   conv=>lhs;whnf
   apply hW.b<;>intro g1<;>conv=>lhs;whnf
   ·have g1:i<l.length:=by simpa[hl] using g1
    have hw:=aIG b m i
    rw[show l.length-i=(l.length-(i+1))+1 from by omega,aBi,← aIH (by omega)]
    repeat((first|apply hW.t|apply hW.f|(apply hW.q;exact rqc));conv=>lhs;whnf)
    apply hW.w (hg i g1)
    conv=>lhs;whnf
    repeat((first|apply hW.t|apply hW.f|(apply hW.q;exact rqc));conv=>lhs;whnf)
    apply hW.w (hg i g1)
    conv=>lhs;whnf
    repeat((first|apply hW.t|apply hW.f|(apply hW.q;exact rqc));conv=>lhs;whnf)
    apply hW.b<;>intro g2<;>conv=>lhs;whnf
    ·rw[g2]
     repeat((first|apply hW.t|apply hW.f|(apply hW.q;exact rqc));conv=>lhs;whnf)
     rw[show IntKind.i64.wrap ((i:Int)+(m:Int))=((i+m:Nat):Int) from(aI (by omega)).trans (by omega)]
     repeat((first|apply hW.t|apply hW.f|(apply hW.q;exact rqc));conv=>lhs;whnf)
     refine hW.q (by exact⟨by omega,by rw[aH];omega,aX b⟩) ?_
     conv=>lhs;whnf
     repeat((first|apply hW.t|apply hW.f|(apply hW.q;exact rqc));conv=>lhs;whnf)
     rw[show((bys b).drop (i:Int).toNat).take ((((i+m:Nat):Int)).toNat-(i:Int).toNat)=bys (win b m i) from by rw[iG];unfold win;congr 2<;>omega]
     apply hW.w (eM hE (win b m i) (by omega))
     conv=>lhs;whnf
     repeat((first|apply hW.t|apply hW.f|(apply hW.q;exact rqc));conv=>lhs;whnf)
     apply hW.b<;>intro g3<;>conv=>lhs;whnf
     ·have g3:bF (win b m i)=s:=by
       revert g3
       generalize bF (win b m i)=x
       cases x;cases s
       simp
      rw[decide_eq_true g3]
      repeat((first|apply hW.t|apply hW.f|(apply hW.q;exact rqc));conv=>lhs;whnf)
      rfl
     ·have g3:bF (win b m i)≠s:=by intro e;rw[e]at g3;simp at g3
      rw[decide_eq_false g3]
      repeat((first|apply hW.t|apply hW.f|(apply hW.q;exact rqc));conv=>lhs;whnf)
      simp only[Bool.and_false,if_false,Bool.false_eq_true]
      refine ih (i+1) (i+1) _ ?_ ⟨rfl,by omega⟩ (by omega)
      intro K
      conv=>lhs;whnf
      conv=>rhs;whnf
      try rfl
      rw[show IntKind.i64.wrap ((i:Int)+1)=_ from aL (by omega)]
      try rfl
    ·rw[g2]
     repeat((first|apply hW.t|apply hW.f|(apply hW.q;exact rqc));conv=>lhs;whnf)
     simp only[Bool.false_and,if_false,Bool.false_eq_true]
     refine ih (i+1) (i+1) _ ?_ ⟨rfl,by omega⟩ (by omega)
     intro K
     conv=>lhs;whnf
     conv=>rhs;whnf
     try rfl
     rw[show IntKind.i64.wrap ((i:Int)+1)=_ from aL (by omega)]
   ·have:i=l.length:=by simp[hl]at g1;omega
    rw[this,Nat.sub_self];rfl
  ·rfl
theorem aGu (b:aD) (m:Nat):(dI b m).length=if m≤b.length then b.length+1-m else 0:=by unfold dI;rw[jU]
theorem yX {E:Env} (hE:Sys E) (b:aD) (s:Sum) (n:Int) (hb:b.length≤1048576):E 272 [sv (bys b),gv s.cs,iv n]=some ([iv (gX b s n)],[]):=by
 have h1:=bL hE n 1 6
 unfold gX
 cases hn:bK n 1 6
 ·rw[hn]at h1
  refine hE.run rfl rfl fun W hW=>?_
  conv=>lhs;whnf
  repeat'((first|apply hW.t|apply hW.f|(apply hW.q;exact rqc)|apply hW.w (h1)|(apply hW.b<;>intro h))<;>conv=>lhs;whnf)
  rfl
 ·rw[hn]at h1
  have hr:=bU hn
  obtain⟨m,rfl⟩:∃ m:Nat,n=m:=⟨n.toNat,by omega⟩
  rw[show((m:Int).toNat)=m from by omega,aGu]
  simp only[if_true]
  refine hE.run rfl rfl fun W hW=>?_
  conv=>lhs;whnf
  apply hW.w (h1)
  conv=>lhs;whnf
  repeat((first|apply hW.t|apply hW.f|(apply hW.q;exact rqc));conv=>lhs;whnf)
  generalize hL:(if m≤b.length then b.length+1-m else 0)=L
  have hL':∀ i,i<L↔i+m≤b.length:=by intro i;rw[← hL];split<;>omega
  have hLb:L≤b.length:=by rw[← hL];split<;>omega
  refine hW.loop (σ:=Nat) (γ:=Nat) (fun i s=>s.sl 7 (v1 (.t (.int .i64 i)))) (fun i k=>i=k∧k≤L) (fun k=>L-k) (fun k=>([iv (aBi (fun i=>decide (bF (win b m i)=s)) k (L-k))],[])) 0 0 ?_ ?_ ?_ ?_
  ·intro K
   conv=>lhs;whnf
   conv=>rhs;whnf
   try rfl
  ·exact⟨rfl,by omega⟩
  ·rintro kl i _ ⟨rfl,hi⟩ ih
   conv=>lhs;whnf
   rw[aY,show IntKind.i64.wrap ((i:Int)+(m:Int))=((i+m:Nat):Int) from(aI (by omega)).trans (by omega)]
   apply hW.b<;>intro g1<;>conv=>lhs;whnf
   ·have g1:i+m≤b.length:=by
     have:((i+m:Nat):Int)≤b.length:=by simpa using g1
     omega
    have hw:=aIG b m i
    rw[show L-i=(L-(i+1))+1 from by have:=(hL' i).2 g1;omega,aBi]
    repeat((first|apply hW.t|apply hW.f|(apply hW.q;exact rqc));conv=>lhs;whnf)
    rw[show IntKind.i64.wrap ((i:Int)+(m:Int))=((i+m:Nat):Int) from(aI (by omega)).trans (by omega)]
    repeat((first|apply hW.t|apply hW.f|(apply hW.q;exact rqc));conv=>lhs;whnf)
    refine hW.q (by exact⟨by omega,by rw[aH];omega,aX b⟩) ?_
    conv=>lhs;whnf
    repeat((first|apply hW.t|apply hW.f|(apply hW.q;exact rqc));conv=>lhs;whnf)
    rw[show((bys b).drop (i:Int).toNat).take ((((i+m:Nat):Int)).toNat-(i:Int).toNat)=bys (win b m i) from by rw[iG];unfold win;congr 2<;>omega]
    apply hW.w (gK hE (win b m i) (by omega))
    conv=>lhs;whnf
    repeat((first|apply hW.t|apply hW.f|(apply hW.q;exact rqc));conv=>lhs;whnf)
    apply hW.b<;>intro g3<;>conv=>lhs;whnf
    ·have g3:bF (win b m i)=s:=by
      revert g3
      generalize bF (win b m i)=x
      cases x;cases s
      simp
     rw[if_pos (decide_eq_true g3)]
     repeat((first|apply hW.t|apply hW.f|(apply hW.q;exact rqc));conv=>lhs;whnf)
     rfl
    ·have g3:bF (win b m i)≠s:=by intro e;rw[e]at g3;simp at g3
     rw[if_neg (by simpa using g3)]
     repeat((first|apply hW.t|apply hW.f|(apply hW.q;exact rqc));conv=>lhs;whnf)
     refine ih (i+1) (i+1) _ ?_ ⟨rfl,by have:=(hL' i).2 g1;omega⟩ (by have:=(hL' i).2 g1;omega)
     intro K
     conv=>lhs;whnf
     conv=>rhs;whnf
     try rfl
     rw[show IntKind.i64.wrap ((i:Int)+1)=_ from aL (by omega)]
     try rfl
   ·have g1:¬ i+m≤b.length:=by
     have:¬ ((i+m:Nat):Int)≤b.length:=by simpa using g1
     omega
    have hni:¬ i<L:=fun h=>g1 ((hL' i).1 h)
    have:i=L:=by omega
    rw[this,Nat.sub_self];rfl
  ·rfl
def bM (b:aD) (m:Man) (i:Int):Int :=
 if i<0 then -1 else match m.sums[i.toNat]? with
 |none => -1
 |some s=>gX b s (bA m.size m.len i)
theorem aGv (b:aD) (s:Sum):gX b s 0 = -1:=by unfold gX;rw[if_neg (by decide)]
theorem aCM {b:aD} {m:Man} {i:Int} (h:i<0∨(m.sums.length:Int)≤i):bM b m i = -1:=by
 unfold bM
 by_cases h0:i<0
 ·rw[if_pos h0]
 ·rw[if_neg h0,List.getElem?_eq_none (by omega)]
theorem aBj {b:aD} {m:Man} {n:Nat} (h:n<m.sums.length):bM b m n=gX b m.sums[n] (bA m.size m.len n):=by
 unfold bM
 rw[if_neg (by omega),show((n:Int).toNat)=n from by omega,List.getElem?_eq_getElem h]
theorem aK6 {size n i:Int} (h:i<0):bA size n i=0:=by
 unfold bA
 rw[if_neg (by simp[bK];omega)]
theorem yY {E:Env} (hE:Sys E) (b:aD) (m:Man) (i:Int) (hb:b.length≤1048576) (_:m.sums.length≤8388608):E 262 [sv (bys b),gv (m.cs aN),iv i]=some ([iv (bM b m i)],[]):=by
 refine hE.run rfl rfl fun W hW=>?_
 conv=>lhs;whnf
 apply hW.w (fF hE m.size m.len i)
 conv=>lhs;whnf
 repeat((first|apply hW.t|apply hW.f|(apply hW.q;exact rqc));conv=>lhs;whnf)
 apply hW.b<;>intro g1<;>conv=>lhs;whnf
 ·have g1:bA m.size m.len i=0:=by simpa using g1
  repeat((first|apply hW.t|apply hW.f|(apply hW.q;exact rqc));conv=>lhs;whnf)
  have e:bM b m i = -1:=by
   unfold bM
   split
   ·rfl
   ·split
    ·rfl
    ·rw[g1,aGv]
  rw[e];rfl
 ·have g1:bA m.size m.len i≠0:=by simpa using g1
  have hi:0≤i:=by
   rcases Int.lt_or_le i 0 with h|h
   ·exact absurd (aK6 h) g1
   ·exact h
  repeat((first|apply hW.t|apply hW.f|(apply hW.q;exact rqc));conv=>lhs;whnf)
  apply hW.b<;>intro g2<;>conv=>lhs;whnf
  ·have g2:(m.sums.length:Int)≤i:=by simpa using g2
   rw[aCM (.inr g2)]
   repeat((first|apply hW.t|apply hW.f|(apply hW.q;exact rqc));conv=>lhs;whnf)
   rfl
  ·have g2:¬ (m.sums.length:Int)≤i:=by simpa using g2
   obtain⟨n,rfl⟩:∃ n:Nat,i=n:=⟨i.toNat,by omega⟩
   have hn:n<m.sums.length:=by omega
   rw[aBj hn]
   repeat((first|apply hW.t|apply hW.f|(apply hW.q;exact rqc)|(refine hW.w (eR ?_) ?_;omega));conv=>lhs;whnf)
   apply hW.w (yW hE b m.sums[n] _ hb)
   conv=>lhs;whnf
   repeat((first|apply hW.t|apply hW.f|(apply hW.q;exact rqc));conv=>lhs;whnf)
   rfl
theorem yZ {E:Env} (hE:Sys E) (b:aD) (m:Man) (i:Int) (hb:b.length≤1048576) (hm:m.sums.length≤8388608):E 271 [sv (bys b),gv (m.cs aN),iv i]=some ([iv (bM b m i)],[]):=by
 have h1:=bL hE i 0 ((m.sums.length:Int)-1)
 refine hE.run rfl rfl fun W hW=>?_
 conv=>lhs;whnf
 apply hW.w (fG hE m.size m.len i)
 conv=>lhs;whnf
 repeat((first|apply hW.t|apply hW.f|(apply hW.q;exact rqc));conv=>lhs;whnf)
 rw[show((m.sums.map Sum.row).length)=m.sums.length from List.length_map _,show IntKind.i64.wrap ((m.sums.length:Int)-1)=(m.sums.length:Int)-1 from aI (by omega)]
 apply hW.w (h1)
 conv=>lhs;whnf
 repeat((first|apply hW.t|apply hW.f|(apply hW.q;exact rqc));conv=>lhs;whnf)
 apply hW.b<;>intro g1<;>conv=>lhs;whnf
 ·have g1:=uD g1
  repeat((first|apply hW.t|apply hW.f|(apply hW.q;exact rqc));conv=>lhs;whnf)
  rw[aCM (by simp[bK]at g1;omega)]
  rfl
 ·have g1:=bU (mH g1)
  obtain⟨n,rfl⟩:∃ n:Nat,i=n:=⟨i.toNat,by omega⟩
  have hn:n<m.sums.length:=by omega
  rw[aBj hn]
  repeat((first|apply hW.t|apply hW.f|(apply hW.q;exact rqc)|(refine hW.w (eR ?_) ?_;omega));conv=>lhs;whnf)
  apply hW.w (yX hE b m.sums[n] _ hb)
  conv=>lhs;whnf
  repeat((first|apply hW.t|apply hW.f|(apply hW.q;exact rqc));conv=>lhs;whnf)
  rfl
theorem aDY {i:Nat} (h:i≤39):aJB i=((2 ^ i:Nat):Int)∧2 ^ i≤549755813888:=by
 have h1:2 ^ i≤2 ^ 39:=Nat.pow_le_pow_right (by decide) h
 have h2:2 ^ i≤549755813888:=Nat.le_trans h1 (by decide)
 refine⟨?_,h2⟩
 unfold aJB
 rw[show min ((i:Int).toNat) IntKind.i64.bits=i from by simp only[IntKind.bits];omega]
 rw[show(1:Int)*2 ^ i=((2 ^ i:Nat):Int) from by push_cast;omega]
 generalize 2 ^ i=p at h2 ⊢
 exact aI (by omega)
def dig:Nat→Nat→aD→Option aD
 |0,s,acc=>if s=1 then some acc else none
 |k+1,s,acc=>if s=1 then some acc else if s<256 then none else dig k (s/256) (dX s::acc)
def dJ (s:Int):Option aD:=if bK s 1 562949953421311=true then dig 6 s.toNat [] else none
def bO (s:Int):aD:=(dJ s).getD []
def bQ (s:Int):Bool:=(dJ s).isSome
theorem aII (s:Int):IntKind.u8.wrap (IntKind.i64.wrap (BitVec.ofInt IntKind.i64.bits s &&& BitVec.ofInt IntKind.i64.bits 255).toNat)=IntKind.u8.wrap s∨¬ (0≤s∧s≤562949953421311):=by
 by_cases h:0≤s∧s≤562949953421311
 ·left
  obtain⟨n,rfl⟩:∃ n:Nat,s=n:=⟨s.toNat,by omega⟩
  rw[BitVec.toNat_and,BitVec.ofInt_natCast,show BitVec.ofInt IntKind.i64.bits 255=BitVec.ofNat IntKind.i64.bits 255 from rfl,BitVec.toNat_ofNat,BitVec.toNat_ofNat]
  rw[Nat.mod_eq_of_lt (show n<2 ^ IntKind.i64.bits from by simp only[IntKind.bits];omega),Nat.mod_eq_of_lt (show 255<2 ^ IntKind.i64.bits from by decide)]
  rw[show n &&& 255=n%256 from Nat.and_two_pow_sub_one_eq_mod n 8]
  rw[show IntKind.i64.wrap ((n%256:Nat):Int)=((n%256:Nat):Int) from aI (by omega)]
  rw[← gT,← gT]
  unfold dX
  congr 3
  omega
 ·exact .inr h
theorem aNb:∀ {k s:Nat} {acc b:aD},dig k s acc=some b→b.length≤acc.length+k:=by
 intro k
 induction k with
 |zero=>intro s acc b h;simp only[dig]at h;split at h;cases h;omega;cases h
 |succ k ih =>
  intro s acc b h
  simp only[dig]at h
  split at h
  ·cases h;omega
  ·split at h
   ·cases h
   ·have:=ih h;simp only[List.length_cons]at this;omega
theorem fU (s:Int):(bO s).length≤6:=by
 unfold bO dJ
 split
 ·cases h:dig 6 s.toNat [] with
  |none=>simp
  |some b=>have:=aNb h;simpa using this
 ·simp
theorem aK7 {n:Nat}:((n:Int).fdiv (2 ^ (min (8:Int).toNat IntKind.i64.bits)))=((n/256:Nat):Int):=by
 rw[show(2:Int) ^ (min (8:Int).toNat IntKind.i64.bits)=256 from by decide,Int.fdiv_eq_ediv_of_nonneg _ (by decide)]
 omega
theorem jA {E:Env} (hE:Sys E) (s:Int):E 308 [iv s]=some ([ov 1 (bys (bO s)),bv (bQ s)],[]):=by
 have h1:=bJ hE s 1 562949953421311
 unfold bO bQ dJ
 cases hr:bK s 1 562949953421311
 ·rw[hr]at h1
  refine hE.run rfl rfl fun W hW=>?_
  conv=>lhs;whnf
  repeat'((first|apply hW.t|apply hW.f|(apply hW.q;exact rqc)|apply hW.w (h1)|(apply hW.b<;>intro h))<;>conv=>lhs;whnf)
  rfl
 ·rw[hr]at h1
  have hr:=bU hr
  obtain⟨n,rfl⟩:∃ n:Nat,s=n:=⟨s.toNat,by omega⟩
  simp only[if_true]
  rw[show((n:Int).toNat)=n from by omega]
  refine hE.run rfl rfl fun W hW=>?_
  conv=>lhs;whnf
  apply hW.w (h1)
  conv=>lhs;whnf
  repeat((first|apply hW.t|apply hW.f|(apply hW.q;exact rqc));conv=>lhs;whnf)
  generalize hD:dig 6 n []=D
  refine hW.loop (σ:=Nat × aD) (γ:=Nat) (fun i s=>(s.sl 0 (v1 (.t (.int .i64 i.1)))).bl ⟨50400,1, .own,bys i.2⟩) (fun i k=>k≤6∧1≤i.1∧i.1<2*256 ^ k∧i.2.length+k≤6∧dig k i.1 i.2=D) (fun k=>k) (fun _=>([ov 1 (bys (D.getD [])),bv D.isSome],[])) (n,[]) 6 ?_ ?_ ?_ ?_
  ·intro K
   conv=>lhs;whnf
   conv=>rhs;whnf
   try rfl
  ·exact⟨by omega,by omega,by
    have:(256:Nat) ^ 6=281474976710656:=by decide
    simp only;omega,by simp,hD⟩
  ·rintro kl ⟨m,acc⟩ k ⟨hk,hm,hlt,hl,hd⟩ ih
   simp only at hm hlt hl hd
   conv=>lhs;whnf
   apply hW.b<;>intro g1<;>conv=>lhs;whnf
   ·have g1:1<m:=by
     have:(m:Int)>1:=by simpa using g1
     omega
    cases k with
    |zero=>simp at hlt;omega
    |succ k =>
     simp only[dig,if_neg (show ¬ m=1 by omega)]at hd
     repeat((first|apply hW.t|apply hW.f|(apply hW.q;exact rqc));conv=>lhs;whnf)
     apply hW.b<;>intro g2<;>conv=>lhs;whnf
     ·have g2:m<256:=by
       have:(m:Int)<256:=by simpa using g2
       omega
      rw[if_pos g2]at hd
      rw[← hd]
      repeat((first|apply hW.t|apply hW.f|(apply hW.q;exact rqc));conv=>lhs;whnf)
      rfl
     ·have g2:¬ m<256:=by
       have:¬ (m:Int)<256:=by simpa using g2
       omega
      rw[if_neg g2]at hd
      have hpow:256 ^ (k+1)=256 ^ k*256:=Nat.pow_succ ..
      have hmax:256 ^ (k+1)≤256 ^ 6:=Nat.pow_le_pow_right (by decide) hk
      have h6:(256:Nat) ^ 6=281474976710656:=by decide
      have hb:=(aII m).resolve_right (by omega)
      repeat((first|apply hW.t|apply hW.f|(apply hW.q;exact rqc));conv=>lhs;whnf)
      refine hW.q (by exact⟨by decide,aX _,by simp[aH];omega,by simp[aH];omega⟩) ?_
      conv=>lhs;whnf
      apply hW.bt (cL _)
      conv=>lhs;whnf
      repeat((first|apply hW.t|apply hW.f|(apply hW.q;exact rqc));conv=>lhs;whnf)
      rw[hb,aK7]
      refine ih (m/256,dX m::acc) k _ ?_ ⟨by omega,by omega,by simp only;omega,by simp only[List.length_cons];omega,hd⟩ (by omega)
      intro K
      conv=>lhs;whnf
      conv=>rhs;whnf
      try rfl
      rw[show bys (dX m::acc)=[.int .u8 (IntKind.u8.wrap m)]::bys acc from by simp[bys,wI,gT]]
      rfl
   ·have g1:¬ 1<m:=by
     have:¬ (m:Int)>1:=by simpa using g1
     omega
    have:m=1:=by omega
    subst this
    have:dig k 1 acc=some acc:=by cases k<;>simp[dig]
    rw[this]at hd
    rw[← hd]
    repeat((first|apply hW.t|apply hW.f|(apply hW.q;exact rqc));conv=>lhs;whnf)
    rfl
  ·rfl
def yB (m n:Nat):aD:=(List.range n).map fun i:Nat=>dX ((m/256 ^ (n-1-i):Nat):Int)
theorem aIJ (m n:Nat):yB m (n+1)=dX ((m/256 ^ n:Nat):Int)::yB m n:=by
 unfold yB
 rw[List.range_succ_eq_map,List.map_cons,List.map_map]
 simp only[Nat.add_sub_cancel,Nat.sub_zero,List.cons.injEq,true_and]
 apply List.map_congr_left
 intro i hi
 simp only[Function.comp]
 congr 4
 omega
theorem aFo (m n:Nat):(yB m n).length=n:=by simp[yB]
theorem aL6 (m:Nat):∀ j,j≤6→(∀ i,i<j→256≤m/256 ^ i)→dig 6 m []=dig (6-j) (m/256 ^ j) (yB m j):=by
 intro j
 induction j with
 |zero=>intro _ _;simp[yB]
 |succ j ih =>
  intro hj h
  rw[ih (by omega) fun i hi=>h i (by omega)]
  have h1:=h j (by omega)
  rw[show 6-j=(6-(j+1))+1 from by omega,dig,if_neg (by omega),if_neg (by omega),aIJ,Nat.div_div_eq_div_mul,← Nat.pow_succ]
theorem aNc (k:Nat) (b:aD):dig k 1 b=some b:=by cases k<;>simp[dig]
theorem aBk (m j:Nat):m/256 ^ (j+1)=m/256 ^ j/256:=by rw[Nat.div_div_eq_div_mul,← Nat.pow_succ]
theorem wU {m n:Nat} (hn:n≤6) (h:∀ j,j<n→1<m/256 ^ j) (h1:m/256 ^ n=1):dJ m=some (yB m n):=by
 have hge:∀ i,i<n→256≤m/256 ^ i:=by
  intro i hi
  have e:=aBk m i
  have:1≤m/256 ^ (i+1):=by
   rcases Nat.lt_or_ge (i+1) n with h2|h2
   ·have:=h _ h2;omega
   ·have:i+1=n:=by omega
    rw[this,h1];exact Nat.le_refl _
  omega
 have hlt:m<2*256 ^ n:=by
  have:0<256 ^ n:=Nat.pow_pos (by decide)
  have:=Nat.div_add_mod m (256 ^ n)
  have h3:=Nat.mod_lt m (show 0<256 ^ n from Nat.pow_pos (by decide))
  rw[h1]at this
  omega
 have hm:1≤m:=by
  rcases Nat.eq_zero_or_pos m with h0|h0
  ·rw[h0,Nat.zero_div]at h1;cases h1
  ·exact h0
 have hp:256 ^ n≤256 ^ 6:=Nat.pow_le_pow_right (by decide) hn
 have h6:(256:Nat) ^ 6=281474976710656:=by decide
 unfold dJ
 rw[if_pos (by simp[bK];omega),show((m:Int).toNat)=m from by omega,aL6 m n hn hge,h1,aNc]
theorem tP {m n:Nat} (hm:1≤m) (hn:n≤6) (h:∀ j,j<n→1<m/256 ^ j) (h1:m/256 ^ n≠1) (h2:n=6∨m/256 ^ n≤1):dJ m=none:=by
 unfold dJ
 split
 ·rename_i hr
  have hr:=bU hr
  rw[show((m:Int).toNat)=m from by omega]
  by_cases h0:m/256 ^ n=0
  ·cases n with
   |zero=>simp at h0;omega
   |succ n =>
    have e:=aBk m n
    have hl:=h n (by omega)
    have hge:∀ i,i<n→256≤m/256 ^ i:=by
     intro i hi
     have e:=aBk m i
     have:=h (i+1) (by omega)
     omega
    rw[aL6 m n (by omega) hge,show 6-n=(6-(n+1))+1 from by omega]
    rw[h0]at e
    generalize m/256 ^ n=c at *
    simp only[dig]
    rw[if_neg (by omega),if_pos (by omega)]
  ·exfalso
   have hn6:n=6:=by
    rcases h2 with h2|h2
    ·exact h2
    ·generalize m/256 ^ n=t at h0 h1 h2
     omega
   subst hn6
   have h6:(256:Nat) ^ 6=281474976710656:=by decide
   have h3:m/256 ^ 6≤1:=by rw[h6];omega
   generalize m/256 ^ 6=t at h0 h1 h3
   omega
 ·rfl
theorem aGw {m n:Nat} (hn:n≤6):(m:Int).fdiv (2 ^ (min (IntKind.i64.wrap (8*(n:Int))).toNat IntKind.i64.bits))=((m/256 ^ n:Nat):Int):=by
 rw[show IntKind.i64.wrap (8*(n:Int))=8*(n:Int) from aI (by omega)]
 rw[show min (8*(n:Int)).toNat IntKind.i64.bits=8*n from by simp only[IntKind.bits];omega]
 rw[Int.fdiv_eq_ediv_of_nonneg _ (Int.pow_nonneg (by decide))]
 rw[show((2:Int) ^ (8*n))=((256 ^ n:Nat):Int) from by rw[Int.pow_mul];push_cast;rfl]
 exact(Int.natCast_ediv m (256 ^ n)).symm
theorem aNd {s:Int} (h:s<1) (k:Nat):¬ s.fdiv (2 ^ k)>1:=by
 have hp:(0:Int)<2 ^ k:=Int.pow_pos (by decide)
 rw[Int.fdiv_eq_ediv_of_nonneg _ (Int.le_of_lt hp)]
 have:s/2 ^ k≤0:=by
  rcases Int.lt_or_le s 0 with h1|h1
  ·exact Int.le_of_lt (Int.ediv_neg_of_neg_of_pos h1 hp)
  ·have:s=0:=by omega
   rw[this,Int.zero_ediv];exact Int.le_refl _
 omega
theorem jB {E:Env} (hE:Sys E) (s:Int):E 319 [iv s]=some ([ov 1 (bys (bO s)),bv (bQ s)],[]):=by
 have neg:s<1→bO s=[]∧bQ s=false:=by
  intro hs
  have hb:dJ s=none:=by unfold dJ;rw[if_neg (by simp[bK];omega)]
  exact⟨by unfold bO;rw[hb];rfl,by unfold bQ;rw[hb];rfl⟩
 refine hE.run rfl rfl fun W hW=>?_
 conv=>lhs;whnf
 repeat((first|apply hW.t|apply hW.f|(apply hW.q;exact rqc));conv=>lhs;whnf)
 refine hW.loop (σ:=Nat) (γ:=Nat) (fun i s=>s.sl 4 (v1 (.t (.int .i64 i)))) (fun i k=>i=k∧k≤6∧∀ j,j<k→1<s.toNat/256 ^ j∧1≤s) (fun k=>6-k) (fun _=>([ov 1 (bys (bO s)),bv (bQ s)],[])) 0 0 ?_ ?_ ?_ ?_
 ·intro K
  conv=>lhs;whnf
  conv=>rhs;whnf
  try rfl
 ·exact⟨rfl,by omega,fun j h=>by omega⟩
 ·rintro kl n _ ⟨rfl,hn,hj⟩ ih
  conv=>lhs;whnf
  have hw8:IntKind.i64.wrap (8*(n:Int))=8*(n:Int):=aI (by omega)
  apply hW.b<;>intro g0<;>conv=>lhs;whnf
  ·have g0:n<6:=by
    have:(n:Int)<6:=by simpa using g0
    omega
   repeat((first|apply hW.t|apply hW.f|(apply hW.q;exact rqc));conv=>lhs;whnf)
   rw[hw8]
   repeat((first|apply hW.t|apply hW.f|(apply hW.q;exact rqc));conv=>lhs;whnf)
   apply hW.b<;>intro g1<;>conv=>lhs;whnf
   ·have hs:1≤s:=by
     rcases Int.lt_or_le s 1 with hs|hs
     ·exact absurd (of_decide_eq_true g1) (aNd hs _)
     ·exact hs
    have g2:1<s.toNat/256 ^ n:=by
     obtain⟨m,rfl⟩:∃ m:Nat,s=m:=⟨s.toNat,by omega⟩
     rw[← hw8,aGw hn]at g1
     rw[show((m:Int).toNat)=m from by omega]
     generalize m/256 ^ n=t at g1
     simp at g1;omega
    repeat((first|apply hW.t|apply hW.f|(apply hW.q;exact rqc));conv=>lhs;whnf)
    refine ih (n+1) (n+1) _ ?_ ⟨rfl,by omega,fun j h=>?_⟩ (by omega)
    ·intro K
     conv=>lhs;whnf
     conv=>rhs;whnf
     try rfl
     rw[show IntKind.i64.wrap ((n:Int)+1)=_ from aL (by omega)]
     try rfl
    ·rcases Nat.lt_or_ge j n with h1|h1
     ·exact hj j h1
     ·have:j=n:=by omega
      subst this
      exact⟨g2,hs⟩
   ·have hx:n=6∨¬ 1<s.toNat/256 ^ n∨s<1:=by
     right
     rcases Int.lt_or_le s 1 with hs|hs
     ·exact .inr hs
     ·left
      obtain⟨m,rfl⟩:∃ m:Nat,s=m:=⟨s.toNat,by omega⟩
      rw[← hw8,aGw hn]at g1
      rw[show((m:Int).toNat)=m from by omega]
      generalize m/256 ^ n=t at g1
      simp at g1;omega
    repeat((first|apply hW.t|apply hW.f|(apply hW.q;exact rqc));conv=>lhs;whnf)
    apply hW.b<;>intro gs<;>conv=>lhs;whnf
    ·have gs:s<1:=by simpa using gs
     rw[(neg gs).1,(neg gs).2]
     repeat((first|apply hW.t|apply hW.f|(apply hW.q;exact rqc));conv=>lhs;whnf)
     rfl
    ·have gs:¬ s<1:=by simpa using gs
     obtain⟨m,rfl⟩:∃ m:Nat,s=m:=⟨s.toNat,by omega⟩
     rw[show((m:Int).toNat)=m from by omega]at hj hx
     have hx':n=6∨m/256 ^ n≤1:=by
      rcases hx with hx|hx
      ·exact .inl hx
      ·right
       generalize m/256 ^ n=t at hx
       omega
     repeat((first|apply hW.t|apply hW.f|(apply hW.q;exact rqc));conv=>lhs;whnf)
     rw[hw8]
     repeat((first|apply hW.t|apply hW.f|(apply hW.q;exact rqc));conv=>lhs;whnf)
     rw[← hw8,aGw hn]
     apply hW.b<;>intro gt<;>conv=>lhs;whnf
     ·have gt:m/256 ^ n≠1:=by
       intro e;rw[e]at gt;simp at gt
      have hb:=tP (m:=m) (by omega) hn (fun j h=>(hj j h).1) gt hx'
      rw[show bO m=[] from by unfold bO;rw[hb];rfl,show bQ m=false from by unfold bQ;rw[hb];rfl]
      repeat((first|apply hW.t|apply hW.f|(apply hW.q;exact rqc));conv=>lhs;whnf)
      rfl
     ·have gt:m/256 ^ n=1:=by
       generalize m/256 ^ n=t at gt
       simp at gt;omega
      have hb:=wU (m:=m) hn (fun j h=>(hj j h).1) gt
      rw[show bO m=yB m n from by unfold bO;rw[hb];rfl,show bQ m=true from by unfold bQ;rw[hb];rfl]
      have hdl:=aFo m n
      repeat((first|apply hW.t|apply hW.f|(apply hW.q;exact rqc));conv=>lhs;whnf)
      refine hW.q (by exact⟨by omega, .inl rfl,by omega,by omega,by omega,by decide,rfl⟩) ?_
      conv=>lhs;whnf
      repeat((first|apply hW.t|apply hW.f|(apply hW.q;exact rqc));conv=>lhs;whnf)
      rw[show((n:Int).toNat)=n from by omega]
      refine hW.loop (σ:=Nat) (γ:=Nat) (fun i s=>(s.sl 31 (v1 (.t (.int .i64 i)))).bl ⟨2800,1, .own,((yB m n).take i).map wI++List.replicate ((yB m n).length-i) [.int .u8 0]⟩) (fun i k=>i=k∧k≤n) (fun k=>n-k) (fun _=>([ov 1 (bys (yB m n)),bv true],[])) 0 0 ?_ ?_ ?_ ?_
      ·intro K
       conv=>lhs;whnf
       conv=>rhs;whnf
       try rfl
       simp[hdl]
      ·exact⟨rfl,by omega⟩
      ·rintro kl i _ ⟨rfl,hi⟩ ih
       conv=>lhs;whnf
       apply hW.b<;>intro g5<;>conv=>lhs;whnf
       ·have g5:i<n:=by
         have:=g5
         simp[hdl]at this
         omega
        have g5':i<(yB m n).length:=by omega
        repeat((first|apply hW.t|apply hW.f|(apply hW.q;exact rqc));conv=>lhs;whnf)
        rw[show IntKind.i64.wrap (IntKind.i64.wrap ((n:Int)-1)-(i:Int))=((n-1-i:Nat):Int) from by rw[show IntKind.i64.wrap ((n:Int)-1)=(n:Int)-1 from aI (by omega)];exact(aI (by omega)).trans (by omega)]
        have hw9:IntKind.i64.wrap (8*((n-1-i:Nat):Int))=8*((n-1-i:Nat):Int):=aI (by omega)
        rw[hw9]
        repeat((first|apply hW.t|apply hW.f|(apply hW.q;exact rqc));conv=>lhs;whnf)
        rw[← hw9,aGw (show n-1-i≤6 by omega)]
        apply hW.w (uV g5' _)
        conv=>lhs;whnf
        repeat((first|apply hW.t|apply hW.f|(apply hW.q;exact rqc));conv=>lhs;whnf)
        apply hW.w (uV g5' _)
        conv=>lhs;whnf
        repeat((first|apply hW.t|apply hW.f|(apply hW.q;exact rqc));conv=>lhs;whnf)
        refine ih (i+1) (i+1) _ ?_ ⟨rfl,by omega⟩ (by omega)
        intro K
        conv=>lhs;whnf
        conv=>rhs;whnf
        try rfl
        rw[show IntKind.i64.wrap ((i:Int)+1)=_ from aL (by omega)]
        refine congrArg K (congrArg (St.mk _) (congrArg (fun x=>[Blk.mk 2800 1 .own x]) ?_))
        rw[← aFg wI g5' [.int .u8 0]]
        refine congrArg (List.set _ _) ?_
        simp[yB,wI,gT,splice]
       ·have g5:¬ i<n:=by
         have:=g5
         simp[hdl]at this
         omega
        have:i=n:=by omega
        subst this
        rw[List.take_of_length_le (show(yB m i).length≤i by omega),hdl,Nat.sub_self]
        simp only[List.replicate_zero,List.append_nil]
        repeat((first|apply hW.t|apply hW.f|(apply hW.q;exact rqc));conv=>lhs;whnf)
        rfl
      ·rfl
  ·have g6:¬ (n:Int)<6:=by simpa using g0
   have hx:n=6∨¬ 1<s.toNat/256 ^ n∨s<1 := .inl (by omega)
   repeat((first|apply hW.t|apply hW.f|(apply hW.q;exact rqc));conv=>lhs;whnf)
   apply hW.b<;>intro gs<;>conv=>lhs;whnf
   ·have gs:s<1:=by simpa using gs
    rw[(neg gs).1,(neg gs).2]
    repeat((first|apply hW.t|apply hW.f|(apply hW.q;exact rqc));conv=>lhs;whnf)
    rfl
   ·have gs:¬ s<1:=by simpa using gs
    obtain⟨m,rfl⟩:∃ m:Nat,s=m:=⟨s.toNat,by omega⟩
    rw[show((m:Int).toNat)=m from by omega]at hj hx
    have hx':n=6∨m/256 ^ n≤1:=by
     rcases hx with hx|hx
     ·exact .inl hx
     ·right
      generalize m/256 ^ n=t at hx
      omega
    repeat((first|apply hW.t|apply hW.f|(apply hW.q;exact rqc));conv=>lhs;whnf)
    rw[hw8]
    repeat((first|apply hW.t|apply hW.f|(apply hW.q;exact rqc));conv=>lhs;whnf)
    rw[← hw8,aGw hn]
    apply hW.b<;>intro gt<;>conv=>lhs;whnf
    ·have gt:m/256 ^ n≠1:=by
      intro e;rw[e]at gt;simp at gt
     have hb:=tP (m:=m) (by omega) hn (fun j h=>(hj j h).1) gt hx'
     rw[show bO m=[] from by unfold bO;rw[hb];rfl,show bQ m=false from by unfold bQ;rw[hb];rfl]
     repeat((first|apply hW.t|apply hW.f|(apply hW.q;exact rqc));conv=>lhs;whnf)
     rfl
    ·have gt:m/256 ^ n=1:=by
      generalize m/256 ^ n=t at gt
      simp at gt;omega
     have hb:=wU (m:=m) hn (fun j h=>(hj j h).1) gt
     rw[show bO m=yB m n from by unfold bO;rw[hb];rfl,show bQ m=true from by unfold bQ;rw[hb];rfl]
     have hdl:=aFo m n
     repeat((first|apply hW.t|apply hW.f|(apply hW.q;exact rqc));conv=>lhs;whnf)
     refine hW.q (by exact⟨by omega, .inl rfl,by omega,by omega,by omega,by decide,rfl⟩) ?_
     conv=>lhs;whnf
     repeat((first|apply hW.t|apply hW.f|(apply hW.q;exact rqc));conv=>lhs;whnf)
     rw[show((n:Int).toNat)=n from by omega]
     refine hW.loop (σ:=Nat) (γ:=Nat) (fun i s=>(s.sl 31 (v1 (.t (.int .i64 i)))).bl ⟨2800,1, .own,((yB m n).take i).map wI++List.replicate ((yB m n).length-i) [.int .u8 0]⟩) (fun i k=>i=k∧k≤n) (fun k=>n-k) (fun _=>([ov 1 (bys (yB m n)),bv true],[])) 0 0 ?_ ?_ ?_ ?_
     ·intro K
      conv=>lhs;whnf
      conv=>rhs;whnf
      try rfl
      simp[hdl]
     ·exact⟨rfl,by omega⟩
     ·rintro kl i _ ⟨rfl,hi⟩ ih
      conv=>lhs;whnf
      apply hW.b<;>intro g5<;>conv=>lhs;whnf
      ·have g5:i<n:=by
        have:=g5
        simp[hdl]at this
        omega
       have g5':i<(yB m n).length:=by omega
       repeat((first|apply hW.t|apply hW.f|(apply hW.q;exact rqc));conv=>lhs;whnf)
       rw[show IntKind.i64.wrap (IntKind.i64.wrap ((n:Int)-1)-(i:Int))=((n-1-i:Nat):Int) from by rw[show IntKind.i64.wrap ((n:Int)-1)=(n:Int)-1 from aI (by omega)];exact(aI (by omega)).trans (by omega)]
       have hw9:IntKind.i64.wrap (8*((n-1-i:Nat):Int))=8*((n-1-i:Nat):Int):=aI (by omega)
       rw[hw9]
       repeat((first|apply hW.t|apply hW.f|(apply hW.q;exact rqc));conv=>lhs;whnf)
       rw[← hw9,aGw (show n-1-i≤6 by omega)]
       apply hW.w (uV g5' _)
       conv=>lhs;whnf
       repeat((first|apply hW.t|apply hW.f|(apply hW.q;exact rqc));conv=>lhs;whnf)
       apply hW.w (uV g5' _)
       conv=>lhs;whnf
       repeat((first|apply hW.t|apply hW.f|(apply hW.q;exact rqc));conv=>lhs;whnf)
       refine ih (i+1) (i+1) _ ?_ ⟨rfl,by omega⟩ (by omega)
       intro K
       conv=>lhs;whnf
       conv=>rhs;whnf
       try rfl
       rw[show IntKind.i64.wrap ((i:Int)+1)=_ from aL (by omega)]
       refine congrArg K (congrArg (St.mk _) (congrArg (fun x=>[Blk.mk 2800 1 .own x]) ?_))
       rw[← aFg wI g5' [.int .u8 0]]
       refine congrArg (List.set _ _) ?_
       simp[yB,wI,gT,splice]
      ·have g5:¬ i<n:=by
        have:=g5
        simp[hdl]at this
        omega
       have:i=n:=by omega
       subst this
       rw[List.take_of_length_le (show(yB m i).length≤i by omega),hdl,Nat.sub_self]
       simp only[List.replicate_zero,List.append_nil]
       repeat((first|apply hW.t|apply hW.f|(apply hW.q;exact rqc));conv=>lhs;whnf)
       rfl
     ·rfl
 ·rfl
theorem aBl {E:Env} (hE:Sys E) (t:Tree) (k:Int) (ht:t.lim 1048576):E 146 [gv (t.cs aN),iv k]=some ([bv (bK k 0 (t.up.length-1))],[]):=by
 have hl:t.up.length≤1048576:=ht
 have hrl:(cG t.up).length=t.up.length:=List.length_map _
 have hw:IntKind.i64.wrap ((t.up.length:Int)-1)=t.up.length-1:=aI (by omega)
 refine hE.run rfl rfl fun W hW=>?_
 conv=>lhs;whnf
 rw[hrl,hw]
 apply hW.w (bL hE k 0 (t.up.length-1))
 conv=>lhs;whnf
 repeat((first|apply hW.t|apply hW.f|(apply hW.q;exact rqc));conv=>lhs;whnf)
 rfl
theorem aNe:∀ {k s:Nat} {acc b:aD},dig k s acc=some b→jR b 1=jR acc s:=by
 intro k
 induction k with
 |zero=>intro s acc b h;simp only[dig]at h;split at h;(rename_i h1;cases h;rw[h1]);cases h
 |succ k ih =>
  intro s acc b h
  simp only[dig]at h
  split at h
  ·rename_i h1;cases h;rw[h1]
  ·split at h
   ·cases h
   ·rw[ih h,jR]
    congr 1
    have:(dX (s:Int)).toNat=s%256:=by
     unfold dX
     rw[UInt8.toNat_ofNat']
     omega
    omega
theorem aIK {s:Int} (h:bQ s=true):((jR (bO s) 1:Nat):Int)=s:=by
 unfold bQ at h
 unfold bO
 cases hb:dJ s with
 |none=>rw[hb]at h;cases h
 |some b =>
  unfold dJ at hb
  split at hb
  ·rename_i hr
   have hr:=bU hr
   have:=aNe hb
   simp only[jR]at this
   simp only[Option.getD_some]
   omega
  ·cases hb
theorem wV {x:Sum} (h:bQ x.s=true):decide (bF (bO x.s)=x)=decide (aZ (bO x.s)=x.w):=by
 have hl:=fU x.s
 have hs:=aIK h
 unfold bF
 rw[if_neg (by omega),hs]
 obtain⟨w,s⟩:=x
 simp
def zA (m:Man) (i:Nat) (x:Sum):Bool:=bQ x.s&&(decide (((bO x.s).length:Int)=bA m.size m.len i)&&decide (bF (bO x.s)=x))
def aDe (m:Man):Nat→List Sum→Bool
 |_,[]=>true
 |i,x::r=>zA m i x&&aDe m (i+1) r
def cC (m:Man):Bool:=decide (m.gen=0)&&(decide (m.size=0)&&(decide (m.len=0)&&decide (m.sums=[])))
def aV (m:Man):Bool:=if m.gen=0 then cC m else bK m.gen 1 1000000&&(cN m.size m.len&&(decide ((m.sums.length:Int)=bH m.size m.len)&&aDe m 0 m.sums))
theorem dR {E:Env} (hE:Sys E) (m:Man) (hm:m.sums.length≤1048576):E 307 [gv (m.cs aN)]=some ([bv (aV m)],[]):=by
 have hrl:(m.sums.map Sum.row).length=m.sums.length:=List.length_map _
 have a1:=bJ hE m.gen 1 1000000
 have a2:=kO hE m.size m.len
 have a3:=fD hE m.size m.len
 by_cases h0:m.gen=0
 ·have e:aV m=cC m:=by unfold aV;rw[if_pos h0]
  rw[e]
  refine hE.run rfl rfl fun W hW=>?_
  conv=>lhs;whnf
  apply hW.bt (by simpa using h0)
  conv=>lhs;whnf
  repeat'((first|apply hW.t|apply hW.f|(apply hW.q;exact rqc)|(apply hW.b<;>intro h))<;>conv=>lhs;whnf)
  all_goals(refine congrArg (fun b=>(some ([bv b],[]):Option Res)) ?_;first|rfl|(simp_all [cC];done)|(simp_all [cC]<;>(intros;omega)))
 ·have e:aV m=(bK m.gen 1 1000000&&(cN m.size m.len&&(decide ((m.sums.length:Int)=bH m.size m.len)&&aDe m 0 m.sums))):=by unfold aV;rw[if_neg h0]
  rw[e]
  cases h1:bK m.gen 1 1000000
  ·rw[h1]at a1
   refine hE.run rfl rfl fun W hW=>?_
   conv=>lhs;whnf
   apply hW.bf (by simpa using h0)
   conv=>lhs;whnf
   repeat'((first|apply hW.t|apply hW.f|(apply hW.q;exact rqc)|apply hW.w (a1)|(apply hW.b<;>intro h))<;>conv=>lhs;whnf)
   rfl
  ·rw[h1]at a1
   cases h2:cN m.size m.len
   ·rw[h2]at a2
    refine hE.run rfl rfl fun W hW=>?_
    conv=>lhs;whnf
    apply hW.bf (by simpa using h0)
    conv=>lhs;whnf
    repeat'((first|apply hW.t|apply hW.f|(apply hW.q;exact rqc)|apply hW.w (a1)|apply hW.w (a2)|(apply hW.b<;>intro h))<;>conv=>lhs;whnf)
    rfl
   ·rw[h2]at a2
    by_cases h3:(m.sums.length:Int)=bH m.size m.len
    ·rw[decide_eq_true h3]
     simp only[Bool.true_and]
     refine hE.run rfl rfl fun W hW=>?_
     conv=>lhs;whnf
     apply hW.bf (by simpa using h0)
     conv=>lhs;whnf
     repeat'((first|apply hW.t|apply hW.f|(apply hW.q;exact rqc)|apply hW.w (a1)|apply hW.w (a2)|(apply hW.b<;>intro h))<;>conv=>lhs;whnf)
     rw[hrl]
     apply hW.w (a3)
     conv=>lhs;whnf
     repeat((first|apply hW.t|apply hW.f|(apply hW.q;exact rqc));conv=>lhs;whnf)
     apply hW.bf (by simp[h3])
     conv=>lhs;whnf
     repeat((first|apply hW.t|apply hW.f|(apply hW.q;exact rqc));conv=>lhs;whnf)
     skip
     refine hW.loop (σ:=Nat) (γ:=Nat) (fun i s=>s.sl 3 (v1 (.t (.int .i64 i)))) (fun i k=>i=k∧k≤m.sums.length) (fun k=>m.sums.length-k) (fun k=>([bv (aDe m k (m.sums.drop k))],[])) 0 0 ?_ ?_ ?_ ?_
     ·intro K
      conv=>lhs;whnf
      conv=>rhs;whnf
      try rfl
     ·exact⟨rfl,by omega⟩
     ·rintro kl n _ ⟨rfl,hn⟩ ih
      conv=>lhs;whnf
      apply hW.b<;>intro g1<;>conv=>lhs;whnf
      ·have g1:n<m.sums.length:=by simpa using g1
       have hbl:=fU m.sums[n].s
       rw[List.drop_eq_getElem_cons g1,aDe,zA]
       repeat((first|apply hW.t|apply hW.f|(apply hW.q;exact rqc)|(refine hW.w (eR ?_) ?_;omega));conv=>lhs;whnf)
       apply hW.w (jA hE m.sums[n].s)
       conv=>lhs;whnf
       repeat((first|apply hW.t|apply hW.f|(apply hW.q;exact rqc));conv=>lhs;whnf)
       apply hW.w (fF hE m.size m.len n)
       conv=>lhs;whnf
       repeat((first|apply hW.t|apply hW.f|(apply hW.q;exact rqc));conv=>lhs;whnf)
       apply hW.b<;>intro g2<;>conv=>lhs;whnf
       ·rw[uD g2]
        repeat((first|apply hW.t|apply hW.f|(apply hW.q;exact rqc));conv=>lhs;whnf)
        rfl
       ·have g2:=mH g2
        rw[g2]
        repeat((first|apply hW.t|apply hW.f|(apply hW.q;exact rqc));conv=>lhs;whnf)
        rw[aY]
        apply hW.b<;>intro g3<;>conv=>lhs;whnf
        ·rw[decide_eq_false (show ¬ ((bO m.sums[n].s).length:Int)=bA m.size m.len n from by simpa using g3)]
         repeat((first|apply hW.t|apply hW.f|(apply hW.q;exact rqc));conv=>lhs;whnf)
         rfl
        ·rw[decide_eq_true (show((bO m.sums[n].s).length:Int)=bA m.size m.len n from by simpa using g3)]
         repeat((first|apply hW.t|apply hW.f|(apply hW.q;exact rqc)|(refine hW.w (eR ?_) ?_;omega));conv=>lhs;whnf)
         apply hW.w (eM hE (bO m.sums[n].s) (by omega))
         conv=>lhs;whnf
         repeat((first|apply hW.t|apply hW.f|(apply hW.q;exact rqc));conv=>lhs;whnf)
         apply hW.b<;>intro g4<;>conv=>lhs;whnf
         ·have g4:¬ bF (bO m.sums[n].s)=m.sums[n]:=by
           intro e;rw[e]at g4;simp at g4
          rw[decide_eq_false g4]
          repeat((first|apply hW.t|apply hW.f|(apply hW.q;exact rqc));conv=>lhs;whnf)
          rfl
         ·have g4:bF (bO m.sums[n].s)=m.sums[n]:=by
           revert g4
           generalize bF (bO m.sums[n].s)=x
           generalize m.sums[n]=y
           cases x;cases y
           simp
          rw[decide_eq_true g4]
          simp only[Bool.true_and]
          repeat((first|apply hW.t|apply hW.f|(apply hW.q;exact rqc));conv=>lhs;whnf)
          refine ih (n+1) (n+1) _ ?_ ⟨rfl,by omega⟩ (by omega)
          intro K
          conv=>lhs;whnf
          conv=>rhs;whnf
          try rfl
          rw[show IntKind.i64.wrap ((n:Int)+1)=_ from aL (by omega)]
          try rfl
      ·have:n=m.sums.length:=by simp at g1;omega
       rw[this,List.drop_length];rfl
     ·rfl
    ·rw[decide_eq_false h3]
     refine hE.run rfl rfl fun W hW=>?_
     conv=>lhs;whnf
     apply hW.bf (by simpa using h0)
     conv=>lhs;whnf
     repeat'((first|apply hW.t|apply hW.f|(apply hW.q;exact rqc)|apply hW.w (a1)|apply hW.w (a2)|(apply hW.b<;>intro h))<;>conv=>lhs;whnf)
     rw[hrl]
     apply hW.w (a3)
     conv=>lhs;whnf
     repeat((first|apply hW.t|apply hW.f|(apply hW.q;exact rqc));conv=>lhs;whnf)
     apply hW.bt (by simp[h3])
     conv=>lhs;whnf
     repeat((first|apply hW.t|apply hW.f|(apply hW.q;exact rqc));conv=>lhs;whnf)
     rfl
theorem lC {E:Env} (hE:Sys E) (m:Man):E 318 [gv (m.cs aN)]=some ([bv (cC m)],[]):=by
 refine hE.run rfl rfl fun W hW=>?_
 conv=>lhs;whnf
 repeat'((first|apply hW.t|apply hW.f|(apply hW.q;exact rqc)|(apply hW.b<;>intro h))<;>conv=>lhs;whnf)
 all_goals(refine congrArg (fun b=>(some ([bv b],[]):Option Res)) ?_;first|rfl|(simp_all [cC];done)|(simp_all [cC]<;>(intros;omega)))
theorem dS {E:Env} (hE:Sys E) (m:Man) (hm:m.sums.length≤1048576):E 316 [gv (m.cs aN)]=some ([bv (aV m)],[]):=by
 have hrl:(m.sums.map Sum.row).length=m.sums.length:=List.length_map _
 have a1:=bL hE m.gen 1 1000000
 have a2:=qQ hE m.size m.len
 have a3:=fE hE m.size m.len
 have a0:=lC hE m
 cases h0:cC m
 ·rw[h0]at a0
  by_cases hg:m.gen=0
  ·have e:aV m=false:=by unfold aV;rw[if_pos hg,h0]
   rw[show bK m.gen 1 1000000=false from by simp[bK];omega]at a1
   rw[e]
   refine hE.run rfl rfl fun W hW=>?_
   conv=>lhs;whnf
   repeat'((first|apply hW.t|apply hW.f|(apply hW.q;exact rqc)|apply hW.w (a0)|apply hW.w (a1)|(apply hW.b<;>intro h))<;>conv=>lhs;whnf)
   rfl
  ·have e:aV m=(bK m.gen 1 1000000&&(cN m.size m.len&&(decide ((m.sums.length:Int)=bH m.size m.len)&&aDe m 0 m.sums))):=by unfold aV;rw[if_neg hg]
   rw[e]
   cases h1:bK m.gen 1 1000000
   ·rw[h1]at a1
    refine hE.run rfl rfl fun W hW=>?_
    conv=>lhs;whnf
    repeat'((first|apply hW.t|apply hW.f|(apply hW.q;exact rqc)|apply hW.w (a0)|apply hW.w (a1)|(apply hW.b<;>intro h))<;>conv=>lhs;whnf)
    rfl
   ·rw[h1]at a1
    cases h2:cN m.size m.len
    ·rw[h2]at a2
     refine hE.run rfl rfl fun W hW=>?_
     conv=>lhs;whnf
     repeat'((first|apply hW.t|apply hW.f|(apply hW.q;exact rqc)|apply hW.w (a0)|apply hW.w (a1)|apply hW.w (a2)|(apply hW.b<;>intro h))<;>conv=>lhs;whnf)
     rfl
    ·rw[h2]at a2
     by_cases h3:(m.sums.length:Int)=bH m.size m.len
     ·rw[decide_eq_true h3]
      simp only[Bool.true_and]
      refine hE.run rfl rfl fun W hW=>?_
      conv=>lhs;whnf
      repeat'((first|apply hW.t|apply hW.f|(apply hW.q;exact rqc)|apply hW.w (a0)|apply hW.w (a1)|apply hW.w (a2)|(apply hW.b<;>intro h))<;>conv=>lhs;whnf)
      rw[hrl]
      apply hW.w (a3)
      conv=>lhs;whnf
      repeat((first|apply hW.t|apply hW.f|(apply hW.q;exact rqc));conv=>lhs;whnf)
      apply hW.bf (by simp[h3])
      conv=>lhs;whnf
      repeat((first|apply hW.t|apply hW.f|(apply hW.q;exact rqc));conv=>lhs;whnf)
      rw[hrl]
      refine hW.loop (σ:=Nat) (γ:=Nat) (fun i s=>s.sl 37 (v1 (.t (.int .i64 i)))) (fun i k=>i=k∧k≤m.sums.length) (fun k=>m.sums.length-k) (fun k=>([bv (aDe m k (m.sums.drop k))],[])) 0 0 ?_ ?_ ?_ ?_
      ·intro K
       conv=>lhs;whnf
       conv=>rhs;whnf
       try rfl
      ·exact⟨rfl,by omega⟩
      ·rintro kl n _ ⟨rfl,hn⟩ ih
       conv=>lhs;whnf
       apply hW.b<;>intro g1<;>conv=>lhs;whnf
       ·have g1:n<m.sums.length:=by simpa using g1
        have hbl:=fU m.sums[n].s
        rw[List.drop_eq_getElem_cons g1,aDe,zA]
        repeat((first|apply hW.t|apply hW.f|(apply hW.q;exact rqc)|(refine hW.w (eR ?_) ?_;omega));conv=>lhs;whnf)
        apply hW.w (jB hE m.sums[n].s)
        conv=>lhs;whnf
        repeat((first|apply hW.t|apply hW.f|(apply hW.q;exact rqc));conv=>lhs;whnf)
        apply hW.w (fG hE m.size m.len n)
        conv=>lhs;whnf
        repeat((first|apply hW.t|apply hW.f|(apply hW.q;exact rqc));conv=>lhs;whnf)
        apply hW.b<;>intro g2<;>conv=>lhs;whnf
        ·rw[uD g2]
         repeat((first|apply hW.t|apply hW.f|(apply hW.q;exact rqc));conv=>lhs;whnf)
         rfl
        ·have g2:=mH g2
         rw[g2]
         repeat((first|apply hW.t|apply hW.f|(apply hW.q;exact rqc));conv=>lhs;whnf)
         rw[aY]
         apply hW.b<;>intro g3<;>conv=>lhs;whnf
         ·rw[decide_eq_false (show ¬ ((bO m.sums[n].s).length:Int)=bA m.size m.len n from by simpa using g3)]
          repeat((first|apply hW.t|apply hW.f|(apply hW.q;exact rqc));conv=>lhs;whnf)
          rfl
         ·rw[decide_eq_true (show((bO m.sums[n].s).length:Int)=bA m.size m.len n from by simpa using g3)]
          repeat((first|apply hW.t|apply hW.f|(apply hW.q;exact rqc)|(refine hW.w (eR ?_) ?_;omega));conv=>lhs;whnf)
          apply hW.w (dZ hE (bO m.sums[n].s) (by omega))
          conv=>lhs;whnf
          repeat((first|apply hW.t|apply hW.f|(apply hW.q;exact rqc));conv=>lhs;whnf)
          apply hW.b<;>intro g4<;>conv=>lhs;whnf
          ·have g4:¬ bF (bO m.sums[n].s)=m.sums[n]:=by
            intro e
            have:=wV (x:=m.sums[n]) g2
            rw[decide_eq_true e]at this
            have:=of_decide_eq_true this.symm
            rw[this]at g4
            simp at g4
           rw[decide_eq_false g4]
           repeat((first|apply hW.t|apply hW.f|(apply hW.q;exact rqc));conv=>lhs;whnf)
           rfl
          ·have g4:bF (bO m.sums[n].s)=m.sums[n]:=by
            have h5:aZ (bO m.sums[n].s)=m.sums[n].w:=by simpa using g4
            have:=wV (x:=m.sums[n]) g2
            rw[decide_eq_true h5]at this
            exact of_decide_eq_true this
           rw[decide_eq_true g4]
           simp only[Bool.true_and]
           repeat((first|apply hW.t|apply hW.f|(apply hW.q;exact rqc));conv=>lhs;whnf)
           refine ih (n+1) (n+1) _ ?_ ⟨rfl,by omega⟩ (by omega)
           intro K
           conv=>lhs;whnf
           conv=>rhs;whnf
           try rfl
           rw[show IntKind.i64.wrap ((n:Int)+1)=_ from aL (by omega)]
           try rfl
       ·have:n=m.sums.length:=by simp at g1;omega
        rw[this,List.drop_length];rfl
      ·rfl
     ·rw[decide_eq_false h3]
      refine hE.run rfl rfl fun W hW=>?_
      conv=>lhs;whnf
      repeat'((first|apply hW.t|apply hW.f|(apply hW.q;exact rqc)|apply hW.w (a0)|apply hW.w (a1)|apply hW.w (a2)|(apply hW.b<;>intro h))<;>conv=>lhs;whnf)
      rw[hrl]
      apply hW.w (a3)
      conv=>lhs;whnf
      repeat((first|apply hW.t|apply hW.f|(apply hW.q;exact rqc));conv=>lhs;whnf)
      apply hW.bt (by simp[h3])
      conv=>lhs;whnf
      repeat((first|apply hW.t|apply hW.f|(apply hW.q;exact rqc));conv=>lhs;whnf)
      rfl
 ·have e:aV m=true:=by
   unfold aV
   rw[if_pos (by simp[cC]at h0;exact h0.1),h0]
  rw[h0]at a0
  rw[e]
  refine hE.run rfl rfl fun W hW=>?_
  conv=>lhs;whnf
  repeat'((first|apply hW.t|apply hW.f|(apply hW.q;exact rqc)|apply hW.w (a0)|(apply hW.b<;>intro h))<;>conv=>lhs;whnf)
  rfl
def qT:Nat→Nat→aD
 |0,n=>[dX (n:Int)]
 |k+1,n=>if n<128 then[dX (n:Int)] else dX ((n%128+128:Nat):Int)::qT k (n/128)
def sE (n:Nat):aD:=qT 8 n
theorem aK8:∀ {k n:Nat},(qT k n).length≤k+1:=by
 intro k
 induction k with
 |zero=>intro n;simp[qT]
 |succ k ih =>
  intro n
  simp only[qT]
  split
  ·simp
  ·have:=ih (n:=n/128);simp only[List.length_cons];omega
theorem aOw:∀ x:Nat,x<256→x ||| 128=x%128+128:=by decide +kernel
theorem aL7 {n:Nat} (h:n<9223372036854775808):IntKind.u8.wrap (IntKind.i64.wrap (BitVec.ofInt IntKind.i64.bits (IntKind.i64.wrap (BitVec.ofInt IntKind.i64.bits (n:Int) &&& BitVec.ofInt IntKind.i64.bits 127).toNat) ||| BitVec.ofInt IntKind.i64.bits 128).toNat)=IntKind.u8.wrap ((n%128+128:Nat):Int):=by
 have e1:(BitVec.ofInt IntKind.i64.bits (n:Int) &&& BitVec.ofInt IntKind.i64.bits 127).toNat=n%128:=by
  rw[BitVec.toNat_and,BitVec.ofInt_natCast,show BitVec.ofInt IntKind.i64.bits 127=BitVec.ofNat IntKind.i64.bits 127 from rfl,BitVec.toNat_ofNat,BitVec.toNat_ofNat]
  rw[Nat.mod_eq_of_lt (show n<2 ^ IntKind.i64.bits from by simp only[IntKind.bits];omega),Nat.mod_eq_of_lt (show 127<2 ^ IntKind.i64.bits from by decide)]
  exact Nat.and_two_pow_sub_one_eq_mod n 7
 rw[e1,show IntKind.i64.wrap ((n%128:Nat):Int)=((n%128:Nat):Int) from aI (by omega)]
 have e2:(BitVec.ofInt IntKind.i64.bits ((n%128:Nat):Int) ||| BitVec.ofInt IntKind.i64.bits 128).toNat=n%128+128:=by
  rw[BitVec.toNat_or,BitVec.ofInt_natCast,show BitVec.ofInt IntKind.i64.bits 128=BitVec.ofNat IntKind.i64.bits 128 from rfl,BitVec.toNat_ofNat,BitVec.toNat_ofNat]
  rw[Nat.mod_eq_of_lt (show n%128<2 ^ IntKind.i64.bits from by simp only[IntKind.bits];omega),Nat.mod_eq_of_lt (show 128<2 ^ IntKind.i64.bits from by decide)]
  rw[aOw _ (by omega)];omega
 rw[e2,show IntKind.i64.wrap ((n%128+128:Nat):Int)=((n%128+128:Nat):Int) from aI (by omega)]
theorem aOx {n:Nat}:IntKind.u8.wrap (BitVec.ofInt IntKind.u8.bits (IntKind.u8.wrap (n:Int)) ||| BitVec.ofInt IntKind.u8.bits 128).toNat=IntKind.u8.wrap ((n%128+128:Nat):Int):=by
 have e0:IntKind.u8.wrap (n:Int)=((n%256:Nat):Int):=by
  rw[← gT];unfold dX;rw[UInt8.toNat_ofNat'];omega
 rw[e0]
 have e2:(BitVec.ofInt IntKind.u8.bits ((n%256:Nat):Int) ||| BitVec.ofInt IntKind.u8.bits 128).toNat=n%128+128:=by
  rw[BitVec.toNat_or,BitVec.ofInt_natCast,show BitVec.ofInt IntKind.u8.bits 128=BitVec.ofNat IntKind.u8.bits 128 from rfl,BitVec.toNat_ofNat,BitVec.toNat_ofNat]
  rw[Nat.mod_eq_of_lt (show n%256<2 ^ IntKind.u8.bits from by simp only[IntKind.bits];omega),Nat.mod_eq_of_lt (show 128<2 ^ IntKind.u8.bits from by decide)]
  rw[aOw _ (by omega)];omega
 rw[e2]
theorem aPF {n:Nat}:((n:Int).fdiv (2 ^ (min (7:Int).toNat IntKind.i64.bits)))=((n/128:Nat):Int):=by
 rw[show(2:Int) ^ (min (7:Int).toNat IntKind.i64.bits)=128 from by decide,Int.fdiv_eq_ediv_of_nonneg _ (by decide)]
 omega
def iP (m:Msg) (man want part:Bool):Bool:=(man||cC m.man)&&((want||(decide (m.want=0)&&decide (m.done=0)))&&(part||(decide (m.i=0)&&decide (m.b=[]))))
theorem gY {E:Env} (hE:Sys E) (m:Msg) (x y z:Bool):E 317 [gv (m.cs aN),bv x,bv y,bv z]=some ([bv (iP m x y z)],[]):=by
 have a:=lC hE m.man
 unfold iP
 cases x<;>cases y<;>cases z
 ·refine hE.run rfl rfl fun W hW=>?_
  conv=>lhs;whnf
  repeat'((first|apply hW.t|apply hW.f|(apply hW.q;exact rqc)|apply hW.w (a)|(apply hW.b<;>intro h))<;>conv=>lhs;whnf)
  all_goals(refine congrArg (fun b=>(some ([bv b],[]):Option Res)) ?_;first|rfl|(simp_all [aH];done)|(simp_all [aH]<;>(intros;omega)))
 ·refine hE.run rfl rfl fun W hW=>?_
  conv=>lhs;whnf
  repeat'((first|apply hW.t|apply hW.f|(apply hW.q;exact rqc)|apply hW.w (a)|(apply hW.b<;>intro h))<;>conv=>lhs;whnf)
  all_goals(refine congrArg (fun b=>(some ([bv b],[]):Option Res)) ?_;first|rfl|(simp_all [aH];done)|(simp_all [aH]<;>(intros;omega)))
 ·refine hE.run rfl rfl fun W hW=>?_
  conv=>lhs;whnf
  repeat'((first|apply hW.t|apply hW.f|(apply hW.q;exact rqc)|apply hW.w (a)|(apply hW.b<;>intro h))<;>conv=>lhs;whnf)
  all_goals(refine congrArg (fun b=>(some ([bv b],[]):Option Res)) ?_;first|rfl|(simp_all [aH];done)|(simp_all [aH]<;>(intros;omega)))
 ·refine hE.run rfl rfl fun W hW=>?_
  conv=>lhs;whnf
  repeat'((first|apply hW.t|apply hW.f|(apply hW.q;exact rqc)|apply hW.w (a)|(apply hW.b<;>intro h))<;>conv=>lhs;whnf)
  all_goals(refine congrArg (fun b=>(some ([bv b],[]):Option Res)) ?_;first|rfl|(simp_all [aH];done)|(simp_all [aH]<;>(intros;omega)))
 ·refine hE.run rfl rfl fun W hW=>?_
  conv=>lhs;whnf
  repeat'((first|apply hW.t|apply hW.f|(apply hW.q;exact rqc)|apply hW.w (a)|(apply hW.b<;>intro h))<;>conv=>lhs;whnf)
  all_goals(refine congrArg (fun b=>(some ([bv b],[]):Option Res)) ?_;first|rfl|(simp_all [aH];done)|(simp_all [aH]<;>(intros;omega)))
 ·refine hE.run rfl rfl fun W hW=>?_
  conv=>lhs;whnf
  repeat'((first|apply hW.t|apply hW.f|(apply hW.q;exact rqc)|apply hW.w (a)|(apply hW.b<;>intro h))<;>conv=>lhs;whnf)
  all_goals(refine congrArg (fun b=>(some ([bv b],[]):Option Res)) ?_;first|rfl|(simp_all [aH];done)|(simp_all [aH]<;>(intros;omega)))
 ·refine hE.run rfl rfl fun W hW=>?_
  conv=>lhs;whnf
  repeat'((first|apply hW.t|apply hW.f|(apply hW.q;exact rqc)|apply hW.w (a)|(apply hW.b<;>intro h))<;>conv=>lhs;whnf)
  all_goals(refine congrArg (fun b=>(some ([bv b],[]):Option Res)) ?_;first|rfl|(simp_all [aH];done)|(simp_all [aH]<;>(intros;omega)))
 ·refine hE.run rfl rfl fun W hW=>?_
  conv=>lhs;whnf
  repeat'((first|apply hW.t|apply hW.f|(apply hW.q;exact rqc)|apply hW.w (a)|(apply hW.b<;>intro h))<;>conv=>lhs;whnf)
  all_goals(refine congrArg (fun b=>(some ([bv b],[]):Option Res)) ?_;first|rfl|(simp_all [aH];done)|(simp_all [aH]<;>(intros;omega)))
def bY (m:Msg):Bool :=
 if m.kind=1 then decide (m.gen=0)&&(!decide (m.man.gen=0)&&(aV m.man&&iP m true false false))
 else if m.kind=2 then bK m.gen 0 1000000&&(cC m.man&&(bN m.want&&(bN m.done&&(decide (m.i=0)&&decide (m.b=[])))))
 else if m.kind=3 then bK m.gen 1 1000000&&(cC m.man&&(decide (m.want=0)&&(decide (m.done=0)&&(bK m.i 0 39&&bK m.b.length 1 6))))
 else decide (m.kind=4)&&(bK m.gen 0 1000000&&iP m false false false)
theorem qU (m:Man):decide (m=⟨0,0,0,[]⟩)=cC m:=by
 unfold cC
 cases m
 simp[Bool.decide_and]
theorem sF {m:Msg} (h:m.lim 1048576):m.man.sums.length≤1048576:=h.1
theorem aBm {E:Env} (hE:Sys E) (m:Msg) (hm:m.lim 1048576) (k:m.kind=1):E 302 [gv (m.cs aN)]=some ([bv (bY m)],[]):=by
 have a1:=gF hE m.man ⟨0,0,0,[]⟩ (Nat.le_trans (sF hm) (by decide))
 rw[qU]at a1
 have a2:=dR hE m.man (sF hm)
 have e:bY m=(decide (m.gen=0)&&(!decide (m.man.gen=0)&&(aV m.man&&iP m true false false))):=by unfold bY;rw[if_pos k]
 rw[e]
 clear e
 obtain⟨kind,gen,man,want,done,i,b⟩:=m
 have k:kind=1:=k
 subst k
 refine hE.run rfl rfl fun W hW=>?_
 conv=>lhs;whnf
 repeat'((first|apply hW.t|apply hW.f|(apply hW.q;exact rqc)|apply hW.w (a1)|apply hW.w (a2)|(apply hW.b<;>intro h))<;>conv=>lhs;whnf)
 all_goals(refine congrArg (fun b=>(some ([bv b],[]):Option Res)) ?_;first|rfl|(simp_all [iP,aH];done)|(simp_all [iP,aH]<;>(intros;omega)))
theorem aBn {E:Env} (hE:Sys E) (m:Msg) (hm:m.lim 1048576) (k:m.kind=2):E 302 [gv (m.cs aN)]=some ([bv (bY m)],[]):=by
 have a1:=gF hE m.man ⟨0,0,0,[]⟩ (Nat.le_trans (sF hm) (by decide))
 rw[qU]at a1
 have e:bY m=(bK m.gen 0 1000000&&(cC m.man&&(bN m.want&&(bN m.done&&(decide (m.i=0)&&decide (m.b=[])))))):=by unfold bY;rw[if_neg (by omega),if_pos k]
 rw[e]
 clear e
 obtain⟨kind,gen,man,want,done,i,b⟩:=m
 have k:kind=2:=k
 subst k
 refine hE.run rfl rfl fun W hW=>?_
 conv=>lhs;whnf
 repeat'((first|apply hW.t|apply hW.f|(apply hW.q;exact rqc)|apply hW.w (a1)|apply hW.w (bJ hE _ _ _)|apply hW.w (dB hE _)|(apply hW.b<;>intro h))<;>conv=>lhs;whnf)
 all_goals(refine congrArg (fun b=>(some ([bv b],[]):Option Res)) ?_;first|rfl|(simp_all [iP,aH];done)|(simp_all [iP,aH]<;>(intros;omega)))
theorem aBo {E:Env} (hE:Sys E) (m:Msg) (hm:m.lim 1048576) (k:m.kind=3):E 302 [gv (m.cs aN)]=some ([bv (bY m)],[]):=by
 have a1:=gF hE m.man ⟨0,0,0,[]⟩ (Nat.le_trans (sF hm) (by decide))
 rw[qU]at a1
 have e:bY m=(bK m.gen 1 1000000&&(cC m.man&&(decide (m.want=0)&&(decide (m.done=0)&&(bK m.i 0 39&&bK m.b.length 1 6))))):=by unfold bY;rw[if_neg (by omega),if_neg (by omega),if_pos k]
 rw[e]
 clear e
 obtain⟨kind,gen,man,want,done,i,b⟩:=m
 have k:kind=3:=k
 subst k
 refine hE.run rfl rfl fun W hW=>?_
 conv=>lhs;whnf
 repeat'((first|apply hW.t|apply hW.f|(apply hW.q;exact rqc)|apply hW.w (a1)|apply hW.w (bJ hE _ _ _)|(apply hW.b<;>intro h))<;>conv=>lhs;whnf)
 all_goals(refine congrArg (fun b=>(some ([bv b],[]):Option Res)) ?_;first|rfl|(simp_all [iP,aH];done)|(simp_all [iP,aH]<;>(intros;omega)))
theorem aBp {E:Env} (hE:Sys E) (m:Msg) (hm:m.lim 1048576) (k1:m.kind≠1) (k2:m.kind≠2) (k3:m.kind≠3):E 302 [gv (m.cs aN)]=some ([bv (bY m)],[]):=by
 have a1:=gF hE m.man ⟨0,0,0,[]⟩ (Nat.le_trans (sF hm) (by decide))
 rw[qU]at a1
 have e:bY m=(decide (m.kind=4)&&(bK m.gen 0 1000000&&iP m false false false)):=by unfold bY;rw[if_neg k1,if_neg k2,if_neg k3]
 rw[e]
 clear e
 refine hE.run rfl rfl fun W hW=>?_
 conv=>lhs;whnf
 repeat'((first|with_reducible apply hW.bf (decide_eq_false k1)|with_reducible apply hW.bf (decide_eq_false k2)|with_reducible apply hW.bf (decide_eq_false k3)|apply hW.t|apply hW.f|(apply hW.q;exact rqc)|apply hW.w (a1)|apply hW.w (bJ hE _ _ _)|(apply hW.b<;>intro h))<;>conv=>lhs;whnf)
 all_goals(refine congrArg (fun b=>(some ([bv b],[]):Option Res)) ?_;first|rfl|(simp_all [iP,aH];done)|(simp_all [iP,aH]<;>(intros;omega)))
theorem tQ {E:Env} (hE:Sys E) (m:Msg) (hm:m.lim 1048576):E 302 [gv (m.cs aN)]=some ([bv (bY m)],[]):=by
 by_cases k1:m.kind=1
 ·exact aBm hE m hm k1
 by_cases k2:m.kind=2
 ·exact aBn hE m hm k2
 by_cases k3:m.kind=3
 ·exact aBo hE m hm k3
 exact aBp hE m hm k1 k2 k3
theorem tT {E:Env} (hE:Sys E) (m:Msg) (hm:m.lim 1048576):E 311 [gv (m.cs aN)]=some ([bv (bY m)],[]):=by
 have a2:=dS hE m.man (sF hm)
 have b1:=gY hE m true false false
 have b2:=gY hE m false true false
 have b3:=gY hE m false false true
 have b4:=gY hE m false false false
 by_cases k1:m.kind=1
 ·have e:bY m=(decide (m.gen=0)&&(!decide (m.man.gen=0)&&(aV m.man&&iP m true false false))):=by unfold bY;rw[if_pos k1]
  rw[e]
  clear e
  refine hE.run rfl rfl fun W hW=>?_
  conv=>lhs;whnf
  repeat'((first|with_reducible apply hW.bt (decide_eq_true k1)|apply hW.t|apply hW.f|(apply hW.q;exact rqc)|apply hW.w (a2)|apply hW.w (b1)|(apply hW.b<;>intro h))<;>conv=>lhs;whnf)
  all_goals(refine congrArg (fun b=>(some ([bv b],[]):Option Res)) ?_;first|rfl|(simp_all [];done)|(simp_all []<;>(intros;omega)))
 by_cases k2:m.kind=2
 ·have e:bY m=(bK m.gen 0 1000000&&(cC m.man&&(bN m.want&&(bN m.done&&(decide (m.i=0)&&decide (m.b=[])))))):=by unfold bY;rw[if_neg k1,if_pos k2]
  rw[e]
  clear e
  refine hE.run rfl rfl fun W hW=>?_
  conv=>lhs;whnf
  repeat'((first|with_reducible apply hW.bf (decide_eq_false k1)|with_reducible apply hW.bt (decide_eq_true k2)|apply hW.t|apply hW.f|(apply hW.q;exact rqc)|apply hW.w (mM hE _)|apply hW.w (cP hE _)|apply hW.w (b2)|(apply hW.b<;>intro h))<;>conv=>lhs;whnf)
  all_goals(refine congrArg (fun b=>(some ([bv b],[]):Option Res)) ?_;first|rfl|(simp_all [iP];done)|(simp_all [iP]<;>(intros;omega)))
 by_cases k3:m.kind=3
 ·have e:bY m=(bK m.gen 1 1000000&&(cC m.man&&(decide (m.want=0)&&(decide (m.done=0)&&(bK m.i 0 39&&bK m.b.length 1 6))))):=by unfold bY;rw[if_neg k1,if_neg k2,if_pos k3]
  rw[e]
  clear e
  refine hE.run rfl rfl fun W hW=>?_
  conv=>lhs;whnf
  repeat'((first|with_reducible apply hW.bf (decide_eq_false k1)|with_reducible apply hW.bf (decide_eq_false k2)|with_reducible apply hW.bt (decide_eq_true k3)|apply hW.t|apply hW.f|(apply hW.q;exact rqc)|apply hW.w (bL hE _ _ _)|apply hW.w (oA hE _)|apply hW.w (b3)|(apply hW.b<;>intro h))<;>conv=>lhs;whnf)
  all_goals(refine congrArg (fun b=>(some ([bv b],[]):Option Res)) ?_;first|rfl|(simp_all [iP,aH];done)|(simp_all [iP,aH]<;>(intros;omega)))
 have e:bY m=(decide (m.kind=4)&&(bK m.gen 0 1000000&&iP m false false false)):=by unfold bY;rw[if_neg k1,if_neg k2,if_neg k3]
 rw[e]
 clear e
 refine hE.run rfl rfl fun W hW=>?_
 conv=>lhs;whnf
 repeat'((first|with_reducible apply hW.bf (decide_eq_false k1)|with_reducible apply hW.bf (decide_eq_false k2)|with_reducible apply hW.bf (decide_eq_false k3)|apply hW.t|apply hW.f|(apply hW.q;exact rqc)|apply hW.w (mM hE _)|apply hW.w (b4)|(apply hW.b<;>intro h))<;>conv=>lhs;whnf)
 all_goals(refine congrArg (fun b=>(some ([bv b],[]):Option Res)) ?_;first|rfl|(simp_all [];done)|(simp_all []<;>(intros;omega)))
theorem uW {n:Nat}:(sE n).length≤9:=aK8
theorem aK9 (k:Int):wI (dX k)=[.int .u8 (IntKind.u8.wrap k)]:=by simp[wI,gT]
theorem nO (a:aD) (k:Int):bys a++[[.int .u8 (IntKind.u8.wrap k)]]=bys (a++[dX k]):=by rw[jP,← aK9];rfl
end Tev
