/- What the functions compute, one contract each. -/
import Derived.Test.YtopoodgiinenlaaGreatPartsIr1
set_option linter.unusedSimpArgs false
set_option linter.unusedVariables false
namespace Tev
open Go
set_option maxRecDepth 50000
set_option maxHeartbeats 20000000
def rg (v:Int):Prop := -1≤v∧v≤1048576
def aFw {α:Type} (P:Nat→α→Prop) (B:Nat) (l:List α):Prop:=l.length≤B∧∀ x∈l,P B x
theorem aI9 {α:Type} {P:Nat→α→Prop} {B C:Nat} (hp:∀ x,P B x→P C x) (h:B≤C) {l:List α} (hl:aFw P B l):aFw P C l:=⟨by have:=hl.1;omega,fun x hx=>hp x (hl.2 x hx)⟩
theorem aLH {α:Type} (f:α→List T) {l:List α} {n:Nat} (h:n<l.length) (z:List T):((l.take n).map f++List.replicate (l.length-n) z).set n (f l[n])=(l.take (n+1)).map f++List.replicate (l.length-(n+1)) z:=by
 have h1:((l.take n).map f).length=n:=by rw[List.length_map,List.length_take];omega
 rw[List.set_append,if_neg (by omega),h1,Nat.sub_self,show l.length-n=(l.length-(n+1))+1 from by omega,List.replicate_succ,List.set_cons_zero,show l.take (n+1)=l.take n++[l[n]] from by rw[List.take_add_one,List.getElem?_eq_getElem h];rfl,List.map_append]
 simp
theorem aC4 {α:Type} {f:α→List T} {l:List α} {n:Nat} (h:n<l.length) (z:List T):((l.take n).map f++List.replicate (l.length-n) z)[(n:Int).toNat]?=some z:=by
 have h1:((l.take n).map f).length=n:=by rw[List.length_map,List.length_take];omega
 rw[Int.toNat_natCast,List.getElem?_append_right (by omega),h1,Nat.sub_self,show l.length-n=(l.length-(n+1))+1 from by omega]
 rfl
def dH (k:Int):UInt8:=UInt8.ofNat (k%256).toNat
theorem jA (k:Int):((dH k).toNat:Int)=IntKind.u8.wrap k:=by
 unfold dH
 rw[UInt8.toNat_ofNat']
 simp only[IntKind.wrap,IntKind.bits,IntKind.signed]
 have h1:0≤k%256:=Int.emod_nonneg _ (by omega)
 have h2:k%256<256:=Int.emod_lt_of_pos _ (by omega)
 simp
 omega
def Sent.cs (x:Sent):List CA:=[ci x.frm,ci x.to,ci x.i]
def Man.lim (B:Nat) (x:Man):Prop:=x.sums.length≤B
theorem Man.lim_mono {B C:Nat} (h:B≤C) {x:Man} (hx:x.lim B):x.lim C:=by
 exact Nat.le_trans (id hx) h
def Bld.lim (B:Nat) (x:Bld):Prop:=x.buf.length≤B
theorem Bld.lim_mono {B C:Nat} (h:B≤C) {x:Bld} (hx:x.lim B):x.lim C:=by
 exact Nat.le_trans (id hx) h
def Put.lim (B:Nat) (x:Put):Prop:=x.b.length≤B
theorem Put.lim_mono {B C:Nat} (h:B≤C) {x:Put} (hx:x.lim B):x.lim C:=by
 exact Nat.le_trans (id hx) h
def Pkt.lim (B:Nat) (x:Pkt):Prop:=x.b.length≤B
theorem Pkt.lim_mono {B C:Nat} (h:B≤C) {x:Pkt} (hx:x.lim B):x.lim C:=by
 exact Nat.le_trans (id hx) h
def Image.lim (B:Nat) (x:Image):Prop:=x.b.length≤B
def Tree.lim (B:Nat) (x:Tree):Prop:=x.up.length≤B
def Disk.lim (B:Nat) (x:Disk):Prop:=x.a.length≤B∧x.b.length≤B∧aFw (fun B=>Put.lim B) B x.p
theorem Disk.lim_mono {B C:Nat} (h:B≤C) {x:Disk} (hx:x.lim B):x.lim C:=by
 obtain⟨h0,h1,h2⟩:=hx
 exact⟨Nat.le_trans h0 h,Nat.le_trans h1 h,aI9 (fun x hx=>Put.lim_mono h hx) h h2⟩
def Msg.lim (B:Nat) (x:Msg):Prop:=x.man.lim B∧x.b.length≤B
def Node.lim (B:Nat) (x:Node):Prop:=x.man.lim B∧x.bld.lim B∧x.kids.length≤B
theorem Node.lim_mono {B C:Nat} (h:B≤C) {x:Node} (hx:x.lim B):x.lim C:=by
 obtain⟨h0,h1,h2⟩:=hx
 exact⟨Man.lim_mono h h0,Bld.lim_mono h h1,Nat.le_trans h2 h⟩
def Actn.lim (B:Nat) (x:Actn):Prop:=x.n.lim B∧aFw (fun B=>Pkt.lim B) B x.out
theorem Actn.lim_mono {B C:Nat} (h:B≤C) {x:Actn} (hx:x.lim B):x.lim C:=by
 obtain⟨h0,h1⟩:=hx
 exact⟨Node.lim_mono h h0,aI9 (fun x hx=>Pkt.lim_mono h hx) h h1⟩
def Beat.lim (B:Nat) (x:Beat):Prop:=x.n.lim B∧x.d.lim B∧aFw (fun B=>Pkt.lim B) B x.out
def World.lim (B:Nat) (x:World):Prop:=x.t.lim B∧x.new.length≤B∧aFw (fun B=>Image.lim B) B x.old∧aFw (fun B=>Node.lim B) B x.n∧aFw (fun B=>Disk.lim B) B x.d∧aFw (fun B=>Pkt.lim B) B x.net∧x.log.length≤B
structure Cur where
 i:Nat
 h:Int
def fU (es:List (List T)) (c:Cur):A := .pt true [.t (.sl false es),ci c.i,ci c.h]
def dD (c:Cur):List CA:=[.gone,ci c.i,ci c.h]
def aRR (a b:Int):Int:=IntKind.i64.wrap (BitVec.ofInt IntKind.i64.bits a &&& BitVec.ofInt IntKind.i64.bits b).toNat
def aN2 (h:Int):Int:=IntKind.i64.wrap (IntKind.i64.wrap (h*6364136223846793005)+1442695040888963407)
def aVA (h:Int):Int:=aRR (IntKind.i64.wrap (BitVec.ofInt IntKind.i64.bits (h.fdiv (2 ^ (min (33:Int).toNat IntKind.i64.bits))) ^^^ BitVec.ofInt IntKind.i64.bits (h.fdiv (2 ^ (min (47:Int).toNat IntKind.i64.bits)))).toNat) 255
def dZ (b:aC) (c:Cur):Int × Cur :=
 if h:c.i<b.length then(aRR (IntKind.i64.wrap (aVA (aN2 c.h)+IntKind.i64.wrap (b[c.i].toNat:Int))) 255,⟨c.i+1,aN2 c.h⟩) else(aVA (aN2 c.h),⟨c.i,aN2 c.h⟩)
theorem aJ9 {E:aS} (U:Sys E) {es:List (List T)} {b:aC} (he:es=aT b) (c:Cur) (hb:b.length≤1048576):E 161 [fU es c]=some ([iv (dZ b c).1],dD (dZ b c).2):=by
 subst he
 have hl:=eF b
 unfold dZ
 by_cases h:c.i<b.length
 ·rw[dif_pos h]
  refine U.run rfl rfl fun W Z=>?_
  conv=>lhs;whnf
  repeat((first|apply Z.t|apply Z.f|(apply Z.q;exact aE));conv=>lhs;whnf)
  apply Z.bt ((decide_eq_true (show(c.i:Int)<((aT b).length:Nat) by rw[hl];omega)))
  conv=>lhs;whnf
  repeat((first|apply Z.t|apply Z.f|(apply Z.q;exact aE)|(refine Z.w (cP ?_) ?_;omega));conv=>lhs;whnf)
  rw[show IntKind.i64.wrap ((c.i:Int)+1)=((c.i+1:Nat):Int) from aO (by omega)]
  rfl
 ·rw[dif_neg h]
  refine U.run rfl rfl fun W Z=>?_
  conv=>lhs;whnf
  repeat((first|apply Z.t|apply Z.f|(apply Z.q;exact aE));conv=>lhs;whnf)
  apply Z.bf ((decide_eq_false (show ¬ (c.i:Int)<((aT b).length:Nat) by rw[hl];omega)))
  conv=>lhs;whnf
  rfl
theorem aN3 (a:Int):0≤aRR a 255∧aRR a 255≤255:=by
 unfold aRR
 have h:(BitVec.ofInt IntKind.i64.bits a &&& BitVec.ofInt IntKind.i64.bits 255).toNat≤255:=by
  rw[BitVec.toNat_and]
  exact Nat.and_le_right
 rw[show IntKind.i64.wrap _=_ from aK (by omega)]
 omega
theorem aGY (b:aC) (c:Cur):0≤(dZ b c).1∧(dZ b c).1≤255:=by
 unfold dZ
 split
 ·exact aN3 _
 ·exact aN3 _
def aF (b:aC) (c:Cur) (n:Int):Int × Cur :=
 if n≤0 then(0,c)
 else if n≤256 then((dZ b c).1.tmod n,(dZ b c).2)
 else((IntKind.i64.wrap (IntKind.i64.wrap (IntKind.i64.wrap ((dZ b c).1*65536)+IntKind.i64.wrap ((dZ b (dZ b c).2).1*256))+(dZ b (dZ b (dZ b c).2).2).1)).tmod n,(dZ b (dZ b (dZ b c).2).2).2)
theorem cC (b:aC) (c:Cur) {n:Int} (hn:0<n):0≤(aF b c n).1∧(aF b c n).1<n:=by
 unfold aF
 rw[if_neg (by omega)]
 have h1:=aGY b c
 split
 ·exact⟨Int.tmod_nonneg _ h1.1,Int.tmod_lt_of_pos _ hn⟩
 ·have h2:=aGY b (dZ b c).2
  have h3:=aGY b (dZ b (dZ b c).2).2
  rw[show IntKind.i64.wrap ((dZ b c).1*65536)=_ from aK (by omega),show IntKind.i64.wrap ((dZ b (dZ b c).2).1*256)=_ from aK (by omega),show IntKind.i64.wrap ((dZ b c).1*65536+(dZ b (dZ b c).2).1*256)=_ from aK (by omega),show IntKind.i64.wrap _=_ from aK (by omega)]
  exact⟨Int.tmod_nonneg _ (by omega),Int.tmod_lt_of_pos _ hn⟩
theorem aZ {E:aS} (U:Sys E) {es:List (List T)} {b:aC} (he:es=aT b) (c:Cur) (hb:b.length≤1048576) (n:Int):E 157 [fU es c,iv n]=some ([iv (aF b c n).1],dD (aF b c n).2):=by
 unfold aF
 by_cases h1:n≤0
 ·rw[if_pos h1]
  refine U.run rfl rfl fun W Z=>?_
  conv=>lhs;whnf
  repeat'((first|with_reducible apply Z.bt (decide_eq_true h1)|apply Z.t|apply Z.f|(apply Z.q;exact aE)|(apply Z.b<;>intro h))<;>conv=>lhs;whnf)
  rfl
 ·rw[if_neg h1]
  by_cases h2:n≤256
  ·rw[if_pos h2]
   refine U.run rfl rfl fun W Z=>?_
   conv=>lhs;whnf
   repeat'((first|with_reducible apply Z.bf (decide_eq_false h1)|with_reducible apply Z.bt (decide_eq_true h2)|apply Z.t|apply Z.f|(apply Z.q;exact aE)|(apply Z.b<;>intro h))<;>conv=>lhs;whnf)
   apply Z.w (aJ9 U he c hb)
   conv=>lhs;whnf
   repeat((first|apply Z.t|apply Z.f|(apply Z.q;exact aE));conv=>lhs;whnf)
   rfl
  ·rw[if_neg h2]
   refine U.run rfl rfl fun W Z=>?_
   conv=>lhs;whnf
   repeat'((first|with_reducible apply Z.bf (decide_eq_false h1)|with_reducible apply Z.bf (decide_eq_false h2)|apply Z.t|apply Z.f|(apply Z.q;exact aE)|(apply Z.b<;>intro h))<;>conv=>lhs;whnf)
   apply Z.w (aJ9 U he c hb)
   conv=>lhs;whnf
   repeat((first|apply Z.t|apply Z.f|(apply Z.q;exact aE));conv=>lhs;whnf)
   apply Z.w (aJ9 U he (dZ b c).2 hb)
   conv=>lhs;whnf
   repeat((first|apply Z.t|apply Z.f|(apply Z.q;exact aE));conv=>lhs;whnf)
   apply Z.w (aJ9 U he (dZ b (dZ b c).2).2 hb)
   conv=>lhs;whnf
   repeat((first|apply Z.t|apply Z.f|(apply Z.q;exact aE));conv=>lhs;whnf)
   rfl
theorem gZ {E:aS} (U:Sys E) {es:List (List T)} {b:aC} (he:es=aT b) (c:Cur) (hb:b.length≤1048576) (n:Int):E 162 [fU es c,iv n]=some ([bv (decide ((aF b c n).1=0))],dD (aF b c n).2):=by
 refine U.run rfl rfl fun W Z=>?_
 conv=>lhs;whnf
 repeat((first|apply Z.t|apply Z.f|(apply Z.q;exact aE));conv=>lhs;whnf)
 apply Z.w (aZ U he c hb n)
 conv=>lhs;whnf
 repeat((first|apply Z.t|apply Z.f|(apply Z.q;exact aE));conv=>lhs;whnf)
 rfl
def aGZ (b:aC) (c:Cur) (l:List Int):Int × Cur:=(l.getD (aF b c l.length).1.toNat 0,(aF b c l.length).2)
theorem aG0 {E:aS} (U:Sys E) {es:List (List T)} {b:aC} (he:es=aT b) (c:Cur) (hb:b.length≤1048576) (l:List Int) (hl:0<l.length):E 160 [fU es c,sv (bN l)]=some ([iv (aGZ b c l).1],dD (aGZ b c l).2):=by
 have hrl:(bN l).length=l.length:=List.length_map _
 have hr:=cC b c (n:=(l.length:Int)) (by omega)
 have hix:(bN l)[(aF b c (l.length:Int)).1.toNat]?=some (mV (l.getD (aF b c (l.length:Int)).1.toNat 0)):=by
  unfold bN
  rw[List.getElem?_map,List.getElem?_eq_getElem (by omega),List.getD_eq_getElem?_getD,List.getElem?_eq_getElem (by omega)]
  rfl
 refine U.run rfl rfl fun W Z=>?_
 conv=>lhs;whnf
 repeat((first|apply Z.t|apply Z.f|(apply Z.q;exact aE));conv=>lhs;whnf)
 rw[hrl]
 apply Z.w (aZ U he c hb (l.length:Int))
 conv=>lhs;whnf
 repeat((first|apply Z.t|apply Z.f|(apply Z.q;exact aE));conv=>lhs;whnf)
 apply Z.w (hix)
 conv=>lhs;whnf
 repeat((first|apply Z.t|apply Z.f|(apply Z.q;exact aE));conv=>lhs;whnf)
 rfl
def dV (b:aC) (c:Cur):Int × Cur :=
 if(aF b c 3).1=0 then aGZ b (aF b c 3).2 [0,1,3,1099511627775,549755813888]
 else(IntKind.i64.wrap ((aF b (aF b c 3).2 65536).1*2 ^ (min (aF b (aF b (aF b c 3).2 65536).2 20).1.toNat IntKind.i64.bits)),(aF b (aF b (aF b c 3).2 65536).2 20).2)
theorem aLI {E:aS} (U:Sys E) {es:List (List T)} {b:aC} (he:es=aT b) (c:Cur) (hb:b.length≤1048576):E 163 [fU es c]=some ([iv (dV b c).1],dD (dV b c).2):=by
 unfold dV
 have a0:=gZ U he c hb 3
 by_cases h:(aF b c 3).1=0
 ·rw[if_pos h]
  rw[decide_eq_true h]at a0
  refine U.run rfl rfl fun W Z=>?_
  conv=>lhs;whnf
  repeat((first|apply Z.t|apply Z.f|(apply Z.q;exact aE));conv=>lhs;whnf)
  apply Z.w (a0)
  conv=>lhs;whnf
  repeat((first|apply Z.t|apply Z.f|(apply Z.q;exact aE));conv=>lhs;whnf)
  apply Z.w (aG0 U he (aF b c 3).2 hb [0,1,3,1099511627775,549755813888] (by decide))
  conv=>lhs;whnf
  repeat((first|apply Z.t|apply Z.f|(apply Z.q;exact aE));conv=>lhs;whnf)
  rfl
 ·rw[if_neg h]
  rw[decide_eq_false h]at a0
  refine U.run rfl rfl fun W Z=>?_
  conv=>lhs;whnf
  repeat((first|apply Z.t|apply Z.f|(apply Z.q;exact aE));conv=>lhs;whnf)
  apply Z.w (a0)
  conv=>lhs;whnf
  repeat((first|apply Z.t|apply Z.f|(apply Z.q;exact aE));conv=>lhs;whnf)
  apply Z.w (aZ U he (aF b c 3).2 hb 65536)
  conv=>lhs;whnf
  repeat((first|apply Z.t|apply Z.f|(apply Z.q;exact aE));conv=>lhs;whnf)
  apply Z.w (aZ U he (aF b (aF b c 3).2 65536).2 hb 20)
  conv=>lhs;whnf
  repeat((first|apply Z.t|apply Z.f|(apply Z.q;exact aE));conv=>lhs;whnf)
  refine Z.q (by exact(cC b (aF b (aF b c 3).2 65536).2 (n:=20) (by decide)).1) ?_
  conv=>lhs;whnf
  rfl
def aM9 (b:aC) (c:Cur):Int × Cur:=if(aF b c 8).1=0 then aGZ b (aF b c 8).2 [-1,1099511627776] else dV b (aF b c 8).2
theorem aUf {E:aS} (U:Sys E) {es:List (List T)} {b:aC} (he:es=aT b) (c:Cur) (hb:b.length≤1048576):E 158 [fU es c]=some ([iv (aM9 b c).1],dD (aM9 b c).2):=by
 unfold aM9
 have a0:=gZ U he c hb 8
 by_cases h:(aF b c 8).1=0
 ·rw[if_pos h]
  rw[decide_eq_true h]at a0
  refine U.run rfl rfl fun W Z=>?_
  conv=>lhs;whnf
  repeat((first|apply Z.t|apply Z.f|(apply Z.q;exact aE));conv=>lhs;whnf)
  apply Z.w (a0)
  conv=>lhs;whnf
  repeat((first|apply Z.t|apply Z.f|(apply Z.q;exact aE));conv=>lhs;whnf)
  apply Z.w (aG0 U he (aF b c 8).2 hb [-1,1099511627776] (by decide))
  conv=>lhs;whnf
  repeat((first|apply Z.t|apply Z.f|(apply Z.q;exact aE));conv=>lhs;whnf)
  rfl
 ·rw[if_neg h]
  rw[decide_eq_false h]at a0
  refine U.run rfl rfl fun W Z=>?_
  conv=>lhs;whnf
  repeat((first|apply Z.t|apply Z.f|(apply Z.q;exact aE));conv=>lhs;whnf)
  apply Z.w (a0)
  conv=>lhs;whnf
  repeat((first|apply Z.t|apply Z.f|(apply Z.q;exact aE));conv=>lhs;whnf)
  apply Z.w (aLI U he (aF b c 8).2 hb)
  conv=>lhs;whnf
  repeat((first|apply Z.t|apply Z.f|(apply Z.q;exact aE));conv=>lhs;whnf)
  rfl
def hN (b:aC):Nat→Int
 |0=>IntKind.i64.wrap (162416+(b.length:Int))
 |n+1=>IntKind.i64.wrap (BitVec.ofInt IntKind.i64.bits (IntKind.i64.wrap (IntKind.i64.wrap (IntKind.i64.wrap (hN b n*137)+IntKind.i64.wrap ((b.getD n 0).toNat:Int))+11)) &&& BitVec.ofInt IntKind.i64.bits 1073741823).toNat
def aRS (b:aC):Cur:=⟨0,hN b (min 4000 b.length)⟩
theorem aRT {E:aS} (U:Sys E) {b:aC} (hb:b.length≤1048576):E 155 [sv (aT b)]=some ([.pt true [.alias 0 0 0 b.length,ci 0,ci (aRS b).h]],[]):=by
 have hl:=eF b
 refine U.run rfl rfl fun W Z=>?_
 conv=>lhs;whnf
 refine Z.loop (σ:=Nat) (γ:=Nat) (fun i s=>(s.sl 4 (v1 (.t (.int .i64 i)))).sl 3 (v1 (.t (.int .i64 (hN b i))))) (fun i m=>i=m∧m≤min 4000 b.length) (fun m=>b.length-m) (fun _=>([.pt true [.alias 0 0 0 b.length,ci 0,ci (aRS b).h]],[])) 0 0 ?_ ?_ ?_ ?_
 ·intro K
  conv=>lhs;whnf
  conv=>rhs;whnf
  try rfl
  rw[hl]
  rfl
 ·exact⟨rfl,Nat.zero_le _⟩
 ·rintro kl m _ ⟨rfl,hm⟩ ih
  conv=>lhs;whnf
  apply Z.b<;>intro g1<;>conv=>lhs;whnf
  ·have g1:m<b.length:=by simpa[hl] using g1
   repeat((first|apply Z.t|apply Z.f|(apply Z.q;exact aE));conv=>lhs;whnf)
   apply Z.b<;>intro g2<;>conv=>lhs;whnf
   ·have g2:m<4000:=by have g2:=of_decide_eq_true g2;omega
    repeat((first|apply Z.t|apply Z.f|(apply Z.q;exact aE)|(refine Z.w (cP ?_) ?_;omega));conv=>lhs;whnf)
    refine ih (m+1) (m+1) _ ?_ ⟨rfl,by omega⟩ (by omega)
    intro K
    conv=>lhs;whnf
    conv=>rhs;whnf
    try rfl
    rw[show IntKind.i64.wrap ((m:Int)+1)=_ from aO (by omega)]
    have e:hN b (m+1)=IntKind.i64.wrap (BitVec.ofInt IntKind.i64.bits (IntKind.i64.wrap (IntKind.i64.wrap (IntKind.i64.wrap (hN b m*137)+IntKind.i64.wrap ((b[m]).toNat:Int))+11)) &&& BitVec.ofInt IntKind.i64.bits 1073741823).toNat:=by
     rw[hN,List.getD_eq_getElem?_getD,List.getElem?_eq_getElem g1]
     rfl
    rw[e]
   ·have g2:m=min 4000 b.length:=by have g2:=of_decide_eq_false g2;omega
    rw[hl]
    show some ([A.pt true [.alias 0 0 0 b.length,ci 0,ci (hN b m)]],[])=_
    rw[g2]
    rfl
  ·have g1:m=b.length:=by simp[hl]at g1;omega
   repeat((first|apply Z.t|apply Z.f|(apply Z.q;exact aE));conv=>lhs;whnf)
   rw[hl]
   show some ([A.pt true [.alias 0 0 0 b.length,ci 0,ci (hN b m)]],[])=_
   rw[show m=min 4000 b.length by omega]
   rfl
 ·rfl
theorem kN (b:aC):((aT b).drop 0).take b.length=aT b:=by
 rw[List.drop_zero,List.take_of_length_le (Nat.le_of_eq (eF b))]
def sL {R:Type} (x:Option R) (P:R→Prop):Prop:=∃ r,x=some r∧P r
structure Wd.Sk {R:Type} (W:Wd R):Prop where
 ok:W.Ok
theorem Wd.Sk.b {R:Type} {W:Wd R} (h:W.Sk) {P:R→Prop} {b:Bool} {x y:Unit→Option R} (h1:b=true→sL (x ()) P) (h2:b=false→sL (y ()) P):sL (W.br b x y) P:=by
 rw[h.ok.br]
 cases b
 ·exact h2 rfl
 ·exact h1 rfl
theorem Wd.Sk.t {R:Type} {W:Wd R} (h:W.Sk) {P:R→Prop} {x y:Unit→Option R} (h1:sL (x ()) P):sL (W.br true x y) P:=by rw[h.ok.br];exact h1
theorem Wd.Sk.f {R:Type} {W:Wd R} (h:W.Sk) {P:R→Prop} {x y:Unit→Option R} (h1:sL (y ()) P):sL (W.br false x y) P:=by rw[h.ok.br];exact h1
theorem Wd.Sk.bt {R:Type} {W:Wd R} (h:W.Sk) {P:R→Prop} {b:Bool} {x y:Unit→Option R} (hb:b=true) (h1:sL (x ()) P):sL (W.br b x y) P:=by rw[h.ok.br,hb];exact h1
theorem Wd.Sk.bf {R:Type} {W:Wd R} (h:W.Sk) {P:R→Prop} {b:Bool} {x y:Unit→Option R} (hb:b=false) (h1:sL (y ()) P):sL (W.br b x y) P:=by rw[h.ok.br,hb];exact h1
theorem Wd.Sk.q {R:Type} {W:Wd R} (h:W.Sk) {P:R→Prop} {c:Prop} [Decidable c] {x:Unit→Option R} (hc:c) (h1:sL (x ()) P):sL (W.rq c x) P:=by rw[h.ok.rq,chk_true _ hc];exact h1
theorem Wd.Sk.w {R:Type} {W:Wd R} (h:W.Sk) {P:R→Prop} {α:Type} {x:Option α} {f:α→Option R} {a:α} (h1:x=some a) (h2:sL (f a) P):sL (W.wt x f) P:=by rw[h.ok.wt,h1];exact h2
theorem Wd.Sk.loop {R:Type} {W:Wd R} (h:W.Sk) {P:R→Prop} {E:aS} {hand:Nat→Option (Nat × HK)} {i:IC} {keep:List Bool} {drops:List Nat} {can:List (Nat × Nat × Nat × Nat)} {S:St} {k:X × St→Option R} {σ γ:Type} (upd:σ→St→St) (I:σ→γ→Prop) (m:γ→Nat) (a0:σ) (c0:γ)
 (h0:∀ K:St→Option R,aFa keep drops can S K=aFa keep drops can S fun s=>aA2 (upd a0 s) K) (hI:I a0 c0)
 (step:∀ (kl:St→Option R) a c,I a c→(∀ a' c' S',(∀ K:St→Option R,aFa keep drops can S' K=aFa keep drops can S fun s=>aA2 (upd a' s) K)→I a' c'→m c'<m c→sL (kl S') P) →
  sL (aFa keep drops can S fun s=>aA2 (upd a s) fun s=>kC W E hand i s fun x s'=>match x with
   |.nor=>kl s'
   |.ret=>k (.ret,s')
   |.exit id=>k (.exit id,s')) P) :
 sL (W.wt (jP (aDp E hand i) (fun s=>(canon s can).mask keep drops) S) k) P:=by
 simp only[aN1,iO]at h0 step
 rw[h.ok.wt]
 have key:∀ (n:Nat) a c S',m c<n→(∀ K:St→Option R,K ((canon S' can).mask keep drops)=K (upd a ((canon S can).mask keep drops)))→I a c→sL (bnd (jP (aDp E hand i) (fun s=>(canon s can).mask keep drops) S') k) P:=by
  intro n
  induction n with
  |zero=>intro a c S' h;omega
  |succ n ih =>
   intro a c S' hn hS ha
   have:=step (fun s=>bnd (jP (aDp E hand i) (fun s=>(canon s can).mask keep drops) s) k) a c ha (fun a' c' S1 h1 h2 h3=>ih a' c' S1 (by omega) h1 h2)
   rw[← hS fun s=>kC W E hand i s fun x s'=>match x with
    |.nor=>bnd (jP (aDp E hand i) (fun s=>(canon s can).mask keep drops) s') k
    |.ret=>k (.ret,s')
    |.exit id=>k (.exit id,s')]at this
   obtain⟨r,hr,hp⟩:=this
   have:=aRL W E hand h.ok _ _ _ hr
   rw[aLp]
   obtain⟨r1,h1,h2⟩:=aA.mp this
   rw[h1]
   refine⟨r,?_,hp⟩
   obtain⟨x,s'⟩:=r1
   cases x with
   |nor=>simpa using h2
   |ret=>simpa using h2
   |exit id=>simpa using h2
 exact key (m c0+1) a0 c0 S (by omega) h0 hI
theorem Sys.runS {E:aS} (h:Sys E) {f:Nat} {c:Fn} {args:List A} {P:cU→Prop} (hf:tbl f=some c) (hn:c.nbody=none) (h':∀ W:Wd cU,W.Sk→sL (aGP W E hnd c c.body args) P):sL (E f args) P:=by
 obtain⟨r,hr,hp⟩:=h' _ ⟨Wd.std_ok cU⟩
 refine⟨r,h.fn f c args r hf ?_,hp⟩
 unfold qR
 rw[hn]
 exact aF1 (Wd.std_ok cU) hr
def qH {α:Type} (p:α→Bool):Nat→List α→Int
 |_,[] => -1
 |n,x::r=>if p x then n else qH p (n+1) r
theorem aRU {α:Type} {p:α→Bool} {l:List α}:∀ {n:Nat},qH p n l = -1∨∃ i:Nat,i<l.length∧qH p n l=((n+i:Nat):Int):=by
 induction l with
 |nil=>intro n;exact .inl rfl
 |cons x r ih =>
  intro n
  simp only[qH]
  cases p x
  ·simp only[Bool.false_eq_true,if_false]
   rcases ih (n:=n+1) with h|⟨i,h1,h2⟩
   ·exact .inl h
   ·exact .inr ⟨i+1,by simpa using h1,by rw[h2];congr 1;omega⟩
  ·exact .inr ⟨0,by simp,by simp⟩
def aR (x lo hi:Int):Bool:=decide (lo≤x)&&decide (x≤hi)
def bT (s:Int):Bool:=aR s 0 1099511627775
theorem bK {E:aS} (U:Sys E) (x lo hi:Int):E 1 [iv x,iv lo,iv hi]=some ([bv (aR x lo hi)],[]):=by
 refine U.run rfl rfl fun W Z=>?_
 conv=>lhs;whnf
 unfold aR
 apply Z.b<;>intro h1<;>conv=>lhs;whnf
 ·rw[h1]
  repeat((first|apply Z.t|apply Z.f|(apply Z.q;exact aE));conv=>lhs;whnf)
  simp_all;rfl
 ·rw[h1]
  repeat((first|apply Z.t|apply Z.f|(apply Z.q;exact aE));conv=>lhs;whnf)
  simp_all;rfl
theorem bW {E:aS} (U:Sys E) (x lo hi:Int):E 2 [iv x,iv lo,iv hi]=some ([bv (aR x lo hi)],[]):=by
 refine U.run rfl rfl fun W Z=>?_
 conv=>lhs;whnf
 unfold aR
 apply Z.b<;>intro h1<;>conv=>lhs;whnf
 ·rw[h1]
  repeat((first|apply Z.t|apply Z.f|(apply Z.q;exact aE));conv=>lhs;whnf)
  simp_all;rfl
 ·rw[h1]
  repeat((first|apply Z.t|apply Z.f|(apply Z.q;exact aE));conv=>lhs;whnf)
  simp_all;rfl
theorem cG {E:aS} (U:Sys E) (s:Int):E 26 [iv s]=some ([bv (bT s)],[]):=by
 refine U.run rfl rfl fun W Z=>?_
 conv=>lhs;whnf
 apply Z.w (bK U s 0 1099511627775)
 conv=>lhs;whnf
 try(apply Z.q;exact aE;conv=>lhs;whnf)
 rfl
theorem dK {E:aS} (U:Sys E) (s:Int):E 32 [iv s]=some ([bv (bT s)],[]):=by
 refine U.run rfl rfl fun W Z=>?_
 conv=>lhs;whnf
 apply Z.w (bW U s 0 1099511627775)
 conv=>lhs;whnf
 try(apply Z.q;exact aE;conv=>lhs;whnf)
 rfl
def eY (l:List Kid) (id:Int):Int:=qH (fun x:Kid=>decide (x.id=id)) 0 l
theorem qI {E:aS} (U:Sys E) (l:List Kid) (id:Int) (h0:l.length≤1099511627776):E 25 [sv (l.map Kid.row),iv id]=some ([iv (eY l id)],[]):=by
 refine U.run rfl rfl fun W Z=>?_
 conv=>lhs;whnf
 refine Z.loop (σ:=Nat) (γ:=Nat) (fun i s=>s.sl 5 (v1 (.t (.int .i64 i)))) (fun i n=>i=n∧n≤l.length) (fun n=>l.length-n) (fun n=>([iv (qH (fun x:Kid=>decide (x.id=id)) n (l.drop n))],[])) 0 0 ?_ ?_ ?_ ?_
 ·intro K
  conv=>lhs;whnf
  conv=>rhs;whnf
  try rfl
 ·simp
 ·rintro kl n _ ⟨rfl,hn⟩ ih
  conv=>lhs;whnf
  apply Z.b<;>intro h2<;>conv=>lhs;whnf
  ·have h2:n<l.length:=by simpa using h2
   rw[List.drop_eq_getElem_cons h2,qH]
   repeat((first|apply Z.t|apply Z.f|(apply Z.q;exact aE)|(refine Z.w (cP ?_) ?_;omega));conv=>lhs;whnf)
   apply Z.b<;>intro h3<;>conv=>lhs;whnf
   ·simp only[h3,if_true];rfl
   ·simp only[h3,if_false,Bool.false_eq_true]
    refine ih (n+1) (n+1) _ ?_ ⟨rfl,by omega⟩ (by omega)
    intro K
    conv=>lhs;whnf
    conv=>rhs;whnf
    try rfl
    rw[show IntKind.i64.wrap ((n:Int)+1)=_ from aO (by omega)]
  ·have:n=l.length:=by simp at h2;omega
   subst this
   rw[List.drop_length];rfl
 ·rfl
theorem aPe {E:aS} (U:Sys E) (x:Kid) (id:Int):E 102 [gv x.cs, .pt false [ci id]]=some ([bv (decide (x.id=id))],[]):=by
 refine U.run rfl rfl fun W Z=>?_
 conv=>lhs;whnf
 rfl
theorem aC5 {E:aS} (U:Sys E) (l:List Kid) (h0:l.length≤1099511627776) (id:Int):E 29 [sv (l.map Kid.row), .fn 102 [[ci id]]]=some ([iv (qH (fun x:Kid=>decide (x.id=id)) 0 l)],[]):=by
 have hrl:(l.map Kid.row).length=l.length:=by simp[aT,bN]
 refine U.run rfl rfl fun W Z=>?_
 conv=>lhs;whnf
 refine Z.loop (σ:=Nat) (γ:=Nat) (fun i s=>s.sl 8 (v1 (.t (.int .i64 i)))) (fun i n=>i=n∧n≤l.length) (fun n=>l.length-n) (fun n=>([iv (qH (fun x:Kid=>decide (x.id=id)) n (l.drop n))],[])) 0 0 ?_ ?_ ?_ ?_
 ·intro K
  conv=>lhs;whnf
  conv=>rhs;whnf
  try rfl
 ·simp
 ·rintro kl n _ ⟨rfl,hn⟩ ih
  conv=>lhs;whnf
  apply Z.b<;>intro h2<;>conv=>lhs;whnf
  ·have h2:n<l.length:=by simpa[hrl] using h2
   rw[List.drop_eq_getElem_cons h2]
   repeat((first|apply Z.t|apply Z.f|(apply Z.q;exact aE)|(refine Z.w (cP ?_) ?_;omega));conv=>lhs;whnf)
   apply Z.w (aPe U l[n] id)
   conv=>lhs;whnf
   try(apply Z.q;exact aE;conv=>lhs;whnf)
   simp only[qH]
   apply Z.b<;>intro h3<;>conv=>lhs;whnf
   ·simp only[h3,if_true];rfl
   ·simp only[h3,if_false,Bool.false_eq_true]
    refine ih (n+1) (n+1) _ ?_ ⟨rfl,by omega⟩ (by omega)
    intro K
    conv=>lhs;whnf
    conv=>rhs;whnf
    try rfl
    rw[show IntKind.i64.wrap ((n:Int)+1)=_ from aO (by omega)]
    try rfl
  ·have:n=l.length:=by simp[hrl]at h2;omega
   subst this
   rw[List.drop_length];rfl
 ·rfl
theorem aC6 {E:aS} (U:Sys E) (l:List Kid) (id:Int) (h0:l.length≤1099511627776):E 31 [sv (l.map Kid.row),iv id]=some ([iv (eY l id)],[]):=by
 refine U.run rfl rfl fun W Z=>?_
 conv=>lhs;whnf
 apply Z.w (aC5 U l h0 id)
 conv=>lhs;whnf
 try(apply Z.q;exact aE;conv=>lhs;whnf)
 rfl
theorem aEV {E:aS} (U:Sys E) (l:List Kid) (h0:l.length≤68719476736):E 30 [sv (l.map Kid.row)]=some ([ov 5 (l.map Kid.row)],[]):=by
 have hfl:kS (l.map Kid.row)=true:=aBN (fun _=>rfl) l
 have hrl:(l.map Kid.row).length=l.length:=by simp[aT,bN]
 have hro:∀ e∈l.map Kid.row,e.length=5:=aBM fun _=>rfl
 refine U.run2 rfl rfl (fun W Z=>?_) (fun he W Z=>?_)
 ·conv=>lhs;whnf
  repeat((first|apply Z.t|apply Z.f|(apply Z.q;exact aE));conv=>lhs;whnf)
  refine Z.q (by exact⟨by decide,hro,by simp only[List.length_nil,hrl];omega,by simp only[List.length_nil,hrl];omega⟩) ?_
  conv=>lhs;whnf
  apply Z.bt (hfl)
  conv=>lhs;whnf
  rfl
 ·cases l with
  |cons x r=>exact absurd (show false=true from he) (by decide)
  |nil =>
   conv=>lhs;whnf
   repeat((first|apply Z.t|apply Z.f|(apply Z.q;exact aE));conv=>lhs;whnf)
   rfl
def Node.limk (n:Node):Prop:=n.man.sums.length≤1048576∧n.bld.buf.length≤1048576∧n.kids.length≤4194304
theorem Node.lim.k {n:Node} (h:n.lim 1048576):n.limk:=⟨h.1,h.2.1,Nat.le_trans h.2.2 (by decide)⟩
theorem Node.limk.l4 {n:Node} (h:n.limk):n.lim 4194304:=⟨Nat.le_trans h.1 (by decide),Nat.le_trans h.2.1 (by decide),h.2.2⟩
theorem Node.limk.l8 {n:Node} (h:n.limk):n.lim 8388608:=Node.lim_mono (by decide) h.l4
abbrev aN4 (n:Node):Int:=n.bld.hav
def aNa (boss:Int):Node:=⟨true,boss,0,⟨0,0,0,[]⟩,⟨0,[]⟩,0,[],0⟩
theorem aEj {E:aS} (U:Sys E) (boss:Int):E 81 [iv boss]=some ([gv ((aNa boss).cs cT)],[]):=by
 refine U.run rfl rfl fun W Z=>?_
 conv=>lhs;whnf
 rfl
def aLJ (a b:Int):Int:=IntKind.i64.wrap (BitVec.ofInt IntKind.i64.bits a ||| BitVec.ofInt IntKind.i64.bits b).toNat
theorem vS {l:List Kid} {id:Int} (h:¬ eY l id<0):∃ n:Nat,∃ _:n<l.length,eY l id=n:=by
 rcases aRU (p:=fun x:Kid=>decide (x.id=id)) (l:=l) (n:=0) with h1|⟨i,h1,h2⟩
 ·rw[show eY l id=_ from h1]at h;exact absurd (by decide) h
 ·exact⟨i,h1,by rw[show eY l id=_ from h2];simp⟩
def cH (l:List Kid) (id s:Int):List Kid :=
 match l[(eY l id).toNat]? with
 |none=>l
 |some x=>if eY l id<0∨bT s=false∨bT x.sent=false then l else l.set (eY l id).toNat { x with sent:=aLJ x.sent s }
theorem fB (l:List Kid) (id s:Int):(cH l id s).length=l.length:=by
 unfold cH
 split
 ·rfl
 ·split<;>simp
theorem aAh {l:List Kid} {id s:Int} (h:eY l id<0):cH l id s=l:=by
 unfold cH;split
 ·rfl
 ·rw[if_pos (.inl h)]
theorem aC7 {l:List Kid} {id s:Int} {n:Nat} (hn:n<l.length) (h:eY l id=n):cH l id s=if bT s=false∨bT l[n].sent=false then l else l.set n { l[n] with sent:=aLJ l[n].sent s }:=by
 unfold cH
 rw[h,Int.toNat_natCast,List.getElem?_eq_getElem hn]
 simp only[show ¬ ((n:Int)<0) from by omega,false_or]
theorem oV (l:List Kid):kS (l.map Kid.row)=true:=aBN (fun _=>rfl) l
theorem kids_rows (l:List Kid):∀ e∈l.map Kid.row,e.length=5:=aBM fun _=>rfl
theorem kZ {E:aS} (U:Sys E) (l:List Kid) (id s:Int) (h0:l.length≤4194304):E 36 [sv (l.map Kid.row),iv id,iv s]=some ([ov 5 ((cH l id s).map Kid.row)],[]):=by
 refine U.run rfl rfl fun W Z=>?_
 conv=>lhs;whnf
 refine Z.q (by exact⟨by decide,kids_rows l,by simp;omega,by simp;omega⟩) ?_
 conv=>lhs;whnf
 apply Z.bt (oV l)
 conv=>lhs;whnf
 apply Z.w (qI U l id (by omega))
 conv=>lhs;whnf
 try(apply Z.q;exact aE;conv=>lhs;whnf)
 apply Z.b<;>intro h1<;>conv=>lhs;whnf
 ·repeat((first|apply Z.t|apply Z.f|(apply Z.q;exact aE));conv=>lhs;whnf)
  have h1:eY l id<0:=by simpa using h1
  rw[aAh h1];rfl
 ·obtain⟨n,hn,hk⟩:=vS (by simpa using h1)
  rw[aC7 hn hk,hk]
  repeat((first|apply Z.t|apply Z.f|(apply Z.q;exact aE));conv=>lhs;whnf)
  apply Z.w (cG U s)
  conv=>lhs;whnf
  repeat((first|apply Z.t|apply Z.f|(apply Z.q;exact aE));conv=>lhs;whnf)
  apply Z.b<;>intro h2<;>conv=>lhs;whnf
  ·repeat((first|apply Z.t|apply Z.f|(apply Z.q;exact aE));conv=>lhs;whnf)
   rw[if_pos (.inl (by simpa using h2))];rfl
  ·repeat((first|apply Z.t|apply Z.f|(apply Z.q;exact aE)|(refine Z.w (cP ?_) ?_;omega));conv=>lhs;whnf)
   apply Z.w (cG U l[n].sent)
   conv=>lhs;whnf
   repeat((first|apply Z.t|apply Z.f|(apply Z.q;exact aE));conv=>lhs;whnf)
   apply Z.b<;>intro h3<;>conv=>lhs;whnf
   ·repeat((first|apply Z.t|apply Z.f|(apply Z.q;exact aE));conv=>lhs;whnf)
    rw[if_pos (.inr (by simpa using h3))];rfl
   ·rw[if_neg (by simp at h2 h3;simp[h2,h3]),List.map_set]
    repeat((first|apply Z.t|apply Z.f|(apply Z.q;exact aE)|(refine Z.w (cP ?_) ?_;omega));conv=>lhs;whnf)
    rfl
theorem aFx {E:aS} (U:Sys E) (l:List Kid) (id s:Int) (h0:l.length≤4194304):E 37 [sv (l.map Kid.row),iv id,iv s]=some ([ov 5 ((cH l id s).map Kid.row)],[]):=by
 refine U.run rfl rfl fun W Z=>?_
 conv=>lhs;whnf
 apply Z.w (aEV U l (by omega))
 conv=>lhs;whnf
 repeat((first|apply Z.t|apply Z.f|(apply Z.q;exact aE));conv=>lhs;whnf)
 apply Z.w (aC6 U l id (by omega))
 conv=>lhs;whnf
 repeat((first|apply Z.t|apply Z.f|(apply Z.q;exact aE));conv=>lhs;whnf)
 apply Z.b<;>intro h1<;>conv=>lhs;whnf
 ·obtain⟨n,hn,hk⟩:=vS (l:=l) (id:=id) (by simpa using h1)
  rw[aC7 hn hk,hk]
  repeat((first|apply Z.t|apply Z.f|(apply Z.q;exact aE));conv=>lhs;whnf)
  apply Z.w (dK U s)
  conv=>lhs;whnf
  repeat((first|apply Z.t|apply Z.f|(apply Z.q;exact aE));conv=>lhs;whnf)
  apply Z.b<;>intro h2<;>conv=>lhs;whnf
  ·repeat((first|apply Z.t|apply Z.f|(apply Z.q;exact aE)|(refine Z.w (cP ?_) ?_;omega));conv=>lhs;whnf)
   apply Z.w (dK U l[n].sent)
   conv=>lhs;whnf
   repeat((first|apply Z.t|apply Z.f|(apply Z.q;exact aE));conv=>lhs;whnf)
   apply Z.b<;>intro h3<;>conv=>lhs;whnf
   ·rw[if_neg (by rintro(h|h)<;>simp_all),List.map_set]
    repeat((first|apply Z.t|apply Z.f|(apply Z.q;exact aE)|(refine Z.w (cP ?_) ?_;omega));conv=>lhs;whnf)
    rfl
   ·repeat((first|apply Z.t|apply Z.f|(apply Z.q;exact aE));conv=>lhs;whnf)
    rw[if_pos (.inr (by simpa using h3))];rfl
  ·repeat((first|apply Z.t|apply Z.f|(apply Z.q;exact aE));conv=>lhs;whnf)
   rw[if_pos (.inl (by simpa using h2))];rfl
 ·repeat((first|apply Z.t|apply Z.f|(apply Z.q;exact aE));conv=>lhs;whnf)
  have h1:eY l id<0:=by simpa using h1
  rw[aAh h1];rfl
theorem bL {x lo hi:Int} (h:aR x lo hi=true):lo≤x∧x≤hi:=by simpa[aR] using h
theorem gA {b:Bool} (h:(!b)=false):b=true:=by simpa using h
theorem jQ {b:Bool} (h:(!b)=true):b=false:=by simpa using h
def kO (n:Int):Int:=if aR n 0 40=true then IntKind.i64.wrap (IntKind.i64.wrap (1*2 ^ (min n.toNat IntKind.i64.bits))-1) else 0
theorem aG1 {E:aS} (U:Sys E) (n:Int):E 89 [iv n]=some ([iv (kO n)],[]):=by
 refine U.run rfl rfl fun W Z=>?_
 conv=>lhs;whnf
 apply Z.w (bK U n 0 40)
 conv=>lhs;whnf
 try(apply Z.q;exact aE;conv=>lhs;whnf)
 unfold kO
 apply Z.b<;>intro h1<;>conv=>lhs;whnf
 ·rw[jQ h1]
  rfl
 ·rw[gA h1]
  have:=bL (gA h1)
  repeat((first|apply Z.t|apply Z.f|(apply Z.q;exact aE));conv=>lhs;whnf)
  rfl
theorem aG2 {E:aS} (U:Sys E) (n:Int):E 93 [iv n]=some ([iv (kO n)],[]):=by
 refine U.run rfl rfl fun W Z=>?_
 conv=>lhs;whnf
 apply Z.w (bW U n 0 40)
 conv=>lhs;whnf
 try(apply Z.q;exact aE;conv=>lhs;whnf)
 unfold kO
 apply Z.b<;>intro h1<;>conv=>lhs;whnf
 ·rw[jQ h1]
  rfl
 ·rw[gA h1]
  have:=bL (gA h1)
  repeat((first|apply Z.t|apply Z.f|(apply Z.q;exact aE));conv=>lhs;whnf)
  rfl
def cL (m:Man):Int:=kO m.sums.length
theorem rX {E:aS} (U:Sys E) (m:Man):E 90 [gv (m.cs aJ)]=some ([iv (cL m)],[]):=by
 refine U.run rfl rfl fun W Z=>?_
 conv=>lhs;whnf
 rw[show(m.sums.map Sum.row).length=m.sums.length from List.length_map _]
 apply Z.w (aG1 U m.sums.length)
 conv=>lhs;whnf
 try(apply Z.q;exact aE;conv=>lhs;whnf)
 rfl
theorem aFy {E:aS} (U:Sys E) (m:Man):E 94 [gv (m.cs aJ)]=some ([iv (cL m)],[]):=by
 refine U.run rfl rfl fun W Z=>?_
 conv=>lhs;whnf
 rw[show(m.sums.map Sum.row).length=m.sums.length from List.length_map _]
 apply Z.w (aG2 U m.sums.length)
 conv=>lhs;whnf
 try(apply Z.q;exact aE;conv=>lhs;whnf)
 rfl
def nK (a b:Int):Int:=IntKind.i64.wrap (BitVec.ofInt IntKind.i64.bits a &&& ~~~BitVec.ofInt IntKind.i64.bits b).toNat
def vT (a b:Int):Int:=if bT a=true∧bT b=true then nK a b else 0
theorem vU {E:aS} (U:Sys E) (a b:Int):E 91 [iv a,iv b]=some ([iv (vT a b)],[]):=by
 refine U.run rfl rfl fun W Z=>?_
 conv=>lhs;whnf
 apply Z.w (cG U a)
 conv=>lhs;whnf
 try(apply Z.q;exact aE;conv=>lhs;whnf)
 unfold vT
 apply Z.b<;>intro h1<;>conv=>lhs;whnf
 ·rw[if_neg (by rintro⟨h,_⟩;rw[h]at h1;cases h1)]
  repeat((first|apply Z.t|apply Z.f|(apply Z.q;exact aE));conv=>lhs;whnf)
  rfl
 ·rw[gA h1]
  repeat((first|apply Z.t|apply Z.f|(apply Z.q;exact aE));conv=>lhs;whnf)
  apply Z.w (cG U b)
  conv=>lhs;whnf
  repeat((first|apply Z.t|apply Z.f|(apply Z.q;exact aE));conv=>lhs;whnf)
  apply Z.b<;>intro h2<;>conv=>lhs;whnf
  ·rw[jQ h2]
   rfl
  ·rw[gA h2]
   rfl
def aLK (m:Man) (x:Bld):Int:=vT (cL m) x.hav
theorem aG3 {E:aS} (U:Sys E) (m:Man) (x:Bld):E 92 [gv (m.cs aJ),gv (x.cs aJ)]=some ([iv (aLK m x)],[]):=by
 refine U.run rfl rfl fun W Z=>?_
 conv=>lhs;whnf
 apply Z.w (rX U m)
 conv=>lhs;whnf
 repeat((first|apply Z.t|apply Z.f|(apply Z.q;exact aE));conv=>lhs;whnf)
 apply Z.w (vU U (cL m) x.hav)
 conv=>lhs;whnf
 try(apply Z.q;exact aE;conv=>lhs;whnf)
 rfl
def xJ (n:Node):Int:=if n.phase=0 then 0 else aLK n.man n.bld
theorem aH9 {E:aS} (U:Sys E) (n:Node) (_:n.lim 1048576):E 97 [gv (n.cs aJ)]=some ([iv (xJ n)],[]):=by
 refine U.run rfl rfl fun W Z=>?_
 conv=>lhs;whnf
 unfold xJ
 apply Z.b<;>intro h1<;>conv=>lhs;whnf
 ·rw[if_pos (by simpa using h1)]
  rfl
 ·rw[if_neg (by simpa using h1)]
  apply Z.w (aG3 U n.man n.bld)
  conv=>lhs;whnf
  try(apply Z.q;exact aE;conv=>lhs;whnf)
  rfl
theorem vV {E:aS} (U:Sys E) (i:Int):E 128 [iv i]=some ([bv (aR i 0 39)],[]):=by
 refine U.run rfl rfl fun W Z=>?_
 conv=>lhs;whnf
 apply Z.w (bW U i 0 39)
 conv=>lhs;whnf
 try(apply Z.q;exact aE;conv=>lhs;whnf)
 rfl
theorem vW {E:aS} (U:Sys E) (i:Int):E 1 [iv i,iv 0,iv 39]=some ([bv (aR i 0 39)],[]):=bK U i 0 39
def aC8 (n:Int):Int:=IntKind.i64.wrap (1*2 ^ (min n.toNat IntKind.i64.bits))
def lV (s i:Int):Int:=if bT s=true∧aR i 0 39=true then aLJ s (aC8 i) else s
theorem rY {E:aS} (U:Sys E) (s i:Int):E 123 [iv s,iv i]=some ([iv (lV s i)],[]):=by
 refine U.run rfl rfl fun W Z=>?_
 conv=>lhs;whnf
 apply Z.w (cG U s)
 conv=>lhs;whnf
 try(apply Z.q;exact aE;conv=>lhs;whnf)
 unfold lV
 apply Z.b<;>intro h1<;>conv=>lhs;whnf
 ·rw[if_neg (by rintro⟨h,_⟩;rw[h]at h1;cases h1)]
  repeat((first|apply Z.t|apply Z.f|(apply Z.q;exact aE));conv=>lhs;whnf)
  rfl
 ·rw[gA h1]
  repeat((first|apply Z.t|apply Z.f|(apply Z.q;exact aE));conv=>lhs;whnf)
  apply Z.w (vW U i)
  conv=>lhs;whnf
  repeat((first|apply Z.t|apply Z.f|(apply Z.q;exact aE));conv=>lhs;whnf)
  apply Z.b<;>intro h2<;>conv=>lhs;whnf
  ·rw[jQ h2]
   rfl
  ·rw[gA h2]
   have:=bL (gA h2)
   repeat((first|apply Z.t|apply Z.f|(apply Z.q;exact aE));conv=>lhs;whnf)
   rfl
def cX (s i:Int):Bool:=bT s&&(aR i 0 39&&decide (IntKind.i64.wrap (BitVec.ofInt IntKind.i64.bits (s.fdiv (2 ^ (min i.toNat IntKind.i64.bits))) &&& BitVec.ofInt IntKind.i64.bits 1).toNat=1))
theorem dA {E:aS} (U:Sys E) (s i:Int):E 132 [iv s,iv i]=some ([bv (cX s i)],[]):=by
 refine U.run rfl rfl fun W Z=>?_
 conv=>lhs;whnf
 apply Z.w (cG U s)
 conv=>lhs;whnf
 try(apply Z.q;exact aE;conv=>lhs;whnf)
 unfold cX
 apply Z.b<;>intro h1<;>conv=>lhs;whnf
 ·rw[h1]
  repeat((first|apply Z.t|apply Z.f|(apply Z.q;exact aE));conv=>lhs;whnf)
  apply Z.w (vW U i)
  conv=>lhs;whnf
  repeat((first|apply Z.t|apply Z.f|(apply Z.q;exact aE));conv=>lhs;whnf)
  apply Z.b<;>intro h2<;>conv=>lhs;whnf
  ·rw[h2]
   have:=bL h2
   repeat((first|apply Z.t|apply Z.f|(apply Z.q;exact aE));conv=>lhs;whnf)
   rfl
  ·rw[h2]
   repeat((first|apply Z.t|apply Z.f|(apply Z.q;exact aE));conv=>lhs;whnf)
   rfl
 ·rw[h1]
  repeat((first|apply Z.t|apply Z.f|(apply Z.q;exact aE));conv=>lhs;whnf)
  rfl
theorem eA {E:aS} (U:Sys E) (s i:Int):E 135 [iv s,iv i]=some ([bv (cX s i)],[]):=by
 refine U.run rfl rfl fun W Z=>?_
 conv=>lhs;whnf
 apply Z.w (dK U s)
 conv=>lhs;whnf
 try(apply Z.q;exact aE;conv=>lhs;whnf)
 unfold cX
 apply Z.b<;>intro h1<;>conv=>lhs;whnf
 ·rw[h1]
  repeat((first|apply Z.t|apply Z.f|(apply Z.q;exact aE));conv=>lhs;whnf)
  apply Z.w (vV U i)
  conv=>lhs;whnf
  repeat((first|apply Z.t|apply Z.f|(apply Z.q;exact aE));conv=>lhs;whnf)
  apply Z.b<;>intro h2<;>conv=>lhs;whnf
  ·rw[h2]
   have:=bL h2
   repeat((first|apply Z.t|apply Z.f|(apply Z.q;exact aE));conv=>lhs;whnf)
   rfl
  ·rw[h2]
   repeat((first|apply Z.t|apply Z.f|(apply Z.q;exact aE));conv=>lhs;whnf)
   rfl
 ·rw[h1]
  repeat((first|apply Z.t|apply Z.f|(apply Z.q;exact aE));conv=>lhs;whnf)
  rfl
theorem aKa (a:aC):(⟨a.toArray⟩:ByteArray).toList=a:=by rw[ByteArray.toList_eq]
theorem aIa {E:aS} (U:Sys E) (a b:aC):E 14 [sv (aT a),sv (aT b)]=some ([bv (decide (a=b))],[]):=by
 refine U.run rfl rfl fun W Z=>?_
 conv=>lhs;whnf
 apply Z.w (aGQ a)
 conv=>lhs;whnf
 apply Z.w (aGQ b)
 conv=>lhs;whnf
 simp only[aKa]
 rfl
theorem aEk {E:aS} (U:Sys E) (a b:aC):E 15 [sv (aT a),sv (aT b)]=some ([bv (decide (a=b))],[]):=by
 refine U.run rfl rfl fun W Z=>?_
 conv=>lhs;whnf
 apply Z.w (aIa U a b)
 conv=>lhs;whnf
 try(apply Z.q;exact aE;conv=>lhs;whnf)
 rfl
theorem rZ {E:aS} (U:Sys E) (l m:List Sum) (h0:l.length≤1099511627776):E 235 [sv (l.map Sum.row),sv (m.map Sum.row)]=some ([bv (decide (l=m))],[]):=by
 refine U.run rfl rfl fun W Z=>?_
 conv=>lhs;whnf
 apply Z.b<;>intro h<;>conv=>lhs;whnf
 ·have:l≠m:=by rintro rfl;simp at h
  rw[decide_eq_false this];rfl
 ·have h:l.length=m.length:=by simp at h;omega
  refine Z.loop (σ:=Nat) (γ:=Nat) (fun i s=>s.sl 5 (v1 (.t (.int .i64 i)))) (fun i n=>i=n∧n≤l.length) (fun n=>l.length-n) (fun n=>([bv (decide (l.drop n=m.drop n))],[])) 0 0 ?_ ?_ ?_ ?_
  ·intro K
   conv=>lhs;whnf
   conv=>rhs;whnf
   try rfl
  ·simp
  ·rintro kl n _ ⟨rfl,hn⟩ ih
   conv=>lhs;whnf
   apply Z.b<;>intro h2<;>conv=>lhs;whnf
   ·have h2:n<l.length:=by simpa using h2
    rw[List.drop_eq_getElem_cons h2,List.drop_eq_getElem_cons (l:=m) (i:=n) (by omega)]
    repeat((first|apply Z.t|apply Z.f|(apply Z.q;exact aE)|(refine Z.w (cP ?_) ?_;omega));conv=>lhs;whnf)
    apply Z.b<;>intro h3<;>conv=>lhs;whnf
    ·have h3:l[n]≠m[n]:=by intro e;rw[e]at h3;simp at h3
     rw[decide_eq_false fun e=>h3 (List.cons.inj e).1];rfl
    ·have h3:l[n]=m[n]:=by
      revert h3
      generalize l[n]=x
      generalize m[n]=y
      cases x;cases y
      simp
     simp only[h3,List.cons.injEq,true_and]
     refine ih (n+1) (n+1) _ ?_ ⟨rfl,by omega⟩ (by omega)
     intro K
     conv=>lhs;whnf
     conv=>rhs;whnf
     try rfl
     rw[show IntKind.i64.wrap ((n:Int)+1)=_ from aO (by omega)]
     try rfl
   ·have:n=l.length:=by simp at h2;omega
    subst this
    rw[List.drop_length,h,List.drop_length];rfl
  ·rfl
theorem sB {E:aS} (U:Sys E) (l m:List Sum) (h0:l.length≤1099511627776):E 248 [sv (l.map Sum.row),sv (m.map Sum.row)]=some ([bv (decide (l=m))],[]):=by
 refine U.run rfl rfl fun W Z=>?_
 conv=>lhs;whnf
 apply Z.b<;>intro h<;>conv=>lhs;whnf
 ·have:l≠m:=by rintro rfl;simp at h
  rw[decide_eq_false this];rfl
 ·have h:l.length=m.length:=by simp at h;omega
  refine Z.loop (σ:=Nat) (γ:=Nat) (fun i s=>s.sl 13 (v1 (.t (.int .i64 i)))) (fun i n=>i=n∧n≤l.length) (fun n=>l.length-n) (fun n=>([bv (decide (l.drop n=m.drop n))],[])) 0 0 ?_ ?_ ?_ ?_
  ·intro K
   conv=>lhs;whnf
   conv=>rhs;whnf
   try rfl
  ·simp
  ·rintro kl n _ ⟨rfl,hn⟩ ih
   conv=>lhs;whnf
   apply Z.b<;>intro h2<;>conv=>lhs;whnf
   ·have h2:n<l.length:=by simpa using h2
    rw[List.drop_eq_getElem_cons h2,List.drop_eq_getElem_cons (l:=m) (i:=n) (by omega)]
    repeat((first|apply Z.t|apply Z.f|(apply Z.q;exact aE)|(refine Z.w (cP ?_) ?_;omega));conv=>lhs;whnf)
    apply Z.b<;>intro h3<;>conv=>lhs;whnf
    ·have h3:l[n]≠m[n]:=by intro e;rw[e]at h3;simp at h3
     rw[decide_eq_false fun e=>h3 (List.cons.inj e).1];rfl
    ·have h3:l[n]=m[n]:=by
      revert h3
      generalize l[n]=x
      generalize m[n]=y
      cases x;cases y
      simp
     simp only[h3,List.cons.injEq,true_and]
     refine ih (n+1) (n+1) _ ?_ ⟨rfl,by omega⟩ (by omega)
     intro K
     conv=>lhs;whnf
     conv=>rhs;whnf
     try rfl
     rw[show IntKind.i64.wrap ((n:Int)+1)=_ from aO (by omega)]
     try rfl
   ·have:n=l.length:=by simp at h2;omega
    subst this
    rw[List.drop_length,h,List.drop_length];rfl
  ·rfl
theorem gB {E:aS} (U:Sys E) (a b:Man) (h0:a.sums.length≤1099511627776):E 285 [gv (a.cs aJ),gv (b.cs aJ)]=some ([bv (decide (a=b))],[]):=by
 refine U.run rfl rfl fun W Z=>?_
 conv=>lhs;whnf
 have key:decide (a=b)=(decide (a.gen=b.gen)&&(decide (a.size=b.size)&&(decide (a.len=b.len)&&decide (a.sums=b.sums)))):=by
  cases a;cases b;simp
 rw[key]
 apply Z.b<;>intro h1<;>conv=>lhs;whnf
 ·rw[h1]
  repeat((first|apply Z.t|apply Z.f|(apply Z.q;exact aE));conv=>lhs;whnf)
  apply Z.b<;>intro h2<;>conv=>lhs;whnf
  ·rw[h2]
   repeat((first|apply Z.t|apply Z.f|(apply Z.q;exact aE));conv=>lhs;whnf)
   apply Z.b<;>intro h3<;>conv=>lhs;whnf
   ·rw[h3]
    repeat((first|apply Z.t|apply Z.f|(apply Z.q;exact aE));conv=>lhs;whnf)
    apply Z.w (rZ U a.sums b.sums h0)
    conv=>lhs;whnf
    repeat((first|apply Z.t|apply Z.f|(apply Z.q;exact aE));conv=>lhs;whnf)
    rfl
   ·rw[h3]
    repeat((first|apply Z.t|apply Z.f|(apply Z.q;exact aE));conv=>lhs;whnf)
    rfl
  ·rw[h2]
   repeat((first|apply Z.t|apply Z.f|(apply Z.q;exact aE));conv=>lhs;whnf)
   rfl
 ·rw[h1]
  repeat((first|apply Z.t|apply Z.f|(apply Z.q;exact aE));conv=>lhs;whnf)
  rfl
theorem aG4 {E:aS} (U:Sys E) (a b:Man) (h0:a.sums.length≤1099511627776):E 286 [gv (a.cs aJ),gv (b.cs aJ)]=some ([bv (decide (a=b))],[]):=by
 refine U.run rfl rfl fun W Z=>?_
 conv=>lhs;whnf
 have key:decide (a=b)=(decide (a.gen=b.gen)&&(decide (a.size=b.size)&&(decide (a.len=b.len)&&decide (a.sums=b.sums)))):=by
  cases a;cases b;simp
 rw[key]
 apply Z.b<;>intro h1<;>conv=>lhs;whnf
 ·rw[h1]
  repeat((first|apply Z.t|apply Z.f|(apply Z.q;exact aE));conv=>lhs;whnf)
  apply Z.b<;>intro h2<;>conv=>lhs;whnf
  ·rw[h2]
   repeat((first|apply Z.t|apply Z.f|(apply Z.q;exact aE));conv=>lhs;whnf)
   apply Z.b<;>intro h3<;>conv=>lhs;whnf
   ·rw[h3]
    repeat((first|apply Z.t|apply Z.f|(apply Z.q;exact aE));conv=>lhs;whnf)
    apply Z.w (sB U a.sums b.sums h0)
    conv=>lhs;whnf
    repeat((first|apply Z.t|apply Z.f|(apply Z.q;exact aE));conv=>lhs;whnf)
    rfl
   ·rw[h3]
    repeat((first|apply Z.t|apply Z.f|(apply Z.q;exact aE));conv=>lhs;whnf)
    rfl
  ·rw[h2]
   repeat((first|apply Z.t|apply Z.f|(apply Z.q;exact aE));conv=>lhs;whnf)
   rfl
 ·rw[h1]
  repeat((first|apply Z.t|apply Z.f|(apply Z.q;exact aE));conv=>lhs;whnf)
  rfl
def nR (s:Int):Nat→Nat→List Int
 |_,0=>[]
 |i,k+1=>if cX s i=true then(i:Int)::nR s (i+1) k else nR s (i+1) k
def oW (s:Int):List Int:=nR s 0 40
theorem aNb {s:Int}:∀ {k i:Nat},(nR s i k).length≤k:=by
 intro k
 induction k with
 |zero=>intro i;exact Nat.le_refl _
 |succ k ih =>
  intro i
  simp only[nR]
  split
  ·have:=ih (i:=i+1);simp only[List.length_cons];omega
  ·have:=ih (i:=i+1);omega
theorem aPf {s:Int}:∀ {k i:Nat},∀ x∈nR s i k,0≤x:=by
 intro k
 induction k with
 |zero=>intro i x h;cases h
 |succ k ih =>
  intro i x h
  simp only[nR]at h
  split at h
  ·rcases List.mem_cons.mp h with rfl|h
   ·omega
   ·exact ih x h
  ·exact ih x h
theorem aKb {s:Int}:(oW s).length≤40:=aNb
theorem aPg (l:List Sum):kS (l.map Sum.row)=true:=aBN (fun _=>rfl) l
theorem aPh (l:List Sum):∀ e∈l.map Sum.row,e.length=2:=aBM fun _=>rfl
theorem aI (l:aC):(aT l).length=l.length:=List.length_map _
theorem aLL {E:aS} (U:Sys E) (l:List Sum) (h0:l.length≤68719476736):E 218 [sv (l.map Sum.row)]=some ([ov 2 (l.map Sum.row)],[]):=by
 have hfl:kS (l.map Sum.row)=true:=aBN (fun _=>rfl) l
 have hrl:(l.map Sum.row).length=l.length:=by simp[aT,bN]
 have hro:∀ e∈l.map Sum.row,e.length=2:=aBM fun _=>rfl
 refine U.run2 rfl rfl (fun W Z=>?_) (fun he W Z=>?_)
 ·conv=>lhs;whnf
  repeat((first|apply Z.t|apply Z.f|(apply Z.q;exact aE));conv=>lhs;whnf)
  refine Z.q (by exact⟨by decide,hro,by simp only[List.length_nil,hrl];omega,by simp only[List.length_nil,hrl];omega⟩) ?_
  conv=>lhs;whnf
  apply Z.bt (hfl)
  conv=>lhs;whnf
  rfl
 ·cases l with
  |cons x r=>exact absurd (show false=true from he) (by decide)
  |nil =>
   conv=>lhs;whnf
   repeat((first|apply Z.t|apply Z.f|(apply Z.q;exact aE));conv=>lhs;whnf)
   rfl
theorem dB {E:aS} (U:Sys E) (b:aC) (h0:b.length≤68719476736):E 42 [sv (aT b)]=some ([ov 1 (aT b)],[]):=by
 refine U.run rfl rfl fun W Z=>?_
 conv=>lhs;whnf
 refine Z.q (by exact⟨by omega, .inr rfl,by omega,by rw[aI];omega,by rw[aI];omega,by decide,rfl⟩) ?_
 conv=>lhs;whnf
 refine Z.q (by exact⟨by decide,bB _,by simp[aI];omega,by simp[aI];omega⟩) ?_
 conv=>lhs;whnf
 apply Z.bt (cI _)
 conv=>lhs;whnf
 rfl
theorem nS {E:aS} (U:Sys E) (x:Man) (h0:x.sums.length≤8388608):E 213 [gv (x.cs aJ)]=some ([gv (x.cs cT)],[]):=by
 refine U.run rfl rfl fun W Z=>?_
 conv=>lhs;whnf
 refine Z.q (by exact⟨by decide,aPh _,by simp;omega,by simp;omega⟩) ?_
 conv=>lhs;whnf
 apply Z.bt (aPg _)
 conv=>lhs;whnf
 rfl
theorem vX {E:aS} (U:Sys E) (x:Man) (h0:x.sums.length≤8388608):E 216 [gv (x.cs aJ)]=some ([gv (x.cs cT)],[]):=by
 refine U.run rfl rfl fun W Z=>?_
 conv=>lhs;whnf
 apply Z.w (aLL U x.sums (by omega))
 conv=>lhs;whnf
 repeat((first|apply Z.t|apply Z.f|(apply Z.q;exact aE));conv=>lhs;whnf)
 rfl
theorem aAi {E:aS} (U:Sys E) (x:Bld) (h0:x.buf.length≤8388608):E 214 [gv (x.cs aJ)]=some ([gv (x.cs cT)],[]):=by
 refine U.run rfl rfl fun W Z=>?_
 conv=>lhs;whnf
 refine Z.q (by exact⟨by decide,bB _,by rw[aI];omega,by rw[aI];omega,cI _⟩) ?_
 conv=>lhs;whnf
 rfl
theorem oX {E:aS} (U:Sys E) (x:Bld) (h0:x.buf.length≤8388608):E 217 [gv (x.cs aJ)]=some ([gv (x.cs cT)],[]):=by
 refine U.run rfl rfl fun W Z=>?_
 conv=>lhs;whnf
 apply Z.w (dB U x.buf (by omega))
 conv=>lhs;whnf
 repeat((first|apply Z.t|apply Z.f|(apply Z.q;exact aE));conv=>lhs;whnf)
 rfl
theorem jB {E:aS} (U:Sys E) (x:Node) (h0:x.lim 8388608):E 212 [gv (x.cs aJ)]=some ([gv (x.cs cT)],[]):=by
 obtain⟨h1,h2,h3⟩:=h0
 refine U.run rfl rfl fun W Z=>?_
 conv=>lhs;whnf
 apply Z.w (nS U x.man h1)
 conv=>lhs;whnf
 repeat((first|apply Z.t|apply Z.f|(apply Z.q;exact aE));conv=>lhs;whnf)
 apply Z.w (aAi U x.bld h2)
 conv=>lhs;whnf
 repeat((first|apply Z.t|apply Z.f|(apply Z.q;exact aE));conv=>lhs;whnf)
 refine Z.q (by exact⟨by decide,kids_rows _,by simp;omega,by simp;omega⟩) ?_
 conv=>lhs;whnf
 apply Z.bt (oV _)
 conv=>lhs;whnf
 rfl
theorem iG {E:aS} (U:Sys E) (x:Node) (h0:x.lim 8388608):E 215 [gv (x.cs aJ)]=some ([gv (x.cs cT)],[]):=by
 obtain⟨h1,h2,h3⟩:=h0
 refine U.run rfl rfl fun W Z=>?_
 conv=>lhs;whnf
 apply Z.w (vX U x.man h1)
 conv=>lhs;whnf
 repeat((first|apply Z.t|apply Z.f|(apply Z.q;exact aE));conv=>lhs;whnf)
 apply Z.w (oX U x.bld h2)
 conv=>lhs;whnf
 repeat((first|apply Z.t|apply Z.f|(apply Z.q;exact aE));conv=>lhs;whnf)
 apply Z.w (aEV U x.kids (by omega))
 conv=>lhs;whnf
 repeat((first|apply Z.t|apply Z.f|(apply Z.q;exact aE));conv=>lhs;whnf)
 rfl
def jC (r:Rec):Bool:=aR r.gen 0 1000000&&(aR r.slot 0 1&&aR r.len 0 240)
theorem sC {E:aS} (U:Sys E) (r:Rec):E 180 [gv r.cs]=some ([bv (jC r)],[]):=by
 refine U.run rfl rfl fun W Z=>?_
 conv=>lhs;whnf
 repeat'((first|apply Z.t|apply Z.f|(apply Z.q;exact aE)|apply Z.w (bK U _ _ _)|(apply Z.b<;>intro h))<;>conv=>lhs;whnf)
 all_goals(refine congrArg (fun b=>(some ([bv b],[]):Option cU)) ?_;first|rfl|(simp_all [jC];done)|(simp_all [jC]<;>(intros;omega)))
theorem aPi (n:Int):aR n 0 1=(decide (n=0)||decide (n=1)):=by
 rw[Bool.eq_iff_iff];simp[aR];omega
theorem aAj {E:aS} (U:Sys E) (n:Int):E 199 [iv n]=some ([bv (aR n 0 1)],[]):=by
 rw[aPi]
 refine U.run rfl rfl fun W Z=>?_
 conv=>lhs;whnf
 repeat'((first|apply Z.t|apply Z.f|(apply Z.q;exact aE)|(apply Z.b<;>intro h))<;>conv=>lhs;whnf)
 all_goals(refine congrArg (fun b=>(some ([bv b],[]):Option cU)) ?_;first|rfl|(simp_all [];done)|(simp_all []<;>(intros;omega)))
theorem qJ {E:aS} (U:Sys E) (n:Int):E 198 [iv n]=some ([bv (aR n 0 1000000)],[]):=by
 refine U.run rfl rfl fun W Z=>?_
 conv=>lhs;whnf
 repeat'((first|apply Z.t|apply Z.f|(apply Z.q;exact aE)|apply Z.w (bW U _ _ _)|(apply Z.b<;>intro h))<;>conv=>lhs;whnf)
 all_goals(refine congrArg (fun b=>(some ([bv b],[]):Option cU)) ?_;first|rfl|(simp_all [];done)|(simp_all []<;>(intros;omega)))
theorem sD {E:aS} (U:Sys E) (r:Rec):E 193 [gv r.cs]=some ([bv (jC r)],[]):=by
 refine U.run rfl rfl fun W Z=>?_
 conv=>lhs;whnf
 repeat'((first|apply Z.t|apply Z.f|(apply Z.q;exact aE)|apply Z.w (bW U _ _ _)|apply Z.w (qJ U _)|apply Z.w (aAj U _)|(apply Z.b<;>intro h))<;>conv=>lhs;whnf)
 all_goals(refine congrArg (fun b=>(some ([bv b],[]):Option cU)) ?_;first|rfl|(simp_all [jC];done)|(simp_all [jC]<;>(intros;omega)))
def gC (p:Put):Bool:=if p.what=2 then decide (p.at_=0)&&(decide (p.b=[])&&jC p.r) else aR p.what 0 1&&(aR p.at_ 0 240&&(decide ((p.b.length:Int)≤IntKind.i64.wrap (240-p.at_))&&decide (p.r=⟨0,0,0⟩)))
theorem bE (b:aC):((aT b).length:Int)=b.length:=by rw[aI]
theorem aC9 {E:aS} (U:Sys E) {o:Bool} (p:Put) (_:p.b.length≤8388608):E 182 [gv (p.cs aJ)]=some ([bv (gC p)],[]):=by
 obtain⟨w,a,b,⟨r1,r2,r3⟩⟩:=p
 refine U.run rfl rfl fun W Z=>?_
 conv=>lhs;whnf
 repeat'((first|apply Z.t|apply Z.f|(apply Z.q;exact aE)|apply Z.w (bK U _ _ _)|apply Z.w (sC U ⟨r1,r2,r3⟩)|(apply Z.b<;>intro h))<;>conv=>lhs;whnf)
 all_goals(refine congrArg (fun b=>(some ([bv b],[]):Option cU)) ?_;first|rfl|(simp_all [gC,bE];done)|(simp_all [gC,bE]<;>(intros;omega)))
theorem aKc {E:aS} (U:Sys E) (p:Put) (hp:p.b.length≤8388608):E 200 [gv (p.cs aJ)]=some ([bv (gC p)],[]):=by
 obtain⟨w,a,b,⟨r1,r2,r3⟩⟩:=p
 have hp:b.length≤8388608:=hp
 have hw:IntKind.i64.wrap (240-((aT b).length:Int))=240-b.length:=by rw[aI];exact aK (by omega)
 have hk:aR a 0 (240-b.length)=(aR a 0 240&&decide ((b.length:Int)≤IntKind.i64.wrap (240-a))):=by
  rw[Bool.eq_iff_iff]
  simp only[aR,Bool.and_eq_true,decide_eq_true_eq]
  constructor
  ·rintro⟨h1,h2⟩
   rw[show IntKind.i64.wrap (240-a)=240-a from aK (by omega)]
   omega
  ·rintro⟨⟨h1,h2⟩,h3⟩
   rw[show IntKind.i64.wrap (240-a)=240-a from aK (by omega)]at h3
   omega
 refine U.run rfl rfl fun W Z=>?_
 conv=>lhs;whnf
 repeat'((first|apply Z.t|apply Z.f|(apply Z.q;exact aE)|apply Z.w (bW U _ _ _)|apply Z.w (aAj U _)|apply Z.w (sD U ⟨r1,r2,r3⟩)|(apply Z.b<;>intro h))<;>conv=>lhs;whnf)
 all_goals(try rw[hw]at *)
 all_goals(try rw[hk]at *)
 all_goals(refine congrArg (fun b=>(some ([bv b],[]):Option cU)) ?_;first|rfl|(simp_all [gC,bE];done)|(simp_all [gC,bE]<;>(intros;omega)))
theorem vY {E:aS} (U:Sys E) {o:Bool} (d:Disk) (n:Int) (hn:n=1):E 181 [gv (d.cs aJ o),iv n]=some ([.v false [.alias 0 1 0 d.b.length]],[]):=by
 subst hn
 refine U.run rfl rfl fun W Z=>?_
 conv=>lhs;whnf
 repeat((first|apply Z.t|apply Z.f|(apply Z.q;exact aE));conv=>lhs;whnf)
 rw[show(aT d.b).length=d.b.length from List.length_map _]
 rfl
theorem vZ {E:aS} (U:Sys E) {o:Bool} (d:Disk) (n:Int) (hn:n≠1):E 181 [gv (d.cs aJ o),iv n]=some ([.v false [.alias 0 0 0 d.a.length]],[]):=by
 refine U.run rfl rfl fun W Z=>?_
 conv=>lhs;whnf
 apply Z.bf (by simpa using hn)
 conv=>lhs;whnf
 rw[show(aT d.a).length=d.a.length from List.length_map _]
 rfl
theorem aDa {E:aS} (U:Sys E) {f:Nat→List (List T)→CA} {o:Bool} (hf:∀ z e,f z e=aJ z e) (d:Disk) (n:Int) (hn:n=0):E 194 [.pt false (d.cs aJ o),iv n]=some ([.apt 0 0],[]):=by
 subst hn
 refine U.run rfl rfl fun W Z=>?_
 conv=>lhs;whnf
 repeat((first|apply Z.t|apply Z.f|(apply Z.q;exact aE));conv=>lhs;whnf)
 rfl
theorem aDb {E:aS} (U:Sys E) {o:Bool} (d:Disk) (n:Int) (hn:n≠0):E 194 [.pt false (d.cs aJ o),iv n]=some ([.apt 0 1],[]):=by
 refine U.run rfl rfl fun W Z=>?_
 conv=>lhs;whnf
 apply Z.bf (by simpa using hn)
 conv=>lhs;whnf
 rfl
theorem aLM {α:Type} {p:α→Bool} {l:List α}:∀ {n:Nat},decide (qH p n l≥0)=l.any p:=by
 induction l with
 |nil=>intro n;simp[qH]
 |cons x r ih =>
  intro n
  simp only[qH,List.any_cons]
  by_cases hp:p x=true
  ·simp[hp]
  ·have:=ih (n:=n+1)
   simp_all
theorem aNc {E:aS} (U:Sys E) (p:Put) (hp:p.b.length≤8388608):E 196 [gv (p.cs aJ)]=some ([bv (!gC p)],[]):=by
 refine U.run rfl rfl fun W Z=>?_
 conv=>lhs;whnf
 apply Z.w (aKc U p hp)
 conv=>lhs;whnf
 repeat((first|apply Z.t|apply Z.f|(apply Z.q;exact aE));conv=>lhs;whnf)
 rfl
theorem aFz {E:aS} (U:Sys E) {o:Bool} (l:List Put) (h0:l.length≤1099511627776) (hb:∀ x∈l,x.b.length≤8388608):E 197 [sv (l.map (Put.row o)), .fn 196 []]=some ([iv (qH (fun x:Put => !gC x) 0 l)],[]):=by
 have hrl:(l.map (Put.row o)).length=l.length:=by simp[aT,bN]
 refine U.run rfl rfl fun W Z=>?_
 conv=>lhs;whnf
 refine Z.loop (σ:=Nat) (γ:=Nat) (fun i s=>s.sl 8 (v1 (.t (.int .i64 i)))) (fun i n=>i=n∧n≤l.length) (fun n=>l.length-n) (fun n=>([iv (qH (fun x:Put => !gC x) n (l.drop n))],[])) 0 0 ?_ ?_ ?_ ?_
 ·intro K
  conv=>lhs;whnf
  conv=>rhs;whnf
  try rfl
 ·simp
 ·rintro kl n _ ⟨rfl,hn⟩ ih
  conv=>lhs;whnf
  apply Z.b<;>intro h2<;>conv=>lhs;whnf
  ·have h2:n<l.length:=by simpa[hrl] using h2
   rw[List.drop_eq_getElem_cons h2]
   repeat((first|apply Z.t|apply Z.f|(apply Z.q;exact aE)|(refine Z.w (cP ?_) ?_;omega));conv=>lhs;whnf)
   apply Z.w (aNc U l[n] (hb _ (List.getElem_mem h2)))
   conv=>lhs;whnf
   try(apply Z.q;exact aE;conv=>lhs;whnf)
   simp only[qH]
   apply Z.b<;>intro h3<;>conv=>lhs;whnf
   ·simp only[h3,if_true];rfl
   ·simp only[h3,if_false,Bool.false_eq_true]
    refine ih (n+1) (n+1) _ ?_ ⟨rfl,by omega⟩ (by omega)
    intro K
    conv=>lhs;whnf
    conv=>rhs;whnf
    try rfl
    rw[show IntKind.i64.wrap ((n:Int)+1)=_ from aO (by omega)]
    try rfl
  ·have:n=l.length:=by simp[hrl]at h2;omega
   subst this
   rw[List.drop_length];rfl
 ·rfl
theorem aAT {E:aS} (U:Sys E) {o:Bool} (l:List Put) (h0:l.length≤1099511627776) (hb:∀ x∈l,x.b.length≤8388608):E 195 [sv (l.map (Put.row o)), .fn 196 []]=some ([bv (l.any fun x => !gC x)],[]):=by
 refine U.run rfl rfl fun W Z=>?_
 conv=>lhs;whnf
 apply Z.w (aFz U l h0 hb)
 conv=>lhs;whnf
 try(apply Z.q;exact aE;conv=>lhs;whnf)
 rw[aLM]
 rfl
def iH (d:Disk):Bool:=decide ((d.a.length:Int)≤240)&&(decide ((d.b.length:Int)≤240)&&(jC d.r&&(decide (d.r.len≤((if d.r.slot=1 then d.b else d.a).length:Int))&&(decide ((d.p.length:Int)≤200)&&d.p.all gC))))
theorem xK {r:Rec} (h:jC r=true):r.slot=0∨r.slot=1:=by
 simp[jC,aR]at h;omega
theorem aG5 {E:aS} (U:Sys E) {o:Bool} (d:Disk) (hd:d.lim 8388608):E 191 [gv (d.cs aJ o)]=some ([bv (iH d)],[]):=by
 obtain⟨h1,h2,h3,h4⟩:=hd
 have hany:d.p.all gC = !(d.p.any fun x => !gC x):=by
  rw[Bool.eq_iff_iff];simp
 have hA:d.p.length≤1099511627776:=Nat.le_trans h3 (by decide)
 unfold iH
 rw[hany]
 have hR:=sD U d.r
 have hC:=aAT U (o:=o) d.p hA h4
 clear hany
 generalize (d.p.any fun x => !gC x)=q at hC ⊢
 cases hr:jC d.r
 ·rw[hr]at hR
  refine U.run rfl rfl fun W Z=>?_
  conv=>lhs;whnf
  repeat'((first|apply Z.t|apply Z.f|(apply Z.q;exact aE)|apply Z.w (hR)|(apply Z.b<;>intro h))<;>conv=>lhs;whnf)
  all_goals(refine congrArg (fun b=>(some ([bv b],[]):Option cU)) ?_;first|rfl|(simp_all [aI];done)|(simp_all [aI]<;>(intros;omega)))
 ·rw[hr]at hR
  rcases xK hr with hs|hs
  ·refine U.run rfl rfl fun W Z=>?_
   conv=>lhs;whnf
   repeat'((first|apply Z.t|apply Z.f|(apply Z.q;exact aE)|apply Z.w (hR)|apply Z.w (aDa U (fun _ _=>rfl) d d.r.slot hs)|apply Z.w (hC)|(apply Z.b<;>intro h))<;>conv=>lhs;whnf)
   all_goals(refine congrArg (fun b=>(some ([bv b],[]):Option cU)) ?_;first|rfl|(simp_all [aI];done)|(simp_all [aI]<;>(intros;omega)))
  ·refine U.run rfl rfl fun W Z=>?_
   conv=>lhs;whnf
   repeat'((first|apply Z.t|apply Z.f|(apply Z.q;exact aE)|apply Z.w (hR)|apply Z.w (aDb U d d.r.slot (by omega))|apply Z.w (hC)|(apply Z.b<;>intro h))<;>conv=>lhs;whnf)
   all_goals(refine congrArg (fun b=>(some ([bv b],[]):Option cU)) ?_;first|rfl|(simp_all [aI];done)|(simp_all [aI]<;>(intros;omega)))
theorem aG6 {E:aS} (U:Sys E) {o:Bool} (d:Disk) (hd:d.lim 8388608):E 177 [gv (d.cs aJ o)]=some ([bv (iH d)],[]):=by
 obtain⟨h1,h2,h3,h4⟩:=hd
 have hA:d.p.length≤1099511627776:=Nat.le_trans h3 (by decide)
 unfold iH
 have hR:=sC U d.r
 have key:∀ (W:Wd cU) (X:Option cU) (q:Bool),X=some ([bv q],[])→decide ((d.a.length:Int)≤240)=true→decide ((d.b.length:Int)≤240)=true→decide (d.r.len≤((if d.r.slot=1 then d.b else d.a).length:Int))=true→decide ((d.p.length:Int)≤200)=true →
  X=some ([bv (decide ((d.a.length:Int)≤240)&&(decide ((d.b.length:Int)≤240)&&(true&&(decide (d.r.len≤((if d.r.slot=1 then d.b else d.a).length:Int))&&(decide ((d.p.length:Int)≤200)&&q)))))],[]):=by
  intro W X q h h1 h2 h3 h4
  rw[h1,h2,h3,h4];exact h
 cases hr:jC d.r
 ·rw[hr]at hR
  refine U.run rfl rfl fun W Z=>?_
  conv=>lhs;whnf
  repeat'((first|apply Z.t|apply Z.f|(apply Z.q;exact aE)|apply Z.w (hR)|(apply Z.b<;>intro h))<;>conv=>lhs;whnf)
  all_goals(refine congrArg (fun b=>(some ([bv b],[]):Option cU)) ?_;first|rfl|(simp_all [aI];done)|(simp_all [aI]<;>(intros;omega)))
 ·rw[hr]at hR
  rcases xK hr with hs|hs
  ·refine U.run rfl rfl fun W Z=>?_
   conv=>lhs;whnf
   repeat'((first|apply Z.t|apply Z.f|(apply Z.q;exact aE)|apply Z.w (hR)|apply Z.w (vZ U d d.r.slot (by omega))|(apply Z.b<;>intro h))<;>conv=>lhs;whnf)
   all_goals(first|(refine congrArg (fun b=>(some ([bv b],[]):Option cU)) ?_;first|rfl|(simp_all [aI];done)|(simp_all [aI]<;>(intros;omega)))|skip)
   refine key W _ _ ?_ (by simp_all [aI];try omega) (by simp_all [aI];try omega) (by simp_all [aI];try omega) (by simp_all [aI];try omega)
   refine Z.loop (σ:=Nat) (γ:=Nat) (fun i s=>s.sl 3 (v1 (.t (.int .i64 i)))) (fun i n=>i=n∧n≤d.p.length) (fun n=>d.p.length-n) (fun n=>([bv ((d.p.drop n).all gC)],[])) 0 0 ?_ ?_ ?_ ?_
   ·intro K
    conv=>lhs;whnf
    conv=>rhs;whnf
    try rfl
   ·exact⟨rfl,by omega⟩
   ·rintro kl n _ ⟨rfl,hn⟩ ih
    conv=>lhs;whnf
    apply Z.b<;>intro g1<;>conv=>lhs;whnf
    ·have g1:n<d.p.length:=by simpa using g1
     rw[List.drop_eq_getElem_cons g1,List.all_cons]
     repeat((first|apply Z.t|apply Z.f|(apply Z.q;exact aE)|(refine Z.w (cP ?_) ?_;omega));conv=>lhs;whnf)
     apply Z.w (aC9 U (o:=o) d.p[n] (h4 _ (List.getElem_mem g1)))
     conv=>lhs;whnf
     try(apply Z.q;exact aE;conv=>lhs;whnf)
     apply Z.b<;>intro g2<;>conv=>lhs;whnf
     ·rw[jQ g2];rfl
     ·rw[gA g2]
      refine ih (n+1) (n+1) _ ?_ ⟨rfl,by omega⟩ (by omega)
      intro K
      conv=>lhs;whnf
      conv=>rhs;whnf
      try rfl
      rw[show IntKind.i64.wrap ((n:Int)+1)=_ from aO (by omega)]
      try rfl
    ·have:n=d.p.length:=by simp at g1;omega
     rw[this,List.drop_length];rfl
   ·rfl
  ·refine U.run rfl rfl fun W Z=>?_
   conv=>lhs;whnf
   repeat'((first|apply Z.t|apply Z.f|(apply Z.q;exact aE)|apply Z.w (hR)|apply Z.w (vY U d d.r.slot hs)|(apply Z.b<;>intro h))<;>conv=>lhs;whnf)
   all_goals(first|(refine congrArg (fun b=>(some ([bv b],[]):Option cU)) ?_;first|rfl|(simp_all [aI];done)|(simp_all [aI]<;>(intros;omega)))|skip)
   refine key W _ _ ?_ (by simp_all [aI];try omega) (by simp_all [aI];try omega) (by simp_all [aI];try omega) (by simp_all [aI];try omega)
   refine Z.loop (σ:=Nat) (γ:=Nat) (fun i s=>s.sl 3 (v1 (.t (.int .i64 i)))) (fun i n=>i=n∧n≤d.p.length) (fun n=>d.p.length-n) (fun n=>([bv ((d.p.drop n).all gC)],[])) 0 0 ?_ ?_ ?_ ?_
   ·intro K
    conv=>lhs;whnf
    conv=>rhs;whnf
    try rfl
   ·exact⟨rfl,by omega⟩
   ·rintro kl n _ ⟨rfl,hn⟩ ih
    conv=>lhs;whnf
    apply Z.b<;>intro g1<;>conv=>lhs;whnf
    ·have g1:n<d.p.length:=by simpa using g1
     rw[List.drop_eq_getElem_cons g1,List.all_cons]
     repeat((first|apply Z.t|apply Z.f|(apply Z.q;exact aE)|(refine Z.w (cP ?_) ?_;omega));conv=>lhs;whnf)
     apply Z.w (aC9 U (o:=o) d.p[n] (h4 _ (List.getElem_mem g1)))
     conv=>lhs;whnf
     try(apply Z.q;exact aE;conv=>lhs;whnf)
     apply Z.b<;>intro g2<;>conv=>lhs;whnf
     ·rw[jQ g2];rfl
     ·rw[gA g2]
      refine ih (n+1) (n+1) _ ?_ ⟨rfl,by omega⟩ (by omega)
      intro K
      conv=>lhs;whnf
      conv=>rhs;whnf
      try rfl
      rw[show IntKind.i64.wrap ((n:Int)+1)=_ from aO (by omega)]
      try rfl
    ·have:n=d.p.length:=by simp at g1;omega
     rw[this,List.drop_length];rfl
   ·rfl
theorem aIb {E:aS} (U:Sys E) {o:Bool} (d:Disk) (hd:d.lim 1048576):E 177 [gv (d.cs aJ o)]=some ([bv (iH d)],[]):=aG6 U d (Disk.lim_mono (by decide) hd)
theorem aIc {E:aS} (U:Sys E) {o:Bool} (d:Disk) (hd:d.lim 1048576):E 191 [gv (d.cs aJ o)]=some ([bv (iH d)],[]):=aG5 U d (Disk.lim_mono (by decide) hd)
def oY (a b:Int):Int:=if aR a 0 1000000000000=true∧aR b 1 1000000000000=true then IntKind.i64.wrap ((IntKind.i64.wrap (IntKind.i64.wrap (a+b)-1)).tdiv b) else 0
theorem aG7 {E:aS} (U:Sys E) (a b:Int):E 240 [iv a,iv b]=some ([iv (oY a b)],[]):=by
 have ha:=bK U a 0 1000000000000
 have hb:=bK U b 1 1000000000000
 unfold oY
 cases h1:aR a 0 1000000000000
 ·rw[h1]at ha
  refine U.run rfl rfl fun W Z=>?_
  conv=>lhs;whnf
  repeat'((first|apply Z.t|apply Z.f|(apply Z.q;exact aE)|apply Z.w (ha)|(apply Z.b<;>intro h))<;>conv=>lhs;whnf)
  all_goals(refine congrArg (fun b=>(some ([iv b],[]):Option cU)) ?_;first|rfl|(simp_all [];done)|(simp_all []<;>(intros;omega)))
 ·rw[h1]at ha
  cases h2:aR b 1 1000000000000
  ·rw[h2]at hb
   refine U.run rfl rfl fun W Z=>?_
   conv=>lhs;whnf
   repeat'((first|apply Z.t|apply Z.f|(apply Z.q;exact aE)|apply Z.w (ha)|apply Z.w (hb)|(apply Z.b<;>intro h))<;>conv=>lhs;whnf)
   all_goals(refine congrArg (fun b=>(some ([iv b],[]):Option cU)) ?_;first|rfl|(simp_all [];done)|(simp_all []<;>(intros;omega)))
  ·rw[h2]at hb
   have:=bL h2
   refine U.run rfl rfl fun W Z=>?_
   conv=>lhs;whnf
   repeat'((first|apply Z.t|apply Z.f|(apply Z.q;exact aE)|apply Z.w (ha)|apply Z.w (hb)|(apply Z.b<;>intro h))<;>conv=>lhs;whnf)
   rfl
theorem aG8 {E:aS} (U:Sys E) (a b:Int):E 253 [iv a,iv b]=some ([iv (oY a b)],[]):=by
 have ha:=bW U a 0 1000000000000
 have hb:=bW U b 1 1000000000000
 unfold oY
 cases h1:aR a 0 1000000000000
 ·rw[h1]at ha
  refine U.run rfl rfl fun W Z=>?_
  conv=>lhs;whnf
  repeat'((first|apply Z.t|apply Z.f|(apply Z.q;exact aE)|apply Z.w (ha)|(apply Z.b<;>intro h))<;>conv=>lhs;whnf)
  all_goals(refine congrArg (fun b=>(some ([iv b],[]):Option cU)) ?_;first|rfl|(simp_all [];done)|(simp_all []<;>(intros;omega)))
 ·rw[h1]at ha
  cases h2:aR b 1 1000000000000
  ·rw[h2]at hb
   refine U.run rfl rfl fun W Z=>?_
   conv=>lhs;whnf
   repeat'((first|apply Z.t|apply Z.f|(apply Z.q;exact aE)|apply Z.w (ha)|apply Z.w (hb)|(apply Z.b<;>intro h))<;>conv=>lhs;whnf)
   all_goals(refine congrArg (fun b=>(some ([iv b],[]):Option cU)) ?_;first|rfl|(simp_all [];done)|(simp_all []<;>(intros;omega)))
  ·rw[h2]at hb
   have:=bL h2
   refine U.run rfl rfl fun W Z=>?_
   conv=>lhs;whnf
   repeat'((first|apply Z.t|apply Z.f|(apply Z.q;exact aE)|apply Z.w (ha)|apply Z.w (hb)|(apply Z.b<;>intro h))<;>conv=>lhs;whnf)
   rfl
def cD (size n:Int):Bool:=aR size 2 6&&aR n 0 (IntKind.i64.wrap (size*40))
theorem nT {E:aS} (U:Sys E) (size n:Int):E 239 [iv size,iv n]=some ([bv (cD size n)],[]):=by
 refine U.run rfl rfl fun W Z=>?_
 conv=>lhs;whnf
 repeat'((first|apply Z.t|apply Z.f|(apply Z.q;exact aE)|apply Z.w (bK U _ _ _)|(apply Z.b<;>intro h))<;>conv=>lhs;whnf)
 all_goals(refine congrArg (fun b=>(some ([bv b],[]):Option cU)) ?_;first|rfl|(simp_all [cD];done)|(simp_all [cD]<;>(intros;omega)))
theorem aAk {E:aS} (U:Sys E) (size n:Int):E 252 [iv size,iv n]=some ([bv (cD size n)],[]):=by
 have:size*40=40*size:=Int.mul_comm _ _
 unfold cD
 rw[this]
 refine U.run rfl rfl fun W Z=>?_
 conv=>lhs;whnf
 repeat'((first|apply Z.t|apply Z.f|(apply Z.q;exact aE)|apply Z.w (bW U _ _ _)|(apply Z.b<;>intro h))<;>conv=>lhs;whnf)
 all_goals(refine congrArg (fun b=>(some ([bv b],[]):Option cU)) ?_;first|rfl|(simp_all [];done)|(simp_all []<;>(intros;omega)))
def bA (size n:Int):Int:=if cD size n=true then oY n size else 0
theorem kJ {E:aS} (U:Sys E) (size n:Int):E 236 [iv size,iv n]=some ([iv (bA size n)],[]):=by
 have ha:=nT U size n
 unfold bA
 cases h1:cD size n
 ·rw[h1]at ha
  refine U.run rfl rfl fun W Z=>?_
  conv=>lhs;whnf
  repeat'((first|apply Z.t|apply Z.f|(apply Z.q;exact aE)|apply Z.w (ha)|(apply Z.b<;>intro h))<;>conv=>lhs;whnf)
  all_goals(refine congrArg (fun b=>(some ([iv b],[]):Option cU)) ?_;first|rfl|(simp_all [];done)|(simp_all []<;>(intros;omega)))
 ·rw[h1]at ha
  refine U.run rfl rfl fun W Z=>?_
  conv=>lhs;whnf
  repeat'((first|apply Z.t|apply Z.f|(apply Z.q;exact aE)|apply Z.w (ha)|apply Z.w (aG7 U n size)|(apply Z.b<;>intro h))<;>conv=>lhs;whnf)
  rfl
theorem iC {E:aS} (U:Sys E) (size n:Int):E 249 [iv size,iv n]=some ([iv (bA size n)],[]):=by
 have ha:=aAk U size n
 unfold bA
 cases h1:cD size n
 ·rw[h1]at ha
  refine U.run rfl rfl fun W Z=>?_
  conv=>lhs;whnf
  repeat'((first|apply Z.t|apply Z.f|(apply Z.q;exact aE)|apply Z.w (ha)|(apply Z.b<;>intro h))<;>conv=>lhs;whnf)
  all_goals(refine congrArg (fun b=>(some ([iv b],[]):Option cU)) ?_;first|rfl|(simp_all [];done)|(simp_all []<;>(intros;omega)))
 ·rw[h1]at ha
  refine U.run rfl rfl fun W Z=>?_
  conv=>lhs;whnf
  repeat'((first|apply Z.t|apply Z.f|(apply Z.q;exact aE)|apply Z.w (ha)|apply Z.w (aG8 U n size)|(apply Z.b<;>intro h))<;>conv=>lhs;whnf)
  rfl
theorem oZ {size n:Int} (h:cD size n=true):2≤size∧size≤6∧0≤n∧n≤size*40:=by
 simp only[cD,Bool.and_eq_true]at h
 obtain⟨h1,h2⟩:=h
 have h1:=bL h1
 rw[show IntKind.i64.wrap (size*40)=size*40 from aK (by omega)]at h2
 have h2:=bL h2
 omega
theorem kA {size n:Int} (h:cD size n=true):bA size n=(n+size-1)/size∧0≤bA size n∧bA size n≤40:=by
 obtain⟨h1,h2,h3,h4⟩:=oZ h
 have e:bA size n=(n+size-1)/size:=by
  unfold bA oY
  rw[if_pos h,if_pos ⟨by simp[aR];omega,by simp[aR];omega⟩]
  rw[show IntKind.i64.wrap (n+size)=n+size from aK (by omega),show IntKind.i64.wrap (n+size-1)=n+size-1 from aK (by omega),Int.tdiv_eq_ediv_of_nonneg (by omega)]
  apply aK
  obtain h5|h5|h5|h5|h5:size=2∨size=3∨size=4∨size=5∨size=6:=by omega
  all_goals(subst h5;omega)
 rw[e]
 refine⟨rfl,?_⟩
 obtain h5|h5|h5|h5|h5:size=2∨size=3∨size=4∨size=5∨size=6:=by omega
 all_goals(subst h5;omega)
def qK (a b:Int):Int:=if b<a then b else a
theorem aKd {E:aS} (U:Sys E) (a b:Int):E 242 [iv a,iv b]=some ([iv (qK a b)],[]):=by
 refine U.run rfl rfl fun W Z=>?_
 conv=>lhs;whnf
 repeat'((first|apply Z.t|apply Z.f|(apply Z.q;exact aE)|(apply Z.b<;>intro h))<;>conv=>lhs;whnf)
 all_goals(refine congrArg (fun b=>(some ([iv b],[]):Option cU)) ?_;first|rfl|(simp_all [qK];done)|(simp_all [qK]<;>(intros;omega)))
def aY (size n i:Int):Int:=if aR i 0 (IntKind.i64.wrap (bA size n-1))=true then IntKind.i64.wrap (i*size) else 0
def aU (size n i:Int):Int:=if aR i 0 (IntKind.i64.wrap (bA size n-1))=true then qK size (IntKind.i64.wrap (n-IntKind.i64.wrap (i*size))) else 0
theorem eG {E:aS} (U:Sys E) (size n i:Int):E 241 [iv size,iv n,iv i]=some ([iv (aY size n i),iv (aU size n i)],[]):=by
 have hb:=bK U i 0 (IntKind.i64.wrap (bA size n-1))
 unfold aY aU
 cases h2:aR i 0 (IntKind.i64.wrap (bA size n-1))
 ·rw[h2]at hb
  refine U.run rfl rfl fun W Z=>?_
  conv=>lhs;whnf
  repeat'((first|apply Z.t|apply Z.f|(apply Z.q;exact aE)|apply Z.w (kJ U size n)|apply Z.w (hb)|(apply Z.b<;>intro h))<;>conv=>lhs;whnf)
  rfl
 ·rw[h2]at hb
  refine U.run rfl rfl fun W Z=>?_
  conv=>lhs;whnf
  repeat'((first|apply Z.t|apply Z.f|(apply Z.q;exact aE)|apply Z.w (kJ U size n)|apply Z.w (hb)|apply Z.w (aKd U _ _)|(apply Z.b<;>intro h))<;>conv=>lhs;whnf)
  rfl
theorem iD {E:aS} (U:Sys E) (size n i:Int):E 254 [iv size,iv n,iv i]=some ([iv (aY size n i),iv (aU size n i)],[]):=by
 have hb:=bW U i 0 (IntKind.i64.wrap (bA size n-1))
 unfold aY aU
 cases h2:aR i 0 (IntKind.i64.wrap (bA size n-1))
 ·rw[h2]at hb
  refine U.run rfl rfl fun W Z=>?_
  conv=>lhs;whnf
  repeat'((first|apply Z.t|apply Z.f|(apply Z.q;exact aE)|apply Z.w (iC U size n)|apply Z.w (hb)|(apply Z.b<;>intro h))<;>conv=>lhs;whnf)
  rfl
 ·rw[h2]at hb
  refine U.run rfl rfl fun W Z=>?_
  conv=>lhs;whnf
  repeat'((first|apply Z.t|apply Z.f|(apply Z.q;exact aE)|apply Z.w (iC U size n)|apply Z.w (hb)|(apply Z.b<;>intro h))<;>conv=>lhs;whnf)
  rw[show ∀ b,qK size b=min size b from fun b=>by unfold qK;omega]
  rfl
def wx (x:Int) (c:UInt8):Int:=(IntKind.i64.wrap (x+IntKind.i64.wrap (c.toNat:Int))).tmod 251
def wy (y x:Int):Int:=(IntKind.i64.wrap (y+x)).tmod 251
def jR:aC→Int→Int→Int × Int
 |[],x,y=>(x,y)
 |c::r,x,y=>jR r (wx x c) (wy y (wx x c))
def bG (b:aC):Int:=IntKind.i64.wrap ((jR b 0 0).1+IntKind.i64.wrap (251*(jR b 0 0).2))
theorem aRV {x:Int} {c:UInt8} (h:0≤x∧x<251):0≤wx x c∧wx x c<251:=by
 have:=UInt8.toNat_lt c
 unfold wx
 rw[show IntKind.i64.wrap (c.toNat:Int)=c.toNat from aK (by omega),show IntKind.i64.wrap (x+c.toNat)=x+c.toNat from aK (by omega)]
 rw[Int.tmod_eq_emod_of_nonneg (by omega)]
 omega
theorem aUg {x y:Int} (h:0≤x∧x<251) (h':0≤y∧y<251):0≤wy y x∧wy y x<251:=by
 unfold wy
 rw[show IntKind.i64.wrap (y+x)=y+x from aK (by omega)]
 rw[Int.tmod_eq_emod_of_nonneg (by omega)]
 omega
theorem aRW {b:aC}:∀ {x y:Int},(0≤x∧x<251)→(0≤y∧y<251)→(0≤(jR b x y).1∧(jR b x y).1<251)∧(0≤(jR b x y).2∧(jR b x y).2<251):=by
 induction b with
 |nil=>intro x y h h';exact⟨h,h'⟩
 |cons c r ih=>intro x y h h';exact ih (aRV h) (aUg (aRV h) h')
theorem fD {E:aS} (U:Sys E) (b:aC) (h0:b.length≤1099511627776):E 243 [sv (aT b)]=some ([iv (bG b)],[]):=by
 refine U.run rfl rfl fun W Z=>?_
 conv=>lhs;whnf
 refine Z.loop (σ:=Nat × Int × Int) (γ:=Nat) (fun i s=>((s.sl 5 (v1 (.t (.int .i64 i.1)))).sl 3 (v1 (.t (.int .i64 i.2.1)))).sl 4 (v1 (.t (.int .i64 i.2.2)))) (fun i n=>i.1=n∧n≤b.length∧jR (b.drop n) i.2.1 i.2.2=jR b 0 0) (fun n=>b.length-n) (fun _=>([iv (bG b)],[])) (0,0,0) 0 ?_ ?_ ?_ ?_
 ·intro K
  conv=>lhs;whnf
  conv=>rhs;whnf
  try rfl
 ·exact⟨rfl,by omega,rfl⟩
 ·rintro kl ⟨n,x,y⟩ _ ⟨rfl,hn,hs⟩ ih
  simp only at hs hn
  conv=>lhs;whnf
  apply Z.b<;>intro h2<;>conv=>lhs;whnf
  ·have h2:n<b.length:=by simpa[aI] using h2
   rw[List.drop_eq_getElem_cons h2,jR]at hs
   repeat((first|apply Z.t|apply Z.f|(apply Z.q;exact aE)|(refine Z.w (cP ?_) ?_;omega));conv=>lhs;whnf)
   refine ih (n+1,wx x b[n],wy y (wx x b[n])) (n+1) _ ?_ ⟨rfl,by omega,hs⟩ (by omega)
   intro K
   conv=>lhs;whnf
   conv=>rhs;whnf
   try rfl
   rw[show IntKind.i64.wrap ((n:Int)+1)=_ from aO (by omega)]
   try rfl
  ·have:n=b.length:=by simp[aI]at h2;omega
   subst this
   rw[List.drop_length]at hs
   unfold bG
   rw[← hs];rfl
 ·rfl
def aEW (n m:Int):Int:=if aR m 1 1000000000000=true then(IntKind.i64.wrap (n.tmod m+m)).tmod m else 0
theorem aLN {E:aS} (U:Sys E) (n m:Int):E 268 [iv n,iv m]=some ([iv (aEW n m)],[]):=by
 have ha:=bK U m 1 1000000000000
 unfold aEW
 cases h1:aR m 1 1000000000000
 ·rw[h1]at ha
  refine U.run rfl rfl fun W Z=>?_
  conv=>lhs;whnf
  repeat'((first|apply Z.t|apply Z.f|(apply Z.q;exact aE)|apply Z.w (ha)|(apply Z.b<;>intro h))<;>conv=>lhs;whnf)
  all_goals(refine congrArg (fun b=>(some ([iv b],[]):Option cU)) ?_;first|rfl|(simp_all [];done)|(simp_all []<;>(intros;omega)))
 ·rw[h1]at ha
  have:=bL h1
  refine U.run rfl rfl fun W Z=>?_
  conv=>lhs;whnf
  repeat'((first|apply Z.t|apply Z.f|(apply Z.q;exact aE)|apply Z.w (ha)|(apply Z.b<;>intro h))<;>conv=>lhs;whnf)
  rfl
theorem aEX {E:aS} (U:Sys E) (n m:Int):E 258 [iv n,iv m]=some ([iv (aEW n m)],[]):=by
 have ha:=bW U m 1 1000000000000
 unfold aEW
 cases h1:aR m 1 1000000000000
 ·rw[h1]at ha
  refine U.run rfl rfl fun W Z=>?_
  conv=>lhs;whnf
  repeat'((first|apply Z.t|apply Z.f|(apply Z.q;exact aE)|apply Z.w (ha)|(apply Z.b<;>intro h))<;>conv=>lhs;whnf)
  all_goals(refine congrArg (fun b=>(some ([iv b],[]):Option cU)) ?_;first|rfl|(simp_all [];done)|(simp_all []<;>(intros;omega)))
 ·rw[h1]at ha
  have:=bL h1
  refine U.run rfl rfl fun W Z=>?_
  conv=>lhs;whnf
  repeat'((first|apply Z.t|apply Z.f|(apply Z.q;exact aE)|apply Z.w (ha)|(apply Z.b<;>intro h))<;>conv=>lhs;whnf)
  rfl
theorem aLO {n:Int} (h:0≤n∧n<251):aEW n 251=n:=by
 unfold aEW
 have e:n.tmod 251=n:=by rw[Int.tmod_eq_emod_of_nonneg (by omega)];omega
 rw[if_pos (by decide),e,show IntKind.i64.wrap (n+251)=n+251 from aK (by omega),Int.tmod_eq_emod_of_nonneg (by omega)]
 omega
theorem aLP {E:aS} (U:Sys E) (x y:Int) (hx:0≤x∧x<251) (hy:0≤y∧y<251):E 257 [iv x,iv y]=some ([iv (IntKind.i64.wrap (x+IntKind.i64.wrap (251*y)))],[]):=by
 have h1:=aEX U x 251
 have h2:=aEX U y 251
 rw[aLO hx]at h1
 rw[aLO hy]at h2
 refine U.run rfl rfl fun W Z=>?_
 conv=>lhs;whnf
 apply Z.w (h1)
 conv=>lhs;whnf
 repeat((first|apply Z.t|apply Z.f|(apply Z.q;exact aE));conv=>lhs;whnf)
 apply Z.w (h2)
 conv=>lhs;whnf
 repeat((first|apply Z.t|apply Z.f|(apply Z.q;exact aE));conv=>lhs;whnf)
 rfl
theorem fE {E:aS} (U:Sys E) (b:aC) (h0:b.length≤1099511627776):E 256 [sv (aT b)]=some ([iv (bG b)],[]):=by
 have hr:=aRW (b:=b) (x:=0) (y:=0) (by omega) (by omega)
 refine U.run rfl rfl fun W Z=>?_
 conv=>lhs;whnf
 refine Z.loop (σ:=Nat × Int × Int) (γ:=Nat) (fun i s=>((s.sl 9 (v1 (.t (.int .i64 i.1)))).sl 3 (v1 (.t (.int .i64 i.2.1)))).sl 4 (v1 (.t (.int .i64 i.2.2)))) (fun i n=>i.1=n∧n≤b.length∧jR (b.drop n) i.2.1 i.2.2=jR b 0 0) (fun n=>b.length-n) (fun _=>([iv (bG b)],[])) (0,0,0) 0 ?_ ?_ ?_ ?_
 ·intro K
  conv=>lhs;whnf
  conv=>rhs;whnf
  try rfl
 ·exact⟨rfl,by omega,rfl⟩
 ·rintro kl ⟨n,x,y⟩ _ ⟨rfl,hn,hs⟩ ih
  simp only at hs hn
  conv=>lhs;whnf
  apply Z.b<;>intro h2<;>conv=>lhs;whnf
  ·have h2:n<b.length:=by simpa[aI] using h2
   rw[List.drop_eq_getElem_cons h2,jR]at hs
   repeat((first|apply Z.t|apply Z.f|(apply Z.q;exact aE)|(refine Z.w (cP ?_) ?_;omega));conv=>lhs;whnf)
   refine ih (n+1,wx x b[n],wy y (wx x b[n])) (n+1) _ ?_ ⟨rfl,by omega,hs⟩ (by omega)
   intro K
   conv=>lhs;whnf
   conv=>rhs;whnf
   try rfl
   rw[show IntKind.i64.wrap ((n:Int)+1)=_ from aO (by omega)]
   try rfl
  ·have:n=b.length:=by simp[aI]at h2;omega
   subst this
   rw[List.drop_length,jR]at hs
   rw[← hs]at hr
   apply Z.w (aLP U x y hr.1 hr.2)
   conv=>lhs;whnf
   repeat((first|apply Z.t|apply Z.f|(apply Z.q;exact aE));conv=>lhs;whnf)
   unfold bG
   rw[← hs];rfl
 ·rfl
def eK:aC→Nat→Nat
 |[],s=>s
 |c::r,s=>eK r (256*s+c.toNat)
def bC (b:aC):Sum:=if(b.length:Int)>6 then⟨0,0⟩ else⟨bG b,eK b 1⟩
theorem aUS {s:Nat} {c:UInt8} (h:s≤562949953421312):aLJ (IntKind.i64.wrap ((s:Int)*2 ^ (min (8:Int).toNat IntKind.i64.bits))) (IntKind.i64.wrap (c.toNat:Int))=((256*s+c.toNat:Nat):Int):=by
 have hc:=UInt8.toNat_lt c
 rw[show((s:Int)*2 ^ (min (8:Int).toNat IntKind.i64.bits))=((256*s:Nat):Int) from by
  rw[show min (8:Int).toNat IntKind.i64.bits=8 from by decide];push_cast;omega]
 rw[show IntKind.i64.wrap ((256*s:Nat):Int)=((256*s:Nat):Int) from aK (by omega),show IntKind.i64.wrap (c.toNat:Int)=c.toNat from aK (by omega)]
 unfold aLJ
 have e:(BitVec.ofInt IntKind.i64.bits ((256*s:Nat):Int) ||| BitVec.ofInt IntKind.i64.bits (c.toNat:Int)).toNat=256*s+c.toNat:=by
  rw[BitVec.toNat_or,BitVec.ofInt_natCast,BitVec.ofInt_natCast,BitVec.toNat_ofNat,BitVec.toNat_ofNat]
  rw[Nat.mod_eq_of_lt (show 256*s<2 ^ IntKind.i64.bits from by simp only[IntKind.bits];omega),Nat.mod_eq_of_lt (show c.toNat<2 ^ IntKind.i64.bits from by simp only[IntKind.bits];omega)]
  rw[show 256*s=2 ^ 8*s from rfl,Nat.two_pow_add_eq_or_of_lt (by omega)]
 rw[e]
 exact aK (by omega)
theorem aTB {b:aC}:∀ {s:Nat},s≤eK b s:=by
 induction b with
 |nil=>intro s;exact Nat.le_refl _
 |cons c r ih=>intro s;have:=ih (s:=256*s+c.toNat);simp only[eK];omega
theorem aF2 {b:aC}:∀ {s:Nat},eK b s<(s+1)*256 ^ b.length:=by
 induction b with
 |nil=>intro s;simp[eK]
 |cons c r ih =>
  intro s
  have:=ih (s:=256*s+c.toNat)
  have hc:=UInt8.toNat_lt c
  simp only[eK,List.length_cons,Nat.pow_succ]
  have h2:(256*s+c.toNat+1)*256 ^ r.length≤((s+1)*256)*256 ^ r.length:=Nat.mul_le_mul_right _ (by omega)
  have h3:(s+1)*(256 ^ r.length*256)=(s+1)*256*256 ^ r.length:=by rw[Nat.mul_comm (256 ^ r.length) 256,Nat.mul_assoc]
  omega
theorem aUT {b:aC} (h:b.length≤6):eK b 1≤562949953421312:=by
 have h1:=aF2 (b:=b) (s:=1)
 have h2:256 ^ b.length≤256 ^ 6:=Nat.pow_le_pow_right (by decide) h
 have h3:(1+1)*256 ^ b.length≤(1+1)*256 ^ 6:=Nat.mul_le_mul_left _ h2
 have h4:(1+1)*256 ^ 6=562949953421312:=by decide
 omega
theorem aJa {b:aC} {n:Nat} (h:b.length≤6) {s:Nat} (hs:eK (b.drop n) s=eK b 1):s≤562949953421312:=by
 have h1:=aTB (b:=b.drop n) (s:=s)
 have h2:=aUT h
 omega
theorem eS {E:aS} (U:Sys E) (b:aC) (h0:b.length≤1099511627776):E 238 [sv (aT b)]=some ([gv (bC b).cs],[]):=by
 unfold bC
 refine U.run rfl rfl fun W Z=>?_
 conv=>lhs;whnf
 rw[bE]
 apply Z.b<;>intro g<;>conv=>lhs;whnf
 ·rw[if_pos (by simpa using g)]
  rfl
 ·rw[if_neg (by simpa using g)]
  have g:b.length≤6:=by simp at g;omega
  refine Z.loop (σ:=Nat × Nat) (γ:=Nat) (fun i s=>(s.sl 4 (v1 (.t (.int .i64 i.1)))).sl 3 (v1 (.t (.int .i64 i.2)))) (fun i n=>i.1=n∧n≤b.length∧eK (b.drop n) i.2=eK b 1) (fun n=>b.length-n) (fun _=>([gv (Sum.cs ⟨bG b,eK b 1⟩)],[])) (0,1) 0 ?_ ?_ ?_ ?_
  ·intro K
   conv=>lhs;whnf
   conv=>rhs;whnf
   try rfl
  ·exact⟨rfl,by omega,rfl⟩
  ·rintro kl ⟨n,x⟩ _ ⟨rfl,hn,hs⟩ ih
   simp only at hs hn
   conv=>lhs;whnf
   apply Z.b<;>intro h2<;>conv=>lhs;whnf
   ·have h2:n<b.length:=by simpa[aI] using h2
    have hx:=aJa g hs
    have hc:=UInt8.toNat_lt b[n]
    rw[List.drop_eq_getElem_cons h2,eK]at hs
    repeat((first|apply Z.t|apply Z.f|(apply Z.q;exact aE)|(refine Z.w (cP ?_) ?_;omega));conv=>lhs;whnf)
    refine ih (n+1,256*x+b[n].toNat) (n+1) _ ?_ ⟨rfl,by omega,hs⟩ (by omega)
    intro K
    conv=>lhs;whnf
    conv=>rhs;whnf
    try rfl
    rw[show IntKind.i64.wrap ((n:Int)+1)=_ from aO (by omega),show IntKind.i64.wrap (256*(x:Int))=256*(x:Int) from aK (by omega),show IntKind.i64.wrap (b[n].toNat:Int)=b[n].toNat from aK (by omega),show IntKind.i64.wrap (256*(x:Int)+b[n].toNat)=((256*x+b[n].toNat:Nat):Int) from(aK (n:=256*(x:Int)+b[n].toNat) (by omega)).trans (by push_cast;rfl)]
    try rfl
   ·have:n=b.length:=by simp[aI]at h2;omega
    subst this
    rw[List.drop_length,eK]at hs
    apply Z.w (fD U b h0)
    conv=>lhs;whnf
    repeat((first|apply Z.t|apply Z.f|(apply Z.q;exact aE));conv=>lhs;whnf)
    rw[← hs];rfl
  ·rfl
theorem jD {E:aS} (U:Sys E) (b:aC) (h0:b.length≤1099511627776):E 251 [sv (aT b)]=some ([gv (bC b).cs],[]):=by
 unfold bC
 refine U.run rfl rfl fun W Z=>?_
 conv=>lhs;whnf
 rw[bE]
 apply Z.b<;>intro g<;>conv=>lhs;whnf
 ·rw[if_pos (by simpa using g)]
  rfl
 ·rw[if_neg (by simpa using g)]
  have g:b.length≤6:=by simp at g;omega
  refine Z.loop (σ:=Nat × Nat) (γ:=Nat) (fun i s=>(s.sl 12 (v1 (.t (.int .i64 i.1)))).sl 3 (v1 (.t (.int .i64 i.2)))) (fun i n=>i.1=n∧n≤b.length∧eK (b.drop n) i.2=eK b 1) (fun n=>b.length-n) (fun _=>([gv (Sum.cs ⟨bG b,eK b 1⟩)],[])) (0,1) 0 ?_ ?_ ?_ ?_
  ·intro K
   conv=>lhs;whnf
   conv=>rhs;whnf
   try rfl
  ·exact⟨rfl,by omega,rfl⟩
  ·rintro kl ⟨n,x⟩ _ ⟨rfl,hn,hs⟩ ih
   simp only at hs hn
   conv=>lhs;whnf
   apply Z.b<;>intro h2<;>conv=>lhs;whnf
   ·have h2:n<b.length:=by simpa[aI] using h2
    have hx:=aJa g hs
    rw[List.drop_eq_getElem_cons h2,eK]at hs
    repeat((first|apply Z.t|apply Z.f|(apply Z.q;exact aE)|(refine Z.w (cP ?_) ?_;omega));conv=>lhs;whnf)
    refine ih (n+1,256*x+b[n].toNat) (n+1) _ ?_ ⟨rfl,by omega,hs⟩ (by omega)
    intro K
    conv=>lhs;whnf
    conv=>rhs;whnf
    try rfl
    rw[show IntKind.i64.wrap ((n:Int)+1)=_ from aO (by omega),← aUS hx]
    try rfl
   ·have:n=b.length:=by simp[aI]at h2;omega
    subst this
    rw[List.drop_length,eK]at hs
    apply Z.w (fE U b h0)
    conv=>lhs;whnf
    repeat((first|apply Z.t|apply Z.f|(apply Z.q;exact aE));conv=>lhs;whnf)
    rw[← hs];rfl
  ·rfl
theorem gJ {size n i:Int}:(aU size n i=0∧aY size n i=0)∨(0≤aY size n i∧1≤aU size n i∧aU size n i≤6∧aY size n i+aU size n i≤n∧n≤240):=by
 unfold aU aY
 by_cases h:aR i 0 (IntKind.i64.wrap (bA size n-1))=true
 ·right
  rw[if_pos h,if_pos h]
  have h1:=bL h
  by_cases hs:cD size n=true
  ·obtain⟨e1,e2,e3⟩:=kA hs
   obtain⟨s1,s2,s3,s4⟩:=oZ hs
   rw[show IntKind.i64.wrap (bA size n-1)=bA size n-1 from aK (by omega)]at h1
   rw[e1]at h1
   obtain h5|h5|h5|h5|h5:size=2∨size=3∨size=4∨size=5∨size=6:=by omega
   all_goals
    subst h5
    have h6:0≤i∧i≤120:=by omega
    rw[show IntKind.i64.wrap (i*_)=i*_ from aK (by omega)]
    rw[show IntKind.i64.wrap (n-i*_)=n-i*_ from aK (by omega)]
    unfold qK
    split<;>omega
  ·have:bA size n=0:=by unfold bA;rw[if_neg hs]
   rw[this,show IntKind.i64.wrap ((0:Int)-1) = -1 from by decide]at h1
   omega
 ·left
  rw[if_neg h,if_neg h];exact⟨rfl,rfl⟩
def dR (b:aC) (size i:Int):aC:=(b.drop (aY size b.length i).toNat).take (aU size b.length i).toNat
def aKe (b:aC) (size i:Int):Bool := !decide (aU size b.length i=0)
theorem iI (b:aC) (l n:Nat):((aT b).drop l).take n=aT ((b.drop l).take n):=by rw[aRQ,aLG]
theorem aDc {E:aS} (U:Sys E) (b:aC) (at_ n:Int) (h0:b.length≤1048576) (h1:0≤at_) (h2:0≤n) (h3:at_+n≤b.length):E 255 [sv (aT b),iv at_,iv n]=some ([ov 1 (aT ((b.drop at_.toNat).take n.toNat)),bv true],[]):=by
 have ha:=bW U at_ 0 b.length
 have hb:=bW U n 0 (b.length-at_)
 rw[show aR at_ 0 b.length=true from by simp[aR];omega]at ha
 rw[show aR n 0 (b.length-at_)=true from by simp[aR];omega]at hb
 refine U.run rfl rfl fun W Z=>?_
 conv=>lhs;whnf
 rw[bE]
 apply Z.w (ha)
 conv=>lhs;whnf
 repeat((first|apply Z.t|apply Z.f|(apply Z.q;exact aE));conv=>lhs;whnf)
 rw[bE]
 rw[show IntKind.i64.wrap ((b.length:Int)-at_)=b.length-at_ from aK (by omega)]
 apply Z.w (hb)
 conv=>lhs;whnf
 repeat((first|apply Z.t|apply Z.f|(apply Z.q;exact aE));conv=>lhs;whnf)
 rw[show IntKind.i64.wrap (at_+n)=at_+n from aK (by omega)]
 repeat((first|apply Z.t|apply Z.f|(apply Z.q;exact aE));conv=>lhs;whnf)
 refine Z.q (by exact⟨by omega,by rw[aI];omega,bB b⟩) ?_
 conv=>lhs;whnf
 rw[iI]
 apply Z.w (dB U _ (by simp;omega))
 conv=>lhs;whnf
 repeat((first|apply Z.t|apply Z.f|(apply Z.q;exact aE));conv=>lhs;whnf)
 rw[show(at_+n).toNat-at_.toNat=n.toNat from by omega]
 rfl
theorem wA {E:aS} (U:Sys E) (b:aC) (size i:Int) (h0:b.length≤1048576):E 237 [sv (aT b),iv size,iv i]=some ([ov 1 (aT (dR b size i)),bv (aKe b size i)],[]):=by
 unfold dR aKe
 refine U.run rfl rfl fun W Z=>?_
 conv=>lhs;whnf
 rw[bE]
 apply Z.w (eG U size b.length i)
 conv=>lhs;whnf
 repeat((first|apply Z.t|apply Z.f|(apply Z.q;exact aE));conv=>lhs;whnf)
 have hs:=gJ (size:=size) (n:=b.length) (i:=i)
 generalize aY size b.length i=at_ at hs ⊢
 generalize aU size b.length i=n at hs ⊢
 apply Z.b<;>intro g<;>conv=>lhs;whnf
 ·have g:n=0:=by simpa using g
  subst g
  rfl
 ·have g:n≠0:=by simpa using g
  repeat((first|apply Z.t|apply Z.f|(apply Z.q;exact aE));conv=>lhs;whnf)
  rw[show IntKind.i64.wrap (at_+n)=at_+n from aK (by omega)]
  repeat((first|apply Z.t|apply Z.f|(apply Z.q;exact aE));conv=>lhs;whnf)
  refine Z.q (by exact⟨by omega,by rw[aI];omega,bB b⟩) ?_
  conv=>lhs;whnf
  rw[iI]
  refine Z.q (by exact⟨by decide,bB _,by rw[aI];simp;omega,by rw[aI];simp;omega⟩) ?_
  conv=>lhs;whnf
  apply Z.bt (cI _)
  conv=>lhs;whnf
  rw[show(at_+n).toNat-at_.toNat=n.toNat from by omega,decide_eq_false g]
  rfl
theorem aG9 {E:aS} (U:Sys E) (b:aC) (size i:Int) (h0:b.length≤1048576):E 250 [sv (aT b),iv size,iv i]=some ([ov 1 (aT (dR b size i)),bv (aKe b size i)],[]):=by
 unfold dR aKe
 refine U.run rfl rfl fun W Z=>?_
 conv=>lhs;whnf
 rw[bE]
 apply Z.w (iD U size b.length i)
 conv=>lhs;whnf
 repeat((first|apply Z.t|apply Z.f|(apply Z.q;exact aE));conv=>lhs;whnf)
 have hs:=gJ (size:=size) (n:=b.length) (i:=i)
 generalize aY size b.length i=at_ at hs ⊢
 generalize aU size b.length i=n at hs ⊢
 apply Z.b<;>intro g<;>conv=>lhs;whnf
 ·have g:n=0:=by simpa using g
  subst g
  rfl
 ·have g:n≠0:=by simpa using g
  apply Z.w (aDc U b at_ n h0 (by omega) (by omega) (by omega))
  conv=>lhs;whnf
  repeat((first|apply Z.t|apply Z.f|(apply Z.q;exact aE));conv=>lhs;whnf)
  rw[decide_eq_false g]
  rfl
def aAU (b:aC) (size:Int):Nat:=(bA size b.length).toNat
def aDd (b:aC) (size:Int) (n:Nat):List Sum:=(List.range n).map fun i:Nat=>bC (dR b size (i:Int))
def eT (b:aC) (size:Int):List Sum:=aDd b size (aAU b size)
theorem pA (size n:Int):0≤bA size n∧bA size n≤40:=by
 by_cases h:cD size n=true
 ·exact(kA h).2
 ·unfold bA;rw[if_neg h];omega
theorem lW (b:aC) (size:Int) (n:Nat):(aDd b size n).length=n:=by simp[aDd]
theorem aHa (b:aC) (size:Int) (n:Nat):(aDd b size n).map Sum.row++[Sum.row (bC (dR b size n))]=(aDd b size (n+1)).map Sum.row:=by
 simp[aDd,List.range_succ]
theorem wB (b:aC) (size:Int):(eT b size).length≤40:=by
 have:=pA size b.length
 unfold eT aAU
 rw[lW];omega
theorem mO (b:aC) (size i:Int):(dR b size i).length≤b.length:=by
 unfold dR;simp;omega
theorem aAl {E:aS} (U:Sys E) (b:aC) (size:Int) (h0:b.length≤1048576):E 234 [sv (aT b),iv size]=some ([ov 2 ((eT b size).map Sum.row)],[]):=by
 have hb:=pA size b.length
 have hk:((aAU b size:Nat):Int)=bA size b.length:=by unfold aAU;omega
 refine U.run rfl rfl fun W Z=>?_
 conv=>lhs;whnf
 refine Z.loop (σ:=Nat) (γ:=Nat) (fun i s=>(s.sl 6 (v1 (.t (.int .i64 i)))).bl ⟨50500,2, .own,(aDd b size i).map Sum.row⟩) (fun i n=>i=n∧n≤aAU b size) (fun n=>aAU b size-n) (fun _=>([ov 2 ((eT b size).map Sum.row)],[])) 0 0 ?_ ?_ ?_ ?_
 ·intro K
  conv=>lhs;whnf
  conv=>rhs;whnf
  try rfl
 ·exact⟨rfl,by omega⟩
 ·rintro kl n _ ⟨rfl,hn⟩ ih
  conv=>lhs;whnf
  rw[bE]
  apply Z.w (kJ U size b.length)
  conv=>lhs;whnf
  try(apply Z.q;exact aE;conv=>lhs;whnf)
  apply Z.b<;>intro g1<;>conv=>lhs;whnf
  ·have g1:(n:Int)<bA size b.length:=by simpa using g1
   apply Z.w (wA U b size n h0)
   conv=>lhs;whnf
   repeat((first|apply Z.t|apply Z.f|(apply Z.q;exact aE));conv=>lhs;whnf)
   apply Z.w (eS U (dR b size n) (Nat.le_trans (mO b size n) (by omega)))
   conv=>lhs;whnf
   repeat((first|apply Z.t|apply Z.f|(apply Z.q;exact aE));conv=>lhs;whnf)
   refine Z.q (by exact⟨by decide,by intro e he;simp at he;subst he;rfl,by simp[lW];omega,by simp[lW];omega⟩) ?_
   conv=>lhs;whnf
   repeat((first|apply Z.t|apply Z.f|(apply Z.q;exact aE));conv=>lhs;whnf)
   refine ih (n+1) (n+1) _ ?_ ⟨rfl,by omega⟩ (by omega)
   intro K
   conv=>lhs;whnf
   conv=>rhs;whnf
   try rfl
   rw[show IntKind.i64.wrap ((n:Int)+1)=_ from aO (by omega)]
   rw[← aHa]
   rfl
  ·have g1:¬ (n:Int)<bA size b.length:=by simpa using g1
   have:n=aAU b size:=by omega
   subst this
   rfl
 ·rfl
theorem aId {E:aS} (U:Sys E) (b:aC) (size:Int) (h0:b.length≤1048576):E 247 [sv (aT b),iv size]=some ([ov 2 ((eT b size).map Sum.row)],[]):=by
 have hb:=pA size b.length
 have hk:((aAU b size:Nat):Int)=bA size b.length:=by unfold aAU;omega
 refine U.run rfl rfl fun W Z=>?_
 conv=>lhs;whnf
 rw[bE]
 apply Z.w (iC U size b.length)
 conv=>lhs;whnf
 repeat((first|apply Z.t|apply Z.f|(apply Z.q;exact aE));conv=>lhs;whnf)
 rw[← hk]
 refine Z.loop (σ:=Nat) (γ:=Nat) (fun i s=>(s.sl 14 (v1 (.t (.int .i64 i)))).bl ⟨50500,2, .own,(aDd b size i).map Sum.row⟩) (fun i n=>i=n∧n≤aAU b size) (fun n=>aAU b size-n) (fun _=>([ov 2 ((eT b size).map Sum.row)],[])) 0 0 ?_ ?_ ?_ ?_
 ·intro K
  conv=>lhs;whnf
  conv=>rhs;whnf
  try rfl
 ·exact⟨rfl,by omega⟩
 ·rintro kl n _ ⟨rfl,hn⟩ ih
  conv=>lhs;whnf
  apply Z.b<;>intro g1<;>conv=>lhs;whnf
  ·have g1:n<aAU b size:=by simpa using g1
   apply Z.w (aG9 U b size n h0)
   conv=>lhs;whnf
   repeat((first|apply Z.t|apply Z.f|(apply Z.q;exact aE));conv=>lhs;whnf)
   apply Z.w (jD U (dR b size n) (Nat.le_trans (mO b size n) (by omega)))
   conv=>lhs;whnf
   repeat((first|apply Z.t|apply Z.f|(apply Z.q;exact aE));conv=>lhs;whnf)
   refine Z.q (by exact⟨by decide,by intro e he;simp at he;subst he;rfl,by simp[lW];omega,by simp[lW];omega⟩) ?_
   conv=>lhs;whnf
   repeat((first|apply Z.t|apply Z.f|(apply Z.q;exact aE));conv=>lhs;whnf)
   refine ih (n+1) (n+1) _ ?_ ⟨rfl,by omega⟩ (by omega)
   intro K
   conv=>lhs;whnf
   conv=>rhs;whnf
   try rfl
   rw[show IntKind.i64.wrap ((n:Int)+1)=_ from aO (by omega)]
   rw[← aHa]
   rfl
  ·have g1:¬ n<aAU b size:=by simpa using g1
   have:n=aAU b size:=by omega
   subst this
   rfl
 ·rfl
def lA (m:Man) (b:aC):Bool:=decide ((b.length:Int)=m.len)&&decide (eT b m.size=m.sums)
theorem aDe {E:aS} (U:Sys E) (m:Man) (b:aC) (h0:b.length≤1048576):E 233 [gv (m.cs aJ),sv (aT b)]=some ([bv (lA m b)],[]):=by
 have hl:=Nat.le_trans (wB b m.size) (show 40≤1099511627776 from by decide)
 refine U.run rfl rfl fun W Z=>?_
 conv=>lhs;whnf
 rw[bE]
 repeat'((first|apply Z.t|apply Z.f|(apply Z.q;exact aE)|apply Z.w (aAl U b m.size h0)|apply Z.w (rZ U (eT b m.size) m.sums hl)|(apply Z.b<;>intro h))<;>conv=>lhs;whnf)
 all_goals(refine congrArg (fun b=>(some ([bv b],[]):Option cU)) ?_;first|rfl|(simp_all [lA];done)|(simp_all [lA]<;>(intros;omega)))
theorem aKf {E:aS} (U:Sys E) (m:Man) (b:aC) (h0:b.length≤1048576):E 246 [gv (m.cs aJ),sv (aT b)]=some ([bv (lA m b)],[]):=by
 have hl:=Nat.le_trans (wB b m.size) (show 40≤1099511627776 from by decide)
 refine U.run rfl rfl fun W Z=>?_
 conv=>lhs;whnf
 rw[bE]
 repeat'((first|apply Z.t|apply Z.f|(apply Z.q;exact aE)|apply Z.w (aId U b m.size h0)|apply Z.w (sB U (eT b m.size) m.sums hl)|(apply Z.b<;>intro h))<;>conv=>lhs;whnf)
 all_goals(refine congrArg (fun b=>(some ([bv b],[]):Option cU)) ?_;first|rfl|(simp_all [lA];done)|(simp_all [lA]<;>(intros;omega)))
def aAV (d:Disk):aC:=if d.r.slot=1 then d.b else d.a
def nL (d:Disk):Int:=if iH d=true then d.r.gen else 0
def kP (d:Disk):aC:=if iH d=true then(aAV d).take d.r.len.toNat else[]
theorem aHb {d:Disk} (h:iH d=true):d.a.length≤240∧d.b.length≤240∧jC d.r=true∧d.r.len≤(aAV d).length∧d.p.length≤200∧d.p.all gC=true∧0≤d.r.len:=by
 simp only[iH,Bool.and_eq_true,decide_eq_true_eq]at h
 obtain⟨h1,h2,h3,h4,h5,h6⟩:=h
 have h7:0≤d.r.len:=by simp[jC,aR]at h3;omega
 exact⟨by omega,by omega,h3,h4,by omega,h6,h7⟩
theorem aEl (d:Disk):(kP d).length≤240:=by
 unfold kP
 split
 ·rename_i h
  obtain⟨h1,h2,h3,h4,h5,h6,h7⟩:=aHb h
  rw[List.length_take]
  unfold aAV at *
  by_cases hs:d.r.slot=1
  ·rw[if_pos hs];omega
  ·rw[if_neg hs];omega
 ·simp
theorem aN5 (b:aC):((aT b).drop 0).take b.length=aT b:=by rw[List.drop_zero,← aI b,List.take_length]
theorem aUh (b:aC) (n:Nat):((aT b).drop (0+0)).take (n-0)=aT (b.take n):=by rw[iI];simp
theorem aRX (b:aC) (n:Nat):((aT b).drop 0).take (n-0)=aT (b.take n):=by rw[iI];simp
theorem aHc {E:aS} (U:Sys E) {o:Bool} (d:Disk) (hd:d.lim 1048576):E 232 [gv (d.cs aJ o)]=some ([iv (nL d),ov 1 (aT (kP d))],[]):=by
 have hk:=aIb U (o:=o) d hd
 unfold nL kP
 cases h:iH d
 ·rw[h]at hk
  refine U.run rfl rfl fun W Z=>?_
  conv=>lhs;whnf
  repeat'((first|apply Z.t|apply Z.f|(apply Z.q;exact aE)|apply Z.w (hk)|(apply Z.b<;>intro h))<;>conv=>lhs;whnf)
  rfl
 ·rw[h]at hk
  obtain⟨h1,h2,h3,h4,h5,h6,h7⟩:=aHb h
  simp only[if_true]
  rcases xK h3 with hs|hs
  ·have e:aAV d=d.a:=if_neg (by omega)
   rw[e]at h4 ⊢
   refine U.run rfl rfl fun W Z=>?_
   conv=>lhs;whnf
   repeat'((first|apply Z.t|apply Z.f|(apply Z.q;exact aE)|apply Z.w (hk)|apply Z.w (vZ U d d.r.slot (by omega))|(apply Z.b<;>intro h))<;>conv=>lhs;whnf)
   rw[aN5]
   refine Z.q (by exact⟨by omega,by rw[aI];omega,bB _⟩) ?_
   conv=>lhs;whnf
   rw[aUh]
   refine Z.q (by exact⟨by decide,bB _,by rw[aI];simp;omega,by rw[aI];simp;omega,cI _⟩) ?_
   conv=>lhs;whnf
   rfl
  ·have e:aAV d=d.b:=if_pos hs
   rw[e]at h4 ⊢
   refine U.run rfl rfl fun W Z=>?_
   conv=>lhs;whnf
   repeat'((first|apply Z.t|apply Z.f|(apply Z.q;exact aE)|apply Z.w (hk)|apply Z.w (vY U d d.r.slot hs)|(apply Z.b<;>intro h))<;>conv=>lhs;whnf)
   rw[aN5]
   refine Z.q (by exact⟨by omega,by rw[aI];omega,bB _⟩) ?_
   conv=>lhs;whnf
   rw[aUh]
   refine Z.q (by exact⟨by decide,bB _,by rw[aI];simp;omega,by rw[aI];simp;omega,cI _⟩) ?_
   conv=>lhs;whnf
   rfl
theorem wC {E:aS} (U:Sys E) {o:Bool} (d:Disk) (hd:d.lim 1048576):E 245 [gv (d.cs aJ o)]=some ([iv (nL d),ov 1 (aT (kP d))],[]):=by
 have hk:=aIc U (o:=o) d hd
 unfold nL kP
 cases h:iH d
 ·rw[h]at hk
  refine U.run rfl rfl fun W Z=>?_
  conv=>lhs;whnf
  repeat'((first|apply Z.t|apply Z.f|(apply Z.q;exact aE)|apply Z.w (hk)|(apply Z.b<;>intro h))<;>conv=>lhs;whnf)
  rfl
 ·rw[h]at hk
  obtain⟨h1,h2,h3,h4,h5,h6,h7⟩:=aHb h
  simp only[if_true]
  rcases xK h3 with hs|hs
  ·have e:aAV d=d.a:=if_neg (by omega)
   rw[e]at h4 ⊢
   refine U.run rfl rfl fun W Z=>?_
   conv=>lhs;whnf
   repeat'((first|apply Z.t|apply Z.f|(apply Z.q;exact aE)|apply Z.w (hk)|apply Z.w (aDa U (fun _ _=>rfl) d d.r.slot hs)|(apply Z.b<;>intro h))<;>conv=>lhs;whnf)
   refine Z.q (by exact⟨by omega,by rw[aI];omega,bB _⟩) ?_
   conv=>lhs;whnf
   rw[aRX]
   apply Z.w (dB U _ (by simp;omega))
   conv=>lhs;whnf
   repeat((first|apply Z.t|apply Z.f|(apply Z.q;exact aE));conv=>lhs;whnf)
   rfl
  ·have e:aAV d=d.b:=if_pos hs
   rw[e]at h4 ⊢
   refine U.run rfl rfl fun W Z=>?_
   conv=>lhs;whnf
   repeat'((first|apply Z.t|apply Z.f|(apply Z.q;exact aE)|apply Z.w (hk)|apply Z.w (aDb U d d.r.slot (by omega))|(apply Z.b<;>intro h))<;>conv=>lhs;whnf)
   refine Z.q (by exact⟨by omega,by rw[aI];omega,bB _⟩) ?_
   conv=>lhs;whnf
   rw[aRX]
   apply Z.w (dB U _ (by simp;omega))
   conv=>lhs;whnf
   repeat((first|apply Z.t|apply Z.f|(apply Z.q;exact aE));conv=>lhs;whnf)
   rfl
theorem aEm {E:aS} (U:Sys E) (d:Disk) (m:Man) (hd:d.lim 1048576):E 244 [gv (d.cs aJ true),gv (m.cs aJ)]=some ([bv (decide (nL d=m.gen)&&lA m (kP d))],[]):=by
 have hl:=Nat.le_trans (aEl d) (show 240≤1048576 from by decide)
 refine U.run rfl rfl fun W Z=>?_
 conv=>lhs;whnf
 repeat'((first|apply Z.t|apply Z.f|(apply Z.q;exact aE)|apply Z.w (wC U (o:=true) d hd)|apply Z.w (aKf U m (kP d) hl)|(apply Z.b<;>intro h))<;>conv=>lhs;whnf)
 all_goals(refine congrArg (fun b=>(some ([bv b],[]):Option cU)) ?_;first|rfl|(simp_all [];done)|(simp_all []<;>(intros;omega)))
def lB (gen:Int) (b:aC) (size:Int):Man:=if aR gen 1 1000000=true∧cD size b.length=true then⟨gen,size,b.length,eT b size⟩ else⟨0,0,0,[]⟩
theorem aKg {E:aS} (U:Sys E) (gen:Int) (b:aC) (size:Int) (h0:b.length≤1048576):E 462 [iv gen,sv (aT b),iv size]=some ([gv ((lB gen b size).cs cT)],[]):=by
 have ha:=bK U gen 1 1000000
 have hb:=nT U size b.length
 unfold lB
 cases h1:aR gen 1 1000000
 ·rw[h1]at ha
  rw[if_neg (by simp)]
  refine U.run rfl rfl fun W Z=>?_
  conv=>lhs;whnf
  repeat'((first|apply Z.t|apply Z.f|(apply Z.q;exact aE)|apply Z.w (ha)|(apply Z.b<;>intro h))<;>conv=>lhs;whnf)
  rfl
 ·rw[h1]at ha
  cases h2:cD size b.length
  ·rw[h2]at hb
   rw[if_neg (by simp)]
   refine U.run rfl rfl fun W Z=>?_
   conv=>lhs;whnf
   try rw[bE]
   repeat'((first|apply Z.t|apply Z.f|(apply Z.q;exact aE)|apply Z.w (ha)|(apply Z.b<;>intro h))<;>conv=>lhs;whnf)
   rw[bE]
   repeat'((first|apply Z.t|apply Z.f|(apply Z.q;exact aE)|apply Z.w (hb)|(apply Z.b<;>intro h))<;>conv=>lhs;whnf)
   rfl
  ·rw[h2]at hb
   rw[if_pos ⟨rfl,rfl⟩]
   refine U.run rfl rfl fun W Z=>?_
   conv=>lhs;whnf
   repeat'((first|apply Z.t|apply Z.f|(apply Z.q;exact aE)|apply Z.w (ha)|(apply Z.b<;>intro h))<;>conv=>lhs;whnf)
   rw[bE]
   repeat'((first|apply Z.t|apply Z.f|(apply Z.q;exact aE)|apply Z.w (hb)|(apply Z.b<;>intro h))<;>conv=>lhs;whnf)
   rw[bE]
   repeat'((first|apply Z.t|apply Z.f|(apply Z.q;exact aE)|apply Z.w (aAl U b size h0)|(apply Z.b<;>intro h))<;>conv=>lhs;whnf)
   rfl
def aJb:aC→Int
 |[]=>0
 |c::r=>c.toNat+aJb r
def aJc:aC→Int
 |[]=>0
 |c::r=>((r.length:Int)+1)*c.toNat+aJc r
theorem aPj {a b k:Int} (h:a=b+251*k):a%251=b%251:=by omega
theorem aRY {b:aC}:∀ {x y:Int},(0≤x∧x<251)→(0≤y∧y<251)→(jR b x y).1=(x+aJb b)%251∧(jR b x y).2=(y+(b.length:Int)*x+aJc b)%251:=by
 induction b with
 |nil=>intro x y h h';simp only[jR,aJb,aJc,List.length_nil];constructor<;>omega
 |cons c r ih =>
  intro x y h h'
  have hc:=UInt8.toNat_lt c
  have h1:=aRV (c:=c) h
  have h2:=aUg h1 h'
  obtain⟨i1,i2⟩:=ih h1 h2
  have e1:wx x c=(x+c.toNat)%251:=by
   unfold wx
   rw[show IntKind.i64.wrap (c.toNat:Int)=c.toNat from aK (by omega),show IntKind.i64.wrap (x+c.toNat)=x+c.toNat from aK (by omega),Int.tmod_eq_emod_of_nonneg (by omega)]
  have e2:wy y (wx x c)=(y+wx x c)%251:=by
   unfold wy
   rw[show IntKind.i64.wrap (y+wx x c)=y+wx x c from aK (by omega),Int.tmod_eq_emod_of_nonneg (by omega)]
  simp only[jR,aJb,aJc,List.length_cons]
  rw[i1,i2]
  constructor
  ·omega
  ·generalize wx x c=x1 at *
   generalize wy y x1=y1 at *
   obtain⟨q,hq⟩:∃ q,x+c.toNat=251*q+x1:=⟨(x+c.toNat)/251,by omega⟩
   obtain⟨p,hp⟩:∃ p,y+x1=251*p+y1:=⟨(y+x1)/251,by omega⟩
   have m1:(r.length:Int)*(x+c.toNat)=251*((r.length:Int)*q)+r.length*x1:=by
    rw[hq,Int.mul_add,Int.mul_left_comm]
   have m2:(r.length:Int)*(x+c.toNat)=(r.length:Int)*x+r.length*c.toNat:=Int.mul_add _ _ _
   have m3:((r.length:Int)+1)*c.toNat=r.length*c.toNat+c.toNat:=by rw[Int.add_mul,Int.one_mul]
   have m4:(((r.length+1:Nat):Int))*x=r.length*x+x:=by push_cast;rw[Int.add_mul,Int.one_mul]
   rw[m3,m4]
   apply(aPj (k:=(r.length:Int)*q+q+p) ?_).symm
   generalize (r.length:Int)*q=u at *
   generalize (r.length:Int)*x1=v at *
   generalize (r.length:Int)*x=w at *
   generalize (r.length:Int)*(c.toNat:Int)=z at *
   omega
theorem qL (b:aC):bG b=aJb b%251+251*(aJc b%251):=by
 obtain⟨h1,h2⟩:=aRY (b:=b) (x:=0) (y:=0) (by omega) (by omega)
 unfold bG
 rw[h1,h2]
 rw[show(0:Int)+(b.length:Int)*0+aJc b=aJc b from by omega,show(0:Int)+aJb b=aJb b from by omega]
 rw[show IntKind.i64.wrap (251*(aJc b%251))=251*(aJc b%251) from aK (by omega)]
 exact aK (by omega)
theorem aRZ {r:aC} {c:UInt8}:aJb (r++[c])=aJb r+c.toNat:=by
 induction r with
 |nil=>simp[aJb]
 |cons a r ih=>simp only[List.cons_append,aJb,ih];omega
theorem aR0 {r:aC} {c:UInt8}:aJc (r++[c])=aJc r+aJb r+c.toNat:=by
 induction r with
 |nil=>simp[aJb,aJc]
 |cons a r ih =>
  simp only[List.cons_append,aJc,aJb,ih,List.length_append,List.length_cons,List.length_nil]
  have:((r.length+(0+1):Nat):Int)+1=((r.length:Int)+1)+1:=by push_cast;omega
  rw[this,Int.add_mul ((r.length:Int)+1) 1,Int.one_mul]
  omega
theorem aAW {n:Int} (h : -1000000000000000≤n∧n≤1000000000000000):aEW n 251=n%251:=by
 unfold aEW
 rw[if_pos (by decide)]
 by_cases h0:0≤n
 ·rw[Int.tmod_eq_emod_of_nonneg h0,show IntKind.i64.wrap (n%251+251)=n%251+251 from aK (by omega),Int.tmod_eq_emod_of_nonneg (by omega)]
  omega
 ·obtain⟨m,rfl⟩:∃ m,n = -m:=⟨-n,by omega⟩
  have e:(-m).tmod 251 = -(m%251):=by rw[Int.neg_tmod,Int.tmod_eq_emod_of_nonneg (by omega)]
  rw[e,show IntKind.i64.wrap (-(m%251)+251) = -(m%251)+251 from aK (by omega),Int.tmod_eq_emod_of_nonneg (by omega)]
  omega
theorem aEY {E:aS} (U:Sys E) (w:Int):E 266 [iv w]=some ([bv (aR w 0 63000)],[]):=by
 refine U.run rfl rfl fun W Z=>?_
 conv=>lhs;whnf
 repeat'((first|apply Z.t|apply Z.f|(apply Z.q;exact aE)|apply Z.w (bK U _ _ _)|(apply Z.b<;>intro h))<;>conv=>lhs;whnf)
 rfl
theorem aDf {E:aS} (U:Sys E) (b:aC):E 267 [iv (bG b)]=some ([iv (aJb b%251),iv (aJc b%251)],[]):=by
 have e:=qL b
 generalize bG b=w at e ⊢
 have h:=aEY U w
 rw[show aR w 0 63000=true from by simp[aR];omega]at h
 refine U.run rfl rfl fun W Z=>?_
 conv=>lhs;whnf
 repeat'((first|apply Z.t|apply Z.f|(apply Z.q;exact aE)|apply Z.w (h)|(apply Z.b<;>intro h))<;>conv=>lhs;whnf)
 rw[Int.tmod_eq_emod_of_nonneg (by omega),Int.tdiv_eq_ediv_of_nonneg (by omega),show IntKind.i64.wrap (w/251)=w/251 from aK (by omega)]
 rw[show w%251=aJb b%251 from by omega,show w/251=aJc b%251 from by omega]
 rfl
theorem aLQ {E:aS} (U:Sys E) (o:UInt8) (r:aC) (c:UInt8) (n:Int) (hn:n=r.length+1) (hr:r.length≤6):E 265 [iv (bG (o::r)),iv n,iv (o.toNat:Int),iv (c.toNat:Int)]=some ([iv (bG (r++[c]))],[]):=by
 have ho:=UInt8.toNat_lt o
 have hc:=UInt8.toNat_lt c
 have h:=aEY U (bG (o::r))
 have e:=qL (o::r)
 rw[show aR (bG (o::r)) 0 63000=true from by simp[aR];omega]at h
 have h1:=bK U n 1 1000000000000
 rw[show aR n 1 1000000000000=true from by simp[aR];omega]at h1
 have h2:=bK U o.toNat 0 255
 rw[show aR o.toNat 0 255=true from by simp[aR];omega]at h2
 have h3:=bK U c.toNat 0 255
 rw[show aR c.toNat 0 255=true from by simp[aR];omega]at h3
 refine U.run rfl rfl fun W Z=>?_
 conv=>lhs;whnf
 repeat'((first|apply Z.t|apply Z.f|(apply Z.q;exact aE)|apply Z.w (h)|apply Z.w (h1)|apply Z.w (h2)|apply Z.w (h3)|apply Z.w (aDf U (o::r))|apply Z.w (aLN U _ _)|(apply Z.b<;>intro h))<;>conv=>lhs;whnf)
 have hz:0≤n*(o.toNat:Int)∧n*(o.toNat:Int)≤7*255:=⟨Int.mul_nonneg (by omega) (by omega),Int.mul_le_mul (by omega) (by omega) (by omega) (by omega)⟩
 have hP:aJc (o::r)=n*o.toNat+aJc r:=by rw[aJc,hn]
 have hS:aJb (o::r)=o.toNat+aJb r:=rfl
 have n1:n.tmod 251=n:=by rw[Int.tmod_eq_emod_of_nonneg (by omega)];omega
 rw[qL (r++[c]),aRZ,aR0,n1]
 rw[show IntKind.i64.wrap (n*(o.toNat:Int))=n*o.toNat from aK (by omega)]
 rw[hP,hS]
 generalize n*(o.toNat:Int)=z at *
 generalize hx:(o.toNat+aJb r)%251=X
 generalize hy:(z+aJc r)%251=Y
 rw[show IntKind.i64.wrap (X-(o.toNat:Int))=X-o.toNat from aK (by omega),show IntKind.i64.wrap (X-(o.toNat:Int)+c.toNat)=X-o.toNat+c.toNat from aK (by omega),show IntKind.i64.wrap (Y-z)=Y-z from aK (by omega)]
 rw[aAW (n:=X-o.toNat+c.toNat) (by omega),aAW (n:=Y-z) (by omega)]
 rw[show IntKind.i64.wrap ((Y-z)%251+(X-(o.toNat:Int)+c.toNat)%251)=(Y-z)%251+(X-(o.toNat:Int)+c.toNat)%251 from aK (by omega)]
 rw[aAW (n:=(Y-z)%251+(X-(o.toNat:Int)+c.toNat)%251) (by omega)]
 rw[show IntKind.i64.wrap (251*(((Y-z)%251+(X-(o.toNat:Int)+c.toNat)%251)%251))=251*(((Y-z)%251+(X-(o.toNat:Int)+c.toNat)%251)%251) from aK (by omega)]
 refine congrArg (fun b=>(some ([iv b],[]):Option cU)) ((aK (by omega)).trans ?_)
 omega
def aEn (b:aC) (n i:Nat):aC:=(b.drop i).take n
def wD (b:aC) (n k:Nat):List Int:=(List.range k).map fun i=>bG (aEn b n i)
theorem lX (b:aC) (n k:Nat):(wD b n k).length=k:=by simp[wD]
theorem aNd (b:aC) (n k:Nat):bN (wD b n k)++[[ti (bG (aEn b n k))]]=bN (wD b n (k+1)):=by
 simp[wD,List.range_succ,bN,mV]
def dS (b:aC) (n:Nat):List Int:=wD b n (if n≤b.length then b.length+1-n else 0)
theorem aR1 {b:aC} {n i:Nat} (hn:1≤n) (h:i+n<b.length):∃ r:aC,r.length+1=n∧aEn b n i=b[i]::r∧aEn b n (i+1)=r++[b[i+n]]:=by
 refine⟨(b.drop (i+1)).take (n-1),?_,?_,?_⟩
 ·simp;omega
 ·unfold aEn
  rw[List.drop_eq_getElem_cons (show i<b.length by omega)]
  obtain⟨m,rfl⟩:∃ m,n=m+1:=⟨n-1,by omega⟩
  rw[List.take_succ_cons];rfl
 ·unfold aEn
  obtain⟨m,rfl⟩:∃ m,n=m+1:=⟨n-1,by omega⟩
  rw[List.take_add_one]
  simp only[Nat.add_sub_cancel,List.getElem?_drop]
  rw[show i+1+m=i+(m+1) from by omega,List.getElem?_eq_getElem h]
  rfl
theorem aHd {E:aS} (U:Sys E) (b:aC) (n:Nat) (hb:b.length≤1048576) (hn:1≤n∧n≤6):E 264 [sv (aT b),iv n]=some ([ov 1 (bN (dS b n))],[]):=by
 unfold dS
 refine U.run rfl rfl fun W Z=>?_
 conv=>lhs;whnf
 apply Z.b<;>intro g0<;>conv=>lhs;whnf
 ·have:(n:Int)<1:=by simpa using g0
  omega
 ·repeat((first|apply Z.t|apply Z.f|(apply Z.q;exact aE));conv=>lhs;whnf)
  rw[bE]
  apply Z.b<;>intro g<;>conv=>lhs;whnf
  ·have g:(n:Int)>b.length:=by simpa using g
   rw[if_neg (by omega)]
   rfl
  ·have g:¬ (n:Int)>b.length:=by simpa using g
   rw[if_pos (by omega)]
   repeat((first|apply Z.t|apply Z.f|(apply Z.q;exact aE));conv=>lhs;whnf)
   refine Z.q (by exact⟨by omega,by rw[aI];omega,bB b⟩) ?_
   conv=>lhs;whnf
   rw[aRX,show((n:Int).toNat)=n from by omega]
   apply Z.w (fD U (b.take n) (by simp;omega))
   conv=>lhs;whnf
   repeat((first|apply Z.t|apply Z.f|(apply Z.q;exact aE));conv=>lhs;whnf)
   refine Z.loop (σ:=Nat) (γ:=Nat) (fun i s=>((s.sl 7 (v1 (.t (.int .i64 (i+n:Nat))))).sl 6 (v1 (.t (.int .i64 (bG (aEn b n i)))))).bl ⟨50500,1, .own,bN (wD b n (i+1))⟩) (fun i m=>i=m∧m+n≤b.length) (fun m=>b.length-m) (fun _=>([ov 1 (bN (wD b n (b.length+1-n)))],[])) 0 0 ?_ ?_ ?_ ?_
   ·intro K
    conv=>lhs;whnf
    conv=>rhs;whnf
    try rfl
    simp[wD,aEn,bN,mV]
   ·exact⟨rfl,by omega⟩
   ·rintro kl i _ ⟨rfl,hi⟩ ih
    conv=>lhs;whnf
    rw[bE]
    apply Z.b<;>intro g1<;>conv=>lhs;whnf
    ·have g1:i+n<b.length:=by
      have:((i+n:Nat):Int)<b.length:=by simpa using g1
      omega
     obtain⟨r,r1,r2,r3⟩:=aR1 hn.1 g1
     have c1:=UInt8.toNat_lt b[i]
     have c2:=UInt8.toNat_lt b[i+n]
     rw[show IntKind.i64.wrap (((i+n:Nat):Int)-(n:Int))=(i:Int) from(aK (by omega)).trans (by omega)]
     repeat((first|apply Z.t|apply Z.f|(apply Z.q;exact aE)|(refine Z.w (cP ?_) ?_;omega));conv=>lhs;whnf)
     rw[show IntKind.i64.wrap (b[i].toNat:Int)=b[i].toNat from aK (by omega),show IntKind.i64.wrap (b[i+n].toNat:Int)=b[i+n].toNat from aK (by omega),r2]
     apply Z.w (aLQ U b[i] r b[i+n] n (by omega) (by omega))
     conv=>lhs;whnf
     repeat((first|apply Z.t|apply Z.f|(apply Z.q;exact aE));conv=>lhs;whnf)
     refine Z.q (by exact⟨by decide,by intro e he;simp at he;subst he;rfl,by simp[lX,bN];omega,by simp[lX,bN];omega⟩) ?_
     conv=>lhs;whnf
     repeat((first|apply Z.t|apply Z.f|(apply Z.q;exact aE));conv=>lhs;whnf)
     refine ih (i+1) (i+1) _ ?_ ⟨rfl,by omega⟩ (by omega)
     intro K
     conv=>lhs;whnf
     conv=>rhs;whnf
     try rfl
     rw[show IntKind.i64.wrap (((i+n:Nat):Int)+1)=((i+1+n:Nat):Int) from(aO (by omega)).trans (by omega),← aNd b n (i+1),r3]
     rfl
    ·have g1:¬ i+n<b.length:=by
      have:¬ ((i+n:Nat):Int)<b.length:=by simpa using g1
      omega
     rw[show b.length+1-n=i+1 from by omega]
     rfl
   ·rfl
def aDg (p:Nat→Bool):Nat→Nat→Int
 |_,0 => -1
 |i,k+1=>if p i=true then(i:Int) else aDg p (i+1) k
def jE (b:aC) (s:Sum) (n:Int):Int:=if aR n 1 6=true then aDg (fun i=>decide (bC (aEn b n.toNat i)=s)) 0 (dS b n.toNat).length else -1
theorem aN6 (b:aC) (n i:Nat):(aEn b n i).length≤n:=by simp[aEn];omega
theorem aPk {w:aC} (h:w.length≤6) (s:Sum):(decide (bG w=s.w)&&decide (bC w=s))=decide (bC w=s):=by
 have:(bC w).w=bG w:=by unfold bC;rw[if_neg (by omega)]
 rw[Bool.eq_iff_iff]
 simp only[Bool.and_eq_true,decide_eq_true_eq]
 constructor
 ·exact fun h=>h.2
 ·intro h;exact⟨by rw[← this,h],h⟩
theorem aR2 (b:aC) (n k i:Nat) (h:i<k):(wD b n k)[i]?=some (bG (aEn b n i)):=by simp[wD,h]
theorem aHe {E:aS} (U:Sys E) (b:aC) (s:Sum) (n:Int) (hb:b.length≤1048576):E 263 [sv (aT b),gv s.cs,iv n]=some ([iv (jE b s n)],[]):=by
 have h1:=bK U n 1 6
 unfold jE
 cases hn:aR n 1 6
 ·rw[hn]at h1
  refine U.run rfl rfl fun W Z=>?_
  conv=>lhs;whnf
  repeat'((first|apply Z.t|apply Z.f|(apply Z.q;exact aE)|apply Z.w (h1)|(apply Z.b<;>intro h))<;>conv=>lhs;whnf)
  rfl
 ·rw[hn]at h1
  have hr:=bL hn
  obtain⟨m,rfl⟩:∃ m:Nat,n=m:=⟨n.toNat,by omega⟩
  rw[show((m:Int).toNat)=m from by omega]
  have hl:(bN (dS b m)).length=(dS b m).length:=List.length_map _
  have hl2:(dS b m).length+m≤b.length+1∨(dS b m).length=0:=by
   unfold dS;rw[lX];split<;>omega
  have hg:∀ i (h:i<(dS b m).length),(bN (dS b m))[(i:Int).toNat]?=some (mV (bG (aEn b m i))):=by
   intro i h
   unfold dS at h ⊢
   rw[lX]at h
   rw[bN,List.getElem?_map,show((i:Int).toNat)=i from by omega,aR2 _ _ _ _ h]
   rfl
  simp only[if_true]
  refine U.run rfl rfl fun W Z=>?_
  conv=>lhs;whnf
  apply Z.w (h1)
  conv=>lhs;whnf
  repeat((first|apply Z.t|apply Z.f|(apply Z.q;exact aE));conv=>lhs;whnf)
  apply Z.w (aHd U b m hb (by omega))
  conv=>lhs;whnf
  repeat((first|apply Z.t|apply Z.f|(apply Z.q;exact aE));conv=>lhs;whnf)
  generalize dS b m=l at hl hl2 hg ⊢
  refine Z.loop (σ:=Nat) (γ:=Nat) (fun i s=>s.sl 8 (v1 (.t (.int .i64 i)))) (fun i k=>i=k∧k≤l.length) (fun k=>l.length-k) (fun k=>([iv (aDg (fun i=>decide (bC (aEn b m i)=s)) k (l.length-k))],[])) 0 0 ?_ ?_ ?_ ?_
  ·intro K
   conv=>lhs;whnf
   conv=>rhs;whnf
   try rfl
  ·exact⟨rfl,by omega⟩
  ·rintro kl i _ ⟨rfl,hi⟩ ih
   conv=>lhs;whnf
   apply Z.b<;>intro g1<;>conv=>lhs;whnf
   ·have g1:i<l.length:=by simpa[hl] using g1
    have hw:=aN6 b m i
    rw[show l.length-i=(l.length-(i+1))+1 from by omega,aDg,← aPk (by omega)]
    repeat((first|apply Z.t|apply Z.f|(apply Z.q;exact aE));conv=>lhs;whnf)
    apply Z.w (hg i g1)
    conv=>lhs;whnf
    repeat((first|apply Z.t|apply Z.f|(apply Z.q;exact aE));conv=>lhs;whnf)
    apply Z.w (hg i g1)
    conv=>lhs;whnf
    repeat((first|apply Z.t|apply Z.f|(apply Z.q;exact aE));conv=>lhs;whnf)
    apply Z.b<;>intro g2<;>conv=>lhs;whnf
    ·rw[g2]
     repeat((first|apply Z.t|apply Z.f|(apply Z.q;exact aE));conv=>lhs;whnf)
     rw[show IntKind.i64.wrap ((i:Int)+(m:Int))=((i+m:Nat):Int) from(aK (by omega)).trans (by omega)]
     repeat((first|apply Z.t|apply Z.f|(apply Z.q;exact aE));conv=>lhs;whnf)
     refine Z.q (by exact⟨by omega,by rw[aI];omega,bB b⟩) ?_
     conv=>lhs;whnf
     repeat((first|apply Z.t|apply Z.f|(apply Z.q;exact aE));conv=>lhs;whnf)
     rw[show((aT b).drop (i:Int).toNat).take ((((i+m:Nat):Int)).toNat-(i:Int).toNat)=aT (aEn b m i) from by rw[iI];unfold aEn;congr 2<;>omega]
     apply Z.w (eS U (aEn b m i) (by omega))
     conv=>lhs;whnf
     repeat((first|apply Z.t|apply Z.f|(apply Z.q;exact aE));conv=>lhs;whnf)
     apply Z.b<;>intro g3<;>conv=>lhs;whnf
     ·have g3:bC (aEn b m i)=s:=by
       revert g3
       generalize bC (aEn b m i)=x
       cases x;cases s
       simp
      rw[decide_eq_true g3]
      rfl
     ·have g3:bC (aEn b m i)≠s:=by intro e;rw[e]at g3;simp at g3
      rw[decide_eq_false g3]
      simp only[Bool.and_false,if_false,Bool.false_eq_true]
      refine ih (i+1) (i+1) _ ?_ ⟨rfl,by omega⟩ (by omega)
      intro K
      conv=>lhs;whnf
      conv=>rhs;whnf
      try rfl
      rw[show IntKind.i64.wrap ((i:Int)+1)=_ from aO (by omega)]
      try rfl
    ·rw[g2]
     repeat((first|apply Z.t|apply Z.f|(apply Z.q;exact aE));conv=>lhs;whnf)
     simp only[Bool.false_and,if_false,Bool.false_eq_true]
     refine ih (i+1) (i+1) _ ?_ ⟨rfl,by omega⟩ (by omega)
     intro K
     conv=>lhs;whnf
     conv=>rhs;whnf
     try rfl
     rw[show IntKind.i64.wrap ((i:Int)+1)=_ from aO (by omega)]
   ·have:i=l.length:=by simp[hl]at g1;omega
    rw[this,Nat.sub_self];rfl
  ·rfl
theorem aNe (b:aC) (m:Nat):(dS b m).length=if m≤b.length then b.length+1-m else 0:=by unfold dS;rw[lX]
theorem aHf {E:aS} (U:Sys E) (b:aC) (s:Sum) (n:Int) (hb:b.length≤1048576):E 272 [sv (aT b),gv s.cs,iv n]=some ([iv (jE b s n)],[]):=by
 have h1:=bW U n 1 6
 unfold jE
 cases hn:aR n 1 6
 ·rw[hn]at h1
  refine U.run rfl rfl fun W Z=>?_
  conv=>lhs;whnf
  repeat'((first|apply Z.t|apply Z.f|(apply Z.q;exact aE)|apply Z.w (h1)|(apply Z.b<;>intro h))<;>conv=>lhs;whnf)
  rfl
 ·rw[hn]at h1
  have hr:=bL hn
  obtain⟨m,rfl⟩:∃ m:Nat,n=m:=⟨n.toNat,by omega⟩
  rw[show((m:Int).toNat)=m from by omega,aNe]
  simp only[if_true]
  refine U.run rfl rfl fun W Z=>?_
  conv=>lhs;whnf
  apply Z.w (h1)
  conv=>lhs;whnf
  repeat((first|apply Z.t|apply Z.f|(apply Z.q;exact aE));conv=>lhs;whnf)
  generalize hL:(if m≤b.length then b.length+1-m else 0)=L
  have hL':∀ i,i<L↔i+m≤b.length:=by intro i;rw[← hL];split<;>omega
  have hLb:L≤b.length:=by rw[← hL];split<;>omega
  refine Z.loop (σ:=Nat) (γ:=Nat) (fun i s=>s.sl 7 (v1 (.t (.int .i64 i)))) (fun i k=>i=k∧k≤L) (fun k=>L-k) (fun k=>([iv (aDg (fun i=>decide (bC (aEn b m i)=s)) k (L-k))],[])) 0 0 ?_ ?_ ?_ ?_
  ·intro K
   conv=>lhs;whnf
   conv=>rhs;whnf
   try rfl
  ·exact⟨rfl,by omega⟩
  ·rintro kl i _ ⟨rfl,hi⟩ ih
   conv=>lhs;whnf
   rw[bE,show IntKind.i64.wrap ((i:Int)+(m:Int))=((i+m:Nat):Int) from(aK (by omega)).trans (by omega)]
   apply Z.b<;>intro g1<;>conv=>lhs;whnf
   ·have g1:i+m≤b.length:=by
     have:((i+m:Nat):Int)≤b.length:=by simpa using g1
     omega
    have hw:=aN6 b m i
    rw[show L-i=(L-(i+1))+1 from by have:=(hL' i).2 g1;omega,aDg]
    repeat((first|apply Z.t|apply Z.f|(apply Z.q;exact aE));conv=>lhs;whnf)
    rw[show IntKind.i64.wrap ((i:Int)+(m:Int))=((i+m:Nat):Int) from(aK (by omega)).trans (by omega)]
    repeat((first|apply Z.t|apply Z.f|(apply Z.q;exact aE));conv=>lhs;whnf)
    refine Z.q (by exact⟨by omega,by rw[aI];omega,bB b⟩) ?_
    conv=>lhs;whnf
    rw[show((aT b).drop (i:Int).toNat).take ((((i+m:Nat):Int)).toNat-(i:Int).toNat)=aT (aEn b m i) from by rw[iI];unfold aEn;congr 2<;>omega]
    apply Z.w (jD U (aEn b m i) (by omega))
    conv=>lhs;whnf
    repeat((first|apply Z.t|apply Z.f|(apply Z.q;exact aE));conv=>lhs;whnf)
    apply Z.b<;>intro g3<;>conv=>lhs;whnf
    ·have g3:bC (aEn b m i)=s:=by
      revert g3
      generalize bC (aEn b m i)=x
      cases x;cases s
      simp
     rw[if_pos (decide_eq_true g3)]
     rfl
    ·have g3:bC (aEn b m i)≠s:=by intro e;rw[e]at g3;simp at g3
     rw[if_neg (by simpa using g3)]
     refine ih (i+1) (i+1) _ ?_ ⟨rfl,by have:=(hL' i).2 g1;omega⟩ (by have:=(hL' i).2 g1;omega)
     intro K
     conv=>lhs;whnf
     conv=>rhs;whnf
     try rfl
     rw[show IntKind.i64.wrap ((i:Int)+1)=_ from aO (by omega)]
     try rfl
   ·have g1:¬ i+m≤b.length:=by
     have:¬ ((i+m:Nat):Int)≤b.length:=by simpa using g1
     omega
    have hni:¬ i<L:=fun h=>g1 ((hL' i).1 h)
    have:i=L:=by omega
    rw[this,Nat.sub_self];rfl
  ·rfl
def bP (b:aC) (m:Man) (i:Int):Int :=
 if i<0 then -1 else match m.sums[i.toNat]? with
 |none => -1
 |some s=>jE b s (aU m.size m.len i)
theorem aNf (b:aC) (s:Sum):jE b s 0 = -1:=by unfold jE;rw[if_neg (by decide)]
theorem aJd {b:aC} {m:Man} {i:Int} (h:i<0∨(m.sums.length:Int)≤i):bP b m i = -1:=by
 unfold bP
 by_cases h0:i<0
 ·rw[if_pos h0]
 ·rw[if_neg h0,List.getElem?_eq_none (by omega)]
theorem aHg {b:aC} {m:Man} {n:Nat} (h:n<m.sums.length):bP b m n=jE b m.sums[n] (aU m.size m.len n):=by
 unfold bP
 rw[if_neg (by omega),show((n:Int).toNat)=n from by omega,List.getElem?_eq_getElem h]
theorem aR3 {size n i:Int} (h:i<0):aU size n i=0:=by
 unfold aU
 rw[if_neg (by simp[aR];omega)]
theorem aHh {E:aS} (U:Sys E) (b:aC) (m:Man) (i:Int) (hb:b.length≤1048576) (_:m.sums.length≤8388608):E 262 [sv (aT b),gv (m.cs aJ),iv i]=some ([iv (bP b m i)],[]):=by
 refine U.run rfl rfl fun W Z=>?_
 conv=>lhs;whnf
 apply Z.w (eG U m.size m.len i)
 conv=>lhs;whnf
 repeat((first|apply Z.t|apply Z.f|(apply Z.q;exact aE));conv=>lhs;whnf)
 apply Z.b<;>intro g1<;>conv=>lhs;whnf
 ·have g1:aU m.size m.len i=0:=by simpa using g1
  repeat((first|apply Z.t|apply Z.f|(apply Z.q;exact aE));conv=>lhs;whnf)
  have e:bP b m i = -1:=by
   unfold bP
   split
   ·rfl
   ·split
    ·rfl
    ·rw[g1,aNf]
  rw[e];rfl
 ·have g1:aU m.size m.len i≠0:=by simpa using g1
  have hi:0≤i:=by
   rcases Int.lt_or_le i 0 with h|h
   ·exact absurd (aR3 h) g1
   ·exact h
  repeat((first|apply Z.t|apply Z.f|(apply Z.q;exact aE));conv=>lhs;whnf)
  apply Z.b<;>intro g2<;>conv=>lhs;whnf
  ·have g2:(m.sums.length:Int)≤i:=by simpa using g2
   rw[aJd (.inr g2)]
   rfl
  ·have g2:¬ (m.sums.length:Int)≤i:=by simpa using g2
   obtain⟨n,rfl⟩:∃ n:Nat,i=n:=⟨i.toNat,by omega⟩
   have hn:n<m.sums.length:=by omega
   rw[aHg hn]
   repeat((first|apply Z.t|apply Z.f|(apply Z.q;exact aE)|(refine Z.w (cP ?_) ?_;omega));conv=>lhs;whnf)
   apply Z.w (aHe U b m.sums[n] _ hb)
   conv=>lhs;whnf
   repeat((first|apply Z.t|apply Z.f|(apply Z.q;exact aE));conv=>lhs;whnf)
   rfl
theorem aHi {E:aS} (U:Sys E) (b:aC) (m:Man) (i:Int) (hb:b.length≤1048576) (hm:m.sums.length≤8388608):E 271 [sv (aT b),gv (m.cs aJ),iv i]=some ([iv (bP b m i)],[]):=by
 have h1:=bW U i 0 ((m.sums.length:Int)-1)
 refine U.run rfl rfl fun W Z=>?_
 conv=>lhs;whnf
 apply Z.w (iD U m.size m.len i)
 conv=>lhs;whnf
 repeat((first|apply Z.t|apply Z.f|(apply Z.q;exact aE));conv=>lhs;whnf)
 rw[show((m.sums.map Sum.row).length)=m.sums.length from List.length_map _,show IntKind.i64.wrap ((m.sums.length:Int)-1)=(m.sums.length:Int)-1 from aK (by omega)]
 apply Z.w (h1)
 conv=>lhs;whnf
 repeat((first|apply Z.t|apply Z.f|(apply Z.q;exact aE));conv=>lhs;whnf)
 apply Z.b<;>intro g1<;>conv=>lhs;whnf
 ·have g1:=jQ g1
  rw[aJd (by simp[aR]at g1;omega)]
  rfl
 ·have g1:=bL (gA g1)
  obtain⟨n,rfl⟩:∃ n:Nat,i=n:=⟨i.toNat,by omega⟩
  have hn:n<m.sums.length:=by omega
  rw[aHg hn]
  repeat((first|apply Z.t|apply Z.f|(apply Z.q;exact aE)|(refine Z.w (cP ?_) ?_;omega));conv=>lhs;whnf)
  apply Z.w (aHf U b m.sums[n] _ hb)
  conv=>lhs;whnf
  repeat((first|apply Z.t|apply Z.f|(apply Z.q;exact aE));conv=>lhs;whnf)
  rfl
theorem aDh {i:Nat} (h:i≤39):aC8 i=((2 ^ i:Nat):Int)∧2 ^ i≤549755813888:=by
 have h1:2 ^ i≤2 ^ 39:=Nat.pow_le_pow_right (by decide) h
 have h2:2 ^ i≤549755813888:=Nat.le_trans h1 (by decide)
 refine⟨?_,h2⟩
 unfold aC8
 rw[show min ((i:Int).toNat) IntKind.i64.bits=i from by simp only[IntKind.bits];omega]
 rw[show(1:Int)*2 ^ i=((2 ^ i:Nat):Int) from by push_cast;omega]
 generalize 2 ^ i=p at h2 ⊢
 exact aK (by omega)
def aH1:Nat→Nat→aC→Option aC
 |0,s,acc=>if s=1 then some acc else none
 |k+1,s,acc=>if s=1 then some acc else if s<256 then none else aH1 k (s/256) (dH s::acc)
def dT (s:Int):Option aC:=if aR s 1 562949953421311=true then aH1 6 s.toNat [] else none
def bQ (s:Int):aC:=(dT s).getD []
def bU (s:Int):Bool:=(dT s).isSome
theorem aPl (s:Int):IntKind.u8.wrap (IntKind.i64.wrap (BitVec.ofInt IntKind.i64.bits s &&& BitVec.ofInt IntKind.i64.bits 255).toNat)=IntKind.u8.wrap s∨¬ (0≤s∧s≤562949953421311):=by
 by_cases h:0≤s∧s≤562949953421311
 ·left
  obtain⟨n,rfl⟩:∃ n:Nat,s=n:=⟨s.toNat,by omega⟩
  rw[BitVec.toNat_and,BitVec.ofInt_natCast,show BitVec.ofInt IntKind.i64.bits 255=BitVec.ofNat IntKind.i64.bits 255 from rfl,BitVec.toNat_ofNat,BitVec.toNat_ofNat]
  rw[Nat.mod_eq_of_lt (show n<2 ^ IntKind.i64.bits from by simp only[IntKind.bits];omega),Nat.mod_eq_of_lt (show 255<2 ^ IntKind.i64.bits from by decide)]
  rw[show n &&& 255=n%256 from Nat.and_two_pow_sub_one_eq_mod n 8]
  rw[show IntKind.i64.wrap ((n%256:Nat):Int)=((n%256:Nat):Int) from aK (by omega)]
  rw[← jA,← jA]
  unfold dH
  congr 3
  omega
 ·exact .inr h
theorem aTC:∀ {k s:Nat} {acc b:aC},aH1 k s acc=some b→b.length≤acc.length+k:=by
 intro k
 induction k with
 |zero=>intro s acc b h;simp only[aH1]at h;split at h;cases h;omega;cases h
 |succ k ih =>
  intro s acc b h
  simp only[aH1]at h
  split at h
  ·cases h;omega
  ·split at h
   ·cases h
   ·have:=ih h;simp only[List.length_cons]at this;omega
theorem kB (s:Int):(bQ s).length≤6:=by
 unfold bQ dT
 split
 ·cases h:aH1 6 s.toNat [] with
  |none=>simp
  |some b=>have:=aTC h;simpa using this
 ·simp
theorem aR4 {n:Nat}:((n:Int).fdiv (2 ^ (min (8:Int).toNat IntKind.i64.bits)))=((n/256:Nat):Int):=by
 rw[show(2:Int) ^ (min (8:Int).toNat IntKind.i64.bits)=256 from by decide,Int.fdiv_eq_ediv_of_nonneg _ (by decide)]
 omega
theorem wE {E:aS} (U:Sys E) (s:Int):E 308 [iv s]=some ([ov 1 (aT (bQ s)),bv (bU s)],[]):=by
 have h1:=bK U s 1 562949953421311
 unfold bQ bU dT
 cases hr:aR s 1 562949953421311
 ·rw[hr]at h1
  refine U.run rfl rfl fun W Z=>?_
  conv=>lhs;whnf
  repeat'((first|apply Z.t|apply Z.f|(apply Z.q;exact aE)|apply Z.w (h1)|(apply Z.b<;>intro h))<;>conv=>lhs;whnf)
  rfl
 ·rw[hr]at h1
  have hr:=bL hr
  obtain⟨n,rfl⟩:∃ n:Nat,s=n:=⟨s.toNat,by omega⟩
  simp only[if_true]
  rw[show((n:Int).toNat)=n from by omega]
  refine U.run rfl rfl fun W Z=>?_
  conv=>lhs;whnf
  apply Z.w (h1)
  conv=>lhs;whnf
  repeat((first|apply Z.t|apply Z.f|(apply Z.q;exact aE));conv=>lhs;whnf)
  generalize hD:aH1 6 n []=D
  refine Z.loop (σ:=Nat × aC) (γ:=Nat) (fun i s=>(s.sl 0 (v1 (.t (.int .i64 i.1)))).bl ⟨50400,1, .own,aT i.2⟩) (fun i k=>k≤6∧1≤i.1∧i.1<2*256 ^ k∧i.2.length+k≤6∧aH1 k i.1 i.2=D) (fun k=>k) (fun _=>([ov 1 (aT (D.getD [])),bv D.isSome],[])) (n,[]) 6 ?_ ?_ ?_ ?_
  ·intro K
   conv=>lhs;whnf
   conv=>rhs;whnf
   try rfl
  ·exact⟨by omega,by omega,by
    have:(256:Nat) ^ 6=281474976710656:=by decide
    simp only;omega,by simp,hD⟩
  ·rintro kl ⟨m,acc⟩ k ⟨hk,hm,hlt,hl,hd⟩ ih
   simp only at hm hlt hl hd
   conv=>lhs;whnf
   apply Z.b<;>intro g1<;>conv=>lhs;whnf
   ·have g1:1<m:=by
     have:(m:Int)>1:=by simpa using g1
     omega
    cases k with
    |zero=>simp at hlt;omega
    |succ k =>
     simp only[aH1,if_neg (show ¬ m=1 by omega)]at hd
     apply Z.b<;>intro g2<;>conv=>lhs;whnf
     ·have g2:m<256:=by
       have:(m:Int)<256:=by simpa using g2
       omega
      rw[if_pos g2]at hd
      rw[← hd]
      rfl
     ·have g2:¬ m<256:=by
       have:¬ (m:Int)<256:=by simpa using g2
       omega
      rw[if_neg g2]at hd
      have hpow:256 ^ (k+1)=256 ^ k*256:=Nat.pow_succ ..
      have hmax:256 ^ (k+1)≤256 ^ 6:=Nat.pow_le_pow_right (by decide) hk
      have h6:(256:Nat) ^ 6=281474976710656:=by decide
      have hb:=(aPl m).resolve_right (by omega)
      refine Z.q (by exact⟨by decide,bB _,by simp[aI];omega,by simp[aI];omega⟩) ?_
      conv=>lhs;whnf
      apply Z.bt (cI _)
      conv=>lhs;whnf
      repeat((first|apply Z.t|apply Z.f|(apply Z.q;exact aE));conv=>lhs;whnf)
      rw[hb,aR4]
      refine ih (m/256,dH m::acc) k _ ?_ ⟨by omega,by omega,by simp only;omega,by simp only[List.length_cons];omega,hd⟩ (by omega)
      intro K
      conv=>lhs;whnf
      conv=>rhs;whnf
      try rfl
      rw[show aT (dH m::acc)=[.int .u8 (IntKind.u8.wrap m)]::aT acc from by simp[aT,mK,jA]]
      rfl
   ·have g1:¬ 1<m:=by
     have:¬ (m:Int)>1:=by simpa using g1
     omega
    have:m=1:=by omega
    subst this
    have:aH1 k 1 acc=some acc:=by cases k<;>simp[aH1]
    rw[this]at hd
    rw[← hd]
    rfl
  ·rfl
def mW (m n:Nat):aC:=(List.range n).map fun i:Nat=>dH ((m/256 ^ (n-1-i):Nat):Int)
theorem aPm (m n:Nat):mW m (n+1)=dH ((m/256 ^ n:Nat):Int)::mW m n:=by
 unfold mW
 rw[List.range_succ_eq_map,List.map_cons,List.map_map]
 simp only[Nat.add_sub_cancel,Nat.sub_zero,List.cons.injEq,true_and]
 apply List.map_congr_left
 intro i hi
 simp only[Function.comp]
 congr 4
 omega
theorem aLR (m n:Nat):(mW m n).length=n:=by simp[mW]
theorem aR5 (m:Nat):∀ j,j≤6→(∀ i,i<j→256≤m/256 ^ i)→aH1 6 m []=aH1 (6-j) (m/256 ^ j) (mW m j):=by
 intro j
 induction j with
 |zero=>intro _ _;simp[mW]
 |succ j ih =>
  intro hj h
  rw[ih (by omega) fun i hi=>h i (by omega)]
  have h1:=h j (by omega)
  rw[show 6-j=(6-(j+1))+1 from by omega,aH1,if_neg (by omega),if_neg (by omega),aPm,Nat.div_div_eq_div_mul,← Nat.pow_succ]
theorem aTD (k:Nat) (b:aC):aH1 k 1 b=some b:=by cases k<;>simp[aH1]
theorem aHj (m j:Nat):m/256 ^ (j+1)=m/256 ^ j/256:=by rw[Nat.div_div_eq_div_mul,← Nat.pow_succ]
theorem aEZ {m n:Nat} (hn:n≤6) (h:∀ j,j<n→1<m/256 ^ j) (h1:m/256 ^ n=1):dT m=some (mW m n):=by
 have hge:∀ i,i<n→256≤m/256 ^ i:=by
  intro i hi
  have e:=aHj m i
  have:1≤m/256 ^ (i+1):=by
   rcases Nat.lt_or_ge (i+1) n with h2|h2
   ·have:=h _ h2;omega
   ·have:i+1=n:=by omega
    rw[this,h1];exact Nat.le_refl _
  omega
 have hlt:m<2*256 ^ n:=by
  have:0<256 ^ n:=Nat.pow_pos (by decide)
  have:=Nat.div_add_mod m (256 ^ n)
  have h3:=Nat.mod_lt m (show 0<256 ^ n from Nat.pow_pos (by decide))
  rw[h1]at this
  omega
 have hm:1≤m:=by
  rcases Nat.eq_zero_or_pos m with h0|h0
  ·rw[h0,Nat.zero_div]at h1;cases h1
  ·exact h0
 have hp:256 ^ n≤256 ^ 6:=Nat.pow_le_pow_right (by decide) hn
 have h6:(256:Nat) ^ 6=281474976710656:=by decide
 unfold dT
 rw[if_pos (by simp[aR];omega),show((m:Int).toNat)=m from by omega,aR5 m n hn hge,h1,aTD]
theorem aDi {m n:Nat} (hm:1≤m) (hn:n≤6) (h:∀ j,j<n→1<m/256 ^ j) (h1:m/256 ^ n≠1) (h2:n=6∨m/256 ^ n≤1):dT m=none:=by
 unfold dT
 split
 ·rename_i hr
  have hr:=bL hr
  rw[show((m:Int).toNat)=m from by omega]
  by_cases h0:m/256 ^ n=0
  ·cases n with
   |zero=>simp at h0;omega
   |succ n =>
    have e:=aHj m n
    have hl:=h n (by omega)
    have hge:∀ i,i<n→256≤m/256 ^ i:=by
     intro i hi
     have e:=aHj m i
     have:=h (i+1) (by omega)
     omega
    rw[aR5 m n (by omega) hge,show 6-n=(6-(n+1))+1 from by omega]
    rw[h0]at e
    generalize m/256 ^ n=c at *
    simp only[aH1]
    rw[if_neg (by omega),if_pos (by omega)]
  ·exfalso
   have hn6:n=6:=by
    rcases h2 with h2|h2
    ·exact h2
    ·generalize m/256 ^ n=t at h0 h1 h2
     omega
   subst hn6
   have h6:(256:Nat) ^ 6=281474976710656:=by decide
   have h3:m/256 ^ 6≤1:=by rw[h6];omega
   generalize m/256 ^ 6=t at h0 h1 h3
   omega
 ·rfl
theorem aJe {m n:Nat} (hn:n≤6):(m:Int).fdiv (2 ^ (min (IntKind.i64.wrap (8*(n:Int))).toNat IntKind.i64.bits))=((m/256 ^ n:Nat):Int):=by
 rw[show IntKind.i64.wrap (8*(n:Int))=8*(n:Int) from aK (by omega)]
 rw[show min (8*(n:Int)).toNat IntKind.i64.bits=8*n from by simp only[IntKind.bits];omega]
 rw[Int.fdiv_eq_ediv_of_nonneg _ (Int.pow_nonneg (by decide))]
 rw[show((2:Int) ^ (8*n))=((256 ^ n:Nat):Int) from by rw[Int.pow_mul];push_cast;rfl]
 exact(Int.natCast_ediv m (256 ^ n)).symm
theorem aTE {s:Int} (h:s<1) (k:Nat):¬ s.fdiv (2 ^ k)>1:=by
 have hp:(0:Int)<2 ^ k:=Int.pow_pos (by decide)
 rw[Int.fdiv_eq_ediv_of_nonneg _ (Int.le_of_lt hp)]
 have:s/2 ^ k≤0:=by
  rcases Int.lt_or_le s 0 with h1|h1
  ·exact Int.le_of_lt (Int.ediv_neg_of_neg_of_pos h1 hp)
  ·have:s=0:=by omega
   rw[this,Int.zero_ediv];exact Int.le_refl _
 omega
theorem mP {E:aS} (U:Sys E) (s:Int):E 319 [iv s]=some ([ov 1 (aT (bQ s)),bv (bU s)],[]):=by
 have neg:s<1→bQ s=[]∧bU s=false:=by
  intro hs
  have hb:dT s=none:=by unfold dT;rw[if_neg (by simp[aR];omega)]
  exact⟨by unfold bQ;rw[hb];rfl,by unfold bU;rw[hb];rfl⟩
 refine U.run rfl rfl fun W Z=>?_
 conv=>lhs;whnf
 refine Z.loop (σ:=Nat) (γ:=Nat) (fun i s=>s.sl 4 (v1 (.t (.int .i64 i)))) (fun i k=>i=k∧k≤6∧∀ j,j<k→1<s.toNat/256 ^ j∧1≤s) (fun k=>6-k) (fun _=>([ov 1 (aT (bQ s)),bv (bU s)],[])) 0 0 ?_ ?_ ?_ ?_
 ·intro K
  conv=>lhs;whnf
  conv=>rhs;whnf
  try rfl
 ·exact⟨rfl,by omega,fun j h=>by omega⟩
 ·rintro kl n _ ⟨rfl,hn,hj⟩ ih
  conv=>lhs;whnf
  have hw8:IntKind.i64.wrap (8*(n:Int))=8*(n:Int):=aK (by omega)
  apply Z.b<;>intro g0<;>conv=>lhs;whnf
  ·have g0:n<6:=by
    have:(n:Int)<6:=by simpa using g0
    omega
   repeat((first|apply Z.t|apply Z.f|(apply Z.q;exact aE));conv=>lhs;whnf)
   rw[hw8]
   apply Z.b<;>intro g1<;>conv=>lhs;whnf
   ·have hs:1≤s:=by
     rcases Int.lt_or_le s 1 with hs|hs
     ·exact absurd (of_decide_eq_true g1) (aTE hs _)
     ·exact hs
    have g2:1<s.toNat/256 ^ n:=by
     obtain⟨m,rfl⟩:∃ m:Nat,s=m:=⟨s.toNat,by omega⟩
     rw[← hw8,aJe hn]at g1
     rw[show((m:Int).toNat)=m from by omega]
     generalize m/256 ^ n=t at g1
     simp at g1;omega
    refine ih (n+1) (n+1) _ ?_ ⟨rfl,by omega,fun j h=>?_⟩ (by omega)
    ·intro K
     conv=>lhs;whnf
     conv=>rhs;whnf
     try rfl
     rw[show IntKind.i64.wrap ((n:Int)+1)=_ from aO (by omega)]
     try rfl
    ·rcases Nat.lt_or_ge j n with h1|h1
     ·exact hj j h1
     ·have:j=n:=by omega
      subst this
      exact⟨g2,hs⟩
   ·have hx:n=6∨¬ 1<s.toNat/256 ^ n∨s<1:=by
     right
     rcases Int.lt_or_le s 1 with hs|hs
     ·exact .inr hs
     ·left
      obtain⟨m,rfl⟩:∃ m:Nat,s=m:=⟨s.toNat,by omega⟩
      rw[← hw8,aJe hn]at g1
      rw[show((m:Int).toNat)=m from by omega]
      generalize m/256 ^ n=t at g1
      simp at g1;omega
    apply Z.b<;>intro gs<;>conv=>lhs;whnf
    ·have gs:s<1:=by simpa using gs
     rw[(neg gs).1,(neg gs).2]
     repeat((first|apply Z.t|apply Z.f|(apply Z.q;exact aE));conv=>lhs;whnf)
     rfl
    ·have gs:¬ s<1:=by simpa using gs
     obtain⟨m,rfl⟩:∃ m:Nat,s=m:=⟨s.toNat,by omega⟩
     rw[show((m:Int).toNat)=m from by omega]at hj hx
     have hx':n=6∨m/256 ^ n≤1:=by
      rcases hx with hx|hx
      ·exact .inl hx
      ·right
       generalize m/256 ^ n=t at hx
       omega
     repeat((first|apply Z.t|apply Z.f|(apply Z.q;exact aE));conv=>lhs;whnf)
     rw[hw8]
     rw[← hw8,aJe hn]
     apply Z.b<;>intro gt<;>conv=>lhs;whnf
     ·have gt:m/256 ^ n≠1:=by
       intro e;rw[e]at gt;simp at gt
      have hb:=aDi (m:=m) (by omega) hn (fun j h=>(hj j h).1) gt hx'
      rw[show bQ m=[] from by unfold bQ;rw[hb];rfl,show bU m=false from by unfold bU;rw[hb];rfl]
      rfl
     ·have gt:m/256 ^ n=1:=by
       generalize m/256 ^ n=t at gt
       simp at gt;omega
      have hb:=aEZ (m:=m) hn (fun j h=>(hj j h).1) gt
      rw[show bQ m=mW m n from by unfold bQ;rw[hb];rfl,show bU m=true from by unfold bU;rw[hb];rfl]
      have hdl:=aLR m n
      refine Z.q (by exact⟨by omega, .inl rfl,by omega,by omega,by omega,by decide,rfl⟩) ?_
      conv=>lhs;whnf
      rw[show((n:Int).toNat)=n from by omega]
      refine Z.loop (σ:=Nat) (γ:=Nat) (fun i s=>(s.sl 31 (v1 (.t (.int .i64 i)))).bl ⟨2800,1, .own,((mW m n).take i).map mK++List.replicate ((mW m n).length-i) [.int .u8 0]⟩) (fun i k=>i=k∧k≤n) (fun k=>n-k) (fun _=>([ov 1 (aT (mW m n)),bv true],[])) 0 0 ?_ ?_ ?_ ?_
      ·intro K
       conv=>lhs;whnf
       conv=>rhs;whnf
       try rfl
       simp[hdl]
      ·exact⟨rfl,by omega⟩
      ·rintro kl i _ ⟨rfl,hi⟩ ih
       conv=>lhs;whnf
       apply Z.b<;>intro g5<;>conv=>lhs;whnf
       ·have g5:i<n:=by
         have:=g5
         simp[hdl]at this
         omega
        have g5':i<(mW m n).length:=by omega
        rw[show IntKind.i64.wrap (IntKind.i64.wrap ((n:Int)-1)-(i:Int))=((n-1-i:Nat):Int) from by rw[show IntKind.i64.wrap ((n:Int)-1)=(n:Int)-1 from aK (by omega)];exact(aK (by omega)).trans (by omega)]
        have hw9:IntKind.i64.wrap (8*((n-1-i:Nat):Int))=8*((n-1-i:Nat):Int):=aK (by omega)
        rw[hw9]
        repeat((first|apply Z.t|apply Z.f|(apply Z.q;exact aE));conv=>lhs;whnf)
        rw[← hw9,aJe (show n-1-i≤6 by omega)]
        apply Z.w (aC4 g5' _)
        conv=>lhs;whnf
        repeat((first|apply Z.t|apply Z.f|(apply Z.q;exact aE));conv=>lhs;whnf)
        apply Z.w (aC4 g5' _)
        conv=>lhs;whnf
        repeat((first|apply Z.t|apply Z.f|(apply Z.q;exact aE));conv=>lhs;whnf)
        refine ih (i+1) (i+1) _ ?_ ⟨rfl,by omega⟩ (by omega)
        intro K
        conv=>lhs;whnf
        conv=>rhs;whnf
        try rfl
        rw[show IntKind.i64.wrap ((i:Int)+1)=_ from aO (by omega)]
        refine congrArg K (congrArg (St.mk _) (congrArg (fun x=>[Blk.mk 2800 1 .own x]) ?_))
        rw[← aLH mK g5' [.int .u8 0]]
        refine congrArg (List.set _ _) ?_
        simp[mW,mK,jA,splice]
       ·have g5:¬ i<n:=by
         have:=g5
         simp[hdl]at this
         omega
        have:i=n:=by omega
        subst this
        rw[List.take_of_length_le (show(mW m i).length≤i by omega),hdl,Nat.sub_self]
        simp only[List.replicate_zero,List.append_nil]
        rfl
      ·rfl
  ·have g6:¬ (n:Int)<6:=by simpa using g0
   have hx:n=6∨¬ 1<s.toNat/256 ^ n∨s<1 := .inl (by omega)
   repeat((first|apply Z.t|apply Z.f|(apply Z.q;exact aE));conv=>lhs;whnf)
   apply Z.b<;>intro gs<;>conv=>lhs;whnf
   ·have gs:s<1:=by simpa using gs
    rw[(neg gs).1,(neg gs).2]
    repeat((first|apply Z.t|apply Z.f|(apply Z.q;exact aE));conv=>lhs;whnf)
    rfl
   ·have gs:¬ s<1:=by simpa using gs
    obtain⟨m,rfl⟩:∃ m:Nat,s=m:=⟨s.toNat,by omega⟩
    rw[show((m:Int).toNat)=m from by omega]at hj hx
    have hx':n=6∨m/256 ^ n≤1:=by
     rcases hx with hx|hx
     ·exact .inl hx
     ·right
      generalize m/256 ^ n=t at hx
      omega
    repeat((first|apply Z.t|apply Z.f|(apply Z.q;exact aE));conv=>lhs;whnf)
    rw[hw8]
    rw[← hw8,aJe hn]
    apply Z.b<;>intro gt<;>conv=>lhs;whnf
    ·have gt:m/256 ^ n≠1:=by
      intro e;rw[e]at gt;simp at gt
     have hb:=aDi (m:=m) (by omega) hn (fun j h=>(hj j h).1) gt hx'
     rw[show bQ m=[] from by unfold bQ;rw[hb];rfl,show bU m=false from by unfold bU;rw[hb];rfl]
     rfl
    ·have gt:m/256 ^ n=1:=by
      generalize m/256 ^ n=t at gt
      simp at gt;omega
     have hb:=aEZ (m:=m) hn (fun j h=>(hj j h).1) gt
     rw[show bQ m=mW m n from by unfold bQ;rw[hb];rfl,show bU m=true from by unfold bU;rw[hb];rfl]
     have hdl:=aLR m n
     refine Z.q (by exact⟨by omega, .inl rfl,by omega,by omega,by omega,by decide,rfl⟩) ?_
     conv=>lhs;whnf
     rw[show((n:Int).toNat)=n from by omega]
     refine Z.loop (σ:=Nat) (γ:=Nat) (fun i s=>(s.sl 31 (v1 (.t (.int .i64 i)))).bl ⟨2800,1, .own,((mW m n).take i).map mK++List.replicate ((mW m n).length-i) [.int .u8 0]⟩) (fun i k=>i=k∧k≤n) (fun k=>n-k) (fun _=>([ov 1 (aT (mW m n)),bv true],[])) 0 0 ?_ ?_ ?_ ?_
     ·intro K
      conv=>lhs;whnf
      conv=>rhs;whnf
      try rfl
      simp[hdl]
     ·exact⟨rfl,by omega⟩
     ·rintro kl i _ ⟨rfl,hi⟩ ih
      conv=>lhs;whnf
      apply Z.b<;>intro g5<;>conv=>lhs;whnf
      ·have g5:i<n:=by
        have:=g5
        simp[hdl]at this
        omega
       have g5':i<(mW m n).length:=by omega
       rw[show IntKind.i64.wrap (IntKind.i64.wrap ((n:Int)-1)-(i:Int))=((n-1-i:Nat):Int) from by rw[show IntKind.i64.wrap ((n:Int)-1)=(n:Int)-1 from aK (by omega)];exact(aK (by omega)).trans (by omega)]
       have hw9:IntKind.i64.wrap (8*((n-1-i:Nat):Int))=8*((n-1-i:Nat):Int):=aK (by omega)
       rw[hw9]
       repeat((first|apply Z.t|apply Z.f|(apply Z.q;exact aE));conv=>lhs;whnf)
       rw[← hw9,aJe (show n-1-i≤6 by omega)]
       apply Z.w (aC4 g5' _)
       conv=>lhs;whnf
       repeat((first|apply Z.t|apply Z.f|(apply Z.q;exact aE));conv=>lhs;whnf)
       apply Z.w (aC4 g5' _)
       conv=>lhs;whnf
       repeat((first|apply Z.t|apply Z.f|(apply Z.q;exact aE));conv=>lhs;whnf)
       refine ih (i+1) (i+1) _ ?_ ⟨rfl,by omega⟩ (by omega)
       intro K
       conv=>lhs;whnf
       conv=>rhs;whnf
       try rfl
       rw[show IntKind.i64.wrap ((i:Int)+1)=_ from aO (by omega)]
       refine congrArg K (congrArg (St.mk _) (congrArg (fun x=>[Blk.mk 2800 1 .own x]) ?_))
       rw[← aLH mK g5' [.int .u8 0]]
       refine congrArg (List.set _ _) ?_
       simp[mW,mK,jA,splice]
      ·have g5:¬ i<n:=by
        have:=g5
        simp[hdl]at this
        omega
       have:i=n:=by omega
       subst this
       rw[List.take_of_length_le (show(mW m i).length≤i by omega),hdl,Nat.sub_self]
       simp only[List.replicate_zero,List.append_nil]
       rfl
     ·rfl
 ·rfl
theorem aTF:∀ {k s:Nat} {acc b:aC},aH1 k s acc=some b→eK b 1=eK acc s:=by
 intro k
 induction k with
 |zero=>intro s acc b h;simp only[aH1]at h;split at h;(rename_i h1;cases h;rw[h1]);cases h
 |succ k ih =>
  intro s acc b h
  simp only[aH1]at h
  split at h
  ·rename_i h1;cases h;rw[h1]
  ·split at h
   ·cases h
   ·rw[ih h,eK]
    congr 1
    have:(dH (s:Int)).toNat=s%256:=by
     unfold dH
     rw[UInt8.toNat_ofNat']
     omega
    omega
theorem aPn {s:Int} (h:bU s=true):((eK (bQ s) 1:Nat):Int)=s:=by
 unfold bU at h
 unfold bQ
 cases hb:dT s with
 |none=>rw[hb]at h;cases h
 |some b =>
  unfold dT at hb
  split at hb
  ·rename_i hr
   have hr:=bL hr
   have:=aTF hb
   simp only[eK]at this
   simp only[Option.getD_some]
   omega
  ·cases hb
theorem aE0 {x:Sum} (h:bU x.s=true):decide (bC (bQ x.s)=x)=decide (bG (bQ x.s)=x.w):=by
 have hl:=kB x.s
 have hs:=aPn h
 unfold bC
 rw[if_neg (by omega),hs]
 obtain⟨w,s⟩:=x
 simp
def aAm (m:Man) (i:Nat) (x:Sum):Bool:=bU x.s&&(decide (((bQ x.s).length:Int)=aU m.size m.len i)&&decide (bC (bQ x.s)=x))
def yA (m:Man):Nat→List Sum→Bool
 |_,[]=>true
 |i,x::r=>aAm m i x&&yA m (i+1) r
def bV (m:Man):Bool:=decide (m.gen=0)&&(decide (m.size=0)&&(decide (m.len=0)&&decide (m.sums=[])))
def aX (m:Man):Bool:=if m.gen=0 then bV m else aR m.gen 1 1000000&&(cD m.size m.len&&(decide ((m.sums.length:Int)=bA m.size m.len)&&yA m 0 m.sums))
theorem eU {E:aS} (U:Sys E) (m:Man) (hm:m.sums.length≤1048576):E 307 [gv (m.cs aJ)]=some ([bv (aX m)],[]):=by
 have hrl:(m.sums.map Sum.row).length=m.sums.length:=List.length_map _
 have a1:=bK U m.gen 1 1000000
 have a2:=nT U m.size m.len
 have a3:=kJ U m.size m.len
 by_cases h0:m.gen=0
 ·have e:aX m=bV m:=by unfold aX;rw[if_pos h0]
  rw[e]
  refine U.run rfl rfl fun W Z=>?_
  conv=>lhs;whnf
  apply Z.bt (by simpa using h0)
  conv=>lhs;whnf
  repeat'((first|apply Z.t|apply Z.f|(apply Z.q;exact aE)|(apply Z.b<;>intro h))<;>conv=>lhs;whnf)
  all_goals(refine congrArg (fun b=>(some ([bv b],[]):Option cU)) ?_;first|rfl|(simp_all [bV];done)|(simp_all [bV]<;>(intros;omega)))
 ·have e:aX m=(aR m.gen 1 1000000&&(cD m.size m.len&&(decide ((m.sums.length:Int)=bA m.size m.len)&&yA m 0 m.sums))):=by unfold aX;rw[if_neg h0]
  rw[e]
  cases h1:aR m.gen 1 1000000
  ·rw[h1]at a1
   refine U.run rfl rfl fun W Z=>?_
   conv=>lhs;whnf
   apply Z.bf (by simpa using h0)
   conv=>lhs;whnf
   repeat'((first|apply Z.t|apply Z.f|(apply Z.q;exact aE)|apply Z.w (a1)|(apply Z.b<;>intro h))<;>conv=>lhs;whnf)
   rfl
  ·rw[h1]at a1
   cases h2:cD m.size m.len
   ·rw[h2]at a2
    refine U.run rfl rfl fun W Z=>?_
    conv=>lhs;whnf
    apply Z.bf (by simpa using h0)
    conv=>lhs;whnf
    repeat'((first|apply Z.t|apply Z.f|(apply Z.q;exact aE)|apply Z.w (a1)|apply Z.w (a2)|(apply Z.b<;>intro h))<;>conv=>lhs;whnf)
    rfl
   ·rw[h2]at a2
    by_cases h3:(m.sums.length:Int)=bA m.size m.len
    ·rw[decide_eq_true h3]
     simp only[Bool.true_and]
     refine U.run rfl rfl fun W Z=>?_
     conv=>lhs;whnf
     apply Z.bf (by simpa using h0)
     conv=>lhs;whnf
     repeat'((first|apply Z.t|apply Z.f|(apply Z.q;exact aE)|apply Z.w (a1)|apply Z.w (a2)|(apply Z.b<;>intro h))<;>conv=>lhs;whnf)
     rw[hrl]
     apply Z.w (a3)
     conv=>lhs;whnf
     repeat((first|apply Z.t|apply Z.f|(apply Z.q;exact aE));conv=>lhs;whnf)
     apply Z.bf (by simp[h3])
     conv=>lhs;whnf
     skip
     refine Z.loop (σ:=Nat) (γ:=Nat) (fun i s=>s.sl 3 (v1 (.t (.int .i64 i)))) (fun i k=>i=k∧k≤m.sums.length) (fun k=>m.sums.length-k) (fun k=>([bv (yA m k (m.sums.drop k))],[])) 0 0 ?_ ?_ ?_ ?_
     ·intro K
      conv=>lhs;whnf
      conv=>rhs;whnf
      try rfl
     ·exact⟨rfl,by omega⟩
     ·rintro kl n _ ⟨rfl,hn⟩ ih
      conv=>lhs;whnf
      apply Z.b<;>intro g1<;>conv=>lhs;whnf
      ·have g1:n<m.sums.length:=by simpa using g1
       have hbl:=kB m.sums[n].s
       rw[List.drop_eq_getElem_cons g1,yA,aAm]
       repeat((first|apply Z.t|apply Z.f|(apply Z.q;exact aE)|(refine Z.w (cP ?_) ?_;omega));conv=>lhs;whnf)
       apply Z.w (wE U m.sums[n].s)
       conv=>lhs;whnf
       repeat((first|apply Z.t|apply Z.f|(apply Z.q;exact aE));conv=>lhs;whnf)
       apply Z.w (eG U m.size m.len n)
       conv=>lhs;whnf
       repeat((first|apply Z.t|apply Z.f|(apply Z.q;exact aE));conv=>lhs;whnf)
       apply Z.b<;>intro g2<;>conv=>lhs;whnf
       ·rw[jQ g2]
        repeat((first|apply Z.t|apply Z.f|(apply Z.q;exact aE));conv=>lhs;whnf)
        rfl
       ·have g2:=gA g2
        rw[g2]
        repeat((first|apply Z.t|apply Z.f|(apply Z.q;exact aE));conv=>lhs;whnf)
        rw[bE]
        apply Z.b<;>intro g3<;>conv=>lhs;whnf
        ·rw[decide_eq_false (show ¬ ((bQ m.sums[n].s).length:Int)=aU m.size m.len n from by simpa using g3)]
         repeat((first|apply Z.t|apply Z.f|(apply Z.q;exact aE));conv=>lhs;whnf)
         rfl
        ·rw[decide_eq_true (show((bQ m.sums[n].s).length:Int)=aU m.size m.len n from by simpa using g3)]
         repeat((first|apply Z.t|apply Z.f|(apply Z.q;exact aE)|(refine Z.w (cP ?_) ?_;omega));conv=>lhs;whnf)
         apply Z.w (eS U (bQ m.sums[n].s) (by omega))
         conv=>lhs;whnf
         repeat((first|apply Z.t|apply Z.f|(apply Z.q;exact aE));conv=>lhs;whnf)
         apply Z.b<;>intro g4<;>conv=>lhs;whnf
         ·have g4:¬ bC (bQ m.sums[n].s)=m.sums[n]:=by
           intro e;rw[e]at g4;simp at g4
          rw[decide_eq_false g4]
          rfl
         ·have g4:bC (bQ m.sums[n].s)=m.sums[n]:=by
           revert g4
           generalize bC (bQ m.sums[n].s)=x
           generalize m.sums[n]=y
           cases x;cases y
           simp
          rw[decide_eq_true g4]
          simp only[Bool.true_and]
          refine ih (n+1) (n+1) _ ?_ ⟨rfl,by omega⟩ (by omega)
          intro K
          conv=>lhs;whnf
          conv=>rhs;whnf
          try rfl
          rw[show IntKind.i64.wrap ((n:Int)+1)=_ from aO (by omega)]
          try rfl
      ·have:n=m.sums.length:=by simp at g1;omega
       rw[this,List.drop_length];rfl
     ·rfl
    ·rw[decide_eq_false h3]
     refine U.run rfl rfl fun W Z=>?_
     conv=>lhs;whnf
     apply Z.bf (by simpa using h0)
     conv=>lhs;whnf
     repeat'((first|apply Z.t|apply Z.f|(apply Z.q;exact aE)|apply Z.w (a1)|apply Z.w (a2)|(apply Z.b<;>intro h))<;>conv=>lhs;whnf)
     rw[hrl]
     apply Z.w (a3)
     conv=>lhs;whnf
     repeat((first|apply Z.t|apply Z.f|(apply Z.q;exact aE));conv=>lhs;whnf)
     apply Z.bt (by simp[h3])
     conv=>lhs;whnf
     rfl
theorem pB {E:aS} (U:Sys E) (m:Man):E 318 [gv (m.cs aJ)]=some ([bv (bV m)],[]):=by
 refine U.run rfl rfl fun W Z=>?_
 conv=>lhs;whnf
 repeat'((first|apply Z.t|apply Z.f|(apply Z.q;exact aE)|(apply Z.b<;>intro h))<;>conv=>lhs;whnf)
 all_goals(refine congrArg (fun b=>(some ([bv b],[]):Option cU)) ?_;first|rfl|(simp_all [bV];done)|(simp_all [bV]<;>(intros;omega)))
theorem eV {E:aS} (U:Sys E) (m:Man) (hm:m.sums.length≤1048576):E 316 [gv (m.cs aJ)]=some ([bv (aX m)],[]):=by
 have hrl:(m.sums.map Sum.row).length=m.sums.length:=List.length_map _
 have a1:=bW U m.gen 1 1000000
 have a2:=aAk U m.size m.len
 have a3:=iC U m.size m.len
 have a0:=pB U m
 cases h0:bV m
 ·rw[h0]at a0
  by_cases hg:m.gen=0
  ·have e:aX m=false:=by unfold aX;rw[if_pos hg,h0]
   rw[show aR m.gen 1 1000000=false from by simp[aR];omega]at a1
   rw[e]
   refine U.run rfl rfl fun W Z=>?_
   conv=>lhs;whnf
   repeat'((first|apply Z.t|apply Z.f|(apply Z.q;exact aE)|apply Z.w (a0)|apply Z.w (a1)|(apply Z.b<;>intro h))<;>conv=>lhs;whnf)
   rfl
  ·have e:aX m=(aR m.gen 1 1000000&&(cD m.size m.len&&(decide ((m.sums.length:Int)=bA m.size m.len)&&yA m 0 m.sums))):=by unfold aX;rw[if_neg hg]
   rw[e]
   cases h1:aR m.gen 1 1000000
   ·rw[h1]at a1
    refine U.run rfl rfl fun W Z=>?_
    conv=>lhs;whnf
    repeat'((first|apply Z.t|apply Z.f|(apply Z.q;exact aE)|apply Z.w (a0)|apply Z.w (a1)|(apply Z.b<;>intro h))<;>conv=>lhs;whnf)
    rfl
   ·rw[h1]at a1
    cases h2:cD m.size m.len
    ·rw[h2]at a2
     refine U.run rfl rfl fun W Z=>?_
     conv=>lhs;whnf
     repeat'((first|apply Z.t|apply Z.f|(apply Z.q;exact aE)|apply Z.w (a0)|apply Z.w (a1)|apply Z.w (a2)|(apply Z.b<;>intro h))<;>conv=>lhs;whnf)
     rfl
    ·rw[h2]at a2
     by_cases h3:(m.sums.length:Int)=bA m.size m.len
     ·rw[decide_eq_true h3]
      simp only[Bool.true_and]
      refine U.run rfl rfl fun W Z=>?_
      conv=>lhs;whnf
      repeat'((first|apply Z.t|apply Z.f|(apply Z.q;exact aE)|apply Z.w (a0)|apply Z.w (a1)|apply Z.w (a2)|(apply Z.b<;>intro h))<;>conv=>lhs;whnf)
      rw[hrl]
      apply Z.w (a3)
      conv=>lhs;whnf
      repeat((first|apply Z.t|apply Z.f|(apply Z.q;exact aE));conv=>lhs;whnf)
      apply Z.bf (by simp[h3])
      conv=>lhs;whnf
      rw[hrl]
      refine Z.loop (σ:=Nat) (γ:=Nat) (fun i s=>s.sl 37 (v1 (.t (.int .i64 i)))) (fun i k=>i=k∧k≤m.sums.length) (fun k=>m.sums.length-k) (fun k=>([bv (yA m k (m.sums.drop k))],[])) 0 0 ?_ ?_ ?_ ?_
      ·intro K
       conv=>lhs;whnf
       conv=>rhs;whnf
       try rfl
      ·exact⟨rfl,by omega⟩
      ·rintro kl n _ ⟨rfl,hn⟩ ih
       conv=>lhs;whnf
       apply Z.b<;>intro g1<;>conv=>lhs;whnf
       ·have g1:n<m.sums.length:=by simpa using g1
        have hbl:=kB m.sums[n].s
        rw[List.drop_eq_getElem_cons g1,yA,aAm]
        repeat((first|apply Z.t|apply Z.f|(apply Z.q;exact aE)|(refine Z.w (cP ?_) ?_;omega));conv=>lhs;whnf)
        apply Z.w (mP U m.sums[n].s)
        conv=>lhs;whnf
        repeat((first|apply Z.t|apply Z.f|(apply Z.q;exact aE));conv=>lhs;whnf)
        apply Z.w (iD U m.size m.len n)
        conv=>lhs;whnf
        repeat((first|apply Z.t|apply Z.f|(apply Z.q;exact aE));conv=>lhs;whnf)
        apply Z.b<;>intro g2<;>conv=>lhs;whnf
        ·rw[jQ g2]
         repeat((first|apply Z.t|apply Z.f|(apply Z.q;exact aE));conv=>lhs;whnf)
         rfl
        ·have g2:=gA g2
         rw[g2]
         repeat((first|apply Z.t|apply Z.f|(apply Z.q;exact aE));conv=>lhs;whnf)
         rw[bE]
         apply Z.b<;>intro g3<;>conv=>lhs;whnf
         ·rw[decide_eq_false (show ¬ ((bQ m.sums[n].s).length:Int)=aU m.size m.len n from by simpa using g3)]
          repeat((first|apply Z.t|apply Z.f|(apply Z.q;exact aE));conv=>lhs;whnf)
          rfl
         ·rw[decide_eq_true (show((bQ m.sums[n].s).length:Int)=aU m.size m.len n from by simpa using g3)]
          repeat((first|apply Z.t|apply Z.f|(apply Z.q;exact aE)|(refine Z.w (cP ?_) ?_;omega));conv=>lhs;whnf)
          apply Z.w (fE U (bQ m.sums[n].s) (by omega))
          conv=>lhs;whnf
          repeat((first|apply Z.t|apply Z.f|(apply Z.q;exact aE));conv=>lhs;whnf)
          apply Z.b<;>intro g4<;>conv=>lhs;whnf
          ·have g4:¬ bC (bQ m.sums[n].s)=m.sums[n]:=by
            intro e
            have:=aE0 (x:=m.sums[n]) g2
            rw[decide_eq_true e]at this
            have:=of_decide_eq_true this.symm
            rw[this]at g4
            simp at g4
           rw[decide_eq_false g4]
           rfl
          ·have g4:bC (bQ m.sums[n].s)=m.sums[n]:=by
            have h5:bG (bQ m.sums[n].s)=m.sums[n].w:=by simpa using g4
            have:=aE0 (x:=m.sums[n]) g2
            rw[decide_eq_true h5]at this
            exact of_decide_eq_true this
           rw[decide_eq_true g4]
           simp only[Bool.true_and]
           refine ih (n+1) (n+1) _ ?_ ⟨rfl,by omega⟩ (by omega)
           intro K
           conv=>lhs;whnf
           conv=>rhs;whnf
           try rfl
           rw[show IntKind.i64.wrap ((n:Int)+1)=_ from aO (by omega)]
           try rfl
       ·have:n=m.sums.length:=by simp at g1;omega
        rw[this,List.drop_length];rfl
      ·rfl
     ·rw[decide_eq_false h3]
      refine U.run rfl rfl fun W Z=>?_
      conv=>lhs;whnf
      repeat'((first|apply Z.t|apply Z.f|(apply Z.q;exact aE)|apply Z.w (a0)|apply Z.w (a1)|apply Z.w (a2)|(apply Z.b<;>intro h))<;>conv=>lhs;whnf)
      rw[hrl]
      apply Z.w (a3)
      conv=>lhs;whnf
      repeat((first|apply Z.t|apply Z.f|(apply Z.q;exact aE));conv=>lhs;whnf)
      apply Z.bt (by simp[h3])
      conv=>lhs;whnf
      rfl
 ·have e:aX m=true:=by
   unfold aX
   rw[if_pos (by simp[bV]at h0;exact h0.1),h0]
  rw[h0]at a0
  rw[e]
  refine U.run rfl rfl fun W Z=>?_
  conv=>lhs;whnf
  repeat'((first|apply Z.t|apply Z.f|(apply Z.q;exact aE)|apply Z.w (a0)|(apply Z.b<;>intro h))<;>conv=>lhs;whnf)
  rfl
def jF:Nat→Nat→aC
 |0,n=>[dH (n:Int)]
 |k+1,n=>if n<128 then[dH (n:Int)] else dH ((n%128+128:Nat):Int)::jF k (n/128)
def kD (n:Nat):aC:=jF 8 n
theorem aR6:∀ {k n:Nat},(jF k n).length≤k+1:=by
 intro k
 induction k with
 |zero=>intro n;simp[jF]
 |succ k ih =>
  intro n
  simp only[jF]
  split
  ·simp
  ·have:=ih (n:=n/128);simp only[List.length_cons];omega
theorem aUi:∀ x:Nat,x<256→x ||| 128=x%128+128:=by decide +kernel
theorem aR7 {n:Nat} (h:n<9223372036854775808):IntKind.u8.wrap (IntKind.i64.wrap (BitVec.ofInt IntKind.i64.bits (IntKind.i64.wrap (BitVec.ofInt IntKind.i64.bits (n:Int) &&& BitVec.ofInt IntKind.i64.bits 127).toNat) ||| BitVec.ofInt IntKind.i64.bits 128).toNat)=IntKind.u8.wrap ((n%128+128:Nat):Int):=by
 have e1:(BitVec.ofInt IntKind.i64.bits (n:Int) &&& BitVec.ofInt IntKind.i64.bits 127).toNat=n%128:=by
  rw[BitVec.toNat_and,BitVec.ofInt_natCast,show BitVec.ofInt IntKind.i64.bits 127=BitVec.ofNat IntKind.i64.bits 127 from rfl,BitVec.toNat_ofNat,BitVec.toNat_ofNat]
  rw[Nat.mod_eq_of_lt (show n<2 ^ IntKind.i64.bits from by simp only[IntKind.bits];omega),Nat.mod_eq_of_lt (show 127<2 ^ IntKind.i64.bits from by decide)]
  exact Nat.and_two_pow_sub_one_eq_mod n 7
 rw[e1,show IntKind.i64.wrap ((n%128:Nat):Int)=((n%128:Nat):Int) from aK (by omega)]
 have e2:(BitVec.ofInt IntKind.i64.bits ((n%128:Nat):Int) ||| BitVec.ofInt IntKind.i64.bits 128).toNat=n%128+128:=by
  rw[BitVec.toNat_or,BitVec.ofInt_natCast,show BitVec.ofInt IntKind.i64.bits 128=BitVec.ofNat IntKind.i64.bits 128 from rfl,BitVec.toNat_ofNat,BitVec.toNat_ofNat]
  rw[Nat.mod_eq_of_lt (show n%128<2 ^ IntKind.i64.bits from by simp only[IntKind.bits];omega),Nat.mod_eq_of_lt (show 128<2 ^ IntKind.i64.bits from by decide)]
  rw[aUi _ (by omega)];omega
 rw[e2,show IntKind.i64.wrap ((n%128+128:Nat):Int)=((n%128+128:Nat):Int) from aK (by omega)]
theorem aUU {n:Nat}:IntKind.u8.wrap (BitVec.ofInt IntKind.u8.bits (IntKind.u8.wrap (n:Int)) ||| BitVec.ofInt IntKind.u8.bits 128).toNat=IntKind.u8.wrap ((n%128+128:Nat):Int):=by
 have e0:IntKind.u8.wrap (n:Int)=((n%256:Nat):Int):=by
  rw[← jA];unfold dH;rw[UInt8.toNat_ofNat'];omega
 rw[e0]
 have e2:(BitVec.ofInt IntKind.u8.bits ((n%256:Nat):Int) ||| BitVec.ofInt IntKind.u8.bits 128).toNat=n%128+128:=by
  rw[BitVec.toNat_or,BitVec.ofInt_natCast,show BitVec.ofInt IntKind.u8.bits 128=BitVec.ofNat IntKind.u8.bits 128 from rfl,BitVec.toNat_ofNat,BitVec.toNat_ofNat]
  rw[Nat.mod_eq_of_lt (show n%256<2 ^ IntKind.u8.bits from by simp only[IntKind.bits];omega),Nat.mod_eq_of_lt (show 128<2 ^ IntKind.u8.bits from by decide)]
  rw[aUi _ (by omega)];omega
 rw[e2]
theorem aUV {n:Nat}:((n:Int).fdiv (2 ^ (min (7:Int).toNat IntKind.i64.bits)))=((n/128:Nat):Int):=by
 rw[show(2:Int) ^ (min (7:Int).toNat IntKind.i64.bits)=128 from by decide,Int.fdiv_eq_ediv_of_nonneg _ (by decide)]
 omega
def gR (m:Msg) (man want part:Bool):Bool:=(man||bV m.man)&&((want||(decide (m.want=0)&&decide (m.done=0)))&&(part||(decide (m.i=0)&&decide (m.b=[]))))
theorem kK {E:aS} (U:Sys E) (m:Msg) (x y z:Bool):E 317 [gv (m.cs aJ),bv x,bv y,bv z]=some ([bv (gR m x y z)],[]):=by
 have a:=pB U m.man
 unfold gR
 cases x<;>cases y<;>cases z
 ·refine U.run rfl rfl fun W Z=>?_
  conv=>lhs;whnf
  repeat'((first|apply Z.t|apply Z.f|(apply Z.q;exact aE)|apply Z.w (a)|(apply Z.b<;>intro h))<;>conv=>lhs;whnf)
  all_goals(refine congrArg (fun b=>(some ([bv b],[]):Option cU)) ?_;first|rfl|(simp_all [aI];done)|(simp_all [aI]<;>(intros;omega)))
 ·refine U.run rfl rfl fun W Z=>?_
  conv=>lhs;whnf
  repeat'((first|apply Z.t|apply Z.f|(apply Z.q;exact aE)|apply Z.w (a)|(apply Z.b<;>intro h))<;>conv=>lhs;whnf)
  all_goals(refine congrArg (fun b=>(some ([bv b],[]):Option cU)) ?_;first|rfl|(simp_all [aI];done)|(simp_all [aI]<;>(intros;omega)))
 ·refine U.run rfl rfl fun W Z=>?_
  conv=>lhs;whnf
  repeat'((first|apply Z.t|apply Z.f|(apply Z.q;exact aE)|apply Z.w (a)|(apply Z.b<;>intro h))<;>conv=>lhs;whnf)
  all_goals(refine congrArg (fun b=>(some ([bv b],[]):Option cU)) ?_;first|rfl|(simp_all [aI];done)|(simp_all [aI]<;>(intros;omega)))
 ·refine U.run rfl rfl fun W Z=>?_
  conv=>lhs;whnf
  repeat'((first|apply Z.t|apply Z.f|(apply Z.q;exact aE)|apply Z.w (a)|(apply Z.b<;>intro h))<;>conv=>lhs;whnf)
  all_goals(refine congrArg (fun b=>(some ([bv b],[]):Option cU)) ?_;first|rfl|(simp_all [aI];done)|(simp_all [aI]<;>(intros;omega)))
 ·refine U.run rfl rfl fun W Z=>?_
  conv=>lhs;whnf
  repeat'((first|apply Z.t|apply Z.f|(apply Z.q;exact aE)|apply Z.w (a)|(apply Z.b<;>intro h))<;>conv=>lhs;whnf)
  all_goals(refine congrArg (fun b=>(some ([bv b],[]):Option cU)) ?_;first|rfl|(simp_all [aI];done)|(simp_all [aI]<;>(intros;omega)))
 ·refine U.run rfl rfl fun W Z=>?_
  conv=>lhs;whnf
  repeat'((first|apply Z.t|apply Z.f|(apply Z.q;exact aE)|apply Z.w (a)|(apply Z.b<;>intro h))<;>conv=>lhs;whnf)
  all_goals(refine congrArg (fun b=>(some ([bv b],[]):Option cU)) ?_;first|rfl|(simp_all [aI];done)|(simp_all [aI]<;>(intros;omega)))
 ·refine U.run rfl rfl fun W Z=>?_
  conv=>lhs;whnf
  repeat'((first|apply Z.t|apply Z.f|(apply Z.q;exact aE)|apply Z.w (a)|(apply Z.b<;>intro h))<;>conv=>lhs;whnf)
  all_goals(refine congrArg (fun b=>(some ([bv b],[]):Option cU)) ?_;first|rfl|(simp_all [aI];done)|(simp_all [aI]<;>(intros;omega)))
 ·refine U.run rfl rfl fun W Z=>?_
  conv=>lhs;whnf
  repeat'((first|apply Z.t|apply Z.f|(apply Z.q;exact aE)|apply Z.w (a)|(apply Z.b<;>intro h))<;>conv=>lhs;whnf)
  all_goals(refine congrArg (fun b=>(some ([bv b],[]):Option cU)) ?_;first|rfl|(simp_all [aI];done)|(simp_all [aI]<;>(intros;omega)))
def bS (m:Msg):Bool :=
 if m.kind=1 then decide (m.gen=0)&&(!decide (m.man.gen=0)&&(aX m.man&&gR m true false false))
 else if m.kind=2 then aR m.gen 0 1000000&&(bV m.man&&(bT m.want&&(bT m.done&&(decide (m.i=0)&&decide (m.b=[])))))
 else if m.kind=3 then aR m.gen 1 1000000&&(bV m.man&&(decide (m.want=0)&&(decide (m.done=0)&&(aR m.i 0 39&&aR m.b.length 1 6))))
 else decide (m.kind=4)&&(aR m.gen 0 1000000&&gR m false false false)
theorem wF (m:Man):decide (m=⟨0,0,0,[]⟩)=bV m:=by
 unfold bV
 cases m
 simp[Bool.decide_and]
theorem xL {m:Msg} (h:m.lim 1048576):m.man.sums.length≤1048576:=h.1
theorem aIe {E:aS} (U:Sys E) (m:Msg) (hm:m.lim 1048576) (k:m.kind=1):E 302 [gv (m.cs aJ)]=some ([bv (bS m)],[]):=by
 have a1:=gB U m.man ⟨0,0,0,[]⟩ (Nat.le_trans (xL hm) (by decide))
 rw[wF]at a1
 have a2:=eU U m.man (xL hm)
 have e:bS m=(decide (m.gen=0)&&(!decide (m.man.gen=0)&&(aX m.man&&gR m true false false))):=by unfold bS;rw[if_pos k]
 rw[e]
 clear e
 obtain⟨kind,gen,man,want,done,i,b⟩:=m
 have k:kind=1:=k
 subst k
 refine U.run rfl rfl fun W Z=>?_
 conv=>lhs;whnf
 repeat'((first|apply Z.t|apply Z.f|(apply Z.q;exact aE)|apply Z.w (a1)|apply Z.w (a2)|(apply Z.b<;>intro h))<;>conv=>lhs;whnf)
 all_goals(refine congrArg (fun b=>(some ([bv b],[]):Option cU)) ?_;first|rfl|(simp_all [gR,aI];done)|(simp_all [gR,aI]<;>(intros;omega)))
theorem aIf {E:aS} (U:Sys E) (m:Msg) (hm:m.lim 1048576) (k:m.kind=2):E 302 [gv (m.cs aJ)]=some ([bv (bS m)],[]):=by
 have a1:=gB U m.man ⟨0,0,0,[]⟩ (Nat.le_trans (xL hm) (by decide))
 rw[wF]at a1
 have e:bS m=(aR m.gen 0 1000000&&(bV m.man&&(bT m.want&&(bT m.done&&(decide (m.i=0)&&decide (m.b=[])))))):=by unfold bS;rw[if_neg (by omega),if_pos k]
 rw[e]
 clear e
 obtain⟨kind,gen,man,want,done,i,b⟩:=m
 have k:kind=2:=k
 subst k
 refine U.run rfl rfl fun W Z=>?_
 conv=>lhs;whnf
 repeat'((first|apply Z.t|apply Z.f|(apply Z.q;exact aE)|apply Z.w (a1)|apply Z.w (bK U _ _ _)|apply Z.w (cG U _)|(apply Z.b<;>intro h))<;>conv=>lhs;whnf)
 all_goals(refine congrArg (fun b=>(some ([bv b],[]):Option cU)) ?_;first|rfl|(simp_all [gR,aI];done)|(simp_all [gR,aI]<;>(intros;omega)))
theorem aIg {E:aS} (U:Sys E) (m:Msg) (hm:m.lim 1048576) (k:m.kind=3):E 302 [gv (m.cs aJ)]=some ([bv (bS m)],[]):=by
 have a1:=gB U m.man ⟨0,0,0,[]⟩ (Nat.le_trans (xL hm) (by decide))
 rw[wF]at a1
 have e:bS m=(aR m.gen 1 1000000&&(bV m.man&&(decide (m.want=0)&&(decide (m.done=0)&&(aR m.i 0 39&&aR m.b.length 1 6))))):=by unfold bS;rw[if_neg (by omega),if_neg (by omega),if_pos k]
 rw[e]
 clear e
 obtain⟨kind,gen,man,want,done,i,b⟩:=m
 have k:kind=3:=k
 subst k
 refine U.run rfl rfl fun W Z=>?_
 conv=>lhs;whnf
 repeat'((first|apply Z.t|apply Z.f|(apply Z.q;exact aE)|apply Z.w (a1)|apply Z.w (bK U _ _ _)|(apply Z.b<;>intro h))<;>conv=>lhs;whnf)
 all_goals(refine congrArg (fun b=>(some ([bv b],[]):Option cU)) ?_;first|rfl|(simp_all [gR,aI];done)|(simp_all [gR,aI]<;>(intros;omega)))
theorem aIh {E:aS} (U:Sys E) (m:Msg) (hm:m.lim 1048576) (k1:m.kind≠1) (k2:m.kind≠2) (k3:m.kind≠3):E 302 [gv (m.cs aJ)]=some ([bv (bS m)],[]):=by
 have a1:=gB U m.man ⟨0,0,0,[]⟩ (Nat.le_trans (xL hm) (by decide))
 rw[wF]at a1
 have e:bS m=(decide (m.kind=4)&&(aR m.gen 0 1000000&&gR m false false false)):=by unfold bS;rw[if_neg k1,if_neg k2,if_neg k3]
 rw[e]
 clear e
 refine U.run rfl rfl fun W Z=>?_
 conv=>lhs;whnf
 repeat'((first|with_reducible apply Z.bf (decide_eq_false k1)|with_reducible apply Z.bf (decide_eq_false k2)|with_reducible apply Z.bf (decide_eq_false k3)|apply Z.t|apply Z.f|(apply Z.q;exact aE)|apply Z.w (a1)|apply Z.w (bK U _ _ _)|(apply Z.b<;>intro h))<;>conv=>lhs;whnf)
 all_goals(refine congrArg (fun b=>(some ([bv b],[]):Option cU)) ?_;first|rfl|(simp_all [gR,aI];done)|(simp_all [gR,aI]<;>(intros;omega)))
theorem aKh {E:aS} (U:Sys E) (m:Msg) (hm:m.lim 1048576):E 302 [gv (m.cs aJ)]=some ([bv (bS m)],[]):=by
 by_cases k1:m.kind=1
 ·exact aIe U m hm k1
 by_cases k2:m.kind=2
 ·exact aIf U m hm k2
 by_cases k3:m.kind=3
 ·exact aIg U m hm k3
 exact aIh U m hm k1 k2 k3
theorem aDj {E:aS} (U:Sys E) (m:Msg) (hm:m.lim 1048576):E 311 [gv (m.cs aJ)]=some ([bv (bS m)],[]):=by
 have a2:=eV U m.man (xL hm)
 have b1:=kK U m true false false
 have b2:=kK U m false true false
 have b3:=kK U m false false true
 have b4:=kK U m false false false
 by_cases k1:m.kind=1
 ·have e:bS m=(decide (m.gen=0)&&(!decide (m.man.gen=0)&&(aX m.man&&gR m true false false))):=by unfold bS;rw[if_pos k1]
  rw[e]
  clear e
  refine U.run rfl rfl fun W Z=>?_
  conv=>lhs;whnf
  repeat'((first|with_reducible apply Z.bt (decide_eq_true k1)|apply Z.t|apply Z.f|(apply Z.q;exact aE)|apply Z.w (a2)|apply Z.w (b1)|(apply Z.b<;>intro h))<;>conv=>lhs;whnf)
  all_goals(refine congrArg (fun b=>(some ([bv b],[]):Option cU)) ?_;first|rfl|(simp_all [];done)|(simp_all []<;>(intros;omega)))
 by_cases k2:m.kind=2
 ·have e:bS m=(aR m.gen 0 1000000&&(bV m.man&&(bT m.want&&(bT m.done&&(decide (m.i=0)&&decide (m.b=[])))))):=by unfold bS;rw[if_neg k1,if_pos k2]
  rw[e]
  clear e
  refine U.run rfl rfl fun W Z=>?_
  conv=>lhs;whnf
  repeat'((first|with_reducible apply Z.bf (decide_eq_false k1)|with_reducible apply Z.bt (decide_eq_true k2)|apply Z.t|apply Z.f|(apply Z.q;exact aE)|apply Z.w (qJ U _)|apply Z.w (dK U _)|apply Z.w (b2)|(apply Z.b<;>intro h))<;>conv=>lhs;whnf)
  all_goals(refine congrArg (fun b=>(some ([bv b],[]):Option cU)) ?_;first|rfl|(simp_all [gR];done)|(simp_all [gR]<;>(intros;omega)))
 by_cases k3:m.kind=3
 ·have e:bS m=(aR m.gen 1 1000000&&(bV m.man&&(decide (m.want=0)&&(decide (m.done=0)&&(aR m.i 0 39&&aR m.b.length 1 6))))):=by unfold bS;rw[if_neg k1,if_neg k2,if_pos k3]
  rw[e]
  clear e
  refine U.run rfl rfl fun W Z=>?_
  conv=>lhs;whnf
  repeat'((first|with_reducible apply Z.bf (decide_eq_false k1)|with_reducible apply Z.bf (decide_eq_false k2)|with_reducible apply Z.bt (decide_eq_true k3)|apply Z.t|apply Z.f|(apply Z.q;exact aE)|apply Z.w (bW U _ _ _)|apply Z.w (vV U _)|apply Z.w (b3)|(apply Z.b<;>intro h))<;>conv=>lhs;whnf)
  all_goals(refine congrArg (fun b=>(some ([bv b],[]):Option cU)) ?_;first|rfl|(simp_all [gR,aI];done)|(simp_all [gR,aI]<;>(intros;omega)))
 have e:bS m=(decide (m.kind=4)&&(aR m.gen 0 1000000&&gR m false false false)):=by unfold bS;rw[if_neg k1,if_neg k2,if_neg k3]
 rw[e]
 clear e
 refine U.run rfl rfl fun W Z=>?_
 conv=>lhs;whnf
 repeat'((first|with_reducible apply Z.bf (decide_eq_false k1)|with_reducible apply Z.bf (decide_eq_false k2)|with_reducible apply Z.bf (decide_eq_false k3)|apply Z.t|apply Z.f|(apply Z.q;exact aE)|apply Z.w (qJ U _)|apply Z.w (b4)|(apply Z.b<;>intro h))<;>conv=>lhs;whnf)
 all_goals(refine congrArg (fun b=>(some ([bv b],[]):Option cU)) ?_;first|rfl|(simp_all [];done)|(simp_all []<;>(intros;omega)))
theorem aDk {n:Nat}:(kD n).length≤9:=aR6
theorem aR8 (k:Int):mK (dH k)=[.int .u8 (IntKind.u8.wrap k)]:=by simp[mK,jA]
theorem pC (a:aC) (k:Int):aT a++[[.int .u8 (IntKind.u8.wrap k)]]=aT (a++[dH k]):=by rw[mL,← aR8];rfl
end Tev
