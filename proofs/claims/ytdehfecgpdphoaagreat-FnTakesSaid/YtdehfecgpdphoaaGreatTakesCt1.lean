/- What the functions compute, one contract each. -/
import Derived.Test.YtdehfecgpdphoaaGreatTakesIr1
set_option linter.unusedSimpArgs false
set_option linter.unusedVariables false
namespace Tev
open Go
set_option maxRecDepth 50000
set_option maxHeartbeats 20000000
def rg (v:Int):Prop := -1≤v∧v≤1048576
def uM {α:Type} (P:Nat→α→Prop) (B:Nat) (l:List α):Prop:=l.length≤B∧∀ x∈l,P B x
theorem aK4 {α:Type} {P:Nat→α→Prop} {B C:Nat} (hp:∀ x,P B x→P C x) (h:B≤C) {l:List α} (hl:uM P B l):uM P C l:=⟨by have:=hl.1;omega,fun x hx=>hp x (hl.2 x hx)⟩
theorem aNJ {α:Type} (f:α→List T) {l:List α} {n:Nat} (h:n<l.length) (z:List T):((l.take n).map f++List.replicate (l.length-n) z).set n (f l[n])=(l.take (n+1)).map f++List.replicate (l.length-(n+1)) z:=by
 have h1:((l.take n).map f).length=n:=by rw[List.length_map,List.length_take];omega
 rw[List.set_append,if_neg (by omega),h1,Nat.sub_self,show l.length-n=(l.length-(n+1))+1 from by omega,List.replicate_succ,List.set_cons_zero,show l.take (n+1)=l.take n++[l[n]] from by rw[List.take_add_one,List.getElem?_eq_getElem h];rfl,List.map_append]
 simp
theorem aEH {α:Type} {f:α→List T} {l:List α} {n:Nat} (h:n<l.length) (z:List T):((l.take n).map f++List.replicate (l.length-n) z)[(n:Int).toNat]?=some z:=by
 have h1:((l.take n).map f).length=n:=by rw[List.length_map,List.length_take];omega
 rw[Int.toNat_natCast,List.getElem?_append_right (by omega),h1,Nat.sub_self,show l.length-n=(l.length-(n+1))+1 from by omega]
 rfl
def gA {α:Type} (c:α→Nat):List α→Nat
 |[]=>0
 |x::r=>c x+gA c r
def dN (k:Int):UInt8:=UInt8.ofNat (k%256).toNat
theorem kE (k:Int):((dN k).toNat:Int)=IntKind.u8.wrap k:=by
 unfold dN
 rw[UInt8.toNat_ofNat']
 simp only[IntKind.wrap,IntKind.bits,IntKind.signed]
 have h1:0≤k%256:=Int.emod_nonneg _ (by omega)
 have h2:k%256<256:=Int.emod_lt_of_pos _ (by omega)
 simp
 omega
def Sent.cs (x:Sent):List CA:=[ci x.frm,ci x.to,ci x.i]
def Man.lim (B:Nat) (x:Man):Prop:=x.sums.length≤B
theorem Man.lim_mono {B C:Nat} (h:B≤C) {x:Man} (hx:x.lim B):x.lim C:=by
 exact Nat.le_trans (id hx) h
def Bld.lim (B:Nat) (x:Bld):Prop:=x.buf.length≤B
theorem Bld.lim_mono {B C:Nat} (h:B≤C) {x:Bld} (hx:x.lim B):x.lim C:=by
 exact Nat.le_trans (id hx) h
def Put.lim (B:Nat) (x:Put):Prop:=x.b.length≤B
theorem Put.lim_mono {B C:Nat} (h:B≤C) {x:Put} (hx:x.lim B):x.lim C:=by
 exact Nat.le_trans (id hx) h
def Pkt.lim (B:Nat) (x:Pkt):Prop:=x.b.length≤B
theorem Pkt.lim_mono {B C:Nat} (h:B≤C) {x:Pkt} (hx:x.lim B):x.lim C:=by
 exact Nat.le_trans (id hx) h
def Image.lim (B:Nat) (x:Image):Prop:=x.b.length≤B
def Tree.lim (B:Nat) (x:Tree):Prop:=x.up.length≤B
def Disk.lim (B:Nat) (x:Disk):Prop:=x.a.length≤B∧x.b.length≤B∧uM (fun B=>Put.lim B) B x.p
theorem Disk.lim_mono {B C:Nat} (h:B≤C) {x:Disk} (hx:x.lim B):x.lim C:=by
 obtain⟨h0,h1,h2⟩:=hx
 exact⟨Nat.le_trans h0 h,Nat.le_trans h1 h,aK4 (fun x hx=>Put.lim_mono h hx) h h2⟩
def Msg.lim (B:Nat) (x:Msg):Prop:=x.man.lim B∧x.b.length≤B
def Node.lim (B:Nat) (x:Node):Prop:=x.man.lim B∧x.bld.lim B∧x.kids.length≤B
theorem Node.lim_mono {B C:Nat} (h:B≤C) {x:Node} (hx:x.lim B):x.lim C:=by
 obtain⟨h0,h1,h2⟩:=hx
 exact⟨Man.lim_mono h h0,Bld.lim_mono h h1,Nat.le_trans h2 h⟩
def Actn.lim (B:Nat) (x:Actn):Prop:=x.n.lim B∧uM (fun B=>Pkt.lim B) B x.out
theorem Actn.lim_mono {B C:Nat} (h:B≤C) {x:Actn} (hx:x.lim B):x.lim C:=by
 obtain⟨h0,h1⟩:=hx
 exact⟨Node.lim_mono h h0,aK4 (fun x hx=>Pkt.lim_mono h hx) h h1⟩
def Beat.lim (B:Nat) (x:Beat):Prop:=x.n.lim B∧x.d.lim B∧uM (fun B=>Pkt.lim B) B x.out
def World.lim (B:Nat) (x:World):Prop:=x.t.lim B∧x.new.length≤B∧uM (fun B=>Image.lim B) B x.old∧uM (fun B=>Node.lim B) B x.n∧uM (fun B=>Disk.lim B) B x.d∧uM (fun B=>Pkt.lim B) B x.net∧x.log.length≤B
theorem aEI {α:Type} {c:α→Nat} {l:List α} {B m:Nat} (h:l.length≤B) (hc:∀ x∈l,c x≤m):gA c l≤B*m:=by
 have:gA c l≤l.length*m:=by
  clear h
  induction l with
  |nil=>simp[gA]
  |cons x r ih =>
   have h1:=ih fun y hy=>hc y (by simp[hy])
   have h2:=hc x (by simp)
   simp only[gA,List.length_cons,Nat.succ_mul];omega
 exact Nat.le_trans this (Nat.mul_le_mul_right m h)
def Sum.cntE (_:Sum):Nat:=0+1+1
def Kid.cntE (_:Kid):Nat:=0+1+1+1+1+1
def Sent.cntE (_:Sent):Nat:=0+1+1+1
def Man.cnt (x:Man):Nat:=gA Sum.cntE x.sums
def Bld.cnt (x:Bld):Nat:=gA (fun _=>1) x.buf
def Put.cntE (x:Put):Nat:=0+1+1+gA (fun _=>1) x.b+1+1+1
def Put.cnt (x:Put):Nat:=gA (fun _=>1) x.b
def Pkt.cntE (x:Pkt):Nat:=0+1+1+gA (fun _=>1) x.b
def Pkt.cnt (x:Pkt):Nat:=gA (fun _=>1) x.b
def Image.cntE (x:Image):Nat:=0+gA (fun _=>1) x.b
def Image.cnt (x:Image):Nat:=gA (fun _=>1) x.b
def Tree.cnt (x:Tree):Nat:=gA (fun _=>1) x.up
def Disk.cntE (x:Disk):Nat:=0+gA (fun _=>1) x.a+gA (fun _=>1) x.b+1+1+1+gA Put.cntE x.p
def Disk.cnt (x:Disk):Nat:=gA (fun _=>1) x.a+gA (fun _=>1) x.b+gA Put.cntE x.p
def Msg.cnt (x:Msg):Nat:=x.man.cnt+gA (fun _=>1) x.b
def Node.cntE (x:Node):Nat:=0+1+1+1+1+1+1+gA Sum.cntE x.man.sums+1+gA (fun _=>1) x.bld.buf+1+gA Kid.cntE x.kids+1
def Node.cnt (x:Node):Nat:=x.man.cnt+x.bld.cnt+gA Kid.cntE x.kids
theorem Node.cnt_le {x:Node} (h:x.lim 4194304):x.cnt≤33554432:=by
 have a0:gA Sum.cntE x.man.sums≤8388608:=aEI (m:=2) h.1 fun _ _=>Nat.le_refl _
 have a1:gA (fun _=>1) x.bld.buf≤4194304:=aEI (m:=1) h.2.1 fun _ _=>Nat.le_refl _
 have a2:gA Kid.cntE x.kids≤20971520:=aEI (m:=5) h.2.2 fun _ _=>Nat.le_refl _
 simp only[Node.cnt,Man.cnt,Bld.cnt];omega
def Actn.cnt (x:Actn):Nat:=x.n.cnt+gA Pkt.cntE x.out
def Beat.cnt (x:Beat):Nat:=x.n.cnt+x.d.cnt+gA Pkt.cntE x.out
def World.cnt (x:World):Nat:=x.t.cnt+gA (fun _=>1) x.new+gA Image.cntE x.old+gA Node.cntE x.n+gA Disk.cntE x.d+gA Pkt.cntE x.net+gA Sent.cntE x.log
structure Cur where
 i:Nat
 h:Int
def iH (es:List (List T)) (c:Cur):A := .pt true [.t (.sl false es),ci c.i,ci c.h]
def dV (c:Cur):List CA:=[.gone,ci c.i,ci c.h]
def aT3 (a b:Int):Int:=IntKind.i64.wrap (BitVec.ofInt IntKind.i64.bits a &&& BitVec.ofInt IntKind.i64.bits b).toNat
def aQh (h:Int):Int:=IntKind.i64.wrap (IntKind.i64.wrap (h*6364136223846793005)+1442695040888963407)
def aXS (h:Int):Int:=aT3 (IntKind.i64.wrap (BitVec.ofInt IntKind.i64.bits (h.fdiv (2 ^ (min (33:Int).toNat IntKind.i64.bits))) ^^^ BitVec.ofInt IntKind.i64.bits (h.fdiv (2 ^ (min (47:Int).toNat IntKind.i64.bits)))).toNat) 255
def eN (b:aD) (c:Cur):Int × Cur :=
 if h:c.i<b.length then(aT3 (IntKind.i64.wrap (aXS (aQh c.h)+IntKind.i64.wrap (b[c.i].toNat:Int))) 255,⟨c.i+1,aQh c.h⟩) else(aXS (aQh c.h),⟨c.i,aQh c.h⟩)
theorem aMc {E:aP} (J:Sys E) {es:List (List T)} {b:aD} (he:es=aR b) (c:Cur) (hb:b.length≤1048576):E 161 [iH es c]=some ([iv (eN b c).1],dV (eN b c).2):=by
 subst he
 have hl:=dA b
 unfold eN
 by_cases h:c.i<b.length
 ·rw[dif_pos h]
  refine J.run rfl rfl fun W U=>?_
  conv=>lhs;whnf
  repeat((first|apply U.t|apply U.f|(apply U.q;exact aC));conv=>lhs;whnf)
  apply U.bt ((decide_eq_true (show(c.i:Int)<((aR b).length:Nat) by rw[hl];omega)))
  conv=>lhs;whnf
  repeat((first|apply U.t|apply U.f|(apply U.q;exact aC)|(refine U.w (cC ?_) ?_;omega));conv=>lhs;whnf)
  rw[show IntKind.i64.wrap ((c.i:Int)+1)=((c.i+1:Nat):Int) from aL (by omega)]
  rfl
 ·rw[dif_neg h]
  refine J.run rfl rfl fun W U=>?_
  conv=>lhs;whnf
  repeat((first|apply U.t|apply U.f|(apply U.q;exact aC));conv=>lhs;whnf)
  apply U.bf ((decide_eq_false (show ¬ (c.i:Int)<((aR b).length:Nat) by rw[hl];omega)))
  conv=>lhs;whnf
  rfl
theorem aQi (a:Int):0≤aT3 a 255∧aT3 a 255≤255:=by
 unfold aT3
 have h:(BitVec.ofInt IntKind.i64.bits a &&& BitVec.ofInt IntKind.i64.bits 255).toNat≤255:=by
  rw[BitVec.toNat_and]
  exact Nat.and_le_right
 rw[show IntKind.i64.wrap _=_ from aK (by omega)]
 omega
theorem aIW (b:aD) (c:Cur):0≤(eN b c).1∧(eN b c).1≤255:=by
 unfold eN
 split
 ·exact aQi _
 ·exact aQi _
def aF (b:aD) (c:Cur) (n:Int):Int × Cur :=
 if n≤0 then(0,c)
 else if n≤256 then((eN b c).1.tmod n,(eN b c).2)
 else((IntKind.i64.wrap (IntKind.i64.wrap (IntKind.i64.wrap ((eN b c).1*65536)+IntKind.i64.wrap ((eN b (eN b c).2).1*256))+(eN b (eN b (eN b c).2).2).1)).tmod n,(eN b (eN b (eN b c).2).2).2)
theorem cH (b:aD) (c:Cur) {n:Int} (hn:0<n):0≤(aF b c n).1∧(aF b c n).1<n:=by
 unfold aF
 rw[if_neg (by omega)]
 have h1:=aIW b c
 split
 ·exact⟨Int.tmod_nonneg _ h1.1,Int.tmod_lt_of_pos _ hn⟩
 ·have h2:=aIW b (eN b c).2
  have h3:=aIW b (eN b (eN b c).2).2
  rw[show IntKind.i64.wrap ((eN b c).1*65536)=_ from aK (by omega),show IntKind.i64.wrap ((eN b (eN b c).2).1*256)=_ from aK (by omega),show IntKind.i64.wrap ((eN b c).1*65536+(eN b (eN b c).2).1*256)=_ from aK (by omega),show IntKind.i64.wrap _=_ from aK (by omega)]
  exact⟨Int.tmod_nonneg _ (by omega),Int.tmod_lt_of_pos _ hn⟩
theorem aW {E:aP} (J:Sys E) {es:List (List T)} {b:aD} (he:es=aR b) (c:Cur) (hb:b.length≤1048576) (n:Int):E 157 [iH es c,iv n]=some ([iv (aF b c n).1],dV (aF b c n).2):=by
 unfold aF
 by_cases h1:n≤0
 ·rw[if_pos h1]
  refine J.run rfl rfl fun W U=>?_
  conv=>lhs;whnf
  repeat'((first|with_reducible apply U.bt (decide_eq_true h1)|apply U.t|apply U.f|(apply U.q;exact aC)|(apply U.b<;>intro h))<;>conv=>lhs;whnf)
  rfl
 ·rw[if_neg h1]
  by_cases h2:n≤256
  ·rw[if_pos h2]
   refine J.run rfl rfl fun W U=>?_
   conv=>lhs;whnf
   repeat'((first|with_reducible apply U.bf (decide_eq_false h1)|with_reducible apply U.bt (decide_eq_true h2)|apply U.t|apply U.f|(apply U.q;exact aC)|(apply U.b<;>intro h))<;>conv=>lhs;whnf)
   apply U.w (aMc J he c hb)
   conv=>lhs;whnf
   repeat((first|apply U.t|apply U.f|(apply U.q;exact aC));conv=>lhs;whnf)
   rfl
  ·rw[if_neg h2]
   refine J.run rfl rfl fun W U=>?_
   conv=>lhs;whnf
   repeat'((first|with_reducible apply U.bf (decide_eq_false h1)|with_reducible apply U.bf (decide_eq_false h2)|apply U.t|apply U.f|(apply U.q;exact aC)|(apply U.b<;>intro h))<;>conv=>lhs;whnf)
   apply U.w (aMc J he c hb)
   conv=>lhs;whnf
   repeat((first|apply U.t|apply U.f|(apply U.q;exact aC));conv=>lhs;whnf)
   apply U.w (aMc J he (eN b c).2 hb)
   conv=>lhs;whnf
   repeat((first|apply U.t|apply U.f|(apply U.q;exact aC));conv=>lhs;whnf)
   apply U.w (aMc J he (eN b (eN b c).2).2 hb)
   conv=>lhs;whnf
   repeat((first|apply U.t|apply U.f|(apply U.q;exact aC));conv=>lhs;whnf)
   rfl
theorem eV {E:aP} (J:Sys E) {es:List (List T)} {b:aD} (he:es=aR b) (c:Cur) (hb:b.length≤1048576) (n:Int):E 162 [iH es c,iv n]=some ([bv (decide ((aF b c n).1=0))],dV (aF b c n).2):=by
 refine J.run rfl rfl fun W U=>?_
 conv=>lhs;whnf
 repeat((first|apply U.t|apply U.f|(apply U.q;exact aC));conv=>lhs;whnf)
 apply U.w (aW J he c hb n)
 conv=>lhs;whnf
 repeat((first|apply U.t|apply U.f|(apply U.q;exact aC));conv=>lhs;whnf)
 rfl
def aIX (b:aD) (c:Cur) (l:List Int):Int × Cur:=(l.getD (aF b c l.length).1.toNat 0,(aF b c l.length).2)
theorem aIY {E:aP} (J:Sys E) {es:List (List T)} {b:aD} (he:es=aR b) (c:Cur) (hb:b.length≤1048576) (l:List Int) (hl:0<l.length):E 160 [iH es c,sv (bB l)]=some ([iv (aIX b c l).1],dV (aIX b c l).2):=by
 have hrl:(bB l).length=l.length:=List.length_map _
 have hr:=cH b c (n:=(l.length:Int)) (by omega)
 have hix:(bB l)[(aF b c (l.length:Int)).1.toNat]?=some (kQ (l.getD (aF b c (l.length:Int)).1.toNat 0)):=by
  unfold bB
  rw[List.getElem?_map,List.getElem?_eq_getElem (by omega),List.getD_eq_getElem?_getD,List.getElem?_eq_getElem (by omega)]
  rfl
 refine J.run rfl rfl fun W U=>?_
 conv=>lhs;whnf
 repeat((first|apply U.t|apply U.f|(apply U.q;exact aC));conv=>lhs;whnf)
 rw[hrl]
 apply U.w (aW J he c hb (l.length:Int))
 conv=>lhs;whnf
 repeat((first|apply U.t|apply U.f|(apply U.q;exact aC));conv=>lhs;whnf)
 apply U.w (hix)
 conv=>lhs;whnf
 repeat((first|apply U.t|apply U.f|(apply U.q;exact aC));conv=>lhs;whnf)
 rfl
def eH (b:aD) (c:Cur):Int × Cur :=
 if(aF b c 3).1=0 then aIX b (aF b c 3).2 [0,1,3,1099511627775,549755813888]
 else(IntKind.i64.wrap ((aF b (aF b c 3).2 65536).1*2 ^ (min (aF b (aF b (aF b c 3).2 65536).2 20).1.toNat IntKind.i64.bits)),(aF b (aF b (aF b c 3).2 65536).2 20).2)
theorem aNK {E:aP} (J:Sys E) {es:List (List T)} {b:aD} (he:es=aR b) (c:Cur) (hb:b.length≤1048576):E 163 [iH es c]=some ([iv (eH b c).1],dV (eH b c).2):=by
 unfold eH
 have a0:=eV J he c hb 3
 by_cases h:(aF b c 3).1=0
 ·rw[if_pos h]
  rw[decide_eq_true h]at a0
  refine J.run rfl rfl fun W U=>?_
  conv=>lhs;whnf
  repeat((first|apply U.t|apply U.f|(apply U.q;exact aC));conv=>lhs;whnf)
  apply U.w (a0)
  conv=>lhs;whnf
  repeat((first|apply U.t|apply U.f|(apply U.q;exact aC));conv=>lhs;whnf)
  apply U.w (aIY J he (aF b c 3).2 hb [0,1,3,1099511627775,549755813888] (by decide))
  conv=>lhs;whnf
  repeat((first|apply U.t|apply U.f|(apply U.q;exact aC));conv=>lhs;whnf)
  rfl
 ·rw[if_neg h]
  rw[decide_eq_false h]at a0
  refine J.run rfl rfl fun W U=>?_
  conv=>lhs;whnf
  repeat((first|apply U.t|apply U.f|(apply U.q;exact aC));conv=>lhs;whnf)
  apply U.w (a0)
  conv=>lhs;whnf
  repeat((first|apply U.t|apply U.f|(apply U.q;exact aC));conv=>lhs;whnf)
  apply U.w (aW J he (aF b c 3).2 hb 65536)
  conv=>lhs;whnf
  repeat((first|apply U.t|apply U.f|(apply U.q;exact aC));conv=>lhs;whnf)
  apply U.w (aW J he (aF b (aF b c 3).2 65536).2 hb 20)
  conv=>lhs;whnf
  repeat((first|apply U.t|apply U.f|(apply U.q;exact aC));conv=>lhs;whnf)
  refine U.q (by exact(cH b (aF b (aF b c 3).2 65536).2 (n:=20) (by decide)).1) ?_
  conv=>lhs;whnf
  rfl
def aPi (b:aD) (c:Cur):Int × Cur:=if(aF b c 8).1=0 then aIX b (aF b c 8).2 [-1,1099511627776] else eH b (aF b c 8).2
theorem aWl {E:aP} (J:Sys E) {es:List (List T)} {b:aD} (he:es=aR b) (c:Cur) (hb:b.length≤1048576):E 158 [iH es c]=some ([iv (aPi b c).1],dV (aPi b c).2):=by
 unfold aPi
 have a0:=eV J he c hb 8
 by_cases h:(aF b c 8).1=0
 ·rw[if_pos h]
  rw[decide_eq_true h]at a0
  refine J.run rfl rfl fun W U=>?_
  conv=>lhs;whnf
  repeat((first|apply U.t|apply U.f|(apply U.q;exact aC));conv=>lhs;whnf)
  apply U.w (a0)
  conv=>lhs;whnf
  repeat((first|apply U.t|apply U.f|(apply U.q;exact aC));conv=>lhs;whnf)
  apply U.w (aIY J he (aF b c 8).2 hb [-1,1099511627776] (by decide))
  conv=>lhs;whnf
  repeat((first|apply U.t|apply U.f|(apply U.q;exact aC));conv=>lhs;whnf)
  rfl
 ·rw[if_neg h]
  rw[decide_eq_false h]at a0
  refine J.run rfl rfl fun W U=>?_
  conv=>lhs;whnf
  repeat((first|apply U.t|apply U.f|(apply U.q;exact aC));conv=>lhs;whnf)
  apply U.w (a0)
  conv=>lhs;whnf
  repeat((first|apply U.t|apply U.f|(apply U.q;exact aC));conv=>lhs;whnf)
  apply U.w (aNK J he (aF b c 8).2 hb)
  conv=>lhs;whnf
  repeat((first|apply U.t|apply U.f|(apply U.q;exact aC));conv=>lhs;whnf)
  rfl
def hN (b:aD):Nat→Int
 |0=>IntKind.i64.wrap (162416+(b.length:Int))
 |n+1=>IntKind.i64.wrap (BitVec.ofInt IntKind.i64.bits (IntKind.i64.wrap (IntKind.i64.wrap (IntKind.i64.wrap (hN b n*137)+IntKind.i64.wrap ((b.getD n 0).toNat:Int))+11)) &&& BitVec.ofInt IntKind.i64.bits 1073741823).toNat
def aVH (b:aD):Cur:=⟨0,hN b (min 4000 b.length)⟩
theorem aWm {E:aP} (J:Sys E) {b:aD} (hb:b.length≤1048576):E 155 [sv (aR b)]=some ([.pt true [.alias 0 0 0 b.length,ci 0,ci (aVH b).h]],[]):=by
 have hl:=dA b
 refine J.run rfl rfl fun W U=>?_
 conv=>lhs;whnf
 refine U.loop (σ:=Nat) (γ:=Nat) (fun i s=>(s.sl 4 (v1 (.t (.int .i64 i)))).sl 3 (v1 (.t (.int .i64 (hN b i))))) (fun i m=>i=m∧m≤min 4000 b.length) (fun m=>b.length-m) (fun _=>([.pt true [.alias 0 0 0 b.length,ci 0,ci (aVH b).h]],[])) 0 0 ?_ ?_ ?_ ?_
 ·intro K
  conv=>lhs;whnf
  conv=>rhs;whnf
  try rfl
  rw[hl]
  rfl
 ·exact⟨rfl,Nat.zero_le _⟩
 ·rintro kl m _ ⟨rfl,hm⟩ ih
  conv=>lhs;whnf
  apply U.b<;>intro g1<;>conv=>lhs;whnf
  ·have g1:m<b.length:=by simpa[hl] using g1
   repeat((first|apply U.t|apply U.f|(apply U.q;exact aC));conv=>lhs;whnf)
   apply U.b<;>intro g2<;>conv=>lhs;whnf
   ·have g2:m<4000:=by have g2:=of_decide_eq_true g2;omega
    repeat((first|apply U.t|apply U.f|(apply U.q;exact aC)|(refine U.w (cC ?_) ?_;omega));conv=>lhs;whnf)
    refine ih (m+1) (m+1) _ ?_ ⟨rfl,by omega⟩ (by omega)
    intro K
    conv=>lhs;whnf
    conv=>rhs;whnf
    try rfl
    rw[show IntKind.i64.wrap ((m:Int)+1)=_ from aL (by omega)]
    have e:hN b (m+1)=IntKind.i64.wrap (BitVec.ofInt IntKind.i64.bits (IntKind.i64.wrap (IntKind.i64.wrap (IntKind.i64.wrap (hN b m*137)+IntKind.i64.wrap ((b[m]).toNat:Int))+11)) &&& BitVec.ofInt IntKind.i64.bits 1073741823).toNat:=by
     rw[hN,List.getD_eq_getElem?_getD,List.getElem?_eq_getElem g1]
     rfl
    rw[e]
   ·have g2:m=min 4000 b.length:=by have g2:=of_decide_eq_false g2;omega
    rw[hl]
    show some ([A.pt true [.alias 0 0 0 b.length,ci 0,ci (hN b m)]],[])=_
    rw[g2]
    rfl
  ·have g1:m=b.length:=by simp[hl]at g1;omega
   repeat((first|apply U.t|apply U.f|(apply U.q;exact aC));conv=>lhs;whnf)
   rw[hl]
   show some ([A.pt true [.alias 0 0 0 b.length,ci 0,ci (hN b m)]],[])=_
   rw[show m=min 4000 b.length by omega]
   rfl
 ·rfl
theorem kG (b:aD):((aR b).drop 0).take b.length=aR b:=by
 rw[List.drop_zero,List.take_of_length_le (Nat.le_of_eq (dA b))]
def yE {R:Type} (x:Option R) (P:R→Prop):Prop:=∃ r,x=some r∧P r
structure Wd.Sk {R:Type} (W:Wd R):Prop where
 ok:W.Ok
theorem Wd.Sk.b {R:Type} {W:Wd R} (h:W.Sk) {P:R→Prop} {b:Bool} {x y:Unit→Option R} (h1:b=true→yE (x ()) P) (h2:b=false→yE (y ()) P):yE (W.br b x y) P:=by
 rw[h.ok.br]
 cases b
 ·exact h2 rfl
 ·exact h1 rfl
theorem Wd.Sk.t {R:Type} {W:Wd R} (h:W.Sk) {P:R→Prop} {x y:Unit→Option R} (h1:yE (x ()) P):yE (W.br true x y) P:=by rw[h.ok.br];exact h1
theorem Wd.Sk.f {R:Type} {W:Wd R} (h:W.Sk) {P:R→Prop} {x y:Unit→Option R} (h1:yE (y ()) P):yE (W.br false x y) P:=by rw[h.ok.br];exact h1
theorem Wd.Sk.bt {R:Type} {W:Wd R} (h:W.Sk) {P:R→Prop} {b:Bool} {x y:Unit→Option R} (hb:b=true) (h1:yE (x ()) P):yE (W.br b x y) P:=by rw[h.ok.br,hb];exact h1
theorem Wd.Sk.bf {R:Type} {W:Wd R} (h:W.Sk) {P:R→Prop} {b:Bool} {x y:Unit→Option R} (hb:b=false) (h1:yE (y ()) P):yE (W.br b x y) P:=by rw[h.ok.br,hb];exact h1
theorem Wd.Sk.q {R:Type} {W:Wd R} (h:W.Sk) {P:R→Prop} {c:Prop} [Decidable c] {x:Unit→Option R} (hc:c) (h1:yE (x ()) P):yE (W.rq c x) P:=by rw[h.ok.rq,chk_true _ hc];exact h1
theorem Wd.Sk.w {R:Type} {W:Wd R} (h:W.Sk) {P:R→Prop} {α:Type} {x:Option α} {f:α→Option R} {a:α} (h1:x=some a) (h2:yE (f a) P):yE (W.wt x f) P:=by rw[h.ok.wt,h1];exact h2
theorem Wd.Sk.loop {R:Type} {W:Wd R} (h:W.Sk) {P:R→Prop} {E:aP} {hand:Nat→Option (Nat × HK)} {i:IC} {keep:List Bool} {drops:List Nat} {can:List (Nat × Nat × Nat × Nat)} {S:St} {k:X × St→Option R} {σ γ:Type} (upd:σ→St→St) (I:σ→γ→Prop) (m:γ→Nat) (a0:σ) (c0:γ)
 (h0:∀ K:St→Option R,aG4 keep drops can S K=aG4 keep drops can S fun s=>aCw (upd a0 s) K) (hI:I a0 c0)
 (step:∀ (kl:St→Option R) a c,I a c→(∀ a' c' S',(∀ K:St→Option R,aG4 keep drops can S' K=aG4 keep drops can S fun s=>aCw (upd a' s) K)→I a' c'→m c'<m c→yE (kl S') P) →
  yE (aG4 keep drops can S fun s=>aCw (upd a s) fun s=>kC W E hand i s fun x s'=>match x with
   |.nor=>kl s'
   |.ret=>k (.ret,s')
   |.exit id=>k (.exit id,s')) P) :
 yE (W.wt (kX (aE6 E hand i) (fun s=>(canon s can).mask keep drops) S) k) P:=by
 simp only[aQg,jQ]at h0 step
 rw[h.ok.wt]
 have key:∀ (n:Nat) a c S',m c<n→(∀ K:St→Option R,K ((canon S' can).mask keep drops)=K (upd a ((canon S can).mask keep drops)))→I a c→yE (bnd (kX (aE6 E hand i) (fun s=>(canon s can).mask keep drops) S') k) P:=by
  intro n
  induction n with
  |zero=>intro a c S' h;omega
  |succ n ih =>
   intro a c S' hn hS ha
   have:=step (fun s=>bnd (kX (aE6 E hand i) (fun s=>(canon s can).mask keep drops) s) k) a c ha (fun a' c' S1 h1 h2 h3=>ih a' c' S1 (by omega) h1 h2)
   rw[← hS fun s=>kC W E hand i s fun x s'=>match x with
    |.nor=>bnd (kX (aE6 E hand i) (fun s=>(canon s can).mask keep drops) s') k
    |.ret=>k (.ret,s')
    |.exit id=>k (.exit id,s')]at this
   obtain⟨r,hr,hp⟩:=this
   have:=aTX W E hand h.ok _ _ _ hr
   rw[aNq]
   obtain⟨r1,h1,h2⟩:=aA.mp this
   rw[h1]
   refine⟨r,?_,hp⟩
   obtain⟨x,s'⟩:=r1
   cases x with
   |nor=>simpa using h2
   |ret=>simpa using h2
   |exit id=>simpa using h2
 exact key (m c0+1) a0 c0 S (by omega) h0 hI
theorem Sys.runS {E:aP} (h:Sys E) {f:Nat} {c:Fn} {args:List A} {P:cO→Prop} (hf:tbl f=some c) (hn:c.nbody=none) (h':∀ W:Wd cO,W.Sk→yE (aIO W E hnd c c.body args) P):yE (E f args) P:=by
 obtain⟨r,hr,hp⟩:=h' _ ⟨Wd.std_ok cO⟩
 refine⟨r,h.fn f c args r hf ?_,hp⟩
 unfold sK
 rw[hn]
 exact aHZ (Wd.std_ok cO) hr
def mD {α:Type} (p:α→Bool):Nat→List α→Int
 |_,[] => -1
 |n,x::r=>if p x then n else mD p (n+1) r
theorem aT4 {α:Type} {p:α→Bool} {l:List α}:∀ {n:Nat},mD p n l = -1∨∃ i:Nat,i<l.length∧mD p n l=((n+i:Nat):Int):=by
 induction l with
 |nil=>intro n;exact .inl rfl
 |cons x r ih =>
  intro n
  simp only[mD]
  cases p x
  ·simp only[Bool.false_eq_true,if_false]
   rcases ih (n:=n+1) with h|⟨i,h1,h2⟩
   ·exact .inl h
   ·exact .inr ⟨i+1,by simpa using h1,by rw[h2];congr 1;omega⟩
  ·exact .inr ⟨0,by simp,by simp⟩
def aS (x lo hi:Int):Bool:=decide (lo≤x)&&decide (x≤hi)
def bZ (s:Int):Bool:=aS s 0 1099511627775
theorem bG {E:aP} (J:Sys E) (x lo hi:Int):E 1 [iv x,iv lo,iv hi]=some ([bv (aS x lo hi)],[]):=by
 refine J.run rfl rfl fun W U=>?_
 conv=>lhs;whnf
 unfold aS
 apply U.b<;>intro h1<;>conv=>lhs;whnf
 ·rw[h1]
  repeat((first|apply U.t|apply U.f|(apply U.q;exact aC));conv=>lhs;whnf)
  simp_all;rfl
 ·rw[h1]
  repeat((first|apply U.t|apply U.f|(apply U.q;exact aC));conv=>lhs;whnf)
  simp_all;rfl
theorem bR {E:aP} (J:Sys E) (x lo hi:Int):E 2 [iv x,iv lo,iv hi]=some ([bv (aS x lo hi)],[]):=by
 refine J.run rfl rfl fun W U=>?_
 conv=>lhs;whnf
 unfold aS
 apply U.b<;>intro h1<;>conv=>lhs;whnf
 ·rw[h1]
  repeat((first|apply U.t|apply U.f|(apply U.q;exact aC));conv=>lhs;whnf)
  simp_all;rfl
 ·rw[h1]
  repeat((first|apply U.t|apply U.f|(apply U.q;exact aC));conv=>lhs;whnf)
  simp_all;rfl
theorem cI {E:aP} (J:Sys E) (s:Int):E 26 [iv s]=some ([bv (bZ s)],[]):=by
 refine J.run rfl rfl fun W U=>?_
 conv=>lhs;whnf
 apply U.w (bG J s 0 1099511627775)
 conv=>lhs;whnf
 try(apply U.q;exact aC;conv=>lhs;whnf)
 rfl
theorem dD {E:aP} (J:Sys E) (s:Int):E 32 [iv s]=some ([bv (bZ s)],[]):=by
 refine J.run rfl rfl fun W U=>?_
 conv=>lhs;whnf
 apply U.w (bR J s 0 1099511627775)
 conv=>lhs;whnf
 try(apply U.q;exact aC;conv=>lhs;whnf)
 rfl
def fK (l:List Kid) (id:Int):Int:=mD (fun x:Kid=>decide (x.id=id)) 0 l
theorem rZ {E:aP} (J:Sys E) (l:List Kid) (id:Int) (h0:l.length≤1099511627776):E 25 [sv (l.map Kid.row),iv id]=some ([iv (fK l id)],[]):=by
 refine J.run rfl rfl fun W U=>?_
 conv=>lhs;whnf
 refine U.loop (σ:=Nat) (γ:=Nat) (fun i s=>s.sl 5 (v1 (.t (.int .i64 i)))) (fun i n=>i=n∧n≤l.length) (fun n=>l.length-n) (fun n=>([iv (mD (fun x:Kid=>decide (x.id=id)) n (l.drop n))],[])) 0 0 ?_ ?_ ?_ ?_
 ·intro K
  conv=>lhs;whnf
  conv=>rhs;whnf
  try rfl
 ·simp
 ·rintro kl n _ ⟨rfl,hn⟩ ih
  conv=>lhs;whnf
  apply U.b<;>intro h2<;>conv=>lhs;whnf
  ·have h2:n<l.length:=by simpa using h2
   rw[List.drop_eq_getElem_cons h2,mD]
   repeat((first|apply U.t|apply U.f|(apply U.q;exact aC)|(refine U.w (cC ?_) ?_;omega));conv=>lhs;whnf)
   apply U.b<;>intro h3<;>conv=>lhs;whnf
   ·simp only[h3,if_true];rfl
   ·simp only[h3,if_false,Bool.false_eq_true]
    refine ih (n+1) (n+1) _ ?_ ⟨rfl,by omega⟩ (by omega)
    intro K
    conv=>lhs;whnf
    conv=>rhs;whnf
    try rfl
    rw[show IntKind.i64.wrap ((n:Int)+1)=_ from aL (by omega)]
  ·have:n=l.length:=by simp at h2;omega
   subst this
   rw[List.drop_length];rfl
 ·rfl
theorem aRu {E:aP} (J:Sys E) (x:Kid) (id:Int):E 102 [gv x.cs, .pt false [ci id]]=some ([bv (decide (x.id=id))],[]):=by
 refine J.run rfl rfl fun W U=>?_
 conv=>lhs;whnf
 rfl
theorem aEJ {E:aP} (J:Sys E) (l:List Kid) (h0:l.length≤1099511627776) (id:Int):E 29 [sv (l.map Kid.row), .fn 102 [[ci id]]]=some ([iv (mD (fun x:Kid=>decide (x.id=id)) 0 l)],[]):=by
 have hrl:(l.map Kid.row).length=l.length:=by simp[aR,bB]
 refine J.run rfl rfl fun W U=>?_
 conv=>lhs;whnf
 refine U.loop (σ:=Nat) (γ:=Nat) (fun i s=>s.sl 8 (v1 (.t (.int .i64 i)))) (fun i n=>i=n∧n≤l.length) (fun n=>l.length-n) (fun n=>([iv (mD (fun x:Kid=>decide (x.id=id)) n (l.drop n))],[])) 0 0 ?_ ?_ ?_ ?_
 ·intro K
  conv=>lhs;whnf
  conv=>rhs;whnf
  try rfl
 ·simp
 ·rintro kl n _ ⟨rfl,hn⟩ ih
  conv=>lhs;whnf
  apply U.b<;>intro h2<;>conv=>lhs;whnf
  ·have h2:n<l.length:=by simpa[hrl] using h2
   rw[List.drop_eq_getElem_cons h2]
   repeat((first|apply U.t|apply U.f|(apply U.q;exact aC)|(refine U.w (cC ?_) ?_;omega));conv=>lhs;whnf)
   apply U.w (aRu J l[n] id)
   conv=>lhs;whnf
   try(apply U.q;exact aC;conv=>lhs;whnf)
   simp only[mD]
   apply U.b<;>intro h3<;>conv=>lhs;whnf
   ·simp only[h3,if_true];rfl
   ·simp only[h3,if_false,Bool.false_eq_true]
    refine ih (n+1) (n+1) _ ?_ ⟨rfl,by omega⟩ (by omega)
    intro K
    conv=>lhs;whnf
    conv=>rhs;whnf
    try rfl
    rw[show IntKind.i64.wrap ((n:Int)+1)=_ from aL (by omega)]
    try rfl
  ·have:n=l.length:=by simp[hrl]at h2;omega
   subst this
   rw[List.drop_length];rfl
 ·rfl
theorem sB {E:aP} (J:Sys E) (l:List Kid) (id:Int) (h0:l.length≤1099511627776):E 31 [sv (l.map Kid.row),iv id]=some ([iv (fK l id)],[]):=by
 refine J.run rfl rfl fun W U=>?_
 conv=>lhs;whnf
 apply U.w (aEJ J l h0 id)
 conv=>lhs;whnf
 try(apply U.q;exact aC;conv=>lhs;whnf)
 rfl
theorem yF {E:aP} (J:Sys E) (l:List Kid) (h0:l.length≤68719476736):E 30 [sv (l.map Kid.row)]=some ([ov 5 (l.map Kid.row)],[]):=by
 have hfl:iB (l.map Kid.row)=true:=aDh (fun _=>rfl) l
 have hrl:(l.map Kid.row).length=l.length:=by simp[aR,bB]
 have hro:∀ e∈l.map Kid.row,e.length=5:=aB0 fun _=>rfl
 refine J.run2 rfl rfl (fun W U=>?_) (fun he W U=>?_)
 ·conv=>lhs;whnf
  repeat((first|apply U.t|apply U.f|(apply U.q;exact aC));conv=>lhs;whnf)
  refine U.q (by exact⟨by decide,hro,by simp only[List.length_nil,hrl];omega,by simp only[List.length_nil,hrl];omega⟩) ?_
  conv=>lhs;whnf
  apply U.bt (hfl)
  conv=>lhs;whnf
  rfl
 ·cases l with
  |cons x r=>exact absurd (show false=true from he) (by decide)
  |nil =>
   conv=>lhs;whnf
   repeat((first|apply U.t|apply U.f|(apply U.q;exact aC));conv=>lhs;whnf)
   rfl
def Node.limk (n:Node):Prop:=n.man.sums.length≤1048576∧n.bld.buf.length≤1048576∧n.kids.length≤4194304
theorem Node.lim.k {n:Node} (h:n.lim 1048576):n.limk:=⟨h.1,h.2.1,Nat.le_trans h.2.2 (by decide)⟩
theorem Node.limk.l4 {n:Node} (h:n.limk):n.lim 4194304:=⟨Nat.le_trans h.1 (by decide),Nat.le_trans h.2.1 (by decide),h.2.2⟩
theorem Node.limk.l8 {n:Node} (h:n.limk):n.lim 8388608:=Node.lim_mono (by decide) h.l4
abbrev aNL (n:Node):Int:=n.drops
theorem aIZ {E:aP} (J:Sys E) (n:Node) (_:n.lim 1048576):E 70 [gv (n.cs aG)]=some ([iv (aNL n)],[]):=by
 refine J.run rfl rfl fun W U=>?_
 conv=>lhs;whnf
 rfl
abbrev aQj (n:Node):Int:=n.bld.hav
def aPj (boss:Int):Node:=⟨true,boss,0,⟨0,0,0,[]⟩,⟨0,[]⟩,0,[],0⟩
theorem aF6 {E:aP} (J:Sys E) (boss:Int):E 81 [iv boss]=some ([gv ((aPj boss).cs bS)],[]):=by
 refine J.run rfl rfl fun W U=>?_
 conv=>lhs;whnf
 rfl
def aJZ (a b:Int):Int:=IntKind.i64.wrap (BitVec.ofInt IntKind.i64.bits a ||| BitVec.ofInt IntKind.i64.bits b).toNat
theorem qM {l:List Kid} {id:Int} (h:¬ fK l id<0):∃ n:Nat,∃ _:n<l.length,fK l id=n:=by
 rcases aT4 (p:=fun x:Kid=>decide (x.id=id)) (l:=l) (n:=0) with h1|⟨i,h1,h2⟩
 ·rw[show fK l id=_ from h1]at h;exact absurd (by decide) h
 ·exact⟨i,h1,by rw[show fK l id=_ from h2];simp⟩
def bV (l:List Kid) (id s:Int):List Kid :=
 match l[(fK l id).toNat]? with
 |none=>l
 |some x=>if fK l id<0∨bZ s=false∨bZ x.sent=false then l else l.set (fK l id).toNat { x with sent:=aJZ x.sent s }
theorem eA (l:List Kid) (id s:Int):(bV l id s).length=l.length:=by
 unfold bV
 split
 ·rfl
 ·split<;>simp
theorem aBy {l:List Kid} {id s:Int} (h:fK l id<0):bV l id s=l:=by
 unfold bV;split
 ·rfl
 ·rw[if_pos (.inl h)]
theorem aEK {l:List Kid} {id s:Int} {n:Nat} (hn:n<l.length) (h:fK l id=n):bV l id s=if bZ s=false∨bZ l[n].sent=false then l else l.set n { l[n] with sent:=aJZ l[n].sent s }:=by
 unfold bV
 rw[h,Int.toNat_natCast,List.getElem?_eq_getElem hn]
 simp only[show ¬ ((n:Int)<0) from by omega,false_or]
theorem mU (l:List Kid):iB (l.map Kid.row)=true:=aDh (fun _=>rfl) l
theorem kids_rows (l:List Kid):∀ e∈l.map Kid.row,e.length=5:=aB0 fun _=>rfl
theorem jJ {E:aP} (J:Sys E) (l:List Kid) (id s:Int) (h0:l.length≤4194304):E 36 [sv (l.map Kid.row),iv id,iv s]=some ([ov 5 ((bV l id s).map Kid.row)],[]):=by
 refine J.run rfl rfl fun W U=>?_
 conv=>lhs;whnf
 refine U.q (by exact⟨by decide,kids_rows l,by simp;omega,by simp;omega⟩) ?_
 conv=>lhs;whnf
 apply U.bt (mU l)
 conv=>lhs;whnf
 apply U.w (rZ J l id (by omega))
 conv=>lhs;whnf
 try(apply U.q;exact aC;conv=>lhs;whnf)
 apply U.b<;>intro h1<;>conv=>lhs;whnf
 ·repeat((first|apply U.t|apply U.f|(apply U.q;exact aC));conv=>lhs;whnf)
  have h1:fK l id<0:=by simpa using h1
  rw[aBy h1];rfl
 ·obtain⟨n,hn,hk⟩:=qM (by simpa using h1)
  rw[aEK hn hk,hk]
  repeat((first|apply U.t|apply U.f|(apply U.q;exact aC));conv=>lhs;whnf)
  apply U.w (cI J s)
  conv=>lhs;whnf
  repeat((first|apply U.t|apply U.f|(apply U.q;exact aC));conv=>lhs;whnf)
  apply U.b<;>intro h2<;>conv=>lhs;whnf
  ·repeat((first|apply U.t|apply U.f|(apply U.q;exact aC));conv=>lhs;whnf)
   rw[if_pos (.inl (by simpa using h2))];rfl
  ·repeat((first|apply U.t|apply U.f|(apply U.q;exact aC)|(refine U.w (cC ?_) ?_;omega));conv=>lhs;whnf)
   apply U.w (cI J l[n].sent)
   conv=>lhs;whnf
   repeat((first|apply U.t|apply U.f|(apply U.q;exact aC));conv=>lhs;whnf)
   apply U.b<;>intro h3<;>conv=>lhs;whnf
   ·repeat((first|apply U.t|apply U.f|(apply U.q;exact aC));conv=>lhs;whnf)
    rw[if_pos (.inr (by simpa using h3))];rfl
   ·rw[if_neg (by simp at h2 h3;simp[h2,h3]),List.map_set]
    repeat((first|apply U.t|apply U.f|(apply U.q;exact aC)|(refine U.w (cC ?_) ?_;omega));conv=>lhs;whnf)
    rfl
theorem tW {E:aP} (J:Sys E) (l:List Kid) (id s:Int) (h0:l.length≤4194304):E 37 [sv (l.map Kid.row),iv id,iv s]=some ([ov 5 ((bV l id s).map Kid.row)],[]):=by
 refine J.run rfl rfl fun W U=>?_
 conv=>lhs;whnf
 apply U.w (yF J l (by omega))
 conv=>lhs;whnf
 repeat((first|apply U.t|apply U.f|(apply U.q;exact aC));conv=>lhs;whnf)
 apply U.w (sB J l id (by omega))
 conv=>lhs;whnf
 repeat((first|apply U.t|apply U.f|(apply U.q;exact aC));conv=>lhs;whnf)
 apply U.b<;>intro h1<;>conv=>lhs;whnf
 ·obtain⟨n,hn,hk⟩:=qM (l:=l) (id:=id) (by simpa using h1)
  rw[aEK hn hk,hk]
  repeat((first|apply U.t|apply U.f|(apply U.q;exact aC));conv=>lhs;whnf)
  apply U.w (dD J s)
  conv=>lhs;whnf
  repeat((first|apply U.t|apply U.f|(apply U.q;exact aC));conv=>lhs;whnf)
  apply U.b<;>intro h2<;>conv=>lhs;whnf
  ·repeat((first|apply U.t|apply U.f|(apply U.q;exact aC)|(refine U.w (cC ?_) ?_;omega));conv=>lhs;whnf)
   apply U.w (dD J l[n].sent)
   conv=>lhs;whnf
   repeat((first|apply U.t|apply U.f|(apply U.q;exact aC));conv=>lhs;whnf)
   apply U.b<;>intro h3<;>conv=>lhs;whnf
   ·rw[if_neg (by rintro(h|h)<;>simp_all),List.map_set]
    repeat((first|apply U.t|apply U.f|(apply U.q;exact aC)|(refine U.w (cC ?_) ?_;omega));conv=>lhs;whnf)
    rfl
   ·repeat((first|apply U.t|apply U.f|(apply U.q;exact aC));conv=>lhs;whnf)
    rw[if_pos (.inr (by simpa using h3))];rfl
  ·repeat((first|apply U.t|apply U.f|(apply U.q;exact aC));conv=>lhs;whnf)
   rw[if_pos (.inl (by simpa using h2))];rfl
 ·repeat((first|apply U.t|apply U.f|(apply U.q;exact aC));conv=>lhs;whnf)
  have h1:fK l id<0:=by simpa using h1
  rw[aBy h1];rfl
theorem bP {x lo hi:Int} (h:aS x lo hi=true):lo≤x∧x≤hi:=by simpa[aS] using h
theorem hJ {b:Bool} (h:(!b)=false):b=true:=by simpa using h
theorem kY {b:Bool} (h:(!b)=true):b=false:=by simpa using h
def nT (n:Int):Int:=if aS n 0 40=true then IntKind.i64.wrap (IntKind.i64.wrap (1*2 ^ (min n.toNat IntKind.i64.bits))-1) else 0
theorem aI0 {E:aP} (J:Sys E) (n:Int):E 89 [iv n]=some ([iv (nT n)],[]):=by
 refine J.run rfl rfl fun W U=>?_
 conv=>lhs;whnf
 apply U.w (bG J n 0 40)
 conv=>lhs;whnf
 try(apply U.q;exact aC;conv=>lhs;whnf)
 unfold nT
 apply U.b<;>intro h1<;>conv=>lhs;whnf
 ·rw[kY h1]
  rfl
 ·rw[hJ h1]
  have:=bP (hJ h1)
  repeat((first|apply U.t|apply U.f|(apply U.q;exact aC));conv=>lhs;whnf)
  rfl
theorem aI1 {E:aP} (J:Sys E) (n:Int):E 93 [iv n]=some ([iv (nT n)],[]):=by
 refine J.run rfl rfl fun W U=>?_
 conv=>lhs;whnf
 apply U.w (bR J n 0 40)
 conv=>lhs;whnf
 try(apply U.q;exact aC;conv=>lhs;whnf)
 unfold nT
 apply U.b<;>intro h1<;>conv=>lhs;whnf
 ·rw[kY h1]
  rfl
 ·rw[hJ h1]
  have:=bP (hJ h1)
  repeat((first|apply U.t|apply U.f|(apply U.q;exact aC));conv=>lhs;whnf)
  rfl
def cQ (m:Man):Int:=nT m.sums.length
theorem tX {E:aP} (J:Sys E) (m:Man):E 90 [gv (m.cs aG)]=some ([iv (cQ m)],[]):=by
 refine J.run rfl rfl fun W U=>?_
 conv=>lhs;whnf
 rw[show(m.sums.map Sum.row).length=m.sums.length from List.length_map _]
 apply U.w (aI0 J m.sums.length)
 conv=>lhs;whnf
 try(apply U.q;exact aC;conv=>lhs;whnf)
 rfl
theorem aHq {E:aP} (J:Sys E) (m:Man):E 94 [gv (m.cs aG)]=some ([iv (cQ m)],[]):=by
 refine J.run rfl rfl fun W U=>?_
 conv=>lhs;whnf
 rw[show(m.sums.map Sum.row).length=m.sums.length from List.length_map _]
 apply U.w (aI1 J m.sums.length)
 conv=>lhs;whnf
 try(apply U.q;exact aC;conv=>lhs;whnf)
 rfl
def aBz (a b:Int):Int:=IntKind.i64.wrap (BitVec.ofInt IntKind.i64.bits a &&& ~~~BitVec.ofInt IntKind.i64.bits b).toNat
def yG (a b:Int):Int:=if bZ a=true∧bZ b=true then aBz a b else 0
theorem yH {E:aP} (J:Sys E) (a b:Int):E 91 [iv a,iv b]=some ([iv (yG a b)],[]):=by
 refine J.run rfl rfl fun W U=>?_
 conv=>lhs;whnf
 apply U.w (cI J a)
 conv=>lhs;whnf
 try(apply U.q;exact aC;conv=>lhs;whnf)
 unfold yG
 apply U.b<;>intro h1<;>conv=>lhs;whnf
 ·rw[if_neg (by rintro⟨h,_⟩;rw[h]at h1;cases h1)]
  repeat((first|apply U.t|apply U.f|(apply U.q;exact aC));conv=>lhs;whnf)
  rfl
 ·rw[hJ h1]
  repeat((first|apply U.t|apply U.f|(apply U.q;exact aC));conv=>lhs;whnf)
  apply U.w (cI J b)
  conv=>lhs;whnf
  repeat((first|apply U.t|apply U.f|(apply U.q;exact aC));conv=>lhs;whnf)
  apply U.b<;>intro h2<;>conv=>lhs;whnf
  ·rw[kY h2]
   rfl
  ·rw[hJ h2]
   rfl
def aNM (m:Man) (x:Bld):Int:=yG (cQ m) x.hav
theorem aI2 {E:aP} (J:Sys E) (m:Man) (x:Bld):E 92 [gv (m.cs aG),gv (x.cs aG)]=some ([iv (aNM m x)],[]):=by
 refine J.run rfl rfl fun W U=>?_
 conv=>lhs;whnf
 apply U.w (tX J m)
 conv=>lhs;whnf
 repeat((first|apply U.t|apply U.f|(apply U.q;exact aC));conv=>lhs;whnf)
 apply U.w (yH J (cQ m) x.hav)
 conv=>lhs;whnf
 try(apply U.q;exact aC;conv=>lhs;whnf)
 rfl
def aAe (n:Node):Int:=if n.phase=0 then 0 else aNM n.man n.bld
theorem aJ0 {E:aP} (J:Sys E) (n:Node) (_:n.lim 1048576):E 97 [gv (n.cs aG)]=some ([iv (aAe n)],[]):=by
 refine J.run rfl rfl fun W U=>?_
 conv=>lhs;whnf
 unfold aAe
 apply U.b<;>intro h1<;>conv=>lhs;whnf
 ·rw[if_pos (by simpa using h1)]
  rfl
 ·rw[if_neg (by simpa using h1)]
  apply U.w (aI2 J n.man n.bld)
  conv=>lhs;whnf
  try(apply U.q;exact aC;conv=>lhs;whnf)
  rfl
theorem yI {E:aP} (J:Sys E) (i:Int):E 128 [iv i]=some ([bv (aS i 0 39)],[]):=by
 refine J.run rfl rfl fun W U=>?_
 conv=>lhs;whnf
 apply U.w (bR J i 0 39)
 conv=>lhs;whnf
 try(apply U.q;exact aC;conv=>lhs;whnf)
 rfl
theorem yJ {E:aP} (J:Sys E) (i:Int):E 1 [iv i,iv 0,iv 39]=some ([bv (aS i 0 39)],[]):=bG J i 0 39
def aF7 (n:Int):Int:=IntKind.i64.wrap (1*2 ^ (min n.toNat IntKind.i64.bits))
def mV (s i:Int):Int:=if bZ s=true∧aS i 0 39=true then aJZ s (aF7 i) else s
theorem tY {E:aP} (J:Sys E) (s i:Int):E 123 [iv s,iv i]=some ([iv (mV s i)],[]):=by
 refine J.run rfl rfl fun W U=>?_
 conv=>lhs;whnf
 apply U.w (cI J s)
 conv=>lhs;whnf
 try(apply U.q;exact aC;conv=>lhs;whnf)
 unfold mV
 apply U.b<;>intro h1<;>conv=>lhs;whnf
 ·rw[if_neg (by rintro⟨h,_⟩;rw[h]at h1;cases h1)]
  repeat((first|apply U.t|apply U.f|(apply U.q;exact aC));conv=>lhs;whnf)
  rfl
 ·rw[hJ h1]
  repeat((first|apply U.t|apply U.f|(apply U.q;exact aC));conv=>lhs;whnf)
  apply U.w (yJ J i)
  conv=>lhs;whnf
  repeat((first|apply U.t|apply U.f|(apply U.q;exact aC));conv=>lhs;whnf)
  apply U.b<;>intro h2<;>conv=>lhs;whnf
  ·rw[kY h2]
   rfl
  ·rw[hJ h2]
   have:=bP (hJ h2)
   repeat((first|apply U.t|apply U.f|(apply U.q;exact aC));conv=>lhs;whnf)
   rfl
def dI (s i:Int):Bool:=bZ s&&(aS i 0 39&&decide (IntKind.i64.wrap (BitVec.ofInt IntKind.i64.bits (s.fdiv (2 ^ (min i.toNat IntKind.i64.bits))) &&& BitVec.ofInt IntKind.i64.bits 1).toNat=1))
theorem dE {E:aP} (J:Sys E) (s i:Int):E 132 [iv s,iv i]=some ([bv (dI s i)],[]):=by
 refine J.run rfl rfl fun W U=>?_
 conv=>lhs;whnf
 apply U.w (cI J s)
 conv=>lhs;whnf
 try(apply U.q;exact aC;conv=>lhs;whnf)
 unfold dI
 apply U.b<;>intro h1<;>conv=>lhs;whnf
 ·rw[h1]
  repeat((first|apply U.t|apply U.f|(apply U.q;exact aC));conv=>lhs;whnf)
  apply U.w (yJ J i)
  conv=>lhs;whnf
  repeat((first|apply U.t|apply U.f|(apply U.q;exact aC));conv=>lhs;whnf)
  apply U.b<;>intro h2<;>conv=>lhs;whnf
  ·rw[h2]
   have:=bP h2
   repeat((first|apply U.t|apply U.f|(apply U.q;exact aC));conv=>lhs;whnf)
   rfl
  ·rw[h2]
   repeat((first|apply U.t|apply U.f|(apply U.q;exact aC));conv=>lhs;whnf)
   rfl
 ·rw[h1]
  repeat((first|apply U.t|apply U.f|(apply U.q;exact aC));conv=>lhs;whnf)
  rfl
theorem eO {E:aP} (J:Sys E) (s i:Int):E 135 [iv s,iv i]=some ([bv (dI s i)],[]):=by
 refine J.run rfl rfl fun W U=>?_
 conv=>lhs;whnf
 apply U.w (dD J s)
 conv=>lhs;whnf
 try(apply U.q;exact aC;conv=>lhs;whnf)
 unfold dI
 apply U.b<;>intro h1<;>conv=>lhs;whnf
 ·rw[h1]
  repeat((first|apply U.t|apply U.f|(apply U.q;exact aC));conv=>lhs;whnf)
  apply U.w (yI J i)
  conv=>lhs;whnf
  repeat((first|apply U.t|apply U.f|(apply U.q;exact aC));conv=>lhs;whnf)
  apply U.b<;>intro h2<;>conv=>lhs;whnf
  ·rw[h2]
   have:=bP h2
   repeat((first|apply U.t|apply U.f|(apply U.q;exact aC));conv=>lhs;whnf)
   rfl
  ·rw[h2]
   repeat((first|apply U.t|apply U.f|(apply U.q;exact aC));conv=>lhs;whnf)
   rfl
 ·rw[h1]
  repeat((first|apply U.t|apply U.f|(apply U.q;exact aC));conv=>lhs;whnf)
  rfl
theorem aEL (a:aD):(⟨a.toArray⟩:ByteArray).toList=a:=by rw[ByteArray.toList_eq]
theorem aF8 {E:aP} (J:Sys E) (a b:aD):E 11 [sv (aR a),sv (aR b)]=some ([bv (decide (a=b))],[]):=by
 refine J.run rfl rfl fun W U=>?_
 conv=>lhs;whnf
 apply U.w (rY a)
 conv=>lhs;whnf
 apply U.w (rY b)
 conv=>lhs;whnf
 simp only[aEL]
 rfl
theorem aJ1 {E:aP} (J:Sys E) (a b:aD):E 14 [sv (aR a),sv (aR b)]=some ([bv (decide (a=b))],[]):=by
 refine J.run rfl rfl fun W U=>?_
 conv=>lhs;whnf
 apply U.w (rY a)
 conv=>lhs;whnf
 apply U.w (rY b)
 conv=>lhs;whnf
 simp only[aEL]
 rfl
theorem qN {E:aP} (J:Sys E) (a b:aD):E 15 [sv (aR a),sv (aR b)]=some ([bv (decide (a=b))],[]):=by
 refine J.run rfl rfl fun W U=>?_
 conv=>lhs;whnf
 apply U.w (aJ1 J a b)
 conv=>lhs;whnf
 try(apply U.q;exact aC;conv=>lhs;whnf)
 rfl
theorem tZ {E:aP} (J:Sys E) (l m:List Sum) (h0:l.length≤1099511627776):E 235 [sv (l.map Sum.row),sv (m.map Sum.row)]=some ([bv (decide (l=m))],[]):=by
 refine J.run rfl rfl fun W U=>?_
 conv=>lhs;whnf
 apply U.b<;>intro h<;>conv=>lhs;whnf
 ·have:l≠m:=by rintro rfl;simp at h
  rw[decide_eq_false this];rfl
 ·have h:l.length=m.length:=by simp at h;omega
  refine U.loop (σ:=Nat) (γ:=Nat) (fun i s=>s.sl 5 (v1 (.t (.int .i64 i)))) (fun i n=>i=n∧n≤l.length) (fun n=>l.length-n) (fun n=>([bv (decide (l.drop n=m.drop n))],[])) 0 0 ?_ ?_ ?_ ?_
  ·intro K
   conv=>lhs;whnf
   conv=>rhs;whnf
   try rfl
  ·simp
  ·rintro kl n _ ⟨rfl,hn⟩ ih
   conv=>lhs;whnf
   apply U.b<;>intro h2<;>conv=>lhs;whnf
   ·have h2:n<l.length:=by simpa using h2
    rw[List.drop_eq_getElem_cons h2,List.drop_eq_getElem_cons (l:=m) (i:=n) (by omega)]
    repeat((first|apply U.t|apply U.f|(apply U.q;exact aC)|(refine U.w (cC ?_) ?_;omega));conv=>lhs;whnf)
    apply U.b<;>intro h3<;>conv=>lhs;whnf
    ·have h3:l[n]≠m[n]:=by intro e;rw[e]at h3;simp at h3
     rw[decide_eq_false fun e=>h3 (List.cons.inj e).1];rfl
    ·have h3:l[n]=m[n]:=by
      revert h3
      generalize l[n]=x
      generalize m[n]=y
      cases x;cases y
      simp
     simp only[h3,List.cons.injEq,true_and]
     refine ih (n+1) (n+1) _ ?_ ⟨rfl,by omega⟩ (by omega)
     intro K
     conv=>lhs;whnf
     conv=>rhs;whnf
     try rfl
     rw[show IntKind.i64.wrap ((n:Int)+1)=_ from aL (by omega)]
     try rfl
   ·have:n=l.length:=by simp at h2;omega
    subst this
    rw[List.drop_length,h,List.drop_length];rfl
  ·rfl
theorem uA {E:aP} (J:Sys E) (l m:List Sum) (h0:l.length≤1099511627776):E 248 [sv (l.map Sum.row),sv (m.map Sum.row)]=some ([bv (decide (l=m))],[]):=by
 refine J.run rfl rfl fun W U=>?_
 conv=>lhs;whnf
 apply U.b<;>intro h<;>conv=>lhs;whnf
 ·have:l≠m:=by rintro rfl;simp at h
  rw[decide_eq_false this];rfl
 ·have h:l.length=m.length:=by simp at h;omega
  refine U.loop (σ:=Nat) (γ:=Nat) (fun i s=>s.sl 13 (v1 (.t (.int .i64 i)))) (fun i n=>i=n∧n≤l.length) (fun n=>l.length-n) (fun n=>([bv (decide (l.drop n=m.drop n))],[])) 0 0 ?_ ?_ ?_ ?_
  ·intro K
   conv=>lhs;whnf
   conv=>rhs;whnf
   try rfl
  ·simp
  ·rintro kl n _ ⟨rfl,hn⟩ ih
   conv=>lhs;whnf
   apply U.b<;>intro h2<;>conv=>lhs;whnf
   ·have h2:n<l.length:=by simpa using h2
    rw[List.drop_eq_getElem_cons h2,List.drop_eq_getElem_cons (l:=m) (i:=n) (by omega)]
    repeat((first|apply U.t|apply U.f|(apply U.q;exact aC)|(refine U.w (cC ?_) ?_;omega));conv=>lhs;whnf)
    apply U.b<;>intro h3<;>conv=>lhs;whnf
    ·have h3:l[n]≠m[n]:=by intro e;rw[e]at h3;simp at h3
     rw[decide_eq_false fun e=>h3 (List.cons.inj e).1];rfl
    ·have h3:l[n]=m[n]:=by
      revert h3
      generalize l[n]=x
      generalize m[n]=y
      cases x;cases y
      simp
     simp only[h3,List.cons.injEq,true_and]
     refine ih (n+1) (n+1) _ ?_ ⟨rfl,by omega⟩ (by omega)
     intro K
     conv=>lhs;whnf
     conv=>rhs;whnf
     try rfl
     rw[show IntKind.i64.wrap ((n:Int)+1)=_ from aL (by omega)]
     try rfl
   ·have:n=l.length:=by simp at h2;omega
    subst this
    rw[List.drop_length,h,List.drop_length];rfl
  ·rfl
theorem aNN {E:aP} (J:Sys E) (l m:List Kid) (h0:l.length≤1099511627776):E 287 [sv (l.map Kid.row),sv (m.map Kid.row)]=some ([bv (decide (l=m))],[]):=by
 refine J.run rfl rfl fun W U=>?_
 conv=>lhs;whnf
 apply U.b<;>intro h<;>conv=>lhs;whnf
 ·have:l≠m:=by rintro rfl;simp at h
  rw[decide_eq_false this];rfl
 ·have h:l.length=m.length:=by simp at h;omega
  refine U.loop (σ:=Nat) (γ:=Nat) (fun i s=>s.sl 13 (v1 (.t (.int .i64 i)))) (fun i n=>i=n∧n≤l.length) (fun n=>l.length-n) (fun n=>([bv (decide (l.drop n=m.drop n))],[])) 0 0 ?_ ?_ ?_ ?_
  ·intro K
   conv=>lhs;whnf
   conv=>rhs;whnf
   try rfl
  ·simp
  ·rintro kl n _ ⟨rfl,hn⟩ ih
   conv=>lhs;whnf
   apply U.b<;>intro h2<;>conv=>lhs;whnf
   ·have h2:n<l.length:=by simpa using h2
    rw[List.drop_eq_getElem_cons h2,List.drop_eq_getElem_cons (l:=m) (i:=n) (by omega)]
    repeat((first|apply U.t|apply U.f|(apply U.q;exact aC)|(refine U.w (cC ?_) ?_;omega));conv=>lhs;whnf)
    apply U.b<;>intro h3<;>conv=>lhs;whnf
    ·have h3:l[n]≠m[n]:=by intro e;rw[e]at h3;simp at h3
     rw[decide_eq_false fun e=>h3 (List.cons.inj e).1];rfl
    ·have h3:l[n]=m[n]:=by
      revert h3
      generalize l[n]=x
      generalize m[n]=y
      cases x;cases y
      simp
     simp only[h3,List.cons.injEq,true_and]
     refine ih (n+1) (n+1) _ ?_ ⟨rfl,by omega⟩ (by omega)
     intro K
     conv=>lhs;whnf
     conv=>rhs;whnf
     try rfl
     rw[show IntKind.i64.wrap ((n:Int)+1)=_ from aL (by omega)]
     try rfl
   ·have:n=l.length:=by simp at h2;omega
    subst this
    rw[List.drop_length,h,List.drop_length];rfl
  ·rfl
theorem fB {E:aP} (J:Sys E) (a b:Man) (h0:a.sums.length≤1099511627776):E 285 [gv (a.cs aG),gv (b.cs aG)]=some ([bv (decide (a=b))],[]):=by
 refine J.run rfl rfl fun W U=>?_
 conv=>lhs;whnf
 have key:decide (a=b)=(decide (a.gen=b.gen)&&(decide (a.size=b.size)&&(decide (a.len=b.len)&&decide (a.sums=b.sums)))):=by
  cases a;cases b;simp
 rw[key]
 apply U.b<;>intro h1<;>conv=>lhs;whnf
 ·rw[h1]
  repeat((first|apply U.t|apply U.f|(apply U.q;exact aC));conv=>lhs;whnf)
  apply U.b<;>intro h2<;>conv=>lhs;whnf
  ·rw[h2]
   repeat((first|apply U.t|apply U.f|(apply U.q;exact aC));conv=>lhs;whnf)
   apply U.b<;>intro h3<;>conv=>lhs;whnf
   ·rw[h3]
    repeat((first|apply U.t|apply U.f|(apply U.q;exact aC));conv=>lhs;whnf)
    apply U.w (tZ J a.sums b.sums h0)
    conv=>lhs;whnf
    repeat((first|apply U.t|apply U.f|(apply U.q;exact aC));conv=>lhs;whnf)
    rfl
   ·rw[h3]
    repeat((first|apply U.t|apply U.f|(apply U.q;exact aC));conv=>lhs;whnf)
    rfl
  ·rw[h2]
   repeat((first|apply U.t|apply U.f|(apply U.q;exact aC));conv=>lhs;whnf)
   rfl
 ·rw[h1]
  repeat((first|apply U.t|apply U.f|(apply U.q;exact aC));conv=>lhs;whnf)
  rfl
theorem yK {E:aP} (J:Sys E) (a b:Man) (h0:a.sums.length≤1099511627776):E 286 [gv (a.cs aG),gv (b.cs aG)]=some ([bv (decide (a=b))],[]):=by
 refine J.run rfl rfl fun W U=>?_
 conv=>lhs;whnf
 have key:decide (a=b)=(decide (a.gen=b.gen)&&(decide (a.size=b.size)&&(decide (a.len=b.len)&&decide (a.sums=b.sums)))):=by
  cases a;cases b;simp
 rw[key]
 apply U.b<;>intro h1<;>conv=>lhs;whnf
 ·rw[h1]
  repeat((first|apply U.t|apply U.f|(apply U.q;exact aC));conv=>lhs;whnf)
  apply U.b<;>intro h2<;>conv=>lhs;whnf
  ·rw[h2]
   repeat((first|apply U.t|apply U.f|(apply U.q;exact aC));conv=>lhs;whnf)
   apply U.b<;>intro h3<;>conv=>lhs;whnf
   ·rw[h3]
    repeat((first|apply U.t|apply U.f|(apply U.q;exact aC));conv=>lhs;whnf)
    apply U.w (uA J a.sums b.sums h0)
    conv=>lhs;whnf
    repeat((first|apply U.t|apply U.f|(apply U.q;exact aC));conv=>lhs;whnf)
    rfl
   ·rw[h3]
    repeat((first|apply U.t|apply U.f|(apply U.q;exact aC));conv=>lhs;whnf)
    rfl
  ·rw[h2]
   repeat((first|apply U.t|apply U.f|(apply U.q;exact aC));conv=>lhs;whnf)
   rfl
 ·rw[h1]
  repeat((first|apply U.t|apply U.f|(apply U.q;exact aC));conv=>lhs;whnf)
  rfl
theorem aNO (a b:Node):decide (a=b)=(decide (a.on=b.on)&&(decide (a.boss=b.boss)&&(decide (a.quiet=b.quiet)&&(decide (a.man=b.man)&&(decide (a.bld.hav=b.bld.hav)&&(decide (a.bld.buf=b.bld.buf)&&(decide (a.phase=b.phase)&&(decide (a.kids=b.kids)&&decide (a.drops=b.drops))))))))):=by
 obtain⟨_,_,_,_,⟨_,_⟩,_,_,_⟩:=a
 obtain⟨_,_,_,_,⟨_,_⟩,_,_,_⟩:=b
 simp only[Node.mk.injEq,Bld.mk.injEq,Bool.decide_and,Bool.and_assoc]
abbrev mW (a b:Node):Bool:=decide (a=b)
theorem aF9 {E:aP} (J:Sys E) (a b:Node) (ha:a.lim 4194304):E 119 [gv (a.cs aG),gv (b.cs aG)]=some ([bv (mW a b)],[]):=by
 obtain⟨l1,l2,l3⟩:=ha
 unfold mW
 refine J.run rfl rfl fun W U=>?_
 conv=>lhs;whnf
 rw[aNO]
 have e0:decide (a.on=b.on)=(a.on==b.on):=rfl
 rw[e0]
 apply U.b<;>intro h0<;>conv=>lhs;whnf
 ·rw[h0]
  repeat((first|apply U.t|apply U.f|(apply U.q;exact aC));conv=>lhs;whnf)
  apply U.b<;>intro h1<;>conv=>lhs;whnf
  ·rw[h1]
   repeat((first|apply U.t|apply U.f|(apply U.q;exact aC));conv=>lhs;whnf)
   apply U.b<;>intro h2<;>conv=>lhs;whnf
   ·rw[h2]
    repeat((first|apply U.t|apply U.f|(apply U.q;exact aC));conv=>lhs;whnf)
    apply U.w (yK J a.man b.man (Nat.le_trans l1 (by decide)))
    conv=>lhs;whnf
    repeat((first|apply U.t|apply U.f|(apply U.q;exact aC));conv=>lhs;whnf)
    apply U.b<;>intro h3<;>conv=>lhs;whnf
    ·rw[h3]
     repeat((first|apply U.t|apply U.f|(apply U.q;exact aC));conv=>lhs;whnf)
     apply U.b<;>intro h4<;>conv=>lhs;whnf
     ·rw[h4]
      repeat((first|apply U.t|apply U.f|(apply U.q;exact aC));conv=>lhs;whnf)
      apply U.w (qN J a.bld.buf b.bld.buf)
      conv=>lhs;whnf
      repeat((first|apply U.t|apply U.f|(apply U.q;exact aC));conv=>lhs;whnf)
      apply U.b<;>intro h5<;>conv=>lhs;whnf
      ·rw[h5]
       repeat((first|apply U.t|apply U.f|(apply U.q;exact aC));conv=>lhs;whnf)
       apply U.b<;>intro h6<;>conv=>lhs;whnf
       ·rw[h6]
        repeat((first|apply U.t|apply U.f|(apply U.q;exact aC));conv=>lhs;whnf)
        apply U.w (aNN J a.kids b.kids (Nat.le_trans l3 (by decide)))
        conv=>lhs;whnf
        repeat((first|apply U.t|apply U.f|(apply U.q;exact aC));conv=>lhs;whnf)
        apply U.b<;>intro h7<;>conv=>lhs;whnf
        ·rw[h7]
         repeat((first|apply U.t|apply U.f|(apply U.q;exact aC));conv=>lhs;whnf)
         rfl
        ·rw[h7]
         repeat((first|apply U.t|apply U.f|(apply U.q;exact aC));conv=>lhs;whnf)
         rfl
       ·rw[h6]
        repeat((first|apply U.t|apply U.f|(apply U.q;exact aC));conv=>lhs;whnf)
        rfl
      ·rw[h5]
       repeat((first|apply U.t|apply U.f|(apply U.q;exact aC));conv=>lhs;whnf)
       rfl
     ·rw[h4]
      repeat((first|apply U.t|apply U.f|(apply U.q;exact aC));conv=>lhs;whnf)
      rfl
    ·rw[h3]
     repeat((first|apply U.t|apply U.f|(apply U.q;exact aC));conv=>lhs;whnf)
     rfl
   ·rw[h2]
    repeat((first|apply U.t|apply U.f|(apply U.q;exact aC));conv=>lhs;whnf)
    rfl
  ·rw[h1]
   repeat((first|apply U.t|apply U.f|(apply U.q;exact aC));conv=>lhs;whnf)
   rfl
 ·rw[h0]
  repeat((first|apply U.t|apply U.f|(apply U.q;exact aC));conv=>lhs;whnf)
  rfl
theorem aGa {E:aP} (J:Sys E) (a b:Node) (ha:a.lim 4194304):E 118 [gv (a.cs aG),gv (b.cs aG)]=some ([bv (mW a b)],[]):=by
 obtain⟨l1,l2,l3⟩:=ha
 have l3':a.kids.length≤1099511627776:=Nat.le_trans l3 (by decide)
 unfold mW
 refine J.run rfl rfl fun W U=>?_
 conv=>lhs;whnf
 apply U.b<;>intro h0<;>conv=>lhs;whnf
 ·rw[show decide (a=b)=false from decide_eq_false (by rintro rfl;simp at h0)]
  repeat((first|apply U.t|apply U.f|(apply U.q;exact aC));conv=>lhs;whnf)
  rfl
 ·have e0:a.on=b.on:=by simpa using h0
  repeat((first|apply U.t|apply U.f|(apply U.q;exact aC));conv=>lhs;whnf)
  apply U.b<;>intro h1<;>conv=>lhs;whnf
  ·rw[show decide (a=b)=false from decide_eq_false (by rintro rfl;simp at h1)]
   repeat((first|apply U.t|apply U.f|(apply U.q;exact aC));conv=>lhs;whnf)
   rfl
  ·have e1:a.boss=b.boss:=by simpa using h1
   repeat((first|apply U.t|apply U.f|(apply U.q;exact aC));conv=>lhs;whnf)
   apply U.b<;>intro h2<;>conv=>lhs;whnf
   ·rw[show decide (a=b)=false from decide_eq_false (by rintro rfl;simp at h2)]
    repeat((first|apply U.t|apply U.f|(apply U.q;exact aC));conv=>lhs;whnf)
    rfl
   ·have e2:a.quiet=b.quiet:=by simpa using h2
    repeat((first|apply U.t|apply U.f|(apply U.q;exact aC));conv=>lhs;whnf)
    apply U.w (fB J a.man b.man (Nat.le_trans l1 (by decide)))
    conv=>lhs;whnf
    repeat((first|apply U.t|apply U.f|(apply U.q;exact aC));conv=>lhs;whnf)
    apply U.b<;>intro h3<;>conv=>lhs;whnf
    ·rw[show decide (a=b)=false from decide_eq_false (by rintro rfl;simp at h3)]
     repeat((first|apply U.t|apply U.f|(apply U.q;exact aC));conv=>lhs;whnf)
     rfl
    ·have e3:a.man=b.man:=by simpa using h3
     repeat((first|apply U.t|apply U.f|(apply U.q;exact aC));conv=>lhs;whnf)
     apply U.b<;>intro h4<;>conv=>lhs;whnf
     ·rw[show decide (a=b)=false from decide_eq_false (by rintro rfl;simp at h4)]
      repeat((first|apply U.t|apply U.f|(apply U.q;exact aC));conv=>lhs;whnf)
      rfl
     ·have e4:a.bld.hav=b.bld.hav:=by simpa using h4
      repeat((first|apply U.t|apply U.f|(apply U.q;exact aC));conv=>lhs;whnf)
      apply U.w (aF8 J a.bld.buf b.bld.buf)
      conv=>lhs;whnf
      repeat((first|apply U.t|apply U.f|(apply U.q;exact aC));conv=>lhs;whnf)
      apply U.b<;>intro h5<;>conv=>lhs;whnf
      ·rw[show decide (a=b)=false from decide_eq_false (by rintro rfl;simp at h5)]
       repeat((first|apply U.t|apply U.f|(apply U.q;exact aC));conv=>lhs;whnf)
       rfl
      ·have e5:a.bld.buf=b.bld.buf:=by simpa using h5
       repeat((first|apply U.t|apply U.f|(apply U.q;exact aC));conv=>lhs;whnf)
       apply U.b<;>intro h6<;>conv=>lhs;whnf
       ·rw[show decide (a=b)=false from decide_eq_false (by rintro rfl;simp at h6)]
        repeat((first|apply U.t|apply U.f|(apply U.q;exact aC));conv=>lhs;whnf)
        rfl
       ·have e6:a.phase=b.phase:=by simpa using h6
        repeat((first|apply U.t|apply U.f|(apply U.q;exact aC));conv=>lhs;whnf)
        apply U.b<;>intro h7<;>conv=>lhs;whnf
        ·rw[show decide (a=b)=false from decide_eq_false (by rintro rfl;simp at h7)]
         repeat((first|apply U.t|apply U.f|(apply U.q;exact aC));conv=>lhs;whnf)
         rfl
        ·have e7:a.kids.length=b.kids.length:=by simp at h7;omega
         repeat((first|apply U.t|apply U.f|(apply U.q;exact aC));conv=>lhs;whnf)
         apply U.b<;>intro h8<;>conv=>lhs;whnf
         ·rw[show decide (a=b)=false from decide_eq_false (by rintro rfl;simp at h8)]
          rfl
         ·have e8:a.drops=b.drops:=by simpa using h8
          have key:decide (a=b)=decide (a.kids=b.kids):=by
           rw[aNO,e0,e1,e2,e3,e4,e5,e6,e8]
           simp only[decide_true,Bool.true_and,Bool.and_true]
          rw[key]
          refine U.loop (σ:=Nat) (γ:=Nat) (fun i s=>s.sl 5 (v1 (.t (.int .i64 i)))) (fun i n=>i=n∧n≤a.kids.length) (fun n=>a.kids.length-n) (fun n=>([bv (decide (a.kids.drop n=b.kids.drop n))],[])) 0 0 ?_ ?_ ?_ ?_
          ·intro K
           conv=>lhs;whnf
           conv=>rhs;whnf
           try rfl
          ·simp
          ·rintro kl n _ ⟨rfl,hn⟩ ih
           conv=>lhs;whnf
           apply U.b<;>intro h2<;>conv=>lhs;whnf
           ·have h2:n<a.kids.length:=by simpa using h2
            rw[List.drop_eq_getElem_cons h2,List.drop_eq_getElem_cons (l:=b.kids) (i:=n) (by omega)]
            repeat((first|apply U.t|apply U.f|(apply U.q;exact aC)|(refine U.w (cC ?_) ?_;omega));conv=>lhs;whnf)
            apply U.b<;>intro h3<;>conv=>lhs;whnf
            ·have h3:a.kids[n]≠b.kids[n]:=by intro e;rw[e]at h3;simp at h3
             rw[decide_eq_false fun e=>h3 (List.cons.inj e).1];rfl
            ·have h3:a.kids[n]=b.kids[n]:=by
              revert h3
              generalize a.kids[n]=x
              generalize b.kids[n]=y
              cases x;cases y
              simp
             simp only[h3,List.cons.injEq,true_and]
             refine ih (n+1) (n+1) _ ?_ ⟨rfl,by omega⟩ (by omega)
             intro K
             conv=>lhs;whnf
             conv=>rhs;whnf
             try rfl
             rw[show IntKind.i64.wrap ((n:Int)+1)=_ from aL (by omega)]
             try rfl
           ·have:n=a.kids.length:=by simp at h2;omega
            subst this
            rw[List.drop_length,e7,List.drop_length];rfl
          ·rfl
def lI (s:Int):Nat→Nat→List Int
 |_,0=>[]
 |i,k+1=>if dI s i=true then(i:Int)::lI s (i+1) k else lI s (i+1) k
def dS (s:Int):List Int:=lI s 0 40
theorem aPk {s:Int}:∀ {k i:Nat},(lI s i k).length≤k:=by
 intro k
 induction k with
 |zero=>intro i;exact Nat.le_refl _
 |succ k ih =>
  intro i
  simp only[lI]
  split
  ·have:=ih (i:=i+1);simp only[List.length_cons];omega
  ·have:=ih (i:=i+1);omega
theorem aRv {s:Int}:∀ {k i:Nat},∀ x∈lI s i k,0≤x:=by
 intro k
 induction k with
 |zero=>intro i x h;cases h
 |succ k ih =>
  intro i x h
  simp only[lI]at h
  split at h
  ·rcases List.mem_cons.mp h with rfl|h
   ·omega
   ·exact ih x h
  ·exact ih x h
theorem kH {s:Int}:(dS s).length≤40:=aPk
theorem aI3 {E:aP} (J:Sys E) (s:Int):E 134 [iv s]=some ([ov 1 (bB (dS s))],[]):=by
 refine J.run rfl rfl fun W U=>?_
 conv=>lhs;whnf
 refine U.loop (σ:=Nat × List Int) (γ:=Nat) (fun i s=>(s.sl 6 (v1 (.t (.int .i64 i.1)))).bl ⟨50300,1, .own,bB i.2⟩) (fun i m=>i.1=m∧m≤40∧i.2.length≤m∧i.2++lI s m (40-m)=dS s) (fun m=>40-m) (fun _=>([ov 1 (bB (dS s))],[])) (0,[]) 0 ?_ ?_ ?_ ?_
 ·intro K
  conv=>lhs;whnf
  conv=>rhs;whnf
  try rfl
 ·exact⟨rfl,by omega,by simp,rfl⟩
 ·rintro kl ⟨m,acc⟩ _ ⟨rfl,hm,hl,hs⟩ ih
  simp only at hs hm hl
  conv=>lhs;whnf
  apply U.b<;>intro h1<;>conv=>lhs;whnf
  ·have h1:m<40:=by
    have:(m:Int)<40:=by simpa using h1
    omega
   rw[show 40-m=(40-(m+1))+1 from by omega,lI]at hs
   apply U.w (eO J s m)
   conv=>lhs;whnf
   try(apply U.q;exact aC;conv=>lhs;whnf)
   apply U.b<;>intro h3<;>conv=>lhs;whnf
   ·rw[if_pos h3]at hs
    refine U.q (by exact⟨by decide,by intro e he;simp at he;subst he;rfl,by simp[bB];omega,by simp[bB];omega⟩) ?_
    conv=>lhs;whnf
    repeat((first|apply U.t|apply U.f|(apply U.q;exact aC));conv=>lhs;whnf)
    refine ih (m+1,acc++[(m:Int)]) (m+1) _ ?_ ⟨rfl,by omega,by simp;omega,by simpa using hs⟩ (by omega)
    intro K
    conv=>lhs;whnf
    conv=>rhs;whnf
    try rfl
    rw[show IntKind.i64.wrap ((m:Int)+1)=_ from aL (by omega)]
    simp[bB,kQ]
   ·rw[if_neg (by rw[h3];decide)]at hs
    refine ih (m+1,acc) (m+1) _ ?_ ⟨rfl,by omega,by simp only;omega,hs⟩ (by omega)
    intro K
    conv=>lhs;whnf
    conv=>rhs;whnf
    try rfl
    rw[show IntKind.i64.wrap ((m:Int)+1)=_ from aL (by omega)]
    try rfl
  ·have:m=40:=by
    have:¬ (m:Int)<40:=by simpa using h1
    omega
   subst this
   simp only[Nat.sub_self,lI,List.append_nil]at hs
   rw[← hs];rfl
 ·rfl
theorem aRw (l:List Sum):iB (l.map Sum.row)=true:=aDh (fun _=>rfl) l
theorem aRx (l:List Sum):∀ e∈l.map Sum.row,e.length=2:=aB0 fun _=>rfl
theorem aI (l:aD):(aR l).length=l.length:=List.length_map _
theorem aNP {E:aP} (J:Sys E) (l:List Sum) (h0:l.length≤68719476736):E 218 [sv (l.map Sum.row)]=some ([ov 2 (l.map Sum.row)],[]):=by
 have hfl:iB (l.map Sum.row)=true:=aDh (fun _=>rfl) l
 have hrl:(l.map Sum.row).length=l.length:=by simp[aR,bB]
 have hro:∀ e∈l.map Sum.row,e.length=2:=aB0 fun _=>rfl
 refine J.run2 rfl rfl (fun W U=>?_) (fun he W U=>?_)
 ·conv=>lhs;whnf
  repeat((first|apply U.t|apply U.f|(apply U.q;exact aC));conv=>lhs;whnf)
  refine U.q (by exact⟨by decide,hro,by simp only[List.length_nil,hrl];omega,by simp only[List.length_nil,hrl];omega⟩) ?_
  conv=>lhs;whnf
  apply U.bt (hfl)
  conv=>lhs;whnf
  rfl
 ·cases l with
  |cons x r=>exact absurd (show false=true from he) (by decide)
  |nil =>
   conv=>lhs;whnf
   repeat((first|apply U.t|apply U.f|(apply U.q;exact aC));conv=>lhs;whnf)
   rfl
theorem dF {E:aP} (J:Sys E) (b:aD) (h0:b.length≤68719476736):E 42 [sv (aR b)]=some ([ov 1 (aR b)],[]):=by
 refine J.run rfl rfl fun W U=>?_
 conv=>lhs;whnf
 refine U.q (by exact⟨by omega, .inr rfl,by omega,by rw[aI];omega,by rw[aI];omega,by decide,rfl⟩) ?_
 conv=>lhs;whnf
 refine U.q (by exact⟨by decide,aY _,by simp[aI];omega,by simp[aI];omega⟩) ?_
 conv=>lhs;whnf
 apply U.bt (cF _)
 conv=>lhs;whnf
 rfl
theorem pA {E:aP} (J:Sys E) (x:Man) (h0:x.sums.length≤8388608):E 213 [gv (x.cs aG)]=some ([gv (x.cs bS)],[]):=by
 refine J.run rfl rfl fun W U=>?_
 conv=>lhs;whnf
 refine U.q (by exact⟨by decide,aRx _,by simp;omega,by simp;omega⟩) ?_
 conv=>lhs;whnf
 apply U.bt (aRw _)
 conv=>lhs;whnf
 rfl
theorem yL {E:aP} (J:Sys E) (x:Man) (h0:x.sums.length≤8388608):E 216 [gv (x.cs aG)]=some ([gv (x.cs bS)],[]):=by
 refine J.run rfl rfl fun W U=>?_
 conv=>lhs;whnf
 apply U.w (aNP J x.sums (by omega))
 conv=>lhs;whnf
 repeat((first|apply U.t|apply U.f|(apply U.q;exact aC));conv=>lhs;whnf)
 rfl
theorem aBA {E:aP} (J:Sys E) (x:Bld) (h0:x.buf.length≤8388608):E 214 [gv (x.cs aG)]=some ([gv (x.cs bS)],[]):=by
 refine J.run rfl rfl fun W U=>?_
 conv=>lhs;whnf
 refine U.q (by exact⟨by decide,aY _,by rw[aI];omega,by rw[aI];omega,cF _⟩) ?_
 conv=>lhs;whnf
 rfl
theorem qO {E:aP} (J:Sys E) (x:Bld) (h0:x.buf.length≤8388608):E 217 [gv (x.cs aG)]=some ([gv (x.cs bS)],[]):=by
 refine J.run rfl rfl fun W U=>?_
 conv=>lhs;whnf
 apply U.w (dF J x.buf (by omega))
 conv=>lhs;whnf
 repeat((first|apply U.t|apply U.f|(apply U.q;exact aC));conv=>lhs;whnf)
 rfl
theorem dJ {E:aP} (J:Sys E) (x:Node) (h0:x.lim 8388608):E 212 [gv (x.cs aG)]=some ([gv (x.cs bS)],[]):=by
 obtain⟨h1,h2,h3⟩:=h0
 refine J.run rfl rfl fun W U=>?_
 conv=>lhs;whnf
 apply U.w (pA J x.man h1)
 conv=>lhs;whnf
 repeat((first|apply U.t|apply U.f|(apply U.q;exact aC));conv=>lhs;whnf)
 apply U.w (aBA J x.bld h2)
 conv=>lhs;whnf
 repeat((first|apply U.t|apply U.f|(apply U.q;exact aC));conv=>lhs;whnf)
 refine U.q (by exact⟨by decide,kids_rows _,by simp;omega,by simp;omega⟩) ?_
 conv=>lhs;whnf
 apply U.bt (mU _)
 conv=>lhs;whnf
 rfl
theorem cX {E:aP} (J:Sys E) (x:Node) (h0:x.lim 8388608):E 215 [gv (x.cs aG)]=some ([gv (x.cs bS)],[]):=by
 obtain⟨h1,h2,h3⟩:=h0
 refine J.run rfl rfl fun W U=>?_
 conv=>lhs;whnf
 apply U.w (yL J x.man h1)
 conv=>lhs;whnf
 repeat((first|apply U.t|apply U.f|(apply U.q;exact aC));conv=>lhs;whnf)
 apply U.w (qO J x.bld h2)
 conv=>lhs;whnf
 repeat((first|apply U.t|apply U.f|(apply U.q;exact aC));conv=>lhs;whnf)
 apply U.w (yF J x.kids (by omega))
 conv=>lhs;whnf
 repeat((first|apply U.t|apply U.f|(apply U.q;exact aC));conv=>lhs;whnf)
 rfl
def kI (r:Rec):Bool:=aS r.gen 0 1000000&&(aS r.slot 0 1&&aS r.len 0 240)
theorem uB {E:aP} (J:Sys E) (r:Rec):E 180 [gv r.cs]=some ([bv (kI r)],[]):=by
 refine J.run rfl rfl fun W U=>?_
 conv=>lhs;whnf
 repeat'((first|apply U.t|apply U.f|(apply U.q;exact aC)|apply U.w (bG J _ _ _)|(apply U.b<;>intro h))<;>conv=>lhs;whnf)
 all_goals(refine congrArg (fun b=>(some ([bv b],[]):Option cO)) ?_;first|rfl|(simp_all [kI];done)|(simp_all [kI]<;>(intros;omega)))
theorem aRy (n:Int):aS n 0 1=(decide (n=0)||decide (n=1)):=by
 rw[Bool.eq_iff_iff];simp[aS];omega
theorem aBB {E:aP} (J:Sys E) (n:Int):E 199 [iv n]=some ([bv (aS n 0 1)],[]):=by
 rw[aRy]
 refine J.run rfl rfl fun W U=>?_
 conv=>lhs;whnf
 repeat'((first|apply U.t|apply U.f|(apply U.q;exact aC)|(apply U.b<;>intro h))<;>conv=>lhs;whnf)
 all_goals(refine congrArg (fun b=>(some ([bv b],[]):Option cO)) ?_;first|rfl|(simp_all [];done)|(simp_all []<;>(intros;omega)))
theorem sC {E:aP} (J:Sys E) (n:Int):E 198 [iv n]=some ([bv (aS n 0 1000000)],[]):=by
 refine J.run rfl rfl fun W U=>?_
 conv=>lhs;whnf
 repeat'((first|apply U.t|apply U.f|(apply U.q;exact aC)|apply U.w (bR J _ _ _)|(apply U.b<;>intro h))<;>conv=>lhs;whnf)
 all_goals(refine congrArg (fun b=>(some ([bv b],[]):Option cO)) ?_;first|rfl|(simp_all [];done)|(simp_all []<;>(intros;omega)))
theorem uC {E:aP} (J:Sys E) (r:Rec):E 193 [gv r.cs]=some ([bv (kI r)],[]):=by
 refine J.run rfl rfl fun W U=>?_
 conv=>lhs;whnf
 repeat'((first|apply U.t|apply U.f|(apply U.q;exact aC)|apply U.w (bR J _ _ _)|apply U.w (sC J _)|apply U.w (aBB J _)|(apply U.b<;>intro h))<;>conv=>lhs;whnf)
 all_goals(refine congrArg (fun b=>(some ([bv b],[]):Option cO)) ?_;first|rfl|(simp_all [kI];done)|(simp_all [kI]<;>(intros;omega)))
def hM (p:Put):Bool:=if p.what=2 then decide (p.at_=0)&&(decide (p.b=[])&&kI p.r) else aS p.what 0 1&&(aS p.at_ 0 240&&(decide ((p.b.length:Int)≤IntKind.i64.wrap (240-p.at_))&&decide (p.r=⟨0,0,0⟩)))
theorem bA (b:aD):((aR b).length:Int)=b.length:=by rw[aI]
theorem aEM {E:aP} (J:Sys E) {o:Bool} (p:Put) (_:p.b.length≤8388608):E 182 [gv (p.cs aG)]=some ([bv (hM p)],[]):=by
 obtain⟨w,a,b,⟨r1,r2,r3⟩⟩:=p
 refine J.run rfl rfl fun W U=>?_
 conv=>lhs;whnf
 repeat'((first|apply U.t|apply U.f|(apply U.q;exact aC)|apply U.w (bG J _ _ _)|apply U.w (uB J ⟨r1,r2,r3⟩)|(apply U.b<;>intro h))<;>conv=>lhs;whnf)
 all_goals(refine congrArg (fun b=>(some ([bv b],[]):Option cO)) ?_;first|rfl|(simp_all [hM,bA];done)|(simp_all [hM,bA]<;>(intros;omega)))
theorem aMd {E:aP} (J:Sys E) (p:Put) (hp:p.b.length≤8388608):E 200 [gv (p.cs aG)]=some ([bv (hM p)],[]):=by
 obtain⟨w,a,b,⟨r1,r2,r3⟩⟩:=p
 have hp:b.length≤8388608:=hp
 have hw:IntKind.i64.wrap (240-((aR b).length:Int))=240-b.length:=by rw[aI];exact aK (by omega)
 have hk:aS a 0 (240-b.length)=(aS a 0 240&&decide ((b.length:Int)≤IntKind.i64.wrap (240-a))):=by
  rw[Bool.eq_iff_iff]
  simp only[aS,Bool.and_eq_true,decide_eq_true_eq]
  constructor
  ·rintro⟨h1,h2⟩
   rw[show IntKind.i64.wrap (240-a)=240-a from aK (by omega)]
   omega
  ·rintro⟨⟨h1,h2⟩,h3⟩
   rw[show IntKind.i64.wrap (240-a)=240-a from aK (by omega)]at h3
   omega
 refine J.run rfl rfl fun W U=>?_
 conv=>lhs;whnf
 repeat'((first|apply U.t|apply U.f|(apply U.q;exact aC)|apply U.w (bR J _ _ _)|apply U.w (aBB J _)|apply U.w (uC J ⟨r1,r2,r3⟩)|(apply U.b<;>intro h))<;>conv=>lhs;whnf)
 all_goals(try rw[hw]at *)
 all_goals(try rw[hk]at *)
 all_goals(refine congrArg (fun b=>(some ([bv b],[]):Option cO)) ?_;first|rfl|(simp_all [hM,bA];done)|(simp_all [hM,bA]<;>(intros;omega)))
theorem yM {E:aP} (J:Sys E) {o:Bool} (d:Disk) (n:Int) (hn:n=1):E 181 [gv (d.cs aG o),iv n]=some ([.v false [.alias 0 1 0 d.b.length]],[]):=by
 subst hn
 refine J.run rfl rfl fun W U=>?_
 conv=>lhs;whnf
 repeat((first|apply U.t|apply U.f|(apply U.q;exact aC));conv=>lhs;whnf)
 rw[show(aR d.b).length=d.b.length from List.length_map _]
 rfl
theorem yN {E:aP} (J:Sys E) {o:Bool} (d:Disk) (n:Int) (hn:n≠1):E 181 [gv (d.cs aG o),iv n]=some ([.v false [.alias 0 0 0 d.a.length]],[]):=by
 refine J.run rfl rfl fun W U=>?_
 conv=>lhs;whnf
 apply U.bf (by simpa using hn)
 conv=>lhs;whnf
 rw[show(aR d.a).length=d.a.length from List.length_map _]
 rfl
theorem aEN {E:aP} (J:Sys E) {f:Nat→List (List T)→CA} {o:Bool} (hf:∀ z e,f z e=aG z e) (d:Disk) (n:Int) (hn:n=0):E 194 [.pt false (d.cs aG o),iv n]=some ([.apt 0 0],[]):=by
 subst hn
 refine J.run rfl rfl fun W U=>?_
 conv=>lhs;whnf
 repeat((first|apply U.t|apply U.f|(apply U.q;exact aC));conv=>lhs;whnf)
 rfl
theorem aEO {E:aP} (J:Sys E) {o:Bool} (d:Disk) (n:Int) (hn:n≠0):E 194 [.pt false (d.cs aG o),iv n]=some ([.apt 0 1],[]):=by
 refine J.run rfl rfl fun W U=>?_
 conv=>lhs;whnf
 apply U.bf (by simpa using hn)
 conv=>lhs;whnf
 rfl
theorem aNQ {α:Type} {p:α→Bool} {l:List α}:∀ {n:Nat},decide (mD p n l≥0)=l.any p:=by
 induction l with
 |nil=>intro n;simp[mD]
 |cons x r ih =>
  intro n
  simp only[mD,List.any_cons]
  by_cases hp:p x=true
  ·simp[hp]
  ·have:=ih (n:=n+1)
   simp_all
theorem aPl {E:aP} (J:Sys E) (p:Put) (hp:p.b.length≤8388608):E 196 [gv (p.cs aG)]=some ([bv (!hM p)],[]):=by
 refine J.run rfl rfl fun W U=>?_
 conv=>lhs;whnf
 apply U.w (aMd J p hp)
 conv=>lhs;whnf
 repeat((first|apply U.t|apply U.f|(apply U.q;exact aC));conv=>lhs;whnf)
 rfl
theorem aHr {E:aP} (J:Sys E) {o:Bool} (l:List Put) (h0:l.length≤1099511627776) (hb:∀ x∈l,x.b.length≤8388608):E 197 [sv (l.map (Put.row o)), .fn 196 []]=some ([iv (mD (fun x:Put => !hM x) 0 l)],[]):=by
 have hrl:(l.map (Put.row o)).length=l.length:=by simp[aR,bB]
 refine J.run rfl rfl fun W U=>?_
 conv=>lhs;whnf
 refine U.loop (σ:=Nat) (γ:=Nat) (fun i s=>s.sl 8 (v1 (.t (.int .i64 i)))) (fun i n=>i=n∧n≤l.length) (fun n=>l.length-n) (fun n=>([iv (mD (fun x:Put => !hM x) n (l.drop n))],[])) 0 0 ?_ ?_ ?_ ?_
 ·intro K
  conv=>lhs;whnf
  conv=>rhs;whnf
  try rfl
 ·simp
 ·rintro kl n _ ⟨rfl,hn⟩ ih
  conv=>lhs;whnf
  apply U.b<;>intro h2<;>conv=>lhs;whnf
  ·have h2:n<l.length:=by simpa[hrl] using h2
   rw[List.drop_eq_getElem_cons h2]
   repeat((first|apply U.t|apply U.f|(apply U.q;exact aC)|(refine U.w (cC ?_) ?_;omega));conv=>lhs;whnf)
   apply U.w (aPl J l[n] (hb _ (List.getElem_mem h2)))
   conv=>lhs;whnf
   try(apply U.q;exact aC;conv=>lhs;whnf)
   simp only[mD]
   apply U.b<;>intro h3<;>conv=>lhs;whnf
   ·simp only[h3,if_true];rfl
   ·simp only[h3,if_false,Bool.false_eq_true]
    refine ih (n+1) (n+1) _ ?_ ⟨rfl,by omega⟩ (by omega)
    intro K
    conv=>lhs;whnf
    conv=>rhs;whnf
    try rfl
    rw[show IntKind.i64.wrap ((n:Int)+1)=_ from aL (by omega)]
    try rfl
  ·have:n=l.length:=by simp[hrl]at h2;omega
   subst this
   rw[List.drop_length];rfl
 ·rfl
theorem aCj {E:aP} (J:Sys E) {o:Bool} (l:List Put) (h0:l.length≤1099511627776) (hb:∀ x∈l,x.b.length≤8388608):E 195 [sv (l.map (Put.row o)), .fn 196 []]=some ([bv (l.any fun x => !hM x)],[]):=by
 refine J.run rfl rfl fun W U=>?_
 conv=>lhs;whnf
 apply U.w (aHr J l h0 hb)
 conv=>lhs;whnf
 try(apply U.q;exact aC;conv=>lhs;whnf)
 rw[aNQ]
 rfl
def jK (d:Disk):Bool:=decide ((d.a.length:Int)≤240)&&(decide ((d.b.length:Int)≤240)&&(kI d.r&&(decide (d.r.len≤((if d.r.slot=1 then d.b else d.a).length:Int))&&(decide ((d.p.length:Int)≤200)&&d.p.all hM))))
theorem aAf {r:Rec} (h:kI r=true):r.slot=0∨r.slot=1:=by
 simp[kI,aS]at h;omega
theorem aI4 {E:aP} (J:Sys E) {o:Bool} (d:Disk) (hd:d.lim 8388608):E 191 [gv (d.cs aG o)]=some ([bv (jK d)],[]):=by
 obtain⟨h1,h2,h3,h4⟩:=hd
 have hany:d.p.all hM = !(d.p.any fun x => !hM x):=by
  rw[Bool.eq_iff_iff];simp
 have hA:d.p.length≤1099511627776:=Nat.le_trans h3 (by decide)
 unfold jK
 rw[hany]
 have hR:=uC J d.r
 have hC:=aCj J (o:=o) d.p hA h4
 clear hany
 generalize (d.p.any fun x => !hM x)=q at hC ⊢
 cases hr:kI d.r
 ·rw[hr]at hR
  refine J.run rfl rfl fun W U=>?_
  conv=>lhs;whnf
  repeat'((first|apply U.t|apply U.f|(apply U.q;exact aC)|apply U.w (hR)|(apply U.b<;>intro h))<;>conv=>lhs;whnf)
  all_goals(refine congrArg (fun b=>(some ([bv b],[]):Option cO)) ?_;first|rfl|(simp_all [aI];done)|(simp_all [aI]<;>(intros;omega)))
 ·rw[hr]at hR
  rcases aAf hr with hs|hs
  ·refine J.run rfl rfl fun W U=>?_
   conv=>lhs;whnf
   repeat'((first|apply U.t|apply U.f|(apply U.q;exact aC)|apply U.w (hR)|apply U.w (aEN J (fun _ _=>rfl) d d.r.slot hs)|apply U.w (hC)|(apply U.b<;>intro h))<;>conv=>lhs;whnf)
   all_goals(refine congrArg (fun b=>(some ([bv b],[]):Option cO)) ?_;first|rfl|(simp_all [aI];done)|(simp_all [aI]<;>(intros;omega)))
  ·refine J.run rfl rfl fun W U=>?_
   conv=>lhs;whnf
   repeat'((first|apply U.t|apply U.f|(apply U.q;exact aC)|apply U.w (hR)|apply U.w (aEO J d d.r.slot (by omega))|apply U.w (hC)|(apply U.b<;>intro h))<;>conv=>lhs;whnf)
   all_goals(refine congrArg (fun b=>(some ([bv b],[]):Option cO)) ?_;first|rfl|(simp_all [aI];done)|(simp_all [aI]<;>(intros;omega)))
theorem aI5 {E:aP} (J:Sys E) {o:Bool} (d:Disk) (hd:d.lim 8388608):E 177 [gv (d.cs aG o)]=some ([bv (jK d)],[]):=by
 obtain⟨h1,h2,h3,h4⟩:=hd
 have hA:d.p.length≤1099511627776:=Nat.le_trans h3 (by decide)
 unfold jK
 have hR:=uB J d.r
 have key:∀ (W:Wd cO) (X:Option cO) (q:Bool),X=some ([bv q],[])→decide ((d.a.length:Int)≤240)=true→decide ((d.b.length:Int)≤240)=true→decide (d.r.len≤((if d.r.slot=1 then d.b else d.a).length:Int))=true→decide ((d.p.length:Int)≤200)=true →
  X=some ([bv (decide ((d.a.length:Int)≤240)&&(decide ((d.b.length:Int)≤240)&&(true&&(decide (d.r.len≤((if d.r.slot=1 then d.b else d.a).length:Int))&&(decide ((d.p.length:Int)≤200)&&q)))))],[]):=by
  intro W X q h h1 h2 h3 h4
  rw[h1,h2,h3,h4];exact h
 cases hr:kI d.r
 ·rw[hr]at hR
  refine J.run rfl rfl fun W U=>?_
  conv=>lhs;whnf
  repeat'((first|apply U.t|apply U.f|(apply U.q;exact aC)|apply U.w (hR)|(apply U.b<;>intro h))<;>conv=>lhs;whnf)
  all_goals(refine congrArg (fun b=>(some ([bv b],[]):Option cO)) ?_;first|rfl|(simp_all [aI];done)|(simp_all [aI]<;>(intros;omega)))
 ·rw[hr]at hR
  rcases aAf hr with hs|hs
  ·refine J.run rfl rfl fun W U=>?_
   conv=>lhs;whnf
   repeat'((first|apply U.t|apply U.f|(apply U.q;exact aC)|apply U.w (hR)|apply U.w (yN J d d.r.slot (by omega))|(apply U.b<;>intro h))<;>conv=>lhs;whnf)
   all_goals(first|(refine congrArg (fun b=>(some ([bv b],[]):Option cO)) ?_;first|rfl|(simp_all [aI];done)|(simp_all [aI]<;>(intros;omega)))|skip)
   refine key W _ _ ?_ (by simp_all [aI];try omega) (by simp_all [aI];try omega) (by simp_all [aI];try omega) (by simp_all [aI];try omega)
   refine U.loop (σ:=Nat) (γ:=Nat) (fun i s=>s.sl 3 (v1 (.t (.int .i64 i)))) (fun i n=>i=n∧n≤d.p.length) (fun n=>d.p.length-n) (fun n=>([bv ((d.p.drop n).all hM)],[])) 0 0 ?_ ?_ ?_ ?_
   ·intro K
    conv=>lhs;whnf
    conv=>rhs;whnf
    try rfl
   ·exact⟨rfl,by omega⟩
   ·rintro kl n _ ⟨rfl,hn⟩ ih
    conv=>lhs;whnf
    apply U.b<;>intro g1<;>conv=>lhs;whnf
    ·have g1:n<d.p.length:=by simpa using g1
     rw[List.drop_eq_getElem_cons g1,List.all_cons]
     repeat((first|apply U.t|apply U.f|(apply U.q;exact aC)|(refine U.w (cC ?_) ?_;omega));conv=>lhs;whnf)
     apply U.w (aEM J (o:=o) d.p[n] (h4 _ (List.getElem_mem g1)))
     conv=>lhs;whnf
     try(apply U.q;exact aC;conv=>lhs;whnf)
     apply U.b<;>intro g2<;>conv=>lhs;whnf
     ·rw[kY g2];rfl
     ·rw[hJ g2]
      refine ih (n+1) (n+1) _ ?_ ⟨rfl,by omega⟩ (by omega)
      intro K
      conv=>lhs;whnf
      conv=>rhs;whnf
      try rfl
      rw[show IntKind.i64.wrap ((n:Int)+1)=_ from aL (by omega)]
      try rfl
    ·have:n=d.p.length:=by simp at g1;omega
     rw[this,List.drop_length];rfl
   ·rfl
  ·refine J.run rfl rfl fun W U=>?_
   conv=>lhs;whnf
   repeat'((first|apply U.t|apply U.f|(apply U.q;exact aC)|apply U.w (hR)|apply U.w (yM J d d.r.slot hs)|(apply U.b<;>intro h))<;>conv=>lhs;whnf)
   all_goals(first|(refine congrArg (fun b=>(some ([bv b],[]):Option cO)) ?_;first|rfl|(simp_all [aI];done)|(simp_all [aI]<;>(intros;omega)))|skip)
   refine key W _ _ ?_ (by simp_all [aI];try omega) (by simp_all [aI];try omega) (by simp_all [aI];try omega) (by simp_all [aI];try omega)
   refine U.loop (σ:=Nat) (γ:=Nat) (fun i s=>s.sl 3 (v1 (.t (.int .i64 i)))) (fun i n=>i=n∧n≤d.p.length) (fun n=>d.p.length-n) (fun n=>([bv ((d.p.drop n).all hM)],[])) 0 0 ?_ ?_ ?_ ?_
   ·intro K
    conv=>lhs;whnf
    conv=>rhs;whnf
    try rfl
   ·exact⟨rfl,by omega⟩
   ·rintro kl n _ ⟨rfl,hn⟩ ih
    conv=>lhs;whnf
    apply U.b<;>intro g1<;>conv=>lhs;whnf
    ·have g1:n<d.p.length:=by simpa using g1
     rw[List.drop_eq_getElem_cons g1,List.all_cons]
     repeat((first|apply U.t|apply U.f|(apply U.q;exact aC)|(refine U.w (cC ?_) ?_;omega));conv=>lhs;whnf)
     apply U.w (aEM J (o:=o) d.p[n] (h4 _ (List.getElem_mem g1)))
     conv=>lhs;whnf
     try(apply U.q;exact aC;conv=>lhs;whnf)
     apply U.b<;>intro g2<;>conv=>lhs;whnf
     ·rw[kY g2];rfl
     ·rw[hJ g2]
      refine ih (n+1) (n+1) _ ?_ ⟨rfl,by omega⟩ (by omega)
      intro K
      conv=>lhs;whnf
      conv=>rhs;whnf
      try rfl
      rw[show IntKind.i64.wrap ((n:Int)+1)=_ from aL (by omega)]
      try rfl
    ·have:n=d.p.length:=by simp at g1;omega
     rw[this,List.drop_length];rfl
   ·rfl
theorem aJ2 {E:aP} (J:Sys E) {o:Bool} (d:Disk) (hd:d.lim 1048576):E 177 [gv (d.cs aG o)]=some ([bv (jK d)],[]):=aI5 J d (Disk.lim_mono (by decide) hd)
theorem aJ3 {E:aP} (J:Sys E) {o:Bool} (d:Disk) (hd:d.lim 1048576):E 191 [gv (d.cs aG o)]=some ([bv (jK d)],[]):=aI4 J d (Disk.lim_mono (by decide) hd)
def qP (a b:Int):Int:=if aS a 0 1000000000000=true∧aS b 1 1000000000000=true then IntKind.i64.wrap ((IntKind.i64.wrap (IntKind.i64.wrap (a+b)-1)).tdiv b) else 0
theorem aI6 {E:aP} (J:Sys E) (a b:Int):E 240 [iv a,iv b]=some ([iv (qP a b)],[]):=by
 have ha:=bG J a 0 1000000000000
 have hb:=bG J b 1 1000000000000
 unfold qP
 cases h1:aS a 0 1000000000000
 ·rw[h1]at ha
  refine J.run rfl rfl fun W U=>?_
  conv=>lhs;whnf
  repeat'((first|apply U.t|apply U.f|(apply U.q;exact aC)|apply U.w (ha)|(apply U.b<;>intro h))<;>conv=>lhs;whnf)
  all_goals(refine congrArg (fun b=>(some ([iv b],[]):Option cO)) ?_;first|rfl|(simp_all [];done)|(simp_all []<;>(intros;omega)))
 ·rw[h1]at ha
  cases h2:aS b 1 1000000000000
  ·rw[h2]at hb
   refine J.run rfl rfl fun W U=>?_
   conv=>lhs;whnf
   repeat'((first|apply U.t|apply U.f|(apply U.q;exact aC)|apply U.w (ha)|apply U.w (hb)|(apply U.b<;>intro h))<;>conv=>lhs;whnf)
   all_goals(refine congrArg (fun b=>(some ([iv b],[]):Option cO)) ?_;first|rfl|(simp_all [];done)|(simp_all []<;>(intros;omega)))
  ·rw[h2]at hb
   have:=bP h2
   refine J.run rfl rfl fun W U=>?_
   conv=>lhs;whnf
   repeat'((first|apply U.t|apply U.f|(apply U.q;exact aC)|apply U.w (ha)|apply U.w (hb)|(apply U.b<;>intro h))<;>conv=>lhs;whnf)
   rfl
theorem aI7 {E:aP} (J:Sys E) (a b:Int):E 253 [iv a,iv b]=some ([iv (qP a b)],[]):=by
 have ha:=bR J a 0 1000000000000
 have hb:=bR J b 1 1000000000000
 unfold qP
 cases h1:aS a 0 1000000000000
 ·rw[h1]at ha
  refine J.run rfl rfl fun W U=>?_
  conv=>lhs;whnf
  repeat'((first|apply U.t|apply U.f|(apply U.q;exact aC)|apply U.w (ha)|(apply U.b<;>intro h))<;>conv=>lhs;whnf)
  all_goals(refine congrArg (fun b=>(some ([iv b],[]):Option cO)) ?_;first|rfl|(simp_all [];done)|(simp_all []<;>(intros;omega)))
 ·rw[h1]at ha
  cases h2:aS b 1 1000000000000
  ·rw[h2]at hb
   refine J.run rfl rfl fun W U=>?_
   conv=>lhs;whnf
   repeat'((first|apply U.t|apply U.f|(apply U.q;exact aC)|apply U.w (ha)|apply U.w (hb)|(apply U.b<;>intro h))<;>conv=>lhs;whnf)
   all_goals(refine congrArg (fun b=>(some ([iv b],[]):Option cO)) ?_;first|rfl|(simp_all [];done)|(simp_all []<;>(intros;omega)))
  ·rw[h2]at hb
   have:=bP h2
   refine J.run rfl rfl fun W U=>?_
   conv=>lhs;whnf
   repeat'((first|apply U.t|apply U.f|(apply U.q;exact aC)|apply U.w (ha)|apply U.w (hb)|(apply U.b<;>intro h))<;>conv=>lhs;whnf)
   rfl
def cR (size n:Int):Bool:=aS size 2 6&&aS n 0 (IntKind.i64.wrap (size*40))
theorem pB {E:aP} (J:Sys E) (size n:Int):E 239 [iv size,iv n]=some ([bv (cR size n)],[]):=by
 refine J.run rfl rfl fun W U=>?_
 conv=>lhs;whnf
 repeat'((first|apply U.t|apply U.f|(apply U.q;exact aC)|apply U.w (bG J _ _ _)|(apply U.b<;>intro h))<;>conv=>lhs;whnf)
 all_goals(refine congrArg (fun b=>(some ([bv b],[]):Option cO)) ?_;first|rfl|(simp_all [cR];done)|(simp_all [cR]<;>(intros;omega)))
theorem aBC {E:aP} (J:Sys E) (size n:Int):E 252 [iv size,iv n]=some ([bv (cR size n)],[]):=by
 have:size*40=40*size:=Int.mul_comm _ _
 unfold cR
 rw[this]
 refine J.run rfl rfl fun W U=>?_
 conv=>lhs;whnf
 repeat'((first|apply U.t|apply U.f|(apply U.q;exact aC)|apply U.w (bR J _ _ _)|(apply U.b<;>intro h))<;>conv=>lhs;whnf)
 all_goals(refine congrArg (fun b=>(some ([bv b],[]):Option cO)) ?_;first|rfl|(simp_all [];done)|(simp_all []<;>(intros;omega)))
def bK (size n:Int):Int:=if cR size n=true then qP n size else 0
theorem jF {E:aP} (J:Sys E) (size n:Int):E 236 [iv size,iv n]=some ([iv (bK size n)],[]):=by
 have ha:=pB J size n
 unfold bK
 cases h1:cR size n
 ·rw[h1]at ha
  refine J.run rfl rfl fun W U=>?_
  conv=>lhs;whnf
  repeat'((first|apply U.t|apply U.f|(apply U.q;exact aC)|apply U.w (ha)|(apply U.b<;>intro h))<;>conv=>lhs;whnf)
  all_goals(refine congrArg (fun b=>(some ([iv b],[]):Option cO)) ?_;first|rfl|(simp_all [];done)|(simp_all []<;>(intros;omega)))
 ·rw[h1]at ha
  refine J.run rfl rfl fun W U=>?_
  conv=>lhs;whnf
  repeat'((first|apply U.t|apply U.f|(apply U.q;exact aC)|apply U.w (ha)|apply U.w (aI6 J n size)|(apply U.b<;>intro h))<;>conv=>lhs;whnf)
  rfl
theorem jG {E:aP} (J:Sys E) (size n:Int):E 249 [iv size,iv n]=some ([iv (bK size n)],[]):=by
 have ha:=aBC J size n
 unfold bK
 cases h1:cR size n
 ·rw[h1]at ha
  refine J.run rfl rfl fun W U=>?_
  conv=>lhs;whnf
  repeat'((first|apply U.t|apply U.f|(apply U.q;exact aC)|apply U.w (ha)|(apply U.b<;>intro h))<;>conv=>lhs;whnf)
  all_goals(refine congrArg (fun b=>(some ([iv b],[]):Option cO)) ?_;first|rfl|(simp_all [];done)|(simp_all []<;>(intros;omega)))
 ·rw[h1]at ha
  refine J.run rfl rfl fun W U=>?_
  conv=>lhs;whnf
  repeat'((first|apply U.t|apply U.f|(apply U.q;exact aC)|apply U.w (ha)|apply U.w (aI7 J n size)|(apply U.b<;>intro h))<;>conv=>lhs;whnf)
  rfl
theorem aGb {size n:Int} (h:cR size n=true):2≤size∧size≤6∧0≤n∧n≤size*40:=by
 simp only[cR,Bool.and_eq_true]at h
 obtain⟨h1,h2⟩:=h
 have h1:=bP h1
 rw[show IntKind.i64.wrap (size*40)=size*40 from aK (by omega)]at h2
 have h2:=bP h2
 omega
theorem sD {size n:Int} (h:cR size n=true):bK size n=(n+size-1)/size∧0≤bK size n∧bK size n≤40:=by
 obtain⟨h1,h2,h3,h4⟩:=aGb h
 have e:bK size n=(n+size-1)/size:=by
  unfold bK qP
  rw[if_pos h,if_pos ⟨by simp[aS];omega,by simp[aS];omega⟩]
  rw[show IntKind.i64.wrap (n+size)=n+size from aK (by omega),show IntKind.i64.wrap (n+size-1)=n+size-1 from aK (by omega),Int.tdiv_eq_ediv_of_nonneg (by omega)]
  apply aK
  obtain h5|h5|h5|h5|h5:size=2∨size=3∨size=4∨size=5∨size=6:=by omega
  all_goals(subst h5;omega)
 rw[e]
 refine⟨rfl,?_⟩
 obtain h5|h5|h5|h5|h5:size=2∨size=3∨size=4∨size=5∨size=6:=by omega
 all_goals(subst h5;omega)
def aCk (a b:Int):Int:=if b<a then b else a
theorem aMe {E:aP} (J:Sys E) (a b:Int):E 242 [iv a,iv b]=some ([iv (aCk a b)],[]):=by
 refine J.run rfl rfl fun W U=>?_
 conv=>lhs;whnf
 repeat'((first|apply U.t|apply U.f|(apply U.q;exact aC)|(apply U.b<;>intro h))<;>conv=>lhs;whnf)
 all_goals(refine congrArg (fun b=>(some ([iv b],[]):Option cO)) ?_;first|rfl|(simp_all [aCk];done)|(simp_all [aCk]<;>(intros;omega)))
def bH (size n i:Int):Int:=if aS i 0 (IntKind.i64.wrap (bK size n-1))=true then IntKind.i64.wrap (i*size) else 0
def aZ (size n i:Int):Int:=if aS i 0 (IntKind.i64.wrap (bK size n-1))=true then aCk size (IntKind.i64.wrap (n-IntKind.i64.wrap (i*size))) else 0
theorem eW {E:aP} (J:Sys E) (size n i:Int):E 241 [iv size,iv n,iv i]=some ([iv (bH size n i),iv (aZ size n i)],[]):=by
 have hb:=bG J i 0 (IntKind.i64.wrap (bK size n-1))
 unfold bH aZ
 cases h2:aS i 0 (IntKind.i64.wrap (bK size n-1))
 ·rw[h2]at hb
  refine J.run rfl rfl fun W U=>?_
  conv=>lhs;whnf
  repeat'((first|apply U.t|apply U.f|(apply U.q;exact aC)|apply U.w (jF J size n)|apply U.w (hb)|(apply U.b<;>intro h))<;>conv=>lhs;whnf)
  rfl
 ·rw[h2]at hb
  refine J.run rfl rfl fun W U=>?_
  conv=>lhs;whnf
  repeat'((first|apply U.t|apply U.f|(apply U.q;exact aC)|apply U.w (jF J size n)|apply U.w (hb)|apply U.w (aMe J _ _)|(apply U.b<;>intro h))<;>conv=>lhs;whnf)
  rfl
theorem jH {E:aP} (J:Sys E) (size n i:Int):E 254 [iv size,iv n,iv i]=some ([iv (bH size n i),iv (aZ size n i)],[]):=by
 have hb:=bR J i 0 (IntKind.i64.wrap (bK size n-1))
 unfold bH aZ
 cases h2:aS i 0 (IntKind.i64.wrap (bK size n-1))
 ·rw[h2]at hb
  refine J.run rfl rfl fun W U=>?_
  conv=>lhs;whnf
  repeat'((first|apply U.t|apply U.f|(apply U.q;exact aC)|apply U.w (jG J size n)|apply U.w (hb)|(apply U.b<;>intro h))<;>conv=>lhs;whnf)
  rfl
 ·rw[h2]at hb
  refine J.run rfl rfl fun W U=>?_
  conv=>lhs;whnf
  repeat'((first|apply U.t|apply U.f|(apply U.q;exact aC)|apply U.w (jG J size n)|apply U.w (hb)|(apply U.b<;>intro h))<;>conv=>lhs;whnf)
  rw[show ∀ b,aCk size b=min size b from fun b=>by unfold aCk;omega]
  rfl
def wx (x:Int) (c:UInt8):Int:=(IntKind.i64.wrap (x+IntKind.i64.wrap (c.toNat:Int))).tmod 251
def wy (y x:Int):Int:=(IntKind.i64.wrap (y+x)).tmod 251
def kZ:aD→Int→Int→Int × Int
 |[],x,y=>(x,y)
 |c::r,x,y=>kZ r (wx x c) (wy y (wx x c))
def bE (b:aD):Int:=IntKind.i64.wrap ((kZ b 0 0).1+IntKind.i64.wrap (251*(kZ b 0 0).2))
theorem aT5 {x:Int} {c:UInt8} (h:0≤x∧x<251):0≤wx x c∧wx x c<251:=by
 have:=UInt8.toNat_lt c
 unfold wx
 rw[show IntKind.i64.wrap (c.toNat:Int)=c.toNat from aK (by omega),show IntKind.i64.wrap (x+c.toNat)=x+c.toNat from aK (by omega)]
 rw[Int.tmod_eq_emod_of_nonneg (by omega)]
 omega
theorem aWn {x y:Int} (h:0≤x∧x<251) (h':0≤y∧y<251):0≤wy y x∧wy y x<251:=by
 unfold wy
 rw[show IntKind.i64.wrap (y+x)=y+x from aK (by omega)]
 rw[Int.tmod_eq_emod_of_nonneg (by omega)]
 omega
theorem aT6 {b:aD}:∀ {x y:Int},(0≤x∧x<251)→(0≤y∧y<251)→(0≤(kZ b x y).1∧(kZ b x y).1<251)∧(0≤(kZ b x y).2∧(kZ b x y).2<251):=by
 induction b with
 |nil=>intro x y h h';exact⟨h,h'⟩
 |cons c r ih=>intro x y h h';exact ih (aT5 h) (aWn (aT5 h) h')
theorem eX {E:aP} (J:Sys E) (b:aD) (h0:b.length≤1099511627776):E 243 [sv (aR b)]=some ([iv (bE b)],[]):=by
 refine J.run rfl rfl fun W U=>?_
 conv=>lhs;whnf
 refine U.loop (σ:=Nat × Int × Int) (γ:=Nat) (fun i s=>((s.sl 5 (v1 (.t (.int .i64 i.1)))).sl 3 (v1 (.t (.int .i64 i.2.1)))).sl 4 (v1 (.t (.int .i64 i.2.2)))) (fun i n=>i.1=n∧n≤b.length∧kZ (b.drop n) i.2.1 i.2.2=kZ b 0 0) (fun n=>b.length-n) (fun _=>([iv (bE b)],[])) (0,0,0) 0 ?_ ?_ ?_ ?_
 ·intro K
  conv=>lhs;whnf
  conv=>rhs;whnf
  try rfl
 ·exact⟨rfl,by omega,rfl⟩
 ·rintro kl ⟨n,x,y⟩ _ ⟨rfl,hn,hs⟩ ih
  simp only at hs hn
  conv=>lhs;whnf
  apply U.b<;>intro h2<;>conv=>lhs;whnf
  ·have h2:n<b.length:=by simpa[aI] using h2
   rw[List.drop_eq_getElem_cons h2,kZ]at hs
   repeat((first|apply U.t|apply U.f|(apply U.q;exact aC)|(refine U.w (cC ?_) ?_;omega));conv=>lhs;whnf)
   refine ih (n+1,wx x b[n],wy y (wx x b[n])) (n+1) _ ?_ ⟨rfl,by omega,hs⟩ (by omega)
   intro K
   conv=>lhs;whnf
   conv=>rhs;whnf
   try rfl
   rw[show IntKind.i64.wrap ((n:Int)+1)=_ from aL (by omega)]
   try rfl
  ·have:n=b.length:=by simp[aI]at h2;omega
   subst this
   rw[List.drop_length]at hs
   unfold bE
   rw[← hs];rfl
 ·rfl
def aGP (n m:Int):Int:=if aS m 1 1000000000000=true then(IntKind.i64.wrap (n.tmod m+m)).tmod m else 0
theorem aNR {E:aP} (J:Sys E) (n m:Int):E 268 [iv n,iv m]=some ([iv (aGP n m)],[]):=by
 have ha:=bG J m 1 1000000000000
 unfold aGP
 cases h1:aS m 1 1000000000000
 ·rw[h1]at ha
  refine J.run rfl rfl fun W U=>?_
  conv=>lhs;whnf
  repeat'((first|apply U.t|apply U.f|(apply U.q;exact aC)|apply U.w (ha)|(apply U.b<;>intro h))<;>conv=>lhs;whnf)
  all_goals(refine congrArg (fun b=>(some ([iv b],[]):Option cO)) ?_;first|rfl|(simp_all [];done)|(simp_all []<;>(intros;omega)))
 ·rw[h1]at ha
  have:=bP h1
  refine J.run rfl rfl fun W U=>?_
  conv=>lhs;whnf
  repeat'((first|apply U.t|apply U.f|(apply U.q;exact aC)|apply U.w (ha)|(apply U.b<;>intro h))<;>conv=>lhs;whnf)
  rfl
theorem aGQ {E:aP} (J:Sys E) (n m:Int):E 258 [iv n,iv m]=some ([iv (aGP n m)],[]):=by
 have ha:=bR J m 1 1000000000000
 unfold aGP
 cases h1:aS m 1 1000000000000
 ·rw[h1]at ha
  refine J.run rfl rfl fun W U=>?_
  conv=>lhs;whnf
  repeat'((first|apply U.t|apply U.f|(apply U.q;exact aC)|apply U.w (ha)|(apply U.b<;>intro h))<;>conv=>lhs;whnf)
  all_goals(refine congrArg (fun b=>(some ([iv b],[]):Option cO)) ?_;first|rfl|(simp_all [];done)|(simp_all []<;>(intros;omega)))
 ·rw[h1]at ha
  have:=bP h1
  refine J.run rfl rfl fun W U=>?_
  conv=>lhs;whnf
  repeat'((first|apply U.t|apply U.f|(apply U.q;exact aC)|apply U.w (ha)|(apply U.b<;>intro h))<;>conv=>lhs;whnf)
  rfl
theorem aNS {n:Int} (h:0≤n∧n<251):aGP n 251=n:=by
 unfold aGP
 have e:n.tmod 251=n:=by rw[Int.tmod_eq_emod_of_nonneg (by omega)];omega
 rw[if_pos (by decide),e,show IntKind.i64.wrap (n+251)=n+251 from aK (by omega),Int.tmod_eq_emod_of_nonneg (by omega)]
 omega
theorem aNT {E:aP} (J:Sys E) (x y:Int) (hx:0≤x∧x<251) (hy:0≤y∧y<251):E 257 [iv x,iv y]=some ([iv (IntKind.i64.wrap (x+IntKind.i64.wrap (251*y)))],[]):=by
 have h1:=aGQ J x 251
 have h2:=aGQ J y 251
 rw[aNS hx]at h1
 rw[aNS hy]at h2
 refine J.run rfl rfl fun W U=>?_
 conv=>lhs;whnf
 apply U.w (h1)
 conv=>lhs;whnf
 repeat((first|apply U.t|apply U.f|(apply U.q;exact aC));conv=>lhs;whnf)
 apply U.w (h2)
 conv=>lhs;whnf
 repeat((first|apply U.t|apply U.f|(apply U.q;exact aC));conv=>lhs;whnf)
 rfl
theorem gE {E:aP} (J:Sys E) (b:aD) (h0:b.length≤1099511627776):E 256 [sv (aR b)]=some ([iv (bE b)],[]):=by
 have hr:=aT6 (b:=b) (x:=0) (y:=0) (by omega) (by omega)
 refine J.run rfl rfl fun W U=>?_
 conv=>lhs;whnf
 refine U.loop (σ:=Nat × Int × Int) (γ:=Nat) (fun i s=>((s.sl 9 (v1 (.t (.int .i64 i.1)))).sl 3 (v1 (.t (.int .i64 i.2.1)))).sl 4 (v1 (.t (.int .i64 i.2.2)))) (fun i n=>i.1=n∧n≤b.length∧kZ (b.drop n) i.2.1 i.2.2=kZ b 0 0) (fun n=>b.length-n) (fun _=>([iv (bE b)],[])) (0,0,0) 0 ?_ ?_ ?_ ?_
 ·intro K
  conv=>lhs;whnf
  conv=>rhs;whnf
  try rfl
 ·exact⟨rfl,by omega,rfl⟩
 ·rintro kl ⟨n,x,y⟩ _ ⟨rfl,hn,hs⟩ ih
  simp only at hs hn
  conv=>lhs;whnf
  apply U.b<;>intro h2<;>conv=>lhs;whnf
  ·have h2:n<b.length:=by simpa[aI] using h2
   rw[List.drop_eq_getElem_cons h2,kZ]at hs
   repeat((first|apply U.t|apply U.f|(apply U.q;exact aC)|(refine U.w (cC ?_) ?_;omega));conv=>lhs;whnf)
   refine ih (n+1,wx x b[n],wy y (wx x b[n])) (n+1) _ ?_ ⟨rfl,by omega,hs⟩ (by omega)
   intro K
   conv=>lhs;whnf
   conv=>rhs;whnf
   try rfl
   rw[show IntKind.i64.wrap ((n:Int)+1)=_ from aL (by omega)]
   try rfl
  ·have:n=b.length:=by simp[aI]at h2;omega
   subst this
   rw[List.drop_length,kZ]at hs
   rw[← hs]at hr
   apply U.w (aNT J x y hr.1 hr.2)
   conv=>lhs;whnf
   repeat((first|apply U.t|apply U.f|(apply U.q;exact aC));conv=>lhs;whnf)
   unfold bE
   rw[← hs];rfl
 ·rfl
def fD:aD→Nat→Nat
 |[],s=>s
 |c::r,s=>fD r (256*s+c.toNat)
def bC (b:aD):Sum:=if(b.length:Int)>6 then⟨0,0⟩ else⟨bE b,fD b 1⟩
theorem aW6 {s:Nat} {c:UInt8} (h:s≤562949953421312):aJZ (IntKind.i64.wrap ((s:Int)*2 ^ (min (8:Int).toNat IntKind.i64.bits))) (IntKind.i64.wrap (c.toNat:Int))=((256*s+c.toNat:Nat):Int):=by
 have hc:=UInt8.toNat_lt c
 rw[show((s:Int)*2 ^ (min (8:Int).toNat IntKind.i64.bits))=((256*s:Nat):Int) from by
  rw[show min (8:Int).toNat IntKind.i64.bits=8 from by decide];push_cast;omega]
 rw[show IntKind.i64.wrap ((256*s:Nat):Int)=((256*s:Nat):Int) from aK (by omega),show IntKind.i64.wrap (c.toNat:Int)=c.toNat from aK (by omega)]
 unfold aJZ
 have e:(BitVec.ofInt IntKind.i64.bits ((256*s:Nat):Int) ||| BitVec.ofInt IntKind.i64.bits (c.toNat:Int)).toNat=256*s+c.toNat:=by
  rw[BitVec.toNat_or,BitVec.ofInt_natCast,BitVec.ofInt_natCast,BitVec.toNat_ofNat,BitVec.toNat_ofNat]
  rw[Nat.mod_eq_of_lt (show 256*s<2 ^ IntKind.i64.bits from by simp only[IntKind.bits];omega),Nat.mod_eq_of_lt (show c.toNat<2 ^ IntKind.i64.bits from by simp only[IntKind.bits];omega)]
  rw[show 256*s=2 ^ 8*s from rfl,Nat.two_pow_add_eq_or_of_lt (by omega)]
 rw[e]
 exact aK (by omega)
theorem aVI {b:aD}:∀ {s:Nat},s≤fD b s:=by
 induction b with
 |nil=>intro s;exact Nat.le_refl _
 |cons c r ih=>intro s;have:=ih (s:=256*s+c.toNat);simp only[fD];omega
theorem aH0 {b:aD}:∀ {s:Nat},fD b s<(s+1)*256 ^ b.length:=by
 induction b with
 |nil=>intro s;simp[fD]
 |cons c r ih =>
  intro s
  have:=ih (s:=256*s+c.toNat)
  have hc:=UInt8.toNat_lt c
  simp only[fD,List.length_cons,Nat.pow_succ]
  have h2:(256*s+c.toNat+1)*256 ^ r.length≤((s+1)*256)*256 ^ r.length:=Nat.mul_le_mul_right _ (by omega)
  have h3:(s+1)*(256 ^ r.length*256)=(s+1)*256*256 ^ r.length:=by rw[Nat.mul_comm (256 ^ r.length) 256,Nat.mul_assoc]
  omega
theorem aW7 {b:aD} (h:b.length≤6):fD b 1≤562949953421312:=by
 have h1:=aH0 (b:=b) (s:=1)
 have h2:256 ^ b.length≤256 ^ 6:=Nat.pow_le_pow_right (by decide) h
 have h3:(1+1)*256 ^ b.length≤(1+1)*256 ^ 6:=Nat.mul_le_mul_left _ h2
 have h4:(1+1)*256 ^ 6=562949953421312:=by decide
 omega
theorem aK5 {b:aD} {n:Nat} (h:b.length≤6) {s:Nat} (hs:fD (b.drop n) s=fD b 1):s≤562949953421312:=by
 have h1:=aVI (b:=b.drop n) (s:=s)
 have h2:=aW7 h
 omega
theorem eP {E:aP} (J:Sys E) (b:aD) (h0:b.length≤1099511627776):E 238 [sv (aR b)]=some ([gv (bC b).cs],[]):=by
 unfold bC
 refine J.run rfl rfl fun W U=>?_
 conv=>lhs;whnf
 rw[bA]
 apply U.b<;>intro g<;>conv=>lhs;whnf
 ·rw[if_pos (by simpa using g)]
  rfl
 ·rw[if_neg (by simpa using g)]
  have g:b.length≤6:=by simp at g;omega
  refine U.loop (σ:=Nat × Nat) (γ:=Nat) (fun i s=>(s.sl 4 (v1 (.t (.int .i64 i.1)))).sl 3 (v1 (.t (.int .i64 i.2)))) (fun i n=>i.1=n∧n≤b.length∧fD (b.drop n) i.2=fD b 1) (fun n=>b.length-n) (fun _=>([gv (Sum.cs ⟨bE b,fD b 1⟩)],[])) (0,1) 0 ?_ ?_ ?_ ?_
  ·intro K
   conv=>lhs;whnf
   conv=>rhs;whnf
   try rfl
  ·exact⟨rfl,by omega,rfl⟩
  ·rintro kl ⟨n,x⟩ _ ⟨rfl,hn,hs⟩ ih
   simp only at hs hn
   conv=>lhs;whnf
   apply U.b<;>intro h2<;>conv=>lhs;whnf
   ·have h2:n<b.length:=by simpa[aI] using h2
    have hx:=aK5 g hs
    have hc:=UInt8.toNat_lt b[n]
    rw[List.drop_eq_getElem_cons h2,fD]at hs
    repeat((first|apply U.t|apply U.f|(apply U.q;exact aC)|(refine U.w (cC ?_) ?_;omega));conv=>lhs;whnf)
    refine ih (n+1,256*x+b[n].toNat) (n+1) _ ?_ ⟨rfl,by omega,hs⟩ (by omega)
    intro K
    conv=>lhs;whnf
    conv=>rhs;whnf
    try rfl
    rw[show IntKind.i64.wrap ((n:Int)+1)=_ from aL (by omega),show IntKind.i64.wrap (256*(x:Int))=256*(x:Int) from aK (by omega),show IntKind.i64.wrap (b[n].toNat:Int)=b[n].toNat from aK (by omega),show IntKind.i64.wrap (256*(x:Int)+b[n].toNat)=((256*x+b[n].toNat:Nat):Int) from(aK (n:=256*(x:Int)+b[n].toNat) (by omega)).trans (by push_cast;rfl)]
    try rfl
   ·have:n=b.length:=by simp[aI]at h2;omega
    subst this
    rw[List.drop_length,fD]at hs
    apply U.w (eX J b h0)
    conv=>lhs;whnf
    repeat((first|apply U.t|apply U.f|(apply U.q;exact aC));conv=>lhs;whnf)
    rw[← hs];rfl
  ·rfl
theorem kJ {E:aP} (J:Sys E) (b:aD) (h0:b.length≤1099511627776):E 251 [sv (aR b)]=some ([gv (bC b).cs],[]):=by
 unfold bC
 refine J.run rfl rfl fun W U=>?_
 conv=>lhs;whnf
 rw[bA]
 apply U.b<;>intro g<;>conv=>lhs;whnf
 ·rw[if_pos (by simpa using g)]
  rfl
 ·rw[if_neg (by simpa using g)]
  have g:b.length≤6:=by simp at g;omega
  refine U.loop (σ:=Nat × Nat) (γ:=Nat) (fun i s=>(s.sl 12 (v1 (.t (.int .i64 i.1)))).sl 3 (v1 (.t (.int .i64 i.2)))) (fun i n=>i.1=n∧n≤b.length∧fD (b.drop n) i.2=fD b 1) (fun n=>b.length-n) (fun _=>([gv (Sum.cs ⟨bE b,fD b 1⟩)],[])) (0,1) 0 ?_ ?_ ?_ ?_
  ·intro K
   conv=>lhs;whnf
   conv=>rhs;whnf
   try rfl
  ·exact⟨rfl,by omega,rfl⟩
  ·rintro kl ⟨n,x⟩ _ ⟨rfl,hn,hs⟩ ih
   simp only at hs hn
   conv=>lhs;whnf
   apply U.b<;>intro h2<;>conv=>lhs;whnf
   ·have h2:n<b.length:=by simpa[aI] using h2
    have hx:=aK5 g hs
    rw[List.drop_eq_getElem_cons h2,fD]at hs
    repeat((first|apply U.t|apply U.f|(apply U.q;exact aC)|(refine U.w (cC ?_) ?_;omega));conv=>lhs;whnf)
    refine ih (n+1,256*x+b[n].toNat) (n+1) _ ?_ ⟨rfl,by omega,hs⟩ (by omega)
    intro K
    conv=>lhs;whnf
    conv=>rhs;whnf
    try rfl
    rw[show IntKind.i64.wrap ((n:Int)+1)=_ from aL (by omega),← aW6 hx]
    try rfl
   ·have:n=b.length:=by simp[aI]at h2;omega
    subst this
    rw[List.drop_length,fD]at hs
    apply U.w (gE J b h0)
    conv=>lhs;whnf
    repeat((first|apply U.t|apply U.f|(apply U.q;exact aC));conv=>lhs;whnf)
    rw[← hs];rfl
  ·rfl
theorem jL {size n i:Int}:(aZ size n i=0∧bH size n i=0)∨(0≤bH size n i∧1≤aZ size n i∧aZ size n i≤6∧bH size n i+aZ size n i≤n∧n≤240):=by
 unfold aZ bH
 by_cases h:aS i 0 (IntKind.i64.wrap (bK size n-1))=true
 ·right
  rw[if_pos h,if_pos h]
  have h1:=bP h
  by_cases hs:cR size n=true
  ·obtain⟨e1,e2,e3⟩:=sD hs
   obtain⟨s1,s2,s3,s4⟩:=aGb hs
   rw[show IntKind.i64.wrap (bK size n-1)=bK size n-1 from aK (by omega)]at h1
   rw[e1]at h1
   obtain h5|h5|h5|h5|h5:size=2∨size=3∨size=4∨size=5∨size=6:=by omega
   all_goals
    subst h5
    have h6:0≤i∧i≤120:=by omega
    rw[show IntKind.i64.wrap (i*_)=i*_ from aK (by omega)]
    rw[show IntKind.i64.wrap (n-i*_)=n-i*_ from aK (by omega)]
    unfold aCk
    split<;>omega
  ·have:bK size n=0:=by unfold bK;rw[if_neg hs]
   rw[this,show IntKind.i64.wrap ((0:Int)-1) = -1 from by decide]at h1
   omega
 ·left
  rw[if_neg h,if_neg h];exact⟨rfl,rfl⟩
def eQ (b:aD) (size i:Int):aD:=(b.drop (bH size b.length i).toNat).take (aZ size b.length i).toNat
def aMf (b:aD) (size i:Int):Bool := !decide (aZ size b.length i=0)
theorem gJ (b:aD) (l n:Nat):((aR b).drop l).take n=aR ((b.drop l).take n):=by rw[aT2,aNI]
theorem aEP {E:aP} (J:Sys E) (b:aD) (at_ n:Int) (h0:b.length≤1048576) (h1:0≤at_) (h2:0≤n) (h3:at_+n≤b.length):E 255 [sv (aR b),iv at_,iv n]=some ([ov 1 (aR ((b.drop at_.toNat).take n.toNat)),bv true],[]):=by
 have ha:=bR J at_ 0 b.length
 have hb:=bR J n 0 (b.length-at_)
 rw[show aS at_ 0 b.length=true from by simp[aS];omega]at ha
 rw[show aS n 0 (b.length-at_)=true from by simp[aS];omega]at hb
 refine J.run rfl rfl fun W U=>?_
 conv=>lhs;whnf
 rw[bA]
 apply U.w (ha)
 conv=>lhs;whnf
 repeat((first|apply U.t|apply U.f|(apply U.q;exact aC));conv=>lhs;whnf)
 rw[bA]
 rw[show IntKind.i64.wrap ((b.length:Int)-at_)=b.length-at_ from aK (by omega)]
 apply U.w (hb)
 conv=>lhs;whnf
 repeat((first|apply U.t|apply U.f|(apply U.q;exact aC));conv=>lhs;whnf)
 rw[show IntKind.i64.wrap (at_+n)=at_+n from aK (by omega)]
 repeat((first|apply U.t|apply U.f|(apply U.q;exact aC));conv=>lhs;whnf)
 refine U.q (by exact⟨by omega,by rw[aI];omega,aY b⟩) ?_
 conv=>lhs;whnf
 rw[gJ]
 apply U.w (dF J _ (by simp;omega))
 conv=>lhs;whnf
 repeat((first|apply U.t|apply U.f|(apply U.q;exact aC));conv=>lhs;whnf)
 rw[show(at_+n).toNat-at_.toNat=n.toNat from by omega]
 rfl
theorem yO {E:aP} (J:Sys E) (b:aD) (size i:Int) (h0:b.length≤1048576):E 237 [sv (aR b),iv size,iv i]=some ([ov 1 (aR (eQ b size i)),bv (aMf b size i)],[]):=by
 unfold eQ aMf
 refine J.run rfl rfl fun W U=>?_
 conv=>lhs;whnf
 rw[bA]
 apply U.w (eW J size b.length i)
 conv=>lhs;whnf
 repeat((first|apply U.t|apply U.f|(apply U.q;exact aC));conv=>lhs;whnf)
 have hs:=jL (size:=size) (n:=b.length) (i:=i)
 generalize bH size b.length i=at_ at hs ⊢
 generalize aZ size b.length i=n at hs ⊢
 apply U.b<;>intro g<;>conv=>lhs;whnf
 ·have g:n=0:=by simpa using g
  subst g
  rfl
 ·have g:n≠0:=by simpa using g
  repeat((first|apply U.t|apply U.f|(apply U.q;exact aC));conv=>lhs;whnf)
  rw[show IntKind.i64.wrap (at_+n)=at_+n from aK (by omega)]
  repeat((first|apply U.t|apply U.f|(apply U.q;exact aC));conv=>lhs;whnf)
  refine U.q (by exact⟨by omega,by rw[aI];omega,aY b⟩) ?_
  conv=>lhs;whnf
  rw[gJ]
  refine U.q (by exact⟨by decide,aY _,by rw[aI];simp;omega,by rw[aI];simp;omega⟩) ?_
  conv=>lhs;whnf
  apply U.bt (cF _)
  conv=>lhs;whnf
  rw[show(at_+n).toNat-at_.toNat=n.toNat from by omega,decide_eq_false g]
  rfl
theorem aI8 {E:aP} (J:Sys E) (b:aD) (size i:Int) (h0:b.length≤1048576):E 250 [sv (aR b),iv size,iv i]=some ([ov 1 (aR (eQ b size i)),bv (aMf b size i)],[]):=by
 unfold eQ aMf
 refine J.run rfl rfl fun W U=>?_
 conv=>lhs;whnf
 rw[bA]
 apply U.w (jH J size b.length i)
 conv=>lhs;whnf
 repeat((first|apply U.t|apply U.f|(apply U.q;exact aC));conv=>lhs;whnf)
 have hs:=jL (size:=size) (n:=b.length) (i:=i)
 generalize bH size b.length i=at_ at hs ⊢
 generalize aZ size b.length i=n at hs ⊢
 apply U.b<;>intro g<;>conv=>lhs;whnf
 ·have g:n=0:=by simpa using g
  subst g
  rfl
 ·have g:n≠0:=by simpa using g
  apply U.w (aEP J b at_ n h0 (by omega) (by omega) (by omega))
  conv=>lhs;whnf
  repeat((first|apply U.t|apply U.f|(apply U.q;exact aC));conv=>lhs;whnf)
  rw[decide_eq_false g]
  rfl
def aCl (b:aD) (size:Int):Nat:=(bK size b.length).toNat
def aEQ (b:aD) (size:Int) (n:Nat):List Sum:=(List.range n).map fun i:Nat=>bC (eQ b size (i:Int))
def fU (b:aD) (size:Int):List Sum:=aEQ b size (aCl b size)
theorem mX (size n:Int):0≤bK size n∧bK size n≤40:=by
 by_cases h:cR size n=true
 ·exact(sD h).2
 ·unfold bK;rw[if_neg h];omega
theorem mY (b:aD) (size:Int) (n:Nat):(aEQ b size n).length=n:=by simp[aEQ]
theorem aI9 (b:aD) (size:Int) (n:Nat):(aEQ b size n).map Sum.row++[Sum.row (bC (eQ b size n))]=(aEQ b size (n+1)).map Sum.row:=by
 simp[aEQ,List.range_succ]
theorem yP (b:aD) (size:Int):(fU b size).length≤40:=by
 have:=mX size b.length
 unfold fU aCl
 rw[mY];omega
theorem nU (b:aD) (size i:Int):(eQ b size i).length≤b.length:=by
 unfold eQ;simp;omega
theorem aBD {E:aP} (J:Sys E) (b:aD) (size:Int) (h0:b.length≤1048576):E 234 [sv (aR b),iv size]=some ([ov 2 ((fU b size).map Sum.row)],[]):=by
 have hb:=mX size b.length
 have hk:((aCl b size:Nat):Int)=bK size b.length:=by unfold aCl;omega
 refine J.run rfl rfl fun W U=>?_
 conv=>lhs;whnf
 refine U.loop (σ:=Nat) (γ:=Nat) (fun i s=>(s.sl 6 (v1 (.t (.int .i64 i)))).bl ⟨50500,2, .own,(aEQ b size i).map Sum.row⟩) (fun i n=>i=n∧n≤aCl b size) (fun n=>aCl b size-n) (fun _=>([ov 2 ((fU b size).map Sum.row)],[])) 0 0 ?_ ?_ ?_ ?_
 ·intro K
  conv=>lhs;whnf
  conv=>rhs;whnf
  try rfl
 ·exact⟨rfl,by omega⟩
 ·rintro kl n _ ⟨rfl,hn⟩ ih
  conv=>lhs;whnf
  rw[bA]
  apply U.w (jF J size b.length)
  conv=>lhs;whnf
  try(apply U.q;exact aC;conv=>lhs;whnf)
  apply U.b<;>intro g1<;>conv=>lhs;whnf
  ·have g1:(n:Int)<bK size b.length:=by simpa using g1
   apply U.w (yO J b size n h0)
   conv=>lhs;whnf
   repeat((first|apply U.t|apply U.f|(apply U.q;exact aC));conv=>lhs;whnf)
   apply U.w (eP J (eQ b size n) (Nat.le_trans (nU b size n) (by omega)))
   conv=>lhs;whnf
   repeat((first|apply U.t|apply U.f|(apply U.q;exact aC));conv=>lhs;whnf)
   refine U.q (by exact⟨by decide,by intro e he;simp at he;subst he;rfl,by simp[mY];omega,by simp[mY];omega⟩) ?_
   conv=>lhs;whnf
   repeat((first|apply U.t|apply U.f|(apply U.q;exact aC));conv=>lhs;whnf)
   refine ih (n+1) (n+1) _ ?_ ⟨rfl,by omega⟩ (by omega)
   intro K
   conv=>lhs;whnf
   conv=>rhs;whnf
   try rfl
   rw[show IntKind.i64.wrap ((n:Int)+1)=_ from aL (by omega)]
   rw[← aI9]
   rfl
  ·have g1:¬ (n:Int)<bK size b.length:=by simpa using g1
   have:n=aCl b size:=by omega
   subst this
   rfl
 ·rfl
theorem aJ4 {E:aP} (J:Sys E) (b:aD) (size:Int) (h0:b.length≤1048576):E 247 [sv (aR b),iv size]=some ([ov 2 ((fU b size).map Sum.row)],[]):=by
 have hb:=mX size b.length
 have hk:((aCl b size:Nat):Int)=bK size b.length:=by unfold aCl;omega
 refine J.run rfl rfl fun W U=>?_
 conv=>lhs;whnf
 rw[bA]
 apply U.w (jG J size b.length)
 conv=>lhs;whnf
 repeat((first|apply U.t|apply U.f|(apply U.q;exact aC));conv=>lhs;whnf)
 rw[← hk]
 refine U.loop (σ:=Nat) (γ:=Nat) (fun i s=>(s.sl 14 (v1 (.t (.int .i64 i)))).bl ⟨50500,2, .own,(aEQ b size i).map Sum.row⟩) (fun i n=>i=n∧n≤aCl b size) (fun n=>aCl b size-n) (fun _=>([ov 2 ((fU b size).map Sum.row)],[])) 0 0 ?_ ?_ ?_ ?_
 ·intro K
  conv=>lhs;whnf
  conv=>rhs;whnf
  try rfl
 ·exact⟨rfl,by omega⟩
 ·rintro kl n _ ⟨rfl,hn⟩ ih
  conv=>lhs;whnf
  apply U.b<;>intro g1<;>conv=>lhs;whnf
  ·have g1:n<aCl b size:=by simpa using g1
   apply U.w (aI8 J b size n h0)
   conv=>lhs;whnf
   repeat((first|apply U.t|apply U.f|(apply U.q;exact aC));conv=>lhs;whnf)
   apply U.w (kJ J (eQ b size n) (Nat.le_trans (nU b size n) (by omega)))
   conv=>lhs;whnf
   repeat((first|apply U.t|apply U.f|(apply U.q;exact aC));conv=>lhs;whnf)
   refine U.q (by exact⟨by decide,by intro e he;simp at he;subst he;rfl,by simp[mY];omega,by simp[mY];omega⟩) ?_
   conv=>lhs;whnf
   repeat((first|apply U.t|apply U.f|(apply U.q;exact aC));conv=>lhs;whnf)
   refine ih (n+1) (n+1) _ ?_ ⟨rfl,by omega⟩ (by omega)
   intro K
   conv=>lhs;whnf
   conv=>rhs;whnf
   try rfl
   rw[show IntKind.i64.wrap ((n:Int)+1)=_ from aL (by omega)]
   rw[← aI9]
   rfl
  ·have g1:¬ n<aCl b size:=by simpa using g1
   have:n=aCl b size:=by omega
   subst this
   rfl
 ·rfl
def mE (m:Man) (b:aD):Bool:=decide ((b.length:Int)=m.len)&&decide (fU b m.size=m.sums)
theorem aER {E:aP} (J:Sys E) (m:Man) (b:aD) (h0:b.length≤1048576):E 233 [gv (m.cs aG),sv (aR b)]=some ([bv (mE m b)],[]):=by
 have hl:=Nat.le_trans (yP b m.size) (show 40≤1099511627776 from by decide)
 refine J.run rfl rfl fun W U=>?_
 conv=>lhs;whnf
 rw[bA]
 repeat'((first|apply U.t|apply U.f|(apply U.q;exact aC)|apply U.w (aBD J b m.size h0)|apply U.w (tZ J (fU b m.size) m.sums hl)|(apply U.b<;>intro h))<;>conv=>lhs;whnf)
 all_goals(refine congrArg (fun b=>(some ([bv b],[]):Option cO)) ?_;first|rfl|(simp_all [mE];done)|(simp_all [mE]<;>(intros;omega)))
theorem aMg {E:aP} (J:Sys E) (m:Man) (b:aD) (h0:b.length≤1048576):E 246 [gv (m.cs aG),sv (aR b)]=some ([bv (mE m b)],[]):=by
 have hl:=Nat.le_trans (yP b m.size) (show 40≤1099511627776 from by decide)
 refine J.run rfl rfl fun W U=>?_
 conv=>lhs;whnf
 rw[bA]
 repeat'((first|apply U.t|apply U.f|(apply U.q;exact aC)|apply U.w (aJ4 J b m.size h0)|apply U.w (uA J (fU b m.size) m.sums hl)|(apply U.b<;>intro h))<;>conv=>lhs;whnf)
 all_goals(refine congrArg (fun b=>(some ([bv b],[]):Option cO)) ?_;first|rfl|(simp_all [mE];done)|(simp_all [mE]<;>(intros;omega)))
def aCm (d:Disk):aD:=if d.r.slot=1 then d.b else d.a
def oT (d:Disk):Int:=if jK d=true then d.r.gen else 0
def kK (d:Disk):aD:=if jK d=true then(aCm d).take d.r.len.toNat else[]
theorem aJa {d:Disk} (h:jK d=true):d.a.length≤240∧d.b.length≤240∧kI d.r=true∧d.r.len≤(aCm d).length∧d.p.length≤200∧d.p.all hM=true∧0≤d.r.len:=by
 simp only[jK,Bool.and_eq_true,decide_eq_true_eq]at h
 obtain⟨h1,h2,h3,h4,h5,h6⟩:=h
 have h7:0≤d.r.len:=by simp[kI,aS]at h3;omega
 exact⟨by omega,by omega,h3,h4,by omega,h6,h7⟩
theorem aGc (d:Disk):(kK d).length≤240:=by
 unfold kK
 split
 ·rename_i h
  obtain⟨h1,h2,h3,h4,h5,h6,h7⟩:=aJa h
  rw[List.length_take]
  unfold aCm at *
  by_cases hs:d.r.slot=1
  ·rw[if_pos hs];omega
  ·rw[if_neg hs];omega
 ·simp
theorem aQk (b:aD):((aR b).drop 0).take b.length=aR b:=by rw[List.drop_zero,← aI b,List.take_length]
theorem aWo (b:aD) (n:Nat):((aR b).drop (0+0)).take (n-0)=aR (b.take n):=by rw[gJ];simp
theorem aT7 (b:aD) (n:Nat):((aR b).drop 0).take (n-0)=aR (b.take n):=by rw[gJ];simp
theorem aJb {E:aP} (J:Sys E) {o:Bool} (d:Disk) (hd:d.lim 1048576):E 232 [gv (d.cs aG o)]=some ([iv (oT d),ov 1 (aR (kK d))],[]):=by
 have hk:=aJ2 J (o:=o) d hd
 unfold oT kK
 cases h:jK d
 ·rw[h]at hk
  refine J.run rfl rfl fun W U=>?_
  conv=>lhs;whnf
  repeat'((first|apply U.t|apply U.f|(apply U.q;exact aC)|apply U.w (hk)|(apply U.b<;>intro h))<;>conv=>lhs;whnf)
  rfl
 ·rw[h]at hk
  obtain⟨h1,h2,h3,h4,h5,h6,h7⟩:=aJa h
  simp only[if_true]
  rcases aAf h3 with hs|hs
  ·have e:aCm d=d.a:=if_neg (by omega)
   rw[e]at h4 ⊢
   refine J.run rfl rfl fun W U=>?_
   conv=>lhs;whnf
   repeat'((first|apply U.t|apply U.f|(apply U.q;exact aC)|apply U.w (hk)|apply U.w (yN J d d.r.slot (by omega))|(apply U.b<;>intro h))<;>conv=>lhs;whnf)
   rw[aQk]
   refine U.q (by exact⟨by omega,by rw[aI];omega,aY _⟩) ?_
   conv=>lhs;whnf
   rw[aWo]
   refine U.q (by exact⟨by decide,aY _,by rw[aI];simp;omega,by rw[aI];simp;omega,cF _⟩) ?_
   conv=>lhs;whnf
   rfl
  ·have e:aCm d=d.b:=if_pos hs
   rw[e]at h4 ⊢
   refine J.run rfl rfl fun W U=>?_
   conv=>lhs;whnf
   repeat'((first|apply U.t|apply U.f|(apply U.q;exact aC)|apply U.w (hk)|apply U.w (yM J d d.r.slot hs)|(apply U.b<;>intro h))<;>conv=>lhs;whnf)
   rw[aQk]
   refine U.q (by exact⟨by omega,by rw[aI];omega,aY _⟩) ?_
   conv=>lhs;whnf
   rw[aWo]
   refine U.q (by exact⟨by decide,aY _,by rw[aI];simp;omega,by rw[aI];simp;omega,cF _⟩) ?_
   conv=>lhs;whnf
   rfl
theorem yQ {E:aP} (J:Sys E) {o:Bool} (d:Disk) (hd:d.lim 1048576):E 245 [gv (d.cs aG o)]=some ([iv (oT d),ov 1 (aR (kK d))],[]):=by
 have hk:=aJ3 J (o:=o) d hd
 unfold oT kK
 cases h:jK d
 ·rw[h]at hk
  refine J.run rfl rfl fun W U=>?_
  conv=>lhs;whnf
  repeat'((first|apply U.t|apply U.f|(apply U.q;exact aC)|apply U.w (hk)|(apply U.b<;>intro h))<;>conv=>lhs;whnf)
  rfl
 ·rw[h]at hk
  obtain⟨h1,h2,h3,h4,h5,h6,h7⟩:=aJa h
  simp only[if_true]
  rcases aAf h3 with hs|hs
  ·have e:aCm d=d.a:=if_neg (by omega)
   rw[e]at h4 ⊢
   refine J.run rfl rfl fun W U=>?_
   conv=>lhs;whnf
   repeat'((first|apply U.t|apply U.f|(apply U.q;exact aC)|apply U.w (hk)|apply U.w (aEN J (fun _ _=>rfl) d d.r.slot hs)|(apply U.b<;>intro h))<;>conv=>lhs;whnf)
   refine U.q (by exact⟨by omega,by rw[aI];omega,aY _⟩) ?_
   conv=>lhs;whnf
   rw[aT7]
   apply U.w (dF J _ (by simp;omega))
   conv=>lhs;whnf
   repeat((first|apply U.t|apply U.f|(apply U.q;exact aC));conv=>lhs;whnf)
   rfl
  ·have e:aCm d=d.b:=if_pos hs
   rw[e]at h4 ⊢
   refine J.run rfl rfl fun W U=>?_
   conv=>lhs;whnf
   repeat'((first|apply U.t|apply U.f|(apply U.q;exact aC)|apply U.w (hk)|apply U.w (aEO J d d.r.slot (by omega))|(apply U.b<;>intro h))<;>conv=>lhs;whnf)
   refine U.q (by exact⟨by omega,by rw[aI];omega,aY _⟩) ?_
   conv=>lhs;whnf
   rw[aT7]
   apply U.w (dF J _ (by simp;omega))
   conv=>lhs;whnf
   repeat((first|apply U.t|apply U.f|(apply U.q;exact aC));conv=>lhs;whnf)
   rfl
theorem aGd {E:aP} (J:Sys E) (d:Disk) (m:Man) (hd:d.lim 1048576):E 244 [gv (d.cs aG true),gv (m.cs aG)]=some ([bv (decide (oT d=m.gen)&&mE m (kK d))],[]):=by
 have hl:=Nat.le_trans (aGc d) (show 240≤1048576 from by decide)
 refine J.run rfl rfl fun W U=>?_
 conv=>lhs;whnf
 repeat'((first|apply U.t|apply U.f|(apply U.q;exact aC)|apply U.w (yQ J (o:=true) d hd)|apply U.w (aMg J m (kK d) hl)|(apply U.b<;>intro h))<;>conv=>lhs;whnf)
 all_goals(refine congrArg (fun b=>(some ([bv b],[]):Option cO)) ?_;first|rfl|(simp_all [];done)|(simp_all []<;>(intros;omega)))
def mF (gen:Int) (b:aD) (size:Int):Man:=if aS gen 1 1000000=true∧cR size b.length=true then⟨gen,size,b.length,fU b size⟩ else⟨0,0,0,[]⟩
theorem aMh {E:aP} (J:Sys E) (gen:Int) (b:aD) (size:Int) (h0:b.length≤1048576):E 462 [iv gen,sv (aR b),iv size]=some ([gv ((mF gen b size).cs bS)],[]):=by
 have ha:=bG J gen 1 1000000
 have hb:=pB J size b.length
 unfold mF
 cases h1:aS gen 1 1000000
 ·rw[h1]at ha
  rw[if_neg (by simp)]
  refine J.run rfl rfl fun W U=>?_
  conv=>lhs;whnf
  repeat'((first|apply U.t|apply U.f|(apply U.q;exact aC)|apply U.w (ha)|(apply U.b<;>intro h))<;>conv=>lhs;whnf)
  rfl
 ·rw[h1]at ha
  cases h2:cR size b.length
  ·rw[h2]at hb
   rw[if_neg (by simp)]
   refine J.run rfl rfl fun W U=>?_
   conv=>lhs;whnf
   try rw[bA]
   repeat'((first|apply U.t|apply U.f|(apply U.q;exact aC)|apply U.w (ha)|(apply U.b<;>intro h))<;>conv=>lhs;whnf)
   rw[bA]
   repeat'((first|apply U.t|apply U.f|(apply U.q;exact aC)|apply U.w (hb)|(apply U.b<;>intro h))<;>conv=>lhs;whnf)
   rfl
  ·rw[h2]at hb
   rw[if_pos ⟨rfl,rfl⟩]
   refine J.run rfl rfl fun W U=>?_
   conv=>lhs;whnf
   repeat'((first|apply U.t|apply U.f|(apply U.q;exact aC)|apply U.w (ha)|(apply U.b<;>intro h))<;>conv=>lhs;whnf)
   rw[bA]
   repeat'((first|apply U.t|apply U.f|(apply U.q;exact aC)|apply U.w (hb)|(apply U.b<;>intro h))<;>conv=>lhs;whnf)
   rw[bA]
   repeat'((first|apply U.t|apply U.f|(apply U.q;exact aC)|apply U.w (aBD J b size h0)|(apply U.b<;>intro h))<;>conv=>lhs;whnf)
   rfl
def aK6:aD→Int
 |[]=>0
 |c::r=>c.toNat+aK6 r
def aK7:aD→Int
 |[]=>0
 |c::r=>((r.length:Int)+1)*c.toNat+aK7 r
theorem aRz {a b k:Int} (h:a=b+251*k):a%251=b%251:=by omega
theorem aT8 {b:aD}:∀ {x y:Int},(0≤x∧x<251)→(0≤y∧y<251)→(kZ b x y).1=(x+aK6 b)%251∧(kZ b x y).2=(y+(b.length:Int)*x+aK7 b)%251:=by
 induction b with
 |nil=>intro x y h h';simp only[kZ,aK6,aK7,List.length_nil];constructor<;>omega
 |cons c r ih =>
  intro x y h h'
  have hc:=UInt8.toNat_lt c
  have h1:=aT5 (c:=c) h
  have h2:=aWn h1 h'
  obtain⟨i1,i2⟩:=ih h1 h2
  have e1:wx x c=(x+c.toNat)%251:=by
   unfold wx
   rw[show IntKind.i64.wrap (c.toNat:Int)=c.toNat from aK (by omega),show IntKind.i64.wrap (x+c.toNat)=x+c.toNat from aK (by omega),Int.tmod_eq_emod_of_nonneg (by omega)]
  have e2:wy y (wx x c)=(y+wx x c)%251:=by
   unfold wy
   rw[show IntKind.i64.wrap (y+wx x c)=y+wx x c from aK (by omega),Int.tmod_eq_emod_of_nonneg (by omega)]
  simp only[kZ,aK6,aK7,List.length_cons]
  rw[i1,i2]
  constructor
  ·omega
  ·generalize wx x c=x1 at *
   generalize wy y x1=y1 at *
   obtain⟨q,hq⟩:∃ q,x+c.toNat=251*q+x1:=⟨(x+c.toNat)/251,by omega⟩
   obtain⟨p,hp⟩:∃ p,y+x1=251*p+y1:=⟨(y+x1)/251,by omega⟩
   have m1:(r.length:Int)*(x+c.toNat)=251*((r.length:Int)*q)+r.length*x1:=by
    rw[hq,Int.mul_add,Int.mul_left_comm]
   have m2:(r.length:Int)*(x+c.toNat)=(r.length:Int)*x+r.length*c.toNat:=Int.mul_add _ _ _
   have m3:((r.length:Int)+1)*c.toNat=r.length*c.toNat+c.toNat:=by rw[Int.add_mul,Int.one_mul]
   have m4:(((r.length+1:Nat):Int))*x=r.length*x+x:=by push_cast;rw[Int.add_mul,Int.one_mul]
   rw[m3,m4]
   apply(aRz (k:=(r.length:Int)*q+q+p) ?_).symm
   generalize (r.length:Int)*q=u at *
   generalize (r.length:Int)*x1=v at *
   generalize (r.length:Int)*x=w at *
   generalize (r.length:Int)*(c.toNat:Int)=z at *
   omega
theorem sE (b:aD):bE b=aK6 b%251+251*(aK7 b%251):=by
 obtain⟨h1,h2⟩:=aT8 (b:=b) (x:=0) (y:=0) (by omega) (by omega)
 unfold bE
 rw[h1,h2]
 rw[show(0:Int)+(b.length:Int)*0+aK7 b=aK7 b from by omega,show(0:Int)+aK6 b=aK6 b from by omega]
 rw[show IntKind.i64.wrap (251*(aK7 b%251))=251*(aK7 b%251) from aK (by omega)]
 exact aK (by omega)
theorem aT9 {r:aD} {c:UInt8}:aK6 (r++[c])=aK6 r+c.toNat:=by
 induction r with
 |nil=>simp[aK6]
 |cons a r ih=>simp only[List.cons_append,aK6,ih];omega
theorem aUa {r:aD} {c:UInt8}:aK7 (r++[c])=aK7 r+aK6 r+c.toNat:=by
 induction r with
 |nil=>simp[aK6,aK7]
 |cons a r ih =>
  simp only[List.cons_append,aK7,aK6,ih,List.length_append,List.length_cons,List.length_nil]
  have:((r.length+(0+1):Nat):Int)+1=((r.length:Int)+1)+1:=by push_cast;omega
  rw[this,Int.add_mul ((r.length:Int)+1) 1,Int.one_mul]
  omega
theorem aCn {n:Int} (h : -1000000000000000≤n∧n≤1000000000000000):aGP n 251=n%251:=by
 unfold aGP
 rw[if_pos (by decide)]
 by_cases h0:0≤n
 ·rw[Int.tmod_eq_emod_of_nonneg h0,show IntKind.i64.wrap (n%251+251)=n%251+251 from aK (by omega),Int.tmod_eq_emod_of_nonneg (by omega)]
  omega
 ·obtain⟨m,rfl⟩:∃ m,n = -m:=⟨-n,by omega⟩
  have e:(-m).tmod 251 = -(m%251):=by rw[Int.neg_tmod,Int.tmod_eq_emod_of_nonneg (by omega)]
  rw[e,show IntKind.i64.wrap (-(m%251)+251) = -(m%251)+251 from aK (by omega),Int.tmod_eq_emod_of_nonneg (by omega)]
  omega
theorem aGR {E:aP} (J:Sys E) (w:Int):E 266 [iv w]=some ([bv (aS w 0 63000)],[]):=by
 refine J.run rfl rfl fun W U=>?_
 conv=>lhs;whnf
 repeat'((first|apply U.t|apply U.f|(apply U.q;exact aC)|apply U.w (bG J _ _ _)|(apply U.b<;>intro h))<;>conv=>lhs;whnf)
 rfl
theorem aES {E:aP} (J:Sys E) (b:aD):E 267 [iv (bE b)]=some ([iv (aK6 b%251),iv (aK7 b%251)],[]):=by
 have e:=sE b
 generalize bE b=w at e ⊢
 have h:=aGR J w
 rw[show aS w 0 63000=true from by simp[aS];omega]at h
 refine J.run rfl rfl fun W U=>?_
 conv=>lhs;whnf
 repeat'((first|apply U.t|apply U.f|(apply U.q;exact aC)|apply U.w (h)|(apply U.b<;>intro h))<;>conv=>lhs;whnf)
 rw[Int.tmod_eq_emod_of_nonneg (by omega),Int.tdiv_eq_ediv_of_nonneg (by omega),show IntKind.i64.wrap (w/251)=w/251 from aK (by omega)]
 rw[show w%251=aK6 b%251 from by omega,show w/251=aK7 b%251 from by omega]
 rfl
theorem aNU {E:aP} (J:Sys E) (o:UInt8) (r:aD) (c:UInt8) (n:Int) (hn:n=r.length+1) (hr:r.length≤6):E 265 [iv (bE (o::r)),iv n,iv (o.toNat:Int),iv (c.toNat:Int)]=some ([iv (bE (r++[c]))],[]):=by
 have ho:=UInt8.toNat_lt o
 have hc:=UInt8.toNat_lt c
 have h:=aGR J (bE (o::r))
 have e:=sE (o::r)
 rw[show aS (bE (o::r)) 0 63000=true from by simp[aS];omega]at h
 have h1:=bG J n 1 1000000000000
 rw[show aS n 1 1000000000000=true from by simp[aS];omega]at h1
 have h2:=bG J o.toNat 0 255
 rw[show aS o.toNat 0 255=true from by simp[aS];omega]at h2
 have h3:=bG J c.toNat 0 255
 rw[show aS c.toNat 0 255=true from by simp[aS];omega]at h3
 refine J.run rfl rfl fun W U=>?_
 conv=>lhs;whnf
 repeat'((first|apply U.t|apply U.f|(apply U.q;exact aC)|apply U.w (h)|apply U.w (h1)|apply U.w (h2)|apply U.w (h3)|apply U.w (aES J (o::r))|apply U.w (aNR J _ _)|(apply U.b<;>intro h))<;>conv=>lhs;whnf)
 have hz:0≤n*(o.toNat:Int)∧n*(o.toNat:Int)≤7*255:=⟨Int.mul_nonneg (by omega) (by omega),Int.mul_le_mul (by omega) (by omega) (by omega) (by omega)⟩
 have hP:aK7 (o::r)=n*o.toNat+aK7 r:=by rw[aK7,hn]
 have hS:aK6 (o::r)=o.toNat+aK6 r:=rfl
 have n1:n.tmod 251=n:=by rw[Int.tmod_eq_emod_of_nonneg (by omega)];omega
 rw[sE (r++[c]),aT9,aUa,n1]
 rw[show IntKind.i64.wrap (n*(o.toNat:Int))=n*o.toNat from aK (by omega)]
 rw[hP,hS]
 generalize n*(o.toNat:Int)=z at *
 generalize hx:(o.toNat+aK6 r)%251=X
 generalize hy:(z+aK7 r)%251=Y
 rw[show IntKind.i64.wrap (X-(o.toNat:Int))=X-o.toNat from aK (by omega),show IntKind.i64.wrap (X-(o.toNat:Int)+c.toNat)=X-o.toNat+c.toNat from aK (by omega),show IntKind.i64.wrap (Y-z)=Y-z from aK (by omega)]
 rw[aCn (n:=X-o.toNat+c.toNat) (by omega),aCn (n:=Y-z) (by omega)]
 rw[show IntKind.i64.wrap ((Y-z)%251+(X-(o.toNat:Int)+c.toNat)%251)=(Y-z)%251+(X-(o.toNat:Int)+c.toNat)%251 from aK (by omega)]
 rw[aCn (n:=(Y-z)%251+(X-(o.toNat:Int)+c.toNat)%251) (by omega)]
 rw[show IntKind.i64.wrap (251*(((Y-z)%251+(X-(o.toNat:Int)+c.toNat)%251)%251))=251*(((Y-z)%251+(X-(o.toNat:Int)+c.toNat)%251)%251) from aK (by omega)]
 refine congrArg (fun b=>(some ([iv b],[]):Option cO)) ((aK (by omega)).trans ?_)
 omega
def aGe (b:aD) (n i:Nat):aD:=(b.drop i).take n
def yR (b:aD) (n k:Nat):List Int:=(List.range k).map fun i=>bE (aGe b n i)
theorem mZ (b:aD) (n k:Nat):(yR b n k).length=k:=by simp[yR]
theorem aPm (b:aD) (n k:Nat):bB (yR b n k)++[[ti (bE (aGe b n k))]]=bB (yR b n (k+1)):=by
 simp[yR,List.range_succ,bB,kQ]
def eD (b:aD) (n:Nat):List Int:=yR b n (if n≤b.length then b.length+1-n else 0)
theorem aUb {b:aD} {n i:Nat} (hn:1≤n) (h:i+n<b.length):∃ r:aD,r.length+1=n∧aGe b n i=b[i]::r∧aGe b n (i+1)=r++[b[i+n]]:=by
 refine⟨(b.drop (i+1)).take (n-1),?_,?_,?_⟩
 ·simp;omega
 ·unfold aGe
  rw[List.drop_eq_getElem_cons (show i<b.length by omega)]
  obtain⟨m,rfl⟩:∃ m,n=m+1:=⟨n-1,by omega⟩
  rw[List.take_succ_cons];rfl
 ·unfold aGe
  obtain⟨m,rfl⟩:∃ m,n=m+1:=⟨n-1,by omega⟩
  rw[List.take_add_one]
  simp only[Nat.add_sub_cancel,List.getElem?_drop]
  rw[show i+1+m=i+(m+1) from by omega,List.getElem?_eq_getElem h]
  rfl
theorem aJc {E:aP} (J:Sys E) (b:aD) (n:Nat) (hb:b.length≤1048576) (hn:1≤n∧n≤6):E 264 [sv (aR b),iv n]=some ([ov 1 (bB (eD b n))],[]):=by
 unfold eD
 refine J.run rfl rfl fun W U=>?_
 conv=>lhs;whnf
 apply U.b<;>intro g0<;>conv=>lhs;whnf
 ·have:(n:Int)<1:=by simpa using g0
  omega
 ·repeat((first|apply U.t|apply U.f|(apply U.q;exact aC));conv=>lhs;whnf)
  rw[bA]
  apply U.b<;>intro g<;>conv=>lhs;whnf
  ·have g:(n:Int)>b.length:=by simpa using g
   rw[if_neg (by omega)]
   rfl
  ·have g:¬ (n:Int)>b.length:=by simpa using g
   rw[if_pos (by omega)]
   repeat((first|apply U.t|apply U.f|(apply U.q;exact aC));conv=>lhs;whnf)
   refine U.q (by exact⟨by omega,by rw[aI];omega,aY b⟩) ?_
   conv=>lhs;whnf
   rw[aT7,show((n:Int).toNat)=n from by omega]
   apply U.w (eX J (b.take n) (by simp;omega))
   conv=>lhs;whnf
   repeat((first|apply U.t|apply U.f|(apply U.q;exact aC));conv=>lhs;whnf)
   refine U.loop (σ:=Nat) (γ:=Nat) (fun i s=>((s.sl 7 (v1 (.t (.int .i64 (i+n:Nat))))).sl 6 (v1 (.t (.int .i64 (bE (aGe b n i)))))).bl ⟨50500,1, .own,bB (yR b n (i+1))⟩) (fun i m=>i=m∧m+n≤b.length) (fun m=>b.length-m) (fun _=>([ov 1 (bB (yR b n (b.length+1-n)))],[])) 0 0 ?_ ?_ ?_ ?_
   ·intro K
    conv=>lhs;whnf
    conv=>rhs;whnf
    try rfl
    simp[yR,aGe,bB,kQ]
   ·exact⟨rfl,by omega⟩
   ·rintro kl i _ ⟨rfl,hi⟩ ih
    conv=>lhs;whnf
    rw[bA]
    apply U.b<;>intro g1<;>conv=>lhs;whnf
    ·have g1:i+n<b.length:=by
      have:((i+n:Nat):Int)<b.length:=by simpa using g1
      omega
     obtain⟨r,r1,r2,r3⟩:=aUb hn.1 g1
     have c1:=UInt8.toNat_lt b[i]
     have c2:=UInt8.toNat_lt b[i+n]
     rw[show IntKind.i64.wrap (((i+n:Nat):Int)-(n:Int))=(i:Int) from(aK (by omega)).trans (by omega)]
     repeat((first|apply U.t|apply U.f|(apply U.q;exact aC)|(refine U.w (cC ?_) ?_;omega));conv=>lhs;whnf)
     rw[show IntKind.i64.wrap (b[i].toNat:Int)=b[i].toNat from aK (by omega),show IntKind.i64.wrap (b[i+n].toNat:Int)=b[i+n].toNat from aK (by omega),r2]
     apply U.w (aNU J b[i] r b[i+n] n (by omega) (by omega))
     conv=>lhs;whnf
     repeat((first|apply U.t|apply U.f|(apply U.q;exact aC));conv=>lhs;whnf)
     refine U.q (by exact⟨by decide,by intro e he;simp at he;subst he;rfl,by simp[mZ,bB];omega,by simp[mZ,bB];omega⟩) ?_
     conv=>lhs;whnf
     repeat((first|apply U.t|apply U.f|(apply U.q;exact aC));conv=>lhs;whnf)
     refine ih (i+1) (i+1) _ ?_ ⟨rfl,by omega⟩ (by omega)
     intro K
     conv=>lhs;whnf
     conv=>rhs;whnf
     try rfl
     rw[show IntKind.i64.wrap (((i+n:Nat):Int)+1)=((i+1+n:Nat):Int) from(aL (by omega)).trans (by omega),← aPm b n (i+1),r3]
     rfl
    ·have g1:¬ i+n<b.length:=by
      have:¬ ((i+n:Nat):Int)<b.length:=by simpa using g1
      omega
     rw[show b.length+1-n=i+1 from by omega]
     rfl
   ·rfl
def aET (p:Nat→Bool):Nat→Nat→Int
 |_,0 => -1
 |i,k+1=>if p i=true then(i:Int) else aET p (i+1) k
def kL (b:aD) (s:Sum) (n:Int):Int:=if aS n 1 6=true then aET (fun i=>decide (bC (aGe b n.toNat i)=s)) 0 (eD b n.toNat).length else -1
theorem aQl (b:aD) (n i:Nat):(aGe b n i).length≤n:=by simp[aGe];omega
theorem aRA {w:aD} (h:w.length≤6) (s:Sum):(decide (bE w=s.w)&&decide (bC w=s))=decide (bC w=s):=by
 have:(bC w).w=bE w:=by unfold bC;rw[if_neg (by omega)]
 rw[Bool.eq_iff_iff]
 simp only[Bool.and_eq_true,decide_eq_true_eq]
 constructor
 ·exact fun h=>h.2
 ·intro h;exact⟨by rw[← this,h],h⟩
theorem aUc (b:aD) (n k i:Nat) (h:i<k):(yR b n k)[i]?=some (bE (aGe b n i)):=by simp[yR,h]
theorem aJd {E:aP} (J:Sys E) (b:aD) (s:Sum) (n:Int) (hb:b.length≤1048576):E 263 [sv (aR b),gv s.cs,iv n]=some ([iv (kL b s n)],[]):=by
 have h1:=bG J n 1 6
 unfold kL
 cases hn:aS n 1 6
 ·rw[hn]at h1
  refine J.run rfl rfl fun W U=>?_
  conv=>lhs;whnf
  repeat'((first|apply U.t|apply U.f|(apply U.q;exact aC)|apply U.w (h1)|(apply U.b<;>intro h))<;>conv=>lhs;whnf)
  rfl
 ·rw[hn]at h1
  have hr:=bP hn
  obtain⟨m,rfl⟩:∃ m:Nat,n=m:=⟨n.toNat,by omega⟩
  rw[show((m:Int).toNat)=m from by omega]
  have hl:(bB (eD b m)).length=(eD b m).length:=List.length_map _
  have hl2:(eD b m).length+m≤b.length+1∨(eD b m).length=0:=by
   unfold eD;rw[mZ];split<;>omega
  have hg:∀ i (h:i<(eD b m).length),(bB (eD b m))[(i:Int).toNat]?=some (kQ (bE (aGe b m i))):=by
   intro i h
   unfold eD at h ⊢
   rw[mZ]at h
   rw[bB,List.getElem?_map,show((i:Int).toNat)=i from by omega,aUc _ _ _ _ h]
   rfl
  simp only[if_true]
  refine J.run rfl rfl fun W U=>?_
  conv=>lhs;whnf
  apply U.w (h1)
  conv=>lhs;whnf
  repeat((first|apply U.t|apply U.f|(apply U.q;exact aC));conv=>lhs;whnf)
  apply U.w (aJc J b m hb (by omega))
  conv=>lhs;whnf
  repeat((first|apply U.t|apply U.f|(apply U.q;exact aC));conv=>lhs;whnf)
  generalize eD b m=l at hl hl2 hg ⊢
  refine U.loop (σ:=Nat) (γ:=Nat) (fun i s=>s.sl 8 (v1 (.t (.int .i64 i)))) (fun i k=>i=k∧k≤l.length) (fun k=>l.length-k) (fun k=>([iv (aET (fun i=>decide (bC (aGe b m i)=s)) k (l.length-k))],[])) 0 0 ?_ ?_ ?_ ?_
  ·intro K
   conv=>lhs;whnf
   conv=>rhs;whnf
   try rfl
  ·exact⟨rfl,by omega⟩
  ·rintro kl i _ ⟨rfl,hi⟩ ih
   conv=>lhs;whnf
   apply U.b<;>intro g1<;>conv=>lhs;whnf
   ·have g1:i<l.length:=by simpa[hl] using g1
    have hw:=aQl b m i
    rw[show l.length-i=(l.length-(i+1))+1 from by omega,aET,← aRA (by omega)]
    repeat((first|apply U.t|apply U.f|(apply U.q;exact aC));conv=>lhs;whnf)
    apply U.w (hg i g1)
    conv=>lhs;whnf
    repeat((first|apply U.t|apply U.f|(apply U.q;exact aC));conv=>lhs;whnf)
    apply U.w (hg i g1)
    conv=>lhs;whnf
    repeat((first|apply U.t|apply U.f|(apply U.q;exact aC));conv=>lhs;whnf)
    apply U.b<;>intro g2<;>conv=>lhs;whnf
    ·rw[g2]
     repeat((first|apply U.t|apply U.f|(apply U.q;exact aC));conv=>lhs;whnf)
     rw[show IntKind.i64.wrap ((i:Int)+(m:Int))=((i+m:Nat):Int) from(aK (by omega)).trans (by omega)]
     repeat((first|apply U.t|apply U.f|(apply U.q;exact aC));conv=>lhs;whnf)
     refine U.q (by exact⟨by omega,by rw[aI];omega,aY b⟩) ?_
     conv=>lhs;whnf
     repeat((first|apply U.t|apply U.f|(apply U.q;exact aC));conv=>lhs;whnf)
     rw[show((aR b).drop (i:Int).toNat).take ((((i+m:Nat):Int)).toNat-(i:Int).toNat)=aR (aGe b m i) from by rw[gJ];unfold aGe;congr 2<;>omega]
     apply U.w (eP J (aGe b m i) (by omega))
     conv=>lhs;whnf
     repeat((first|apply U.t|apply U.f|(apply U.q;exact aC));conv=>lhs;whnf)
     apply U.b<;>intro g3<;>conv=>lhs;whnf
     ·have g3:bC (aGe b m i)=s:=by
       revert g3
       generalize bC (aGe b m i)=x
       cases x;cases s
       simp
      rw[decide_eq_true g3]
      rfl
     ·have g3:bC (aGe b m i)≠s:=by intro e;rw[e]at g3;simp at g3
      rw[decide_eq_false g3]
      simp only[Bool.and_false,if_false,Bool.false_eq_true]
      refine ih (i+1) (i+1) _ ?_ ⟨rfl,by omega⟩ (by omega)
      intro K
      conv=>lhs;whnf
      conv=>rhs;whnf
      try rfl
      rw[show IntKind.i64.wrap ((i:Int)+1)=_ from aL (by omega)]
      try rfl
    ·rw[g2]
     repeat((first|apply U.t|apply U.f|(apply U.q;exact aC));conv=>lhs;whnf)
     simp only[Bool.false_and,if_false,Bool.false_eq_true]
     refine ih (i+1) (i+1) _ ?_ ⟨rfl,by omega⟩ (by omega)
     intro K
     conv=>lhs;whnf
     conv=>rhs;whnf
     try rfl
     rw[show IntKind.i64.wrap ((i:Int)+1)=_ from aL (by omega)]
   ·have:i=l.length:=by simp[hl]at g1;omega
    rw[this,Nat.sub_self];rfl
  ·rfl
theorem aPn (b:aD) (m:Nat):(eD b m).length=if m≤b.length then b.length+1-m else 0:=by unfold eD;rw[mZ]
theorem aJe {E:aP} (J:Sys E) (b:aD) (s:Sum) (n:Int) (hb:b.length≤1048576):E 272 [sv (aR b),gv s.cs,iv n]=some ([iv (kL b s n)],[]):=by
 have h1:=bR J n 1 6
 unfold kL
 cases hn:aS n 1 6
 ·rw[hn]at h1
  refine J.run rfl rfl fun W U=>?_
  conv=>lhs;whnf
  repeat'((first|apply U.t|apply U.f|(apply U.q;exact aC)|apply U.w (h1)|(apply U.b<;>intro h))<;>conv=>lhs;whnf)
  rfl
 ·rw[hn]at h1
  have hr:=bP hn
  obtain⟨m,rfl⟩:∃ m:Nat,n=m:=⟨n.toNat,by omega⟩
  rw[show((m:Int).toNat)=m from by omega,aPn]
  simp only[if_true]
  refine J.run rfl rfl fun W U=>?_
  conv=>lhs;whnf
  apply U.w (h1)
  conv=>lhs;whnf
  repeat((first|apply U.t|apply U.f|(apply U.q;exact aC));conv=>lhs;whnf)
  generalize hL:(if m≤b.length then b.length+1-m else 0)=L
  have hL':∀ i,i<L↔i+m≤b.length:=by intro i;rw[← hL];split<;>omega
  have hLb:L≤b.length:=by rw[← hL];split<;>omega
  refine U.loop (σ:=Nat) (γ:=Nat) (fun i s=>s.sl 7 (v1 (.t (.int .i64 i)))) (fun i k=>i=k∧k≤L) (fun k=>L-k) (fun k=>([iv (aET (fun i=>decide (bC (aGe b m i)=s)) k (L-k))],[])) 0 0 ?_ ?_ ?_ ?_
  ·intro K
   conv=>lhs;whnf
   conv=>rhs;whnf
   try rfl
  ·exact⟨rfl,by omega⟩
  ·rintro kl i _ ⟨rfl,hi⟩ ih
   conv=>lhs;whnf
   rw[bA,show IntKind.i64.wrap ((i:Int)+(m:Int))=((i+m:Nat):Int) from(aK (by omega)).trans (by omega)]
   apply U.b<;>intro g1<;>conv=>lhs;whnf
   ·have g1:i+m≤b.length:=by
     have:((i+m:Nat):Int)≤b.length:=by simpa using g1
     omega
    have hw:=aQl b m i
    rw[show L-i=(L-(i+1))+1 from by have:=(hL' i).2 g1;omega,aET]
    repeat((first|apply U.t|apply U.f|(apply U.q;exact aC));conv=>lhs;whnf)
    rw[show IntKind.i64.wrap ((i:Int)+(m:Int))=((i+m:Nat):Int) from(aK (by omega)).trans (by omega)]
    repeat((first|apply U.t|apply U.f|(apply U.q;exact aC));conv=>lhs;whnf)
    refine U.q (by exact⟨by omega,by rw[aI];omega,aY b⟩) ?_
    conv=>lhs;whnf
    rw[show((aR b).drop (i:Int).toNat).take ((((i+m:Nat):Int)).toNat-(i:Int).toNat)=aR (aGe b m i) from by rw[gJ];unfold aGe;congr 2<;>omega]
    apply U.w (kJ J (aGe b m i) (by omega))
    conv=>lhs;whnf
    repeat((first|apply U.t|apply U.f|(apply U.q;exact aC));conv=>lhs;whnf)
    apply U.b<;>intro g3<;>conv=>lhs;whnf
    ·have g3:bC (aGe b m i)=s:=by
      revert g3
      generalize bC (aGe b m i)=x
      cases x;cases s
      simp
     rw[if_pos (decide_eq_true g3)]
     rfl
    ·have g3:bC (aGe b m i)≠s:=by intro e;rw[e]at g3;simp at g3
     rw[if_neg (by simpa using g3)]
     refine ih (i+1) (i+1) _ ?_ ⟨rfl,by have:=(hL' i).2 g1;omega⟩ (by have:=(hL' i).2 g1;omega)
     intro K
     conv=>lhs;whnf
     conv=>rhs;whnf
     try rfl
     rw[show IntKind.i64.wrap ((i:Int)+1)=_ from aL (by omega)]
     try rfl
   ·have g1:¬ i+m≤b.length:=by
     have:¬ ((i+m:Nat):Int)≤b.length:=by simpa using g1
     omega
    have hni:¬ i<L:=fun h=>g1 ((hL' i).1 h)
    have:i=L:=by omega
    rw[this,Nat.sub_self];rfl
  ·rfl
def bQ (b:aD) (m:Man) (i:Int):Int :=
 if i<0 then -1 else match m.sums[i.toNat]? with
 |none => -1
 |some s=>kL b s (aZ m.size m.len i)
theorem aPo (b:aD) (s:Sum):kL b s 0 = -1:=by unfold kL;rw[if_neg (by decide)]
theorem aK8 {b:aD} {m:Man} {i:Int} (h:i<0∨(m.sums.length:Int)≤i):bQ b m i = -1:=by
 unfold bQ
 by_cases h0:i<0
 ·rw[if_pos h0]
 ·rw[if_neg h0,List.getElem?_eq_none (by omega)]
theorem aJf {b:aD} {m:Man} {n:Nat} (h:n<m.sums.length):bQ b m n=kL b m.sums[n] (aZ m.size m.len n):=by
 unfold bQ
 rw[if_neg (by omega),show((n:Int).toNat)=n from by omega,List.getElem?_eq_getElem h]
theorem aUd {size n i:Int} (h:i<0):aZ size n i=0:=by
 unfold aZ
 rw[if_neg (by simp[aS];omega)]
theorem aJg {E:aP} (J:Sys E) (b:aD) (m:Man) (i:Int) (hb:b.length≤1048576) (_:m.sums.length≤8388608):E 262 [sv (aR b),gv (m.cs aG),iv i]=some ([iv (bQ b m i)],[]):=by
 refine J.run rfl rfl fun W U=>?_
 conv=>lhs;whnf
 apply U.w (eW J m.size m.len i)
 conv=>lhs;whnf
 repeat((first|apply U.t|apply U.f|(apply U.q;exact aC));conv=>lhs;whnf)
 apply U.b<;>intro g1<;>conv=>lhs;whnf
 ·have g1:aZ m.size m.len i=0:=by simpa using g1
  repeat((first|apply U.t|apply U.f|(apply U.q;exact aC));conv=>lhs;whnf)
  have e:bQ b m i = -1:=by
   unfold bQ
   split
   ·rfl
   ·split
    ·rfl
    ·rw[g1,aPo]
  rw[e];rfl
 ·have g1:aZ m.size m.len i≠0:=by simpa using g1
  have hi:0≤i:=by
   rcases Int.lt_or_le i 0 with h|h
   ·exact absurd (aUd h) g1
   ·exact h
  repeat((first|apply U.t|apply U.f|(apply U.q;exact aC));conv=>lhs;whnf)
  apply U.b<;>intro g2<;>conv=>lhs;whnf
  ·have g2:(m.sums.length:Int)≤i:=by simpa using g2
   rw[aK8 (.inr g2)]
   rfl
  ·have g2:¬ (m.sums.length:Int)≤i:=by simpa using g2
   obtain⟨n,rfl⟩:∃ n:Nat,i=n:=⟨i.toNat,by omega⟩
   have hn:n<m.sums.length:=by omega
   rw[aJf hn]
   repeat((first|apply U.t|apply U.f|(apply U.q;exact aC)|(refine U.w (cC ?_) ?_;omega));conv=>lhs;whnf)
   apply U.w (aJd J b m.sums[n] _ hb)
   conv=>lhs;whnf
   repeat((first|apply U.t|apply U.f|(apply U.q;exact aC));conv=>lhs;whnf)
   rfl
theorem aJh {E:aP} (J:Sys E) (b:aD) (m:Man) (i:Int) (hb:b.length≤1048576) (hm:m.sums.length≤8388608):E 271 [sv (aR b),gv (m.cs aG),iv i]=some ([iv (bQ b m i)],[]):=by
 have h1:=bR J i 0 ((m.sums.length:Int)-1)
 refine J.run rfl rfl fun W U=>?_
 conv=>lhs;whnf
 apply U.w (jH J m.size m.len i)
 conv=>lhs;whnf
 repeat((first|apply U.t|apply U.f|(apply U.q;exact aC));conv=>lhs;whnf)
 rw[show((m.sums.map Sum.row).length)=m.sums.length from List.length_map _,show IntKind.i64.wrap ((m.sums.length:Int)-1)=(m.sums.length:Int)-1 from aK (by omega)]
 apply U.w (h1)
 conv=>lhs;whnf
 repeat((first|apply U.t|apply U.f|(apply U.q;exact aC));conv=>lhs;whnf)
 apply U.b<;>intro g1<;>conv=>lhs;whnf
 ·have g1:=kY g1
  rw[aK8 (by simp[aS]at g1;omega)]
  rfl
 ·have g1:=bP (hJ g1)
  obtain⟨n,rfl⟩:∃ n:Nat,i=n:=⟨i.toNat,by omega⟩
  have hn:n<m.sums.length:=by omega
  rw[aJf hn]
  repeat((first|apply U.t|apply U.f|(apply U.q;exact aC)|(refine U.w (cC ?_) ?_;omega));conv=>lhs;whnf)
  apply U.w (aJe J b m.sums[n] _ hb)
  conv=>lhs;whnf
  repeat((first|apply U.t|apply U.f|(apply U.q;exact aC));conv=>lhs;whnf)
  rfl
theorem aMi {i:Nat} (h:i≤39):aF7 i=((2 ^ i:Nat):Int)∧2 ^ i≤549755813888:=by
 have h1:2 ^ i≤2 ^ 39:=Nat.pow_le_pow_right (by decide) h
 have h2:2 ^ i≤549755813888:=Nat.le_trans h1 (by decide)
 refine⟨?_,h2⟩
 unfold aF7
 rw[show min ((i:Int).toNat) IntKind.i64.bits=i from by simp only[IntKind.bits];omega]
 rw[show(1:Int)*2 ^ i=((2 ^ i:Nat):Int) from by push_cast;omega]
 generalize 2 ^ i=p at h2 ⊢
 exact aK (by omega)
def aJT:Nat→Nat→aD→Option aD
 |0,s,acc=>if s=1 then some acc else none
 |k+1,s,acc=>if s=1 then some acc else if s<256 then none else aJT k (s/256) (dN s::acc)
def eE (s:Int):Option aD:=if aS s 1 562949953421311=true then aJT 6 s.toNat [] else none
def bO (s:Int):aD:=(eE s).getD []
def bU (s:Int):Bool:=(eE s).isSome
theorem aRB (s:Int):IntKind.u8.wrap (IntKind.i64.wrap (BitVec.ofInt IntKind.i64.bits s &&& BitVec.ofInt IntKind.i64.bits 255).toNat)=IntKind.u8.wrap s∨¬ (0≤s∧s≤562949953421311):=by
 by_cases h:0≤s∧s≤562949953421311
 ·left
  obtain⟨n,rfl⟩:∃ n:Nat,s=n:=⟨s.toNat,by omega⟩
  rw[BitVec.toNat_and,BitVec.ofInt_natCast,show BitVec.ofInt IntKind.i64.bits 255=BitVec.ofNat IntKind.i64.bits 255 from rfl,BitVec.toNat_ofNat,BitVec.toNat_ofNat]
  rw[Nat.mod_eq_of_lt (show n<2 ^ IntKind.i64.bits from by simp only[IntKind.bits];omega),Nat.mod_eq_of_lt (show 255<2 ^ IntKind.i64.bits from by decide)]
  rw[show n &&& 255=n%256 from Nat.and_two_pow_sub_one_eq_mod n 8]
  rw[show IntKind.i64.wrap ((n%256:Nat):Int)=((n%256:Nat):Int) from aK (by omega)]
  rw[← kE,← kE]
  unfold dN
  congr 3
  omega
 ·exact .inr h
theorem aVJ:∀ {k s:Nat} {acc b:aD},aJT k s acc=some b→b.length≤acc.length+k:=by
 intro k
 induction k with
 |zero=>intro s acc b h;simp only[aJT]at h;split at h;cases h;omega;cases h
 |succ k ih =>
  intro s acc b h
  simp only[aJT]at h
  split at h
  ·cases h;omega
  ·split at h
   ·cases h
   ·have:=ih h;simp only[List.length_cons]at this;omega
theorem jR (s:Int):(bO s).length≤6:=by
 unfold bO eE
 split
 ·cases h:aJT 6 s.toNat [] with
  |none=>simp
  |some b=>have:=aVJ h;simpa using this
 ·simp
theorem aUe {n:Nat}:((n:Int).fdiv (2 ^ (min (8:Int).toNat IntKind.i64.bits)))=((n/256:Nat):Int):=by
 rw[show(2:Int) ^ (min (8:Int).toNat IntKind.i64.bits)=256 from by decide,Int.fdiv_eq_ediv_of_nonneg _ (by decide)]
 omega
theorem nV {E:aP} (J:Sys E) (s:Int):E 308 [iv s]=some ([ov 1 (aR (bO s)),bv (bU s)],[]):=by
 have h1:=bG J s 1 562949953421311
 unfold bO bU eE
 cases hr:aS s 1 562949953421311
 ·rw[hr]at h1
  refine J.run rfl rfl fun W U=>?_
  conv=>lhs;whnf
  repeat'((first|apply U.t|apply U.f|(apply U.q;exact aC)|apply U.w (h1)|(apply U.b<;>intro h))<;>conv=>lhs;whnf)
  rfl
 ·rw[hr]at h1
  have hr:=bP hr
  obtain⟨n,rfl⟩:∃ n:Nat,s=n:=⟨s.toNat,by omega⟩
  simp only[if_true]
  rw[show((n:Int).toNat)=n from by omega]
  refine J.run rfl rfl fun W U=>?_
  conv=>lhs;whnf
  apply U.w (h1)
  conv=>lhs;whnf
  repeat((first|apply U.t|apply U.f|(apply U.q;exact aC));conv=>lhs;whnf)
  generalize hD:aJT 6 n []=D
  refine U.loop (σ:=Nat × aD) (γ:=Nat) (fun i s=>(s.sl 0 (v1 (.t (.int .i64 i.1)))).bl ⟨50400,1, .own,aR i.2⟩) (fun i k=>k≤6∧1≤i.1∧i.1<2*256 ^ k∧i.2.length+k≤6∧aJT k i.1 i.2=D) (fun k=>k) (fun _=>([ov 1 (aR (D.getD [])),bv D.isSome],[])) (n,[]) 6 ?_ ?_ ?_ ?_
  ·intro K
   conv=>lhs;whnf
   conv=>rhs;whnf
   try rfl
  ·exact⟨by omega,by omega,by
    have:(256:Nat) ^ 6=281474976710656:=by decide
    simp only;omega,by simp,hD⟩
  ·rintro kl ⟨m,acc⟩ k ⟨hk,hm,hlt,hl,hd⟩ ih
   simp only at hm hlt hl hd
   conv=>lhs;whnf
   apply U.b<;>intro g1<;>conv=>lhs;whnf
   ·have g1:1<m:=by
     have:(m:Int)>1:=by simpa using g1
     omega
    cases k with
    |zero=>simp at hlt;omega
    |succ k =>
     simp only[aJT,if_neg (show ¬ m=1 by omega)]at hd
     apply U.b<;>intro g2<;>conv=>lhs;whnf
     ·have g2:m<256:=by
       have:(m:Int)<256:=by simpa using g2
       omega
      rw[if_pos g2]at hd
      rw[← hd]
      rfl
     ·have g2:¬ m<256:=by
       have:¬ (m:Int)<256:=by simpa using g2
       omega
      rw[if_neg g2]at hd
      have hpow:256 ^ (k+1)=256 ^ k*256:=Nat.pow_succ ..
      have hmax:256 ^ (k+1)≤256 ^ 6:=Nat.pow_le_pow_right (by decide) hk
      have h6:(256:Nat) ^ 6=281474976710656:=by decide
      have hb:=(aRB m).resolve_right (by omega)
      refine U.q (by exact⟨by decide,aY _,by simp[aI];omega,by simp[aI];omega⟩) ?_
      conv=>lhs;whnf
      apply U.bt (cF _)
      conv=>lhs;whnf
      repeat((first|apply U.t|apply U.f|(apply U.q;exact aC));conv=>lhs;whnf)
      rw[hb,aUe]
      refine ih (m/256,dN m::acc) k _ ?_ ⟨by omega,by omega,by simp only;omega,by simp only[List.length_cons];omega,hd⟩ (by omega)
      intro K
      conv=>lhs;whnf
      conv=>rhs;whnf
      try rfl
      rw[show aR (dN m::acc)=[.int .u8 (IntKind.u8.wrap m)]::aR acc from by simp[aR,nL,kE]]
      rfl
   ·have g1:¬ 1<m:=by
     have:¬ (m:Int)>1:=by simpa using g1
     omega
    have:m=1:=by omega
    subst this
    have:aJT k 1 acc=some acc:=by cases k<;>simp[aJT]
    rw[this]at hd
    rw[← hd]
    rfl
  ·rfl
def oE (m n:Nat):aD:=(List.range n).map fun i:Nat=>dN ((m/256 ^ (n-1-i):Nat):Int)
theorem aRC (m n:Nat):oE m (n+1)=dN ((m/256 ^ n:Nat):Int)::oE m n:=by
 unfold oE
 rw[List.range_succ_eq_map,List.map_cons,List.map_map]
 simp only[Nat.add_sub_cancel,Nat.sub_zero,List.cons.injEq,true_and]
 apply List.map_congr_left
 intro i hi
 simp only[Function.comp]
 congr 4
 omega
theorem aNV (m n:Nat):(oE m n).length=n:=by simp[oE]
theorem aUf (m:Nat):∀ j,j≤6→(∀ i,i<j→256≤m/256 ^ i)→aJT 6 m []=aJT (6-j) (m/256 ^ j) (oE m j):=by
 intro j
 induction j with
 |zero=>intro _ _;simp[oE]
 |succ j ih =>
  intro hj h
  rw[ih (by omega) fun i hi=>h i (by omega)]
  have h1:=h j (by omega)
  rw[show 6-j=(6-(j+1))+1 from by omega,aJT,if_neg (by omega),if_neg (by omega),aRC,Nat.div_div_eq_div_mul,← Nat.pow_succ]
theorem aVK (k:Nat) (b:aD):aJT k 1 b=some b:=by cases k<;>simp[aJT]
theorem aJi (m j:Nat):m/256 ^ (j+1)=m/256 ^ j/256:=by rw[Nat.div_div_eq_div_mul,← Nat.pow_succ]
theorem aGS {m n:Nat} (hn:n≤6) (h:∀ j,j<n→1<m/256 ^ j) (h1:m/256 ^ n=1):eE m=some (oE m n):=by
 have hge:∀ i,i<n→256≤m/256 ^ i:=by
  intro i hi
  have e:=aJi m i
  have:1≤m/256 ^ (i+1):=by
   rcases Nat.lt_or_ge (i+1) n with h2|h2
   ·have:=h _ h2;omega
   ·have:i+1=n:=by omega
    rw[this,h1];exact Nat.le_refl _
  omega
 have hlt:m<2*256 ^ n:=by
  have:0<256 ^ n:=Nat.pow_pos (by decide)
  have:=Nat.div_add_mod m (256 ^ n)
  have h3:=Nat.mod_lt m (show 0<256 ^ n from Nat.pow_pos (by decide))
  rw[h1]at this
  omega
 have hm:1≤m:=by
  rcases Nat.eq_zero_or_pos m with h0|h0
  ·rw[h0,Nat.zero_div]at h1;cases h1
  ·exact h0
 have hp:256 ^ n≤256 ^ 6:=Nat.pow_le_pow_right (by decide) hn
 have h6:(256:Nat) ^ 6=281474976710656:=by decide
 unfold eE
 rw[if_pos (by simp[aS];omega),show((m:Int).toNat)=m from by omega,aUf m n hn hge,h1,aVK]
theorem aEU {m n:Nat} (hm:1≤m) (hn:n≤6) (h:∀ j,j<n→1<m/256 ^ j) (h1:m/256 ^ n≠1) (h2:n=6∨m/256 ^ n≤1):eE m=none:=by
 unfold eE
 split
 ·rename_i hr
  have hr:=bP hr
  rw[show((m:Int).toNat)=m from by omega]
  by_cases h0:m/256 ^ n=0
  ·cases n with
   |zero=>simp at h0;omega
   |succ n =>
    have e:=aJi m n
    have hl:=h n (by omega)
    have hge:∀ i,i<n→256≤m/256 ^ i:=by
     intro i hi
     have e:=aJi m i
     have:=h (i+1) (by omega)
     omega
    rw[aUf m n (by omega) hge,show 6-n=(6-(n+1))+1 from by omega]
    rw[h0]at e
    generalize m/256 ^ n=c at *
    simp only[aJT]
    rw[if_neg (by omega),if_pos (by omega)]
  ·exfalso
   have hn6:n=6:=by
    rcases h2 with h2|h2
    ·exact h2
    ·generalize m/256 ^ n=t at h0 h1 h2
     omega
   subst hn6
   have h6:(256:Nat) ^ 6=281474976710656:=by decide
   have h3:m/256 ^ 6≤1:=by rw[h6];omega
   generalize m/256 ^ 6=t at h0 h1 h3
   omega
 ·rfl
theorem aK9 {m n:Nat} (hn:n≤6):(m:Int).fdiv (2 ^ (min (IntKind.i64.wrap (8*(n:Int))).toNat IntKind.i64.bits))=((m/256 ^ n:Nat):Int):=by
 rw[show IntKind.i64.wrap (8*(n:Int))=8*(n:Int) from aK (by omega)]
 rw[show min (8*(n:Int)).toNat IntKind.i64.bits=8*n from by simp only[IntKind.bits];omega]
 rw[Int.fdiv_eq_ediv_of_nonneg _ (Int.pow_nonneg (by decide))]
 rw[show((2:Int) ^ (8*n))=((256 ^ n:Nat):Int) from by rw[Int.pow_mul];push_cast;rfl]
 exact(Int.natCast_ediv m (256 ^ n)).symm
theorem aVL {s:Int} (h:s<1) (k:Nat):¬ s.fdiv (2 ^ k)>1:=by
 have hp:(0:Int)<2 ^ k:=Int.pow_pos (by decide)
 rw[Int.fdiv_eq_ediv_of_nonneg _ (Int.le_of_lt hp)]
 have:s/2 ^ k≤0:=by
  rcases Int.lt_or_le s 0 with h1|h1
  ·exact Int.le_of_lt (Int.ediv_neg_of_neg_of_pos h1 hp)
  ·have:s=0:=by omega
   rw[this,Int.zero_ediv];exact Int.le_refl _
 omega
theorem nW {E:aP} (J:Sys E) (s:Int):E 319 [iv s]=some ([ov 1 (aR (bO s)),bv (bU s)],[]):=by
 have neg:s<1→bO s=[]∧bU s=false:=by
  intro hs
  have hb:eE s=none:=by unfold eE;rw[if_neg (by simp[aS];omega)]
  exact⟨by unfold bO;rw[hb];rfl,by unfold bU;rw[hb];rfl⟩
 refine J.run rfl rfl fun W U=>?_
 conv=>lhs;whnf
 refine U.loop (σ:=Nat) (γ:=Nat) (fun i s=>s.sl 4 (v1 (.t (.int .i64 i)))) (fun i k=>i=k∧k≤6∧∀ j,j<k→1<s.toNat/256 ^ j∧1≤s) (fun k=>6-k) (fun _=>([ov 1 (aR (bO s)),bv (bU s)],[])) 0 0 ?_ ?_ ?_ ?_
 ·intro K
  conv=>lhs;whnf
  conv=>rhs;whnf
  try rfl
 ·exact⟨rfl,by omega,fun j h=>by omega⟩
 ·rintro kl n _ ⟨rfl,hn,hj⟩ ih
  conv=>lhs;whnf
  have hw8:IntKind.i64.wrap (8*(n:Int))=8*(n:Int):=aK (by omega)
  apply U.b<;>intro g0<;>conv=>lhs;whnf
  ·have g0:n<6:=by
    have:(n:Int)<6:=by simpa using g0
    omega
   repeat((first|apply U.t|apply U.f|(apply U.q;exact aC));conv=>lhs;whnf)
   rw[hw8]
   apply U.b<;>intro g1<;>conv=>lhs;whnf
   ·have hs:1≤s:=by
     rcases Int.lt_or_le s 1 with hs|hs
     ·exact absurd (of_decide_eq_true g1) (aVL hs _)
     ·exact hs
    have g2:1<s.toNat/256 ^ n:=by
     obtain⟨m,rfl⟩:∃ m:Nat,s=m:=⟨s.toNat,by omega⟩
     rw[← hw8,aK9 hn]at g1
     rw[show((m:Int).toNat)=m from by omega]
     generalize m/256 ^ n=t at g1
     simp at g1;omega
    refine ih (n+1) (n+1) _ ?_ ⟨rfl,by omega,fun j h=>?_⟩ (by omega)
    ·intro K
     conv=>lhs;whnf
     conv=>rhs;whnf
     try rfl
     rw[show IntKind.i64.wrap ((n:Int)+1)=_ from aL (by omega)]
     try rfl
    ·rcases Nat.lt_or_ge j n with h1|h1
     ·exact hj j h1
     ·have:j=n:=by omega
      subst this
      exact⟨g2,hs⟩
   ·have hx:n=6∨¬ 1<s.toNat/256 ^ n∨s<1:=by
     right
     rcases Int.lt_or_le s 1 with hs|hs
     ·exact .inr hs
     ·left
      obtain⟨m,rfl⟩:∃ m:Nat,s=m:=⟨s.toNat,by omega⟩
      rw[← hw8,aK9 hn]at g1
      rw[show((m:Int).toNat)=m from by omega]
      generalize m/256 ^ n=t at g1
      simp at g1;omega
    apply U.b<;>intro gs<;>conv=>lhs;whnf
    ·have gs:s<1:=by simpa using gs
     rw[(neg gs).1,(neg gs).2]
     repeat((first|apply U.t|apply U.f|(apply U.q;exact aC));conv=>lhs;whnf)
     rfl
    ·have gs:¬ s<1:=by simpa using gs
     obtain⟨m,rfl⟩:∃ m:Nat,s=m:=⟨s.toNat,by omega⟩
     rw[show((m:Int).toNat)=m from by omega]at hj hx
     have hx':n=6∨m/256 ^ n≤1:=by
      rcases hx with hx|hx
      ·exact .inl hx
      ·right
       generalize m/256 ^ n=t at hx
       omega
     repeat((first|apply U.t|apply U.f|(apply U.q;exact aC));conv=>lhs;whnf)
     rw[hw8]
     rw[← hw8,aK9 hn]
     apply U.b<;>intro gt<;>conv=>lhs;whnf
     ·have gt:m/256 ^ n≠1:=by
       intro e;rw[e]at gt;simp at gt
      have hb:=aEU (m:=m) (by omega) hn (fun j h=>(hj j h).1) gt hx'
      rw[show bO m=[] from by unfold bO;rw[hb];rfl,show bU m=false from by unfold bU;rw[hb];rfl]
      rfl
     ·have gt:m/256 ^ n=1:=by
       generalize m/256 ^ n=t at gt
       simp at gt;omega
      have hb:=aGS (m:=m) hn (fun j h=>(hj j h).1) gt
      rw[show bO m=oE m n from by unfold bO;rw[hb];rfl,show bU m=true from by unfold bU;rw[hb];rfl]
      have hdl:=aNV m n
      refine U.q (by exact⟨by omega, .inl rfl,by omega,by omega,by omega,by decide,rfl⟩) ?_
      conv=>lhs;whnf
      rw[show((n:Int).toNat)=n from by omega]
      refine U.loop (σ:=Nat) (γ:=Nat) (fun i s=>(s.sl 31 (v1 (.t (.int .i64 i)))).bl ⟨2800,1, .own,((oE m n).take i).map nL++List.replicate ((oE m n).length-i) [.int .u8 0]⟩) (fun i k=>i=k∧k≤n) (fun k=>n-k) (fun _=>([ov 1 (aR (oE m n)),bv true],[])) 0 0 ?_ ?_ ?_ ?_
      ·intro K
       conv=>lhs;whnf
       conv=>rhs;whnf
       try rfl
       simp[hdl]
      ·exact⟨rfl,by omega⟩
      ·rintro kl i _ ⟨rfl,hi⟩ ih
       conv=>lhs;whnf
       apply U.b<;>intro g5<;>conv=>lhs;whnf
       ·have g5:i<n:=by
         have:=g5
         simp[hdl]at this
         omega
        have g5':i<(oE m n).length:=by omega
        rw[show IntKind.i64.wrap (IntKind.i64.wrap ((n:Int)-1)-(i:Int))=((n-1-i:Nat):Int) from by rw[show IntKind.i64.wrap ((n:Int)-1)=(n:Int)-1 from aK (by omega)];exact(aK (by omega)).trans (by omega)]
        have hw9:IntKind.i64.wrap (8*((n-1-i:Nat):Int))=8*((n-1-i:Nat):Int):=aK (by omega)
        rw[hw9]
        repeat((first|apply U.t|apply U.f|(apply U.q;exact aC));conv=>lhs;whnf)
        rw[← hw9,aK9 (show n-1-i≤6 by omega)]
        apply U.w (aEH g5' _)
        conv=>lhs;whnf
        repeat((first|apply U.t|apply U.f|(apply U.q;exact aC));conv=>lhs;whnf)
        apply U.w (aEH g5' _)
        conv=>lhs;whnf
        repeat((first|apply U.t|apply U.f|(apply U.q;exact aC));conv=>lhs;whnf)
        refine ih (i+1) (i+1) _ ?_ ⟨rfl,by omega⟩ (by omega)
        intro K
        conv=>lhs;whnf
        conv=>rhs;whnf
        try rfl
        rw[show IntKind.i64.wrap ((i:Int)+1)=_ from aL (by omega)]
        refine congrArg K (congrArg (St.mk _) (congrArg (fun x=>[Blk.mk 2800 1 .own x]) ?_))
        rw[← aNJ nL g5' [.int .u8 0]]
        refine congrArg (List.set _ _) ?_
        simp[oE,nL,kE,splice]
       ·have g5:¬ i<n:=by
         have:=g5
         simp[hdl]at this
         omega
        have:i=n:=by omega
        subst this
        rw[List.take_of_length_le (show(oE m i).length≤i by omega),hdl,Nat.sub_self]
        simp only[List.replicate_zero,List.append_nil]
        rfl
      ·rfl
  ·have g6:¬ (n:Int)<6:=by simpa using g0
   have hx:n=6∨¬ 1<s.toNat/256 ^ n∨s<1 := .inl (by omega)
   repeat((first|apply U.t|apply U.f|(apply U.q;exact aC));conv=>lhs;whnf)
   apply U.b<;>intro gs<;>conv=>lhs;whnf
   ·have gs:s<1:=by simpa using gs
    rw[(neg gs).1,(neg gs).2]
    repeat((first|apply U.t|apply U.f|(apply U.q;exact aC));conv=>lhs;whnf)
    rfl
   ·have gs:¬ s<1:=by simpa using gs
    obtain⟨m,rfl⟩:∃ m:Nat,s=m:=⟨s.toNat,by omega⟩
    rw[show((m:Int).toNat)=m from by omega]at hj hx
    have hx':n=6∨m/256 ^ n≤1:=by
     rcases hx with hx|hx
     ·exact .inl hx
     ·right
      generalize m/256 ^ n=t at hx
      omega
    repeat((first|apply U.t|apply U.f|(apply U.q;exact aC));conv=>lhs;whnf)
    rw[hw8]
    rw[← hw8,aK9 hn]
    apply U.b<;>intro gt<;>conv=>lhs;whnf
    ·have gt:m/256 ^ n≠1:=by
      intro e;rw[e]at gt;simp at gt
     have hb:=aEU (m:=m) (by omega) hn (fun j h=>(hj j h).1) gt hx'
     rw[show bO m=[] from by unfold bO;rw[hb];rfl,show bU m=false from by unfold bU;rw[hb];rfl]
     rfl
    ·have gt:m/256 ^ n=1:=by
      generalize m/256 ^ n=t at gt
      simp at gt;omega
     have hb:=aGS (m:=m) hn (fun j h=>(hj j h).1) gt
     rw[show bO m=oE m n from by unfold bO;rw[hb];rfl,show bU m=true from by unfold bU;rw[hb];rfl]
     have hdl:=aNV m n
     refine U.q (by exact⟨by omega, .inl rfl,by omega,by omega,by omega,by decide,rfl⟩) ?_
     conv=>lhs;whnf
     rw[show((n:Int).toNat)=n from by omega]
     refine U.loop (σ:=Nat) (γ:=Nat) (fun i s=>(s.sl 31 (v1 (.t (.int .i64 i)))).bl ⟨2800,1, .own,((oE m n).take i).map nL++List.replicate ((oE m n).length-i) [.int .u8 0]⟩) (fun i k=>i=k∧k≤n) (fun k=>n-k) (fun _=>([ov 1 (aR (oE m n)),bv true],[])) 0 0 ?_ ?_ ?_ ?_
     ·intro K
      conv=>lhs;whnf
      conv=>rhs;whnf
      try rfl
      simp[hdl]
     ·exact⟨rfl,by omega⟩
     ·rintro kl i _ ⟨rfl,hi⟩ ih
      conv=>lhs;whnf
      apply U.b<;>intro g5<;>conv=>lhs;whnf
      ·have g5:i<n:=by
        have:=g5
        simp[hdl]at this
        omega
       have g5':i<(oE m n).length:=by omega
       rw[show IntKind.i64.wrap (IntKind.i64.wrap ((n:Int)-1)-(i:Int))=((n-1-i:Nat):Int) from by rw[show IntKind.i64.wrap ((n:Int)-1)=(n:Int)-1 from aK (by omega)];exact(aK (by omega)).trans (by omega)]
       have hw9:IntKind.i64.wrap (8*((n-1-i:Nat):Int))=8*((n-1-i:Nat):Int):=aK (by omega)
       rw[hw9]
       repeat((first|apply U.t|apply U.f|(apply U.q;exact aC));conv=>lhs;whnf)
       rw[← hw9,aK9 (show n-1-i≤6 by omega)]
       apply U.w (aEH g5' _)
       conv=>lhs;whnf
       repeat((first|apply U.t|apply U.f|(apply U.q;exact aC));conv=>lhs;whnf)
       apply U.w (aEH g5' _)
       conv=>lhs;whnf
       repeat((first|apply U.t|apply U.f|(apply U.q;exact aC));conv=>lhs;whnf)
       refine ih (i+1) (i+1) _ ?_ ⟨rfl,by omega⟩ (by omega)
       intro K
       conv=>lhs;whnf
       conv=>rhs;whnf
       try rfl
       rw[show IntKind.i64.wrap ((i:Int)+1)=_ from aL (by omega)]
       refine congrArg K (congrArg (St.mk _) (congrArg (fun x=>[Blk.mk 2800 1 .own x]) ?_))
       rw[← aNJ nL g5' [.int .u8 0]]
       refine congrArg (List.set _ _) ?_
       simp[oE,nL,kE,splice]
      ·have g5:¬ i<n:=by
        have:=g5
        simp[hdl]at this
        omega
       have:i=n:=by omega
       subst this
       rw[List.take_of_length_le (show(oE m i).length≤i by omega),hdl,Nat.sub_self]
       simp only[List.replicate_zero,List.append_nil]
       rfl
     ·rfl
 ·rfl
theorem aJ5 {E:aP} (J:Sys E) (t:Tree) (k:Int) (ht:t.lim 1048576):E 146 [gv (t.cs aG),iv k]=some ([bv (aS k 0 (t.up.length-1))],[]):=by
 have hl:t.up.length≤1048576:=ht
 have hrl:(bB t.up).length=t.up.length:=List.length_map _
 have hw:IntKind.i64.wrap ((t.up.length:Int)-1)=t.up.length-1:=aK (by omega)
 refine J.run rfl rfl fun W U=>?_
 conv=>lhs;whnf
 rw[hrl,hw]
 apply U.w (bR J k 0 (t.up.length-1))
 conv=>lhs;whnf
 repeat((first|apply U.t|apply U.f|(apply U.q;exact aC));conv=>lhs;whnf)
 rfl
theorem aVM:∀ {k s:Nat} {acc b:aD},aJT k s acc=some b→fD b 1=fD acc s:=by
 intro k
 induction k with
 |zero=>intro s acc b h;simp only[aJT]at h;split at h;(rename_i h1;cases h;rw[h1]);cases h
 |succ k ih =>
  intro s acc b h
  simp only[aJT]at h
  split at h
  ·rename_i h1;cases h;rw[h1]
  ·split at h
   ·cases h
   ·rw[ih h,fD]
    congr 1
    have:(dN (s:Int)).toNat=s%256:=by
     unfold dN
     rw[UInt8.toNat_ofNat']
     omega
    omega
theorem aRD {s:Int} (h:bU s=true):((fD (bO s) 1:Nat):Int)=s:=by
 unfold bU at h
 unfold bO
 cases hb:eE s with
 |none=>rw[hb]at h;cases h
 |some b =>
  unfold eE at hb
  split at hb
  ·rename_i hr
   have hr:=bP hr
   have:=aVM hb
   simp only[fD]at this
   simp only[Option.getD_some]
   omega
  ·cases hb
theorem aGT {x:Sum} (h:bU x.s=true):decide (bC (bO x.s)=x)=decide (bE (bO x.s)=x.w):=by
 have hl:=jR x.s
 have hs:=aRD h
 unfold bC
 rw[if_neg (by omega),hs]
 obtain⟨w,s⟩:=x
 simp
def aBE (m:Man) (i:Nat) (x:Sum):Bool:=bU x.s&&(decide (((bO x.s).length:Int)=aZ m.size m.len i)&&decide (bC (bO x.s)=x))
def aAA (m:Man):Nat→List Sum→Bool
 |_,[]=>true
 |i,x::r=>aBE m i x&&aAA m (i+1) r
def cG (m:Man):Bool:=decide (m.gen=0)&&(decide (m.size=0)&&(decide (m.len=0)&&decide (m.sums=[])))
def aX (m:Man):Bool:=if m.gen=0 then cG m else aS m.gen 1 1000000&&(cR m.size m.len&&(decide ((m.sums.length:Int)=bK m.size m.len)&&aAA m 0 m.sums))
theorem dW {E:aP} (J:Sys E) (m:Man) (hm:m.sums.length≤1048576):E 307 [gv (m.cs aG)]=some ([bv (aX m)],[]):=by
 have hrl:(m.sums.map Sum.row).length=m.sums.length:=List.length_map _
 have a1:=bG J m.gen 1 1000000
 have a2:=pB J m.size m.len
 have a3:=jF J m.size m.len
 by_cases h0:m.gen=0
 ·have e:aX m=cG m:=by unfold aX;rw[if_pos h0]
  rw[e]
  refine J.run rfl rfl fun W U=>?_
  conv=>lhs;whnf
  apply U.bt (by simpa using h0)
  conv=>lhs;whnf
  repeat'((first|apply U.t|apply U.f|(apply U.q;exact aC)|(apply U.b<;>intro h))<;>conv=>lhs;whnf)
  all_goals(refine congrArg (fun b=>(some ([bv b],[]):Option cO)) ?_;first|rfl|(simp_all [cG];done)|(simp_all [cG]<;>(intros;omega)))
 ·have e:aX m=(aS m.gen 1 1000000&&(cR m.size m.len&&(decide ((m.sums.length:Int)=bK m.size m.len)&&aAA m 0 m.sums))):=by unfold aX;rw[if_neg h0]
  rw[e]
  cases h1:aS m.gen 1 1000000
  ·rw[h1]at a1
   refine J.run rfl rfl fun W U=>?_
   conv=>lhs;whnf
   apply U.bf (by simpa using h0)
   conv=>lhs;whnf
   repeat'((first|apply U.t|apply U.f|(apply U.q;exact aC)|apply U.w (a1)|(apply U.b<;>intro h))<;>conv=>lhs;whnf)
   rfl
  ·rw[h1]at a1
   cases h2:cR m.size m.len
   ·rw[h2]at a2
    refine J.run rfl rfl fun W U=>?_
    conv=>lhs;whnf
    apply U.bf (by simpa using h0)
    conv=>lhs;whnf
    repeat'((first|apply U.t|apply U.f|(apply U.q;exact aC)|apply U.w (a1)|apply U.w (a2)|(apply U.b<;>intro h))<;>conv=>lhs;whnf)
    rfl
   ·rw[h2]at a2
    by_cases h3:(m.sums.length:Int)=bK m.size m.len
    ·rw[decide_eq_true h3]
     simp only[Bool.true_and]
     refine J.run rfl rfl fun W U=>?_
     conv=>lhs;whnf
     apply U.bf (by simpa using h0)
     conv=>lhs;whnf
     repeat'((first|apply U.t|apply U.f|(apply U.q;exact aC)|apply U.w (a1)|apply U.w (a2)|(apply U.b<;>intro h))<;>conv=>lhs;whnf)
     rw[hrl]
     apply U.w (a3)
     conv=>lhs;whnf
     repeat((first|apply U.t|apply U.f|(apply U.q;exact aC));conv=>lhs;whnf)
     apply U.bf (by simp[h3])
     conv=>lhs;whnf
     skip
     refine U.loop (σ:=Nat) (γ:=Nat) (fun i s=>s.sl 3 (v1 (.t (.int .i64 i)))) (fun i k=>i=k∧k≤m.sums.length) (fun k=>m.sums.length-k) (fun k=>([bv (aAA m k (m.sums.drop k))],[])) 0 0 ?_ ?_ ?_ ?_
     ·intro K
      conv=>lhs;whnf
      conv=>rhs;whnf
      try rfl
     ·exact⟨rfl,by omega⟩
     ·rintro kl n _ ⟨rfl,hn⟩ ih
      conv=>lhs;whnf
      apply U.b<;>intro g1<;>conv=>lhs;whnf
      ·have g1:n<m.sums.length:=by simpa using g1
       have hbl:=jR m.sums[n].s
       rw[List.drop_eq_getElem_cons g1,aAA,aBE]
       repeat((first|apply U.t|apply U.f|(apply U.q;exact aC)|(refine U.w (cC ?_) ?_;omega));conv=>lhs;whnf)
       apply U.w (nV J m.sums[n].s)
       conv=>lhs;whnf
       repeat((first|apply U.t|apply U.f|(apply U.q;exact aC));conv=>lhs;whnf)
       apply U.w (eW J m.size m.len n)
       conv=>lhs;whnf
       repeat((first|apply U.t|apply U.f|(apply U.q;exact aC));conv=>lhs;whnf)
       apply U.b<;>intro g2<;>conv=>lhs;whnf
       ·rw[kY g2]
        repeat((first|apply U.t|apply U.f|(apply U.q;exact aC));conv=>lhs;whnf)
        rfl
       ·have g2:=hJ g2
        rw[g2]
        repeat((first|apply U.t|apply U.f|(apply U.q;exact aC));conv=>lhs;whnf)
        rw[bA]
        apply U.b<;>intro g3<;>conv=>lhs;whnf
        ·rw[decide_eq_false (show ¬ ((bO m.sums[n].s).length:Int)=aZ m.size m.len n from by simpa using g3)]
         repeat((first|apply U.t|apply U.f|(apply U.q;exact aC));conv=>lhs;whnf)
         rfl
        ·rw[decide_eq_true (show((bO m.sums[n].s).length:Int)=aZ m.size m.len n from by simpa using g3)]
         repeat((first|apply U.t|apply U.f|(apply U.q;exact aC)|(refine U.w (cC ?_) ?_;omega));conv=>lhs;whnf)
         apply U.w (eP J (bO m.sums[n].s) (by omega))
         conv=>lhs;whnf
         repeat((first|apply U.t|apply U.f|(apply U.q;exact aC));conv=>lhs;whnf)
         apply U.b<;>intro g4<;>conv=>lhs;whnf
         ·have g4:¬ bC (bO m.sums[n].s)=m.sums[n]:=by
           intro e;rw[e]at g4;simp at g4
          rw[decide_eq_false g4]
          rfl
         ·have g4:bC (bO m.sums[n].s)=m.sums[n]:=by
           revert g4
           generalize bC (bO m.sums[n].s)=x
           generalize m.sums[n]=y
           cases x;cases y
           simp
          rw[decide_eq_true g4]
          simp only[Bool.true_and]
          refine ih (n+1) (n+1) _ ?_ ⟨rfl,by omega⟩ (by omega)
          intro K
          conv=>lhs;whnf
          conv=>rhs;whnf
          try rfl
          rw[show IntKind.i64.wrap ((n:Int)+1)=_ from aL (by omega)]
          try rfl
      ·have:n=m.sums.length:=by simp at g1;omega
       rw[this,List.drop_length];rfl
     ·rfl
    ·rw[decide_eq_false h3]
     refine J.run rfl rfl fun W U=>?_
     conv=>lhs;whnf
     apply U.bf (by simpa using h0)
     conv=>lhs;whnf
     repeat'((first|apply U.t|apply U.f|(apply U.q;exact aC)|apply U.w (a1)|apply U.w (a2)|(apply U.b<;>intro h))<;>conv=>lhs;whnf)
     rw[hrl]
     apply U.w (a3)
     conv=>lhs;whnf
     repeat((first|apply U.t|apply U.f|(apply U.q;exact aC));conv=>lhs;whnf)
     apply U.bt (by simp[h3])
     conv=>lhs;whnf
     rfl
theorem qQ {E:aP} (J:Sys E) (m:Man):E 318 [gv (m.cs aG)]=some ([bv (cG m)],[]):=by
 refine J.run rfl rfl fun W U=>?_
 conv=>lhs;whnf
 repeat'((first|apply U.t|apply U.f|(apply U.q;exact aC)|(apply U.b<;>intro h))<;>conv=>lhs;whnf)
 all_goals(refine congrArg (fun b=>(some ([bv b],[]):Option cO)) ?_;first|rfl|(simp_all [cG];done)|(simp_all [cG]<;>(intros;omega)))
end Tev
