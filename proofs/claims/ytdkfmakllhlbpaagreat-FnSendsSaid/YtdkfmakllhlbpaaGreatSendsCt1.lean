/- What the functions compute, one contract each. -/
import Derived.Test.YtdkfmakllhlbpaaGreatSendsIr1
set_option linter.unusedSimpArgs false
set_option linter.unusedVariables false
namespace Tev
open Go
set_option maxRecDepth 50000
set_option maxHeartbeats 20000000
def rg (v:Int):Prop := -1≤v∧v≤1048576
def vW {α:Type} (P:Nat→α→Prop) (B:Nat) (l:List α):Prop:=l.length≤B∧∀ x∈l,P B x
theorem aIS {α:Type} {P:Nat→α→Prop} {B C:Nat} (hp:∀ x,P B x→P C x) (h:B≤C) {l:List α} (hl:vW P B l):vW P C l:=⟨by have:=hl.1;omega,fun x hx=>hp x (hl.2 x hx)⟩
theorem aLy {α:Type} (f:α→List T) {l:List α} {n:Nat} (h:n<l.length) (z:List T):((l.take n).map f++List.replicate (l.length-n) z).set n (f l[n])=(l.take (n+1)).map f++List.replicate (l.length-(n+1)) z:=by
 have h1:((l.take n).map f).length=n:=by rw[List.length_map,List.length_take];omega
 rw[List.set_append,if_neg (by omega),h1,Nat.sub_self,show l.length-n=(l.length-(n+1))+1 from by omega,List.replicate_succ,List.set_cons_zero,show l.take (n+1)=l.take n++[l[n]] from by rw[List.take_add_one,List.getElem?_eq_getElem h];rfl,List.map_append]
 simp
theorem aDk {α:Type} {f:α→List T} {l:List α} {n:Nat} (h:n<l.length) (z:List T):((l.take n).map f++List.replicate (l.length-n) z)[(n:Int).toNat]?=some z:=by
 have h1:((l.take n).map f).length=n:=by rw[List.length_map,List.length_take];omega
 rw[Int.toNat_natCast,List.getElem?_append_right (by omega),h1,Nat.sub_self,show l.length-n=(l.length-(n+1))+1 from by omega]
 rfl
def dK (k:Int):UInt8:=UInt8.ofNat (k%256).toNat
theorem jF (k:Int):((dK k).toNat:Int)=IntKind.u8.wrap k:=by
 unfold dK
 rw[UInt8.toNat_ofNat']
 simp only[IntKind.wrap,IntKind.bits,IntKind.signed]
 have h1:0≤k%256:=Int.emod_nonneg _ (by omega)
 have h2:k%256<256:=Int.emod_lt_of_pos _ (by omega)
 simp
 omega
def Sent.cs (x:Sent):List CA:=[ci x.frm,ci x.to,ci x.i]
def Man.lim (B:Nat) (x:Man):Prop:=x.sums.length≤B
theorem Man.lim_mono {B C:Nat} (h:B≤C) {x:Man} (hx:x.lim B):x.lim C:=by
 exact Nat.le_trans (id hx) h
def Bld.lim (B:Nat) (x:Bld):Prop:=x.buf.length≤B
theorem Bld.lim_mono {B C:Nat} (h:B≤C) {x:Bld} (hx:x.lim B):x.lim C:=by
 exact Nat.le_trans (id hx) h
def Put.lim (B:Nat) (x:Put):Prop:=x.b.length≤B
def Pkt.lim (B:Nat) (x:Pkt):Prop:=x.b.length≤B
theorem Pkt.lim_mono {B C:Nat} (h:B≤C) {x:Pkt} (hx:x.lim B):x.lim C:=by
 exact Nat.le_trans (id hx) h
def Image.lim (B:Nat) (x:Image):Prop:=x.b.length≤B
def Tree.lim (B:Nat) (x:Tree):Prop:=x.up.length≤B
def Disk.lim (B:Nat) (x:Disk):Prop:=x.a.length≤B∧x.b.length≤B∧vW (fun B=>Put.lim B) B x.p
def Msg.lim (B:Nat) (x:Msg):Prop:=x.man.lim B∧x.b.length≤B
def Node.lim (B:Nat) (x:Node):Prop:=x.man.lim B∧x.bld.lim B∧x.kids.length≤B
theorem Node.lim_mono {B C:Nat} (h:B≤C) {x:Node} (hx:x.lim B):x.lim C:=by
 obtain⟨h0,h1,h2⟩:=hx
 exact⟨Man.lim_mono h h0,Bld.lim_mono h h1,Nat.le_trans h2 h⟩
def Actn.lim (B:Nat) (x:Actn):Prop:=x.n.lim B∧vW (fun B=>Pkt.lim B) B x.out
theorem Actn.lim_mono {B C:Nat} (h:B≤C) {x:Actn} (hx:x.lim B):x.lim C:=by
 obtain⟨h0,h1⟩:=hx
 exact⟨Node.lim_mono h h0,aIS (fun x hx=>Pkt.lim_mono h hx) h h1⟩
def Beat.lim (B:Nat) (x:Beat):Prop:=x.n.lim B∧x.d.lim B∧vW (fun B=>Pkt.lim B) B x.out
def World.lim (B:Nat) (x:World):Prop:=x.t.lim B∧x.new.length≤B∧vW (fun B=>Image.lim B) B x.old∧vW (fun B=>Node.lim B) B x.n∧vW (fun B=>Disk.lim B) B x.d∧vW (fun B=>Pkt.lim B) B x.net∧x.log.length≤B
def jU {α:Type} (p:α→Bool):Nat→List α→Int
 |_,[] => -1
 |n,x::r=>if p x then n else jU p (n+1) r
theorem aLz {α:Type} {p:α→Bool} {l:List α}:∀ {n:Nat},jU p n l = -1∨∃ i:Nat,i<l.length∧jU p n l=((n+i:Nat):Int):=by
 induction l with
 |nil=>intro n;exact .inl rfl
 |cons x r ih =>
  intro n
  simp only[jU]
  cases p x
  ·simp only[Bool.false_eq_true,if_false]
   rcases ih (n:=n+1) with h|⟨i,h1,h2⟩
   ·exact .inl h
   ·exact .inr ⟨i+1,by simpa using h1,by rw[h2];congr 1;omega⟩
  ·exact .inr ⟨0,by simp,by simp⟩
def aW (x lo hi:Int):Bool:=decide (lo≤x)&&decide (x≤hi)
def bG (s:Int):Bool:=aW s 0 1099511627775
theorem bR {E:aR} (J:Sys E) (x lo hi:Int):E 1 [iv x,iv lo,iv hi]=some ([bv (aW x lo hi)],[]):=by
 refine J.run rfl rfl fun W U=>?_
 conv=>lhs;whnf
 unfold aW
 apply U.b<;>intro h1<;>conv=>lhs;whnf
 ·rw[h1]
  repeat((first|apply U.t|apply U.f|(apply U.q;exact aE));conv=>lhs;whnf)
  simp_all;rfl
 ·rw[h1]
  repeat((first|apply U.t|apply U.f|(apply U.q;exact aE));conv=>lhs;whnf)
  simp_all;rfl
theorem cP {E:aR} (J:Sys E) (x lo hi:Int):E 2 [iv x,iv lo,iv hi]=some ([bv (aW x lo hi)],[]):=by
 refine J.run rfl rfl fun W U=>?_
 conv=>lhs;whnf
 unfold aW
 apply U.b<;>intro h1<;>conv=>lhs;whnf
 ·rw[h1]
  repeat((first|apply U.t|apply U.f|(apply U.q;exact aE));conv=>lhs;whnf)
  simp_all;rfl
 ·rw[h1]
  repeat((first|apply U.t|apply U.f|(apply U.q;exact aE));conv=>lhs;whnf)
  simp_all;rfl
theorem cH {E:aR} (J:Sys E) (s:Int):E 26 [iv s]=some ([bv (bG s)],[]):=by
 refine J.run rfl rfl fun W U=>?_
 conv=>lhs;whnf
 apply U.w (bR J s 0 1099511627775)
 conv=>lhs;whnf
 try(apply U.q;exact aE;conv=>lhs;whnf)
 rfl
theorem dD {E:aR} (J:Sys E) (s:Int):E 32 [iv s]=some ([bv (bG s)],[]):=by
 refine J.run rfl rfl fun W U=>?_
 conv=>lhs;whnf
 apply U.w (cP J s 0 1099511627775)
 conv=>lhs;whnf
 try(apply U.q;exact aE;conv=>lhs;whnf)
 rfl
def eQ (l:List Kid) (id:Int):Int:=jU (fun x:Kid=>decide (x.id=id)) 0 l
theorem qV {E:aR} (J:Sys E) (l:List Kid) (id:Int) (h0:l.length≤1099511627776):E 25 [sv (l.map Kid.row),iv id]=some ([iv (eQ l id)],[]):=by
 refine J.run rfl rfl fun W U=>?_
 conv=>lhs;whnf
 refine U.loop (σ:=Nat) (γ:=Nat) (fun i s=>s.sl 5 (v1 (.t (.int .i64 i)))) (fun i n=>i=n∧n≤l.length) (fun n=>l.length-n) (fun n=>([iv (jU (fun x:Kid=>decide (x.id=id)) n (l.drop n))],[])) 0 0 ?_ ?_ ?_ ?_
 ·intro K
  conv=>lhs;whnf
  conv=>rhs;whnf
  try rfl
 ·simp
 ·rintro kl n _ ⟨rfl,hn⟩ ih
  conv=>lhs;whnf
  apply U.b<;>intro h2<;>conv=>lhs;whnf
  ·have h2:n<l.length:=by simpa using h2
   rw[List.drop_eq_getElem_cons h2,jU]
   repeat((first|apply U.t|apply U.f|(apply U.q;exact aE)|(refine U.w (cG ?_) ?_;omega));conv=>lhs;whnf)
   apply U.b<;>intro h3<;>conv=>lhs;whnf
   ·simp only[h3,if_true];rfl
   ·simp only[h3,if_false,Bool.false_eq_true]
    refine ih (n+1) (n+1) _ ?_ ⟨rfl,by omega⟩ (by omega)
    intro K
    conv=>lhs;whnf
    conv=>rhs;whnf
    try rfl
    rw[show IntKind.i64.wrap ((n:Int)+1)=_ from aK (by omega)]
  ·have:n=l.length:=by simp at h2;omega
   subst this
   rw[List.drop_length];rfl
 ·rfl
theorem aPj {E:aR} (J:Sys E) (x:Kid) (id:Int):E 102 [gv x.cs, .pt false [ci id]]=some ([bv (decide (x.id=id))],[]):=by
 refine J.run rfl rfl fun W U=>?_
 conv=>lhs;whnf
 rfl
theorem aDl {E:aR} (J:Sys E) (l:List Kid) (h0:l.length≤1099511627776) (id:Int):E 29 [sv (l.map Kid.row), .fn 102 [[ci id]]]=some ([iv (jU (fun x:Kid=>decide (x.id=id)) 0 l)],[]):=by
 have hrl:(l.map Kid.row).length=l.length:=by simp[aU,bD]
 refine J.run rfl rfl fun W U=>?_
 conv=>lhs;whnf
 refine U.loop (σ:=Nat) (γ:=Nat) (fun i s=>s.sl 8 (v1 (.t (.int .i64 i)))) (fun i n=>i=n∧n≤l.length) (fun n=>l.length-n) (fun n=>([iv (jU (fun x:Kid=>decide (x.id=id)) n (l.drop n))],[])) 0 0 ?_ ?_ ?_ ?_
 ·intro K
  conv=>lhs;whnf
  conv=>rhs;whnf
  try rfl
 ·simp
 ·rintro kl n _ ⟨rfl,hn⟩ ih
  conv=>lhs;whnf
  apply U.b<;>intro h2<;>conv=>lhs;whnf
  ·have h2:n<l.length:=by simpa[hrl] using h2
   rw[List.drop_eq_getElem_cons h2]
   repeat((first|apply U.t|apply U.f|(apply U.q;exact aE)|(refine U.w (cG ?_) ?_;omega));conv=>lhs;whnf)
   apply U.w (aPj J l[n] id)
   conv=>lhs;whnf
   try(apply U.q;exact aE;conv=>lhs;whnf)
   simp only[jU]
   apply U.b<;>intro h3<;>conv=>lhs;whnf
   ·simp only[h3,if_true];rfl
   ·simp only[h3,if_false,Bool.false_eq_true]
    refine ih (n+1) (n+1) _ ?_ ⟨rfl,by omega⟩ (by omega)
    intro K
    conv=>lhs;whnf
    conv=>rhs;whnf
    try rfl
    rw[show IntKind.i64.wrap ((n:Int)+1)=_ from aK (by omega)]
    try rfl
  ·have:n=l.length:=by simp[hrl]at h2;omega
   subst this
   rw[List.drop_length];rfl
 ·rfl
theorem qW {E:aR} (J:Sys E) (l:List Kid) (id:Int) (h0:l.length≤1099511627776):E 31 [sv (l.map Kid.row),iv id]=some ([iv (eQ l id)],[]):=by
 refine J.run rfl rfl fun W U=>?_
 conv=>lhs;whnf
 apply U.w (aDl J l h0 id)
 conv=>lhs;whnf
 try(apply U.q;exact aE;conv=>lhs;whnf)
 rfl
theorem vX {E:aR} (J:Sys E) (l:List Kid) (h0:l.length≤68719476736):E 30 [sv (l.map Kid.row)]=some ([ov 5 (l.map Kid.row)],[]):=by
 have hfl:gK (l.map Kid.row)=true:=aB3 (fun _=>rfl) l
 have hrl:(l.map Kid.row).length=l.length:=by simp[aU,bD]
 have hro:∀ e∈l.map Kid.row,e.length=5:=aAN fun _=>rfl
 refine J.run2 rfl rfl (fun W U=>?_) (fun he W U=>?_)
 ·conv=>lhs;whnf
  repeat((first|apply U.t|apply U.f|(apply U.q;exact aE));conv=>lhs;whnf)
  refine U.q (by exact⟨by decide,hro,by simp only[List.length_nil,hrl];omega,by simp only[List.length_nil,hrl];omega⟩) ?_
  conv=>lhs;whnf
  apply U.bt (hfl)
  conv=>lhs;whnf
  rfl
 ·cases l with
  |cons x r=>exact absurd (show false=true from he) (by decide)
  |nil =>
   conv=>lhs;whnf
   repeat((first|apply U.t|apply U.f|(apply U.q;exact aE));conv=>lhs;whnf)
   rfl
def Node.limk (n:Node):Prop:=n.man.sums.length≤1048576∧n.bld.buf.length≤1048576∧n.kids.length≤4194304
theorem Node.lim.k {n:Node} (h:n.lim 1048576):n.limk:=⟨h.1,h.2.1,Nat.le_trans h.2.2 (by decide)⟩
theorem Node.limk.l4 {n:Node} (h:n.limk):n.lim 4194304:=⟨Nat.le_trans h.1 (by decide),Nat.le_trans h.2.1 (by decide),h.2.2⟩
theorem Node.limk.l8 {n:Node} (h:n.limk):n.lim 8388608:=Node.lim_mono (by decide) h.l4
abbrev aN6 (n:Node):Int:=n.bld.hav
def aM4 (boss:Int):Node:=⟨true,boss,0,⟨0,0,0,[]⟩,⟨0,[]⟩,0,[],0⟩
theorem aEw {E:aR} (J:Sys E) (boss:Int):E 81 [iv boss]=some ([gv ((aM4 boss).cs dH)],[]):=by
 refine J.run rfl rfl fun W U=>?_
 conv=>lhs;whnf
 rfl
def aFE (a b:Int):Int:=IntKind.i64.wrap (BitVec.ofInt IntKind.i64.bits a ||| BitVec.ofInt IntKind.i64.bits b).toNat
theorem mR {l:List Kid} {id:Int} (h:¬ eQ l id<0):∃ n:Nat,∃ _:n<l.length,eQ l id=n:=by
 rcases aLz (p:=fun x:Kid=>decide (x.id=id)) (l:=l) (n:=0) with h1|⟨i,h1,h2⟩
 ·rw[show eQ l id=_ from h1]at h;exact absurd (by decide) h
 ·exact⟨i,h1,by rw[show eQ l id=_ from h2];simp⟩
def bH (l:List Kid) (id s:Int):List Kid :=
 match l[(eQ l id).toNat]? with
 |none=>l
 |some x=>if eQ l id<0∨bG s=false∨bG x.sent=false then l else l.set (eQ l id).toNat { x with sent:=aFE x.sent s }
theorem dS (l:List Kid) (id s:Int):(bH l id s).length=l.length:=by
 unfold bH
 split
 ·rfl
 ·split<;>simp
theorem oF {l:List Kid} {id s:Int} (h:eQ l id<0):bH l id s=l:=by
 unfold bH;split
 ·rfl
 ·rw[if_pos (.inl h)]
theorem qX {l:List Kid} {id s:Int} {n:Nat} (hn:n<l.length) (h:eQ l id=n):bH l id s=if bG s=false∨bG l[n].sent=false then l else l.set n { l[n] with sent:=aFE l[n].sent s }:=by
 unfold bH
 rw[h,Int.toNat_natCast,List.getElem?_eq_getElem hn]
 simp only[show ¬ ((n:Int)<0) from by omega,false_or]
theorem lY (l:List Kid):gK (l.map Kid.row)=true:=aB3 (fun _=>rfl) l
theorem kids_rows (l:List Kid):∀ e∈l.map Kid.row,e.length=5:=aAN fun _=>rfl
theorem iM {E:aR} (J:Sys E) (l:List Kid) (id s:Int) (h0:l.length≤4194304):E 36 [sv (l.map Kid.row),iv id,iv s]=some ([ov 5 ((bH l id s).map Kid.row)],[]):=by
 refine J.run rfl rfl fun W U=>?_
 conv=>lhs;whnf
 refine U.q (by exact⟨by decide,kids_rows l,by simp;omega,by simp;omega⟩) ?_
 conv=>lhs;whnf
 apply U.bt (lY l)
 conv=>lhs;whnf
 apply U.w (qV J l id (by omega))
 conv=>lhs;whnf
 try(apply U.q;exact aE;conv=>lhs;whnf)
 apply U.b<;>intro h1<;>conv=>lhs;whnf
 ·repeat((first|apply U.t|apply U.f|(apply U.q;exact aE));conv=>lhs;whnf)
  have h1:eQ l id<0:=by simpa using h1
  rw[oF h1];rfl
 ·obtain⟨n,hn,hk⟩:=mR (by simpa using h1)
  rw[qX hn hk,hk]
  repeat((first|apply U.t|apply U.f|(apply U.q;exact aE));conv=>lhs;whnf)
  apply U.w (cH J s)
  conv=>lhs;whnf
  repeat((first|apply U.t|apply U.f|(apply U.q;exact aE));conv=>lhs;whnf)
  apply U.b<;>intro h2<;>conv=>lhs;whnf
  ·repeat((first|apply U.t|apply U.f|(apply U.q;exact aE));conv=>lhs;whnf)
   rw[if_pos (.inl (by simpa using h2))];rfl
  ·repeat((first|apply U.t|apply U.f|(apply U.q;exact aE)|(refine U.w (cG ?_) ?_;omega));conv=>lhs;whnf)
   apply U.w (cH J l[n].sent)
   conv=>lhs;whnf
   repeat((first|apply U.t|apply U.f|(apply U.q;exact aE));conv=>lhs;whnf)
   apply U.b<;>intro h3<;>conv=>lhs;whnf
   ·repeat((first|apply U.t|apply U.f|(apply U.q;exact aE));conv=>lhs;whnf)
    rw[if_pos (.inr (by simpa using h3))];rfl
   ·rw[if_neg (by simp at h2 h3;simp[h2,h3]),List.map_set]
    repeat((first|apply U.t|apply U.f|(apply U.q;exact aE)|(refine U.w (cG ?_) ?_;omega));conv=>lhs;whnf)
    rfl
theorem sC {E:aR} (J:Sys E) (l:List Kid) (id s:Int) (h0:l.length≤4194304):E 37 [sv (l.map Kid.row),iv id,iv s]=some ([ov 5 ((bH l id s).map Kid.row)],[]):=by
 refine J.run rfl rfl fun W U=>?_
 conv=>lhs;whnf
 apply U.w (vX J l (by omega))
 conv=>lhs;whnf
 repeat((first|apply U.t|apply U.f|(apply U.q;exact aE));conv=>lhs;whnf)
 apply U.w (qW J l id (by omega))
 conv=>lhs;whnf
 repeat((first|apply U.t|apply U.f|(apply U.q;exact aE));conv=>lhs;whnf)
 apply U.b<;>intro h1<;>conv=>lhs;whnf
 ·obtain⟨n,hn,hk⟩:=mR (l:=l) (id:=id) (by simpa using h1)
  rw[qX hn hk,hk]
  repeat((first|apply U.t|apply U.f|(apply U.q;exact aE));conv=>lhs;whnf)
  apply U.w (dD J s)
  conv=>lhs;whnf
  repeat((first|apply U.t|apply U.f|(apply U.q;exact aE));conv=>lhs;whnf)
  apply U.b<;>intro h2<;>conv=>lhs;whnf
  ·repeat((first|apply U.t|apply U.f|(apply U.q;exact aE)|(refine U.w (cG ?_) ?_;omega));conv=>lhs;whnf)
   apply U.w (dD J l[n].sent)
   conv=>lhs;whnf
   repeat((first|apply U.t|apply U.f|(apply U.q;exact aE));conv=>lhs;whnf)
   apply U.b<;>intro h3<;>conv=>lhs;whnf
   ·rw[if_neg (by rintro(h|h)<;>simp_all),List.map_set]
    repeat((first|apply U.t|apply U.f|(apply U.q;exact aE)|(refine U.w (cG ?_) ?_;omega));conv=>lhs;whnf)
    rfl
   ·repeat((first|apply U.t|apply U.f|(apply U.q;exact aE));conv=>lhs;whnf)
    rw[if_pos (.inr (by simpa using h3))];rfl
  ·repeat((first|apply U.t|apply U.f|(apply U.q;exact aE));conv=>lhs;whnf)
   rw[if_pos (.inl (by simpa using h2))];rfl
 ·repeat((first|apply U.t|apply U.f|(apply U.q;exact aE));conv=>lhs;whnf)
  have h1:eQ l id<0:=by simpa using h1
  rw[oF h1];rfl
theorem bS {x lo hi:Int} (h:aW x lo hi=true):lo≤x∧x≤hi:=by simpa[aW] using h
theorem iV {b:Bool} (h:(!b)=false):b=true:=by simpa using h
theorem mS {b:Bool} (h:(!b)=true):b=false:=by simpa using h
def mT (n:Int):Int:=if aW n 0 40=true then IntKind.i64.wrap (IntKind.i64.wrap (1*2 ^ (min n.toNat IntKind.i64.bits))-1) else 0
theorem aG5 {E:aR} (J:Sys E) (n:Int):E 89 [iv n]=some ([iv (mT n)],[]):=by
 refine J.run rfl rfl fun W U=>?_
 conv=>lhs;whnf
 apply U.w (bR J n 0 40)
 conv=>lhs;whnf
 try(apply U.q;exact aE;conv=>lhs;whnf)
 unfold mT
 apply U.b<;>intro h1<;>conv=>lhs;whnf
 ·rw[mS h1]
  rfl
 ·rw[iV h1]
  have:=bS (iV h1)
  repeat((first|apply U.t|apply U.f|(apply U.q;exact aE));conv=>lhs;whnf)
  rfl
theorem aG6 {E:aR} (J:Sys E) (n:Int):E 93 [iv n]=some ([iv (mT n)],[]):=by
 refine J.run rfl rfl fun W U=>?_
 conv=>lhs;whnf
 apply U.w (cP J n 0 40)
 conv=>lhs;whnf
 try(apply U.q;exact aE;conv=>lhs;whnf)
 unfold mT
 apply U.b<;>intro h1<;>conv=>lhs;whnf
 ·rw[mS h1]
  rfl
 ·rw[iV h1]
  have:=bS (iV h1)
  repeat((first|apply U.t|apply U.f|(apply U.q;exact aE));conv=>lhs;whnf)
  rfl
def dC (m:Man):Int:=mT m.sums.length
theorem aFF {E:aR} (J:Sys E) (m:Man):E 90 [gv (m.cs aO)]=some ([iv (dC m)],[]):=by
 refine J.run rfl rfl fun W U=>?_
 conv=>lhs;whnf
 rw[show(m.sums.map Sum.row).length=m.sums.length from List.length_map _]
 apply U.w (aG5 J m.sums.length)
 conv=>lhs;whnf
 try(apply U.q;exact aE;conv=>lhs;whnf)
 rfl
theorem aFG {E:aR} (J:Sys E) (m:Man):E 94 [gv (m.cs aO)]=some ([iv (dC m)],[]):=by
 refine J.run rfl rfl fun W U=>?_
 conv=>lhs;whnf
 rw[show(m.sums.map Sum.row).length=m.sums.length from List.length_map _]
 apply U.w (aG6 J m.sums.length)
 conv=>lhs;whnf
 try(apply U.q;exact aE;conv=>lhs;whnf)
 rfl
def mU (a b:Int):Int:=IntKind.i64.wrap (BitVec.ofInt IntKind.i64.bits a &&& ~~~BitVec.ofInt IntKind.i64.bits b).toNat
def aDm (a b:Int):Int:=if bG a=true∧bG b=true then mU a b else 0
theorem aG7 {E:aR} (J:Sys E) (a b:Int):E 91 [iv a,iv b]=some ([iv (aDm a b)],[]):=by
 refine J.run rfl rfl fun W U=>?_
 conv=>lhs;whnf
 apply U.w (cH J a)
 conv=>lhs;whnf
 try(apply U.q;exact aE;conv=>lhs;whnf)
 unfold aDm
 apply U.b<;>intro h1<;>conv=>lhs;whnf
 ·rw[if_neg (by rintro⟨h,_⟩;rw[h]at h1;cases h1)]
  repeat((first|apply U.t|apply U.f|(apply U.q;exact aE));conv=>lhs;whnf)
  rfl
 ·rw[iV h1]
  repeat((first|apply U.t|apply U.f|(apply U.q;exact aE));conv=>lhs;whnf)
  apply U.w (cH J b)
  conv=>lhs;whnf
  repeat((first|apply U.t|apply U.f|(apply U.q;exact aE));conv=>lhs;whnf)
  apply U.b<;>intro h2<;>conv=>lhs;whnf
  ·rw[mS h2]
   rfl
  ·rw[iV h2]
   rfl
theorem vY {E:aR} (J:Sys E) (i:Int):E 128 [iv i]=some ([bv (aW i 0 39)],[]):=by
 refine J.run rfl rfl fun W U=>?_
 conv=>lhs;whnf
 apply U.w (cP J i 0 39)
 conv=>lhs;whnf
 try(apply U.q;exact aE;conv=>lhs;whnf)
 rfl
theorem vZ {E:aR} (J:Sys E) (i:Int):E 1 [iv i,iv 0,iv 39]=some ([bv (aW i 0 39)],[]):=bR J i 0 39
def aEx (n:Int):Int:=IntKind.i64.wrap (1*2 ^ (min n.toNat IntKind.i64.bits))
def lZ (s i:Int):Int:=if bG s=true∧aW i 0 39=true then aFE s (aEx i) else s
theorem sD {E:aR} (J:Sys E) (s i:Int):E 123 [iv s,iv i]=some ([iv (lZ s i)],[]):=by
 refine J.run rfl rfl fun W U=>?_
 conv=>lhs;whnf
 apply U.w (cH J s)
 conv=>lhs;whnf
 try(apply U.q;exact aE;conv=>lhs;whnf)
 unfold lZ
 apply U.b<;>intro h1<;>conv=>lhs;whnf
 ·rw[if_neg (by rintro⟨h,_⟩;rw[h]at h1;cases h1)]
  repeat((first|apply U.t|apply U.f|(apply U.q;exact aE));conv=>lhs;whnf)
  rfl
 ·rw[iV h1]
  repeat((first|apply U.t|apply U.f|(apply U.q;exact aE));conv=>lhs;whnf)
  apply U.w (vZ J i)
  conv=>lhs;whnf
  repeat((first|apply U.t|apply U.f|(apply U.q;exact aE));conv=>lhs;whnf)
  apply U.b<;>intro h2<;>conv=>lhs;whnf
  ·rw[mS h2]
   rfl
  ·rw[iV h2]
   have:=bS (iV h2)
   repeat((first|apply U.t|apply U.f|(apply U.q;exact aE));conv=>lhs;whnf)
   rfl
def eL (s i:Int):Bool:=bG s&&(aW i 0 39&&decide (IntKind.i64.wrap (BitVec.ofInt IntKind.i64.bits (s.fdiv (2 ^ (min i.toNat IntKind.i64.bits))) &&& BitVec.ofInt IntKind.i64.bits 1).toNat=1))
theorem eG {E:aR} (J:Sys E) (s i:Int):E 132 [iv s,iv i]=some ([bv (eL s i)],[]):=by
 refine J.run rfl rfl fun W U=>?_
 conv=>lhs;whnf
 apply U.w (cH J s)
 conv=>lhs;whnf
 try(apply U.q;exact aE;conv=>lhs;whnf)
 unfold eL
 apply U.b<;>intro h1<;>conv=>lhs;whnf
 ·rw[h1]
  repeat((first|apply U.t|apply U.f|(apply U.q;exact aE));conv=>lhs;whnf)
  apply U.w (vZ J i)
  conv=>lhs;whnf
  repeat((first|apply U.t|apply U.f|(apply U.q;exact aE));conv=>lhs;whnf)
  apply U.b<;>intro h2<;>conv=>lhs;whnf
  ·rw[h2]
   have:=bS h2
   repeat((first|apply U.t|apply U.f|(apply U.q;exact aE));conv=>lhs;whnf)
   rfl
  ·rw[h2]
   repeat((first|apply U.t|apply U.f|(apply U.q;exact aE));conv=>lhs;whnf)
   rfl
 ·rw[h1]
  repeat((first|apply U.t|apply U.f|(apply U.q;exact aE));conv=>lhs;whnf)
  rfl
theorem fD {E:aR} (J:Sys E) (s i:Int):E 135 [iv s,iv i]=some ([bv (eL s i)],[]):=by
 refine J.run rfl rfl fun W U=>?_
 conv=>lhs;whnf
 apply U.w (dD J s)
 conv=>lhs;whnf
 try(apply U.q;exact aE;conv=>lhs;whnf)
 unfold eL
 apply U.b<;>intro h1<;>conv=>lhs;whnf
 ·rw[h1]
  repeat((first|apply U.t|apply U.f|(apply U.q;exact aE));conv=>lhs;whnf)
  apply U.w (vY J i)
  conv=>lhs;whnf
  repeat((first|apply U.t|apply U.f|(apply U.q;exact aE));conv=>lhs;whnf)
  apply U.b<;>intro h2<;>conv=>lhs;whnf
  ·rw[h2]
   have:=bS h2
   repeat((first|apply U.t|apply U.f|(apply U.q;exact aE));conv=>lhs;whnf)
   rfl
  ·rw[h2]
   repeat((first|apply U.t|apply U.f|(apply U.q;exact aE));conv=>lhs;whnf)
   rfl
 ·rw[h1]
  repeat((first|apply U.t|apply U.f|(apply U.q;exact aE));conv=>lhs;whnf)
  rfl
theorem aJ0 (a:aD):(⟨a.toArray⟩:ByteArray).toList=a:=by rw[ByteArray.toList_eq]
theorem aHY {E:aR} (J:Sys E) (a b:aD):E 14 [sv (aU a),sv (aU b)]=some ([bv (decide (a=b))],[]):=by
 refine J.run rfl rfl fun W U=>?_
 conv=>lhs;whnf
 apply U.w (aGX a)
 conv=>lhs;whnf
 apply U.w (aGX b)
 conv=>lhs;whnf
 simp only[aJ0]
 rfl
theorem kL {E:aR} (J:Sys E) (a b:aD):E 15 [sv (aU a),sv (aU b)]=some ([bv (decide (a=b))],[]):=by
 refine J.run rfl rfl fun W U=>?_
 conv=>lhs;whnf
 apply U.w (aHY J a b)
 conv=>lhs;whnf
 try(apply U.q;exact aE;conv=>lhs;whnf)
 rfl
theorem aM5 (x y:Pkt):decide (x=y)=(decide (x.frm=y.frm)&&(decide (x.to=y.to)&&decide (x.b=y.b))):=by
 obtain⟨a,b,c⟩:=x
 obtain⟨d,e,f⟩:=y
 simp
theorem aJ1 {E:aR} (J:Sys E) (x y:Pkt):E 17 [gv (x.cs aO),gv (y.cs aO)]=some ([bv (decide (x=y))],[]):=by
 refine J.run rfl rfl fun W U=>?_
 conv=>lhs;whnf
 rw[aM5]
 apply U.b<;>intro h1<;>conv=>lhs;whnf
 ·repeat((first|apply U.t|apply U.f|(apply U.q;exact aE)|(refine U.w (cG ?_) ?_;omega));conv=>lhs;whnf)
  apply U.b<;>intro h2<;>conv=>lhs;whnf
  ·repeat((first|apply U.t|apply U.f|(apply U.q;exact aE)|(refine U.w (cG ?_) ?_;omega));conv=>lhs;whnf)
   apply U.w (kL J x.b y.b)
   conv=>lhs;whnf
   repeat((first|apply U.t|apply U.f|(apply U.q;exact aE)|(refine U.w (cG ?_) ?_;omega));conv=>lhs;whnf)
   simp only[h1,h2,Bool.true_and];rfl
  ·repeat((first|apply U.t|apply U.f|(apply U.q;exact aE)|(refine U.w (cG ?_) ?_;omega));conv=>lhs;whnf)
   simp only[h1,h2,Bool.true_and,Bool.false_and];rfl
 ·repeat((first|apply U.t|apply U.f|(apply U.q;exact aE)|(refine U.w (cG ?_) ?_;omega));conv=>lhs;whnf)
  simp only[h1,Bool.false_and];rfl
theorem aFH {E:aR} (J:Sys E) (o o':Bool) (l m:List Pkt) (h0:l.length≤2 ^ 40):E 16 [sv (l.map (Pkt.row o)),sv (m.map (Pkt.row o')), .fn 17 []]=some ([bv (decide (l=m))],[]):=by
 refine J.run rfl rfl fun W U=>?_
 conv=>lhs;whnf
 apply U.b<;>intro h<;>conv=>lhs;whnf
 ·have:l≠m:=by rintro rfl;simp at h
  rw[decide_eq_false this];rfl
 ·have h:l.length=m.length:=by simp at h;omega
  refine U.loop (σ:=Nat) (γ:=Nat) (fun i s=>s.sl 17 (v1 (.t (.int .i64 i)))) (fun i n=>i=n∧n≤l.length) (fun n=>l.length-n) (fun n=>([bv (decide (l.drop n=m.drop n))],[])) 0 0 ?_ ?_ ?_ ?_
  ·intro K
   conv=>lhs;whnf
   conv=>rhs;whnf
   try rfl
  ·simp
  ·rintro kl n _ ⟨rfl,hn⟩ ih
   conv=>lhs;whnf
   apply U.b<;>intro h2<;>conv=>lhs;whnf
   ·have h2:n<l.length:=by simpa using h2
    rw[List.drop_eq_getElem_cons h2,List.drop_eq_getElem_cons (l:=m) (i:=n) (by omega)]
    repeat((first|apply U.t|apply U.f|(apply U.q;exact aE)|(refine U.w (cG ?_) ?_;omega));conv=>lhs;whnf)
    apply U.w (aJ1 J l[n] m[n])
    conv=>lhs;whnf
    try(apply U.q;exact aE;conv=>lhs;whnf)
    apply U.b<;>intro h3<;>conv=>lhs;whnf
    ·have h3:l[n]≠m[n]:=by simpa using h3
     rw[decide_eq_false fun e=>h3 (List.cons.inj e).1];rfl
    ·have h3:l[n]=m[n]:=by simpa using h3
     simp only[h3,List.cons.injEq,true_and]
     refine ih (n+1) (n+1) _ ?_ ⟨rfl,by omega⟩ (by omega)
     intro K
     conv=>lhs;whnf
     conv=>rhs;whnf
     try rfl
     rw[show IntKind.i64.wrap ((n:Int)+1)=_ from aK (by omega)];rfl
   ·have:n=l.length:=by simp at h2;omega
    subst this
    rw[List.drop_length,h,List.drop_length];rfl
  ·rfl
abbrev aDn (l m:List Pkt):Bool:=decide (l=m)
theorem aA3 {E:aR} (J:Sys E) (l m:List Pkt) (hl:vW (fun B=>Pkt.lim B) 1048576 l) (_:vW (fun B=>Pkt.lim B) 1048576 m):E 23 [sv (l.map (Pkt.row true)),sv (m.map (Pkt.row true))]=some ([bv (aDn l m)],[]):=by
 have h0:l.length≤2 ^ 40:=Nat.le_trans hl.1 (by decide)
 refine J.run rfl rfl fun W U=>?_
 conv=>lhs;whnf
 apply U.w (aFH J true true l m h0)
 conv=>lhs;whnf
 try(apply U.q;exact aE;conv=>lhs;whnf)
 rfl
theorem sE {E:aR} (J:Sys E) (l m:List Sum) (h0:l.length≤1099511627776):E 235 [sv (l.map Sum.row),sv (m.map Sum.row)]=some ([bv (decide (l=m))],[]):=by
 refine J.run rfl rfl fun W U=>?_
 conv=>lhs;whnf
 apply U.b<;>intro h<;>conv=>lhs;whnf
 ·have:l≠m:=by rintro rfl;simp at h
  rw[decide_eq_false this];rfl
 ·have h:l.length=m.length:=by simp at h;omega
  refine U.loop (σ:=Nat) (γ:=Nat) (fun i s=>s.sl 5 (v1 (.t (.int .i64 i)))) (fun i n=>i=n∧n≤l.length) (fun n=>l.length-n) (fun n=>([bv (decide (l.drop n=m.drop n))],[])) 0 0 ?_ ?_ ?_ ?_
  ·intro K
   conv=>lhs;whnf
   conv=>rhs;whnf
   try rfl
  ·simp
  ·rintro kl n _ ⟨rfl,hn⟩ ih
   conv=>lhs;whnf
   apply U.b<;>intro h2<;>conv=>lhs;whnf
   ·have h2:n<l.length:=by simpa using h2
    rw[List.drop_eq_getElem_cons h2,List.drop_eq_getElem_cons (l:=m) (i:=n) (by omega)]
    repeat((first|apply U.t|apply U.f|(apply U.q;exact aE)|(refine U.w (cG ?_) ?_;omega));conv=>lhs;whnf)
    apply U.b<;>intro h3<;>conv=>lhs;whnf
    ·have h3:l[n]≠m[n]:=by intro e;rw[e]at h3;simp at h3
     rw[decide_eq_false fun e=>h3 (List.cons.inj e).1];rfl
    ·have h3:l[n]=m[n]:=by
      revert h3
      generalize l[n]=x
      generalize m[n]=y
      cases x;cases y
      simp
     simp only[h3,List.cons.injEq,true_and]
     refine ih (n+1) (n+1) _ ?_ ⟨rfl,by omega⟩ (by omega)
     intro K
     conv=>lhs;whnf
     conv=>rhs;whnf
     try rfl
     rw[show IntKind.i64.wrap ((n:Int)+1)=_ from aK (by omega)]
     try rfl
   ·have:n=l.length:=by simp at h2;omega
    subst this
    rw[List.drop_length,h,List.drop_length];rfl
  ·rfl
theorem aFI {E:aR} (J:Sys E) (l m:List Sum) (h0:l.length≤1099511627776):E 248 [sv (l.map Sum.row),sv (m.map Sum.row)]=some ([bv (decide (l=m))],[]):=by
 refine J.run rfl rfl fun W U=>?_
 conv=>lhs;whnf
 apply U.b<;>intro h<;>conv=>lhs;whnf
 ·have:l≠m:=by rintro rfl;simp at h
  rw[decide_eq_false this];rfl
 ·have h:l.length=m.length:=by simp at h;omega
  refine U.loop (σ:=Nat) (γ:=Nat) (fun i s=>s.sl 13 (v1 (.t (.int .i64 i)))) (fun i n=>i=n∧n≤l.length) (fun n=>l.length-n) (fun n=>([bv (decide (l.drop n=m.drop n))],[])) 0 0 ?_ ?_ ?_ ?_
  ·intro K
   conv=>lhs;whnf
   conv=>rhs;whnf
   try rfl
  ·simp
  ·rintro kl n _ ⟨rfl,hn⟩ ih
   conv=>lhs;whnf
   apply U.b<;>intro h2<;>conv=>lhs;whnf
   ·have h2:n<l.length:=by simpa using h2
    rw[List.drop_eq_getElem_cons h2,List.drop_eq_getElem_cons (l:=m) (i:=n) (by omega)]
    repeat((first|apply U.t|apply U.f|(apply U.q;exact aE)|(refine U.w (cG ?_) ?_;omega));conv=>lhs;whnf)
    apply U.b<;>intro h3<;>conv=>lhs;whnf
    ·have h3:l[n]≠m[n]:=by intro e;rw[e]at h3;simp at h3
     rw[decide_eq_false fun e=>h3 (List.cons.inj e).1];rfl
    ·have h3:l[n]=m[n]:=by
      revert h3
      generalize l[n]=x
      generalize m[n]=y
      cases x;cases y
      simp
     simp only[h3,List.cons.injEq,true_and]
     refine ih (n+1) (n+1) _ ?_ ⟨rfl,by omega⟩ (by omega)
     intro K
     conv=>lhs;whnf
     conv=>rhs;whnf
     try rfl
     rw[show IntKind.i64.wrap ((n:Int)+1)=_ from aK (by omega)]
     try rfl
   ·have:n=l.length:=by simp at h2;omega
    subst this
    rw[List.drop_length,h,List.drop_length];rfl
  ·rfl
theorem aLA {E:aR} (J:Sys E) (l m:List Kid) (h0:l.length≤1099511627776):E 287 [sv (l.map Kid.row),sv (m.map Kid.row)]=some ([bv (decide (l=m))],[]):=by
 refine J.run rfl rfl fun W U=>?_
 conv=>lhs;whnf
 apply U.b<;>intro h<;>conv=>lhs;whnf
 ·have:l≠m:=by rintro rfl;simp at h
  rw[decide_eq_false this];rfl
 ·have h:l.length=m.length:=by simp at h;omega
  refine U.loop (σ:=Nat) (γ:=Nat) (fun i s=>s.sl 13 (v1 (.t (.int .i64 i)))) (fun i n=>i=n∧n≤l.length) (fun n=>l.length-n) (fun n=>([bv (decide (l.drop n=m.drop n))],[])) 0 0 ?_ ?_ ?_ ?_
  ·intro K
   conv=>lhs;whnf
   conv=>rhs;whnf
   try rfl
  ·simp
  ·rintro kl n _ ⟨rfl,hn⟩ ih
   conv=>lhs;whnf
   apply U.b<;>intro h2<;>conv=>lhs;whnf
   ·have h2:n<l.length:=by simpa using h2
    rw[List.drop_eq_getElem_cons h2,List.drop_eq_getElem_cons (l:=m) (i:=n) (by omega)]
    repeat((first|apply U.t|apply U.f|(apply U.q;exact aE)|(refine U.w (cG ?_) ?_;omega));conv=>lhs;whnf)
    apply U.b<;>intro h3<;>conv=>lhs;whnf
    ·have h3:l[n]≠m[n]:=by intro e;rw[e]at h3;simp at h3
     rw[decide_eq_false fun e=>h3 (List.cons.inj e).1];rfl
    ·have h3:l[n]=m[n]:=by
      revert h3
      generalize l[n]=x
      generalize m[n]=y
      cases x;cases y
      simp
     simp only[h3,List.cons.injEq,true_and]
     refine ih (n+1) (n+1) _ ?_ ⟨rfl,by omega⟩ (by omega)
     intro K
     conv=>lhs;whnf
     conv=>rhs;whnf
     try rfl
     rw[show IntKind.i64.wrap ((n:Int)+1)=_ from aK (by omega)]
     try rfl
   ·have:n=l.length:=by simp at h2;omega
    subst this
    rw[List.drop_length,h,List.drop_length];rfl
  ·rfl
theorem jG {E:aR} (J:Sys E) (a b:Man) (h0:a.sums.length≤1099511627776):E 285 [gv (a.cs aO),gv (b.cs aO)]=some ([bv (decide (a=b))],[]):=by
 refine J.run rfl rfl fun W U=>?_
 conv=>lhs;whnf
 have key:decide (a=b)=(decide (a.gen=b.gen)&&(decide (a.size=b.size)&&(decide (a.len=b.len)&&decide (a.sums=b.sums)))):=by
  cases a;cases b;simp
 rw[key]
 apply U.b<;>intro h1<;>conv=>lhs;whnf
 ·rw[h1]
  repeat((first|apply U.t|apply U.f|(apply U.q;exact aE));conv=>lhs;whnf)
  apply U.b<;>intro h2<;>conv=>lhs;whnf
  ·rw[h2]
   repeat((first|apply U.t|apply U.f|(apply U.q;exact aE));conv=>lhs;whnf)
   apply U.b<;>intro h3<;>conv=>lhs;whnf
   ·rw[h3]
    repeat((first|apply U.t|apply U.f|(apply U.q;exact aE));conv=>lhs;whnf)
    apply U.w (sE J a.sums b.sums h0)
    conv=>lhs;whnf
    repeat((first|apply U.t|apply U.f|(apply U.q;exact aE));conv=>lhs;whnf)
    rfl
   ·rw[h3]
    repeat((first|apply U.t|apply U.f|(apply U.q;exact aE));conv=>lhs;whnf)
    rfl
  ·rw[h2]
   repeat((first|apply U.t|apply U.f|(apply U.q;exact aE));conv=>lhs;whnf)
   rfl
 ·rw[h1]
  repeat((first|apply U.t|apply U.f|(apply U.q;exact aE));conv=>lhs;whnf)
  rfl
theorem aG8 {E:aR} (J:Sys E) (a b:Man) (h0:a.sums.length≤1099511627776):E 286 [gv (a.cs aO),gv (b.cs aO)]=some ([bv (decide (a=b))],[]):=by
 refine J.run rfl rfl fun W U=>?_
 conv=>lhs;whnf
 have key:decide (a=b)=(decide (a.gen=b.gen)&&(decide (a.size=b.size)&&(decide (a.len=b.len)&&decide (a.sums=b.sums)))):=by
  cases a;cases b;simp
 rw[key]
 apply U.b<;>intro h1<;>conv=>lhs;whnf
 ·rw[h1]
  repeat((first|apply U.t|apply U.f|(apply U.q;exact aE));conv=>lhs;whnf)
  apply U.b<;>intro h2<;>conv=>lhs;whnf
  ·rw[h2]
   repeat((first|apply U.t|apply U.f|(apply U.q;exact aE));conv=>lhs;whnf)
   apply U.b<;>intro h3<;>conv=>lhs;whnf
   ·rw[h3]
    repeat((first|apply U.t|apply U.f|(apply U.q;exact aE));conv=>lhs;whnf)
    apply U.w (aFI J a.sums b.sums h0)
    conv=>lhs;whnf
    repeat((first|apply U.t|apply U.f|(apply U.q;exact aE));conv=>lhs;whnf)
    rfl
   ·rw[h3]
    repeat((first|apply U.t|apply U.f|(apply U.q;exact aE));conv=>lhs;whnf)
    rfl
  ·rw[h2]
   repeat((first|apply U.t|apply U.f|(apply U.q;exact aE));conv=>lhs;whnf)
   rfl
 ·rw[h1]
  repeat((first|apply U.t|apply U.f|(apply U.q;exact aE));conv=>lhs;whnf)
  rfl
theorem aRR (a b:Node):decide (a=b)=(decide (a.on=b.on)&&(decide (a.boss=b.boss)&&(decide (a.quiet=b.quiet)&&(decide (a.man=b.man)&&(decide (a.bld.hav=b.bld.hav)&&(decide (a.bld.buf=b.bld.buf)&&(decide (a.phase=b.phase)&&(decide (a.kids=b.kids)&&decide (a.drops=b.drops))))))))):=by
 obtain⟨_,_,_,_,⟨_,_⟩,_,_,_⟩:=a
 obtain⟨_,_,_,_,⟨_,_⟩,_,_,_⟩:=b
 simp only[Node.mk.injEq,Bld.mk.injEq,Bool.decide_and,Bool.and_assoc]
abbrev xO (a b:Node):Bool:=decide (a=b)
theorem aEy {E:aR} (J:Sys E) (a b:Node) (ha:a.lim 4194304):E 119 [gv (a.cs aO),gv (b.cs aO)]=some ([bv (xO a b)],[]):=by
 obtain⟨l1,l2,l3⟩:=ha
 unfold xO
 refine J.run rfl rfl fun W U=>?_
 conv=>lhs;whnf
 rw[aRR]
 have e0:decide (a.on=b.on)=(a.on==b.on):=rfl
 rw[e0]
 apply U.b<;>intro h0<;>conv=>lhs;whnf
 ·rw[h0]
  repeat((first|apply U.t|apply U.f|(apply U.q;exact aE));conv=>lhs;whnf)
  apply U.b<;>intro h1<;>conv=>lhs;whnf
  ·rw[h1]
   repeat((first|apply U.t|apply U.f|(apply U.q;exact aE));conv=>lhs;whnf)
   apply U.b<;>intro h2<;>conv=>lhs;whnf
   ·rw[h2]
    repeat((first|apply U.t|apply U.f|(apply U.q;exact aE));conv=>lhs;whnf)
    apply U.w (aG8 J a.man b.man (Nat.le_trans l1 (by decide)))
    conv=>lhs;whnf
    repeat((first|apply U.t|apply U.f|(apply U.q;exact aE));conv=>lhs;whnf)
    apply U.b<;>intro h3<;>conv=>lhs;whnf
    ·rw[h3]
     repeat((first|apply U.t|apply U.f|(apply U.q;exact aE));conv=>lhs;whnf)
     apply U.b<;>intro h4<;>conv=>lhs;whnf
     ·rw[h4]
      repeat((first|apply U.t|apply U.f|(apply U.q;exact aE));conv=>lhs;whnf)
      apply U.w (kL J a.bld.buf b.bld.buf)
      conv=>lhs;whnf
      repeat((first|apply U.t|apply U.f|(apply U.q;exact aE));conv=>lhs;whnf)
      apply U.b<;>intro h5<;>conv=>lhs;whnf
      ·rw[h5]
       repeat((first|apply U.t|apply U.f|(apply U.q;exact aE));conv=>lhs;whnf)
       apply U.b<;>intro h6<;>conv=>lhs;whnf
       ·rw[h6]
        repeat((first|apply U.t|apply U.f|(apply U.q;exact aE));conv=>lhs;whnf)
        apply U.w (aLA J a.kids b.kids (Nat.le_trans l3 (by decide)))
        conv=>lhs;whnf
        repeat((first|apply U.t|apply U.f|(apply U.q;exact aE));conv=>lhs;whnf)
        apply U.b<;>intro h7<;>conv=>lhs;whnf
        ·rw[h7]
         repeat((first|apply U.t|apply U.f|(apply U.q;exact aE));conv=>lhs;whnf)
         rfl
        ·rw[h7]
         repeat((first|apply U.t|apply U.f|(apply U.q;exact aE));conv=>lhs;whnf)
         rfl
       ·rw[h6]
        repeat((first|apply U.t|apply U.f|(apply U.q;exact aE));conv=>lhs;whnf)
        rfl
      ·rw[h5]
       repeat((first|apply U.t|apply U.f|(apply U.q;exact aE));conv=>lhs;whnf)
       rfl
     ·rw[h4]
      repeat((first|apply U.t|apply U.f|(apply U.q;exact aE));conv=>lhs;whnf)
      rfl
    ·rw[h3]
     repeat((first|apply U.t|apply U.f|(apply U.q;exact aE));conv=>lhs;whnf)
     rfl
   ·rw[h2]
    repeat((first|apply U.t|apply U.f|(apply U.q;exact aE));conv=>lhs;whnf)
    rfl
  ·rw[h1]
   repeat((first|apply U.t|apply U.f|(apply U.q;exact aE));conv=>lhs;whnf)
   rfl
 ·rw[h0]
  repeat((first|apply U.t|apply U.f|(apply U.q;exact aE));conv=>lhs;whnf)
  rfl
theorem aFJ {E:aR} (J:Sys E) (a b:Node) (ha:a.lim 1048576) (_:b.lim 1048576):E 119 [gv (a.cs aO),gv (b.cs aO)]=some ([bv (xO a b)],[]):=aEy J a b (Node.lim_mono (by decide) ha)
def kM (s:Int):Nat→Nat→List Int
 |_,0=>[]
 |i,k+1=>if eL s i=true then(i:Int)::kM s (i+1) k else kM s (i+1) k
def cQ (s:Int):List Int:=kM s 0 40
theorem aM6 {s:Int}:∀ {k i:Nat},(kM s i k).length≤k:=by
 intro k
 induction k with
 |zero=>intro i;exact Nat.le_refl _
 |succ k ih =>
  intro i
  simp only[kM]
  split
  ·have:=ih (i:=i+1);simp only[List.length_cons];omega
  ·have:=ih (i:=i+1);omega
theorem jH {s:Int}:(cQ s).length≤40:=aM6
theorem aG9 {E:aR} (J:Sys E) (s:Int):E 134 [iv s]=some ([ov 1 (bD (cQ s))],[]):=by
 refine J.run rfl rfl fun W U=>?_
 conv=>lhs;whnf
 refine U.loop (σ:=Nat × List Int) (γ:=Nat) (fun i s=>(s.sl 6 (v1 (.t (.int .i64 i.1)))).bl ⟨50300,1, .own,bD i.2⟩) (fun i m=>i.1=m∧m≤40∧i.2.length≤m∧i.2++kM s m (40-m)=cQ s) (fun m=>40-m) (fun _=>([ov 1 (bD (cQ s))],[])) (0,[]) 0 ?_ ?_ ?_ ?_
 ·intro K
  conv=>lhs;whnf
  conv=>rhs;whnf
  try rfl
 ·exact⟨rfl,by omega,by simp,rfl⟩
 ·rintro kl ⟨m,acc⟩ _ ⟨rfl,hm,hl,hs⟩ ih
  simp only at hs hm hl
  conv=>lhs;whnf
  apply U.b<;>intro h1<;>conv=>lhs;whnf
  ·have h1:m<40:=by
    have:(m:Int)<40:=by simpa using h1
    omega
   rw[show 40-m=(40-(m+1))+1 from by omega,kM]at hs
   apply U.w (fD J s m)
   conv=>lhs;whnf
   try(apply U.q;exact aE;conv=>lhs;whnf)
   apply U.b<;>intro h3<;>conv=>lhs;whnf
   ·rw[if_pos h3]at hs
    refine U.q (by exact⟨by decide,by intro e he;simp at he;subst he;rfl,by simp[bD];omega,by simp[bD];omega⟩) ?_
    conv=>lhs;whnf
    repeat((first|apply U.t|apply U.f|(apply U.q;exact aE));conv=>lhs;whnf)
    refine ih (m+1,acc++[(m:Int)]) (m+1) _ ?_ ⟨rfl,by omega,by simp;omega,by simpa using hs⟩ (by omega)
    intro K
    conv=>lhs;whnf
    conv=>rhs;whnf
    try rfl
    rw[show IntKind.i64.wrap ((m:Int)+1)=_ from aK (by omega)]
    simp[bD,kK]
   ·rw[if_neg (by rw[h3];decide)]at hs
    refine ih (m+1,acc) (m+1) _ ?_ ⟨rfl,by omega,by simp only;omega,hs⟩ (by omega)
    intro K
    conv=>lhs;whnf
    conv=>rhs;whnf
    try rfl
    rw[show IntKind.i64.wrap ((m:Int)+1)=_ from aK (by omega)]
    try rfl
  ·have:m=40:=by
    have:¬ (m:Int)<40:=by simpa using h1
    omega
   subst this
   simp only[Nat.sub_self,kM,List.append_nil]at hs
   rw[← hs];rfl
 ·rfl
theorem aPk (l:List Sum):gK (l.map Sum.row)=true:=aB3 (fun _=>rfl) l
theorem aPl (l:List Sum):∀ e∈l.map Sum.row,e.length=2:=aAN fun _=>rfl
theorem aJ (l:aD):(aU l).length=l.length:=List.length_map _
theorem aLB {E:aR} (J:Sys E) (l:List Sum) (h0:l.length≤68719476736):E 218 [sv (l.map Sum.row)]=some ([ov 2 (l.map Sum.row)],[]):=by
 have hfl:gK (l.map Sum.row)=true:=aB3 (fun _=>rfl) l
 have hrl:(l.map Sum.row).length=l.length:=by simp[aU,bD]
 have hro:∀ e∈l.map Sum.row,e.length=2:=aAN fun _=>rfl
 refine J.run2 rfl rfl (fun W U=>?_) (fun he W U=>?_)
 ·conv=>lhs;whnf
  repeat((first|apply U.t|apply U.f|(apply U.q;exact aE));conv=>lhs;whnf)
  refine U.q (by exact⟨by decide,hro,by simp only[List.length_nil,hrl];omega,by simp only[List.length_nil,hrl];omega⟩) ?_
  conv=>lhs;whnf
  apply U.bt (hfl)
  conv=>lhs;whnf
  rfl
 ·cases l with
  |cons x r=>exact absurd (show false=true from he) (by decide)
  |nil =>
   conv=>lhs;whnf
   repeat((first|apply U.t|apply U.f|(apply U.q;exact aE));conv=>lhs;whnf)
   rfl
theorem eM {E:aR} (J:Sys E) (b:aD) (h0:b.length≤68719476736):E 42 [sv (aU b)]=some ([ov 1 (aU b)],[]):=by
 refine J.run rfl rfl fun W U=>?_
 conv=>lhs;whnf
 refine U.q (by exact⟨by omega, .inr rfl,by omega,by rw[aJ];omega,by rw[aJ];omega,by decide,rfl⟩) ?_
 conv=>lhs;whnf
 refine U.q (by exact⟨by decide,bK _,by simp[aJ];omega,by simp[aJ];omega⟩) ?_
 conv=>lhs;whnf
 apply U.bt (cZ _)
 conv=>lhs;whnf
 rfl
theorem aAn {E:aR} (J:Sys E) (x:Man) (h0:x.sums.length≤8388608):E 213 [gv (x.cs aO)]=some ([gv (x.cs dH)],[]):=by
 refine J.run rfl rfl fun W U=>?_
 conv=>lhs;whnf
 refine U.q (by exact⟨by decide,aPl _,by simp;omega,by simp;omega⟩) ?_
 conv=>lhs;whnf
 apply U.bt (aPk _)
 conv=>lhs;whnf
 rfl
theorem aHa {E:aR} (J:Sys E) (x:Man) (h0:x.sums.length≤8388608):E 216 [gv (x.cs aO)]=some ([gv (x.cs dH)],[]):=by
 refine J.run rfl rfl fun W U=>?_
 conv=>lhs;whnf
 apply U.w (aLB J x.sums (by omega))
 conv=>lhs;whnf
 repeat((first|apply U.t|apply U.f|(apply U.q;exact aE));conv=>lhs;whnf)
 rfl
theorem aHZ {E:aR} (J:Sys E) (x:Bld) (h0:x.buf.length≤8388608):E 214 [gv (x.cs aO)]=some ([gv (x.cs dH)],[]):=by
 refine J.run rfl rfl fun W U=>?_
 conv=>lhs;whnf
 refine U.q (by exact⟨by decide,bK _,by rw[aJ];omega,by rw[aJ];omega,cZ _⟩) ?_
 conv=>lhs;whnf
 rfl
theorem aEz {E:aR} (J:Sys E) (x:Bld) (h0:x.buf.length≤8388608):E 217 [gv (x.cs aO)]=some ([gv (x.cs dH)],[]):=by
 refine J.run rfl rfl fun W U=>?_
 conv=>lhs;whnf
 apply U.w (eM J x.buf (by omega))
 conv=>lhs;whnf
 repeat((first|apply U.t|apply U.f|(apply U.q;exact aE));conv=>lhs;whnf)
 rfl
theorem jI {E:aR} (J:Sys E) (x:Node) (h0:x.lim 8388608):E 212 [gv (x.cs aO)]=some ([gv (x.cs dH)],[]):=by
 obtain⟨h1,h2,h3⟩:=h0
 refine J.run rfl rfl fun W U=>?_
 conv=>lhs;whnf
 apply U.w (aAn J x.man h1)
 conv=>lhs;whnf
 repeat((first|apply U.t|apply U.f|(apply U.q;exact aE));conv=>lhs;whnf)
 apply U.w (aHZ J x.bld h2)
 conv=>lhs;whnf
 repeat((first|apply U.t|apply U.f|(apply U.q;exact aE));conv=>lhs;whnf)
 refine U.q (by exact⟨by decide,kids_rows _,by simp;omega,by simp;omega⟩) ?_
 conv=>lhs;whnf
 apply U.bt (lY _)
 conv=>lhs;whnf
 rfl
theorem lI {E:aR} (J:Sys E) (x:Node) (h0:x.lim 8388608):E 215 [gv (x.cs aO)]=some ([gv (x.cs dH)],[]):=by
 obtain⟨h1,h2,h3⟩:=h0
 refine J.run rfl rfl fun W U=>?_
 conv=>lhs;whnf
 apply U.w (aHa J x.man h1)
 conv=>lhs;whnf
 repeat((first|apply U.t|apply U.f|(apply U.q;exact aE));conv=>lhs;whnf)
 apply U.w (aEz J x.bld h2)
 conv=>lhs;whnf
 repeat((first|apply U.t|apply U.f|(apply U.q;exact aE));conv=>lhs;whnf)
 apply U.w (vX J x.kids (by omega))
 conv=>lhs;whnf
 repeat((first|apply U.t|apply U.f|(apply U.q;exact aE));conv=>lhs;whnf)
 rfl
theorem aDo {E:aR} (J:Sys E) (n:Int):E 198 [iv n]=some ([bv (aW n 0 1000000)],[]):=by
 refine J.run rfl rfl fun W U=>?_
 conv=>lhs;whnf
 repeat'((first|apply U.t|apply U.f|(apply U.q;exact aE)|apply U.w (cP J _ _ _)|(apply U.b<;>intro h))<;>conv=>lhs;whnf)
 all_goals(refine congrArg (fun b=>(some ([bv b],[]):Option dA)) ?_;first|rfl|(simp_all [];done)|(simp_all []<;>(intros;omega)))
theorem bO (b:aD):((aU b).length:Int)=b.length:=by rw[aJ]
theorem aRS {α:Type} {p:α→Bool} {l:List α}:∀ {n:Nat},decide (jU p n l≥0)=l.any p:=by
 induction l with
 |nil=>intro n;simp[jU]
 |cons x r ih =>
  intro n
  simp only[jU,List.any_cons]
  by_cases hp:p x=true
  ·simp[hp]
  ·have:=ih (n:=n+1)
   simp_all
def pL (a b:Int):Int:=if aW a 0 1000000000000=true∧aW b 1 1000000000000=true then IntKind.i64.wrap ((IntKind.i64.wrap (IntKind.i64.wrap (a+b)-1)).tdiv b) else 0
theorem aHb {E:aR} (J:Sys E) (a b:Int):E 240 [iv a,iv b]=some ([iv (pL a b)],[]):=by
 have ha:=bR J a 0 1000000000000
 have hb:=bR J b 1 1000000000000
 unfold pL
 cases h1:aW a 0 1000000000000
 ·rw[h1]at ha
  refine J.run rfl rfl fun W U=>?_
  conv=>lhs;whnf
  repeat'((first|apply U.t|apply U.f|(apply U.q;exact aE)|apply U.w (ha)|(apply U.b<;>intro h))<;>conv=>lhs;whnf)
  all_goals(refine congrArg (fun b=>(some ([iv b],[]):Option dA)) ?_;first|rfl|(simp_all [];done)|(simp_all []<;>(intros;omega)))
 ·rw[h1]at ha
  cases h2:aW b 1 1000000000000
  ·rw[h2]at hb
   refine J.run rfl rfl fun W U=>?_
   conv=>lhs;whnf
   repeat'((first|apply U.t|apply U.f|(apply U.q;exact aE)|apply U.w (ha)|apply U.w (hb)|(apply U.b<;>intro h))<;>conv=>lhs;whnf)
   all_goals(refine congrArg (fun b=>(some ([iv b],[]):Option dA)) ?_;first|rfl|(simp_all [];done)|(simp_all []<;>(intros;omega)))
  ·rw[h2]at hb
   have:=bS h2
   refine J.run rfl rfl fun W U=>?_
   conv=>lhs;whnf
   repeat'((first|apply U.t|apply U.f|(apply U.q;exact aE)|apply U.w (ha)|apply U.w (hb)|(apply U.b<;>intro h))<;>conv=>lhs;whnf)
   rfl
theorem aHc {E:aR} (J:Sys E) (a b:Int):E 253 [iv a,iv b]=some ([iv (pL a b)],[]):=by
 have ha:=cP J a 0 1000000000000
 have hb:=cP J b 1 1000000000000
 unfold pL
 cases h1:aW a 0 1000000000000
 ·rw[h1]at ha
  refine J.run rfl rfl fun W U=>?_
  conv=>lhs;whnf
  repeat'((first|apply U.t|apply U.f|(apply U.q;exact aE)|apply U.w (ha)|(apply U.b<;>intro h))<;>conv=>lhs;whnf)
  all_goals(refine congrArg (fun b=>(some ([iv b],[]):Option dA)) ?_;first|rfl|(simp_all [];done)|(simp_all []<;>(intros;omega)))
 ·rw[h1]at ha
  cases h2:aW b 1 1000000000000
  ·rw[h2]at hb
   refine J.run rfl rfl fun W U=>?_
   conv=>lhs;whnf
   repeat'((first|apply U.t|apply U.f|(apply U.q;exact aE)|apply U.w (ha)|apply U.w (hb)|(apply U.b<;>intro h))<;>conv=>lhs;whnf)
   all_goals(refine congrArg (fun b=>(some ([iv b],[]):Option dA)) ?_;first|rfl|(simp_all [];done)|(simp_all []<;>(intros;omega)))
  ·rw[h2]at hb
   have:=bS h2
   refine J.run rfl rfl fun W U=>?_
   conv=>lhs;whnf
   repeat'((first|apply U.t|apply U.f|(apply U.q;exact aE)|apply U.w (ha)|apply U.w (hb)|(apply U.b<;>intro h))<;>conv=>lhs;whnf)
   rfl
def cL (size n:Int):Bool:=aW size 2 6&&aW n 0 (IntKind.i64.wrap (size*40))
theorem oG {E:aR} (J:Sys E) (size n:Int):E 239 [iv size,iv n]=some ([bv (cL size n)],[]):=by
 refine J.run rfl rfl fun W U=>?_
 conv=>lhs;whnf
 repeat'((first|apply U.t|apply U.f|(apply U.q;exact aE)|apply U.w (bR J _ _ _)|(apply U.b<;>intro h))<;>conv=>lhs;whnf)
 all_goals(refine congrArg (fun b=>(some ([bv b],[]):Option dA)) ?_;first|rfl|(simp_all [cL];done)|(simp_all [cL]<;>(intros;omega)))
theorem aAo {E:aR} (J:Sys E) (size n:Int):E 252 [iv size,iv n]=some ([bv (cL size n)],[]):=by
 have:size*40=40*size:=Int.mul_comm _ _
 unfold cL
 rw[this]
 refine J.run rfl rfl fun W U=>?_
 conv=>lhs;whnf
 repeat'((first|apply U.t|apply U.f|(apply U.q;exact aE)|apply U.w (cP J _ _ _)|(apply U.b<;>intro h))<;>conv=>lhs;whnf)
 all_goals(refine congrArg (fun b=>(some ([bv b],[]):Option dA)) ?_;first|rfl|(simp_all [];done)|(simp_all []<;>(intros;omega)))
def bA (size n:Int):Int:=if cL size n=true then pL n size else 0
theorem iK {E:aR} (J:Sys E) (size n:Int):E 236 [iv size,iv n]=some ([iv (bA size n)],[]):=by
 have ha:=oG J size n
 unfold bA
 cases h1:cL size n
 ·rw[h1]at ha
  refine J.run rfl rfl fun W U=>?_
  conv=>lhs;whnf
  repeat'((first|apply U.t|apply U.f|(apply U.q;exact aE)|apply U.w (ha)|(apply U.b<;>intro h))<;>conv=>lhs;whnf)
  all_goals(refine congrArg (fun b=>(some ([iv b],[]):Option dA)) ?_;first|rfl|(simp_all [];done)|(simp_all []<;>(intros;omega)))
 ·rw[h1]at ha
  refine J.run rfl rfl fun W U=>?_
  conv=>lhs;whnf
  repeat'((first|apply U.t|apply U.f|(apply U.q;exact aE)|apply U.w (ha)|apply U.w (aHb J n size)|(apply U.b<;>intro h))<;>conv=>lhs;whnf)
  rfl
theorem kX {E:aR} (J:Sys E) (size n:Int):E 249 [iv size,iv n]=some ([iv (bA size n)],[]):=by
 have ha:=aAo J size n
 unfold bA
 cases h1:cL size n
 ·rw[h1]at ha
  refine J.run rfl rfl fun W U=>?_
  conv=>lhs;whnf
  repeat'((first|apply U.t|apply U.f|(apply U.q;exact aE)|apply U.w (ha)|(apply U.b<;>intro h))<;>conv=>lhs;whnf)
  all_goals(refine congrArg (fun b=>(some ([iv b],[]):Option dA)) ?_;first|rfl|(simp_all [];done)|(simp_all []<;>(intros;omega)))
 ·rw[h1]at ha
  refine J.run rfl rfl fun W U=>?_
  conv=>lhs;whnf
  repeat'((first|apply U.t|apply U.f|(apply U.q;exact aE)|apply U.w (ha)|apply U.w (aHc J n size)|(apply U.b<;>intro h))<;>conv=>lhs;whnf)
  rfl
theorem xP {size n:Int} (h:cL size n=true):2≤size∧size≤6∧0≤n∧n≤size*40:=by
 simp only[cL,Bool.and_eq_true]at h
 obtain⟨h1,h2⟩:=h
 have h1:=bS h1
 rw[show IntKind.i64.wrap (size*40)=size*40 from aI (by omega)]at h2
 have h2:=bS h2
 omega
theorem mV {size n:Int} (h:cL size n=true):bA size n=(n+size-1)/size∧0≤bA size n∧bA size n≤40:=by
 obtain⟨h1,h2,h3,h4⟩:=xP h
 have e:bA size n=(n+size-1)/size:=by
  unfold bA pL
  rw[if_pos h,if_pos ⟨by simp[aW];omega,by simp[aW];omega⟩]
  rw[show IntKind.i64.wrap (n+size)=n+size from aI (by omega),show IntKind.i64.wrap (n+size-1)=n+size-1 from aI (by omega),Int.tdiv_eq_ediv_of_nonneg (by omega)]
  apply aI
  obtain h5|h5|h5|h5|h5:size=2∨size=3∨size=4∨size=5∨size=6:=by omega
  all_goals(subst h5;omega)
 rw[e]
 refine⟨rfl,?_⟩
 obtain h5|h5|h5|h5|h5:size=2∨size=3∨size=4∨size=5∨size=6:=by omega
 all_goals(subst h5;omega)
def wA (a b:Int):Int:=if b<a then b else a
theorem aJ2 {E:aR} (J:Sys E) (a b:Int):E 242 [iv a,iv b]=some ([iv (wA a b)],[]):=by
 refine J.run rfl rfl fun W U=>?_
 conv=>lhs;whnf
 repeat'((first|apply U.t|apply U.f|(apply U.q;exact aE)|(apply U.b<;>intro h))<;>conv=>lhs;whnf)
 all_goals(refine congrArg (fun b=>(some ([iv b],[]):Option dA)) ?_;first|rfl|(simp_all [wA];done)|(simp_all [wA]<;>(intros;omega)))
def bP (size n i:Int):Int:=if aW i 0 (IntKind.i64.wrap (bA size n-1))=true then IntKind.i64.wrap (i*size) else 0
def aX (size n i:Int):Int:=if aW i 0 (IntKind.i64.wrap (bA size n-1))=true then wA size (IntKind.i64.wrap (n-IntKind.i64.wrap (i*size))) else 0
theorem eN {E:aR} (J:Sys E) (size n i:Int):E 241 [iv size,iv n,iv i]=some ([iv (bP size n i),iv (aX size n i)],[]):=by
 have hb:=bR J i 0 (IntKind.i64.wrap (bA size n-1))
 unfold bP aX
 cases h2:aW i 0 (IntKind.i64.wrap (bA size n-1))
 ·rw[h2]at hb
  refine J.run rfl rfl fun W U=>?_
  conv=>lhs;whnf
  repeat'((first|apply U.t|apply U.f|(apply U.q;exact aE)|apply U.w (iK J size n)|apply U.w (hb)|(apply U.b<;>intro h))<;>conv=>lhs;whnf)
  rfl
 ·rw[h2]at hb
  refine J.run rfl rfl fun W U=>?_
  conv=>lhs;whnf
  repeat'((first|apply U.t|apply U.f|(apply U.q;exact aE)|apply U.w (iK J size n)|apply U.w (hb)|apply U.w (aJ2 J _ _)|(apply U.b<;>intro h))<;>conv=>lhs;whnf)
  rfl
theorem aAp {E:aR} (J:Sys E) (size n i:Int):E 254 [iv size,iv n,iv i]=some ([iv (bP size n i),iv (aX size n i)],[]):=by
 have hb:=cP J i 0 (IntKind.i64.wrap (bA size n-1))
 unfold bP aX
 cases h2:aW i 0 (IntKind.i64.wrap (bA size n-1))
 ·rw[h2]at hb
  refine J.run rfl rfl fun W U=>?_
  conv=>lhs;whnf
  repeat'((first|apply U.t|apply U.f|(apply U.q;exact aE)|apply U.w (kX J size n)|apply U.w (hb)|(apply U.b<;>intro h))<;>conv=>lhs;whnf)
  rfl
 ·rw[h2]at hb
  refine J.run rfl rfl fun W U=>?_
  conv=>lhs;whnf
  repeat'((first|apply U.t|apply U.f|(apply U.q;exact aE)|apply U.w (kX J size n)|apply U.w (hb)|(apply U.b<;>intro h))<;>conv=>lhs;whnf)
  rw[show ∀ b,wA size b=min size b from fun b=>by unfold wA;omega]
  rfl
def wx (x:Int) (c:UInt8):Int:=(IntKind.i64.wrap (x+IntKind.i64.wrap (c.toNat:Int))).tmod 251
def wy (y x:Int):Int:=(IntKind.i64.wrap (y+x)).tmod 251
def jY:aD→Int→Int→Int × Int
 |[],x,y=>(x,y)
 |c::r,x,y=>jY r (wx x c) (wy y (wx x c))
def bB (b:aD):Int:=IntKind.i64.wrap ((jY b 0 0).1+IntKind.i64.wrap (251*(jY b 0 0).2))
theorem aRT {x:Int} {c:UInt8} (h:0≤x∧x<251):0≤wx x c∧wx x c<251:=by
 have:=UInt8.toNat_lt c
 unfold wx
 rw[show IntKind.i64.wrap (c.toNat:Int)=c.toNat from aI (by omega),show IntKind.i64.wrap (x+c.toNat)=x+c.toNat from aI (by omega)]
 rw[Int.tmod_eq_emod_of_nonneg (by omega)]
 omega
theorem aUe {x y:Int} (h:0≤x∧x<251) (h':0≤y∧y<251):0≤wy y x∧wy y x<251:=by
 unfold wy
 rw[show IntKind.i64.wrap (y+x)=y+x from aI (by omega)]
 rw[Int.tmod_eq_emod_of_nonneg (by omega)]
 omega
theorem aRU {b:aD}:∀ {x y:Int},(0≤x∧x<251)→(0≤y∧y<251)→(0≤(jY b x y).1∧(jY b x y).1<251)∧(0≤(jY b x y).2∧(jY b x y).2<251):=by
 induction b with
 |nil=>intro x y h h';exact⟨h,h'⟩
 |cons c r ih=>intro x y h h';exact ih (aRT h) (aUe (aRT h) h')
theorem eO {E:aR} (J:Sys E) (b:aD) (h0:b.length≤1099511627776):E 243 [sv (aU b)]=some ([iv (bB b)],[]):=by
 refine J.run rfl rfl fun W U=>?_
 conv=>lhs;whnf
 refine U.loop (σ:=Nat × Int × Int) (γ:=Nat) (fun i s=>((s.sl 5 (v1 (.t (.int .i64 i.1)))).sl 3 (v1 (.t (.int .i64 i.2.1)))).sl 4 (v1 (.t (.int .i64 i.2.2)))) (fun i n=>i.1=n∧n≤b.length∧jY (b.drop n) i.2.1 i.2.2=jY b 0 0) (fun n=>b.length-n) (fun _=>([iv (bB b)],[])) (0,0,0) 0 ?_ ?_ ?_ ?_
 ·intro K
  conv=>lhs;whnf
  conv=>rhs;whnf
  try rfl
 ·exact⟨rfl,by omega,rfl⟩
 ·rintro kl ⟨n,x,y⟩ _ ⟨rfl,hn,hs⟩ ih
  simp only at hs hn
  conv=>lhs;whnf
  apply U.b<;>intro h2<;>conv=>lhs;whnf
  ·have h2:n<b.length:=by simpa[aJ] using h2
   rw[List.drop_eq_getElem_cons h2,jY]at hs
   repeat((first|apply U.t|apply U.f|(apply U.q;exact aE)|(refine U.w (cG ?_) ?_;omega));conv=>lhs;whnf)
   refine ih (n+1,wx x b[n],wy y (wx x b[n])) (n+1) _ ?_ ⟨rfl,by omega,hs⟩ (by omega)
   intro K
   conv=>lhs;whnf
   conv=>rhs;whnf
   try rfl
   rw[show IntKind.i64.wrap ((n:Int)+1)=_ from aK (by omega)]
   try rfl
  ·have:n=b.length:=by simp[aJ]at h2;omega
   subst this
   rw[List.drop_length]at hs
   unfold bB
   rw[← hs];rfl
 ·rfl
def aE4 (n m:Int):Int:=if aW m 1 1000000000000=true then(IntKind.i64.wrap (n.tmod m+m)).tmod m else 0
theorem aLC {E:aR} (J:Sys E) (n m:Int):E 268 [iv n,iv m]=some ([iv (aE4 n m)],[]):=by
 have ha:=bR J m 1 1000000000000
 unfold aE4
 cases h1:aW m 1 1000000000000
 ·rw[h1]at ha
  refine J.run rfl rfl fun W U=>?_
  conv=>lhs;whnf
  repeat'((first|apply U.t|apply U.f|(apply U.q;exact aE)|apply U.w (ha)|(apply U.b<;>intro h))<;>conv=>lhs;whnf)
  all_goals(refine congrArg (fun b=>(some ([iv b],[]):Option dA)) ?_;first|rfl|(simp_all [];done)|(simp_all []<;>(intros;omega)))
 ·rw[h1]at ha
  have:=bS h1
  refine J.run rfl rfl fun W U=>?_
  conv=>lhs;whnf
  repeat'((first|apply U.t|apply U.f|(apply U.q;exact aE)|apply U.w (ha)|(apply U.b<;>intro h))<;>conv=>lhs;whnf)
  rfl
theorem aE5 {E:aR} (J:Sys E) (n m:Int):E 258 [iv n,iv m]=some ([iv (aE4 n m)],[]):=by
 have ha:=cP J m 1 1000000000000
 unfold aE4
 cases h1:aW m 1 1000000000000
 ·rw[h1]at ha
  refine J.run rfl rfl fun W U=>?_
  conv=>lhs;whnf
  repeat'((first|apply U.t|apply U.f|(apply U.q;exact aE)|apply U.w (ha)|(apply U.b<;>intro h))<;>conv=>lhs;whnf)
  all_goals(refine congrArg (fun b=>(some ([iv b],[]):Option dA)) ?_;first|rfl|(simp_all [];done)|(simp_all []<;>(intros;omega)))
 ·rw[h1]at ha
  have:=bS h1
  refine J.run rfl rfl fun W U=>?_
  conv=>lhs;whnf
  repeat'((first|apply U.t|apply U.f|(apply U.q;exact aE)|apply U.w (ha)|(apply U.b<;>intro h))<;>conv=>lhs;whnf)
  rfl
theorem aLD {n:Int} (h:0≤n∧n<251):aE4 n 251=n:=by
 unfold aE4
 have e:n.tmod 251=n:=by rw[Int.tmod_eq_emod_of_nonneg (by omega)];omega
 rw[if_pos (by decide),e,show IntKind.i64.wrap (n+251)=n+251 from aI (by omega),Int.tmod_eq_emod_of_nonneg (by omega)]
 omega
theorem aLE {E:aR} (J:Sys E) (x y:Int) (hx:0≤x∧x<251) (hy:0≤y∧y<251):E 257 [iv x,iv y]=some ([iv (IntKind.i64.wrap (x+IntKind.i64.wrap (251*y)))],[]):=by
 have h1:=aE5 J x 251
 have h2:=aE5 J y 251
 rw[aLD hx]at h1
 rw[aLD hy]at h2
 refine J.run rfl rfl fun W U=>?_
 conv=>lhs;whnf
 apply U.w (h1)
 conv=>lhs;whnf
 repeat((first|apply U.t|apply U.f|(apply U.q;exact aE));conv=>lhs;whnf)
 apply U.w (h2)
 conv=>lhs;whnf
 repeat((first|apply U.t|apply U.f|(apply U.q;exact aE));conv=>lhs;whnf)
 rfl
theorem fQ {E:aR} (J:Sys E) (b:aD) (h0:b.length≤1099511627776):E 256 [sv (aU b)]=some ([iv (bB b)],[]):=by
 have hr:=aRU (b:=b) (x:=0) (y:=0) (by omega) (by omega)
 refine J.run rfl rfl fun W U=>?_
 conv=>lhs;whnf
 refine U.loop (σ:=Nat × Int × Int) (γ:=Nat) (fun i s=>((s.sl 9 (v1 (.t (.int .i64 i.1)))).sl 3 (v1 (.t (.int .i64 i.2.1)))).sl 4 (v1 (.t (.int .i64 i.2.2)))) (fun i n=>i.1=n∧n≤b.length∧jY (b.drop n) i.2.1 i.2.2=jY b 0 0) (fun n=>b.length-n) (fun _=>([iv (bB b)],[])) (0,0,0) 0 ?_ ?_ ?_ ?_
 ·intro K
  conv=>lhs;whnf
  conv=>rhs;whnf
  try rfl
 ·exact⟨rfl,by omega,rfl⟩
 ·rintro kl ⟨n,x,y⟩ _ ⟨rfl,hn,hs⟩ ih
  simp only at hs hn
  conv=>lhs;whnf
  apply U.b<;>intro h2<;>conv=>lhs;whnf
  ·have h2:n<b.length:=by simpa[aJ] using h2
   rw[List.drop_eq_getElem_cons h2,jY]at hs
   repeat((first|apply U.t|apply U.f|(apply U.q;exact aE)|(refine U.w (cG ?_) ?_;omega));conv=>lhs;whnf)
   refine ih (n+1,wx x b[n],wy y (wx x b[n])) (n+1) _ ?_ ⟨rfl,by omega,hs⟩ (by omega)
   intro K
   conv=>lhs;whnf
   conv=>rhs;whnf
   try rfl
   rw[show IntKind.i64.wrap ((n:Int)+1)=_ from aK (by omega)]
   try rfl
  ·have:n=b.length:=by simp[aJ]at h2;omega
   subst this
   rw[List.drop_length,jY]at hs
   rw[← hs]at hr
   apply U.w (aLE J x y hr.1 hr.2)
   conv=>lhs;whnf
   repeat((first|apply U.t|apply U.f|(apply U.q;exact aE));conv=>lhs;whnf)
   unfold bB
   rw[← hs];rfl
 ·rfl
def eV:aD→Nat→Nat
 |[],s=>s
 |c::r,s=>eV r (256*s+c.toNat)
def bI (b:aD):Sum:=if(b.length:Int)>6 then⟨0,0⟩ else⟨bB b,eV b 1⟩
theorem aUW {s:Nat} {c:UInt8} (h:s≤562949953421312):aFE (IntKind.i64.wrap ((s:Int)*2 ^ (min (8:Int).toNat IntKind.i64.bits))) (IntKind.i64.wrap (c.toNat:Int))=((256*s+c.toNat:Nat):Int):=by
 have hc:=UInt8.toNat_lt c
 rw[show((s:Int)*2 ^ (min (8:Int).toNat IntKind.i64.bits))=((256*s:Nat):Int) from by
  rw[show min (8:Int).toNat IntKind.i64.bits=8 from by decide];push_cast;omega]
 rw[show IntKind.i64.wrap ((256*s:Nat):Int)=((256*s:Nat):Int) from aI (by omega),show IntKind.i64.wrap (c.toNat:Int)=c.toNat from aI (by omega)]
 unfold aFE
 have e:(BitVec.ofInt IntKind.i64.bits ((256*s:Nat):Int) ||| BitVec.ofInt IntKind.i64.bits (c.toNat:Int)).toNat=256*s+c.toNat:=by
  rw[BitVec.toNat_or,BitVec.ofInt_natCast,BitVec.ofInt_natCast,BitVec.toNat_ofNat,BitVec.toNat_ofNat]
  rw[Nat.mod_eq_of_lt (show 256*s<2 ^ IntKind.i64.bits from by simp only[IntKind.bits];omega),Nat.mod_eq_of_lt (show c.toNat<2 ^ IntKind.i64.bits from by simp only[IntKind.bits];omega)]
  rw[show 256*s=2 ^ 8*s from rfl,Nat.two_pow_add_eq_or_of_lt (by omega)]
 rw[e]
 exact aI (by omega)
theorem aTz {b:aD}:∀ {s:Nat},s≤eV b s:=by
 induction b with
 |nil=>intro s;exact Nat.le_refl _
 |cons c r ih=>intro s;have:=ih (s:=256*s+c.toNat);simp only[eV];omega
theorem aGb {b:aD}:∀ {s:Nat},eV b s<(s+1)*256 ^ b.length:=by
 induction b with
 |nil=>intro s;simp[eV]
 |cons c r ih =>
  intro s
  have:=ih (s:=256*s+c.toNat)
  have hc:=UInt8.toNat_lt c
  simp only[eV,List.length_cons,Nat.pow_succ]
  have h2:(256*s+c.toNat+1)*256 ^ r.length≤((s+1)*256)*256 ^ r.length:=Nat.mul_le_mul_right _ (by omega)
  have h3:(s+1)*(256 ^ r.length*256)=(s+1)*256*256 ^ r.length:=by rw[Nat.mul_comm (256 ^ r.length) 256,Nat.mul_assoc]
  omega
theorem aUX {b:aD} (h:b.length≤6):eV b 1≤562949953421312:=by
 have h1:=aGb (b:=b) (s:=1)
 have h2:256 ^ b.length≤256 ^ 6:=Nat.pow_le_pow_right (by decide) h
 have h3:(1+1)*256 ^ b.length≤(1+1)*256 ^ 6:=Nat.mul_le_mul_left _ h2
 have h4:(1+1)*256 ^ 6=562949953421312:=by decide
 omega
theorem aIT {b:aD} {n:Nat} (h:b.length≤6) {s:Nat} (hs:eV (b.drop n) s=eV b 1):s≤562949953421312:=by
 have h1:=aTz (b:=b.drop n) (s:=s)
 have h2:=aUX h
 omega
theorem fE {E:aR} (J:Sys E) (b:aD) (h0:b.length≤1099511627776):E 238 [sv (aU b)]=some ([gv (bI b).cs],[]):=by
 unfold bI
 refine J.run rfl rfl fun W U=>?_
 conv=>lhs;whnf
 rw[bO]
 apply U.b<;>intro g<;>conv=>lhs;whnf
 ·rw[if_pos (by simpa using g)]
  rfl
 ·rw[if_neg (by simpa using g)]
  have g:b.length≤6:=by simp at g;omega
  refine U.loop (σ:=Nat × Nat) (γ:=Nat) (fun i s=>(s.sl 4 (v1 (.t (.int .i64 i.1)))).sl 3 (v1 (.t (.int .i64 i.2)))) (fun i n=>i.1=n∧n≤b.length∧eV (b.drop n) i.2=eV b 1) (fun n=>b.length-n) (fun _=>([gv (Sum.cs ⟨bB b,eV b 1⟩)],[])) (0,1) 0 ?_ ?_ ?_ ?_
  ·intro K
   conv=>lhs;whnf
   conv=>rhs;whnf
   try rfl
  ·exact⟨rfl,by omega,rfl⟩
  ·rintro kl ⟨n,x⟩ _ ⟨rfl,hn,hs⟩ ih
   simp only at hs hn
   conv=>lhs;whnf
   apply U.b<;>intro h2<;>conv=>lhs;whnf
   ·have h2:n<b.length:=by simpa[aJ] using h2
    have hx:=aIT g hs
    have hc:=UInt8.toNat_lt b[n]
    rw[List.drop_eq_getElem_cons h2,eV]at hs
    repeat((first|apply U.t|apply U.f|(apply U.q;exact aE)|(refine U.w (cG ?_) ?_;omega));conv=>lhs;whnf)
    refine ih (n+1,256*x+b[n].toNat) (n+1) _ ?_ ⟨rfl,by omega,hs⟩ (by omega)
    intro K
    conv=>lhs;whnf
    conv=>rhs;whnf
    try rfl
    rw[show IntKind.i64.wrap ((n:Int)+1)=_ from aK (by omega),show IntKind.i64.wrap (256*(x:Int))=256*(x:Int) from aI (by omega),show IntKind.i64.wrap (b[n].toNat:Int)=b[n].toNat from aI (by omega),show IntKind.i64.wrap (256*(x:Int)+b[n].toNat)=((256*x+b[n].toNat:Nat):Int) from(aI (n:=256*(x:Int)+b[n].toNat) (by omega)).trans (by push_cast;rfl)]
    try rfl
   ·have:n=b.length:=by simp[aJ]at h2;omega
    subst this
    rw[List.drop_length,eV]at hs
    apply U.w (eO J b h0)
    conv=>lhs;whnf
    repeat((first|apply U.t|apply U.f|(apply U.q;exact aE));conv=>lhs;whnf)
    rw[← hs];rfl
  ·rfl
theorem aDp {E:aR} (J:Sys E) (b:aD) (h0:b.length≤1099511627776):E 251 [sv (aU b)]=some ([gv (bI b).cs],[]):=by
 unfold bI
 refine J.run rfl rfl fun W U=>?_
 conv=>lhs;whnf
 rw[bO]
 apply U.b<;>intro g<;>conv=>lhs;whnf
 ·rw[if_pos (by simpa using g)]
  rfl
 ·rw[if_neg (by simpa using g)]
  have g:b.length≤6:=by simp at g;omega
  refine U.loop (σ:=Nat × Nat) (γ:=Nat) (fun i s=>(s.sl 12 (v1 (.t (.int .i64 i.1)))).sl 3 (v1 (.t (.int .i64 i.2)))) (fun i n=>i.1=n∧n≤b.length∧eV (b.drop n) i.2=eV b 1) (fun n=>b.length-n) (fun _=>([gv (Sum.cs ⟨bB b,eV b 1⟩)],[])) (0,1) 0 ?_ ?_ ?_ ?_
  ·intro K
   conv=>lhs;whnf
   conv=>rhs;whnf
   try rfl
  ·exact⟨rfl,by omega,rfl⟩
  ·rintro kl ⟨n,x⟩ _ ⟨rfl,hn,hs⟩ ih
   simp only at hs hn
   conv=>lhs;whnf
   apply U.b<;>intro h2<;>conv=>lhs;whnf
   ·have h2:n<b.length:=by simpa[aJ] using h2
    have hx:=aIT g hs
    rw[List.drop_eq_getElem_cons h2,eV]at hs
    repeat((first|apply U.t|apply U.f|(apply U.q;exact aE)|(refine U.w (cG ?_) ?_;omega));conv=>lhs;whnf)
    refine ih (n+1,256*x+b[n].toNat) (n+1) _ ?_ ⟨rfl,by omega,hs⟩ (by omega)
    intro K
    conv=>lhs;whnf
    conv=>rhs;whnf
    try rfl
    rw[show IntKind.i64.wrap ((n:Int)+1)=_ from aK (by omega),← aUW hx]
    try rfl
   ·have:n=b.length:=by simp[aJ]at h2;omega
    subst this
    rw[List.drop_length,eV]at hs
    apply U.w (fQ J b h0)
    conv=>lhs;whnf
    repeat((first|apply U.t|apply U.f|(apply U.q;exact aE));conv=>lhs;whnf)
    rw[← hs];rfl
  ·rfl
theorem jJ {size n i:Int}:(aX size n i=0∧bP size n i=0)∨(0≤bP size n i∧1≤aX size n i∧aX size n i≤6∧bP size n i+aX size n i≤n∧n≤240):=by
 unfold aX bP
 by_cases h:aW i 0 (IntKind.i64.wrap (bA size n-1))=true
 ·right
  rw[if_pos h,if_pos h]
  have h1:=bS h
  by_cases hs:cL size n=true
  ·obtain⟨e1,e2,e3⟩:=mV hs
   obtain⟨s1,s2,s3,s4⟩:=xP hs
   rw[show IntKind.i64.wrap (bA size n-1)=bA size n-1 from aI (by omega)]at h1
   rw[e1]at h1
   obtain h5|h5|h5|h5|h5:size=2∨size=3∨size=4∨size=5∨size=6:=by omega
   all_goals
    subst h5
    have h6:0≤i∧i≤120:=by omega
    rw[show IntKind.i64.wrap (i*_)=i*_ from aI (by omega)]
    rw[show IntKind.i64.wrap (n-i*_)=n-i*_ from aI (by omega)]
    unfold wA
    split<;>omega
  ·have:bA size n=0:=by unfold bA;rw[if_neg hs]
   rw[this,show IntKind.i64.wrap ((0:Int)-1) = -1 from by decide]at h1
   omega
 ·left
  rw[if_neg h,if_neg h];exact⟨rfl,rfl⟩
def eR (b:aD) (size i:Int):aD:=(b.drop (bP size b.length i).toNat).take (aX size b.length i).toNat
def aRV (b:aD) (size i:Int):Bool := !decide (aX size b.length i=0)
theorem jK (b:aD) (l n:Nat):((aU b).drop l).take n=aU ((b.drop l).take n):=by rw[aRQ,aLx]
theorem aJ3 {E:aR} (J:Sys E) (b:aD) (at_ n:Int) (h0:b.length≤1048576) (h1:0≤at_) (h2:0≤n) (h3:at_+n≤b.length):E 255 [sv (aU b),iv at_,iv n]=some ([ov 1 (aU ((b.drop at_.toNat).take n.toNat)),bv true],[]):=by
 have ha:=cP J at_ 0 b.length
 have hb:=cP J n 0 (b.length-at_)
 rw[show aW at_ 0 b.length=true from by simp[aW];omega]at ha
 rw[show aW n 0 (b.length-at_)=true from by simp[aW];omega]at hb
 refine J.run rfl rfl fun W U=>?_
 conv=>lhs;whnf
 rw[bO]
 apply U.w (ha)
 conv=>lhs;whnf
 repeat((first|apply U.t|apply U.f|(apply U.q;exact aE));conv=>lhs;whnf)
 rw[bO]
 rw[show IntKind.i64.wrap ((b.length:Int)-at_)=b.length-at_ from aI (by omega)]
 apply U.w (hb)
 conv=>lhs;whnf
 repeat((first|apply U.t|apply U.f|(apply U.q;exact aE));conv=>lhs;whnf)
 rw[show IntKind.i64.wrap (at_+n)=at_+n from aI (by omega)]
 repeat((first|apply U.t|apply U.f|(apply U.q;exact aE));conv=>lhs;whnf)
 refine U.q (by exact⟨by omega,by rw[aJ];omega,bK b⟩) ?_
 conv=>lhs;whnf
 rw[jK]
 apply U.w (eM J _ (by simp;omega))
 conv=>lhs;whnf
 repeat((first|apply U.t|apply U.f|(apply U.q;exact aE));conv=>lhs;whnf)
 rw[show(at_+n).toNat-at_.toNat=n.toNat from by omega]
 rfl
theorem wB {E:aR} (J:Sys E) (b:aD) (size i:Int) (h0:b.length≤1048576):E 237 [sv (aU b),iv size,iv i]=some ([ov 1 (aU (eR b size i)),bv (aRV b size i)],[]):=by
 unfold eR aRV
 refine J.run rfl rfl fun W U=>?_
 conv=>lhs;whnf
 rw[bO]
 apply U.w (eN J size b.length i)
 conv=>lhs;whnf
 repeat((first|apply U.t|apply U.f|(apply U.q;exact aE));conv=>lhs;whnf)
 have hs:=jJ (size:=size) (n:=b.length) (i:=i)
 generalize bP size b.length i=at_ at hs ⊢
 generalize aX size b.length i=n at hs ⊢
 apply U.b<;>intro g<;>conv=>lhs;whnf
 ·have g:n=0:=by simpa using g
  subst g
  rfl
 ·have g:n≠0:=by simpa using g
  repeat((first|apply U.t|apply U.f|(apply U.q;exact aE));conv=>lhs;whnf)
  rw[show IntKind.i64.wrap (at_+n)=at_+n from aI (by omega)]
  repeat((first|apply U.t|apply U.f|(apply U.q;exact aE));conv=>lhs;whnf)
  refine U.q (by exact⟨by omega,by rw[aJ];omega,bK b⟩) ?_
  conv=>lhs;whnf
  rw[jK]
  refine U.q (by exact⟨by decide,bK _,by rw[aJ];simp;omega,by rw[aJ];simp;omega⟩) ?_
  conv=>lhs;whnf
  apply U.bt (cZ _)
  conv=>lhs;whnf
  rw[show(at_+n).toNat-at_.toNat=n.toNat from by omega,decide_eq_false g]
  rfl
def aLF (b:aD) (size:Int):Nat:=(bA size b.length).toNat
def aE6 (b:aD) (size:Int) (n:Nat):List Sum:=(List.range n).map fun i:Nat=>bI (eR b size (i:Int))
def iN (b:aD) (size:Int):List Sum:=aE6 b size (aLF b size)
theorem pM (size n:Int):0≤bA size n∧bA size n≤40:=by
 by_cases h:cL size n=true
 ·exact(mV h).2
 ·unfold bA;rw[if_neg h];omega
theorem xQ (b:aD) (size:Int) (n:Nat):(aE6 b size n).length=n:=by simp[aE6]
theorem aM7 (b:aD) (size:Int) (n:Nat):(aE6 b size n).map Sum.row++[Sum.row (bI (eR b size n))]=(aE6 b size (n+1)).map Sum.row:=by
 simp[aE6,List.range_succ]
theorem aE7 (b:aD) (size:Int):(iN b size).length≤40:=by
 have:=pM size b.length
 unfold iN aLF
 rw[xQ];omega
theorem pN (b:aD) (size i:Int):(eR b size i).length≤b.length:=by
 unfold eR;simp;omega
theorem aAq {E:aR} (J:Sys E) (b:aD) (size:Int) (h0:b.length≤1048576):E 234 [sv (aU b),iv size]=some ([ov 2 ((iN b size).map Sum.row)],[]):=by
 have hb:=pM size b.length
 have hk:((aLF b size:Nat):Int)=bA size b.length:=by unfold aLF;omega
 refine J.run rfl rfl fun W U=>?_
 conv=>lhs;whnf
 refine U.loop (σ:=Nat) (γ:=Nat) (fun i s=>(s.sl 6 (v1 (.t (.int .i64 i)))).bl ⟨50500,2, .own,(aE6 b size i).map Sum.row⟩) (fun i n=>i=n∧n≤aLF b size) (fun n=>aLF b size-n) (fun _=>([ov 2 ((iN b size).map Sum.row)],[])) 0 0 ?_ ?_ ?_ ?_
 ·intro K
  conv=>lhs;whnf
  conv=>rhs;whnf
  try rfl
 ·exact⟨rfl,by omega⟩
 ·rintro kl n _ ⟨rfl,hn⟩ ih
  conv=>lhs;whnf
  rw[bO]
  apply U.w (iK J size b.length)
  conv=>lhs;whnf
  try(apply U.q;exact aE;conv=>lhs;whnf)
  apply U.b<;>intro g1<;>conv=>lhs;whnf
  ·have g1:(n:Int)<bA size b.length:=by simpa using g1
   apply U.w (wB J b size n h0)
   conv=>lhs;whnf
   repeat((first|apply U.t|apply U.f|(apply U.q;exact aE));conv=>lhs;whnf)
   apply U.w (fE J (eR b size n) (Nat.le_trans (pN b size n) (by omega)))
   conv=>lhs;whnf
   repeat((first|apply U.t|apply U.f|(apply U.q;exact aE));conv=>lhs;whnf)
   refine U.q (by exact⟨by decide,by intro e he;simp at he;subst he;rfl,by simp[xQ];omega,by simp[xQ];omega⟩) ?_
   conv=>lhs;whnf
   repeat((first|apply U.t|apply U.f|(apply U.q;exact aE));conv=>lhs;whnf)
   refine ih (n+1) (n+1) _ ?_ ⟨rfl,by omega⟩ (by omega)
   intro K
   conv=>lhs;whnf
   conv=>rhs;whnf
   try rfl
   rw[show IntKind.i64.wrap ((n:Int)+1)=_ from aK (by omega)]
   rw[← aM7]
   rfl
  ·have g1:¬ (n:Int)<bA size b.length:=by simpa using g1
   have:n=aLF b size:=by omega
   subst this
   rfl
 ·rfl
def aHd (m:Man) (b:aD):Bool:=decide ((b.length:Int)=m.len)&&decide (iN b m.size=m.sums)
theorem aJ4 {E:aR} (J:Sys E) (m:Man) (b:aD) (h0:b.length≤1048576):E 233 [gv (m.cs aO),sv (aU b)]=some ([bv (aHd m b)],[]):=by
 have hl:=Nat.le_trans (aE7 b m.size) (show 40≤1099511627776 from by decide)
 refine J.run rfl rfl fun W U=>?_
 conv=>lhs;whnf
 rw[bO]
 repeat'((first|apply U.t|apply U.f|(apply U.q;exact aE)|apply U.w (aAq J b m.size h0)|apply U.w (sE J (iN b m.size) m.sums hl)|(apply U.b<;>intro h))<;>conv=>lhs;whnf)
 all_goals(refine congrArg (fun b=>(some ([bv b],[]):Option dA)) ?_;first|rfl|(simp_all [aHd];done)|(simp_all [aHd]<;>(intros;omega)))
theorem aVG (b:aD) (n:Nat):((aU b).drop 0).take (n-0)=aU (b.take n):=by rw[jK];simp
def lJ (gen:Int) (b:aD) (size:Int):Man:=if aW gen 1 1000000=true∧cL size b.length=true then⟨gen,size,b.length,iN b size⟩ else⟨0,0,0,[]⟩
theorem aJ5 {E:aR} (J:Sys E) (gen:Int) (b:aD) (size:Int) (h0:b.length≤1048576):E 462 [iv gen,sv (aU b),iv size]=some ([gv ((lJ gen b size).cs dH)],[]):=by
 have ha:=bR J gen 1 1000000
 have hb:=oG J size b.length
 unfold lJ
 cases h1:aW gen 1 1000000
 ·rw[h1]at ha
  rw[if_neg (by simp)]
  refine J.run rfl rfl fun W U=>?_
  conv=>lhs;whnf
  repeat'((first|apply U.t|apply U.f|(apply U.q;exact aE)|apply U.w (ha)|(apply U.b<;>intro h))<;>conv=>lhs;whnf)
  rfl
 ·rw[h1]at ha
  cases h2:cL size b.length
  ·rw[h2]at hb
   rw[if_neg (by simp)]
   refine J.run rfl rfl fun W U=>?_
   conv=>lhs;whnf
   try rw[bO]
   repeat'((first|apply U.t|apply U.f|(apply U.q;exact aE)|apply U.w (ha)|(apply U.b<;>intro h))<;>conv=>lhs;whnf)
   rw[bO]
   repeat'((first|apply U.t|apply U.f|(apply U.q;exact aE)|apply U.w (hb)|(apply U.b<;>intro h))<;>conv=>lhs;whnf)
   rfl
  ·rw[h2]at hb
   rw[if_pos ⟨rfl,rfl⟩]
   refine J.run rfl rfl fun W U=>?_
   conv=>lhs;whnf
   repeat'((first|apply U.t|apply U.f|(apply U.q;exact aE)|apply U.w (ha)|(apply U.b<;>intro h))<;>conv=>lhs;whnf)
   rw[bO]
   repeat'((first|apply U.t|apply U.f|(apply U.q;exact aE)|apply U.w (hb)|(apply U.b<;>intro h))<;>conv=>lhs;whnf)
   rw[bO]
   repeat'((first|apply U.t|apply U.f|(apply U.q;exact aE)|apply U.w (aAq J b size h0)|(apply U.b<;>intro h))<;>conv=>lhs;whnf)
   rfl
def aIU:aD→Int
 |[]=>0
 |c::r=>c.toNat+aIU r
def aIV:aD→Int
 |[]=>0
 |c::r=>((r.length:Int)+1)*c.toNat+aIV r
theorem aPm {a b k:Int} (h:a=b+251*k):a%251=b%251:=by omega
theorem aRW {b:aD}:∀ {x y:Int},(0≤x∧x<251)→(0≤y∧y<251)→(jY b x y).1=(x+aIU b)%251∧(jY b x y).2=(y+(b.length:Int)*x+aIV b)%251:=by
 induction b with
 |nil=>intro x y h h';simp only[jY,aIU,aIV,List.length_nil];constructor<;>omega
 |cons c r ih =>
  intro x y h h'
  have hc:=UInt8.toNat_lt c
  have h1:=aRT (c:=c) h
  have h2:=aUe h1 h'
  obtain⟨i1,i2⟩:=ih h1 h2
  have e1:wx x c=(x+c.toNat)%251:=by
   unfold wx
   rw[show IntKind.i64.wrap (c.toNat:Int)=c.toNat from aI (by omega),show IntKind.i64.wrap (x+c.toNat)=x+c.toNat from aI (by omega),Int.tmod_eq_emod_of_nonneg (by omega)]
  have e2:wy y (wx x c)=(y+wx x c)%251:=by
   unfold wy
   rw[show IntKind.i64.wrap (y+wx x c)=y+wx x c from aI (by omega),Int.tmod_eq_emod_of_nonneg (by omega)]
  simp only[jY,aIU,aIV,List.length_cons]
  rw[i1,i2]
  constructor
  ·omega
  ·generalize wx x c=x1 at *
   generalize wy y x1=y1 at *
   obtain⟨q,hq⟩:∃ q,x+c.toNat=251*q+x1:=⟨(x+c.toNat)/251,by omega⟩
   obtain⟨p,hp⟩:∃ p,y+x1=251*p+y1:=⟨(y+x1)/251,by omega⟩
   have m1:(r.length:Int)*(x+c.toNat)=251*((r.length:Int)*q)+r.length*x1:=by
    rw[hq,Int.mul_add,Int.mul_left_comm]
   have m2:(r.length:Int)*(x+c.toNat)=(r.length:Int)*x+r.length*c.toNat:=Int.mul_add _ _ _
   have m3:((r.length:Int)+1)*c.toNat=r.length*c.toNat+c.toNat:=by rw[Int.add_mul,Int.one_mul]
   have m4:(((r.length+1:Nat):Int))*x=r.length*x+x:=by push_cast;rw[Int.add_mul,Int.one_mul]
   rw[m3,m4]
   apply(aPm (k:=(r.length:Int)*q+q+p) ?_).symm
   generalize (r.length:Int)*q=u at *
   generalize (r.length:Int)*x1=v at *
   generalize (r.length:Int)*x=w at *
   generalize (r.length:Int)*(c.toNat:Int)=z at *
   omega
theorem qY (b:aD):bB b=aIU b%251+251*(aIV b%251):=by
 obtain⟨h1,h2⟩:=aRW (b:=b) (x:=0) (y:=0) (by omega) (by omega)
 unfold bB
 rw[h1,h2]
 rw[show(0:Int)+(b.length:Int)*0+aIV b=aIV b from by omega,show(0:Int)+aIU b=aIU b from by omega]
 rw[show IntKind.i64.wrap (251*(aIV b%251))=251*(aIV b%251) from aI (by omega)]
 exact aI (by omega)
theorem aRX {r:aD} {c:UInt8}:aIU (r++[c])=aIU r+c.toNat:=by
 induction r with
 |nil=>simp[aIU]
 |cons a r ih=>simp only[List.cons_append,aIU,ih];omega
theorem aRY {r:aD} {c:UInt8}:aIV (r++[c])=aIV r+aIU r+c.toNat:=by
 induction r with
 |nil=>simp[aIU,aIV]
 |cons a r ih =>
  simp only[List.cons_append,aIV,aIU,ih,List.length_append,List.length_cons,List.length_nil]
  have:((r.length+(0+1):Nat):Int)+1=((r.length:Int)+1)+1:=by push_cast;omega
  rw[this,Int.add_mul ((r.length:Int)+1) 1,Int.one_mul]
  omega
theorem aA4 {n:Int} (h : -1000000000000000≤n∧n≤1000000000000000):aE4 n 251=n%251:=by
 unfold aE4
 rw[if_pos (by decide)]
 by_cases h0:0≤n
 ·rw[Int.tmod_eq_emod_of_nonneg h0,show IntKind.i64.wrap (n%251+251)=n%251+251 from aI (by omega),Int.tmod_eq_emod_of_nonneg (by omega)]
  omega
 ·obtain⟨m,rfl⟩:∃ m,n = -m:=⟨-n,by omega⟩
  have e:(-m).tmod 251 = -(m%251):=by rw[Int.neg_tmod,Int.tmod_eq_emod_of_nonneg (by omega)]
  rw[e,show IntKind.i64.wrap (-(m%251)+251) = -(m%251)+251 from aI (by omega),Int.tmod_eq_emod_of_nonneg (by omega)]
  omega
theorem aE8 {E:aR} (J:Sys E) (w:Int):E 266 [iv w]=some ([bv (aW w 0 63000)],[]):=by
 refine J.run rfl rfl fun W U=>?_
 conv=>lhs;whnf
 repeat'((first|apply U.t|apply U.f|(apply U.q;exact aE)|apply U.w (bR J _ _ _)|(apply U.b<;>intro h))<;>conv=>lhs;whnf)
 rfl
theorem aDq {E:aR} (J:Sys E) (b:aD):E 267 [iv (bB b)]=some ([iv (aIU b%251),iv (aIV b%251)],[]):=by
 have e:=qY b
 generalize bB b=w at e ⊢
 have h:=aE8 J w
 rw[show aW w 0 63000=true from by simp[aW];omega]at h
 refine J.run rfl rfl fun W U=>?_
 conv=>lhs;whnf
 repeat'((first|apply U.t|apply U.f|(apply U.q;exact aE)|apply U.w (h)|(apply U.b<;>intro h))<;>conv=>lhs;whnf)
 rw[Int.tmod_eq_emod_of_nonneg (by omega),Int.tdiv_eq_ediv_of_nonneg (by omega),show IntKind.i64.wrap (w/251)=w/251 from aI (by omega)]
 rw[show w%251=aIU b%251 from by omega,show w/251=aIV b%251 from by omega]
 rfl
theorem aLG {E:aR} (J:Sys E) (o:UInt8) (r:aD) (c:UInt8) (n:Int) (hn:n=r.length+1) (hr:r.length≤6):E 265 [iv (bB (o::r)),iv n,iv (o.toNat:Int),iv (c.toNat:Int)]=some ([iv (bB (r++[c]))],[]):=by
 have ho:=UInt8.toNat_lt o
 have hc:=UInt8.toNat_lt c
 have h:=aE8 J (bB (o::r))
 have e:=qY (o::r)
 rw[show aW (bB (o::r)) 0 63000=true from by simp[aW];omega]at h
 have h1:=bR J n 1 1000000000000
 rw[show aW n 1 1000000000000=true from by simp[aW];omega]at h1
 have h2:=bR J o.toNat 0 255
 rw[show aW o.toNat 0 255=true from by simp[aW];omega]at h2
 have h3:=bR J c.toNat 0 255
 rw[show aW c.toNat 0 255=true from by simp[aW];omega]at h3
 refine J.run rfl rfl fun W U=>?_
 conv=>lhs;whnf
 repeat'((first|apply U.t|apply U.f|(apply U.q;exact aE)|apply U.w (h)|apply U.w (h1)|apply U.w (h2)|apply U.w (h3)|apply U.w (aDq J (o::r))|apply U.w (aLC J _ _)|(apply U.b<;>intro h))<;>conv=>lhs;whnf)
 have hz:0≤n*(o.toNat:Int)∧n*(o.toNat:Int)≤7*255:=⟨Int.mul_nonneg (by omega) (by omega),Int.mul_le_mul (by omega) (by omega) (by omega) (by omega)⟩
 have hP:aIV (o::r)=n*o.toNat+aIV r:=by rw[aIV,hn]
 have hS:aIU (o::r)=o.toNat+aIU r:=rfl
 have n1:n.tmod 251=n:=by rw[Int.tmod_eq_emod_of_nonneg (by omega)];omega
 rw[qY (r++[c]),aRX,aRY,n1]
 rw[show IntKind.i64.wrap (n*(o.toNat:Int))=n*o.toNat from aI (by omega)]
 rw[hP,hS]
 generalize n*(o.toNat:Int)=z at *
 generalize hx:(o.toNat+aIU r)%251=X
 generalize hy:(z+aIV r)%251=Y
 rw[show IntKind.i64.wrap (X-(o.toNat:Int))=X-o.toNat from aI (by omega),show IntKind.i64.wrap (X-(o.toNat:Int)+c.toNat)=X-o.toNat+c.toNat from aI (by omega),show IntKind.i64.wrap (Y-z)=Y-z from aI (by omega)]
 rw[aA4 (n:=X-o.toNat+c.toNat) (by omega),aA4 (n:=Y-z) (by omega)]
 rw[show IntKind.i64.wrap ((Y-z)%251+(X-(o.toNat:Int)+c.toNat)%251)=(Y-z)%251+(X-(o.toNat:Int)+c.toNat)%251 from aI (by omega)]
 rw[aA4 (n:=(Y-z)%251+(X-(o.toNat:Int)+c.toNat)%251) (by omega)]
 rw[show IntKind.i64.wrap (251*(((Y-z)%251+(X-(o.toNat:Int)+c.toNat)%251)%251))=251*(((Y-z)%251+(X-(o.toNat:Int)+c.toNat)%251)%251) from aI (by omega)]
 refine congrArg (fun b=>(some ([iv b],[]):Option dA)) ((aI (by omega)).trans ?_)
 omega
def aIW (b:aD) (n i:Nat):aD:=(b.drop i).take n
def wC (b:aD) (n k:Nat):List Int:=(List.range k).map fun i=>bB (aIW b n i)
theorem pO (b:aD) (n k:Nat):(wC b n k).length=k:=by simp[wC]
theorem aM8 (b:aD) (n k:Nat):bD (wC b n k)++[[ti (bB (aIW b n k))]]=bD (wC b n (k+1)):=by
 simp[wC,List.range_succ,bD,kK]
def eW (b:aD) (n:Nat):List Int:=wC b n (if n≤b.length then b.length+1-n else 0)
theorem aRZ {b:aD} {n i:Nat} (hn:1≤n) (h:i+n<b.length):∃ r:aD,r.length+1=n∧aIW b n i=b[i]::r∧aIW b n (i+1)=r++[b[i+n]]:=by
 refine⟨(b.drop (i+1)).take (n-1),?_,?_,?_⟩
 ·simp;omega
 ·unfold aIW
  rw[List.drop_eq_getElem_cons (show i<b.length by omega)]
  obtain⟨m,rfl⟩:∃ m,n=m+1:=⟨n-1,by omega⟩
  rw[List.take_succ_cons];rfl
 ·unfold aIW
  obtain⟨m,rfl⟩:∃ m,n=m+1:=⟨n-1,by omega⟩
  rw[List.take_add_one]
  simp only[Nat.add_sub_cancel,List.getElem?_drop]
  rw[show i+1+m=i+(m+1) from by omega,List.getElem?_eq_getElem h]
  rfl
theorem aHe {E:aR} (J:Sys E) (b:aD) (n:Nat) (hb:b.length≤1048576) (hn:1≤n∧n≤6):E 264 [sv (aU b),iv n]=some ([ov 1 (bD (eW b n))],[]):=by
 unfold eW
 refine J.run rfl rfl fun W U=>?_
 conv=>lhs;whnf
 apply U.b<;>intro g0<;>conv=>lhs;whnf
 ·have:(n:Int)<1:=by simpa using g0
  omega
 ·repeat((first|apply U.t|apply U.f|(apply U.q;exact aE));conv=>lhs;whnf)
  rw[bO]
  apply U.b<;>intro g<;>conv=>lhs;whnf
  ·have g:(n:Int)>b.length:=by simpa using g
   rw[if_neg (by omega)]
   rfl
  ·have g:¬ (n:Int)>b.length:=by simpa using g
   rw[if_pos (by omega)]
   repeat((first|apply U.t|apply U.f|(apply U.q;exact aE));conv=>lhs;whnf)
   refine U.q (by exact⟨by omega,by rw[aJ];omega,bK b⟩) ?_
   conv=>lhs;whnf
   rw[aVG,show((n:Int).toNat)=n from by omega]
   apply U.w (eO J (b.take n) (by simp;omega))
   conv=>lhs;whnf
   repeat((first|apply U.t|apply U.f|(apply U.q;exact aE));conv=>lhs;whnf)
   refine U.loop (σ:=Nat) (γ:=Nat) (fun i s=>((s.sl 7 (v1 (.t (.int .i64 (i+n:Nat))))).sl 6 (v1 (.t (.int .i64 (bB (aIW b n i)))))).bl ⟨50500,1, .own,bD (wC b n (i+1))⟩) (fun i m=>i=m∧m+n≤b.length) (fun m=>b.length-m) (fun _=>([ov 1 (bD (wC b n (b.length+1-n)))],[])) 0 0 ?_ ?_ ?_ ?_
   ·intro K
    conv=>lhs;whnf
    conv=>rhs;whnf
    try rfl
    simp[wC,aIW,bD,kK]
   ·exact⟨rfl,by omega⟩
   ·rintro kl i _ ⟨rfl,hi⟩ ih
    conv=>lhs;whnf
    rw[bO]
    apply U.b<;>intro g1<;>conv=>lhs;whnf
    ·have g1:i+n<b.length:=by
      have:((i+n:Nat):Int)<b.length:=by simpa using g1
      omega
     obtain⟨r,r1,r2,r3⟩:=aRZ hn.1 g1
     have c1:=UInt8.toNat_lt b[i]
     have c2:=UInt8.toNat_lt b[i+n]
     rw[show IntKind.i64.wrap (((i+n:Nat):Int)-(n:Int))=(i:Int) from(aI (by omega)).trans (by omega)]
     repeat((first|apply U.t|apply U.f|(apply U.q;exact aE)|(refine U.w (cG ?_) ?_;omega));conv=>lhs;whnf)
     rw[show IntKind.i64.wrap (b[i].toNat:Int)=b[i].toNat from aI (by omega),show IntKind.i64.wrap (b[i+n].toNat:Int)=b[i+n].toNat from aI (by omega),r2]
     apply U.w (aLG J b[i] r b[i+n] n (by omega) (by omega))
     conv=>lhs;whnf
     repeat((first|apply U.t|apply U.f|(apply U.q;exact aE));conv=>lhs;whnf)
     refine U.q (by exact⟨by decide,by intro e he;simp at he;subst he;rfl,by simp[pO,bD];omega,by simp[pO,bD];omega⟩) ?_
     conv=>lhs;whnf
     repeat((first|apply U.t|apply U.f|(apply U.q;exact aE));conv=>lhs;whnf)
     refine ih (i+1) (i+1) _ ?_ ⟨rfl,by omega⟩ (by omega)
     intro K
     conv=>lhs;whnf
     conv=>rhs;whnf
     try rfl
     rw[show IntKind.i64.wrap (((i+n:Nat):Int)+1)=((i+1+n:Nat):Int) from(aK (by omega)).trans (by omega),← aM8 b n (i+1),r3]
     rfl
    ·have g1:¬ i+n<b.length:=by
      have:¬ ((i+n:Nat):Int)<b.length:=by simpa using g1
      omega
     rw[show b.length+1-n=i+1 from by omega]
     rfl
   ·rfl
def aHf (p:Nat→Bool):Nat→Nat→Int
 |_,0 => -1
 |i,k+1=>if p i=true then(i:Int) else aHf p (i+1) k
def mW (b:aD) (s:Sum) (n:Int):Int:=if aW n 1 6=true then aHf (fun i=>decide (bI (aIW b n.toNat i)=s)) 0 (eW b n.toNat).length else -1
theorem aTA (b:aD) (n i:Nat):(aIW b n i).length≤n:=by simp[aIW];omega
theorem aPn {w:aD} (h:w.length≤6) (s:Sum):(decide (bB w=s.w)&&decide (bI w=s))=decide (bI w=s):=by
 have:(bI w).w=bB w:=by unfold bI;rw[if_neg (by omega)]
 rw[Bool.eq_iff_iff]
 simp only[Bool.and_eq_true,decide_eq_true_eq]
 constructor
 ·exact fun h=>h.2
 ·intro h;exact⟨by rw[← this,h],h⟩
theorem aR0 (b:aD) (n k i:Nat) (h:i<k):(wC b n k)[i]?=some (bB (aIW b n i)):=by simp[wC,h]
theorem aHg {E:aR} (J:Sys E) (b:aD) (s:Sum) (n:Int) (hb:b.length≤1048576):E 263 [sv (aU b),gv s.cs,iv n]=some ([iv (mW b s n)],[]):=by
 have h1:=bR J n 1 6
 unfold mW
 cases hn:aW n 1 6
 ·rw[hn]at h1
  refine J.run rfl rfl fun W U=>?_
  conv=>lhs;whnf
  repeat'((first|apply U.t|apply U.f|(apply U.q;exact aE)|apply U.w (h1)|(apply U.b<;>intro h))<;>conv=>lhs;whnf)
  rfl
 ·rw[hn]at h1
  have hr:=bS hn
  obtain⟨m,rfl⟩:∃ m:Nat,n=m:=⟨n.toNat,by omega⟩
  rw[show((m:Int).toNat)=m from by omega]
  have hl:(bD (eW b m)).length=(eW b m).length:=List.length_map _
  have hl2:(eW b m).length+m≤b.length+1∨(eW b m).length=0:=by
   unfold eW;rw[pO];split<;>omega
  have hg:∀ i (h:i<(eW b m).length),(bD (eW b m))[(i:Int).toNat]?=some (kK (bB (aIW b m i))):=by
   intro i h
   unfold eW at h ⊢
   rw[pO]at h
   rw[bD,List.getElem?_map,show((i:Int).toNat)=i from by omega,aR0 _ _ _ _ h]
   rfl
  simp only[if_true]
  refine J.run rfl rfl fun W U=>?_
  conv=>lhs;whnf
  apply U.w (h1)
  conv=>lhs;whnf
  repeat((first|apply U.t|apply U.f|(apply U.q;exact aE));conv=>lhs;whnf)
  apply U.w (aHe J b m hb (by omega))
  conv=>lhs;whnf
  repeat((first|apply U.t|apply U.f|(apply U.q;exact aE));conv=>lhs;whnf)
  generalize eW b m=l at hl hl2 hg ⊢
  refine U.loop (σ:=Nat) (γ:=Nat) (fun i s=>s.sl 8 (v1 (.t (.int .i64 i)))) (fun i k=>i=k∧k≤l.length) (fun k=>l.length-k) (fun k=>([iv (aHf (fun i=>decide (bI (aIW b m i)=s)) k (l.length-k))],[])) 0 0 ?_ ?_ ?_ ?_
  ·intro K
   conv=>lhs;whnf
   conv=>rhs;whnf
   try rfl
  ·exact⟨rfl,by omega⟩
  ·rintro kl i _ ⟨rfl,hi⟩ ih
   conv=>lhs;whnf
   apply U.b<;>intro g1<;>conv=>lhs;whnf
   ·have g1:i<l.length:=by simpa[hl] using g1
    have hw:=aTA b m i
    rw[show l.length-i=(l.length-(i+1))+1 from by omega,aHf,← aPn (by omega)]
    repeat((first|apply U.t|apply U.f|(apply U.q;exact aE));conv=>lhs;whnf)
    apply U.w (hg i g1)
    conv=>lhs;whnf
    repeat((first|apply U.t|apply U.f|(apply U.q;exact aE));conv=>lhs;whnf)
    apply U.w (hg i g1)
    conv=>lhs;whnf
    repeat((first|apply U.t|apply U.f|(apply U.q;exact aE));conv=>lhs;whnf)
    apply U.b<;>intro g2<;>conv=>lhs;whnf
    ·rw[g2]
     repeat((first|apply U.t|apply U.f|(apply U.q;exact aE));conv=>lhs;whnf)
     rw[show IntKind.i64.wrap ((i:Int)+(m:Int))=((i+m:Nat):Int) from(aI (by omega)).trans (by omega)]
     repeat((first|apply U.t|apply U.f|(apply U.q;exact aE));conv=>lhs;whnf)
     refine U.q (by exact⟨by omega,by rw[aJ];omega,bK b⟩) ?_
     conv=>lhs;whnf
     repeat((first|apply U.t|apply U.f|(apply U.q;exact aE));conv=>lhs;whnf)
     rw[show((aU b).drop (i:Int).toNat).take ((((i+m:Nat):Int)).toNat-(i:Int).toNat)=aU (aIW b m i) from by rw[jK];unfold aIW;congr 2<;>omega]
     apply U.w (fE J (aIW b m i) (by omega))
     conv=>lhs;whnf
     repeat((first|apply U.t|apply U.f|(apply U.q;exact aE));conv=>lhs;whnf)
     apply U.b<;>intro g3<;>conv=>lhs;whnf
     ·have g3:bI (aIW b m i)=s:=by
       revert g3
       generalize bI (aIW b m i)=x
       cases x;cases s
       simp
      rw[decide_eq_true g3]
      rfl
     ·have g3:bI (aIW b m i)≠s:=by intro e;rw[e]at g3;simp at g3
      rw[decide_eq_false g3]
      simp only[Bool.and_false,if_false,Bool.false_eq_true]
      refine ih (i+1) (i+1) _ ?_ ⟨rfl,by omega⟩ (by omega)
      intro K
      conv=>lhs;whnf
      conv=>rhs;whnf
      try rfl
      rw[show IntKind.i64.wrap ((i:Int)+1)=_ from aK (by omega)]
      try rfl
    ·rw[g2]
     repeat((first|apply U.t|apply U.f|(apply U.q;exact aE));conv=>lhs;whnf)
     simp only[Bool.false_and,if_false,Bool.false_eq_true]
     refine ih (i+1) (i+1) _ ?_ ⟨rfl,by omega⟩ (by omega)
     intro K
     conv=>lhs;whnf
     conv=>rhs;whnf
     try rfl
     rw[show IntKind.i64.wrap ((i:Int)+1)=_ from aK (by omega)]
   ·have:i=l.length:=by simp[hl]at g1;omega
    rw[this,Nat.sub_self];rfl
  ·rfl
def cR (b:aD) (m:Man) (i:Int):Int :=
 if i<0 then -1 else match m.sums[i.toNat]? with
 |none => -1
 |some s=>mW b s (aX m.size m.len i)
theorem aM9 (b:aD) (s:Sum):mW b s 0 = -1:=by unfold mW;rw[if_neg (by decide)]
theorem aPo {b:aD} {m:Man} {i:Int} (h:i<0∨(m.sums.length:Int)≤i):cR b m i = -1:=by
 unfold cR
 by_cases h0:i<0
 ·rw[if_pos h0]
 ·rw[if_neg h0,List.getElem?_eq_none (by omega)]
theorem aLH {b:aD} {m:Man} {n:Nat} (h:n<m.sums.length):cR b m n=mW b m.sums[n] (aX m.size m.len n):=by
 unfold cR
 rw[if_neg (by omega),show((n:Int).toNat)=n from by omega,List.getElem?_eq_getElem h]
theorem aR1 {size n i:Int} (h:i<0):aX size n i=0:=by
 unfold aX
 rw[if_neg (by simp[aW];omega)]
theorem aHh {E:aR} (J:Sys E) (b:aD) (m:Man) (i:Int) (hb:b.length≤1048576) (_:m.sums.length≤8388608):E 262 [sv (aU b),gv (m.cs aO),iv i]=some ([iv (cR b m i)],[]):=by
 refine J.run rfl rfl fun W U=>?_
 conv=>lhs;whnf
 apply U.w (eN J m.size m.len i)
 conv=>lhs;whnf
 repeat((first|apply U.t|apply U.f|(apply U.q;exact aE));conv=>lhs;whnf)
 apply U.b<;>intro g1<;>conv=>lhs;whnf
 ·have g1:aX m.size m.len i=0:=by simpa using g1
  repeat((first|apply U.t|apply U.f|(apply U.q;exact aE));conv=>lhs;whnf)
  have e:cR b m i = -1:=by
   unfold cR
   split
   ·rfl
   ·split
    ·rfl
    ·rw[g1,aM9]
  rw[e];rfl
 ·have g1:aX m.size m.len i≠0:=by simpa using g1
  have hi:0≤i:=by
   rcases Int.lt_or_le i 0 with h|h
   ·exact absurd (aR1 h) g1
   ·exact h
  repeat((first|apply U.t|apply U.f|(apply U.q;exact aE));conv=>lhs;whnf)
  apply U.b<;>intro g2<;>conv=>lhs;whnf
  ·have g2:(m.sums.length:Int)≤i:=by simpa using g2
   rw[aPo (.inr g2)]
   rfl
  ·have g2:¬ (m.sums.length:Int)≤i:=by simpa using g2
   obtain⟨n,rfl⟩:∃ n:Nat,i=n:=⟨i.toNat,by omega⟩
   have hn:n<m.sums.length:=by omega
   rw[aLH hn]
   repeat((first|apply U.t|apply U.f|(apply U.q;exact aE)|(refine U.w (cG ?_) ?_;omega));conv=>lhs;whnf)
   apply U.w (aHg J b m.sums[n] _ hb)
   conv=>lhs;whnf
   repeat((first|apply U.t|apply U.f|(apply U.q;exact aE));conv=>lhs;whnf)
   rfl
theorem aJ6 {i:Nat} (h:i≤39):aEx i=((2 ^ i:Nat):Int)∧2 ^ i≤549755813888:=by
 have h1:2 ^ i≤2 ^ 39:=Nat.pow_le_pow_right (by decide) h
 have h2:2 ^ i≤549755813888:=Nat.le_trans h1 (by decide)
 refine⟨?_,h2⟩
 unfold aEx
 rw[show min ((i:Int).toNat) IntKind.i64.bits=i from by simp only[IntKind.bits];omega]
 rw[show(1:Int)*2 ^ i=((2 ^ i:Nat):Int) from by push_cast;omega]
 generalize 2 ^ i=p at h2 ⊢
 exact aI (by omega)
def aHS:Nat→Nat→aD→Option aD
 |0,s,acc=>if s=1 then some acc else none
 |k+1,s,acc=>if s=1 then some acc else if s<256 then none else aHS k (s/256) (dK s::acc)
def dW (s:Int):Option aD:=if aW s 1 562949953421311=true then aHS 6 s.toNat [] else none
def bQ (s:Int):aD:=(dW s).getD []
def bW (s:Int):Bool:=(dW s).isSome
theorem aPp (s:Int):IntKind.u8.wrap (IntKind.i64.wrap (BitVec.ofInt IntKind.i64.bits s &&& BitVec.ofInt IntKind.i64.bits 255).toNat)=IntKind.u8.wrap s∨¬ (0≤s∧s≤562949953421311):=by
 by_cases h:0≤s∧s≤562949953421311
 ·left
  obtain⟨n,rfl⟩:∃ n:Nat,s=n:=⟨s.toNat,by omega⟩
  rw[BitVec.toNat_and,BitVec.ofInt_natCast,show BitVec.ofInt IntKind.i64.bits 255=BitVec.ofNat IntKind.i64.bits 255 from rfl,BitVec.toNat_ofNat,BitVec.toNat_ofNat]
  rw[Nat.mod_eq_of_lt (show n<2 ^ IntKind.i64.bits from by simp only[IntKind.bits];omega),Nat.mod_eq_of_lt (show 255<2 ^ IntKind.i64.bits from by decide)]
  rw[show n &&& 255=n%256 from Nat.and_two_pow_sub_one_eq_mod n 8]
  rw[show IntKind.i64.wrap ((n%256:Nat):Int)=((n%256:Nat):Int) from aI (by omega)]
  rw[← jF,← jF]
  unfold dK
  congr 3
  omega
 ·exact .inr h
theorem aTB:∀ {k s:Nat} {acc b:aD},aHS k s acc=some b→b.length≤acc.length+k:=by
 intro k
 induction k with
 |zero=>intro s acc b h;simp only[aHS]at h;split at h;cases h;omega;cases h
 |succ k ih =>
  intro s acc b h
  simp only[aHS]at h
  split at h
  ·cases h;omega
  ·split at h
   ·cases h
   ·have:=ih h;simp only[List.length_cons]at this;omega
theorem kN (s:Int):(bQ s).length≤6:=by
 unfold bQ dW
 split
 ·cases h:aHS 6 s.toNat [] with
  |none=>simp
  |some b=>have:=aTB h;simpa using this
 ·simp
theorem aR2 {n:Nat}:((n:Int).fdiv (2 ^ (min (8:Int).toNat IntKind.i64.bits)))=((n/256:Nat):Int):=by
 rw[show(2:Int) ^ (min (8:Int).toNat IntKind.i64.bits)=256 from by decide,Int.fdiv_eq_ediv_of_nonneg _ (by decide)]
 omega
theorem wD {E:aR} (J:Sys E) (s:Int):E 308 [iv s]=some ([ov 1 (aU (bQ s)),bv (bW s)],[]):=by
 have h1:=bR J s 1 562949953421311
 unfold bQ bW dW
 cases hr:aW s 1 562949953421311
 ·rw[hr]at h1
  refine J.run rfl rfl fun W U=>?_
  conv=>lhs;whnf
  repeat'((first|apply U.t|apply U.f|(apply U.q;exact aE)|apply U.w (h1)|(apply U.b<;>intro h))<;>conv=>lhs;whnf)
  rfl
 ·rw[hr]at h1
  have hr:=bS hr
  obtain⟨n,rfl⟩:∃ n:Nat,s=n:=⟨s.toNat,by omega⟩
  simp only[if_true]
  rw[show((n:Int).toNat)=n from by omega]
  refine J.run rfl rfl fun W U=>?_
  conv=>lhs;whnf
  apply U.w (h1)
  conv=>lhs;whnf
  repeat((first|apply U.t|apply U.f|(apply U.q;exact aE));conv=>lhs;whnf)
  generalize hD:aHS 6 n []=D
  refine U.loop (σ:=Nat × aD) (γ:=Nat) (fun i s=>(s.sl 0 (v1 (.t (.int .i64 i.1)))).bl ⟨50400,1, .own,aU i.2⟩) (fun i k=>k≤6∧1≤i.1∧i.1<2*256 ^ k∧i.2.length+k≤6∧aHS k i.1 i.2=D) (fun k=>k) (fun _=>([ov 1 (aU (D.getD [])),bv D.isSome],[])) (n,[]) 6 ?_ ?_ ?_ ?_
  ·intro K
   conv=>lhs;whnf
   conv=>rhs;whnf
   try rfl
  ·exact⟨by omega,by omega,by
    have:(256:Nat) ^ 6=281474976710656:=by decide
    simp only;omega,by simp,hD⟩
  ·rintro kl ⟨m,acc⟩ k ⟨hk,hm,hlt,hl,hd⟩ ih
   simp only at hm hlt hl hd
   conv=>lhs;whnf
   apply U.b<;>intro g1<;>conv=>lhs;whnf
   ·have g1:1<m:=by
     have:(m:Int)>1:=by simpa using g1
     omega
    cases k with
    |zero=>simp at hlt;omega
    |succ k =>
     simp only[aHS,if_neg (show ¬ m=1 by omega)]at hd
     apply U.b<;>intro g2<;>conv=>lhs;whnf
     ·have g2:m<256:=by
       have:(m:Int)<256:=by simpa using g2
       omega
      rw[if_pos g2]at hd
      rw[← hd]
      rfl
     ·have g2:¬ m<256:=by
       have:¬ (m:Int)<256:=by simpa using g2
       omega
      rw[if_neg g2]at hd
      have hpow:256 ^ (k+1)=256 ^ k*256:=Nat.pow_succ ..
      have hmax:256 ^ (k+1)≤256 ^ 6:=Nat.pow_le_pow_right (by decide) hk
      have h6:(256:Nat) ^ 6=281474976710656:=by decide
      have hb:=(aPp m).resolve_right (by omega)
      refine U.q (by exact⟨by decide,bK _,by simp[aJ];omega,by simp[aJ];omega⟩) ?_
      conv=>lhs;whnf
      apply U.bt (cZ _)
      conv=>lhs;whnf
      repeat((first|apply U.t|apply U.f|(apply U.q;exact aE));conv=>lhs;whnf)
      rw[hb,aR2]
      refine ih (m/256,dK m::acc) k _ ?_ ⟨by omega,by omega,by simp only;omega,by simp only[List.length_cons];omega,hd⟩ (by omega)
      intro K
      conv=>lhs;whnf
      conv=>rhs;whnf
      try rfl
      rw[show aU (dK m::acc)=[.int .u8 (IntKind.u8.wrap m)]::aU acc from by simp[aU,nG,jF]]
      rfl
   ·have g1:¬ 1<m:=by
     have:¬ (m:Int)>1:=by simpa using g1
     omega
    have:m=1:=by omega
    subst this
    have:aHS k 1 acc=some acc:=by cases k<;>simp[aHS]
    rw[this]at hd
    rw[← hd]
    rfl
  ·rfl
def nH (m n:Nat):aD:=(List.range n).map fun i:Nat=>dK ((m/256 ^ (n-1-i):Nat):Int)
theorem aPq (m n:Nat):nH m (n+1)=dK ((m/256 ^ n:Nat):Int)::nH m n:=by
 unfold nH
 rw[List.range_succ_eq_map,List.map_cons,List.map_map]
 simp only[Nat.add_sub_cancel,Nat.sub_zero,List.cons.injEq,true_and]
 apply List.map_congr_left
 intro i hi
 simp only[Function.comp]
 congr 4
 omega
theorem aLI (m n:Nat):(nH m n).length=n:=by simp[nH]
theorem aR3 (m:Nat):∀ j,j≤6→(∀ i,i<j→256≤m/256 ^ i)→aHS 6 m []=aHS (6-j) (m/256 ^ j) (nH m j):=by
 intro j
 induction j with
 |zero=>intro _ _;simp[nH]
 |succ j ih =>
  intro hj h
  rw[ih (by omega) fun i hi=>h i (by omega)]
  have h1:=h j (by omega)
  rw[show 6-j=(6-(j+1))+1 from by omega,aHS,if_neg (by omega),if_neg (by omega),aPq,Nat.div_div_eq_div_mul,← Nat.pow_succ]
theorem aTC (k:Nat) (b:aD):aHS k 1 b=some b:=by cases k<;>simp[aHS]
theorem aHi (m j:Nat):m/256 ^ (j+1)=m/256 ^ j/256:=by rw[Nat.div_div_eq_div_mul,← Nat.pow_succ]
theorem aE9 {m n:Nat} (hn:n≤6) (h:∀ j,j<n→1<m/256 ^ j) (h1:m/256 ^ n=1):dW m=some (nH m n):=by
 have hge:∀ i,i<n→256≤m/256 ^ i:=by
  intro i hi
  have e:=aHi m i
  have:1≤m/256 ^ (i+1):=by
   rcases Nat.lt_or_ge (i+1) n with h2|h2
   ·have:=h _ h2;omega
   ·have:i+1=n:=by omega
    rw[this,h1];exact Nat.le_refl _
  omega
 have hlt:m<2*256 ^ n:=by
  have:0<256 ^ n:=Nat.pow_pos (by decide)
  have:=Nat.div_add_mod m (256 ^ n)
  have h3:=Nat.mod_lt m (show 0<256 ^ n from Nat.pow_pos (by decide))
  rw[h1]at this
  omega
 have hm:1≤m:=by
  rcases Nat.eq_zero_or_pos m with h0|h0
  ·rw[h0,Nat.zero_div]at h1;cases h1
  ·exact h0
 have hp:256 ^ n≤256 ^ 6:=Nat.pow_le_pow_right (by decide) hn
 have h6:(256:Nat) ^ 6=281474976710656:=by decide
 unfold dW
 rw[if_pos (by simp[aW];omega),show((m:Int).toNat)=m from by omega,aR3 m n hn hge,h1,aTC]
theorem aDr {m n:Nat} (hm:1≤m) (hn:n≤6) (h:∀ j,j<n→1<m/256 ^ j) (h1:m/256 ^ n≠1) (h2:n=6∨m/256 ^ n≤1):dW m=none:=by
 unfold dW
 split
 ·rename_i hr
  have hr:=bS hr
  rw[show((m:Int).toNat)=m from by omega]
  by_cases h0:m/256 ^ n=0
  ·cases n with
   |zero=>simp at h0;omega
   |succ n =>
    have e:=aHi m n
    have hl:=h n (by omega)
    have hge:∀ i,i<n→256≤m/256 ^ i:=by
     intro i hi
     have e:=aHi m i
     have:=h (i+1) (by omega)
     omega
    rw[aR3 m n (by omega) hge,show 6-n=(6-(n+1))+1 from by omega]
    rw[h0]at e
    generalize m/256 ^ n=c at *
    simp only[aHS]
    rw[if_neg (by omega),if_pos (by omega)]
  ·exfalso
   have hn6:n=6:=by
    rcases h2 with h2|h2
    ·exact h2
    ·generalize m/256 ^ n=t at h0 h1 h2
     omega
   subst hn6
   have h6:(256:Nat) ^ 6=281474976710656:=by decide
   have h3:m/256 ^ 6≤1:=by rw[h6];omega
   generalize m/256 ^ 6=t at h0 h1 h3
   omega
 ·rfl
theorem aIX {m n:Nat} (hn:n≤6):(m:Int).fdiv (2 ^ (min (IntKind.i64.wrap (8*(n:Int))).toNat IntKind.i64.bits))=((m/256 ^ n:Nat):Int):=by
 rw[show IntKind.i64.wrap (8*(n:Int))=8*(n:Int) from aI (by omega)]
 rw[show min (8*(n:Int)).toNat IntKind.i64.bits=8*n from by simp only[IntKind.bits];omega]
 rw[Int.fdiv_eq_ediv_of_nonneg _ (Int.pow_nonneg (by decide))]
 rw[show((2:Int) ^ (8*n))=((256 ^ n:Nat):Int) from by rw[Int.pow_mul];push_cast;rfl]
 exact(Int.natCast_ediv m (256 ^ n)).symm
theorem aTD {s:Int} (h:s<1) (k:Nat):¬ s.fdiv (2 ^ k)>1:=by
 have hp:(0:Int)<2 ^ k:=Int.pow_pos (by decide)
 rw[Int.fdiv_eq_ediv_of_nonneg _ (Int.le_of_lt hp)]
 have:s/2 ^ k≤0:=by
  rcases Int.lt_or_le s 0 with h1|h1
  ·exact Int.le_of_lt (Int.ediv_neg_of_neg_of_pos h1 hp)
  ·have:s=0:=by omega
   rw[this,Int.zero_ediv];exact Int.le_refl _
 omega
theorem mX {E:aR} (J:Sys E) (s:Int):E 319 [iv s]=some ([ov 1 (aU (bQ s)),bv (bW s)],[]):=by
 have neg:s<1→bQ s=[]∧bW s=false:=by
  intro hs
  have hb:dW s=none:=by unfold dW;rw[if_neg (by simp[aW];omega)]
  exact⟨by unfold bQ;rw[hb];rfl,by unfold bW;rw[hb];rfl⟩
 refine J.run rfl rfl fun W U=>?_
 conv=>lhs;whnf
 refine U.loop (σ:=Nat) (γ:=Nat) (fun i s=>s.sl 4 (v1 (.t (.int .i64 i)))) (fun i k=>i=k∧k≤6∧∀ j,j<k→1<s.toNat/256 ^ j∧1≤s) (fun k=>6-k) (fun _=>([ov 1 (aU (bQ s)),bv (bW s)],[])) 0 0 ?_ ?_ ?_ ?_
 ·intro K
  conv=>lhs;whnf
  conv=>rhs;whnf
  try rfl
 ·exact⟨rfl,by omega,fun j h=>by omega⟩
 ·rintro kl n _ ⟨rfl,hn,hj⟩ ih
  conv=>lhs;whnf
  have hw8:IntKind.i64.wrap (8*(n:Int))=8*(n:Int):=aI (by omega)
  apply U.b<;>intro g0<;>conv=>lhs;whnf
  ·have g0:n<6:=by
    have:(n:Int)<6:=by simpa using g0
    omega
   repeat((first|apply U.t|apply U.f|(apply U.q;exact aE));conv=>lhs;whnf)
   rw[hw8]
   apply U.b<;>intro g1<;>conv=>lhs;whnf
   ·have hs:1≤s:=by
     rcases Int.lt_or_le s 1 with hs|hs
     ·exact absurd (of_decide_eq_true g1) (aTD hs _)
     ·exact hs
    have g2:1<s.toNat/256 ^ n:=by
     obtain⟨m,rfl⟩:∃ m:Nat,s=m:=⟨s.toNat,by omega⟩
     rw[← hw8,aIX hn]at g1
     rw[show((m:Int).toNat)=m from by omega]
     generalize m/256 ^ n=t at g1
     simp at g1;omega
    refine ih (n+1) (n+1) _ ?_ ⟨rfl,by omega,fun j h=>?_⟩ (by omega)
    ·intro K
     conv=>lhs;whnf
     conv=>rhs;whnf
     try rfl
     rw[show IntKind.i64.wrap ((n:Int)+1)=_ from aK (by omega)]
     try rfl
    ·rcases Nat.lt_or_ge j n with h1|h1
     ·exact hj j h1
     ·have:j=n:=by omega
      subst this
      exact⟨g2,hs⟩
   ·have hx:n=6∨¬ 1<s.toNat/256 ^ n∨s<1:=by
     right
     rcases Int.lt_or_le s 1 with hs|hs
     ·exact .inr hs
     ·left
      obtain⟨m,rfl⟩:∃ m:Nat,s=m:=⟨s.toNat,by omega⟩
      rw[← hw8,aIX hn]at g1
      rw[show((m:Int).toNat)=m from by omega]
      generalize m/256 ^ n=t at g1
      simp at g1;omega
    apply U.b<;>intro gs<;>conv=>lhs;whnf
    ·have gs:s<1:=by simpa using gs
     rw[(neg gs).1,(neg gs).2]
     repeat((first|apply U.t|apply U.f|(apply U.q;exact aE));conv=>lhs;whnf)
     rfl
    ·have gs:¬ s<1:=by simpa using gs
     obtain⟨m,rfl⟩:∃ m:Nat,s=m:=⟨s.toNat,by omega⟩
     rw[show((m:Int).toNat)=m from by omega]at hj hx
     have hx':n=6∨m/256 ^ n≤1:=by
      rcases hx with hx|hx
      ·exact .inl hx
      ·right
       generalize m/256 ^ n=t at hx
       omega
     repeat((first|apply U.t|apply U.f|(apply U.q;exact aE));conv=>lhs;whnf)
     rw[hw8]
     rw[← hw8,aIX hn]
     apply U.b<;>intro gt<;>conv=>lhs;whnf
     ·have gt:m/256 ^ n≠1:=by
       intro e;rw[e]at gt;simp at gt
      have hb:=aDr (m:=m) (by omega) hn (fun j h=>(hj j h).1) gt hx'
      rw[show bQ m=[] from by unfold bQ;rw[hb];rfl,show bW m=false from by unfold bW;rw[hb];rfl]
      rfl
     ·have gt:m/256 ^ n=1:=by
       generalize m/256 ^ n=t at gt
       simp at gt;omega
      have hb:=aE9 (m:=m) hn (fun j h=>(hj j h).1) gt
      rw[show bQ m=nH m n from by unfold bQ;rw[hb];rfl,show bW m=true from by unfold bW;rw[hb];rfl]
      have hdl:=aLI m n
      refine U.q (by exact⟨by omega, .inl rfl,by omega,by omega,by omega,by decide,rfl⟩) ?_
      conv=>lhs;whnf
      rw[show((n:Int).toNat)=n from by omega]
      refine U.loop (σ:=Nat) (γ:=Nat) (fun i s=>(s.sl 31 (v1 (.t (.int .i64 i)))).bl ⟨2800,1, .own,((nH m n).take i).map nG++List.replicate ((nH m n).length-i) [.int .u8 0]⟩) (fun i k=>i=k∧k≤n) (fun k=>n-k) (fun _=>([ov 1 (aU (nH m n)),bv true],[])) 0 0 ?_ ?_ ?_ ?_
      ·intro K
       conv=>lhs;whnf
       conv=>rhs;whnf
       try rfl
       simp[hdl]
      ·exact⟨rfl,by omega⟩
      ·rintro kl i _ ⟨rfl,hi⟩ ih
       conv=>lhs;whnf
       apply U.b<;>intro g5<;>conv=>lhs;whnf
       ·have g5:i<n:=by
         have:=g5
         simp[hdl]at this
         omega
        have g5':i<(nH m n).length:=by omega
        rw[show IntKind.i64.wrap (IntKind.i64.wrap ((n:Int)-1)-(i:Int))=((n-1-i:Nat):Int) from by rw[show IntKind.i64.wrap ((n:Int)-1)=(n:Int)-1 from aI (by omega)];exact(aI (by omega)).trans (by omega)]
        have hw9:IntKind.i64.wrap (8*((n-1-i:Nat):Int))=8*((n-1-i:Nat):Int):=aI (by omega)
        rw[hw9]
        repeat((first|apply U.t|apply U.f|(apply U.q;exact aE));conv=>lhs;whnf)
        rw[← hw9,aIX (show n-1-i≤6 by omega)]
        apply U.w (aDk g5' _)
        conv=>lhs;whnf
        repeat((first|apply U.t|apply U.f|(apply U.q;exact aE));conv=>lhs;whnf)
        apply U.w (aDk g5' _)
        conv=>lhs;whnf
        repeat((first|apply U.t|apply U.f|(apply U.q;exact aE));conv=>lhs;whnf)
        refine ih (i+1) (i+1) _ ?_ ⟨rfl,by omega⟩ (by omega)
        intro K
        conv=>lhs;whnf
        conv=>rhs;whnf
        try rfl
        rw[show IntKind.i64.wrap ((i:Int)+1)=_ from aK (by omega)]
        refine congrArg K (congrArg (St.mk _) (congrArg (fun x=>[Blk.mk 2800 1 .own x]) ?_))
        rw[← aLy nG g5' [.int .u8 0]]
        refine congrArg (List.set _ _) ?_
        simp[nH,nG,jF,splice]
       ·have g5:¬ i<n:=by
         have:=g5
         simp[hdl]at this
         omega
        have:i=n:=by omega
        subst this
        rw[List.take_of_length_le (show(nH m i).length≤i by omega),hdl,Nat.sub_self]
        simp only[List.replicate_zero,List.append_nil]
        rfl
      ·rfl
  ·have g6:¬ (n:Int)<6:=by simpa using g0
   have hx:n=6∨¬ 1<s.toNat/256 ^ n∨s<1 := .inl (by omega)
   repeat((first|apply U.t|apply U.f|(apply U.q;exact aE));conv=>lhs;whnf)
   apply U.b<;>intro gs<;>conv=>lhs;whnf
   ·have gs:s<1:=by simpa using gs
    rw[(neg gs).1,(neg gs).2]
    repeat((first|apply U.t|apply U.f|(apply U.q;exact aE));conv=>lhs;whnf)
    rfl
   ·have gs:¬ s<1:=by simpa using gs
    obtain⟨m,rfl⟩:∃ m:Nat,s=m:=⟨s.toNat,by omega⟩
    rw[show((m:Int).toNat)=m from by omega]at hj hx
    have hx':n=6∨m/256 ^ n≤1:=by
     rcases hx with hx|hx
     ·exact .inl hx
     ·right
      generalize m/256 ^ n=t at hx
      omega
    repeat((first|apply U.t|apply U.f|(apply U.q;exact aE));conv=>lhs;whnf)
    rw[hw8]
    rw[← hw8,aIX hn]
    apply U.b<;>intro gt<;>conv=>lhs;whnf
    ·have gt:m/256 ^ n≠1:=by
      intro e;rw[e]at gt;simp at gt
     have hb:=aDr (m:=m) (by omega) hn (fun j h=>(hj j h).1) gt hx'
     rw[show bQ m=[] from by unfold bQ;rw[hb];rfl,show bW m=false from by unfold bW;rw[hb];rfl]
     rfl
    ·have gt:m/256 ^ n=1:=by
      generalize m/256 ^ n=t at gt
      simp at gt;omega
     have hb:=aE9 (m:=m) hn (fun j h=>(hj j h).1) gt
     rw[show bQ m=nH m n from by unfold bQ;rw[hb];rfl,show bW m=true from by unfold bW;rw[hb];rfl]
     have hdl:=aLI m n
     refine U.q (by exact⟨by omega, .inl rfl,by omega,by omega,by omega,by decide,rfl⟩) ?_
     conv=>lhs;whnf
     rw[show((n:Int).toNat)=n from by omega]
     refine U.loop (σ:=Nat) (γ:=Nat) (fun i s=>(s.sl 31 (v1 (.t (.int .i64 i)))).bl ⟨2800,1, .own,((nH m n).take i).map nG++List.replicate ((nH m n).length-i) [.int .u8 0]⟩) (fun i k=>i=k∧k≤n) (fun k=>n-k) (fun _=>([ov 1 (aU (nH m n)),bv true],[])) 0 0 ?_ ?_ ?_ ?_
     ·intro K
      conv=>lhs;whnf
      conv=>rhs;whnf
      try rfl
      simp[hdl]
     ·exact⟨rfl,by omega⟩
     ·rintro kl i _ ⟨rfl,hi⟩ ih
      conv=>lhs;whnf
      apply U.b<;>intro g5<;>conv=>lhs;whnf
      ·have g5:i<n:=by
        have:=g5
        simp[hdl]at this
        omega
       have g5':i<(nH m n).length:=by omega
       rw[show IntKind.i64.wrap (IntKind.i64.wrap ((n:Int)-1)-(i:Int))=((n-1-i:Nat):Int) from by rw[show IntKind.i64.wrap ((n:Int)-1)=(n:Int)-1 from aI (by omega)];exact(aI (by omega)).trans (by omega)]
       have hw9:IntKind.i64.wrap (8*((n-1-i:Nat):Int))=8*((n-1-i:Nat):Int):=aI (by omega)
       rw[hw9]
       repeat((first|apply U.t|apply U.f|(apply U.q;exact aE));conv=>lhs;whnf)
       rw[← hw9,aIX (show n-1-i≤6 by omega)]
       apply U.w (aDk g5' _)
       conv=>lhs;whnf
       repeat((first|apply U.t|apply U.f|(apply U.q;exact aE));conv=>lhs;whnf)
       apply U.w (aDk g5' _)
       conv=>lhs;whnf
       repeat((first|apply U.t|apply U.f|(apply U.q;exact aE));conv=>lhs;whnf)
       refine ih (i+1) (i+1) _ ?_ ⟨rfl,by omega⟩ (by omega)
       intro K
       conv=>lhs;whnf
       conv=>rhs;whnf
       try rfl
       rw[show IntKind.i64.wrap ((i:Int)+1)=_ from aK (by omega)]
       refine congrArg K (congrArg (St.mk _) (congrArg (fun x=>[Blk.mk 2800 1 .own x]) ?_))
       rw[← aLy nG g5' [.int .u8 0]]
       refine congrArg (List.set _ _) ?_
       simp[nH,nG,jF,splice]
      ·have g5:¬ i<n:=by
        have:=g5
        simp[hdl]at this
        omega
       have:i=n:=by omega
       subst this
       rw[List.take_of_length_le (show(nH m i).length≤i by omega),hdl,Nat.sub_self]
       simp only[List.replicate_zero,List.append_nil]
       rfl
     ·rfl
 ·rfl
theorem aTE:∀ {k s:Nat} {acc b:aD},aHS k s acc=some b→eV b 1=eV acc s:=by
 intro k
 induction k with
 |zero=>intro s acc b h;simp only[aHS]at h;split at h;(rename_i h1;cases h;rw[h1]);cases h
 |succ k ih =>
  intro s acc b h
  simp only[aHS]at h
  split at h
  ·rename_i h1;cases h;rw[h1]
  ·split at h
   ·cases h
   ·rw[ih h,eV]
    congr 1
    have:(dK (s:Int)).toNat=s%256:=by
     unfold dK
     rw[UInt8.toNat_ofNat']
     omega
    omega
theorem aPr {s:Int} (h:bW s=true):((eV (bQ s) 1:Nat):Int)=s:=by
 unfold bW at h
 unfold bQ
 cases hb:dW s with
 |none=>rw[hb]at h;cases h
 |some b =>
  unfold dW at hb
  split at hb
  ·rename_i hr
   have hr:=bS hr
   have:=aTE hb
   simp only[eV]at this
   simp only[Option.getD_some]
   omega
  ·cases hb
theorem aFa {x:Sum} (h:bW x.s=true):decide (bI (bQ x.s)=x)=decide (bB (bQ x.s)=x.w):=by
 have hl:=kN x.s
 have hs:=aPr h
 unfold bI
 rw[if_neg (by omega),hs]
 obtain⟨w,s⟩:=x
 simp
def aAr (m:Man) (i:Nat) (x:Sum):Bool:=bW x.s&&(decide (((bQ x.s).length:Int)=aX m.size m.len i)&&decide (bI (bQ x.s)=x))
def yK (m:Man):Nat→List Sum→Bool
 |_,[]=>true
 |i,x::r=>aAr m i x&&yK m (i+1) r
def bX (m:Man):Bool:=decide (m.gen=0)&&(decide (m.size=0)&&(decide (m.len=0)&&decide (m.sums=[])))
def aY (m:Man):Bool:=if m.gen=0 then bX m else aW m.gen 1 1000000&&(cL m.size m.len&&(decide ((m.sums.length:Int)=bA m.size m.len)&&yK m 0 m.sums))
theorem eH {E:aR} (J:Sys E) (m:Man) (hm:m.sums.length≤1048576):E 307 [gv (m.cs aO)]=some ([bv (aY m)],[]):=by
 have hrl:(m.sums.map Sum.row).length=m.sums.length:=List.length_map _
 have a1:=bR J m.gen 1 1000000
 have a2:=oG J m.size m.len
 have a3:=iK J m.size m.len
 by_cases h0:m.gen=0
 ·have e:aY m=bX m:=by unfold aY;rw[if_pos h0]
  rw[e]
  refine J.run rfl rfl fun W U=>?_
  conv=>lhs;whnf
  apply U.bt (by simpa using h0)
  conv=>lhs;whnf
  repeat'((first|apply U.t|apply U.f|(apply U.q;exact aE)|(apply U.b<;>intro h))<;>conv=>lhs;whnf)
  all_goals(refine congrArg (fun b=>(some ([bv b],[]):Option dA)) ?_;first|rfl|(simp_all [bX];done)|(simp_all [bX]<;>(intros;omega)))
 ·have e:aY m=(aW m.gen 1 1000000&&(cL m.size m.len&&(decide ((m.sums.length:Int)=bA m.size m.len)&&yK m 0 m.sums))):=by unfold aY;rw[if_neg h0]
  rw[e]
  cases h1:aW m.gen 1 1000000
  ·rw[h1]at a1
   refine J.run rfl rfl fun W U=>?_
   conv=>lhs;whnf
   apply U.bf (by simpa using h0)
   conv=>lhs;whnf
   repeat'((first|apply U.t|apply U.f|(apply U.q;exact aE)|apply U.w (a1)|(apply U.b<;>intro h))<;>conv=>lhs;whnf)
   rfl
  ·rw[h1]at a1
   cases h2:cL m.size m.len
   ·rw[h2]at a2
    refine J.run rfl rfl fun W U=>?_
    conv=>lhs;whnf
    apply U.bf (by simpa using h0)
    conv=>lhs;whnf
    repeat'((first|apply U.t|apply U.f|(apply U.q;exact aE)|apply U.w (a1)|apply U.w (a2)|(apply U.b<;>intro h))<;>conv=>lhs;whnf)
    rfl
   ·rw[h2]at a2
    by_cases h3:(m.sums.length:Int)=bA m.size m.len
    ·rw[decide_eq_true h3]
     simp only[Bool.true_and]
     refine J.run rfl rfl fun W U=>?_
     conv=>lhs;whnf
     apply U.bf (by simpa using h0)
     conv=>lhs;whnf
     repeat'((first|apply U.t|apply U.f|(apply U.q;exact aE)|apply U.w (a1)|apply U.w (a2)|(apply U.b<;>intro h))<;>conv=>lhs;whnf)
     rw[hrl]
     apply U.w (a3)
     conv=>lhs;whnf
     repeat((first|apply U.t|apply U.f|(apply U.q;exact aE));conv=>lhs;whnf)
     apply U.bf (by simp[h3])
     conv=>lhs;whnf
     skip
     refine U.loop (σ:=Nat) (γ:=Nat) (fun i s=>s.sl 3 (v1 (.t (.int .i64 i)))) (fun i k=>i=k∧k≤m.sums.length) (fun k=>m.sums.length-k) (fun k=>([bv (yK m k (m.sums.drop k))],[])) 0 0 ?_ ?_ ?_ ?_
     ·intro K
      conv=>lhs;whnf
      conv=>rhs;whnf
      try rfl
     ·exact⟨rfl,by omega⟩
     ·rintro kl n _ ⟨rfl,hn⟩ ih
      conv=>lhs;whnf
      apply U.b<;>intro g1<;>conv=>lhs;whnf
      ·have g1:n<m.sums.length:=by simpa using g1
       have hbl:=kN m.sums[n].s
       rw[List.drop_eq_getElem_cons g1,yK,aAr]
       repeat((first|apply U.t|apply U.f|(apply U.q;exact aE)|(refine U.w (cG ?_) ?_;omega));conv=>lhs;whnf)
       apply U.w (wD J m.sums[n].s)
       conv=>lhs;whnf
       repeat((first|apply U.t|apply U.f|(apply U.q;exact aE));conv=>lhs;whnf)
       apply U.w (eN J m.size m.len n)
       conv=>lhs;whnf
       repeat((first|apply U.t|apply U.f|(apply U.q;exact aE));conv=>lhs;whnf)
       apply U.b<;>intro g2<;>conv=>lhs;whnf
       ·rw[mS g2]
        repeat((first|apply U.t|apply U.f|(apply U.q;exact aE));conv=>lhs;whnf)
        rfl
       ·have g2:=iV g2
        rw[g2]
        repeat((first|apply U.t|apply U.f|(apply U.q;exact aE));conv=>lhs;whnf)
        rw[bO]
        apply U.b<;>intro g3<;>conv=>lhs;whnf
        ·rw[decide_eq_false (show ¬ ((bQ m.sums[n].s).length:Int)=aX m.size m.len n from by simpa using g3)]
         repeat((first|apply U.t|apply U.f|(apply U.q;exact aE));conv=>lhs;whnf)
         rfl
        ·rw[decide_eq_true (show((bQ m.sums[n].s).length:Int)=aX m.size m.len n from by simpa using g3)]
         repeat((first|apply U.t|apply U.f|(apply U.q;exact aE)|(refine U.w (cG ?_) ?_;omega));conv=>lhs;whnf)
         apply U.w (fE J (bQ m.sums[n].s) (by omega))
         conv=>lhs;whnf
         repeat((first|apply U.t|apply U.f|(apply U.q;exact aE));conv=>lhs;whnf)
         apply U.b<;>intro g4<;>conv=>lhs;whnf
         ·have g4:¬ bI (bQ m.sums[n].s)=m.sums[n]:=by
           intro e;rw[e]at g4;simp at g4
          rw[decide_eq_false g4]
          rfl
         ·have g4:bI (bQ m.sums[n].s)=m.sums[n]:=by
           revert g4
           generalize bI (bQ m.sums[n].s)=x
           generalize m.sums[n]=y
           cases x;cases y
           simp
          rw[decide_eq_true g4]
          simp only[Bool.true_and]
          refine ih (n+1) (n+1) _ ?_ ⟨rfl,by omega⟩ (by omega)
          intro K
          conv=>lhs;whnf
          conv=>rhs;whnf
          try rfl
          rw[show IntKind.i64.wrap ((n:Int)+1)=_ from aK (by omega)]
          try rfl
      ·have:n=m.sums.length:=by simp at g1;omega
       rw[this,List.drop_length];rfl
     ·rfl
    ·rw[decide_eq_false h3]
     refine J.run rfl rfl fun W U=>?_
     conv=>lhs;whnf
     apply U.bf (by simpa using h0)
     conv=>lhs;whnf
     repeat'((first|apply U.t|apply U.f|(apply U.q;exact aE)|apply U.w (a1)|apply U.w (a2)|(apply U.b<;>intro h))<;>conv=>lhs;whnf)
     rw[hrl]
     apply U.w (a3)
     conv=>lhs;whnf
     repeat((first|apply U.t|apply U.f|(apply U.q;exact aE));conv=>lhs;whnf)
     apply U.bt (by simp[h3])
     conv=>lhs;whnf
     rfl
theorem pP {E:aR} (J:Sys E) (m:Man):E 318 [gv (m.cs aO)]=some ([bv (bX m)],[]):=by
 refine J.run rfl rfl fun W U=>?_
 conv=>lhs;whnf
 repeat'((first|apply U.t|apply U.f|(apply U.q;exact aE)|(apply U.b<;>intro h))<;>conv=>lhs;whnf)
 all_goals(refine congrArg (fun b=>(some ([bv b],[]):Option dA)) ?_;first|rfl|(simp_all [bX];done)|(simp_all [bX]<;>(intros;omega)))
theorem lS {E:aR} (J:Sys E) (m:Man) (hm:m.sums.length≤1048576):E 316 [gv (m.cs aO)]=some ([bv (aY m)],[]):=by
 have hrl:(m.sums.map Sum.row).length=m.sums.length:=List.length_map _
 have a1:=cP J m.gen 1 1000000
 have a2:=aAo J m.size m.len
 have a3:=kX J m.size m.len
 have a0:=pP J m
 cases h0:bX m
 ·rw[h0]at a0
  by_cases hg:m.gen=0
  ·have e:aY m=false:=by unfold aY;rw[if_pos hg,h0]
   rw[show aW m.gen 1 1000000=false from by simp[aW];omega]at a1
   rw[e]
   refine J.run rfl rfl fun W U=>?_
   conv=>lhs;whnf
   repeat'((first|apply U.t|apply U.f|(apply U.q;exact aE)|apply U.w (a0)|apply U.w (a1)|(apply U.b<;>intro h))<;>conv=>lhs;whnf)
   rfl
  ·have e:aY m=(aW m.gen 1 1000000&&(cL m.size m.len&&(decide ((m.sums.length:Int)=bA m.size m.len)&&yK m 0 m.sums))):=by unfold aY;rw[if_neg hg]
   rw[e]
   cases h1:aW m.gen 1 1000000
   ·rw[h1]at a1
    refine J.run rfl rfl fun W U=>?_
    conv=>lhs;whnf
    repeat'((first|apply U.t|apply U.f|(apply U.q;exact aE)|apply U.w (a0)|apply U.w (a1)|(apply U.b<;>intro h))<;>conv=>lhs;whnf)
    rfl
   ·rw[h1]at a1
    cases h2:cL m.size m.len
    ·rw[h2]at a2
     refine J.run rfl rfl fun W U=>?_
     conv=>lhs;whnf
     repeat'((first|apply U.t|apply U.f|(apply U.q;exact aE)|apply U.w (a0)|apply U.w (a1)|apply U.w (a2)|(apply U.b<;>intro h))<;>conv=>lhs;whnf)
     rfl
    ·rw[h2]at a2
     by_cases h3:(m.sums.length:Int)=bA m.size m.len
     ·rw[decide_eq_true h3]
      simp only[Bool.true_and]
      refine J.run rfl rfl fun W U=>?_
      conv=>lhs;whnf
      repeat'((first|apply U.t|apply U.f|(apply U.q;exact aE)|apply U.w (a0)|apply U.w (a1)|apply U.w (a2)|(apply U.b<;>intro h))<;>conv=>lhs;whnf)
      rw[hrl]
      apply U.w (a3)
      conv=>lhs;whnf
      repeat((first|apply U.t|apply U.f|(apply U.q;exact aE));conv=>lhs;whnf)
      apply U.bf (by simp[h3])
      conv=>lhs;whnf
      rw[hrl]
      refine U.loop (σ:=Nat) (γ:=Nat) (fun i s=>s.sl 37 (v1 (.t (.int .i64 i)))) (fun i k=>i=k∧k≤m.sums.length) (fun k=>m.sums.length-k) (fun k=>([bv (yK m k (m.sums.drop k))],[])) 0 0 ?_ ?_ ?_ ?_
      ·intro K
       conv=>lhs;whnf
       conv=>rhs;whnf
       try rfl
      ·exact⟨rfl,by omega⟩
      ·rintro kl n _ ⟨rfl,hn⟩ ih
       conv=>lhs;whnf
       apply U.b<;>intro g1<;>conv=>lhs;whnf
       ·have g1:n<m.sums.length:=by simpa using g1
        have hbl:=kN m.sums[n].s
        rw[List.drop_eq_getElem_cons g1,yK,aAr]
        repeat((first|apply U.t|apply U.f|(apply U.q;exact aE)|(refine U.w (cG ?_) ?_;omega));conv=>lhs;whnf)
        apply U.w (mX J m.sums[n].s)
        conv=>lhs;whnf
        repeat((first|apply U.t|apply U.f|(apply U.q;exact aE));conv=>lhs;whnf)
        apply U.w (aAp J m.size m.len n)
        conv=>lhs;whnf
        repeat((first|apply U.t|apply U.f|(apply U.q;exact aE));conv=>lhs;whnf)
        apply U.b<;>intro g2<;>conv=>lhs;whnf
        ·rw[mS g2]
         repeat((first|apply U.t|apply U.f|(apply U.q;exact aE));conv=>lhs;whnf)
         rfl
        ·have g2:=iV g2
         rw[g2]
         repeat((first|apply U.t|apply U.f|(apply U.q;exact aE));conv=>lhs;whnf)
         rw[bO]
         apply U.b<;>intro g3<;>conv=>lhs;whnf
         ·rw[decide_eq_false (show ¬ ((bQ m.sums[n].s).length:Int)=aX m.size m.len n from by simpa using g3)]
          repeat((first|apply U.t|apply U.f|(apply U.q;exact aE));conv=>lhs;whnf)
          rfl
         ·rw[decide_eq_true (show((bQ m.sums[n].s).length:Int)=aX m.size m.len n from by simpa using g3)]
          repeat((first|apply U.t|apply U.f|(apply U.q;exact aE)|(refine U.w (cG ?_) ?_;omega));conv=>lhs;whnf)
          apply U.w (fQ J (bQ m.sums[n].s) (by omega))
          conv=>lhs;whnf
          repeat((first|apply U.t|apply U.f|(apply U.q;exact aE));conv=>lhs;whnf)
          apply U.b<;>intro g4<;>conv=>lhs;whnf
          ·have g4:¬ bI (bQ m.sums[n].s)=m.sums[n]:=by
            intro e
            have:=aFa (x:=m.sums[n]) g2
            rw[decide_eq_true e]at this
            have:=of_decide_eq_true this.symm
            rw[this]at g4
            simp at g4
           rw[decide_eq_false g4]
           rfl
          ·have g4:bI (bQ m.sums[n].s)=m.sums[n]:=by
            have h5:bB (bQ m.sums[n].s)=m.sums[n].w:=by simpa using g4
            have:=aFa (x:=m.sums[n]) g2
            rw[decide_eq_true h5]at this
            exact of_decide_eq_true this
           rw[decide_eq_true g4]
           simp only[Bool.true_and]
           refine ih (n+1) (n+1) _ ?_ ⟨rfl,by omega⟩ (by omega)
           intro K
           conv=>lhs;whnf
           conv=>rhs;whnf
           try rfl
           rw[show IntKind.i64.wrap ((n:Int)+1)=_ from aK (by omega)]
           try rfl
       ·have:n=m.sums.length:=by simp at g1;omega
        rw[this,List.drop_length];rfl
      ·rfl
     ·rw[decide_eq_false h3]
      refine J.run rfl rfl fun W U=>?_
      conv=>lhs;whnf
      repeat'((first|apply U.t|apply U.f|(apply U.q;exact aE)|apply U.w (a0)|apply U.w (a1)|apply U.w (a2)|(apply U.b<;>intro h))<;>conv=>lhs;whnf)
      rw[hrl]
      apply U.w (a3)
      conv=>lhs;whnf
      repeat((first|apply U.t|apply U.f|(apply U.q;exact aE));conv=>lhs;whnf)
      apply U.bt (by simp[h3])
      conv=>lhs;whnf
      rfl
 ·have e:aY m=true:=by
   unfold aY
   rw[if_pos (by simp[bX]at h0;exact h0.1),h0]
  rw[h0]at a0
  rw[e]
  refine J.run rfl rfl fun W U=>?_
  conv=>lhs;whnf
  repeat'((first|apply U.t|apply U.f|(apply U.q;exact aE)|apply U.w (a0)|(apply U.b<;>intro h))<;>conv=>lhs;whnf)
  rfl
def jL:Nat→Nat→aD
 |0,n=>[dK (n:Int)]
 |k+1,n=>if n<128 then[dK (n:Int)] else dK ((n%128+128:Nat):Int)::jL k (n/128)
def kO (n:Nat):aD:=jL 8 n
theorem aR4:∀ {k n:Nat},(jL k n).length≤k+1:=by
 intro k
 induction k with
 |zero=>intro n;simp[jL]
 |succ k ih =>
  intro n
  simp only[jL]
  split
  ·simp
  ·have:=ih (n:=n/128);simp only[List.length_cons];omega
theorem aUf:∀ x:Nat,x<256→x ||| 128=x%128+128:=by decide +kernel
theorem aR5 {n:Nat} (h:n<9223372036854775808):IntKind.u8.wrap (IntKind.i64.wrap (BitVec.ofInt IntKind.i64.bits (IntKind.i64.wrap (BitVec.ofInt IntKind.i64.bits (n:Int) &&& BitVec.ofInt IntKind.i64.bits 127).toNat) ||| BitVec.ofInt IntKind.i64.bits 128).toNat)=IntKind.u8.wrap ((n%128+128:Nat):Int):=by
 have e1:(BitVec.ofInt IntKind.i64.bits (n:Int) &&& BitVec.ofInt IntKind.i64.bits 127).toNat=n%128:=by
  rw[BitVec.toNat_and,BitVec.ofInt_natCast,show BitVec.ofInt IntKind.i64.bits 127=BitVec.ofNat IntKind.i64.bits 127 from rfl,BitVec.toNat_ofNat,BitVec.toNat_ofNat]
  rw[Nat.mod_eq_of_lt (show n<2 ^ IntKind.i64.bits from by simp only[IntKind.bits];omega),Nat.mod_eq_of_lt (show 127<2 ^ IntKind.i64.bits from by decide)]
  exact Nat.and_two_pow_sub_one_eq_mod n 7
 rw[e1,show IntKind.i64.wrap ((n%128:Nat):Int)=((n%128:Nat):Int) from aI (by omega)]
 have e2:(BitVec.ofInt IntKind.i64.bits ((n%128:Nat):Int) ||| BitVec.ofInt IntKind.i64.bits 128).toNat=n%128+128:=by
  rw[BitVec.toNat_or,BitVec.ofInt_natCast,show BitVec.ofInt IntKind.i64.bits 128=BitVec.ofNat IntKind.i64.bits 128 from rfl,BitVec.toNat_ofNat,BitVec.toNat_ofNat]
  rw[Nat.mod_eq_of_lt (show n%128<2 ^ IntKind.i64.bits from by simp only[IntKind.bits];omega),Nat.mod_eq_of_lt (show 128<2 ^ IntKind.i64.bits from by decide)]
  rw[aUf _ (by omega)];omega
 rw[e2,show IntKind.i64.wrap ((n%128+128:Nat):Int)=((n%128+128:Nat):Int) from aI (by omega)]
theorem aUY {n:Nat}:IntKind.u8.wrap (BitVec.ofInt IntKind.u8.bits (IntKind.u8.wrap (n:Int)) ||| BitVec.ofInt IntKind.u8.bits 128).toNat=IntKind.u8.wrap ((n%128+128:Nat):Int):=by
 have e0:IntKind.u8.wrap (n:Int)=((n%256:Nat):Int):=by
  rw[← jF];unfold dK;rw[UInt8.toNat_ofNat'];omega
 rw[e0]
 have e2:(BitVec.ofInt IntKind.u8.bits ((n%256:Nat):Int) ||| BitVec.ofInt IntKind.u8.bits 128).toNat=n%128+128:=by
  rw[BitVec.toNat_or,BitVec.ofInt_natCast,show BitVec.ofInt IntKind.u8.bits 128=BitVec.ofNat IntKind.u8.bits 128 from rfl,BitVec.toNat_ofNat,BitVec.toNat_ofNat]
  rw[Nat.mod_eq_of_lt (show n%256<2 ^ IntKind.u8.bits from by simp only[IntKind.bits];omega),Nat.mod_eq_of_lt (show 128<2 ^ IntKind.u8.bits from by decide)]
  rw[aUf _ (by omega)];omega
 rw[e2]
theorem aUZ {n:Nat}:((n:Int).fdiv (2 ^ (min (7:Int).toNat IntKind.i64.bits)))=((n/128:Nat):Int):=by
 rw[show(2:Int) ^ (min (7:Int).toNat IntKind.i64.bits)=128 from by decide,Int.fdiv_eq_ediv_of_nonneg _ (by decide)]
 omega
def gY (m:Msg) (man want part:Bool):Bool:=(man||bX m.man)&&((want||(decide (m.want=0)&&decide (m.done=0)))&&(part||(decide (m.i=0)&&decide (m.b=[]))))
theorem kY {E:aR} (J:Sys E) (m:Msg) (x y z:Bool):E 317 [gv (m.cs aO),bv x,bv y,bv z]=some ([bv (gY m x y z)],[]):=by
 have a:=pP J m.man
 unfold gY
 cases x<;>cases y<;>cases z
 ·refine J.run rfl rfl fun W U=>?_
  conv=>lhs;whnf
  repeat'((first|apply U.t|apply U.f|(apply U.q;exact aE)|apply U.w (a)|(apply U.b<;>intro h))<;>conv=>lhs;whnf)
  all_goals(refine congrArg (fun b=>(some ([bv b],[]):Option dA)) ?_;first|rfl|(simp_all [aJ];done)|(simp_all [aJ]<;>(intros;omega)))
 ·refine J.run rfl rfl fun W U=>?_
  conv=>lhs;whnf
  repeat'((first|apply U.t|apply U.f|(apply U.q;exact aE)|apply U.w (a)|(apply U.b<;>intro h))<;>conv=>lhs;whnf)
  all_goals(refine congrArg (fun b=>(some ([bv b],[]):Option dA)) ?_;first|rfl|(simp_all [aJ];done)|(simp_all [aJ]<;>(intros;omega)))
 ·refine J.run rfl rfl fun W U=>?_
  conv=>lhs;whnf
  repeat'((first|apply U.t|apply U.f|(apply U.q;exact aE)|apply U.w (a)|(apply U.b<;>intro h))<;>conv=>lhs;whnf)
  all_goals(refine congrArg (fun b=>(some ([bv b],[]):Option dA)) ?_;first|rfl|(simp_all [aJ];done)|(simp_all [aJ]<;>(intros;omega)))
 ·refine J.run rfl rfl fun W U=>?_
  conv=>lhs;whnf
  repeat'((first|apply U.t|apply U.f|(apply U.q;exact aE)|apply U.w (a)|(apply U.b<;>intro h))<;>conv=>lhs;whnf)
  all_goals(refine congrArg (fun b=>(some ([bv b],[]):Option dA)) ?_;first|rfl|(simp_all [aJ];done)|(simp_all [aJ]<;>(intros;omega)))
 ·refine J.run rfl rfl fun W U=>?_
  conv=>lhs;whnf
  repeat'((first|apply U.t|apply U.f|(apply U.q;exact aE)|apply U.w (a)|(apply U.b<;>intro h))<;>conv=>lhs;whnf)
  all_goals(refine congrArg (fun b=>(some ([bv b],[]):Option dA)) ?_;first|rfl|(simp_all [aJ];done)|(simp_all [aJ]<;>(intros;omega)))
 ·refine J.run rfl rfl fun W U=>?_
  conv=>lhs;whnf
  repeat'((first|apply U.t|apply U.f|(apply U.q;exact aE)|apply U.w (a)|(apply U.b<;>intro h))<;>conv=>lhs;whnf)
  all_goals(refine congrArg (fun b=>(some ([bv b],[]):Option dA)) ?_;first|rfl|(simp_all [aJ];done)|(simp_all [aJ]<;>(intros;omega)))
 ·refine J.run rfl rfl fun W U=>?_
  conv=>lhs;whnf
  repeat'((first|apply U.t|apply U.f|(apply U.q;exact aE)|apply U.w (a)|(apply U.b<;>intro h))<;>conv=>lhs;whnf)
  all_goals(refine congrArg (fun b=>(some ([bv b],[]):Option dA)) ?_;first|rfl|(simp_all [aJ];done)|(simp_all [aJ]<;>(intros;omega)))
 ·refine J.run rfl rfl fun W U=>?_
  conv=>lhs;whnf
  repeat'((first|apply U.t|apply U.f|(apply U.q;exact aE)|apply U.w (a)|(apply U.b<;>intro h))<;>conv=>lhs;whnf)
  all_goals(refine congrArg (fun b=>(some ([bv b],[]):Option dA)) ?_;first|rfl|(simp_all [aJ];done)|(simp_all [aJ]<;>(intros;omega)))
def bT (m:Msg):Bool :=
 if m.kind=1 then decide (m.gen=0)&&(!decide (m.man.gen=0)&&(aY m.man&&gY m true false false))
 else if m.kind=2 then aW m.gen 0 1000000&&(bX m.man&&(bG m.want&&(bG m.done&&(decide (m.i=0)&&decide (m.b=[])))))
 else if m.kind=3 then aW m.gen 1 1000000&&(bX m.man&&(decide (m.want=0)&&(decide (m.done=0)&&(aW m.i 0 39&&aW m.b.length 1 6))))
 else decide (m.kind=4)&&(aW m.gen 0 1000000&&gY m false false false)
theorem wE (m:Man):decide (m=⟨0,0,0,[]⟩)=bX m:=by
 unfold bX
 cases m
 simp[Bool.decide_and]
theorem xR {m:Msg} (h:m.lim 1048576):m.man.sums.length≤1048576:=h.1
theorem aH0 {E:aR} (J:Sys E) (m:Msg) (hm:m.lim 1048576) (k:m.kind=1):E 302 [gv (m.cs aO)]=some ([bv (bT m)],[]):=by
 have a1:=jG J m.man ⟨0,0,0,[]⟩ (Nat.le_trans (xR hm) (by decide))
 rw[wE]at a1
 have a2:=eH J m.man (xR hm)
 have e:bT m=(decide (m.gen=0)&&(!decide (m.man.gen=0)&&(aY m.man&&gY m true false false))):=by unfold bT;rw[if_pos k]
 rw[e]
 clear e
 obtain⟨kind,gen,man,want,done,i,b⟩:=m
 have k:kind=1:=k
 subst k
 refine J.run rfl rfl fun W U=>?_
 conv=>lhs;whnf
 repeat'((first|apply U.t|apply U.f|(apply U.q;exact aE)|apply U.w (a1)|apply U.w (a2)|(apply U.b<;>intro h))<;>conv=>lhs;whnf)
 all_goals(refine congrArg (fun b=>(some ([bv b],[]):Option dA)) ?_;first|rfl|(simp_all [gY,aJ];done)|(simp_all [gY,aJ]<;>(intros;omega)))
theorem aH1 {E:aR} (J:Sys E) (m:Msg) (hm:m.lim 1048576) (k:m.kind=2):E 302 [gv (m.cs aO)]=some ([bv (bT m)],[]):=by
 have a1:=jG J m.man ⟨0,0,0,[]⟩ (Nat.le_trans (xR hm) (by decide))
 rw[wE]at a1
 have e:bT m=(aW m.gen 0 1000000&&(bX m.man&&(bG m.want&&(bG m.done&&(decide (m.i=0)&&decide (m.b=[])))))):=by unfold bT;rw[if_neg (by omega),if_pos k]
 rw[e]
 clear e
 obtain⟨kind,gen,man,want,done,i,b⟩:=m
 have k:kind=2:=k
 subst k
 refine J.run rfl rfl fun W U=>?_
 conv=>lhs;whnf
 repeat'((first|apply U.t|apply U.f|(apply U.q;exact aE)|apply U.w (a1)|apply U.w (bR J _ _ _)|apply U.w (cH J _)|(apply U.b<;>intro h))<;>conv=>lhs;whnf)
 all_goals(refine congrArg (fun b=>(some ([bv b],[]):Option dA)) ?_;first|rfl|(simp_all [gY,aJ];done)|(simp_all [gY,aJ]<;>(intros;omega)))
theorem aH2 {E:aR} (J:Sys E) (m:Msg) (hm:m.lim 1048576) (k:m.kind=3):E 302 [gv (m.cs aO)]=some ([bv (bT m)],[]):=by
 have a1:=jG J m.man ⟨0,0,0,[]⟩ (Nat.le_trans (xR hm) (by decide))
 rw[wE]at a1
 have e:bT m=(aW m.gen 1 1000000&&(bX m.man&&(decide (m.want=0)&&(decide (m.done=0)&&(aW m.i 0 39&&aW m.b.length 1 6))))):=by unfold bT;rw[if_neg (by omega),if_neg (by omega),if_pos k]
 rw[e]
 clear e
 obtain⟨kind,gen,man,want,done,i,b⟩:=m
 have k:kind=3:=k
 subst k
 refine J.run rfl rfl fun W U=>?_
 conv=>lhs;whnf
 repeat'((first|apply U.t|apply U.f|(apply U.q;exact aE)|apply U.w (a1)|apply U.w (bR J _ _ _)|(apply U.b<;>intro h))<;>conv=>lhs;whnf)
 all_goals(refine congrArg (fun b=>(some ([bv b],[]):Option dA)) ?_;first|rfl|(simp_all [gY,aJ];done)|(simp_all [gY,aJ]<;>(intros;omega)))
theorem aH3 {E:aR} (J:Sys E) (m:Msg) (hm:m.lim 1048576) (k1:m.kind≠1) (k2:m.kind≠2) (k3:m.kind≠3):E 302 [gv (m.cs aO)]=some ([bv (bT m)],[]):=by
 have a1:=jG J m.man ⟨0,0,0,[]⟩ (Nat.le_trans (xR hm) (by decide))
 rw[wE]at a1
 have e:bT m=(decide (m.kind=4)&&(aW m.gen 0 1000000&&gY m false false false)):=by unfold bT;rw[if_neg k1,if_neg k2,if_neg k3]
 rw[e]
 clear e
 refine J.run rfl rfl fun W U=>?_
 conv=>lhs;whnf
 repeat'((first|with_reducible apply U.bf (decide_eq_false k1)|with_reducible apply U.bf (decide_eq_false k2)|with_reducible apply U.bf (decide_eq_false k3)|apply U.t|apply U.f|(apply U.q;exact aE)|apply U.w (a1)|apply U.w (bR J _ _ _)|(apply U.b<;>intro h))<;>conv=>lhs;whnf)
 all_goals(refine congrArg (fun b=>(some ([bv b],[]):Option dA)) ?_;first|rfl|(simp_all [gY,aJ];done)|(simp_all [gY,aJ]<;>(intros;omega)))
theorem aDs {E:aR} (J:Sys E) (m:Msg) (hm:m.lim 1048576):E 302 [gv (m.cs aO)]=some ([bv (bT m)],[]):=by
 by_cases k1:m.kind=1
 ·exact aH0 J m hm k1
 by_cases k2:m.kind=2
 ·exact aH1 J m hm k2
 by_cases k3:m.kind=3
 ·exact aH2 J m hm k3
 exact aH3 J m hm k1 k2 k3
theorem aDt {E:aR} (J:Sys E) (m:Msg) (hm:m.lim 1048576):E 311 [gv (m.cs aO)]=some ([bv (bT m)],[]):=by
 have a2:=lS J m.man (xR hm)
 have b1:=kY J m true false false
 have b2:=kY J m false true false
 have b3:=kY J m false false true
 have b4:=kY J m false false false
 by_cases k1:m.kind=1
 ·have e:bT m=(decide (m.gen=0)&&(!decide (m.man.gen=0)&&(aY m.man&&gY m true false false))):=by unfold bT;rw[if_pos k1]
  rw[e]
  clear e
  refine J.run rfl rfl fun W U=>?_
  conv=>lhs;whnf
  repeat'((first|with_reducible apply U.bt (decide_eq_true k1)|apply U.t|apply U.f|(apply U.q;exact aE)|apply U.w (a2)|apply U.w (b1)|(apply U.b<;>intro h))<;>conv=>lhs;whnf)
  all_goals(refine congrArg (fun b=>(some ([bv b],[]):Option dA)) ?_;first|rfl|(simp_all [];done)|(simp_all []<;>(intros;omega)))
 by_cases k2:m.kind=2
 ·have e:bT m=(aW m.gen 0 1000000&&(bX m.man&&(bG m.want&&(bG m.done&&(decide (m.i=0)&&decide (m.b=[])))))):=by unfold bT;rw[if_neg k1,if_pos k2]
  rw[e]
  clear e
  refine J.run rfl rfl fun W U=>?_
  conv=>lhs;whnf
  repeat'((first|with_reducible apply U.bf (decide_eq_false k1)|with_reducible apply U.bt (decide_eq_true k2)|apply U.t|apply U.f|(apply U.q;exact aE)|apply U.w (aDo J _)|apply U.w (dD J _)|apply U.w (b2)|(apply U.b<;>intro h))<;>conv=>lhs;whnf)
  all_goals(refine congrArg (fun b=>(some ([bv b],[]):Option dA)) ?_;first|rfl|(simp_all [gY];done)|(simp_all [gY]<;>(intros;omega)))
 by_cases k3:m.kind=3
 ·have e:bT m=(aW m.gen 1 1000000&&(bX m.man&&(decide (m.want=0)&&(decide (m.done=0)&&(aW m.i 0 39&&aW m.b.length 1 6))))):=by unfold bT;rw[if_neg k1,if_neg k2,if_pos k3]
  rw[e]
  clear e
  refine J.run rfl rfl fun W U=>?_
  conv=>lhs;whnf
  repeat'((first|with_reducible apply U.bf (decide_eq_false k1)|with_reducible apply U.bf (decide_eq_false k2)|with_reducible apply U.bt (decide_eq_true k3)|apply U.t|apply U.f|(apply U.q;exact aE)|apply U.w (cP J _ _ _)|apply U.w (vY J _)|apply U.w (b3)|(apply U.b<;>intro h))<;>conv=>lhs;whnf)
  all_goals(refine congrArg (fun b=>(some ([bv b],[]):Option dA)) ?_;first|rfl|(simp_all [gY,aJ];done)|(simp_all [gY,aJ]<;>(intros;omega)))
 have e:bT m=(decide (m.kind=4)&&(aW m.gen 0 1000000&&gY m false false false)):=by unfold bT;rw[if_neg k1,if_neg k2,if_neg k3]
 rw[e]
 clear e
 refine J.run rfl rfl fun W U=>?_
 conv=>lhs;whnf
 repeat'((first|with_reducible apply U.bf (decide_eq_false k1)|with_reducible apply U.bf (decide_eq_false k2)|with_reducible apply U.bf (decide_eq_false k3)|apply U.t|apply U.f|(apply U.q;exact aE)|apply U.w (aDo J _)|apply U.w (b4)|(apply U.b<;>intro h))<;>conv=>lhs;whnf)
 all_goals(refine congrArg (fun b=>(some ([bv b],[]):Option dA)) ?_;first|rfl|(simp_all [];done)|(simp_all []<;>(intros;omega)))
theorem aDu {n:Nat}:(kO n).length≤9:=aR4
theorem aR6 (k:Int):nG (dK k)=[.int .u8 (IntKind.u8.wrap k)]:=by simp[nG,jF]
theorem pQ (a:aD) (k:Int):aU a++[[.int .u8 (IntKind.u8.wrap k)]]=aU (a++[dK k]):=by rw[mK,← aR6];rfl
theorem aFK {E:aR} (J:Sys E) (b:aD) (n:Nat) (hb:b.length≤1099511627776) (hn:n<9223372036854775808):E 309 [ov 1 (aU b),iv n]=some ([ov 1 (aU (b++kO n))],[]):=by
 refine J.run rfl rfl fun W U=>?_
 conv=>lhs;whnf
 refine U.loop (σ:=Nat × aD) (γ:=Nat) (fun i s=>(s.sl 1 (v1 (.t (.int .i64 i.1)))).bl ⟨50000,1, .own,aU i.2⟩) (fun i k=>k≤8∧i.1<128 ^ (k+1)∧i.1<9223372036854775808∧i.2.length+k≤b.length+8∧i.2++jL k i.1=b++kO n) (fun k=>k) (fun _=>([ov 1 (aU (b++kO n))],[])) (n,b) 8 ?_ ?_ ?_ ?_
 ·intro K
  conv=>lhs;whnf
  conv=>rhs;whnf
  try rfl
 ·refine⟨by omega,?_,hn,by simp only;omega,rfl⟩
  have:(128:Nat) ^ (8+1)=9223372036854775808:=by decide
  simp only;omega
 ·rintro kl ⟨m,acc⟩ k ⟨hk,hm,hm2,hl,hs⟩ ih
  simp only at hm hm2 hl hs
  conv=>lhs;whnf
  apply U.b<;>intro g1<;>conv=>lhs;whnf
  ·have g1:127<m:=by
    have:(m:Int)>127:=by simpa using g1
    omega
   cases k with
   |zero=>simp at hm;omega
   |succ k =>
    rw[jL,if_neg (by omega)]at hs
    refine U.q (by exact⟨by decide,by intro e he;simp at he;subst he;rfl,by simp[aJ];omega,by simp[aJ];omega⟩) ?_
    conv=>lhs;whnf
    repeat((first|apply U.t|apply U.f|(apply U.q;exact aE));conv=>lhs;whnf)
    rw[aR5 (by omega),aUZ]
    refine ih (m/128,acc++[dK ((m%128+128:Nat):Int)]) k _ ?_ ⟨by omega,?_,by omega,by simp;omega,by simpa using hs⟩ (by omega)
    ·intro K
     conv=>lhs;whnf
     conv=>rhs;whnf
     try rfl
     rw[← pQ]
     rfl
    ·have:128 ^ (k+1+1)=128 ^ (k+1)*128:=Nat.pow_succ ..
     simp only
     omega
  ·have g1:m<128:=by
    have:¬ (m:Int)>127:=by simpa using g1
    omega
   have:jL k m=[dK (m:Int)]:=by cases k<;>simp[jL,g1]
   rw[this]at hs
   refine U.q (by exact⟨by decide,by intro e he;simp at he;subst he;rfl,by simp[aJ];omega,by simp[aJ];omega⟩) ?_
   conv=>lhs;whnf
   repeat((first|apply U.t|apply U.f|(apply U.q;exact aE));conv=>lhs;whnf)
   rw[← hs,← pQ]
   rfl
 ·rfl
theorem pR {E:aR} (J:Sys E) (b:aD) (n:Nat) (hb:b.length≤1099511627776) (hn:n<9223372036854775808):E 320 [ov 1 (aU b),iv n]=some ([ov 1 (aU (b++kO n))],[]):=by
 refine J.run rfl rfl fun W U=>?_
 conv=>lhs;whnf
 refine U.loop (σ:=Nat × aD) (γ:=Nat) (fun i s=>(s.sl 1 (v1 (.t (.int .i64 i.1)))).bl ⟨50000,1, .own,aU i.2⟩) (fun i k=>k≤8∧i.1<128 ^ (k+1)∧i.1<9223372036854775808∧i.2.length+k≤b.length+8∧i.2++jL k i.1=b++kO n) (fun k=>k) (fun _=>([ov 1 (aU (b++kO n))],[])) (n,b) 8 ?_ ?_ ?_ ?_
 ·intro K
  conv=>lhs;whnf
  conv=>rhs;whnf
  try rfl
 ·refine⟨by omega,?_,hn,by simp only;omega,rfl⟩
  have:(128:Nat) ^ (8+1)=9223372036854775808:=by decide
  simp only;omega
 ·rintro kl ⟨m,acc⟩ k ⟨hk,hm,hm2,hl,hs⟩ ih
  simp only at hm hm2 hl hs
  conv=>lhs;whnf
  apply U.b<;>intro g1<;>conv=>lhs;whnf
  ·have g1:127<m:=by
    have:(m:Int)≥128:=by simpa using g1
    omega
   cases k with
   |zero=>simp at hm;omega
   |succ k =>
    rw[jL,if_neg (by omega)]at hs
    refine U.q (by exact⟨by decide,by intro e he;simp at he;subst he;rfl,by simp[aJ];omega,by simp[aJ];omega⟩) ?_
    conv=>lhs;whnf
    repeat((first|apply U.t|apply U.f|(apply U.q;exact aE));conv=>lhs;whnf)
    rw[aUY,aUZ]
    refine ih (m/128,acc++[dK ((m%128+128:Nat):Int)]) k _ ?_ ⟨by omega,?_,by omega,by simp;omega,by simpa using hs⟩ (by omega)
    ·intro K
     conv=>lhs;whnf
     conv=>rhs;whnf
     try rfl
     rw[← pQ]
     rfl
    ·have:128 ^ (k+1+1)=128 ^ (k+1)*128:=Nat.pow_succ ..
     simp only
     omega
  ·have g1:m<128:=by
    have:¬ (m:Int)≥128:=by simpa using g1
    omega
   have:jL k m=[dK (m:Int)]:=by cases k<;>simp[jL,g1]
   rw[this]at hs
   refine U.q (by exact⟨by decide,by intro e he;simp at he;subst he;rfl,by simp[aJ];omega,by simp[aJ];omega⟩) ?_
   conv=>lhs;whnf
   repeat((first|apply U.t|apply U.f|(apply U.q;exact aE));conv=>lhs;whnf)
   rw[← hs,← pQ]
   rfl
 ·rfl
def aC (b:aD) (n:Int):aD:=if aW n 0 1000000000000=true then b++kO n.toNat else b
theorem aL (b:aD) (n:Int):(aC b n).length≤b.length+9:=by
 unfold aC;split
 ·have:=aDu (n:=n.toNat);simp;omega
 ·omega
theorem aZ {E:aR} (J:Sys E) (b:aD) (n:Int) (hb:b.length≤1099511627776):E 303 [sv (aU b),iv n]=some ([ov 1 (aU (aC b n))],[]):=by
 have a:=bR J n 0 1000000000000
 unfold aC
 cases hr:aW n 0 1000000000000
 ·rw[hr]at a
  refine J.run rfl rfl fun W U=>?_
  conv=>lhs;whnf
  refine U.q (by exact⟨by decide,bK _,by simp[aJ];omega,by simp[aJ];omega⟩) ?_
  conv=>lhs;whnf
  apply U.bt (cZ _)
  conv=>lhs;whnf
  apply U.w (a)
  conv=>lhs;whnf
  repeat((first|apply U.t|apply U.f|(apply U.q;exact aE));conv=>lhs;whnf)
  rfl
 ·rw[hr]at a
  have hr:=bS hr
  obtain⟨n,rfl⟩:∃ k:Nat,n=k:=⟨n.toNat,by omega⟩
  simp only[if_true]
  rw[show((n:Int).toNat)=n from by omega]
  refine J.run rfl rfl fun W U=>?_
  conv=>lhs;whnf
  refine U.q (by exact⟨by decide,bK _,by simp[aJ];omega,by simp[aJ];omega⟩) ?_
  conv=>lhs;whnf
  apply U.bt (cZ _)
  conv=>lhs;whnf
  apply U.w (a)
  conv=>lhs;whnf
  repeat((first|apply U.t|apply U.f|(apply U.q;exact aE));conv=>lhs;whnf)
  refine U.loop (σ:=Nat × aD) (γ:=Nat) (fun i s=>(s.sl 1 (v1 (.t (.int .i64 i.1)))).bl ⟨50500,1, .own,aU i.2⟩) (fun i k=>k≤8∧i.1<128 ^ (k+1)∧i.1<9223372036854775808∧i.2.length+k≤b.length+8∧i.2++jL k i.1=b++kO n) (fun k=>k) (fun _=>([ov 1 (aU (b++kO n))],[])) (n,b) 8 ?_ ?_ ?_ ?_
  ·intro K
   conv=>lhs;whnf
   conv=>rhs;whnf
   try rfl
  ·refine⟨by omega,?_,by simp only;omega,by simp only;omega,rfl⟩
   have:(128:Nat) ^ (8+1)=9223372036854775808:=by decide
   simp only;omega
  ·rintro kl ⟨m,acc⟩ k ⟨hk,hm,hm2,hl,hs⟩ ih
   simp only at hm hm2 hl hs
   conv=>lhs;whnf
   apply U.b<;>intro g1<;>conv=>lhs;whnf
   ·have g1:127<m:=by
     have:(m:Int)>127:=by simpa using g1
     omega
    cases k with
    |zero=>simp at hm;omega
    |succ k =>
     rw[jL,if_neg (by omega)]at hs
     refine U.q (by exact⟨by decide,by intro e he;simp at he;subst he;rfl,by simp[aJ];omega,by simp[aJ];omega⟩) ?_
     conv=>lhs;whnf
     repeat((first|apply U.t|apply U.f|(apply U.q;exact aE));conv=>lhs;whnf)
     rw[aR5 (by omega),aUZ]
     refine ih (m/128,acc++[dK ((m%128+128:Nat):Int)]) k _ ?_ ⟨by omega,?_,by omega,by simp;omega,by simpa using hs⟩ (by omega)
     ·intro K
      conv=>lhs;whnf
      conv=>rhs;whnf
      try rfl
      rw[← pQ]
      rfl
     ·have:128 ^ (k+1+1)=128 ^ (k+1)*128:=Nat.pow_succ ..
      simp only
      omega
   ·have g1:m<128:=by
     have:¬ (m:Int)>127:=by simpa using g1
     omega
    have:jL k m=[dK (m:Int)]:=by cases k<;>simp[jL,g1]
    rw[this]at hs
    refine U.q (by exact⟨by decide,by intro e he;simp at he;subst he;rfl,by simp[aJ];omega,by simp[aJ];omega⟩) ?_
    conv=>lhs;whnf
    repeat((first|apply U.t|apply U.f|(apply U.q;exact aE));conv=>lhs;whnf)
    rw[← hs,← pQ]
    rfl
  ·rfl
theorem bE {E:aR} (J:Sys E) (b:aD) (n:Int) (hb:b.length≤68719476736):E 312 [sv (aU b),iv n]=some ([ov 1 (aU (aC b n))],[]):=by
 have a:=cP J n 0 1000000000000
 unfold aC
 cases hr:aW n 0 1000000000000
 ·rw[hr]at a
  refine J.run rfl rfl fun W U=>?_
  conv=>lhs;whnf
  apply U.w (eM J b hb)
  conv=>lhs;whnf
  repeat((first|apply U.t|apply U.f|(apply U.q;exact aE));conv=>lhs;whnf)
  apply U.w (a)
  conv=>lhs;whnf
  repeat((first|apply U.t|apply U.f|(apply U.q;exact aE));conv=>lhs;whnf)
  rfl
 ·rw[hr]at a
  have hr:=bS hr
  obtain⟨n,rfl⟩:∃ k:Nat,n=k:=⟨n.toNat,by omega⟩
  simp only[if_true]
  rw[show((n:Int).toNat)=n from by omega]
  refine J.run rfl rfl fun W U=>?_
  conv=>lhs;whnf
  apply U.w (eM J b hb)
  conv=>lhs;whnf
  repeat((first|apply U.t|apply U.f|(apply U.q;exact aE));conv=>lhs;whnf)
  apply U.w (a)
  conv=>lhs;whnf
  repeat((first|apply U.t|apply U.f|(apply U.q;exact aE));conv=>lhs;whnf)
  apply U.w (pR J b n (by omega) (by omega))
  conv=>lhs;whnf
  repeat((first|apply U.t|apply U.f|(apply U.q;exact aE));conv=>lhs;whnf)
  rfl
def cC (b s:aD):aD:=aC b s.length++s
theorem aHj {E:aR} (J:Sys E) (b s:aD) (hb:b.length≤1073741824) (hs:s.length≤1073741824):E 306 [sv (aU b),sv (aU s)]=some ([ov 1 (aU (cC b s))],[]):=by
 have hl:=aL b s.length
 refine J.run rfl rfl fun W U=>?_
 conv=>lhs;whnf
 rw[bO]
 apply U.w (aZ J b s.length (by omega))
 conv=>lhs;whnf
 repeat((first|apply U.t|apply U.f|(apply U.q;exact aE));conv=>lhs;whnf)
 refine U.q (by exact⟨by decide,bK _,by simp[aJ];omega,by simp[aJ];omega⟩) ?_
 conv=>lhs;whnf
 apply U.bt (cZ _)
 conv=>lhs;whnf
 unfold cC
 rw[mK]
 rfl
theorem aHk {E:aR} (J:Sys E) (b s:aD) (hb:b.length≤1073741824) (hs:s.length≤1073741824):E 315 [sv (aU b),sv (aU s)]=some ([ov 1 (aU (cC b s))],[]):=by
 have hl:=aL b s.length
 refine J.run rfl rfl fun W U=>?_
 conv=>lhs;whnf
 rw[bO]
 apply U.w (bE J b s.length (by omega))
 conv=>lhs;whnf
 repeat((first|apply U.t|apply U.f|(apply U.q;exact aE));conv=>lhs;whnf)
 refine U.q (by exact⟨by decide,bK _,by simp[aJ];omega,by simp[aJ];omega⟩) ?_
 conv=>lhs;whnf
 apply U.bt (cZ _)
 conv=>lhs;whnf
 unfold cC
 rw[mK]
 rfl
def mY (s:Int):Int:=IntKind.i64.wrap (BitVec.ofInt IntKind.i64.bits s &&& BitVec.ofInt IntKind.i64.bits 1048575).toNat
def yL (s:Int):Int:=s.fdiv (2 ^ (min (20:Int).toNat IntKind.i64.bits))
theorem wF {E:aR} (J:Sys E) (s:Int):E 305 [iv s]=some ([iv (mY s),iv (yL s)],[]):=by
 refine J.run rfl rfl fun W U=>?_
 conv=>lhs;whnf
 repeat((first|apply U.t|apply U.f|(apply U.q;exact aE));conv=>lhs;whnf)
 rfl
def bV (b:aD) (s:Int):aD:=aC (aC b (mY s)) (yL s)
theorem aAs {E:aR} (J:Sys E) (b:aD) (s:Int) (hb:b.length≤1073741824):E 314 [sv (aU b),iv s]=some ([ov 1 (aU (bV b s))],[]):=by
 have hl:=aL b (mY s)
 refine J.run rfl rfl fun W U=>?_
 conv=>lhs;whnf
 apply U.w (bE J b (mY s) (by omega))
 conv=>lhs;whnf
 repeat((first|apply U.t|apply U.f|(apply U.q;exact aE));conv=>lhs;whnf)
 apply U.w (bE J (aC b (mY s)) (yL s) (by omega))
 conv=>lhs;whnf
 repeat((first|apply U.t|apply U.f|(apply U.q;exact aE));conv=>lhs;whnf)
 rfl
def gG:List Sum→aD
 |[]=>[]
 |x::r=>kO x.s.toNat++gG r
def pT (b:aD) (m:Man):aD:=aC (aC (aC b m.gen) m.size) m.len
def cU (b:aD) (m:Man):aD:=if aY m=true then pT b m++gG m.sums else b
theorem aHl {s:Int} (h:bW s=true):1≤s∧s≤562949953421311:=by
 unfold bW dW at h
 split at h
 ·rename_i hr;exact bS hr
 ·cases h
theorem aR7 {m:Man} {l:List Sum}:∀ {i:Nat},yK m i l=true→∀ x∈l,1≤x.s∧x.s≤562949953421311:=by
 induction l with
 |nil=>intro i _ x hx;cases hx
 |cons y r ih =>
  intro i h x hx
  simp only[yK,Bool.and_eq_true]at h
  rcases List.mem_cons.mp hx with rfl|hx
  ·have h1:=h.1
   simp only[aAr,Bool.and_eq_true]at h1
   exact aHl h1.1
  ·exact ih h.2 x hx
theorem mZ {m:Man} (h:aY m=true):m.sums.length≤40∧∀ x∈m.sums,1≤x.s∧x.s≤562949953421311:=by
 unfold aY at h
 split at h
 ·simp[bX]at h
  rw[h.2.2.2]
  exact⟨by simp,fun x hx=>by cases hx⟩
 ·simp only[Bool.and_eq_true,decide_eq_true_eq]at h
  obtain⟨_,_,h3,h4⟩:=h
  have:=pM m.size m.len
  exact⟨by omega,aR7 h4⟩
theorem aEA (b:aD) (m:Man):(pT b m).length≤b.length+27:=by
 unfold pT
 have h1:=aL b m.gen
 have h2:=aL (aC b m.gen) m.size
 have h3:=aL (aC (aC b m.gen) m.size) m.len
 omega
theorem aH4 {E:aR} (J:Sys E) (b:aD) (m:Man) (hb:b.length≤1073741824) (hm:m.sums.length≤1048576):E 304 [sv (aU b),gv (m.cs aO)]=some ([ov 1 (aU (cU b m))],[]):=by
 have a:=eH J m hm
 have h1:=aL b m.gen
 have h2:=aL (aC b m.gen) m.size
 have h3:=aEA b m
 have hrl:(m.sums.map Sum.row).length=m.sums.length:=List.length_map _
 unfold cU
 cases hr:aY m
 ·rw[hr]at a
  refine J.run rfl rfl fun W U=>?_
  conv=>lhs;whnf
  refine U.q (by exact⟨by decide,bK _,by simp[aJ];omega,by simp[aJ];omega⟩) ?_
  conv=>lhs;whnf
  apply U.bt (cZ _)
  conv=>lhs;whnf
  apply U.w (a)
  conv=>lhs;whnf
  repeat((first|apply U.t|apply U.f|(apply U.q;exact aE));conv=>lhs;whnf)
  rfl
 ·rw[hr]at a
  obtain⟨hs1,hs2⟩:=mZ hr
  simp only[if_true]
  refine J.run rfl rfl fun W U=>?_
  conv=>lhs;whnf
  refine U.q (by exact⟨by decide,bK _,by simp[aJ];omega,by simp[aJ];omega⟩) ?_
  conv=>lhs;whnf
  apply U.bt (cZ _)
  conv=>lhs;whnf
  apply U.w (a)
  conv=>lhs;whnf
  repeat((first|apply U.t|apply U.f|(apply U.q;exact aE));conv=>lhs;whnf)
  apply U.w (aZ J b m.gen (by omega))
  conv=>lhs;whnf
  repeat((first|apply U.t|apply U.f|(apply U.q;exact aE));conv=>lhs;whnf)
  apply U.w (aZ J (aC b m.gen) m.size (by omega))
  conv=>lhs;whnf
  repeat((first|apply U.t|apply U.f|(apply U.q;exact aE));conv=>lhs;whnf)
  apply U.w (aZ J (aC (aC b m.gen) m.size) m.len (by omega))
  conv=>lhs;whnf
  repeat((first|apply U.t|apply U.f|(apply U.q;exact aE));conv=>lhs;whnf)
  refine U.loop (σ:=Nat × aD) (γ:=Nat) (fun i s=>(s.sl 6 (v1 (.t (.int .i64 i.1)))).bl ⟨50500,1, .own,aU i.2⟩) (fun i k=>i.1=k∧k≤m.sums.length∧i.2.length≤b.length+27+9*k∧i.2++gG (m.sums.drop k)=pT b m++gG m.sums) (fun k=>m.sums.length-k) (fun _=>([ov 1 (aU (pT b m++gG m.sums))],[])) (0,pT b m) 0 ?_ ?_ ?_ ?_
  ·intro K
   conv=>lhs;whnf
   conv=>rhs;whnf
   try rfl
  ·exact⟨rfl,by omega,by simp only;omega,rfl⟩
  ·rintro kl ⟨i,acc⟩ _ ⟨rfl,hi,hl,hs⟩ ih
   simp only at hi hl hs
   conv=>lhs;whnf
   rw[hrl]
   apply U.b<;>intro g1<;>conv=>lhs;whnf
   ·have g1:i<m.sums.length:=by simpa using g1
    have hx:=hs2 _ (List.getElem_mem g1)
    rw[List.drop_eq_getElem_cons g1,gG]at hs
    repeat((first|apply U.t|apply U.f|(apply U.q;exact aE)|(refine U.w (cG ?_) ?_;omega));conv=>lhs;whnf)
    obtain⟨q,hq⟩:∃ q:Nat,m.sums[i].s=q:=⟨m.sums[i].s.toNat,by omega⟩
    rw[hq]at hs ⊢
    rw[show((q:Int).toNat)=q from by omega]at hs
    apply U.w (aFK J acc q (by omega) (by omega))
    conv=>lhs;whnf
    repeat((first|apply U.t|apply U.f|(apply U.q;exact aE));conv=>lhs;whnf)
    have hv:=aDu (n:=q)
    refine ih (i+1,acc++kO q) (i+1) _ ?_ ⟨rfl,by omega,by simp;omega,by simpa using hs⟩ (by omega)
    intro K
    conv=>lhs;whnf
    conv=>rhs;whnf
    try rfl
    rw[show IntKind.i64.wrap ((i:Int)+1)=_ from aK (by omega)]
    try rfl
   ·have:i=m.sums.length:=by simp at g1;omega
    rw[this,List.drop_length,gG,List.append_nil]at hs
    rw[← hs];rfl
  ·rfl
theorem aH5 {E:aR} (J:Sys E) (b:aD) (m:Man) (hb:b.length≤1073741824) (hm:m.sums.length≤1048576):E 313 [sv (aU b),gv (m.cs aO)]=some ([ov 1 (aU (cU b m))],[]):=by
 have a:=lS J m hm
 have h1:=aL b m.gen
 have h2:=aL (aC b m.gen) m.size
 have h3:=aEA b m
 have hrl:(m.sums.map Sum.row).length=m.sums.length:=List.length_map _
 unfold cU
 cases hr:aY m
 ·rw[hr]at a
  refine J.run rfl rfl fun W U=>?_
  conv=>lhs;whnf
  apply U.w (a)
  conv=>lhs;whnf
  repeat((first|apply U.t|apply U.f|(apply U.q;exact aE));conv=>lhs;whnf)
  apply U.w (eM J b (by omega))
  conv=>lhs;whnf
  repeat((first|apply U.t|apply U.f|(apply U.q;exact aE));conv=>lhs;whnf)
  rfl
 ·rw[hr]at a
  obtain⟨hs1,hs2⟩:=mZ hr
  simp only[if_true]
  refine J.run rfl rfl fun W U=>?_
  conv=>lhs;whnf
  apply U.w (a)
  conv=>lhs;whnf
  repeat((first|apply U.t|apply U.f|(apply U.q;exact aE));conv=>lhs;whnf)
  apply U.w (bE J b m.gen (by omega))
  conv=>lhs;whnf
  repeat((first|apply U.t|apply U.f|(apply U.q;exact aE));conv=>lhs;whnf)
  apply U.w (bE J (aC b m.gen) m.size (by omega))
  conv=>lhs;whnf
  repeat((first|apply U.t|apply U.f|(apply U.q;exact aE));conv=>lhs;whnf)
  apply U.w (bE J (aC (aC b m.gen) m.size) m.len (by omega))
  conv=>lhs;whnf
  repeat((first|apply U.t|apply U.f|(apply U.q;exact aE));conv=>lhs;whnf)
  rw[hrl]
  refine U.loop (σ:=Nat × aD) (γ:=Nat) (fun i s=>(s.sl 26 (v1 (.t (.int .i64 i.1)))).bl ⟨50500,1, .own,aU i.2⟩) (fun i k=>i.1=k∧k≤m.sums.length∧i.2.length≤b.length+27+9*k∧i.2++gG (m.sums.drop k)=pT b m++gG m.sums) (fun k=>m.sums.length-k) (fun _=>([ov 1 (aU (pT b m++gG m.sums))],[])) (0,pT b m) 0 ?_ ?_ ?_ ?_
  ·intro K
   conv=>lhs;whnf
   conv=>rhs;whnf
   try rfl
  ·exact⟨rfl,by omega,by simp only;omega,rfl⟩
  ·rintro kl ⟨i,acc⟩ _ ⟨rfl,hi,hl,hs⟩ ih
   simp only at hi hl hs
   conv=>lhs;whnf
   apply U.b<;>intro g1<;>conv=>lhs;whnf
   ·have g1:i<m.sums.length:=by simpa using g1
    have hx:=hs2 _ (List.getElem_mem g1)
    rw[List.drop_eq_getElem_cons g1,gG]at hs
    repeat((first|apply U.t|apply U.f|(apply U.q;exact aE)|(refine U.w (cG ?_) ?_;omega));conv=>lhs;whnf)
    obtain⟨q,hq⟩:∃ q:Nat,m.sums[i].s=q:=⟨m.sums[i].s.toNat,by omega⟩
    rw[hq]at hs ⊢
    rw[show((q:Int).toNat)=q from by omega]at hs
    apply U.w (pR J acc q (by omega) (by omega))
    conv=>lhs;whnf
    repeat((first|apply U.t|apply U.f|(apply U.q;exact aE));conv=>lhs;whnf)
    have hv:=aDu (n:=q)
    refine ih (i+1,acc++kO q) (i+1) _ ?_ ⟨rfl,by omega,by simp;omega,by simpa using hs⟩ (by omega)
    intro K
    conv=>lhs;whnf
    conv=>rhs;whnf
    try rfl
    rw[show IntKind.i64.wrap ((i:Int)+1)=_ from aK (by omega)]
    try rfl
   ·have:i=m.sums.length:=by simp at g1;omega
    rw[this,List.drop_length,gG,List.append_nil]at hs
    rw[← hs];rfl
  ·rfl
def iL (m:Msg):aD :=
 if m.kind=1 then cU (aC [] m.kind) m.man
 else if m.kind=2 then bV (bV (aC (aC [] m.kind) m.gen) m.want) m.done
 else if m.kind=3 then cC (aC (aC (aC [] m.kind) m.gen) m.i) m.b
 else aC (aC [] m.kind) m.gen
def bZ (m:Msg):aD:=if bT m=true then aC (iL m) (bB (iL m)) else[]
theorem aA5 {m:Msg} (h:bT m=true):m.kind=1∨m.kind=2∨m.kind=3∨m.kind=4:=by
 unfold bT at h
 by_cases k1:m.kind=1
 ·exact .inl k1
 by_cases k2:m.kind=2
 ·exact .inr (.inl k2)
 by_cases k3:m.kind=3
 ·exact .inr (.inr (.inl k3))
 rw[if_neg k1,if_neg k2,if_neg k3]at h
 simp only[Bool.and_eq_true,decide_eq_true_eq]at h
 exact .inr (.inr (.inr h.1))
theorem aJ7 {m:Msg} (h:bT m=true):m.b.length≤6∨m.kind≠3:=by
 by_cases k3:m.kind=3
 ·left
  unfold bT at h
  rw[if_neg (by omega),if_neg (by omega),if_pos k3]at h
  simp only[Bool.and_eq_true]at h
  have:=bS h.2.2.2.2.2
  omega
 ·exact .inr k3
theorem aPs {l:List Sum}:(gG l).length≤9*l.length:=by
 induction l with
 |nil=>simp[gG]
 |cons x r ih =>
  have:=aDu (n:=x.s.toNat)
  simp only[gG,List.length_append,List.length_cons];omega
theorem aLJ (b:aD) (m:Man):(cU b m).length≤b.length+387:=by
 unfold cU
 split
 ·rename_i h
  have h1:=(mZ h).1
  have h2:=aPs (l:=m.sums)
  have h3:=aEA b m
  simp only[List.length_append];omega
 ·omega
theorem aFb (b:aD) (s:Int):(bV b s).length≤b.length+18:=by
 unfold bV
 have h1:=aL b (mY s)
 have h2:=aL (aC b (mY s)) (yL s)
 omega
theorem aHm {m:Msg} (h:bT m=true):(iL m).length≤1000:=by
 have hb:=aJ7 h
 have s0:=aL [] m.kind
 simp only[List.length_nil]at s0
 unfold iL
 split
 ·have:=aLJ (aC [] m.kind) m.man;omega
 ·split
  ·have h1:=aL (aC [] m.kind) m.gen
   have h2:=aFb (aC (aC [] m.kind) m.gen) m.want
   have h3:=aFb (bV (aC (aC [] m.kind) m.gen) m.want) m.done
   omega
  ·split
   ·have h1:=aL (aC [] m.kind) m.gen
    have h2:=aL (aC (aC [] m.kind) m.gen) m.i
    have h3:=aL (aC (aC (aC [] m.kind) m.gen) m.i) m.b.length
    unfold cC
    simp only[List.length_append]
    omega
   ·have h1:=aL (aC [] m.kind) m.gen;omega
theorem aH6 {E:aR} (J:Sys E) (m:Msg) (hm:m.lim 1048576):E 301 [gv (m.cs aO)]=some ([ov 1 (aU (bZ m))],[]):=by
 have a:=aDs J m hm
 cases hr:bT m
 ·rw[hr]at a
  have e:bZ m=[]:=by unfold bZ;rw[if_neg (by rw[hr];decide)]
  rw[e]
  refine J.run rfl rfl fun W U=>?_
  conv=>lhs;whnf
  apply U.w (a)
  conv=>lhs;whnf
  repeat((first|apply U.t|apply U.f|(apply U.q;exact aE));conv=>lhs;whnf)
  rfl
 ·rw[hr]at a
  have e:bZ m=aC (iL m) (bB (iL m)):=by unfold bZ;rw[if_pos hr]
  have hk:=aA5 hr
  have hbl:=aJ7 hr
  have hL:=aHm hr
  rw[e]
  clear e
  obtain⟨kind,gen,man,want,done,i,b⟩:=m
  have hk:kind=1∨kind=2∨kind=3∨kind=4:=hk
  have hms:man.sums.length≤1048576:=hm.1
  have hbl:b.length≤6∨kind≠3:=hbl
  clear hm
  rcases hk with hk|hk|hk|hk
  ·subst hk
   have hB:iL ⟨1,gen,man,want,done,i,b⟩=cU (aC [] 1) man:=rfl
   rw[hB]at hL ⊢
   have s0:=aL [] 1
   refine J.run rfl rfl fun W U=>?_
   conv=>lhs;whnf
   apply U.w (a)
   conv=>lhs;whnf
   repeat((first|apply U.t|apply U.f|(apply U.q;exact aE));conv=>lhs;whnf)
   apply U.w (aZ J [] 1 (by simp))
   conv=>lhs;whnf
   repeat((first|apply U.t|apply U.f|(apply U.q;exact aE));conv=>lhs;whnf)
   apply U.w (aH4 J (aC [] 1) man (by simp at s0;omega) hms)
   conv=>lhs;whnf
   repeat((first|apply U.t|apply U.f|(apply U.q;exact aE));conv=>lhs;whnf)
   apply U.w (eO J (cU (aC [] 1) man) (by omega))
   conv=>lhs;whnf
   repeat((first|apply U.t|apply U.f|(apply U.q;exact aE));conv=>lhs;whnf)
   apply U.w (aZ J (cU (aC [] 1) man) (bB (cU (aC [] 1) man)) (by omega))
   conv=>lhs;whnf
   repeat((first|apply U.t|apply U.f|(apply U.q;exact aE));conv=>lhs;whnf)
   rfl
  ·subst hk
   have hB:iL ⟨2,gen,man,want,done,i,b⟩=bV (bV (aC (aC [] 2) gen) want) done:=rfl
   rw[hB]at hL ⊢
   have s0:=aL [] 2
   have s1:=aL (aC [] 2) gen
   have s2:=aL (aC (aC [] 2) gen) (mY want)
   have s3:=aL (aC (aC (aC [] 2) gen) (mY want)) (yL want)
   have s4:=aL (aC (aC (aC (aC [] 2) gen) (mY want)) (yL want)) (mY done)
   have s5:=aL (aC (aC (aC (aC (aC [] 2) gen) (mY want)) (yL want)) (mY done)) (yL done)
   simp only[List.length_nil]at s0
   refine J.run rfl rfl fun W U=>?_
   conv=>lhs;whnf
   apply U.w (a)
   conv=>lhs;whnf
   repeat((first|apply U.t|apply U.f|(apply U.q;exact aE));conv=>lhs;whnf)
   apply U.w (aZ J [] 2 (by simp))
   conv=>lhs;whnf
   repeat((first|apply U.t|apply U.f|(apply U.q;exact aE));conv=>lhs;whnf)
   apply U.w (wF J want)
   conv=>lhs;whnf
   repeat((first|apply U.t|apply U.f|(apply U.q;exact aE));conv=>lhs;whnf)
   apply U.w (aZ J _ gen (by omega))
   conv=>lhs;whnf
   repeat((first|apply U.t|apply U.f|(apply U.q;exact aE));conv=>lhs;whnf)
   apply U.w (aZ J _ (mY want) (by omega))
   conv=>lhs;whnf
   repeat((first|apply U.t|apply U.f|(apply U.q;exact aE));conv=>lhs;whnf)
   apply U.w (aZ J _ (yL want) (by omega))
   conv=>lhs;whnf
   repeat((first|apply U.t|apply U.f|(apply U.q;exact aE));conv=>lhs;whnf)
   apply U.w (wF J done)
   conv=>lhs;whnf
   repeat((first|apply U.t|apply U.f|(apply U.q;exact aE));conv=>lhs;whnf)
   apply U.w (aZ J _ (mY done) (by omega))
   conv=>lhs;whnf
   repeat((first|apply U.t|apply U.f|(apply U.q;exact aE));conv=>lhs;whnf)
   apply U.w (aZ J _ (yL done) (by omega))
   conv=>lhs;whnf
   repeat((first|apply U.t|apply U.f|(apply U.q;exact aE));conv=>lhs;whnf)
   apply U.w (eO J (bV (bV (aC (aC [] 2) gen) want) done) (by omega))
   conv=>lhs;whnf
   repeat((first|apply U.t|apply U.f|(apply U.q;exact aE));conv=>lhs;whnf)
   apply U.w (aZ J (bV (bV (aC (aC [] 2) gen) want) done) (bB (bV (bV (aC (aC [] 2) gen) want) done)) (by omega))
   conv=>lhs;whnf
   repeat((first|apply U.t|apply U.f|(apply U.q;exact aE));conv=>lhs;whnf)
   rfl
  ·subst hk
   have hB:iL ⟨3,gen,man,want,done,i,b⟩=cC (aC (aC (aC [] 3) gen) i) b:=rfl
   rw[hB]at hL ⊢
   have s0:=aL [] 3
   have s1:=aL (aC [] 3) gen
   have s2:=aL (aC (aC [] 3) gen) i
   simp only[List.length_nil]at s0
   refine J.run rfl rfl fun W U=>?_
   conv=>lhs;whnf
   apply U.w (a)
   conv=>lhs;whnf
   repeat((first|apply U.t|apply U.f|(apply U.q;exact aE));conv=>lhs;whnf)
   apply U.w (aZ J [] 3 (by simp))
   conv=>lhs;whnf
   repeat((first|apply U.t|apply U.f|(apply U.q;exact aE));conv=>lhs;whnf)
   apply U.w (aZ J _ gen (by omega))
   conv=>lhs;whnf
   repeat((first|apply U.t|apply U.f|(apply U.q;exact aE));conv=>lhs;whnf)
   apply U.w (aZ J _ i (by omega))
   conv=>lhs;whnf
   repeat((first|apply U.t|apply U.f|(apply U.q;exact aE));conv=>lhs;whnf)
   apply U.w (aHj J _ b (by omega) (by omega))
   conv=>lhs;whnf
   repeat((first|apply U.t|apply U.f|(apply U.q;exact aE));conv=>lhs;whnf)
   apply U.w (eO J (cC (aC (aC (aC [] 3) gen) i) b) (by omega))
   conv=>lhs;whnf
   repeat((first|apply U.t|apply U.f|(apply U.q;exact aE));conv=>lhs;whnf)
   apply U.w (aZ J (cC (aC (aC (aC [] 3) gen) i) b) (bB (cC (aC (aC (aC [] 3) gen) i) b)) (by omega))
   conv=>lhs;whnf
   repeat((first|apply U.t|apply U.f|(apply U.q;exact aE));conv=>lhs;whnf)
   rfl
  ·subst hk
   have hB:iL ⟨4,gen,man,want,done,i,b⟩=aC (aC [] 4) gen:=rfl
   rw[hB]at hL ⊢
   have s0:=aL [] 4
   simp only[List.length_nil]at s0
   refine J.run rfl rfl fun W U=>?_
   conv=>lhs;whnf
   apply U.w (a)
   conv=>lhs;whnf
   repeat((first|apply U.t|apply U.f|(apply U.q;exact aE));conv=>lhs;whnf)
   apply U.w (aZ J [] 4 (by simp))
   conv=>lhs;whnf
   repeat((first|apply U.t|apply U.f|(apply U.q;exact aE));conv=>lhs;whnf)
   apply U.w (aZ J _ gen (by omega))
   conv=>lhs;whnf
   repeat((first|apply U.t|apply U.f|(apply U.q;exact aE));conv=>lhs;whnf)
   apply U.w (eO J (aC (aC [] 4) gen) (by omega))
   conv=>lhs;whnf
   repeat((first|apply U.t|apply U.f|(apply U.q;exact aE));conv=>lhs;whnf)
   apply U.w (aZ J (aC (aC [] 4) gen) (bB (aC (aC [] 4) gen)) (by omega))
   conv=>lhs;whnf
   repeat((first|apply U.t|apply U.f|(apply U.q;exact aE));conv=>lhs;whnf)
   rfl
end Tev
