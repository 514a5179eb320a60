/- What the functions compute, one contract each. -/
import Derived.Test.YtaoogeodghhnkaaGreatIgnoredIr1
set_option linter.unusedSimpArgs false
set_option linter.unusedVariables false
namespace Tev
open Go
set_option maxRecDepth 50000
set_option maxHeartbeats 20000000
def thn (v:Int) (f:Int→Int):Int:=if v<0 then -1 else f v
theorem pB {v:Int} {f:Int→Int} (h:v<0):thn v f = -1:=if_pos h
theorem nR {v:Int} {f:Int→Int} (h:¬ v<0):thn v f=f v:=if_neg h
theorem iM {v:Int} {f:Int→Int} (h:¬ thn v f<0):¬ v<0∧¬ f v<0:=by
 by_cases hv:v<0
 ·rw[pB hv]at h;omega
 ·rw[nR hv]at h;exact⟨hv,h⟩
def rg (v:Int):Prop := -1≤v∧v≤1048576
theorem aNw {v:Int} (h:rg v) : -1≤v∧v≤1048576:=h
theorem iN {v:Int} {f:Int→Int} (hf:¬ v<0→rg (f v)):rg (thn v f):=by
 by_cases hv:v<0
 ·rw[pB hv];exact⟨by omega,by omega⟩
 ·rw[nR hv];exact hf hv
def gY (left n:Int):Int:=if left-n<0 then -1 else left-n
theorem cM {left:Int} {n:Nat} (h:rg left):rg (gY left n):=by
 obtain⟨h1,h2⟩:=h
 unfold gY rg;split<;>omega
theorem jD {left:Int} {n:Nat} (h:rg left) (h1:¬ gY left n<0):n≤1048576∧gY left n=left-n:=by
 obtain⟨h2,h3⟩:=h
 unfold gY at h1 ⊢
 split at h1
 ·omega
 ·rename_i h4;rw[if_neg h4];omega
def szL {α:Type} (f:α→Int→Int):List α→Int→Int
 |[],left=>left
 |x::r,left=>thn (f x left) (szL f r)
def szS {α:Type} (f:α→Int→Int) (l:List α) (left:Int):Int:=thn (gY left l.length) (szL f l)
theorem aMy {α:Type} {f:α→Int→Int} (hf:∀ x v,rg v→rg (f x v)) {l:List α}:∀ {left:Int},rg left→rg (szL f l left):=by
 induction l with
 |nil=>intro left h;exact h
 |cons x r ih=>intro left h;exact iN fun _=>ih (hf x left h)
theorem aMz {α:Type} {f:α→Int→Int} {P:α→Prop} (hf:∀ x v,rg v→rg (f x v)) (hp:∀ x v,rg v→¬ f x v<0→P x) {l:List α}:∀ {left:Int},rg left→¬ szL f l left<0→∀ x∈l,P x:=by
 induction l with
 |nil=>intro left _ _ x hx;cases hx
 |cons x r ih =>
  intro left h h1 y hy
  obtain⟨h2,h3⟩:=iM h1
  rcases List.mem_cons.mp hy with rfl|hy
  ·exact hp _ _ h h2
  ·exact ih (hf x left h) h3 y hy
theorem aKk {α:Type} {f:α→Int→Int} (hf:∀ x v,rg v→rg (f x v)) {l:List α} {left:Int} (h:rg left):rg (szS f l left):=iN fun _=>aMy hf (cM h)
def aAw {α:Type} (P:Nat→α→Prop) (B:Nat) (l:List α):Prop:=l.length≤B∧∀ x∈l,P B x
theorem aMA {α:Type} {f:α→Int→Int} {P:Nat→α→Prop} (hf:∀ x v,rg v→rg (f x v)) (hp:∀ x v,rg v→¬ f x v<0→P 1048576 x) {l:List α} {left:Int} (h:rg left) (h1:¬ szS f l left<0):aAw P 1048576 l:=by
 obtain⟨h2,h3⟩:=iM h1
 exact⟨(jD h h2).1,aMz hf hp (cM h) h3⟩
theorem aGR {α:Type} {P:Nat→α→Prop} {B C:Nat} (hp:∀ x,P B x→P C x) (h:B≤C) {l:List α} (hl:aAw P B l):aAw P C l:=⟨by have:=hl.1;omega,fun x hx=>hp x (hl.2 x hx)⟩
theorem jE {α:Type} (f:α→List T) {l:List α} {n:Nat} (h:n<l.length) (z:List T):((l.take n).map f++List.replicate (l.length-n) z).set n (f l[n])=(l.take (n+1)).map f++List.replicate (l.length-(n+1)) z:=by
 have h1:((l.take n).map f).length=n:=by rw[List.length_map,List.length_take];omega
 rw[List.set_append,if_neg (by omega),h1,Nat.sub_self,show l.length-n=(l.length-(n+1))+1 from by omega,List.replicate_succ,List.set_cons_zero,show l.take (n+1)=l.take n++[l[n]] from by rw[List.take_add_one,List.getElem?_eq_getElem h];rfl,List.map_append]
 simp
theorem dK {α:Type} {f:α→List T} {l:List α} {n:Nat} (h:n<l.length) (z:List T):((l.take n).map f++List.replicate (l.length-n) z)[(n:Int).toNat]?=some z:=by
 have h1:((l.take n).map f).length=n:=by rw[List.length_map,List.length_take];omega
 rw[Int.toNat_natCast,List.getElem?_append_right (by omega),h1,Nat.sub_self,show l.length-n=(l.length-(n+1))+1 from by omega]
 rfl
def fY (k:Int):UInt8:=UInt8.ofNat (k%256).toNat
theorem jF (k:Int):((fY k).toNat:Int)=IntKind.u8.wrap k:=by
 unfold fY
 rw[UInt8.toNat_ofNat']
 simp only[IntKind.wrap,IntKind.bits,IntKind.signed]
 have h1:0≤k%256:=Int.emod_nonneg _ (by omega)
 have h2:k%256<256:=Int.emod_lt_of_pos _ (by omega)
 simp
 omega
def Sent.cs (x:Sent):List CA:=[ci x.frm,ci x.to,ci x.i]
theorem kO {E:Env} (hE:Sys E) (l:List UInt8) (left:Int) (hb:l.length≤140737488355328) (r0:rg left):E 9 [sv (bys l),iv left]=some ([iv (gY left l.length)],[]):=by
 obtain⟨hl0,hl1⟩:=r0
 refine hE.run rfl rfl fun W hW=>?_
 conv=>lhs;whnf
 have hw:IntKind.i64.wrap (left-((bys l).length:Int))=left-l.length:=by
  rw[show(bys l).length=l.length from List.length_map _];exact aH (by omega)
 apply hW.b<;>intro h<;>conv=>lhs;whnf
 ·rw[hw]at h
  simp only[decide_eq_true_eq]at h
  simp only[gY,if_pos h];rfl
 ·rw[hw]at h
  simp only[decide_eq_false_iff_not]at h
  rw[show gY left l.length=left-l.length from if_neg h,← hw];rfl
theorem kP {E:Env} (hE:Sys E) (l:List UInt8) (hb:l.length≤1048576):E 12 [sv (bys l)]=some ([ov 1 (bys l)],[]):=by
 have h0:l.length≤1048576:=hb
 refine hE.run rfl rfl fun W hW=>?_
 conv=>lhs;whnf
 refine hW.q (by(simp[bys,bZ]<;>omega)) ?_
 conv=>lhs;whnf
 refine hW.loop (σ:=Nat) (γ:=Nat) (fun i s=>(s.sl 4 (v1 (.t (.int .i64 i)))).bl ⟨700,1, .own,(l.take i).map wN++List.replicate (l.length-i) [.int .u8 0]⟩) (fun i n=>i=n∧n≤l.length) (fun n=>l.length-n) (fun _=>([ov 1 (bys l)],[])) 0 0 ?_ ?_ ?_ ?_
 ·intro K
  conv=>lhs;whnf
  conv=>rhs;whnf
  try rfl
  simp[bys,bZ]
 ·simp
 ·rintro kl n _ ⟨rfl,hn⟩ ih
  conv=>lhs;whnf
  apply hW.b<;>intro h2<;>conv=>lhs;whnf
  ·have h2:n<l.length:=by simpa[bys,bZ] using h2
   repeat((first|apply hW.t|apply hW.f|(apply hW.q;exact rqc)|(refine hW.w (cA ?_) ?_;omega));conv=>lhs;whnf)
   apply hW.w (dK h2 _)
   conv=>lhs;whnf
   repeat((first|apply hW.t|apply hW.f|(apply hW.q;exact rqc)|(refine hW.w (cA ?_) ?_;omega));conv=>lhs;whnf)
   apply hW.w (dK h2 _)
   conv=>lhs;whnf
   repeat((first|apply hW.t|apply hW.f|(apply hW.q;exact rqc)|(refine hW.w (cA ?_) ?_;omega));conv=>lhs;whnf)
   refine ih (n+1) (n+1) _ ?_ ⟨rfl,by omega⟩ (by omega)
   intro K
   conv=>lhs;whnf
   conv=>rhs;whnf
   try rfl
   rw[show IntKind.i64.wrap ((n:Int)+1)=_ from aI (by omega)]
   refine congrArg K (congrArg (St.mk _) (congrArg (List.cons _) (congrArg (fun x=>[Blk.mk (100*7) 1 .own x]) ?_)))
   exact jE wN h2 _
  ·have:n=l.length:=by simp[bys,bZ]at h2;omega
   subst this
   simp[List.take_length]
   rfl
 ·rfl
theorem kQ {E:Env} (hE:Sys E) (l m:List UInt8) (hb:l.length≤1099511627776):E 18 [sv (bys l),sv (bys m)]=some ([bv (decide (l=m))],[]):=by
 have h0:l.length≤1099511627776:=hb
 refine hE.run rfl rfl fun W hW=>?_
 conv=>lhs;whnf
 apply hW.b<;>intro h<;>conv=>lhs;whnf
 ·have:l≠m:=by rintro rfl;simp[bys,bZ]at h
  rw[decide_eq_false this];rfl
 ·have h:l.length=m.length:=by simp[bys,bZ]at h;omega
  refine hW.loop (σ:=Nat) (γ:=Nat) (fun i s=>s.sl 5 (v1 (.t (.int .i64 i)))) (fun i n=>i=n∧n≤l.length) (fun n=>l.length-n) (fun n=>([bv (decide (l.drop n=m.drop n))],[])) 0 0 ?_ ?_ ?_ ?_
  ·intro K
   conv=>lhs;whnf
   conv=>rhs;whnf
   try rfl
  ·simp
  ·rintro kl n _ ⟨rfl,hn⟩ ih
   conv=>lhs;whnf
   apply hW.b<;>intro h2<;>conv=>lhs;whnf
   ·have h2:n<l.length:=by simpa[bys,bZ] using h2
    rw[List.drop_eq_getElem_cons h2,List.drop_eq_getElem_cons (l:=m) (i:=n) (by omega)]
    repeat((first|apply hW.t|apply hW.f|(apply hW.q;exact rqc)|(refine hW.w (cA ?_) ?_;omega));conv=>lhs;whnf)
    apply hW.b<;>intro h3<;>conv=>lhs;whnf
    ·have h3:l[n]≠m[n]:=fun e=>by rw[e]at h3;simp at h3
     rw[decide_eq_false fun e=>h3 (List.cons.inj e).1];rfl
    ·have h3:l[n]=m[n]:=by
      simp at h3
      exact UInt8.toNat_inj.mp (by omega)
     simp only[h3,List.cons.injEq,true_and]
     refine ih (n+1) (n+1) _ ?_ ⟨rfl,by omega⟩ (by omega)
     intro K
     conv=>lhs;whnf
     conv=>rhs;whnf
     try rfl
     rw[show IntKind.i64.wrap ((n:Int)+1)=_ from aI (by omega)]
   ·have:n=l.length:=by simp[bys,bZ]at h2;omega
    subst this
    rw[List.drop_length,h,List.drop_length];rfl
  ·rfl
theorem aIZ {E:Env} (hE:Sys E) (l:List Int) (left:Int) (hb:l.length≤140737488355328) (r0:rg left):E 142 [sv (bZ l),iv left]=some ([iv (gY left l.length)],[]):=by
 obtain⟨hl0,hl1⟩:=r0
 refine hE.run rfl rfl fun W hW=>?_
 conv=>lhs;whnf
 have hw:IntKind.i64.wrap (left-((bZ l).length:Int))=left-l.length:=by
  rw[show(bZ l).length=l.length from List.length_map _];exact aH (by omega)
 apply hW.b<;>intro h<;>conv=>lhs;whnf
 ·rw[hw]at h
  simp only[decide_eq_true_eq]at h
  simp only[gY,if_pos h];rfl
 ·rw[hw]at h
  simp only[decide_eq_false_iff_not]at h
  rw[show gY left l.length=left-l.length from if_neg h,← hw];rfl
theorem aI0 {E:Env} (hE:Sys E) (l:List Int) (hb:l.length≤1048576):E 144 [sv (bZ l)]=some ([ov 1 (bZ l)],[]):=by
 have h0:l.length≤1048576:=hb
 refine hE.run rfl rfl fun W hW=>?_
 conv=>lhs;whnf
 refine hW.q (by(simp[bys,bZ]<;>omega)) ?_
 conv=>lhs;whnf
 refine hW.loop (σ:=Nat) (γ:=Nat) (fun i s=>(s.sl 4 (v1 (.t (.int .i64 i)))).bl ⟨700,1, .own,(l.take i).map rM++List.replicate (l.length-i) [.int .i64 0]⟩) (fun i n=>i=n∧n≤l.length) (fun n=>l.length-n) (fun _=>([ov 1 (bZ l)],[])) 0 0 ?_ ?_ ?_ ?_
 ·intro K
  conv=>lhs;whnf
  conv=>rhs;whnf
  try rfl
  simp[bys,bZ]
 ·simp
 ·rintro kl n _ ⟨rfl,hn⟩ ih
  conv=>lhs;whnf
  apply hW.b<;>intro h2<;>conv=>lhs;whnf
  ·have h2:n<l.length:=by simpa[bys,bZ] using h2
   repeat((first|apply hW.t|apply hW.f|(apply hW.q;exact rqc)|(refine hW.w (cA ?_) ?_;omega));conv=>lhs;whnf)
   apply hW.w (dK h2 _)
   conv=>lhs;whnf
   repeat((first|apply hW.t|apply hW.f|(apply hW.q;exact rqc)|(refine hW.w (cA ?_) ?_;omega));conv=>lhs;whnf)
   apply hW.w (dK h2 _)
   conv=>lhs;whnf
   repeat((first|apply hW.t|apply hW.f|(apply hW.q;exact rqc)|(refine hW.w (cA ?_) ?_;omega));conv=>lhs;whnf)
   refine ih (n+1) (n+1) _ ?_ ⟨rfl,by omega⟩ (by omega)
   intro K
   conv=>lhs;whnf
   conv=>rhs;whnf
   try rfl
   rw[show IntKind.i64.wrap ((n:Int)+1)=_ from aI (by omega)]
   refine congrArg K (congrArg (St.mk _) (congrArg (List.cons _) (congrArg (fun x=>[Blk.mk (100*7) 1 .own x]) ?_)))
   exact jE rM h2 _
  ·have:n=l.length:=by simp[bys,bZ]at h2;omega
   subst this
   simp[List.take_length]
   rfl
 ·rfl
theorem aI1 {E:Env} (hE:Sys E) (l m:List Int) (hb:l.length≤1099511627776):E 147 [sv (bZ l),sv (bZ m)]=some ([bv (decide (l=m))],[]):=by
 have h0:l.length≤1099511627776:=hb
 refine hE.run rfl rfl fun W hW=>?_
 conv=>lhs;whnf
 apply hW.b<;>intro h<;>conv=>lhs;whnf
 ·have:l≠m:=by rintro rfl;simp[bys,bZ]at h
  rw[decide_eq_false this];rfl
 ·have h:l.length=m.length:=by simp[bys,bZ]at h;omega
  refine hW.loop (σ:=Nat) (γ:=Nat) (fun i s=>s.sl 5 (v1 (.t (.int .i64 i)))) (fun i n=>i=n∧n≤l.length) (fun n=>l.length-n) (fun n=>([bv (decide (l.drop n=m.drop n))],[])) 0 0 ?_ ?_ ?_ ?_
  ·intro K
   conv=>lhs;whnf
   conv=>rhs;whnf
   try rfl
  ·simp
  ·rintro kl n _ ⟨rfl,hn⟩ ih
   conv=>lhs;whnf
   apply hW.b<;>intro h2<;>conv=>lhs;whnf
   ·have h2:n<l.length:=by simpa[bys,bZ] using h2
    rw[List.drop_eq_getElem_cons h2,List.drop_eq_getElem_cons (l:=m) (i:=n) (by omega)]
    repeat((first|apply hW.t|apply hW.f|(apply hW.q;exact rqc)|(refine hW.w (cA ?_) ?_;omega));conv=>lhs;whnf)
    apply hW.b<;>intro h3<;>conv=>lhs;whnf
    ·have h3:l[n]≠m[n]:=by simpa using h3
     rw[decide_eq_false fun e=>h3 (List.cons.inj e).1];rfl
    ·have h3:l[n]=m[n]:=by simpa using h3
     simp only[h3,List.cons.injEq,true_and]
     refine ih (n+1) (n+1) _ ?_ ⟨rfl,by omega⟩ (by omega)
     intro K
     conv=>lhs;whnf
     conv=>rhs;whnf
     try rfl
     rw[show IntKind.i64.wrap ((n:Int)+1)=_ from aI (by omega)]
   ·have:n=l.length:=by simp[bys,bZ]at h2;omega
    subst this
    rw[List.drop_length,h,List.drop_length];rfl
  ·rfl
theorem aI2 {E:Env} (hE:Sys E) (l:List Sum) (left:Int) (hb:l.length≤140737488355328) (r0:rg left):E 53 [sv (l.map Sum.row),iv left]=some ([iv (gY left l.length)],[]):=by
 obtain⟨hl0,hl1⟩:=r0
 refine hE.run rfl rfl fun W hW=>?_
 conv=>lhs;whnf
 have hw:IntKind.i64.wrap (left-((l.map Sum.row).length:Int))=left-l.length:=by
  rw[show(l.map Sum.row).length=l.length from List.length_map _];exact aH (by omega)
 apply hW.b<;>intro h<;>conv=>lhs;whnf
 ·rw[hw]at h
  simp only[decide_eq_true_eq]at h
  simp only[gY,if_pos h];rfl
 ·rw[hw]at h
  simp only[decide_eq_false_iff_not]at h
  rw[show gY left l.length=left-l.length from if_neg h,← hw];rfl
theorem aLm {E:Env} (hE:Sys E) (x:Sum):E 56 [gv (x.cs)]=some ([gv (x.cs)],[]):=by
 refine hE.run rfl rfl fun W hW=>?_
 conv=>lhs;whnf
 rfl
theorem aI3 {E:Env} (hE:Sys E) (l:List Sum) (hb:l.length≤1048576):E 57 [sv (l.map Sum.row)]=some ([ov 2 (l.map Sum.row)],[]):=by
 have h0:l.length≤1048576:=hb
 refine hE.run rfl rfl fun W hW=>?_
 conv=>lhs;whnf
 refine hW.q (by(simp[bys,bZ]<;>omega)) ?_
 conv=>lhs;whnf
 refine hW.loop (σ:=Nat) (γ:=Nat) (fun i s=>(s.sl 4 (v1 (.t (.int .i64 i)))).bl ⟨700,2, .own,(l.take i).map Sum.row++List.replicate (l.length-i) [.int .i64 0, .int .i64 0]⟩) (fun i n=>i=n∧n≤l.length) (fun n=>l.length-n) (fun _=>([ov 2 (l.map Sum.row)],[])) 0 0 ?_ ?_ ?_ ?_
 ·intro K
  conv=>lhs;whnf
  conv=>rhs;whnf
  try rfl
  simp[bys,bZ]
 ·simp
 ·rintro kl n _ ⟨rfl,hn⟩ ih
  conv=>lhs;whnf
  apply hW.b<;>intro h2<;>conv=>lhs;whnf
  ·have h2:n<l.length:=by simpa[bys,bZ] using h2
   repeat((first|apply hW.t|apply hW.f|(apply hW.q;exact rqc)|(refine hW.w (cA ?_) ?_;omega));conv=>lhs;whnf)
   apply hW.w (aLm hE l[n])
   conv=>lhs;whnf
   repeat((first|apply hW.t|apply hW.f|(apply hW.q;exact rqc)|(refine hW.w (cA ?_) ?_;omega));conv=>lhs;whnf)
   apply hW.w (dK h2 _)
   conv=>lhs;whnf
   repeat((first|apply hW.t|apply hW.f|(apply hW.q;exact rqc)|(refine hW.w (cA ?_) ?_;omega));conv=>lhs;whnf)
   apply hW.w (dK h2 _)
   conv=>lhs;whnf
   repeat((first|apply hW.t|apply hW.f|(apply hW.q;exact rqc)|(refine hW.w (cA ?_) ?_;omega));conv=>lhs;whnf)
   refine ih (n+1) (n+1) _ ?_ ⟨rfl,by omega⟩ (by omega)
   intro K
   conv=>lhs;whnf
   conv=>rhs;whnf
   try rfl
   rw[show IntKind.i64.wrap ((n:Int)+1)=_ from aI (by omega)]
   refine congrArg K (congrArg (St.mk _) (congrArg (List.cons _) (congrArg (fun x=>[Blk.mk (100*7) 2 .own x]) ?_)))
   exact jE Sum.row h2 _
  ·have:n=l.length:=by simp[bys,bZ]at h2;omega
   subst this
   simp[List.take_length]
   rfl
 ·rfl
theorem aLn {E:Env} (hE:Sys E) (x y:Sum):E 60 [gv (x.cs),gv (y.cs)]=some ([bv (decide (x=y))],[]):=by
 refine hE.run rfl rfl fun W hW=>?_
 conv=>lhs;whnf
 repeat((first|apply hW.t|apply hW.f|(apply hW.q;exact rqc)|(refine hW.w (cA ?_) ?_;omega));conv=>lhs;whnf)
 apply hW.b<;>intro e0<;>conv=>lhs;whnf
 ·have e0:x.w≠y.w:=by simpa using e0
  rw[decide_eq_false fun e=>e0 (by rw[e])];rfl
 ·have e0:x.w=y.w:=by simpa using e0
  repeat((first|apply hW.t|apply hW.f|(apply hW.q;exact rqc)|(refine hW.w (cA ?_) ?_;omega));conv=>lhs;whnf)
  apply hW.b<;>intro e1<;>conv=>lhs;whnf
  ·have e1:x.s≠y.s:=by simpa using e1
   rw[decide_eq_false fun e=>e1 (by rw[e])];rfl
  ·have e1:x.s=y.s:=by simpa using e1
   have:x=y:=by
    cases x;cases y;simp_all
   rw[decide_eq_true this];rfl
theorem aI4 {E:Env} (hE:Sys E) (l m:List Sum) (hb:l.length≤1099511627776):E 61 [sv (l.map Sum.row),sv (m.map Sum.row)]=some ([bv (decide (l=m))],[]):=by
 have h0:l.length≤1099511627776:=hb
 refine hE.run rfl rfl fun W hW=>?_
 conv=>lhs;whnf
 apply hW.b<;>intro h<;>conv=>lhs;whnf
 ·have:l≠m:=by rintro rfl;simp[bys,bZ]at h
  rw[decide_eq_false this];rfl
 ·have h:l.length=m.length:=by simp[bys,bZ]at h;omega
  refine hW.loop (σ:=Nat) (γ:=Nat) (fun i s=>s.sl 5 (v1 (.t (.int .i64 i)))) (fun i n=>i=n∧n≤l.length) (fun n=>l.length-n) (fun n=>([bv (decide (l.drop n=m.drop n))],[])) 0 0 ?_ ?_ ?_ ?_
  ·intro K
   conv=>lhs;whnf
   conv=>rhs;whnf
   try rfl
  ·simp
  ·rintro kl n _ ⟨rfl,hn⟩ ih
   conv=>lhs;whnf
   apply hW.b<;>intro h2<;>conv=>lhs;whnf
   ·have h2:n<l.length:=by simpa[bys,bZ] using h2
    rw[List.drop_eq_getElem_cons h2,List.drop_eq_getElem_cons (l:=m) (i:=n) (by omega)]
    repeat((first|apply hW.t|apply hW.f|(apply hW.q;exact rqc)|(refine hW.w (cA ?_) ?_;omega));conv=>lhs;whnf)
    apply hW.w (aLn hE l[n] m[n])
    conv=>lhs;whnf
    try(apply hW.q;exact rqc;conv=>lhs;whnf)
    apply hW.b<;>intro h3<;>conv=>lhs;whnf
    ·have h3:l[n]≠m[n]:=by simpa using h3
     rw[decide_eq_false fun e=>h3 (List.cons.inj e).1];rfl
    ·have h3:l[n]=m[n]:=by simpa using h3
     simp only[h3,List.cons.injEq,true_and]
     refine ih (n+1) (n+1) _ ?_ ⟨rfl,by omega⟩ (by omega)
     intro K
     conv=>lhs;whnf
     conv=>rhs;whnf
     try rfl
     rw[show IntKind.i64.wrap ((n:Int)+1)=_ from aI (by omega)]
   ·have:n=l.length:=by simp[bys,bZ]at h2;omega
    subst this
    rw[List.drop_length,h,List.drop_length];rfl
  ·rfl
theorem aI5 {E:Env} (hE:Sys E) (l:List Kid) (left:Int) (hb:l.length≤140737488355328) (r0:rg left):E 34 [sv (l.map Kid.row),iv left]=some ([iv (gY left l.length)],[]):=by
 obtain⟨hl0,hl1⟩:=r0
 refine hE.run rfl rfl fun W hW=>?_
 conv=>lhs;whnf
 have hw:IntKind.i64.wrap (left-((l.map Kid.row).length:Int))=left-l.length:=by
  rw[show(l.map Kid.row).length=l.length from List.length_map _];exact aH (by omega)
 apply hW.b<;>intro h<;>conv=>lhs;whnf
 ·rw[hw]at h
  simp only[decide_eq_true_eq]at h
  simp only[gY,if_pos h];rfl
 ·rw[hw]at h
  simp only[decide_eq_false_iff_not]at h
  rw[show gY left l.length=left-l.length from if_neg h,← hw];rfl
theorem aLo {E:Env} (hE:Sys E) (x:Kid):E 27 [gv (x.cs)]=some ([gv (x.cs)],[]):=by
 refine hE.run rfl rfl fun W hW=>?_
 conv=>lhs;whnf
 rfl
theorem aI6 {E:Env} (hE:Sys E) (l:List Kid) (hb:l.length≤1048576):E 35 [sv (l.map Kid.row)]=some ([ov 5 (l.map Kid.row)],[]):=by
 have h0:l.length≤1048576:=hb
 refine hE.run rfl rfl fun W hW=>?_
 conv=>lhs;whnf
 refine hW.q (by(simp[bys,bZ]<;>omega)) ?_
 conv=>lhs;whnf
 refine hW.loop (σ:=Nat) (γ:=Nat) (fun i s=>(s.sl 4 (v1 (.t (.int .i64 i)))).bl ⟨700,5, .own,(l.take i).map Kid.row++List.replicate (l.length-i) [.int .i64 0, .int .i64 0, .int .i64 0, .int .i64 0, .int .i64 0]⟩) (fun i n=>i=n∧n≤l.length) (fun n=>l.length-n) (fun _=>([ov 5 (l.map Kid.row)],[])) 0 0 ?_ ?_ ?_ ?_
 ·intro K
  conv=>lhs;whnf
  conv=>rhs;whnf
  try rfl
  simp[bys,bZ]
 ·simp
 ·rintro kl n _ ⟨rfl,hn⟩ ih
  conv=>lhs;whnf
  apply hW.b<;>intro h2<;>conv=>lhs;whnf
  ·have h2:n<l.length:=by simpa[bys,bZ] using h2
   repeat((first|apply hW.t|apply hW.f|(apply hW.q;exact rqc)|(refine hW.w (cA ?_) ?_;omega));conv=>lhs;whnf)
   apply hW.w (aLo hE l[n])
   conv=>lhs;whnf
   repeat((first|apply hW.t|apply hW.f|(apply hW.q;exact rqc)|(refine hW.w (cA ?_) ?_;omega));conv=>lhs;whnf)
   apply hW.w (dK h2 _)
   conv=>lhs;whnf
   repeat((first|apply hW.t|apply hW.f|(apply hW.q;exact rqc)|(refine hW.w (cA ?_) ?_;omega));conv=>lhs;whnf)
   apply hW.w (dK h2 _)
   conv=>lhs;whnf
   repeat((first|apply hW.t|apply hW.f|(apply hW.q;exact rqc)|(refine hW.w (cA ?_) ?_;omega));conv=>lhs;whnf)
   refine ih (n+1) (n+1) _ ?_ ⟨rfl,by omega⟩ (by omega)
   intro K
   conv=>lhs;whnf
   conv=>rhs;whnf
   try rfl
   rw[show IntKind.i64.wrap ((n:Int)+1)=_ from aI (by omega)]
   refine congrArg K (congrArg (St.mk _) (congrArg (List.cons _) (congrArg (fun x=>[Blk.mk (100*7) 5 .own x]) ?_)))
   exact jE Kid.row h2 _
  ·have:n=l.length:=by simp[bys,bZ]at h2;omega
   subst this
   simp[List.take_length]
   rfl
 ·rfl
theorem aLp {E:Env} (hE:Sys E) (x y:Kid):E 33 [gv (x.cs),gv (y.cs)]=some ([bv (decide (x=y))],[]):=by
 refine hE.run rfl rfl fun W hW=>?_
 conv=>lhs;whnf
 repeat((first|apply hW.t|apply hW.f|(apply hW.q;exact rqc)|(refine hW.w (cA ?_) ?_;omega));conv=>lhs;whnf)
 apply hW.b<;>intro e0<;>conv=>lhs;whnf
 ·have e0:x.id≠y.id:=by simpa using e0
  rw[decide_eq_false fun e=>e0 (by rw[e])];rfl
 ·have e0:x.id=y.id:=by simpa using e0
  repeat((first|apply hW.t|apply hW.f|(apply hW.q;exact rqc)|(refine hW.w (cA ?_) ?_;omega));conv=>lhs;whnf)
  apply hW.b<;>intro e1<;>conv=>lhs;whnf
  ·have e1:x.want≠y.want:=by simpa using e1
   rw[decide_eq_false fun e=>e1 (by rw[e])];rfl
  ·have e1:x.want=y.want:=by simpa using e1
   repeat((first|apply hW.t|apply hW.f|(apply hW.q;exact rqc)|(refine hW.w (cA ?_) ?_;omega));conv=>lhs;whnf)
   apply hW.b<;>intro e2<;>conv=>lhs;whnf
   ·have e2:x.done≠y.done:=by simpa using e2
    rw[decide_eq_false fun e=>e2 (by rw[e])];rfl
   ·have e2:x.done=y.done:=by simpa using e2
    repeat((first|apply hW.t|apply hW.f|(apply hW.q;exact rqc)|(refine hW.w (cA ?_) ?_;omega));conv=>lhs;whnf)
    apply hW.b<;>intro e3<;>conv=>lhs;whnf
    ·have e3:x.age≠y.age:=by simpa using e3
     rw[decide_eq_false fun e=>e3 (by rw[e])];rfl
    ·have e3:x.age=y.age:=by simpa using e3
     repeat((first|apply hW.t|apply hW.f|(apply hW.q;exact rqc)|(refine hW.w (cA ?_) ?_;omega));conv=>lhs;whnf)
     apply hW.b<;>intro e4<;>conv=>lhs;whnf
     ·have e4:x.sent≠y.sent:=by simpa using e4
      rw[decide_eq_false fun e=>e4 (by rw[e])];rfl
     ·have e4:x.sent=y.sent:=by simpa using e4
      have:x=y:=by
       cases x;cases y;simp_all
      rw[decide_eq_true this];rfl
theorem aI7 {E:Env} (hE:Sys E) (l m:List Kid) (hb:l.length≤1099511627776):E 38 [sv (l.map Kid.row),sv (m.map Kid.row)]=some ([bv (decide (l=m))],[]):=by
 have h0:l.length≤1099511627776:=hb
 refine hE.run rfl rfl fun W hW=>?_
 conv=>lhs;whnf
 apply hW.b<;>intro h<;>conv=>lhs;whnf
 ·have:l≠m:=by rintro rfl;simp[bys,bZ]at h
  rw[decide_eq_false this];rfl
 ·have h:l.length=m.length:=by simp[bys,bZ]at h;omega
  refine hW.loop (σ:=Nat) (γ:=Nat) (fun i s=>s.sl 5 (v1 (.t (.int .i64 i)))) (fun i n=>i=n∧n≤l.length) (fun n=>l.length-n) (fun n=>([bv (decide (l.drop n=m.drop n))],[])) 0 0 ?_ ?_ ?_ ?_
  ·intro K
   conv=>lhs;whnf
   conv=>rhs;whnf
   try rfl
  ·simp
  ·rintro kl n _ ⟨rfl,hn⟩ ih
   conv=>lhs;whnf
   apply hW.b<;>intro h2<;>conv=>lhs;whnf
   ·have h2:n<l.length:=by simpa[bys,bZ] using h2
    rw[List.drop_eq_getElem_cons h2,List.drop_eq_getElem_cons (l:=m) (i:=n) (by omega)]
    repeat((first|apply hW.t|apply hW.f|(apply hW.q;exact rqc)|(refine hW.w (cA ?_) ?_;omega));conv=>lhs;whnf)
    apply hW.w (aLp hE l[n] m[n])
    conv=>lhs;whnf
    try(apply hW.q;exact rqc;conv=>lhs;whnf)
    apply hW.b<;>intro h3<;>conv=>lhs;whnf
    ·have h3:l[n]≠m[n]:=by simpa using h3
     rw[decide_eq_false fun e=>h3 (List.cons.inj e).1];rfl
    ·have h3:l[n]=m[n]:=by simpa using h3
     simp only[h3,List.cons.injEq,true_and]
     refine ih (n+1) (n+1) _ ?_ ⟨rfl,by omega⟩ (by omega)
     intro K
     conv=>lhs;whnf
     conv=>rhs;whnf
     try rfl
     rw[show IntKind.i64.wrap ((n:Int)+1)=_ from aI (by omega)]
   ·have:n=l.length:=by simp[bys,bZ]at h2;omega
    subst this
    rw[List.drop_length,h,List.drop_length];rfl
  ·rfl
theorem zL {E:Env} (hE:Sys E) (x:Rec):E 184 [gv (x.cs)]=some ([gv (x.cs)],[]):=by
 refine hE.run rfl rfl fun W hW=>?_
 conv=>lhs;whnf
 rfl
theorem zM {E:Env} (hE:Sys E) (x y:Rec):E 202 [gv (x.cs),gv (y.cs)]=some ([bv (decide (x=y))],[]):=by
 refine hE.run rfl rfl fun W hW=>?_
 conv=>lhs;whnf
 repeat((first|apply hW.t|apply hW.f|(apply hW.q;exact rqc)|(refine hW.w (cA ?_) ?_;omega));conv=>lhs;whnf)
 apply hW.b<;>intro e0<;>conv=>lhs;whnf
 ·have e0:x.gen≠y.gen:=by simpa using e0
  rw[decide_eq_false fun e=>e0 (by rw[e])];rfl
 ·have e0:x.gen=y.gen:=by simpa using e0
  repeat((first|apply hW.t|apply hW.f|(apply hW.q;exact rqc)|(refine hW.w (cA ?_) ?_;omega));conv=>lhs;whnf)
  apply hW.b<;>intro e1<;>conv=>lhs;whnf
  ·have e1:x.slot≠y.slot:=by simpa using e1
   rw[decide_eq_false fun e=>e1 (by rw[e])];rfl
  ·have e1:x.slot=y.slot:=by simpa using e1
   repeat((first|apply hW.t|apply hW.f|(apply hW.q;exact rqc)|(refine hW.w (cA ?_) ?_;omega));conv=>lhs;whnf)
   apply hW.b<;>intro e2<;>conv=>lhs;whnf
   ·have e2:x.len≠y.len:=by simpa using e2
    rw[decide_eq_false fun e=>e2 (by rw[e])];rfl
   ·have e2:x.len=y.len:=by simpa using e2
    have:x=y:=by
     cases x;cases y;simp_all
    rw[decide_eq_true this];rfl
def Man.lim (B:Nat) (x:Man):Prop:=x.sums.length≤B
theorem Man.lim_mono {B C:Nat} (h:B≤C) {x:Man} (hx:x.lim B):x.lim C:=by
 exact Nat.le_trans (id hx) h
def Man.sz (x:Man) (v0:Int):Int:=thn ((fun v=>gY v x.sums.length) v0) fun v1=>v1
theorem Man.sz_rg {x:Man} {left:Int} (r0:rg left):rg (x.sz left):=by
 unfold Man.sz
 refine iN fun _=>?_
 exact(cM r0)
theorem Man.sz_ok {x:Man} {left:Int} (r0:rg left) (h:¬ x.sz left<0):x.lim 1048576:=by
 unfold Man.sz at h
 obtain⟨g0,h⟩:=iM h
 exact(jD r0 g0).1
theorem aBV {E:Env} (hE:Sys E) (x:Man) (left:Int) (hb:x.lim 140737488355328) (r0:rg left):E 54 [gv (x.cs aL),iv left]=some ([iv (x.sz left)],[]):=by
 unfold Man.sz
 refine hE.run rfl rfl fun W hW=>?_
 conv=>lhs;whnf
 apply hW.w (aI2 hE x.sums (left) hb r0)
 conv=>lhs;whnf
 try(apply hW.q;exact rqc;conv=>lhs;whnf)
 have r1:rg (gY (left) x.sums.length):=cM r0
 apply hW.b<;>intro g0<;>conv=>lhs;whnf
 ·rw[pB (by simpa using g0)];rfl
 ·rw[nR (by simpa using g0)]
  rfl
theorem aBW {E:Env} (hE:Sys E) (x:Man) (hb:x.lim 1048576):E 58 [gv (x.cs aL)]=some ([gv (x.cs dY)],[]):=by
 refine hE.run rfl rfl fun W hW=>?_
 conv=>lhs;whnf
 apply hW.w (aI3 hE x.sums hb)
 conv=>lhs;whnf
 try(apply hW.q;exact rqc;conv=>lhs;whnf)
 rfl
theorem aBX {E:Env} (hE:Sys E) (x y:Man) (hb:x.lim 1099511627776):E 62 [gv (x.cs aL),gv (y.cs aL)]=some ([bv (decide (x=y))],[]):=by
 refine hE.run rfl rfl fun W hW=>?_
 conv=>lhs;whnf
 repeat((first|apply hW.t|apply hW.f|(apply hW.q;exact rqc)|(refine hW.w (cA ?_) ?_;omega));conv=>lhs;whnf)
 apply hW.b<;>intro e0<;>conv=>lhs;whnf
 ·have e0:x.gen≠y.gen:=by simpa using e0
  rw[decide_eq_false fun e=>e0 (by rw[e])];rfl
 ·have e0:x.gen=y.gen:=by simpa using e0
  repeat((first|apply hW.t|apply hW.f|(apply hW.q;exact rqc)|(refine hW.w (cA ?_) ?_;omega));conv=>lhs;whnf)
  apply hW.b<;>intro e1<;>conv=>lhs;whnf
  ·have e1:x.size≠y.size:=by simpa using e1
   rw[decide_eq_false fun e=>e1 (by rw[e])];rfl
  ·have e1:x.size=y.size:=by simpa using e1
   repeat((first|apply hW.t|apply hW.f|(apply hW.q;exact rqc)|(refine hW.w (cA ?_) ?_;omega));conv=>lhs;whnf)
   apply hW.b<;>intro e2<;>conv=>lhs;whnf
   ·have e2:x.len≠y.len:=by simpa using e2
    rw[decide_eq_false fun e=>e2 (by rw[e])];rfl
   ·have e2:x.len=y.len:=by simpa using e2
    apply hW.w (aI4 hE x.sums y.sums hb)
    conv=>lhs;whnf
    try(apply hW.q;exact rqc;conv=>lhs;whnf)
    apply hW.b<;>intro e3<;>conv=>lhs;whnf
    ·have e3:x.sums≠y.sums:=by simpa using e3
     rw[decide_eq_false fun e=>e3 (by rw[e])];rfl
    ·have e3:x.sums=y.sums:=by simpa using e3
     have:x=y:=by
      cases x;cases y;simp_all
     rw[decide_eq_true this];rfl
def Bld.lim (B:Nat) (x:Bld):Prop:=x.buf.length≤B
theorem Bld.lim_mono {B C:Nat} (h:B≤C) {x:Bld} (hx:x.lim B):x.lim C:=by
 exact Nat.le_trans (id hx) h
def Bld.sz (x:Bld) (v0:Int):Int:=thn ((fun v=>gY v x.buf.length) v0) fun v1=>v1
theorem Bld.sz_rg {x:Bld} {left:Int} (r0:rg left):rg (x.sz left):=by
 unfold Bld.sz
 refine iN fun _=>?_
 exact(cM r0)
theorem Bld.sz_ok {x:Bld} {left:Int} (r0:rg left) (h:¬ x.sz left<0):x.lim 1048576:=by
 unfold Bld.sz at h
 obtain⟨g0,h⟩:=iM h
 exact(jD r0 g0).1
theorem aGS {E:Env} (hE:Sys E) (x:Bld) (left:Int) (hb:x.lim 140737488355328) (r0:rg left):E 55 [gv (x.cs aL),iv left]=some ([iv (x.sz left)],[]):=by
 unfold Bld.sz
 refine hE.run rfl rfl fun W hW=>?_
 conv=>lhs;whnf
 apply hW.w (kO hE x.buf (left) hb r0)
 conv=>lhs;whnf
 try(apply hW.q;exact rqc;conv=>lhs;whnf)
 have r1:rg (gY (left) x.buf.length):=cM r0
 apply hW.b<;>intro g0<;>conv=>lhs;whnf
 ·rw[pB (by simpa using g0)];rfl
 ·rw[nR (by simpa using g0)]
  rfl
theorem aGT {E:Env} (hE:Sys E) (x:Bld) (hb:x.lim 1048576):E 59 [gv (x.cs aL)]=some ([gv (x.cs dY)],[]):=by
 refine hE.run rfl rfl fun W hW=>?_
 conv=>lhs;whnf
 apply hW.w (kP hE x.buf hb)
 conv=>lhs;whnf
 try(apply hW.q;exact rqc;conv=>lhs;whnf)
 rfl
theorem aGU {E:Env} (hE:Sys E) (x y:Bld) (hb:x.lim 1099511627776):E 63 [gv (x.cs aL),gv (y.cs aL)]=some ([bv (decide (x=y))],[]):=by
 refine hE.run rfl rfl fun W hW=>?_
 conv=>lhs;whnf
 repeat((first|apply hW.t|apply hW.f|(apply hW.q;exact rqc)|(refine hW.w (cA ?_) ?_;omega));conv=>lhs;whnf)
 apply hW.b<;>intro e0<;>conv=>lhs;whnf
 ·have e0:x.hav≠y.hav:=by simpa using e0
  rw[decide_eq_false fun e=>e0 (by rw[e])];rfl
 ·have e0:x.hav=y.hav:=by simpa using e0
  apply hW.w (kQ hE x.buf y.buf hb)
  conv=>lhs;whnf
  try(apply hW.q;exact rqc;conv=>lhs;whnf)
  apply hW.b<;>intro e1<;>conv=>lhs;whnf
  ·have e1:x.buf≠y.buf:=by simpa using e1
   rw[decide_eq_false fun e=>e1 (by rw[e])];rfl
  ·have e1:x.buf=y.buf:=by simpa using e1
   have:x=y:=by
    cases x;cases y;simp_all
   rw[decide_eq_true this];rfl
def Put.lim (B:Nat) (x:Put):Prop:=x.b.length≤B
theorem Put.lim_mono {B C:Nat} (h:B≤C) {x:Put} (hx:x.lim B):x.lim C:=by
 exact Nat.le_trans (id hx) h
def Put.sz (x:Put) (v0:Int):Int:=thn ((fun v=>gY v x.b.length) v0) fun v1=>v1
theorem Put.sz_rg {x:Put} {left:Int} (r0:rg left):rg (x.sz left):=by
 unfold Put.sz
 refine iN fun _=>?_
 exact(cM r0)
theorem Put.sz_ok {x:Put} {left:Int} (r0:rg left) (h:¬ x.sz left<0):x.lim 1048576:=by
 unfold Put.sz at h
 obtain⟨g0,h⟩:=iM h
 exact(jD r0 g0).1
theorem aLq {E:Env} (hE:Sys E) (x:Put) (left:Int) (hb:x.lim 140737488355328) (r0:rg left):E 174 [gv (x.cs aL),iv left]=some ([iv (x.sz left)],[]):=by
 unfold Put.sz
 refine hE.run rfl rfl fun W hW=>?_
 conv=>lhs;whnf
 apply hW.w (kO hE x.b (left) hb r0)
 conv=>lhs;whnf
 try(apply hW.q;exact rqc;conv=>lhs;whnf)
 have r1:rg (gY (left) x.b.length):=cM r0
 apply hW.b<;>intro g0<;>conv=>lhs;whnf
 ·rw[pB (by simpa using g0)];rfl
 ·rw[nR (by simpa using g0)]
  rfl
theorem aI8 {E:Env} (hE:Sys E) {o:Bool} (l:List Put) (left:Int) (hb:aAw (fun B=>Put.lim B) 140737488355328 l) (r0:rg left) :
 E 173 [sv (l.map (Put.row o)),iv left]=some ([iv (szS Put.sz l left)],[]):=by
 obtain⟨h0,hb⟩:=hb
 have hl:=aNw r0
 unfold szS
 refine hE.run rfl rfl fun W hW=>?_
 conv=>lhs;whnf
 have hw:IntKind.i64.wrap (left-((l.map (Put.row o)).length:Int))=left-l.length:=by rw[List.length_map];exact aH (by omega)
 apply hW.b<;>intro h<;>conv=>lhs;whnf
 ·rw[hw]at h
  have h:left-l.length<0:=by simpa using h
  have h1:gY left l.length = -1:=if_pos h
  rw[h1];rfl
 ·rw[hw]at h
  have h:¬ left-(l.length:Int)<0:=by simpa using h
  have h1:gY left l.length=left-l.length:=if_neg h
  rw[h1,nR h]
  refine hW.loop (σ:=Nat × Int) (γ:=Nat) (fun i s=>(s.sl 5 (v1 (.t (.int .i64 i.1)))).sl 1 (v1 (.t (.int .i64 i.2)))) (fun i n=>i.1=n∧n≤l.length∧0≤i.2∧rg i.2∧szL Put.sz (l.drop n) i.2=szL Put.sz l (left-l.length)) (fun n=>l.length-n) (fun _=>([iv (szL Put.sz l (left-l.length))],[])) (0,left-l.length) 0 ?_ ?_ ?_ ?_
  ·intro K
   conv=>lhs;whnf
   conv=>rhs;whnf
   try rfl
   rw[hw];rfl
  ·exact⟨rfl,by omega,by simpa using h,by rw[← h1];exact cM r0,rfl⟩
  ·rintro kl ⟨n,y⟩ _ ⟨rfl,hn,hy0,hy1,hy⟩ ih
   conv=>lhs;whnf
   apply hW.b<;>intro h2<;>conv=>lhs;whnf
   ·have h2:n<l.length:=by simpa using h2
    simp only at hy hn hy1 hy0
    rw[List.drop_eq_getElem_cons h2,szL]at hy
    repeat((first|apply hW.t|apply hW.f|(apply hW.q;exact rqc)|(refine hW.w (cA ?_) ?_;omega));conv=>lhs;whnf)
    apply hW.w (aLq hE l[n] y (hb _ (List.getElem_mem h2)) hy1)
    conv=>lhs;whnf
    try(apply hW.q;exact rqc;conv=>lhs;whnf)
    apply hW.b<;>intro h3<;>conv=>lhs;whnf
    ·have h3:l[n].sz y<0:=by simpa using h3
     rw[pB h3]at hy
     rw[← hy];rfl
    ·have h3:¬ l[n].sz y<0:=by simpa using h3
     rw[nR h3]at hy
     refine ih (n+1,l[n].sz y) (n+1) _ ?_ ⟨rfl,by omega,by simpa using h3,Put.sz_rg hy1,hy⟩ (by omega)
     intro K
     conv=>lhs;whnf
     conv=>rhs;whnf
     try rfl
     rw[show IntKind.i64.wrap ((n:Int)+1)=_ from aI (by omega)]
   ·have:n=l.length:=by simp at h2 hn;omega
    subst this
    rw[List.drop_length]at hy
    simp only[szL]at hy
    rw[← hy];rfl
  ·rfl
theorem aLr {E:Env} (hE:Sys E) (x:Put) (hb:x.lim 1048576):E 186 [gv (x.cs aL)]=some ([gv (x.cs dY)],[]):=by
 refine hE.run rfl rfl fun W hW=>?_
 conv=>lhs;whnf
 apply hW.w (kP hE x.b hb)
 conv=>lhs;whnf
 try(apply hW.q;exact rqc;conv=>lhs;whnf)
 apply hW.w (zL hE x.r)
 conv=>lhs;whnf
 try(apply hW.q;exact rqc;conv=>lhs;whnf)
 rfl
theorem aI9 {E:Env} (hE:Sys E) {o:Bool} (l:List Put) (hb:aAw (fun B=>Put.lim B) 1048576 l):E 185 [sv (l.map (Put.row o))]=some ([ov 6 (l.map (Put.row true))],[]):=by
 obtain⟨h0,hb⟩:=hb
 refine hE.run rfl rfl fun W hW=>?_
 conv=>lhs;whnf
 refine hW.q (by(simp[bys,bZ]<;>omega)) ?_
 conv=>lhs;whnf
 refine hW.loop (σ:=Nat) (γ:=Nat) (fun i s=>(s.sl 4 (v1 (.t (.int .i64 i)))).bl ⟨700,6, .own,(l.take i).map (Put.row true)++List.replicate (l.length-i) [.int .i64 0, .int .i64 0, .sl true [], .int .i64 0, .int .i64 0, .int .i64 0]⟩) (fun i n=>i=n∧n≤l.length) (fun n=>l.length-n) (fun _=>([ov 6 (l.map (Put.row true))],[])) 0 0 ?_ ?_ ?_ ?_
 ·intro K
  conv=>lhs;whnf
  conv=>rhs;whnf
  try rfl
  simp[bys,bZ]
 ·simp
 ·rintro kl n _ ⟨rfl,hn⟩ ih
  conv=>lhs;whnf
  apply hW.b<;>intro h2<;>conv=>lhs;whnf
  ·have h2:n<l.length:=by simpa[bys,bZ] using h2
   repeat((first|apply hW.t|apply hW.f|(apply hW.q;exact rqc)|(refine hW.w (cA ?_) ?_;omega));conv=>lhs;whnf)
   apply hW.w (aLr hE l[n] (hb _ (List.getElem_mem h2)))
   conv=>lhs;whnf
   repeat((first|apply hW.t|apply hW.f|(apply hW.q;exact rqc)|(refine hW.w (cA ?_) ?_;omega));conv=>lhs;whnf)
   apply hW.w (dK h2 _)
   conv=>lhs;whnf
   repeat((first|apply hW.t|apply hW.f|(apply hW.q;exact rqc)|(refine hW.w (cA ?_) ?_;omega));conv=>lhs;whnf)
   apply hW.w (dK h2 _)
   conv=>lhs;whnf
   repeat((first|apply hW.t|apply hW.f|(apply hW.q;exact rqc)|(refine hW.w (cA ?_) ?_;omega));conv=>lhs;whnf)
   refine ih (n+1) (n+1) _ ?_ ⟨rfl,by omega⟩ (by omega)
   intro K
   conv=>lhs;whnf
   conv=>rhs;whnf
   try rfl
   rw[show IntKind.i64.wrap ((n:Int)+1)=_ from aI (by omega)]
   refine congrArg K (congrArg (St.mk _) (congrArg (List.cons _) (congrArg (fun x=>[Blk.mk (100*7) 6 .own x]) ?_)))
   exact jE (Put.row true) h2 _
  ·have:n=l.length:=by simp[bys,bZ]at h2;omega
   subst this
   simp[List.take_length]
   rfl
 ·rfl
theorem aLs {E:Env} (hE:Sys E) (x y:Put) (hb:x.lim 1099511627776):E 204 [gv (x.cs aL),gv (y.cs aL)]=some ([bv (decide (x=y))],[]):=by
 refine hE.run rfl rfl fun W hW=>?_
 conv=>lhs;whnf
 repeat((first|apply hW.t|apply hW.f|(apply hW.q;exact rqc)|(refine hW.w (cA ?_) ?_;omega));conv=>lhs;whnf)
 apply hW.b<;>intro e0<;>conv=>lhs;whnf
 ·have e0:x.what≠y.what:=by simpa using e0
  rw[decide_eq_false fun e=>e0 (by rw[e])];rfl
 ·have e0:x.what=y.what:=by simpa using e0
  repeat((first|apply hW.t|apply hW.f|(apply hW.q;exact rqc)|(refine hW.w (cA ?_) ?_;omega));conv=>lhs;whnf)
  apply hW.b<;>intro e1<;>conv=>lhs;whnf
  ·have e1:x.at_≠y.at_:=by simpa using e1
   rw[decide_eq_false fun e=>e1 (by rw[e])];rfl
  ·have e1:x.at_=y.at_:=by simpa using e1
   apply hW.w (kQ hE x.b y.b hb)
   conv=>lhs;whnf
   try(apply hW.q;exact rqc;conv=>lhs;whnf)
   apply hW.b<;>intro e2<;>conv=>lhs;whnf
   ·have e2:x.b≠y.b:=by simpa using e2
    rw[decide_eq_false fun e=>e2 (by rw[e])];rfl
   ·have e2:x.b=y.b:=by simpa using e2
    apply hW.w (zM hE x.r y.r)
    conv=>lhs;whnf
    try(apply hW.q;exact rqc;conv=>lhs;whnf)
    apply hW.b<;>intro e3<;>conv=>lhs;whnf
    ·have e3:x.r≠y.r:=by simpa using e3
     rw[decide_eq_false fun e=>e3 (by rw[e])];rfl
    ·have e3:x.r=y.r:=by simpa using e3
     have:x=y:=by
      cases x;cases y;simp_all
     rw[decide_eq_true this];rfl
theorem aJa {E:Env} (hE:Sys E) {o o':Bool} (l m:List Put) (hb:aAw (fun B=>Put.lim B) 1099511627776 l):E 203 [sv (l.map (Put.row o)),sv (m.map (Put.row o'))]=some ([bv (decide (l=m))],[]):=by
 obtain⟨h0,hb⟩:=hb
 refine hE.run rfl rfl fun W hW=>?_
 conv=>lhs;whnf
 apply hW.b<;>intro h<;>conv=>lhs;whnf
 ·have:l≠m:=by rintro rfl;simp[bys,bZ]at h
  rw[decide_eq_false this];rfl
 ·have h:l.length=m.length:=by simp[bys,bZ]at h;omega
  refine hW.loop (σ:=Nat) (γ:=Nat) (fun i s=>s.sl 5 (v1 (.t (.int .i64 i)))) (fun i n=>i=n∧n≤l.length) (fun n=>l.length-n) (fun n=>([bv (decide (l.drop n=m.drop n))],[])) 0 0 ?_ ?_ ?_ ?_
  ·intro K
   conv=>lhs;whnf
   conv=>rhs;whnf
   try rfl
  ·simp
  ·rintro kl n _ ⟨rfl,hn⟩ ih
   conv=>lhs;whnf
   apply hW.b<;>intro h2<;>conv=>lhs;whnf
   ·have h2:n<l.length:=by simpa[bys,bZ] using h2
    rw[List.drop_eq_getElem_cons h2,List.drop_eq_getElem_cons (l:=m) (i:=n) (by omega)]
    repeat((first|apply hW.t|apply hW.f|(apply hW.q;exact rqc)|(refine hW.w (cA ?_) ?_;omega));conv=>lhs;whnf)
    apply hW.w (aLs hE l[n] m[n] (hb _ (List.getElem_mem h2)))
    conv=>lhs;whnf
    try(apply hW.q;exact rqc;conv=>lhs;whnf)
    apply hW.b<;>intro h3<;>conv=>lhs;whnf
    ·have h3:l[n]≠m[n]:=by simpa using h3
     rw[decide_eq_false fun e=>h3 (List.cons.inj e).1];rfl
    ·have h3:l[n]=m[n]:=by simpa using h3
     simp only[h3,List.cons.injEq,true_and]
     refine ih (n+1) (n+1) _ ?_ ⟨rfl,by omega⟩ (by omega)
     intro K
     conv=>lhs;whnf
     conv=>rhs;whnf
     try rfl
     rw[show IntKind.i64.wrap ((n:Int)+1)=_ from aI (by omega)]
   ·have:n=l.length:=by simp[bys,bZ]at h2;omega
    subst this
    rw[List.drop_length,h,List.drop_length];rfl
  ·rfl
def Pkt.lim (B:Nat) (x:Pkt):Prop:=x.b.length≤B
theorem Pkt.lim_mono {B C:Nat} (h:B≤C) {x:Pkt} (hx:x.lim B):x.lim C:=by
 exact Nat.le_trans (id hx) h
def Pkt.sz (x:Pkt) (v0:Int):Int:=thn ((fun v=>gY v x.b.length) v0) fun v1=>v1
theorem Pkt.sz_rg {x:Pkt} {left:Int} (r0:rg left):rg (x.sz left):=by
 unfold Pkt.sz
 refine iN fun _=>?_
 exact(cM r0)
theorem Pkt.sz_ok {x:Pkt} {left:Int} (r0:rg left) (h:¬ x.sz left<0):x.lim 1048576:=by
 unfold Pkt.sz at h
 obtain⟨g0,h⟩:=iM h
 exact(jD r0 g0).1
theorem aE8 {E:Env} (hE:Sys E) (x:Pkt) (left:Int) (hb:x.lim 140737488355328) (r0:rg left):E 10 [gv (x.cs aL),iv left]=some ([iv (x.sz left)],[]):=by
 unfold Pkt.sz
 refine hE.run rfl rfl fun W hW=>?_
 conv=>lhs;whnf
 apply hW.w (kO hE x.b (left) hb r0)
 conv=>lhs;whnf
 try(apply hW.q;exact rqc;conv=>lhs;whnf)
 have r1:rg (gY (left) x.b.length):=cM r0
 apply hW.b<;>intro g0<;>conv=>lhs;whnf
 ·rw[pB (by simpa using g0)];rfl
 ·rw[nR (by simpa using g0)]
  rfl
theorem qJ {E:Env} (hE:Sys E) (x:Pkt) (hb:x.lim 1048576):E 13 [gv (x.cs aL)]=some ([gv (x.cs dY)],[]):=by
 refine hE.run rfl rfl fun W hW=>?_
 conv=>lhs;whnf
 apply hW.w (kP hE x.b hb)
 conv=>lhs;whnf
 try(apply hW.q;exact rqc;conv=>lhs;whnf)
 rfl
theorem aE9 {E:Env} (hE:Sys E) (x y:Pkt) (hb:x.lim 1099511627776):E 19 [gv (x.cs aL),gv (y.cs aL)]=some ([bv (decide (x=y))],[]):=by
 refine hE.run rfl rfl fun W hW=>?_
 conv=>lhs;whnf
 repeat((first|apply hW.t|apply hW.f|(apply hW.q;exact rqc)|(refine hW.w (cA ?_) ?_;omega));conv=>lhs;whnf)
 apply hW.b<;>intro e0<;>conv=>lhs;whnf
 ·have e0:x.frm≠y.frm:=by simpa using e0
  rw[decide_eq_false fun e=>e0 (by rw[e])];rfl
 ·have e0:x.frm=y.frm:=by simpa using e0
  repeat((first|apply hW.t|apply hW.f|(apply hW.q;exact rqc)|(refine hW.w (cA ?_) ?_;omega));conv=>lhs;whnf)
  apply hW.b<;>intro e1<;>conv=>lhs;whnf
  ·have e1:x.to≠y.to:=by simpa using e1
   rw[decide_eq_false fun e=>e1 (by rw[e])];rfl
  ·have e1:x.to=y.to:=by simpa using e1
   apply hW.w (kQ hE x.b y.b hb)
   conv=>lhs;whnf
   try(apply hW.q;exact rqc;conv=>lhs;whnf)
   apply hW.b<;>intro e2<;>conv=>lhs;whnf
   ·have e2:x.b≠y.b:=by simpa using e2
    rw[decide_eq_false fun e=>e2 (by rw[e])];rfl
   ·have e2:x.b=y.b:=by simpa using e2
    have:x=y:=by
     cases x;cases y;simp_all
    rw[decide_eq_true this];rfl
def Image.lim (B:Nat) (x:Image):Prop:=x.b.length≤B
def Image.sz (x:Image) (v0:Int):Int:=thn ((fun v=>gY v x.b.length) v0) fun v1=>v1
def Tree.lim (B:Nat) (x:Tree):Prop:=x.up.length≤B
theorem Tree.lim_mono {B C:Nat} (h:B≤C) {x:Tree} (hx:x.lim B):x.lim C:=by
 exact Nat.le_trans (id hx) h
def Tree.sz (x:Tree) (v0:Int):Int:=thn ((fun v=>gY v x.up.length) v0) fun v1=>v1
theorem Tree.sz_rg {x:Tree} {left:Int} (r0:rg left):rg (x.sz left):=by
 unfold Tree.sz
 refine iN fun _=>?_
 exact(cM r0)
theorem Tree.sz_ok {x:Tree} {left:Int} (r0:rg left) (h:¬ x.sz left<0):x.lim 1048576:=by
 unfold Tree.sz at h
 obtain⟨g0,h⟩:=iM h
 exact(jD r0 g0).1
theorem aJb {E:Env} (hE:Sys E) (x:Tree) (left:Int) (hb:x.lim 140737488355328) (r0:rg left):E 136 [gv (x.cs aL),iv left]=some ([iv (x.sz left)],[]):=by
 unfold Tree.sz
 refine hE.run rfl rfl fun W hW=>?_
 conv=>lhs;whnf
 apply hW.w (aIZ hE x.up (left) hb r0)
 conv=>lhs;whnf
 try(apply hW.q;exact rqc;conv=>lhs;whnf)
 have r1:rg (gY (left) x.up.length):=cM r0
 apply hW.b<;>intro g0<;>conv=>lhs;whnf
 ·rw[pB (by simpa using g0)];rfl
 ·rw[nR (by simpa using g0)]
  rfl
theorem aAx {E:Env} (hE:Sys E) (x:Tree) (hb:x.lim 1048576):E 137 [gv (x.cs aL)]=some ([gv (x.cs dY)],[]):=by
 refine hE.run rfl rfl fun W hW=>?_
 conv=>lhs;whnf
 apply hW.w (aI0 hE x.up hb)
 conv=>lhs;whnf
 try(apply hW.q;exact rqc;conv=>lhs;whnf)
 rfl
theorem aJc {E:Env} (hE:Sys E) (x y:Tree) (hb:x.lim 1099511627776):E 140 [gv (x.cs aL),gv (y.cs aL)]=some ([bv (decide (x=y))],[]):=by
 refine hE.run rfl rfl fun W hW=>?_
 conv=>lhs;whnf
 apply hW.w (aI1 hE x.up y.up hb)
 conv=>lhs;whnf
 try(apply hW.q;exact rqc;conv=>lhs;whnf)
 apply hW.b<;>intro e0<;>conv=>lhs;whnf
 ·have e0:x.up≠y.up:=by simpa using e0
  rw[decide_eq_false fun e=>e0 (by rw[e])];rfl
 ·have e0:x.up=y.up:=by simpa using e0
  have:x=y:=by
   cases x;cases y;simp_all
  rw[decide_eq_true this];rfl
def Disk.lim (B:Nat) (x:Disk):Prop:=x.a.length≤B∧x.b.length≤B∧aAw (fun B=>Put.lim B) B x.p
theorem Disk.lim_mono {B C:Nat} (h:B≤C) {x:Disk} (hx:x.lim B):x.lim C:=by
 obtain⟨h0,h1,h2⟩:=hx
 exact⟨Nat.le_trans h0 h,Nat.le_trans h1 h,aGR (fun x hx=>Put.lim_mono h hx) h h2⟩
def Disk.sz (x:Disk) (v0:Int):Int:=thn ((fun v=>gY v x.a.length) v0) fun v1=>thn ((fun v=>gY v x.b.length) v1) fun v2=>thn (szS Put.sz x.p v2) fun v3=>v3
theorem Disk.sz_rg {x:Disk} {left:Int} (r0:rg left):rg (x.sz left):=by
 unfold Disk.sz
 refine iN fun _=>?_
 refine iN fun _=>?_
 refine iN fun _=>?_
 exact(aKk (fun _ _=>Put.sz_rg) (cM (cM r0)))
theorem Disk.sz_ok {x:Disk} {left:Int} (r0:rg left) (h:¬ x.sz left<0):x.lim 1048576:=by
 unfold Disk.sz at h
 obtain⟨g0,h⟩:=iM h
 obtain⟨g1,h⟩:=iM h
 obtain⟨g2,h⟩:=iM h
 exact⟨(jD r0 g0).1,(jD (cM r0) g1).1,aMA (fun _ _=>Put.sz_rg) (fun _ _=>Put.sz_ok) (cM (cM r0)) g2⟩
theorem aJd {E:Env} (hE:Sys E) {o:Bool} (x:Disk) (left:Int) (hb:x.lim 140737488355328) (r0:rg left):E 166 [gv (x.cs aL o),iv left]=some ([iv (x.sz left)],[]):=by
 obtain⟨h0,h1,h2⟩:=hb
 unfold Disk.sz
 refine hE.run rfl rfl fun W hW=>?_
 conv=>lhs;whnf
 apply hW.w (kO hE x.a (left) h0 r0)
 conv=>lhs;whnf
 try(apply hW.q;exact rqc;conv=>lhs;whnf)
 have r1:rg (gY (left) x.a.length):=cM r0
 apply hW.b<;>intro g0<;>conv=>lhs;whnf
 ·rw[pB (by simpa using g0)];rfl
 ·rw[nR (by simpa using g0)]
  apply hW.w (kO hE x.b (gY (left) x.a.length) h1 r1)
  conv=>lhs;whnf
  try(apply hW.q;exact rqc;conv=>lhs;whnf)
  have r2:rg (gY (gY (left) x.a.length) x.b.length):=cM r1
  apply hW.b<;>intro g1<;>conv=>lhs;whnf
  ·rw[pB (by simpa using g1)];rfl
  ·rw[nR (by simpa using g1)]
   apply hW.w (aI8 hE x.p (gY (gY (left) x.a.length) x.b.length) h2 r2)
   conv=>lhs;whnf
   try(apply hW.q;exact rqc;conv=>lhs;whnf)
   have r3:rg (szS Put.sz x.p (gY (gY (left) x.a.length) x.b.length)):=aKk (fun _ _=>Put.sz_rg) r2
   apply hW.b<;>intro g2<;>conv=>lhs;whnf
   ·rw[pB (by simpa using g2)];rfl
   ·rw[nR (by simpa using g2)]
    rfl
theorem aAy {E:Env} (hE:Sys E) {o:Bool} (x:Disk) (hb:x.lim 1048576):E 167 [gv (x.cs aL o)]=some ([gv (x.cs dY true)],[]):=by
 obtain⟨h0,h1,h2⟩:=hb
 refine hE.run rfl rfl fun W hW=>?_
 conv=>lhs;whnf
 apply hW.w (kP hE x.a h0)
 conv=>lhs;whnf
 try(apply hW.q;exact rqc;conv=>lhs;whnf)
 apply hW.w (kP hE x.b h1)
 conv=>lhs;whnf
 try(apply hW.q;exact rqc;conv=>lhs;whnf)
 apply hW.w (zL hE x.r)
 conv=>lhs;whnf
 try(apply hW.q;exact rqc;conv=>lhs;whnf)
 apply hW.w (aI9 hE x.p h2)
 conv=>lhs;whnf
 try(apply hW.q;exact rqc;conv=>lhs;whnf)
 rfl
theorem aJe {E:Env} (hE:Sys E) {o o':Bool} (x y:Disk) (hb:x.lim 1099511627776):E 170 [gv (x.cs aL o),gv (y.cs aL o')]=some ([bv (decide (x=y))],[]):=by
 obtain⟨h0,h1,h2⟩:=hb
 refine hE.run rfl rfl fun W hW=>?_
 conv=>lhs;whnf
 apply hW.w (kQ hE x.a y.a h0)
 conv=>lhs;whnf
 try(apply hW.q;exact rqc;conv=>lhs;whnf)
 apply hW.b<;>intro e0<;>conv=>lhs;whnf
 ·have e0:x.a≠y.a:=by simpa using e0
  rw[decide_eq_false fun e=>e0 (by rw[e])];rfl
 ·have e0:x.a=y.a:=by simpa using e0
  apply hW.w (kQ hE x.b y.b h1)
  conv=>lhs;whnf
  try(apply hW.q;exact rqc;conv=>lhs;whnf)
  apply hW.b<;>intro e1<;>conv=>lhs;whnf
  ·have e1:x.b≠y.b:=by simpa using e1
   rw[decide_eq_false fun e=>e1 (by rw[e])];rfl
  ·have e1:x.b=y.b:=by simpa using e1
   apply hW.w (zM hE x.r y.r)
   conv=>lhs;whnf
   try(apply hW.q;exact rqc;conv=>lhs;whnf)
   apply hW.b<;>intro e2<;>conv=>lhs;whnf
   ·have e2:x.r≠y.r:=by simpa using e2
    rw[decide_eq_false fun e=>e2 (by rw[e])];rfl
   ·have e2:x.r=y.r:=by simpa using e2
    apply hW.w (aJa hE x.p y.p h2)
    conv=>lhs;whnf
    try(apply hW.q;exact rqc;conv=>lhs;whnf)
    apply hW.b<;>intro e3<;>conv=>lhs;whnf
    ·have e3:x.p≠y.p:=by simpa using e3
     rw[decide_eq_false fun e=>e3 (by rw[e])];rfl
    ·have e3:x.p=y.p:=by simpa using e3
     have:x=y:=by
      cases x;cases y;simp_all
     rw[decide_eq_true this];rfl
def Msg.lim (B:Nat) (x:Msg):Prop:=x.man.lim B∧x.b.length≤B
def Msg.sz (x:Msg) (v0:Int):Int:=thn (Man.sz x.man v0) fun v1=>thn ((fun v=>gY v x.b.length) v1) fun v2=>v2
def Node.lim (B:Nat) (x:Node):Prop:=x.man.lim B∧x.bld.lim B∧x.kids.length≤B
theorem Node.lim_mono {B C:Nat} (h:B≤C) {x:Node} (hx:x.lim B):x.lim C:=by
 obtain⟨h0,h1,h2⟩:=hx
 exact⟨Man.lim_mono h h0,Bld.lim_mono h h1,Nat.le_trans h2 h⟩
def Node.sz (x:Node) (v0:Int):Int:=thn (Man.sz x.man v0) fun v1=>thn (Bld.sz x.bld v1) fun v2=>thn ((fun v=>gY v x.kids.length) v2) fun v3=>v3
theorem Node.sz_rg {x:Node} {left:Int} (r0:rg left):rg (x.sz left):=by
 unfold Node.sz
 refine iN fun _=>?_
 refine iN fun _=>?_
 refine iN fun _=>?_
 exact(cM (Bld.sz_rg (Man.sz_rg r0)))
theorem Node.sz_ok {x:Node} {left:Int} (r0:rg left) (h:¬ x.sz left<0):x.lim 1048576:=by
 unfold Node.sz at h
 obtain⟨g0,h⟩:=iM h
 obtain⟨g1,h⟩:=iM h
 obtain⟨g2,h⟩:=iM h
 exact⟨Man.sz_ok r0 g0,Bld.sz_ok (Man.sz_rg r0) g1,(jD (Bld.sz_rg (Man.sz_rg r0)) g2).1⟩
theorem aJf {E:Env} (hE:Sys E) (x:Node) (left:Int) (hb:x.lim 140737488355328) (r0:rg left):E 64 [gv (x.cs aL),iv left]=some ([iv (x.sz left)],[]):=by
 obtain⟨h0,h1,h2⟩:=hb
 unfold Node.sz
 refine hE.run rfl rfl fun W hW=>?_
 conv=>lhs;whnf
 apply hW.w (aBV hE x.man (left) h0 r0)
 conv=>lhs;whnf
 try(apply hW.q;exact rqc;conv=>lhs;whnf)
 have r1:rg (Man.sz x.man (left)):=Man.sz_rg r0
 apply hW.b<;>intro g0<;>conv=>lhs;whnf
 ·rw[pB (by simpa using g0)];rfl
 ·rw[nR (by simpa using g0)]
  apply hW.w (aGS hE x.bld (Man.sz x.man (left)) h1 r1)
  conv=>lhs;whnf
  try(apply hW.q;exact rqc;conv=>lhs;whnf)
  have r2:rg (Bld.sz x.bld (Man.sz x.man (left))):=Bld.sz_rg r1
  apply hW.b<;>intro g1<;>conv=>lhs;whnf
  ·rw[pB (by simpa using g1)];rfl
  ·rw[nR (by simpa using g1)]
   apply hW.w (aI5 hE x.kids (Bld.sz x.bld (Man.sz x.man (left))) h2 r2)
   conv=>lhs;whnf
   try(apply hW.q;exact rqc;conv=>lhs;whnf)
   have r3:rg (gY (Bld.sz x.bld (Man.sz x.man (left))) x.kids.length):=cM r2
   apply hW.b<;>intro g2<;>conv=>lhs;whnf
   ·rw[pB (by simpa using g2)];rfl
   ·rw[nR (by simpa using g2)]
    rfl
theorem aAz {E:Env} (hE:Sys E) (x:Node) (hb:x.lim 1048576):E 65 [gv (x.cs aL)]=some ([gv (x.cs dY)],[]):=by
 obtain⟨h0,h1,h2⟩:=hb
 refine hE.run rfl rfl fun W hW=>?_
 conv=>lhs;whnf
 apply hW.w (aBW hE x.man h0)
 conv=>lhs;whnf
 try(apply hW.q;exact rqc;conv=>lhs;whnf)
 apply hW.w (aGT hE x.bld h1)
 conv=>lhs;whnf
 try(apply hW.q;exact rqc;conv=>lhs;whnf)
 apply hW.w (aI6 hE x.kids h2)
 conv=>lhs;whnf
 try(apply hW.q;exact rqc;conv=>lhs;whnf)
 rfl
theorem aJg {E:Env} (hE:Sys E) (x y:Node) (hb:x.lim 1099511627776):E 68 [gv (x.cs aL),gv (y.cs aL)]=some ([bv (decide (x=y))],[]):=by
 obtain⟨h0,h1,h2⟩:=hb
 refine hE.run rfl rfl fun W hW=>?_
 conv=>lhs;whnf
 repeat((first|apply hW.t|apply hW.f|(apply hW.q;exact rqc)|(refine hW.w (cA ?_) ?_;omega));conv=>lhs;whnf)
 apply hW.b<;>intro e0<;>conv=>lhs;whnf
 ·have e0:x.on≠y.on:=by simpa using e0
  rw[decide_eq_false fun e=>e0 (by rw[e])];rfl
 ·have e0:x.on=y.on:=by simpa using e0
  repeat((first|apply hW.t|apply hW.f|(apply hW.q;exact rqc)|(refine hW.w (cA ?_) ?_;omega));conv=>lhs;whnf)
  apply hW.b<;>intro e1<;>conv=>lhs;whnf
  ·have e1:x.boss≠y.boss:=by simpa using e1
   rw[decide_eq_false fun e=>e1 (by rw[e])];rfl
  ·have e1:x.boss=y.boss:=by simpa using e1
   repeat((first|apply hW.t|apply hW.f|(apply hW.q;exact rqc)|(refine hW.w (cA ?_) ?_;omega));conv=>lhs;whnf)
   apply hW.b<;>intro e2<;>conv=>lhs;whnf
   ·have e2:x.quiet≠y.quiet:=by simpa using e2
    rw[decide_eq_false fun e=>e2 (by rw[e])];rfl
   ·have e2:x.quiet=y.quiet:=by simpa using e2
    apply hW.w (aBX hE x.man y.man h0)
    conv=>lhs;whnf
    try(apply hW.q;exact rqc;conv=>lhs;whnf)
    apply hW.b<;>intro e3<;>conv=>lhs;whnf
    ·have e3:x.man≠y.man:=by simpa using e3
     rw[decide_eq_false fun e=>e3 (by rw[e])];rfl
    ·have e3:x.man=y.man:=by simpa using e3
     apply hW.w (aGU hE x.bld y.bld h1)
     conv=>lhs;whnf
     try(apply hW.q;exact rqc;conv=>lhs;whnf)
     apply hW.b<;>intro e4<;>conv=>lhs;whnf
     ·have e4:x.bld≠y.bld:=by simpa using e4
      rw[decide_eq_false fun e=>e4 (by rw[e])];rfl
     ·have e4:x.bld=y.bld:=by simpa using e4
      repeat((first|apply hW.t|apply hW.f|(apply hW.q;exact rqc)|(refine hW.w (cA ?_) ?_;omega));conv=>lhs;whnf)
      apply hW.b<;>intro e5<;>conv=>lhs;whnf
      ·have e5:x.phase≠y.phase:=by simpa using e5
       rw[decide_eq_false fun e=>e5 (by rw[e])];rfl
      ·have e5:x.phase=y.phase:=by simpa using e5
       apply hW.w (aI7 hE x.kids y.kids h2)
       conv=>lhs;whnf
       try(apply hW.q;exact rqc;conv=>lhs;whnf)
       apply hW.b<;>intro e6<;>conv=>lhs;whnf
       ·have e6:x.kids≠y.kids:=by simpa using e6
        rw[decide_eq_false fun e=>e6 (by rw[e])];rfl
       ·have e6:x.kids=y.kids:=by simpa using e6
        repeat((first|apply hW.t|apply hW.f|(apply hW.q;exact rqc)|(refine hW.w (cA ?_) ?_;omega));conv=>lhs;whnf)
        apply hW.b<;>intro e7<;>conv=>lhs;whnf
        ·have e7:x.drops≠y.drops:=by simpa using e7
         rw[decide_eq_false fun e=>e7 (by rw[e])];rfl
        ·have e7:x.drops=y.drops:=by simpa using e7
         have:x=y:=by
          cases x;cases y;simp_all
         rw[decide_eq_true this];rfl
def Actn.lim (B:Nat) (x:Actn):Prop:=x.n.lim B∧aAw (fun B=>Pkt.lim B) B x.out
def Actn.sz (x:Actn) (v0:Int):Int:=thn (Node.sz x.n v0) fun v1=>thn (szS Pkt.sz x.out v1) fun v2=>v2
def Beat.lim (B:Nat) (x:Beat):Prop:=x.n.lim B∧x.d.lim B∧aAw (fun B=>Pkt.lim B) B x.out
def Beat.sz (x:Beat) (v0:Int):Int:=thn (Node.sz x.n v0) fun v1=>thn (Disk.sz x.d v1) fun v2=>thn (szS Pkt.sz x.out v2) fun v3=>v3
def World.lim (B:Nat) (x:World):Prop:=x.t.lim B∧x.new.length≤B∧aAw (fun B=>Image.lim B) B x.old∧aAw (fun B=>Node.lim B) B x.n∧aAw (fun B=>Disk.lim B) B x.d∧aAw (fun B=>Pkt.lim B) B x.net∧x.log.length≤B
def World.sz (x:World) (v0:Int):Int:=thn (Tree.sz x.t v0) fun v1=>thn ((fun v=>gY v x.new.length) v1) fun v2=>thn (szS Image.sz x.old v2) fun v3=>thn (szS Node.sz x.n v3) fun v4=>thn (szS Disk.sz x.d v4) fun v5=>thn (szS Pkt.sz x.net v5) fun v6=>thn ((fun v=>gY v x.log.length) v6) fun v7=>v7
def sH {α:Type} (p:α→Bool):Nat→List α→Int
 |_,[] => -1
 |n,x::r=>if p x then n else sH p (n+1) r
theorem aJh {α:Type} {p:α→Bool} {l:List α}:∀ {n:Nat},sH p n l = -1∨∃ i:Nat,i<l.length∧sH p n l=((n+i:Nat):Int):=by
 induction l with
 |nil=>intro n;exact .inl rfl
 |cons x r ih =>
  intro n
  simp only[sH]
  cases p x
  ·simp only[Bool.false_eq_true,if_false]
   rcases ih (n:=n+1) with h|⟨i,h1,h2⟩
   ·exact .inl h
   ·exact .inr ⟨i+1,by simpa using h1,by rw[h2];congr 1;omega⟩
  ·exact .inr ⟨0,by simp,by simp⟩
def bK (x lo hi:Int):Bool:=decide (lo≤x)&&decide (x≤hi)
def cN (s:Int):Bool:=bK s 0 1099511627775
theorem bF {E:Env} (hE:Sys E) (x lo hi:Int):E 1 [iv x,iv lo,iv hi]=some ([bv (bK x lo hi)],[]):=by
 refine hE.run rfl rfl fun W hW=>?_
 conv=>lhs;whnf
 unfold bK
 apply hW.b<;>intro h1<;>conv=>lhs;whnf
 ·rw[h1]
  repeat((first|apply hW.t|apply hW.f|(apply hW.q;exact rqc));conv=>lhs;whnf)
  simp_all;rfl
 ·rw[h1]
  repeat((first|apply hW.t|apply hW.f|(apply hW.q;exact rqc));conv=>lhs;whnf)
  simp_all;rfl
theorem bI {E:Env} (hE:Sys E) (x lo hi:Int):E 2 [iv x,iv lo,iv hi]=some ([bv (bK x lo hi)],[]):=by
 refine hE.run rfl rfl fun W hW=>?_
 conv=>lhs;whnf
 unfold bK
 apply hW.b<;>intro h1<;>conv=>lhs;whnf
 ·rw[h1]
  repeat((first|apply hW.t|apply hW.f|(apply hW.q;exact rqc));conv=>lhs;whnf)
  simp_all;rfl
 ·rw[h1]
  repeat((first|apply hW.t|apply hW.f|(apply hW.q;exact rqc));conv=>lhs;whnf)
  simp_all;rfl
theorem bO {E:Env} (hE:Sys E) (s:Int):E 26 [iv s]=some ([bv (cN s)],[]):=by
 refine hE.run rfl rfl fun W hW=>?_
 conv=>lhs;whnf
 apply hW.w (bF hE s 0 1099511627775)
 conv=>lhs;whnf
 try(apply hW.q;exact rqc;conv=>lhs;whnf)
 rfl
theorem cH {E:Env} (hE:Sys E) (s:Int):E 32 [iv s]=some ([bv (cN s)],[]):=by
 refine hE.run rfl rfl fun W hW=>?_
 conv=>lhs;whnf
 apply hW.w (bI hE s 0 1099511627775)
 conv=>lhs;whnf
 try(apply hW.q;exact rqc;conv=>lhs;whnf)
 rfl
def fO (l:List Kid) (id:Int):Int:=sH (fun x:Kid=>decide (x.id=id)) 0 l
theorem kR {E:Env} (hE:Sys E) (l:List Kid) (id:Int) (h0:l.length≤1099511627776):E 25 [sv (l.map Kid.row),iv id]=some ([iv (fO l id)],[]):=by
 refine hE.run rfl rfl fun W hW=>?_
 conv=>lhs;whnf
 refine hW.loop (σ:=Nat) (γ:=Nat) (fun i s=>s.sl 5 (v1 (.t (.int .i64 i)))) (fun i n=>i=n∧n≤l.length) (fun n=>l.length-n) (fun n=>([iv (sH (fun x:Kid=>decide (x.id=id)) n (l.drop n))],[])) 0 0 ?_ ?_ ?_ ?_
 ·intro K
  conv=>lhs;whnf
  conv=>rhs;whnf
  try rfl
 ·simp
 ·rintro kl n _ ⟨rfl,hn⟩ ih
  conv=>lhs;whnf
  apply hW.b<;>intro h2<;>conv=>lhs;whnf
  ·have h2:n<l.length:=by simpa using h2
   rw[List.drop_eq_getElem_cons h2,sH]
   repeat((first|apply hW.t|apply hW.f|(apply hW.q;exact rqc)|(refine hW.w (cA ?_) ?_;omega));conv=>lhs;whnf)
   apply hW.b<;>intro h3<;>conv=>lhs;whnf
   ·simp only[h3,if_true];rfl
   ·simp only[h3,if_false,Bool.false_eq_true]
    refine ih (n+1) (n+1) _ ?_ ⟨rfl,by omega⟩ (by omega)
    intro K
    conv=>lhs;whnf
    conv=>rhs;whnf
    try rfl
    rw[show IntKind.i64.wrap ((n:Int)+1)=_ from aI (by omega)]
  ·have:n=l.length:=by simp at h2;omega
   subst this
   rw[List.drop_length];rfl
 ·rfl
theorem aGV {E:Env} (hE:Sys E) (x:Kid) (id:Int):E 102 [gv x.cs, .pt false [ci id]]=some ([bv (decide (x.id=id))],[]):=by
 refine hE.run rfl rfl fun W hW=>?_
 conv=>lhs;whnf
 rfl
theorem qK {E:Env} (hE:Sys E) (l:List Kid) (h0:l.length≤1099511627776) (id:Int):E 29 [sv (l.map Kid.row), .fn 102 [[ci id]]]=some ([iv (sH (fun x:Kid=>decide (x.id=id)) 0 l)],[]):=by
 have hrl:(l.map Kid.row).length=l.length:=by simp[bys,bZ]
 refine hE.run rfl rfl fun W hW=>?_
 conv=>lhs;whnf
 refine hW.loop (σ:=Nat) (γ:=Nat) (fun i s=>s.sl 8 (v1 (.t (.int .i64 i)))) (fun i n=>i=n∧n≤l.length) (fun n=>l.length-n) (fun n=>([iv (sH (fun x:Kid=>decide (x.id=id)) n (l.drop n))],[])) 0 0 ?_ ?_ ?_ ?_
 ·intro K
  conv=>lhs;whnf
  conv=>rhs;whnf
  try rfl
 ·simp
 ·rintro kl n _ ⟨rfl,hn⟩ ih
  conv=>lhs;whnf
  apply hW.b<;>intro h2<;>conv=>lhs;whnf
  ·have h2:n<l.length:=by simpa[hrl] using h2
   rw[List.drop_eq_getElem_cons h2]
   repeat((first|apply hW.t|apply hW.f|(apply hW.q;exact rqc)|(refine hW.w (cA ?_) ?_;omega));conv=>lhs;whnf)
   apply hW.w (aGV hE l[n] id)
   conv=>lhs;whnf
   try(apply hW.q;exact rqc;conv=>lhs;whnf)
   simp only[sH]
   apply hW.b<;>intro h3<;>conv=>lhs;whnf
   ·simp only[h3,if_true];rfl
   ·simp only[h3,if_false,Bool.false_eq_true]
    refine ih (n+1) (n+1) _ ?_ ⟨rfl,by omega⟩ (by omega)
    intro K
    conv=>lhs;whnf
    conv=>rhs;whnf
    try rfl
    rw[show IntKind.i64.wrap ((n:Int)+1)=_ from aI (by omega)]
    try rfl
  ·have:n=l.length:=by simp[hrl]at h2;omega
   subst this
   rw[List.drop_length];rfl
 ·rfl
theorem kS {E:Env} (hE:Sys E) (l:List Kid) (id:Int) (h0:l.length≤1099511627776):E 31 [sv (l.map Kid.row),iv id]=some ([iv (fO l id)],[]):=by
 refine hE.run rfl rfl fun W hW=>?_
 conv=>lhs;whnf
 apply hW.w (qK hE l h0 id)
 conv=>lhs;whnf
 try(apply hW.q;exact rqc;conv=>lhs;whnf)
 rfl
theorem nS {E:Env} (hE:Sys E) (l:List Kid) (h0:l.length≤68719476736):E 30 [sv (l.map Kid.row)]=some ([ov 5 (l.map Kid.row)],[]):=by
 have hfl:lO (l.map Kid.row)=true:=tI (fun _=>rfl) l
 have hrl:(l.map Kid.row).length=l.length:=by simp[bys,bZ]
 have hro:∀ e∈l.map Kid.row,e.length=5:=aMx fun _=>rfl
 refine hE.run2 rfl rfl (fun W hW=>?_) (fun he W hW=>?_)
 ·conv=>lhs;whnf
  repeat((first|apply hW.t|apply hW.f|(apply hW.q;exact rqc));conv=>lhs;whnf)
  refine hW.q (by exact⟨by decide,hro,by simp only[List.length_nil,hrl];omega,by simp only[List.length_nil,hrl];omega⟩) ?_
  conv=>lhs;whnf
  apply hW.bt (hfl)
  conv=>lhs;whnf
  rfl
 ·cases l with
  |cons x r=>exact absurd (show false=true from he) (by decide)
  |nil =>
   conv=>lhs;whnf
   repeat((first|apply hW.t|apply hW.f|(apply hW.q;exact rqc));conv=>lhs;whnf)
   rfl
def Node.limk (n:Node):Prop:=n.man.sums.length≤1048576∧n.bld.buf.length≤1048576∧n.kids.length≤4194304
theorem Node.lim.k {n:Node} (h:n.lim 1048576):n.limk:=⟨h.1,h.2.1,Nat.le_trans h.2.2 (by decide)⟩
theorem Node.limk.l4 {n:Node} (h:n.limk):n.lim 4194304:=⟨Nat.le_trans h.1 (by decide),Nat.le_trans h.2.1 (by decide),h.2.2⟩
theorem Node.limk.l8 {n:Node} (h:n.limk):n.lim 8388608:=Node.lim_mono (by decide) h.l4
abbrev aGW (n:Node):Int:=n.bld.hav
def wor (a b:Int):Int:=IntKind.i64.wrap (BitVec.ofInt IntKind.i64.bits a ||| BitVec.ofInt IntKind.i64.bits b).toNat
theorem lW {l:List Kid} {id:Int} (h:¬ fO l id<0):∃ n:Nat,∃ _:n<l.length,fO l id=n:=by
 rcases aJh (p:=fun x:Kid=>decide (x.id=id)) (l:=l) (n:=0) with h1|⟨i,h1,h2⟩
 ·rw[show fO l id=_ from h1]at h;exact absurd (by decide) h
 ·exact⟨i,h1,by rw[show fO l id=_ from h2];simp⟩
def cT (l:List Kid) (id s:Int):List Kid :=
 match l[(fO l id).toNat]? with
 |none=>l
 |some x=>if fO l id<0∨cN s=false∨cN x.sent=false then l else l.set (fO l id).toNat { x with sent:=wor x.sent s }
theorem gF (l:List Kid) (id s:Int):(cT l id s).length=l.length:=by
 unfold cT
 split
 ·rfl
 ·split<;>simp
theorem pC {l:List Kid} {id s:Int} (h:fO l id<0):cT l id s=l:=by
 unfold cT;split
 ·rfl
 ·rw[if_pos (.inl h)]
theorem rQ {l:List Kid} {id s:Int} {n:Nat} (hn:n<l.length) (h:fO l id=n):cT l id s=if cN s=false∨cN l[n].sent=false then l else l.set n { l[n] with sent:=wor l[n].sent s }:=by
 unfold cT
 rw[h,Int.toNat_natCast,List.getElem?_eq_getElem hn]
 simp only[show ¬ ((n:Int)<0) from by omega,false_or]
theorem kU (l:List Kid):lO (l.map Kid.row)=true:=tI (fun _=>rfl) l
theorem kids_rows (l:List Kid):∀ e∈l.map Kid.row,e.length=5:=aMx fun _=>rfl
theorem kV {E:Env} (hE:Sys E) (l:List Kid) (id s:Int) (h0:l.length≤4194304):E 36 [sv (l.map Kid.row),iv id,iv s]=some ([ov 5 ((cT l id s).map Kid.row)],[]):=by
 refine hE.run rfl rfl fun W hW=>?_
 conv=>lhs;whnf
 repeat((first|apply hW.t|apply hW.f|(apply hW.q;exact rqc));conv=>lhs;whnf)
 refine hW.q (by exact⟨by decide,kids_rows l,by simp;omega,by simp;omega⟩) ?_
 conv=>lhs;whnf
 apply hW.bt (kU l)
 conv=>lhs;whnf
 apply hW.w (kR hE l id (by omega))
 conv=>lhs;whnf
 try(apply hW.q;exact rqc;conv=>lhs;whnf)
 apply hW.b<;>intro h1<;>conv=>lhs;whnf
 ·repeat((first|apply hW.t|apply hW.f|(apply hW.q;exact rqc));conv=>lhs;whnf)
  have h1:fO l id<0:=by simpa using h1
  rw[pC h1];rfl
 ·obtain⟨n,hn,hk⟩:=lW (by simpa using h1)
  rw[rQ hn hk,hk]
  repeat((first|apply hW.t|apply hW.f|(apply hW.q;exact rqc));conv=>lhs;whnf)
  apply hW.w (bO hE s)
  conv=>lhs;whnf
  repeat((first|apply hW.t|apply hW.f|(apply hW.q;exact rqc));conv=>lhs;whnf)
  apply hW.b<;>intro h2<;>conv=>lhs;whnf
  ·repeat((first|apply hW.t|apply hW.f|(apply hW.q;exact rqc));conv=>lhs;whnf)
   rw[if_pos (.inl (by simpa using h2))];rfl
  ·repeat((first|apply hW.t|apply hW.f|(apply hW.q;exact rqc)|(refine hW.w (cA ?_) ?_;omega));conv=>lhs;whnf)
   apply hW.w (bO hE l[n].sent)
   conv=>lhs;whnf
   repeat((first|apply hW.t|apply hW.f|(apply hW.q;exact rqc));conv=>lhs;whnf)
   apply hW.b<;>intro h3<;>conv=>lhs;whnf
   ·repeat((first|apply hW.t|apply hW.f|(apply hW.q;exact rqc));conv=>lhs;whnf)
    rw[if_pos (.inr (by simpa using h3))];rfl
   ·rw[if_neg (by simp at h2 h3;simp[h2,h3]),List.map_set]
    repeat((first|apply hW.t|apply hW.f|(apply hW.q;exact rqc)|(refine hW.w (cA ?_) ?_;omega));conv=>lhs;whnf)
    rfl
theorem kW {E:Env} (hE:Sys E) (l:List Kid) (id s:Int) (h0:l.length≤4194304):E 37 [sv (l.map Kid.row),iv id,iv s]=some ([ov 5 ((cT l id s).map Kid.row)],[]):=by
 refine hE.run rfl rfl fun W hW=>?_
 conv=>lhs;whnf
 apply hW.w (nS hE l (by omega))
 conv=>lhs;whnf
 repeat((first|apply hW.t|apply hW.f|(apply hW.q;exact rqc));conv=>lhs;whnf)
 apply hW.w (kS hE l id (by omega))
 conv=>lhs;whnf
 repeat((first|apply hW.t|apply hW.f|(apply hW.q;exact rqc));conv=>lhs;whnf)
 apply hW.b<;>intro h1<;>conv=>lhs;whnf
 ·obtain⟨n,hn,hk⟩:=lW (l:=l) (id:=id) (by simpa using h1)
  rw[rQ hn hk,hk]
  repeat((first|apply hW.t|apply hW.f|(apply hW.q;exact rqc));conv=>lhs;whnf)
  apply hW.w (cH hE s)
  conv=>lhs;whnf
  repeat((first|apply hW.t|apply hW.f|(apply hW.q;exact rqc));conv=>lhs;whnf)
  apply hW.b<;>intro h2<;>conv=>lhs;whnf
  ·repeat((first|apply hW.t|apply hW.f|(apply hW.q;exact rqc)|(refine hW.w (cA ?_) ?_;omega));conv=>lhs;whnf)
   apply hW.w (cH hE l[n].sent)
   conv=>lhs;whnf
   repeat((first|apply hW.t|apply hW.f|(apply hW.q;exact rqc));conv=>lhs;whnf)
   apply hW.b<;>intro h3<;>conv=>lhs;whnf
   ·rw[if_neg (by rintro(h|h)<;>simp_all),List.map_set]
    repeat((first|apply hW.t|apply hW.f|(apply hW.q;exact rqc)|(refine hW.w (cA ?_) ?_;omega));conv=>lhs;whnf)
    rfl
   ·repeat((first|apply hW.t|apply hW.f|(apply hW.q;exact rqc));conv=>lhs;whnf)
    rw[if_pos (.inr (by simpa using h3))];rfl
  ·repeat((first|apply hW.t|apply hW.f|(apply hW.q;exact rqc));conv=>lhs;whnf)
   rw[if_pos (.inl (by simpa using h2))];rfl
 ·repeat((first|apply hW.t|apply hW.f|(apply hW.q;exact rqc));conv=>lhs;whnf)
  have h1:fO l id<0:=by simpa using h1
  rw[pC h1];rfl
theorem bP {x lo hi:Int} (h:bK x lo hi=true):lo≤x∧x≤hi:=by simpa[bK] using h
theorem gR {b:Bool} (h:(!b)=false):b=true:=by simpa using h
theorem jU {b:Bool} (h:(!b)=true):b=false:=by simpa using h
def jG (n:Int):Int:=if bK n 0 40=true then IntKind.i64.wrap (IntKind.i64.wrap (1*2 ^ (min n.toNat IntKind.i64.bits))-1) else 0
theorem xB {E:Env} (hE:Sys E) (n:Int):E 89 [iv n]=some ([iv (jG n)],[]):=by
 refine hE.run rfl rfl fun W hW=>?_
 conv=>lhs;whnf
 apply hW.w (bF hE n 0 40)
 conv=>lhs;whnf
 try(apply hW.q;exact rqc;conv=>lhs;whnf)
 unfold jG
 apply hW.b<;>intro h1<;>conv=>lhs;whnf
 ·rw[jU h1]
  repeat((first|apply hW.t|apply hW.f|(apply hW.q;exact rqc));conv=>lhs;whnf)
  rfl
 ·rw[gR h1]
  have:=bP (gR h1)
  repeat((first|apply hW.t|apply hW.f|(apply hW.q;exact rqc));conv=>lhs;whnf)
  rfl
theorem xC {E:Env} (hE:Sys E) (n:Int):E 93 [iv n]=some ([iv (jG n)],[]):=by
 refine hE.run rfl rfl fun W hW=>?_
 conv=>lhs;whnf
 apply hW.w (bI hE n 0 40)
 conv=>lhs;whnf
 try(apply hW.q;exact rqc;conv=>lhs;whnf)
 unfold jG
 apply hW.b<;>intro h1<;>conv=>lhs;whnf
 ·rw[jU h1]
  repeat((first|apply hW.t|apply hW.f|(apply hW.q;exact rqc));conv=>lhs;whnf)
  rfl
 ·rw[gR h1]
  have:=bP (gR h1)
  repeat((first|apply hW.t|apply hW.f|(apply hW.q;exact rqc));conv=>lhs;whnf)
  rfl
def cK (m:Man):Int:=jG m.sums.length
theorem uS {E:Env} (hE:Sys E) (m:Man):E 90 [gv (m.cs aL)]=some ([iv (cK m)],[]):=by
 refine hE.run rfl rfl fun W hW=>?_
 conv=>lhs;whnf
 rw[show(m.sums.map Sum.row).length=m.sums.length from List.length_map _]
 apply hW.w (xB hE m.sums.length)
 conv=>lhs;whnf
 try(apply hW.q;exact rqc;conv=>lhs;whnf)
 rfl
theorem uT {E:Env} (hE:Sys E) (m:Man):E 94 [gv (m.cs aL)]=some ([iv (cK m)],[]):=by
 refine hE.run rfl rfl fun W hW=>?_
 conv=>lhs;whnf
 rw[show(m.sums.map Sum.row).length=m.sums.length from List.length_map _]
 apply hW.w (xC hE m.sums.length)
 conv=>lhs;whnf
 try(apply hW.q;exact rqc;conv=>lhs;whnf)
 rfl
def xD (a b:Int):Int:=IntKind.i64.wrap (BitVec.ofInt IntKind.i64.bits a &&& ~~~BitVec.ofInt IntKind.i64.bits b).toNat
def tJ (a b:Int):Int:=if cN a=true∧cN b=true then xD a b else 0
theorem xE {E:Env} (hE:Sys E) (a b:Int):E 91 [iv a,iv b]=some ([iv (tJ a b)],[]):=by
 refine hE.run rfl rfl fun W hW=>?_
 conv=>lhs;whnf
 apply hW.w (bO hE a)
 conv=>lhs;whnf
 try(apply hW.q;exact rqc;conv=>lhs;whnf)
 unfold tJ
 repeat((first|apply hW.t|apply hW.f|(apply hW.q;exact rqc));conv=>lhs;whnf)
 apply hW.b<;>intro h1<;>conv=>lhs;whnf
 ·rw[if_neg (by rintro⟨h,_⟩;rw[h]at h1;cases h1)]
  repeat((first|apply hW.t|apply hW.f|(apply hW.q;exact rqc));conv=>lhs;whnf)
  rfl
 ·rw[gR h1]
  repeat((first|apply hW.t|apply hW.f|(apply hW.q;exact rqc));conv=>lhs;whnf)
  apply hW.w (bO hE b)
  conv=>lhs;whnf
  repeat((first|apply hW.t|apply hW.f|(apply hW.q;exact rqc));conv=>lhs;whnf)
  apply hW.b<;>intro h2<;>conv=>lhs;whnf
  ·rw[jU h2]
   repeat((first|apply hW.t|apply hW.f|(apply hW.q;exact rqc));conv=>lhs;whnf)
   rfl
  ·rw[gR h2]
   repeat((first|apply hW.t|apply hW.f|(apply hW.q;exact rqc));conv=>lhs;whnf)
   rfl
theorem mH {E:Env} (hE:Sys E) (i:Int):E 128 [iv i]=some ([bv (bK i 0 39)],[]):=by
 refine hE.run rfl rfl fun W hW=>?_
 conv=>lhs;whnf
 apply hW.w (bI hE i 0 39)
 conv=>lhs;whnf
 try(apply hW.q;exact rqc;conv=>lhs;whnf)
 rfl
theorem mI {E:Env} (hE:Sys E) (i:Int):E 1 [iv i,iv 0,iv 39]=some ([bv (bK i 0 39)],[]):=bF hE i 0 39
def aFa (n:Int):Int:=IntKind.i64.wrap (1*2 ^ (min n.toNat IntKind.i64.bits))
def iO (s i:Int):Int:=if cN s=true∧bK i 0 39=true then wor s (aFa i) else s
theorem kX {E:Env} (hE:Sys E) (s i:Int):E 123 [iv s,iv i]=some ([iv (iO s i)],[]):=by
 refine hE.run rfl rfl fun W hW=>?_
 conv=>lhs;whnf
 apply hW.w (bO hE s)
 conv=>lhs;whnf
 try(apply hW.q;exact rqc;conv=>lhs;whnf)
 unfold iO
 repeat((first|apply hW.t|apply hW.f|(apply hW.q;exact rqc));conv=>lhs;whnf)
 apply hW.b<;>intro h1<;>conv=>lhs;whnf
 ·rw[if_neg (by rintro⟨h,_⟩;rw[h]at h1;cases h1)]
  repeat((first|apply hW.t|apply hW.f|(apply hW.q;exact rqc));conv=>lhs;whnf)
  rfl
 ·rw[gR h1]
  repeat((first|apply hW.t|apply hW.f|(apply hW.q;exact rqc));conv=>lhs;whnf)
  apply hW.w (mI hE i)
  conv=>lhs;whnf
  repeat((first|apply hW.t|apply hW.f|(apply hW.q;exact rqc));conv=>lhs;whnf)
  apply hW.b<;>intro h2<;>conv=>lhs;whnf
  ·rw[jU h2]
   repeat((first|apply hW.t|apply hW.f|(apply hW.q;exact rqc));conv=>lhs;whnf)
   rfl
  ·rw[gR h2]
   have:=bP (gR h2)
   repeat((first|apply hW.t|apply hW.f|(apply hW.q;exact rqc));conv=>lhs;whnf)
   rfl
def dI (s i:Int):Bool:=cN s&&(bK i 0 39&&decide (IntKind.i64.wrap (BitVec.ofInt IntKind.i64.bits (s.fdiv (2 ^ (min i.toNat IntKind.i64.bits))) &&& BitVec.ofInt IntKind.i64.bits 1).toNat=1))
theorem cU {E:Env} (hE:Sys E) (s i:Int):E 132 [iv s,iv i]=some ([bv (dI s i)],[]):=by
 refine hE.run rfl rfl fun W hW=>?_
 conv=>lhs;whnf
 apply hW.w (bO hE s)
 conv=>lhs;whnf
 try(apply hW.q;exact rqc;conv=>lhs;whnf)
 unfold dI
 repeat((first|apply hW.t|apply hW.f|(apply hW.q;exact rqc));conv=>lhs;whnf)
 apply hW.b<;>intro h1<;>conv=>lhs;whnf
 ·rw[h1]
  repeat((first|apply hW.t|apply hW.f|(apply hW.q;exact rqc));conv=>lhs;whnf)
  apply hW.w (mI hE i)
  conv=>lhs;whnf
  repeat((first|apply hW.t|apply hW.f|(apply hW.q;exact rqc));conv=>lhs;whnf)
  apply hW.b<;>intro h2<;>conv=>lhs;whnf
  ·rw[h2]
   have:=bP h2
   repeat((first|apply hW.t|apply hW.f|(apply hW.q;exact rqc));conv=>lhs;whnf)
   rfl
  ·rw[h2]
   repeat((first|apply hW.t|apply hW.f|(apply hW.q;exact rqc));conv=>lhs;whnf)
   rfl
 ·rw[h1]
  repeat((first|apply hW.t|apply hW.f|(apply hW.q;exact rqc));conv=>lhs;whnf)
  rfl
theorem dA {E:Env} (hE:Sys E) (s i:Int):E 135 [iv s,iv i]=some ([bv (dI s i)],[]):=by
 refine hE.run rfl rfl fun W hW=>?_
 conv=>lhs;whnf
 apply hW.w (cH hE s)
 conv=>lhs;whnf
 try(apply hW.q;exact rqc;conv=>lhs;whnf)
 unfold dI
 repeat((first|apply hW.t|apply hW.f|(apply hW.q;exact rqc));conv=>lhs;whnf)
 apply hW.b<;>intro h1<;>conv=>lhs;whnf
 ·rw[h1]
  repeat((first|apply hW.t|apply hW.f|(apply hW.q;exact rqc));conv=>lhs;whnf)
  apply hW.w (mH hE i)
  conv=>lhs;whnf
  repeat((first|apply hW.t|apply hW.f|(apply hW.q;exact rqc));conv=>lhs;whnf)
  apply hW.b<;>intro h2<;>conv=>lhs;whnf
  ·rw[h2]
   have:=bP h2
   repeat((first|apply hW.t|apply hW.f|(apply hW.q;exact rqc));conv=>lhs;whnf)
   rfl
  ·rw[h2]
   repeat((first|apply hW.t|apply hW.f|(apply hW.q;exact rqc));conv=>lhs;whnf)
   rfl
 ·rw[h1]
  repeat((first|apply hW.t|apply hW.f|(apply hW.q;exact rqc));conv=>lhs;whnf)
  rfl
theorem rR (a:aE):(⟨a.toArray⟩:ByteArray).toList=a:=by rw[ByteArray.toList_eq]
theorem sI {E:Env} (hE:Sys E) (a b:aE):E 11 [sv (bys a),sv (bys b)]=some ([bv (decide (a=b))],[]):=by
 refine hE.run rfl rfl fun W hW=>?_
 conv=>lhs;whnf
 apply hW.w (lV a)
 conv=>lhs;whnf
 try(apply hW.q;exact rqc;conv=>lhs;whnf)
 apply hW.w (lV b)
 conv=>lhs;whnf
 try(apply hW.q;exact rqc;conv=>lhs;whnf)
 simp only[rR]
 rfl
theorem aAA {E:Env} (hE:Sys E) (a b:aE):E 14 [sv (bys a),sv (bys b)]=some ([bv (decide (a=b))],[]):=by
 refine hE.run rfl rfl fun W hW=>?_
 conv=>lhs;whnf
 apply hW.w (lV a)
 conv=>lhs;whnf
 try(apply hW.q;exact rqc;conv=>lhs;whnf)
 apply hW.w (lV b)
 conv=>lhs;whnf
 try(apply hW.q;exact rqc;conv=>lhs;whnf)
 simp only[rR]
 rfl
theorem jO {E:Env} (hE:Sys E) (a b:aE):E 15 [sv (bys a),sv (bys b)]=some ([bv (decide (a=b))],[]):=by
 refine hE.run rfl rfl fun W hW=>?_
 conv=>lhs;whnf
 apply hW.w (aAA hE a b)
 conv=>lhs;whnf
 try(apply hW.q;exact rqc;conv=>lhs;whnf)
 rfl
theorem kY {E:Env} (hE:Sys E) (l m:List Sum) (h0:l.length≤1099511627776):E 235 [sv (l.map Sum.row),sv (m.map Sum.row)]=some ([bv (decide (l=m))],[]):=by
 refine hE.run rfl rfl fun W hW=>?_
 conv=>lhs;whnf
 apply hW.b<;>intro h<;>conv=>lhs;whnf
 ·have:l≠m:=by rintro rfl;simp at h
  rw[decide_eq_false this];rfl
 ·have h:l.length=m.length:=by simp at h;omega
  refine hW.loop (σ:=Nat) (γ:=Nat) (fun i s=>s.sl 5 (v1 (.t (.int .i64 i)))) (fun i n=>i=n∧n≤l.length) (fun n=>l.length-n) (fun n=>([bv (decide (l.drop n=m.drop n))],[])) 0 0 ?_ ?_ ?_ ?_
  ·intro K
   conv=>lhs;whnf
   conv=>rhs;whnf
   try rfl
  ·simp
  ·rintro kl n _ ⟨rfl,hn⟩ ih
   conv=>lhs;whnf
   apply hW.b<;>intro h2<;>conv=>lhs;whnf
   ·have h2:n<l.length:=by simpa using h2
    rw[List.drop_eq_getElem_cons h2,List.drop_eq_getElem_cons (l:=m) (i:=n) (by omega)]
    repeat((first|apply hW.t|apply hW.f|(apply hW.q;exact rqc)|(refine hW.w (cA ?_) ?_;omega));conv=>lhs;whnf)
    apply hW.b<;>intro h3<;>conv=>lhs;whnf
    ·have h3:l[n]≠m[n]:=by intro e;rw[e]at h3;simp at h3
     rw[decide_eq_false fun e=>h3 (List.cons.inj e).1];rfl
    ·have h3:l[n]=m[n]:=by
      revert h3
      generalize l[n]=x
      generalize m[n]=y
      cases x;cases y
      simp
     simp only[h3,List.cons.injEq,true_and]
     refine ih (n+1) (n+1) _ ?_ ⟨rfl,by omega⟩ (by omega)
     intro K
     conv=>lhs;whnf
     conv=>rhs;whnf
     try rfl
     rw[show IntKind.i64.wrap ((n:Int)+1)=_ from aI (by omega)]
     try rfl
   ·have:n=l.length:=by simp at h2;omega
    subst this
    rw[List.drop_length,h,List.drop_length];rfl
  ·rfl
theorem kZ {E:Env} (hE:Sys E) (l m:List Sum) (h0:l.length≤1099511627776):E 248 [sv (l.map Sum.row),sv (m.map Sum.row)]=some ([bv (decide (l=m))],[]):=by
 refine hE.run rfl rfl fun W hW=>?_
 conv=>lhs;whnf
 apply hW.b<;>intro h<;>conv=>lhs;whnf
 ·have:l≠m:=by rintro rfl;simp at h
  rw[decide_eq_false this];rfl
 ·have h:l.length=m.length:=by simp at h;omega
  refine hW.loop (σ:=Nat) (γ:=Nat) (fun i s=>s.sl 13 (v1 (.t (.int .i64 i)))) (fun i n=>i=n∧n≤l.length) (fun n=>l.length-n) (fun n=>([bv (decide (l.drop n=m.drop n))],[])) 0 0 ?_ ?_ ?_ ?_
  ·intro K
   conv=>lhs;whnf
   conv=>rhs;whnf
   try rfl
  ·simp
  ·rintro kl n _ ⟨rfl,hn⟩ ih
   conv=>lhs;whnf
   apply hW.b<;>intro h2<;>conv=>lhs;whnf
   ·have h2:n<l.length:=by simpa using h2
    rw[List.drop_eq_getElem_cons h2,List.drop_eq_getElem_cons (l:=m) (i:=n) (by omega)]
    repeat((first|apply hW.t|apply hW.f|(apply hW.q;exact rqc)|(refine hW.w (cA ?_) ?_;omega));conv=>lhs;whnf)
    apply hW.b<;>intro h3<;>conv=>lhs;whnf
    ·have h3:l[n]≠m[n]:=by intro e;rw[e]at h3;simp at h3
     rw[decide_eq_false fun e=>h3 (List.cons.inj e).1];rfl
    ·have h3:l[n]=m[n]:=by
      revert h3
      generalize l[n]=x
      generalize m[n]=y
      cases x;cases y
      simp
     simp only[h3,List.cons.injEq,true_and]
     refine ih (n+1) (n+1) _ ?_ ⟨rfl,by omega⟩ (by omega)
     intro K
     conv=>lhs;whnf
     conv=>rhs;whnf
     try rfl
     rw[show IntKind.i64.wrap ((n:Int)+1)=_ from aI (by omega)]
     try rfl
   ·have:n=l.length:=by simp at h2;omega
    subst this
    rw[List.drop_length,h,List.drop_length];rfl
  ·rfl
theorem aCZ {E:Env} (hE:Sys E) (l m:List Kid) (h0:l.length≤1099511627776):E 287 [sv (l.map Kid.row),sv (m.map Kid.row)]=some ([bv (decide (l=m))],[]):=by
 refine hE.run rfl rfl fun W hW=>?_
 conv=>lhs;whnf
 apply hW.b<;>intro h<;>conv=>lhs;whnf
 ·have:l≠m:=by rintro rfl;simp at h
  rw[decide_eq_false this];rfl
 ·have h:l.length=m.length:=by simp at h;omega
  refine hW.loop (σ:=Nat) (γ:=Nat) (fun i s=>s.sl 13 (v1 (.t (.int .i64 i)))) (fun i n=>i=n∧n≤l.length) (fun n=>l.length-n) (fun n=>([bv (decide (l.drop n=m.drop n))],[])) 0 0 ?_ ?_ ?_ ?_
  ·intro K
   conv=>lhs;whnf
   conv=>rhs;whnf
   try rfl
  ·simp
  ·rintro kl n _ ⟨rfl,hn⟩ ih
   conv=>lhs;whnf
   apply hW.b<;>intro h2<;>conv=>lhs;whnf
   ·have h2:n<l.length:=by simpa using h2
    rw[List.drop_eq_getElem_cons h2,List.drop_eq_getElem_cons (l:=m) (i:=n) (by omega)]
    repeat((first|apply hW.t|apply hW.f|(apply hW.q;exact rqc)|(refine hW.w (cA ?_) ?_;omega));conv=>lhs;whnf)
    apply hW.b<;>intro h3<;>conv=>lhs;whnf
    ·have h3:l[n]≠m[n]:=by intro e;rw[e]at h3;simp at h3
     rw[decide_eq_false fun e=>h3 (List.cons.inj e).1];rfl
    ·have h3:l[n]=m[n]:=by
      revert h3
      generalize l[n]=x
      generalize m[n]=y
      cases x;cases y
      simp
     simp only[h3,List.cons.injEq,true_and]
     refine ih (n+1) (n+1) _ ?_ ⟨rfl,by omega⟩ (by omega)
     intro K
     conv=>lhs;whnf
     conv=>rhs;whnf
     try rfl
     rw[show IntKind.i64.wrap ((n:Int)+1)=_ from aI (by omega)]
     try rfl
   ·have:n=l.length:=by simp at h2;omega
    subst this
    rw[List.drop_length,h,List.drop_length];rfl
  ·rfl
theorem dJ {E:Env} (hE:Sys E) (a b:Man) (h0:a.sums.length≤1099511627776):E 285 [gv (a.cs aL),gv (b.cs aL)]=some ([bv (decide (a=b))],[]):=by
 refine hE.run rfl rfl fun W hW=>?_
 conv=>lhs;whnf
 have key:decide (a=b)=(decide (a.gen=b.gen)&&(decide (a.size=b.size)&&(decide (a.len=b.len)&&decide (a.sums=b.sums)))):=by
  cases a;cases b;simp
 rw[key]
 apply hW.b<;>intro h1<;>conv=>lhs;whnf
 ·rw[h1]
  repeat((first|apply hW.t|apply hW.f|(apply hW.q;exact rqc));conv=>lhs;whnf)
  apply hW.b<;>intro h2<;>conv=>lhs;whnf
  ·rw[h2]
   repeat((first|apply hW.t|apply hW.f|(apply hW.q;exact rqc));conv=>lhs;whnf)
   apply hW.b<;>intro h3<;>conv=>lhs;whnf
   ·rw[h3]
    repeat((first|apply hW.t|apply hW.f|(apply hW.q;exact rqc));conv=>lhs;whnf)
    apply hW.w (kY hE a.sums b.sums h0)
    conv=>lhs;whnf
    repeat((first|apply hW.t|apply hW.f|(apply hW.q;exact rqc));conv=>lhs;whnf)
    rfl
   ·rw[h3]
    repeat((first|apply hW.t|apply hW.f|(apply hW.q;exact rqc));conv=>lhs;whnf)
    rfl
  ·rw[h2]
   repeat((first|apply hW.t|apply hW.f|(apply hW.q;exact rqc));conv=>lhs;whnf)
   rfl
 ·rw[h1]
  repeat((first|apply hW.t|apply hW.f|(apply hW.q;exact rqc));conv=>lhs;whnf)
  rfl
theorem mJ {E:Env} (hE:Sys E) (a b:Man) (h0:a.sums.length≤1099511627776):E 286 [gv (a.cs aL),gv (b.cs aL)]=some ([bv (decide (a=b))],[]):=by
 refine hE.run rfl rfl fun W hW=>?_
 conv=>lhs;whnf
 have key:decide (a=b)=(decide (a.gen=b.gen)&&(decide (a.size=b.size)&&(decide (a.len=b.len)&&decide (a.sums=b.sums)))):=by
  cases a;cases b;simp
 rw[key]
 apply hW.b<;>intro h1<;>conv=>lhs;whnf
 ·rw[h1]
  repeat((first|apply hW.t|apply hW.f|(apply hW.q;exact rqc));conv=>lhs;whnf)
  apply hW.b<;>intro h2<;>conv=>lhs;whnf
  ·rw[h2]
   repeat((first|apply hW.t|apply hW.f|(apply hW.q;exact rqc));conv=>lhs;whnf)
   apply hW.b<;>intro h3<;>conv=>lhs;whnf
   ·rw[h3]
    repeat((first|apply hW.t|apply hW.f|(apply hW.q;exact rqc));conv=>lhs;whnf)
    apply hW.w (kZ hE a.sums b.sums h0)
    conv=>lhs;whnf
    repeat((first|apply hW.t|apply hW.f|(apply hW.q;exact rqc));conv=>lhs;whnf)
    rfl
   ·rw[h3]
    repeat((first|apply hW.t|apply hW.f|(apply hW.q;exact rqc));conv=>lhs;whnf)
    rfl
  ·rw[h2]
   repeat((first|apply hW.t|apply hW.f|(apply hW.q;exact rqc));conv=>lhs;whnf)
   rfl
 ·rw[h1]
  repeat((first|apply hW.t|apply hW.f|(apply hW.q;exact rqc));conv=>lhs;whnf)
  rfl
theorem aD6 (a b:Node):decide (a=b)=(decide (a.on=b.on)&&(decide (a.boss=b.boss)&&(decide (a.quiet=b.quiet)&&(decide (a.man=b.man)&&(decide (a.bld.hav=b.bld.hav)&&(decide (a.bld.buf=b.bld.buf)&&(decide (a.phase=b.phase)&&(decide (a.kids=b.kids)&&decide (a.drops=b.drops))))))))):=by
 obtain⟨_,_,_,_,⟨_,_⟩,_,_,_⟩:=a
 obtain⟨_,_,_,_,⟨_,_⟩,_,_,_⟩:=b
 simp only[Node.mk.injEq,Bld.mk.injEq,Bool.decide_and,Bool.and_assoc]
abbrev lA (a b:Node):Bool:=decide (a=b)
theorem sJ {E:Env} (hE:Sys E) (a b:Node) (ha:a.lim 4194304):E 119 [gv (a.cs aL),gv (b.cs aL)]=some ([bv (lA a b)],[]):=by
 obtain⟨l1,l2,l3⟩:=ha
 unfold lA
 refine hE.run rfl rfl fun W hW=>?_
 conv=>lhs;whnf
 rw[aD6]
 have e0:decide (a.on=b.on)=(a.on==b.on):=rfl
 rw[e0]
 apply hW.b<;>intro h0<;>conv=>lhs;whnf
 ·rw[h0]
  repeat((first|apply hW.t|apply hW.f|(apply hW.q;exact rqc));conv=>lhs;whnf)
  apply hW.b<;>intro h1<;>conv=>lhs;whnf
  ·rw[h1]
   repeat((first|apply hW.t|apply hW.f|(apply hW.q;exact rqc));conv=>lhs;whnf)
   apply hW.b<;>intro h2<;>conv=>lhs;whnf
   ·rw[h2]
    repeat((first|apply hW.t|apply hW.f|(apply hW.q;exact rqc));conv=>lhs;whnf)
    apply hW.w (mJ hE a.man b.man (Nat.le_trans l1 (by decide)))
    conv=>lhs;whnf
    repeat((first|apply hW.t|apply hW.f|(apply hW.q;exact rqc));conv=>lhs;whnf)
    apply hW.b<;>intro h3<;>conv=>lhs;whnf
    ·rw[h3]
     repeat((first|apply hW.t|apply hW.f|(apply hW.q;exact rqc));conv=>lhs;whnf)
     apply hW.b<;>intro h4<;>conv=>lhs;whnf
     ·rw[h4]
      repeat((first|apply hW.t|apply hW.f|(apply hW.q;exact rqc));conv=>lhs;whnf)
      apply hW.w (jO hE a.bld.buf b.bld.buf)
      conv=>lhs;whnf
      repeat((first|apply hW.t|apply hW.f|(apply hW.q;exact rqc));conv=>lhs;whnf)
      apply hW.b<;>intro h5<;>conv=>lhs;whnf
      ·rw[h5]
       repeat((first|apply hW.t|apply hW.f|(apply hW.q;exact rqc));conv=>lhs;whnf)
       apply hW.b<;>intro h6<;>conv=>lhs;whnf
       ·rw[h6]
        repeat((first|apply hW.t|apply hW.f|(apply hW.q;exact rqc));conv=>lhs;whnf)
        apply hW.w (aCZ hE a.kids b.kids (Nat.le_trans l3 (by decide)))
        conv=>lhs;whnf
        repeat((first|apply hW.t|apply hW.f|(apply hW.q;exact rqc));conv=>lhs;whnf)
        apply hW.b<;>intro h7<;>conv=>lhs;whnf
        ·rw[h7]
         repeat((first|apply hW.t|apply hW.f|(apply hW.q;exact rqc));conv=>lhs;whnf)
         rfl
        ·rw[h7]
         repeat((first|apply hW.t|apply hW.f|(apply hW.q;exact rqc));conv=>lhs;whnf)
         rfl
       ·rw[h6]
        repeat((first|apply hW.t|apply hW.f|(apply hW.q;exact rqc));conv=>lhs;whnf)
        rfl
      ·rw[h5]
       repeat((first|apply hW.t|apply hW.f|(apply hW.q;exact rqc));conv=>lhs;whnf)
       rfl
     ·rw[h4]
      repeat((first|apply hW.t|apply hW.f|(apply hW.q;exact rqc));conv=>lhs;whnf)
      rfl
    ·rw[h3]
     repeat((first|apply hW.t|apply hW.f|(apply hW.q;exact rqc));conv=>lhs;whnf)
     rfl
   ·rw[h2]
    repeat((first|apply hW.t|apply hW.f|(apply hW.q;exact rqc));conv=>lhs;whnf)
    rfl
  ·rw[h1]
   repeat((first|apply hW.t|apply hW.f|(apply hW.q;exact rqc));conv=>lhs;whnf)
   rfl
 ·rw[h0]
  repeat((first|apply hW.t|apply hW.f|(apply hW.q;exact rqc));conv=>lhs;whnf)
  rfl
theorem sK {E:Env} (hE:Sys E) (a b:Node) (ha:a.lim 4194304):E 118 [gv (a.cs aL),gv (b.cs aL)]=some ([bv (lA a b)],[]):=by
 obtain⟨l1,l2,l3⟩:=ha
 have l3':a.kids.length≤1099511627776:=Nat.le_trans l3 (by decide)
 unfold lA
 refine hE.run rfl rfl fun W hW=>?_
 conv=>lhs;whnf
 apply hW.b<;>intro h0<;>conv=>lhs;whnf
 ·rw[show decide (a=b)=false from decide_eq_false (by rintro rfl;simp at h0)]
  repeat((first|apply hW.t|apply hW.f|(apply hW.q;exact rqc));conv=>lhs;whnf)
  rfl
 ·have e0:a.on=b.on:=by simpa using h0
  repeat((first|apply hW.t|apply hW.f|(apply hW.q;exact rqc));conv=>lhs;whnf)
  apply hW.b<;>intro h1<;>conv=>lhs;whnf
  ·rw[show decide (a=b)=false from decide_eq_false (by rintro rfl;simp at h1)]
   repeat((first|apply hW.t|apply hW.f|(apply hW.q;exact rqc));conv=>lhs;whnf)
   rfl
  ·have e1:a.boss=b.boss:=by simpa using h1
   repeat((first|apply hW.t|apply hW.f|(apply hW.q;exact rqc));conv=>lhs;whnf)
   apply hW.b<;>intro h2<;>conv=>lhs;whnf
   ·rw[show decide (a=b)=false from decide_eq_false (by rintro rfl;simp at h2)]
    repeat((first|apply hW.t|apply hW.f|(apply hW.q;exact rqc));conv=>lhs;whnf)
    rfl
   ·have e2:a.quiet=b.quiet:=by simpa using h2
    repeat((first|apply hW.t|apply hW.f|(apply hW.q;exact rqc));conv=>lhs;whnf)
    apply hW.w (dJ hE a.man b.man (Nat.le_trans l1 (by decide)))
    conv=>lhs;whnf
    repeat((first|apply hW.t|apply hW.f|(apply hW.q;exact rqc));conv=>lhs;whnf)
    apply hW.b<;>intro h3<;>conv=>lhs;whnf
    ·rw[show decide (a=b)=false from decide_eq_false (by rintro rfl;simp at h3)]
     repeat((first|apply hW.t|apply hW.f|(apply hW.q;exact rqc));conv=>lhs;whnf)
     rfl
    ·have e3:a.man=b.man:=by simpa using h3
     repeat((first|apply hW.t|apply hW.f|(apply hW.q;exact rqc));conv=>lhs;whnf)
     apply hW.b<;>intro h4<;>conv=>lhs;whnf
     ·rw[show decide (a=b)=false from decide_eq_false (by rintro rfl;simp at h4)]
      repeat((first|apply hW.t|apply hW.f|(apply hW.q;exact rqc));conv=>lhs;whnf)
      rfl
     ·have e4:a.bld.hav=b.bld.hav:=by simpa using h4
      repeat((first|apply hW.t|apply hW.f|(apply hW.q;exact rqc));conv=>lhs;whnf)
      apply hW.w (sI hE a.bld.buf b.bld.buf)
      conv=>lhs;whnf
      repeat((first|apply hW.t|apply hW.f|(apply hW.q;exact rqc));conv=>lhs;whnf)
      apply hW.b<;>intro h5<;>conv=>lhs;whnf
      ·rw[show decide (a=b)=false from decide_eq_false (by rintro rfl;simp at h5)]
       repeat((first|apply hW.t|apply hW.f|(apply hW.q;exact rqc));conv=>lhs;whnf)
       rfl
      ·have e5:a.bld.buf=b.bld.buf:=by simpa using h5
       repeat((first|apply hW.t|apply hW.f|(apply hW.q;exact rqc));conv=>lhs;whnf)
       apply hW.b<;>intro h6<;>conv=>lhs;whnf
       ·rw[show decide (a=b)=false from decide_eq_false (by rintro rfl;simp at h6)]
        repeat((first|apply hW.t|apply hW.f|(apply hW.q;exact rqc));conv=>lhs;whnf)
        rfl
       ·have e6:a.phase=b.phase:=by simpa using h6
        repeat((first|apply hW.t|apply hW.f|(apply hW.q;exact rqc));conv=>lhs;whnf)
        apply hW.b<;>intro h7<;>conv=>lhs;whnf
        ·rw[show decide (a=b)=false from decide_eq_false (by rintro rfl;simp at h7)]
         repeat((first|apply hW.t|apply hW.f|(apply hW.q;exact rqc));conv=>lhs;whnf)
         rfl
        ·have e7:a.kids.length=b.kids.length:=by simp at h7;omega
         repeat((first|apply hW.t|apply hW.f|(apply hW.q;exact rqc));conv=>lhs;whnf)
         apply hW.b<;>intro h8<;>conv=>lhs;whnf
         ·rw[show decide (a=b)=false from decide_eq_false (by rintro rfl;simp at h8)]
          repeat((first|apply hW.t|apply hW.f|(apply hW.q;exact rqc));conv=>lhs;whnf)
          rfl
         ·have e8:a.drops=b.drops:=by simpa using h8
          repeat((first|apply hW.t|apply hW.f|(apply hW.q;exact rqc));conv=>lhs;whnf)
          have key:decide (a=b)=decide (a.kids=b.kids):=by
           rw[aD6,e0,e1,e2,e3,e4,e5,e6,e8]
           simp only[decide_true,Bool.true_and,Bool.and_true]
          rw[key]
          refine hW.loop (σ:=Nat) (γ:=Nat) (fun i s=>s.sl 5 (v1 (.t (.int .i64 i)))) (fun i n=>i=n∧n≤a.kids.length) (fun n=>a.kids.length-n) (fun n=>([bv (decide (a.kids.drop n=b.kids.drop n))],[])) 0 0 ?_ ?_ ?_ ?_
          ·intro K
           conv=>lhs;whnf
           conv=>rhs;whnf
           try rfl
          ·simp
          ·rintro kl n _ ⟨rfl,hn⟩ ih
           conv=>lhs;whnf
           apply hW.b<;>intro h2<;>conv=>lhs;whnf
           ·have h2:n<a.kids.length:=by simpa using h2
            rw[List.drop_eq_getElem_cons h2,List.drop_eq_getElem_cons (l:=b.kids) (i:=n) (by omega)]
            repeat((first|apply hW.t|apply hW.f|(apply hW.q;exact rqc)|(refine hW.w (cA ?_) ?_;omega));conv=>lhs;whnf)
            apply hW.b<;>intro h3<;>conv=>lhs;whnf
            ·have h3:a.kids[n]≠b.kids[n]:=by intro e;rw[e]at h3;simp at h3
             rw[decide_eq_false fun e=>h3 (List.cons.inj e).1];rfl
            ·have h3:a.kids[n]=b.kids[n]:=by
              revert h3
              generalize a.kids[n]=x
              generalize b.kids[n]=y
              cases x;cases y
              simp
             simp only[h3,List.cons.injEq,true_and]
             refine ih (n+1) (n+1) _ ?_ ⟨rfl,by omega⟩ (by omega)
             intro K
             conv=>lhs;whnf
             conv=>rhs;whnf
             try rfl
             rw[show IntKind.i64.wrap ((n:Int)+1)=_ from aI (by omega)]
             try rfl
           ·have:n=a.kids.length:=by simp at h2;omega
            subst this
            rw[List.drop_length,e7,List.drop_length];rfl
          ·rfl
def lB (s:Int):Nat→Nat→List Int
 |_,0=>[]
 |i,k+1=>if dI s i=true then(i:Int)::lB s (i+1) k else lB s (i+1) k
def dL (s:Int):List Int:=lB s 0 40
theorem aFb {s:Int}:∀ {k i:Nat},(lB s i k).length≤k:=by
 intro k
 induction k with
 |zero=>intro i;exact Nat.le_refl _
 |succ k ih =>
  intro i
  simp only[lB]
  split
  ·have:=ih (i:=i+1);simp only[List.length_cons];omega
  ·have:=ih (i:=i+1);omega
theorem lC {s:Int}:(dL s).length≤40:=aFb
theorem xF {E:Env} (hE:Sys E) (s:Int):E 134 [iv s]=some ([ov 1 (bZ (dL s))],[]):=by
 refine hE.run rfl rfl fun W hW=>?_
 conv=>lhs;whnf
 refine hW.loop (σ:=Nat × List Int) (γ:=Nat) (fun i s=>(s.sl 6 (v1 (.t (.int .i64 i.1)))).bl ⟨50300,1, .own,bZ i.2⟩) (fun i m=>i.1=m∧m≤40∧i.2.length≤m∧i.2++lB s m (40-m)=dL s) (fun m=>40-m) (fun _=>([ov 1 (bZ (dL s))],[])) (0,[]) 0 ?_ ?_ ?_ ?_
 ·intro K
  conv=>lhs;whnf
  conv=>rhs;whnf
  try rfl
 ·exact⟨rfl,by omega,by simp,rfl⟩
 ·rintro kl ⟨m,acc⟩ _ ⟨rfl,hm,hl,hs⟩ ih
  simp only at hs hm hl
  conv=>lhs;whnf
  apply hW.b<;>intro h1<;>conv=>lhs;whnf
  ·have h1:m<40:=by
    have:(m:Int)<40:=by simpa using h1
    omega
   rw[show 40-m=(40-(m+1))+1 from by omega,lB]at hs
   repeat((first|apply hW.t|apply hW.f|(apply hW.q;exact rqc));conv=>lhs;whnf)
   apply hW.w (dA hE s m)
   conv=>lhs;whnf
   try(apply hW.q;exact rqc;conv=>lhs;whnf)
   apply hW.b<;>intro h3<;>conv=>lhs;whnf
   ·rw[if_pos h3]at hs
    repeat((first|apply hW.t|apply hW.f|(apply hW.q;exact rqc));conv=>lhs;whnf)
    refine hW.q (by exact⟨by decide,by intro e he;simp at he;subst he;rfl,by simp[bZ];omega,by simp[bZ];omega⟩) ?_
    conv=>lhs;whnf
    repeat((first|apply hW.t|apply hW.f|(apply hW.q;exact rqc));conv=>lhs;whnf)
    refine ih (m+1,acc++[(m:Int)]) (m+1) _ ?_ ⟨rfl,by omega,by simp;omega,by simpa using hs⟩ (by omega)
    intro K
    conv=>lhs;whnf
    conv=>rhs;whnf
    try rfl
    rw[show IntKind.i64.wrap ((m:Int)+1)=_ from aI (by omega)]
    simp[bZ,rM]
   ·rw[if_neg (by rw[h3];decide)]at hs
    repeat((first|apply hW.t|apply hW.f|(apply hW.q;exact rqc));conv=>lhs;whnf)
    refine ih (m+1,acc) (m+1) _ ?_ ⟨rfl,by omega,by simp only;omega,hs⟩ (by omega)
    intro K
    conv=>lhs;whnf
    conv=>rhs;whnf
    try rfl
    rw[show IntKind.i64.wrap ((m:Int)+1)=_ from aI (by omega)]
    try rfl
  ·have:m=40:=by
    have:¬ (m:Int)<40:=by simpa using h1
    omega
   subst this
   simp only[Nat.sub_self,lB,List.append_nil]at hs
   repeat((first|apply hW.t|apply hW.f|(apply hW.q;exact rqc));conv=>lhs;whnf)
   rw[← hs];rfl
 ·rfl
theorem aGX (l:List Sum):lO (l.map Sum.row)=true:=tI (fun _=>rfl) l
theorem aGY (l:List Sum):∀ e∈l.map Sum.row,e.length=2:=aMx fun _=>rfl
theorem aF (l:aE):(bys l).length=l.length:=List.length_map _
theorem aC0 {E:Env} (hE:Sys E) (l:List Sum) (h0:l.length≤68719476736):E 218 [sv (l.map Sum.row)]=some ([ov 2 (l.map Sum.row)],[]):=by
 have hfl:lO (l.map Sum.row)=true:=tI (fun _=>rfl) l
 have hrl:(l.map Sum.row).length=l.length:=by simp[bys,bZ]
 have hro:∀ e∈l.map Sum.row,e.length=2:=aMx fun _=>rfl
 refine hE.run2 rfl rfl (fun W hW=>?_) (fun he W hW=>?_)
 ·conv=>lhs;whnf
  repeat((first|apply hW.t|apply hW.f|(apply hW.q;exact rqc));conv=>lhs;whnf)
  refine hW.q (by exact⟨by decide,hro,by simp only[List.length_nil,hrl];omega,by simp only[List.length_nil,hrl];omega⟩) ?_
  conv=>lhs;whnf
  apply hW.bt (hfl)
  conv=>lhs;whnf
  rfl
 ·cases l with
  |cons x r=>exact absurd (show false=true from he) (by decide)
  |nil =>
   conv=>lhs;whnf
   repeat((first|apply hW.t|apply hW.f|(apply hW.q;exact rqc));conv=>lhs;whnf)
   rfl
theorem cF {E:Env} (hE:Sys E) (b:aE) (h0:b.length≤68719476736):E 42 [sv (bys b)]=some ([ov 1 (bys b)],[]):=by
 refine hE.run rfl rfl fun W hW=>?_
 conv=>lhs;whnf
 refine hW.q (by exact⟨by omega, .inr rfl,by omega,by rw[aF];omega,by rw[aF];omega,by decide,rfl⟩) ?_
 conv=>lhs;whnf
 repeat((first|apply hW.t|apply hW.f|(apply hW.q;exact rqc));conv=>lhs;whnf)
 refine hW.q (by exact⟨by decide,bA _,by simp[aF];omega,by simp[aF];omega⟩) ?_
 conv=>lhs;whnf
 apply hW.bt (cW _)
 conv=>lhs;whnf
 rfl
theorem pD {E:Env} (hE:Sys E) (x:Man) (h0:x.sums.length≤8388608):E 213 [gv (x.cs aL)]=some ([gv (x.cs dY)],[]):=by
 refine hE.run rfl rfl fun W hW=>?_
 conv=>lhs;whnf
 repeat((first|apply hW.t|apply hW.f|(apply hW.q;exact rqc));conv=>lhs;whnf)
 refine hW.q (by exact⟨by decide,aGY _,by simp;omega,by simp;omega⟩) ?_
 conv=>lhs;whnf
 apply hW.bt (aGX _)
 conv=>lhs;whnf
 rfl
theorem mK {E:Env} (hE:Sys E) (x:Man) (h0:x.sums.length≤8388608):E 216 [gv (x.cs aL)]=some ([gv (x.cs dY)],[]):=by
 refine hE.run rfl rfl fun W hW=>?_
 conv=>lhs;whnf
 repeat((first|apply hW.t|apply hW.f|(apply hW.q;exact rqc));conv=>lhs;whnf)
 apply hW.w (aC0 hE x.sums (by omega))
 conv=>lhs;whnf
 repeat((first|apply hW.t|apply hW.f|(apply hW.q;exact rqc));conv=>lhs;whnf)
 rfl
theorem pE {E:Env} (hE:Sys E) (x:Bld) (h0:x.buf.length≤8388608):E 214 [gv (x.cs aL)]=some ([gv (x.cs dY)],[]):=by
 refine hE.run rfl rfl fun W hW=>?_
 conv=>lhs;whnf
 repeat((first|apply hW.t|apply hW.f|(apply hW.q;exact rqc));conv=>lhs;whnf)
 refine hW.q (by exact⟨by decide,bA _,by rw[aF];omega,by rw[aF];omega,cW _⟩) ?_
 conv=>lhs;whnf
 repeat((first|apply hW.t|apply hW.f|(apply hW.q;exact rqc));conv=>lhs;whnf)
 rfl
theorem jP {E:Env} (hE:Sys E) (x:Bld) (h0:x.buf.length≤8388608):E 217 [gv (x.cs aL)]=some ([gv (x.cs dY)],[]):=by
 refine hE.run rfl rfl fun W hW=>?_
 conv=>lhs;whnf
 repeat((first|apply hW.t|apply hW.f|(apply hW.q;exact rqc));conv=>lhs;whnf)
 apply hW.w (cF hE x.buf (by omega))
 conv=>lhs;whnf
 repeat((first|apply hW.t|apply hW.f|(apply hW.q;exact rqc));conv=>lhs;whnf)
 rfl
theorem cV {E:Env} (hE:Sys E) (x:Node) (h0:x.lim 8388608):E 212 [gv (x.cs aL)]=some ([gv (x.cs dY)],[]):=by
 obtain⟨h1,h2,h3⟩:=h0
 refine hE.run rfl rfl fun W hW=>?_
 conv=>lhs;whnf
 repeat((first|apply hW.t|apply hW.f|(apply hW.q;exact rqc));conv=>lhs;whnf)
 apply hW.w (pD hE x.man h1)
 conv=>lhs;whnf
 repeat((first|apply hW.t|apply hW.f|(apply hW.q;exact rqc));conv=>lhs;whnf)
 apply hW.w (pE hE x.bld h2)
 conv=>lhs;whnf
 repeat((first|apply hW.t|apply hW.f|(apply hW.q;exact rqc));conv=>lhs;whnf)
 refine hW.q (by exact⟨by decide,kids_rows _,by simp;omega,by simp;omega⟩) ?_
 conv=>lhs;whnf
 apply hW.bt (kU _)
 conv=>lhs;whnf
 repeat((first|apply hW.t|apply hW.f|(apply hW.q;exact rqc));conv=>lhs;whnf)
 rfl
theorem cY {E:Env} (hE:Sys E) (x:Node) (h0:x.lim 8388608):E 215 [gv (x.cs aL)]=some ([gv (x.cs dY)],[]):=by
 obtain⟨h1,h2,h3⟩:=h0
 refine hE.run rfl rfl fun W hW=>?_
 conv=>lhs;whnf
 repeat((first|apply hW.t|apply hW.f|(apply hW.q;exact rqc));conv=>lhs;whnf)
 apply hW.w (mK hE x.man h1)
 conv=>lhs;whnf
 repeat((first|apply hW.t|apply hW.f|(apply hW.q;exact rqc));conv=>lhs;whnf)
 apply hW.w (jP hE x.bld h2)
 conv=>lhs;whnf
 repeat((first|apply hW.t|apply hW.f|(apply hW.q;exact rqc));conv=>lhs;whnf)
 apply hW.w (nS hE x.kids (by omega))
 conv=>lhs;whnf
 repeat((first|apply hW.t|apply hW.f|(apply hW.q;exact rqc));conv=>lhs;whnf)
 rfl
def hU (r:Rec):Bool:=bK r.gen 0 1000000&&(bK r.slot 0 1&&bK r.len 0 240)
theorem lD {E:Env} (hE:Sys E) (r:Rec):E 180 [gv r.cs]=some ([bv (hU r)],[]):=by
 refine hE.run rfl rfl fun W hW=>?_
 conv=>lhs;whnf
 repeat'((first|apply hW.t|apply hW.f|(apply hW.q;exact rqc)|apply hW.w (bF hE _ _ _)|(apply hW.b<;>intro h))<;>conv=>lhs;whnf)
 all_goals(refine congrArg (fun b=>(some ([bv b],[]):Option Res)) ?_;first|rfl|(simp_all [hU];done)|(simp_all [hU]<;>(intros;omega)))
theorem aGZ (n:Int):bK n 0 1=(decide (n=0)||decide (n=1)):=by
 rw[Bool.eq_iff_iff];simp[bK];omega
theorem pF {E:Env} (hE:Sys E) (n:Int):E 199 [iv n]=some ([bv (bK n 0 1)],[]):=by
 rw[aGZ]
 refine hE.run rfl rfl fun W hW=>?_
 conv=>lhs;whnf
 repeat'((first|apply hW.t|apply hW.f|(apply hW.q;exact rqc)|(apply hW.b<;>intro h))<;>conv=>lhs;whnf)
 all_goals(refine congrArg (fun b=>(some ([bv b],[]):Option Res)) ?_;first|rfl|(simp_all [];done)|(simp_all []<;>(intros;omega)))
theorem lE {E:Env} (hE:Sys E) (n:Int):E 198 [iv n]=some ([bv (bK n 0 1000000)],[]):=by
 refine hE.run rfl rfl fun W hW=>?_
 conv=>lhs;whnf
 repeat'((first|apply hW.t|apply hW.f|(apply hW.q;exact rqc)|apply hW.w (bI hE _ _ _)|(apply hW.b<;>intro h))<;>conv=>lhs;whnf)
 all_goals(refine congrArg (fun b=>(some ([bv b],[]):Option Res)) ?_;first|rfl|(simp_all [];done)|(simp_all []<;>(intros;omega)))
theorem lF {E:Env} (hE:Sys E) (r:Rec):E 193 [gv r.cs]=some ([bv (hU r)],[]):=by
 refine hE.run rfl rfl fun W hW=>?_
 conv=>lhs;whnf
 repeat'((first|apply hW.t|apply hW.f|(apply hW.q;exact rqc)|apply hW.w (bI hE _ _ _)|apply hW.w (lE hE _)|apply hW.w (pF hE _)|(apply hW.b<;>intro h))<;>conv=>lhs;whnf)
 all_goals(refine congrArg (fun b=>(some ([bv b],[]):Option Res)) ?_;first|rfl|(simp_all [hU];done)|(simp_all [hU]<;>(intros;omega)))
def fQ (p:Put):Bool:=if p.what=2 then decide (p.at_=0)&&(decide (p.b=[])&&hU p.r) else bK p.what 0 1&&(bK p.at_ 0 240&&(decide ((p.b.length:Int)≤IntKind.i64.wrap (240-p.at_))&&decide (p.r=⟨0,0,0⟩)))
theorem aY (b:aE):((bys b).length:Int)=b.length:=by rw[aF]
theorem rS {E:Env} (hE:Sys E) {o:Bool} (p:Put) (_:p.b.length≤8388608):E 182 [gv (p.cs aL)]=some ([bv (fQ p)],[]):=by
 obtain⟨w,a,b,⟨r1,r2,r3⟩⟩:=p
 refine hE.run rfl rfl fun W hW=>?_
 conv=>lhs;whnf
 repeat'((first|apply hW.t|apply hW.f|(apply hW.q;exact rqc)|apply hW.w (bF hE _ _ _)|apply hW.w (lD hE ⟨r1,r2,r3⟩)|(apply hW.b<;>intro h))<;>conv=>lhs;whnf)
 all_goals(refine congrArg (fun b=>(some ([bv b],[]):Option Res)) ?_;first|rfl|(simp_all [fQ,aY];done)|(simp_all [fQ,aY]<;>(intros;omega)))
theorem aBY {E:Env} (hE:Sys E) (p:Put) (hp:p.b.length≤8388608):E 200 [gv (p.cs aL)]=some ([bv (fQ p)],[]):=by
 obtain⟨w,a,b,⟨r1,r2,r3⟩⟩:=p
 have hp:b.length≤8388608:=hp
 have hw:IntKind.i64.wrap (240-((bys b).length:Int))=240-b.length:=by rw[aF];exact aH (by omega)
 have hk:bK a 0 (240-b.length)=(bK a 0 240&&decide ((b.length:Int)≤IntKind.i64.wrap (240-a))):=by
  rw[Bool.eq_iff_iff]
  simp only[bK,Bool.and_eq_true,decide_eq_true_eq]
  constructor
  ·rintro⟨h1,h2⟩
   rw[show IntKind.i64.wrap (240-a)=240-a from aH (by omega)]
   omega
  ·rintro⟨⟨h1,h2⟩,h3⟩
   rw[show IntKind.i64.wrap (240-a)=240-a from aH (by omega)]at h3
   omega
 refine hE.run rfl rfl fun W hW=>?_
 conv=>lhs;whnf
 repeat'((first|apply hW.t|apply hW.f|(apply hW.q;exact rqc)|apply hW.w (bI hE _ _ _)|apply hW.w (pF hE _)|apply hW.w (lF hE ⟨r1,r2,r3⟩)|(apply hW.b<;>intro h))<;>conv=>lhs;whnf)
 all_goals(try rw[hw]at *)
 all_goals(try rw[hk]at *)
 all_goals(refine congrArg (fun b=>(some ([bv b],[]):Option Res)) ?_;first|rfl|(simp_all [fQ,aY];done)|(simp_all [fQ,aY]<;>(intros;omega)))
theorem mL {E:Env} (hE:Sys E) {o:Bool} (d:Disk) (n:Int) (hn:n=1):E 181 [gv (d.cs aL o),iv n]=some ([.v false [.alias 0 1 0 d.b.length]],[]):=by
 subst hn
 refine hE.run rfl rfl fun W hW=>?_
 conv=>lhs;whnf
 repeat((first|apply hW.t|apply hW.f|(apply hW.q;exact rqc));conv=>lhs;whnf)
 rw[show(bys d.b).length=d.b.length from List.length_map _]
 rfl
theorem mM {E:Env} (hE:Sys E) {o:Bool} (d:Disk) (n:Int) (hn:n≠1):E 181 [gv (d.cs aL o),iv n]=some ([.v false [.alias 0 0 0 d.a.length]],[]):=by
 refine hE.run rfl rfl fun W hW=>?_
 conv=>lhs;whnf
 apply hW.bf (by simpa using hn)
 conv=>lhs;whnf
 repeat((first|apply hW.t|apply hW.f|(apply hW.q;exact rqc));conv=>lhs;whnf)
 rw[show(bys d.a).length=d.a.length from List.length_map _]
 rfl
theorem rT {E:Env} (hE:Sys E) {f:Nat→List (List T)→CA} {o:Bool} (hf:∀ z e,f z e=aL z e) (d:Disk) (n:Int) (hn:n=0):E 194 [.pt false (d.cs aL o),iv n]=some ([.apt 0 0],[]):=by
 subst hn
 refine hE.run rfl rfl fun W hW=>?_
 conv=>lhs;whnf
 repeat((first|apply hW.t|apply hW.f|(apply hW.q;exact rqc));conv=>lhs;whnf)
 rfl
theorem rU {E:Env} (hE:Sys E) {o:Bool} (d:Disk) (n:Int) (hn:n≠0):E 194 [.pt false (d.cs aL o),iv n]=some ([.apt 0 1],[]):=by
 refine hE.run rfl rfl fun W hW=>?_
 conv=>lhs;whnf
 apply hW.bf (by simpa using hn)
 conv=>lhs;whnf
 repeat((first|apply hW.t|apply hW.f|(apply hW.q;exact rqc));conv=>lhs;whnf)
 rfl
theorem aD7 {α:Type} {p:α→Bool} {l:List α}:∀ {n:Nat},decide (sH p n l≥0)=l.any p:=by
 induction l with
 |nil=>intro n;simp[sH]
 |cons x r ih =>
  intro n
  simp only[sH,List.any_cons]
  by_cases hp:p x=true
  ·simp[hp]
  ·have:=ih (n:=n+1)
   simp_all
theorem aFc {E:Env} (hE:Sys E) (p:Put) (hp:p.b.length≤8388608):E 196 [gv (p.cs aL)]=some ([bv (!fQ p)],[]):=by
 refine hE.run rfl rfl fun W hW=>?_
 conv=>lhs;whnf
 repeat((first|apply hW.t|apply hW.f|(apply hW.q;exact rqc));conv=>lhs;whnf)
 apply hW.w (aBY hE p hp)
 conv=>lhs;whnf
 repeat((first|apply hW.t|apply hW.f|(apply hW.q;exact rqc));conv=>lhs;whnf)
 rfl
theorem uU {E:Env} (hE:Sys E) {o:Bool} (l:List Put) (h0:l.length≤1099511627776) (hb:∀ x∈l,x.b.length≤8388608):E 197 [sv (l.map (Put.row o)), .fn 196 []]=some ([iv (sH (fun x:Put => !fQ x) 0 l)],[]):=by
 have hrl:(l.map (Put.row o)).length=l.length:=by simp[bys,bZ]
 refine hE.run rfl rfl fun W hW=>?_
 conv=>lhs;whnf
 refine hW.loop (σ:=Nat) (γ:=Nat) (fun i s=>s.sl 8 (v1 (.t (.int .i64 i)))) (fun i n=>i=n∧n≤l.length) (fun n=>l.length-n) (fun n=>([iv (sH (fun x:Put => !fQ x) n (l.drop n))],[])) 0 0 ?_ ?_ ?_ ?_
 ·intro K
  conv=>lhs;whnf
  conv=>rhs;whnf
  try rfl
 ·simp
 ·rintro kl n _ ⟨rfl,hn⟩ ih
  conv=>lhs;whnf
  apply hW.b<;>intro h2<;>conv=>lhs;whnf
  ·have h2:n<l.length:=by simpa[hrl] using h2
   rw[List.drop_eq_getElem_cons h2]
   repeat((first|apply hW.t|apply hW.f|(apply hW.q;exact rqc)|(refine hW.w (cA ?_) ?_;omega));conv=>lhs;whnf)
   apply hW.w (aFc hE l[n] (hb _ (List.getElem_mem h2)))
   conv=>lhs;whnf
   try(apply hW.q;exact rqc;conv=>lhs;whnf)
   simp only[sH]
   apply hW.b<;>intro h3<;>conv=>lhs;whnf
   ·simp only[h3,if_true];rfl
   ·simp only[h3,if_false,Bool.false_eq_true]
    refine ih (n+1) (n+1) _ ?_ ⟨rfl,by omega⟩ (by omega)
    intro K
    conv=>lhs;whnf
    conv=>rhs;whnf
    try rfl
    rw[show IntKind.i64.wrap ((n:Int)+1)=_ from aI (by omega)]
    try rfl
  ·have:n=l.length:=by simp[hrl]at h2;omega
   subst this
   rw[List.drop_length];rfl
 ·rfl
theorem pG {E:Env} (hE:Sys E) {o:Bool} (l:List Put) (h0:l.length≤1099511627776) (hb:∀ x∈l,x.b.length≤8388608):E 195 [sv (l.map (Put.row o)), .fn 196 []]=some ([bv (l.any fun x => !fQ x)],[]):=by
 refine hE.run rfl rfl fun W hW=>?_
 conv=>lhs;whnf
 apply hW.w (uU hE l h0 hb)
 conv=>lhs;whnf
 try(apply hW.q;exact rqc;conv=>lhs;whnf)
 rw[aD7]
 repeat((first|apply hW.t|apply hW.f|(apply hW.q;exact rqc));conv=>lhs;whnf)
 rfl
def fZ (d:Disk):Bool:=decide ((d.a.length:Int)≤240)&&(decide ((d.b.length:Int)≤240)&&(hU d.r&&(decide (d.r.len≤((if d.r.slot=1 then d.b else d.a).length:Int))&&(decide ((d.p.length:Int)≤200)&&d.p.all fQ))))
theorem pH {r:Rec} (h:hU r=true):r.slot=0∨r.slot=1:=by
 simp[hU,bK]at h;omega
theorem xG {E:Env} (hE:Sys E) {o:Bool} (d:Disk) (hd:d.lim 8388608):E 191 [gv (d.cs aL o)]=some ([bv (fZ d)],[]):=by
 obtain⟨h1,h2,h3,h4⟩:=hd
 have hany:d.p.all fQ = !(d.p.any fun x => !fQ x):=by
  rw[Bool.eq_iff_iff];simp
 have hA:d.p.length≤1099511627776:=Nat.le_trans h3 (by decide)
 unfold fZ
 rw[hany]
 have hR:=lF hE d.r
 have hC:=pG hE (o:=o) d.p hA h4
 clear hany
 generalize (d.p.any fun x => !fQ x)=q at hC ⊢
 cases hr:hU d.r
 ·rw[hr]at hR
  refine hE.run rfl rfl fun W hW=>?_
  conv=>lhs;whnf
  repeat'((first|apply hW.t|apply hW.f|(apply hW.q;exact rqc)|apply hW.w (hR)|(apply hW.b<;>intro h))<;>conv=>lhs;whnf)
  all_goals(refine congrArg (fun b=>(some ([bv b],[]):Option Res)) ?_;first|rfl|(simp_all [aF];done)|(simp_all [aF]<;>(intros;omega)))
 ·rw[hr]at hR
  rcases pH hr with hs|hs
  ·refine hE.run rfl rfl fun W hW=>?_
   conv=>lhs;whnf
   repeat'((first|apply hW.t|apply hW.f|(apply hW.q;exact rqc)|apply hW.w (hR)|apply hW.w (rT hE (fun _ _=>rfl) d d.r.slot hs)|apply hW.w (hC)|(apply hW.b<;>intro h))<;>conv=>lhs;whnf)
   all_goals(refine congrArg (fun b=>(some ([bv b],[]):Option Res)) ?_;first|rfl|(simp_all [aF];done)|(simp_all [aF]<;>(intros;omega)))
  ·refine hE.run rfl rfl fun W hW=>?_
   conv=>lhs;whnf
   repeat'((first|apply hW.t|apply hW.f|(apply hW.q;exact rqc)|apply hW.w (hR)|apply hW.w (rU hE d d.r.slot (by omega))|apply hW.w (hC)|(apply hW.b<;>intro h))<;>conv=>lhs;whnf)
   all_goals(refine congrArg (fun b=>(some ([bv b],[]):Option Res)) ?_;first|rfl|(simp_all [aF];done)|(simp_all [aF]<;>(intros;omega)))
theorem xH {E:Env} (hE:Sys E) {o:Bool} (d:Disk) (hd:d.lim 8388608):E 177 [gv (d.cs aL o)]=some ([bv (fZ d)],[]):=by
 obtain⟨h1,h2,h3,h4⟩:=hd
 have hA:d.p.length≤1099511627776:=Nat.le_trans h3 (by decide)
 unfold fZ
 have hR:=lD hE d.r
 have key:∀ (W:Wd Res) (X:Option Res) (q:Bool),X=some ([bv q],[])→decide ((d.a.length:Int)≤240)=true→decide ((d.b.length:Int)≤240)=true→decide (d.r.len≤((if d.r.slot=1 then d.b else d.a).length:Int))=true→decide ((d.p.length:Int)≤200)=true →
  X=some ([bv (decide ((d.a.length:Int)≤240)&&(decide ((d.b.length:Int)≤240)&&(true&&(decide (d.r.len≤((if d.r.slot=1 then d.b else d.a).length:Int))&&(decide ((d.p.length:Int)≤200)&&q)))))],[]):=by
  intro W X q h h1 h2 h3 h4
  rw[h1,h2,h3,h4];exact h
 cases hr:hU d.r
 ·rw[hr]at hR
  refine hE.run rfl rfl fun W hW=>?_
  conv=>lhs;whnf
  repeat'((first|apply hW.t|apply hW.f|(apply hW.q;exact rqc)|apply hW.w (hR)|(apply hW.b<;>intro h))<;>conv=>lhs;whnf)
  all_goals(refine congrArg (fun b=>(some ([bv b],[]):Option Res)) ?_;first|rfl|(simp_all [aF];done)|(simp_all [aF]<;>(intros;omega)))
 ·rw[hr]at hR
  rcases pH hr with hs|hs
  ·refine hE.run rfl rfl fun W hW=>?_
   conv=>lhs;whnf
   repeat'((first|apply hW.t|apply hW.f|(apply hW.q;exact rqc)|apply hW.w (hR)|apply hW.w (mM hE d d.r.slot (by omega))|(apply hW.b<;>intro h))<;>conv=>lhs;whnf)
   all_goals(first|(refine congrArg (fun b=>(some ([bv b],[]):Option Res)) ?_;first|rfl|(simp_all [aF];done)|(simp_all [aF]<;>(intros;omega)))|skip)
   refine key W _ _ ?_ (by simp_all [aF];try omega) (by simp_all [aF];try omega) (by simp_all [aF];try omega) (by simp_all [aF];try omega)
   refine hW.loop (σ:=Nat) (γ:=Nat) (fun i s=>s.sl 3 (v1 (.t (.int .i64 i)))) (fun i n=>i=n∧n≤d.p.length) (fun n=>d.p.length-n) (fun n=>([bv ((d.p.drop n).all fQ)],[])) 0 0 ?_ ?_ ?_ ?_
   ·intro K
    conv=>lhs;whnf
    conv=>rhs;whnf
    try rfl
   ·exact⟨rfl,by omega⟩
   ·rintro kl n _ ⟨rfl,hn⟩ ih
    conv=>lhs;whnf
    apply hW.b<;>intro g1<;>conv=>lhs;whnf
    ·have g1:n<d.p.length:=by simpa using g1
     rw[List.drop_eq_getElem_cons g1,List.all_cons]
     repeat((first|apply hW.t|apply hW.f|(apply hW.q;exact rqc)|(refine hW.w (cA ?_) ?_;omega));conv=>lhs;whnf)
     apply hW.w (rS hE (o:=o) d.p[n] (h4 _ (List.getElem_mem g1)))
     conv=>lhs;whnf
     try(apply hW.q;exact rqc;conv=>lhs;whnf)
     apply hW.b<;>intro g2<;>conv=>lhs;whnf
     ·rw[jU g2];rfl
     ·rw[gR g2]
      refine ih (n+1) (n+1) _ ?_ ⟨rfl,by omega⟩ (by omega)
      intro K
      conv=>lhs;whnf
      conv=>rhs;whnf
      try rfl
      rw[show IntKind.i64.wrap ((n:Int)+1)=_ from aI (by omega)]
      try rfl
    ·have:n=d.p.length:=by simp at g1;omega
     rw[this,List.drop_length];rfl
   ·rfl
  ·refine hE.run rfl rfl fun W hW=>?_
   conv=>lhs;whnf
   repeat'((first|apply hW.t|apply hW.f|(apply hW.q;exact rqc)|apply hW.w (hR)|apply hW.w (mL hE d d.r.slot hs)|(apply hW.b<;>intro h))<;>conv=>lhs;whnf)
   all_goals(first|(refine congrArg (fun b=>(some ([bv b],[]):Option Res)) ?_;first|rfl|(simp_all [aF];done)|(simp_all [aF]<;>(intros;omega)))|skip)
   refine key W _ _ ?_ (by simp_all [aF];try omega) (by simp_all [aF];try omega) (by simp_all [aF];try omega) (by simp_all [aF];try omega)
   refine hW.loop (σ:=Nat) (γ:=Nat) (fun i s=>s.sl 3 (v1 (.t (.int .i64 i)))) (fun i n=>i=n∧n≤d.p.length) (fun n=>d.p.length-n) (fun n=>([bv ((d.p.drop n).all fQ)],[])) 0 0 ?_ ?_ ?_ ?_
   ·intro K
    conv=>lhs;whnf
    conv=>rhs;whnf
    try rfl
   ·exact⟨rfl,by omega⟩
   ·rintro kl n _ ⟨rfl,hn⟩ ih
    conv=>lhs;whnf
    apply hW.b<;>intro g1<;>conv=>lhs;whnf
    ·have g1:n<d.p.length:=by simpa using g1
     rw[List.drop_eq_getElem_cons g1,List.all_cons]
     repeat((first|apply hW.t|apply hW.f|(apply hW.q;exact rqc)|(refine hW.w (cA ?_) ?_;omega));conv=>lhs;whnf)
     apply hW.w (rS hE (o:=o) d.p[n] (h4 _ (List.getElem_mem g1)))
     conv=>lhs;whnf
     try(apply hW.q;exact rqc;conv=>lhs;whnf)
     apply hW.b<;>intro g2<;>conv=>lhs;whnf
     ·rw[jU g2];rfl
     ·rw[gR g2]
      refine ih (n+1) (n+1) _ ?_ ⟨rfl,by omega⟩ (by omega)
      intro K
      conv=>lhs;whnf
      conv=>rhs;whnf
      try rfl
      rw[show IntKind.i64.wrap ((n:Int)+1)=_ from aI (by omega)]
      try rfl
    ·have:n=d.p.length:=by simp at g1;omega
     rw[this,List.drop_length];rfl
   ·rfl
theorem aAB {E:Env} (hE:Sys E) {o:Bool} (d:Disk) (hd:d.lim 1048576):E 177 [gv (d.cs aL o)]=some ([bv (fZ d)],[]):=xH hE d (Disk.lim_mono (by decide) hd)
theorem aAC {E:Env} (hE:Sys E) {o:Bool} (d:Disk) (hd:d.lim 1048576):E 191 [gv (d.cs aL o)]=some ([bv (fZ d)],[]):=xG hE d (Disk.lim_mono (by decide) hd)
def lX (a b:Int):Int:=if bK a 0 1000000000000=true∧bK b 1 1000000000000=true then IntKind.i64.wrap ((IntKind.i64.wrap (IntKind.i64.wrap (a+b)-1)).tdiv b) else 0
theorem xI {E:Env} (hE:Sys E) (a b:Int):E 240 [iv a,iv b]=some ([iv (lX a b)],[]):=by
 have ha:=bF hE a 0 1000000000000
 have hb:=bF hE b 1 1000000000000
 unfold lX
 cases h1:bK a 0 1000000000000
 ·rw[h1]at ha
  refine hE.run rfl rfl fun W hW=>?_
  conv=>lhs;whnf
  repeat'((first|apply hW.t|apply hW.f|(apply hW.q;exact rqc)|apply hW.w (ha)|(apply hW.b<;>intro h))<;>conv=>lhs;whnf)
  all_goals(refine congrArg (fun b=>(some ([iv b],[]):Option Res)) ?_;first|rfl|(simp_all [];done)|(simp_all []<;>(intros;omega)))
 ·rw[h1]at ha
  cases h2:bK b 1 1000000000000
  ·rw[h2]at hb
   refine hE.run rfl rfl fun W hW=>?_
   conv=>lhs;whnf
   repeat'((first|apply hW.t|apply hW.f|(apply hW.q;exact rqc)|apply hW.w (ha)|apply hW.w (hb)|(apply hW.b<;>intro h))<;>conv=>lhs;whnf)
   all_goals(refine congrArg (fun b=>(some ([iv b],[]):Option Res)) ?_;first|rfl|(simp_all [];done)|(simp_all []<;>(intros;omega)))
  ·rw[h2]at hb
   have:=bP h2
   refine hE.run rfl rfl fun W hW=>?_
   conv=>lhs;whnf
   repeat'((first|apply hW.t|apply hW.f|(apply hW.q;exact rqc)|apply hW.w (ha)|apply hW.w (hb)|(apply hW.b<;>intro h))<;>conv=>lhs;whnf)
   rfl
theorem xJ {E:Env} (hE:Sys E) (a b:Int):E 253 [iv a,iv b]=some ([iv (lX a b)],[]):=by
 have ha:=bI hE a 0 1000000000000
 have hb:=bI hE b 1 1000000000000
 unfold lX
 cases h1:bK a 0 1000000000000
 ·rw[h1]at ha
  refine hE.run rfl rfl fun W hW=>?_
  conv=>lhs;whnf
  repeat'((first|apply hW.t|apply hW.f|(apply hW.q;exact rqc)|apply hW.w (ha)|(apply hW.b<;>intro h))<;>conv=>lhs;whnf)
  all_goals(refine congrArg (fun b=>(some ([iv b],[]):Option Res)) ?_;first|rfl|(simp_all [];done)|(simp_all []<;>(intros;omega)))
 ·rw[h1]at ha
  cases h2:bK b 1 1000000000000
  ·rw[h2]at hb
   refine hE.run rfl rfl fun W hW=>?_
   conv=>lhs;whnf
   repeat'((first|apply hW.t|apply hW.f|(apply hW.q;exact rqc)|apply hW.w (ha)|apply hW.w (hb)|(apply hW.b<;>intro h))<;>conv=>lhs;whnf)
   all_goals(refine congrArg (fun b=>(some ([iv b],[]):Option Res)) ?_;first|rfl|(simp_all [];done)|(simp_all []<;>(intros;omega)))
  ·rw[h2]at hb
   have:=bP h2
   refine hE.run rfl rfl fun W hW=>?_
   conv=>lhs;whnf
   repeat'((first|apply hW.t|apply hW.f|(apply hW.q;exact rqc)|apply hW.w (ha)|apply hW.w (hb)|(apply hW.b<;>intro h))<;>conv=>lhs;whnf)
   rfl
def dC (size n:Int):Bool:=bK size 2 6&&bK n 0 (IntKind.i64.wrap (size*40))
theorem pJ {E:Env} (hE:Sys E) (size n:Int):E 239 [iv size,iv n]=some ([bv (dC size n)],[]):=by
 refine hE.run rfl rfl fun W hW=>?_
 conv=>lhs;whnf
 repeat'((first|apply hW.t|apply hW.f|(apply hW.q;exact rqc)|apply hW.w (bF hE _ _ _)|(apply hW.b<;>intro h))<;>conv=>lhs;whnf)
 all_goals(refine congrArg (fun b=>(some ([bv b],[]):Option Res)) ?_;first|rfl|(simp_all [dC];done)|(simp_all [dC]<;>(intros;omega)))
theorem pK {E:Env} (hE:Sys E) (size n:Int):E 252 [iv size,iv n]=some ([bv (dC size n)],[]):=by
 have:size*40=40*size:=Int.mul_comm _ _
 unfold dC
 rw[this]
 refine hE.run rfl rfl fun W hW=>?_
 conv=>lhs;whnf
 repeat'((first|apply hW.t|apply hW.f|(apply hW.q;exact rqc)|apply hW.w (bI hE _ _ _)|(apply hW.b<;>intro h))<;>conv=>lhs;whnf)
 all_goals(refine congrArg (fun b=>(some ([bv b],[]):Option Res)) ?_;first|rfl|(simp_all [];done)|(simp_all []<;>(intros;omega)))
def bD (size n:Int):Int:=if dC size n=true then lX n size else 0
theorem eR {E:Env} (hE:Sys E) (size n:Int):E 236 [iv size,iv n]=some ([iv (bD size n)],[]):=by
 have ha:=pJ hE size n
 unfold bD
 cases h1:dC size n
 ·rw[h1]at ha
  refine hE.run rfl rfl fun W hW=>?_
  conv=>lhs;whnf
  repeat'((first|apply hW.t|apply hW.f|(apply hW.q;exact rqc)|apply hW.w (ha)|(apply hW.b<;>intro h))<;>conv=>lhs;whnf)
  all_goals(refine congrArg (fun b=>(some ([iv b],[]):Option Res)) ?_;first|rfl|(simp_all [];done)|(simp_all []<;>(intros;omega)))
 ·rw[h1]at ha
  refine hE.run rfl rfl fun W hW=>?_
  conv=>lhs;whnf
  repeat'((first|apply hW.t|apply hW.f|(apply hW.q;exact rqc)|apply hW.w (ha)|apply hW.w (xI hE n size)|(apply hW.b<;>intro h))<;>conv=>lhs;whnf)
  rfl
theorem eS {E:Env} (hE:Sys E) (size n:Int):E 249 [iv size,iv n]=some ([iv (bD size n)],[]):=by
 have ha:=pK hE size n
 unfold bD
 cases h1:dC size n
 ·rw[h1]at ha
  refine hE.run rfl rfl fun W hW=>?_
  conv=>lhs;whnf
  repeat'((first|apply hW.t|apply hW.f|(apply hW.q;exact rqc)|apply hW.w (ha)|(apply hW.b<;>intro h))<;>conv=>lhs;whnf)
  all_goals(refine congrArg (fun b=>(some ([iv b],[]):Option Res)) ?_;first|rfl|(simp_all [];done)|(simp_all []<;>(intros;omega)))
 ·rw[h1]at ha
  refine hE.run rfl rfl fun W hW=>?_
  conv=>lhs;whnf
  repeat'((first|apply hW.t|apply hW.f|(apply hW.q;exact rqc)|apply hW.w (ha)|apply hW.w (xJ hE n size)|(apply hW.b<;>intro h))<;>conv=>lhs;whnf)
  rfl
theorem uV {size n:Int} (h:dC size n=true):2≤size∧size≤6∧0≤n∧n≤size*40:=by
 simp only[dC,Bool.and_eq_true]at h
 obtain⟨h1,h2⟩:=h
 have h1:=bP h1
 rw[show IntKind.i64.wrap (size*40)=size*40 from aH (by omega)]at h2
 have h2:=bP h2
 omega
theorem qL {size n:Int} (h:dC size n=true):bD size n=(n+size-1)/size∧0≤bD size n∧bD size n≤40:=by
 obtain⟨h1,h2,h3,h4⟩:=uV h
 have e:bD size n=(n+size-1)/size:=by
  unfold bD lX
  rw[if_pos h,if_pos ⟨by simp[bK];omega,by simp[bK];omega⟩]
  rw[show IntKind.i64.wrap (n+size)=n+size from aH (by omega),show IntKind.i64.wrap (n+size-1)=n+size-1 from aH (by omega),Int.tdiv_eq_ediv_of_nonneg (by omega)]
  apply aH
  obtain h5|h5|h5|h5|h5:size=2∨size=3∨size=4∨size=5∨size=6:=by omega
  all_goals(subst h5;omega)
 rw[e]
 refine⟨rfl,?_⟩
 obtain h5|h5|h5|h5|h5:size=2∨size=3∨size=4∨size=5∨size=6:=by omega
 all_goals(subst h5;omega)
def uW (a b:Int):Int:=if b<a then b else a
theorem aBZ {E:Env} (hE:Sys E) (a b:Int):E 242 [iv a,iv b]=some ([iv (uW a b)],[]):=by
 refine hE.run rfl rfl fun W hW=>?_
 conv=>lhs;whnf
 repeat'((first|apply hW.t|apply hW.f|(apply hW.q;exact rqc)|(apply hW.b<;>intro h))<;>conv=>lhs;whnf)
 all_goals(refine congrArg (fun b=>(some ([iv b],[]):Option Res)) ?_;first|rfl|(simp_all [uW];done)|(simp_all [uW]<;>(intros;omega)))
def bE (size n i:Int):Int:=if bK i 0 (IntKind.i64.wrap (bD size n-1))=true then IntKind.i64.wrap (i*size) else 0
def aS (size n i:Int):Int:=if bK i 0 (IntKind.i64.wrap (bD size n-1))=true then uW size (IntKind.i64.wrap (n-IntKind.i64.wrap (i*size))) else 0
theorem dD {E:Env} (hE:Sys E) (size n i:Int):E 241 [iv size,iv n,iv i]=some ([iv (bE size n i),iv (aS size n i)],[]):=by
 have hb:=bF hE i 0 (IntKind.i64.wrap (bD size n-1))
 unfold bE aS
 cases h2:bK i 0 (IntKind.i64.wrap (bD size n-1))
 ·rw[h2]at hb
  refine hE.run rfl rfl fun W hW=>?_
  conv=>lhs;whnf
  repeat'((first|apply hW.t|apply hW.f|(apply hW.q;exact rqc)|apply hW.w (eR hE size n)|apply hW.w (hb)|(apply hW.b<;>intro h))<;>conv=>lhs;whnf)
  rfl
 ·rw[h2]at hb
  refine hE.run rfl rfl fun W hW=>?_
  conv=>lhs;whnf
  repeat'((first|apply hW.t|apply hW.f|(apply hW.q;exact rqc)|apply hW.w (eR hE size n)|apply hW.w (hb)|apply hW.w (aBZ hE _ _)|(apply hW.b<;>intro h))<;>conv=>lhs;whnf)
  rfl
theorem eT {E:Env} (hE:Sys E) (size n i:Int):E 254 [iv size,iv n,iv i]=some ([iv (bE size n i),iv (aS size n i)],[]):=by
 have hb:=bI hE i 0 (IntKind.i64.wrap (bD size n-1))
 unfold bE aS
 cases h2:bK i 0 (IntKind.i64.wrap (bD size n-1))
 ·rw[h2]at hb
  refine hE.run rfl rfl fun W hW=>?_
  conv=>lhs;whnf
  repeat'((first|apply hW.t|apply hW.f|(apply hW.q;exact rqc)|apply hW.w (eS hE size n)|apply hW.w (hb)|(apply hW.b<;>intro h))<;>conv=>lhs;whnf)
  rfl
 ·rw[h2]at hb
  refine hE.run rfl rfl fun W hW=>?_
  conv=>lhs;whnf
  repeat'((first|apply hW.t|apply hW.f|(apply hW.q;exact rqc)|apply hW.w (eS hE size n)|apply hW.w (hb)|(apply hW.b<;>intro h))<;>conv=>lhs;whnf)
  rw[show ∀ b,uW size b=min size b from fun b=>by unfold uW;omega]
  rfl
def wx (x:Int) (c:UInt8):Int:=(IntKind.i64.wrap (x+IntKind.i64.wrap (c.toNat:Int))).tmod 251
def wy (y x:Int):Int:=(IntKind.i64.wrap (y+x)).tmod 251
def jV:aE→Int→Int→Int × Int
 |[],x,y=>(x,y)
 |c::r,x,y=>jV r (wx x c) (wy y (wx x c))
def aX (b:aE):Int:=IntKind.i64.wrap ((jV b 0 0).1+IntKind.i64.wrap (251*(jV b 0 0).2))
theorem aLt {x:Int} {c:UInt8} (h:0≤x∧x<251):0≤wx x c∧wx x c<251:=by
 have:=UInt8.toNat_lt c
 unfold wx
 rw[show IntKind.i64.wrap (c.toNat:Int)=c.toNat from aH (by omega),show IntKind.i64.wrap (x+c.toNat)=x+c.toNat from aH (by omega)]
 rw[Int.tmod_eq_emod_of_nonneg (by omega)]
 omega
theorem aMB {x y:Int} (h:0≤x∧x<251) (h':0≤y∧y<251):0≤wy y x∧wy y x<251:=by
 unfold wy
 rw[show IntKind.i64.wrap (y+x)=y+x from aH (by omega)]
 rw[Int.tmod_eq_emod_of_nonneg (by omega)]
 omega
theorem aJi {b:aE}:∀ {x y:Int},(0≤x∧x<251)→(0≤y∧y<251)→(0≤(jV b x y).1∧(jV b x y).1<251)∧(0≤(jV b x y).2∧(jV b x y).2<251):=by
 induction b with
 |nil=>intro x y h h';exact⟨h,h'⟩
 |cons c r ih=>intro x y h h';exact ih (aLt h) (aMB (aLt h) h')
theorem dE {E:Env} (hE:Sys E) (b:aE) (h0:b.length≤1099511627776):E 243 [sv (bys b)]=some ([iv (aX b)],[]):=by
 refine hE.run rfl rfl fun W hW=>?_
 conv=>lhs;whnf
 refine hW.loop (σ:=Nat × Int × Int) (γ:=Nat) (fun i s=>((s.sl 5 (v1 (.t (.int .i64 i.1)))).sl 3 (v1 (.t (.int .i64 i.2.1)))).sl 4 (v1 (.t (.int .i64 i.2.2)))) (fun i n=>i.1=n∧n≤b.length∧jV (b.drop n) i.2.1 i.2.2=jV b 0 0) (fun n=>b.length-n) (fun _=>([iv (aX b)],[])) (0,0,0) 0 ?_ ?_ ?_ ?_
 ·intro K
  conv=>lhs;whnf
  conv=>rhs;whnf
  try rfl
 ·exact⟨rfl,by omega,rfl⟩
 ·rintro kl ⟨n,x,y⟩ _ ⟨rfl,hn,hs⟩ ih
  simp only at hs hn
  conv=>lhs;whnf
  apply hW.b<;>intro h2<;>conv=>lhs;whnf
  ·have h2:n<b.length:=by simpa[aF] using h2
   rw[List.drop_eq_getElem_cons h2,jV]at hs
   repeat((first|apply hW.t|apply hW.f|(apply hW.q;exact rqc)|(refine hW.w (cA ?_) ?_;omega));conv=>lhs;whnf)
   refine ih (n+1,wx x b[n],wy y (wx x b[n])) (n+1) _ ?_ ⟨rfl,by omega,hs⟩ (by omega)
   intro K
   conv=>lhs;whnf
   conv=>rhs;whnf
   try rfl
   rw[show IntKind.i64.wrap ((n:Int)+1)=_ from aI (by omega)]
   try rfl
  ·have:n=b.length:=by simp[aF]at h2;omega
   subst this
   rw[List.drop_length]at hs
   unfold aX
   rw[← hs];rfl
 ·rfl
def aB0 (n m:Int):Int:=if bK m 1 1000000000000=true then(IntKind.i64.wrap (n.tmod m+m)).tmod m else 0
theorem aC1 {E:Env} (hE:Sys E) (n m:Int):E 268 [iv n,iv m]=some ([iv (aB0 n m)],[]):=by
 have ha:=bF hE m 1 1000000000000
 unfold aB0
 cases h1:bK m 1 1000000000000
 ·rw[h1]at ha
  refine hE.run rfl rfl fun W hW=>?_
  conv=>lhs;whnf
  repeat'((first|apply hW.t|apply hW.f|(apply hW.q;exact rqc)|apply hW.w (ha)|(apply hW.b<;>intro h))<;>conv=>lhs;whnf)
  all_goals(refine congrArg (fun b=>(some ([iv b],[]):Option Res)) ?_;first|rfl|(simp_all [];done)|(simp_all []<;>(intros;omega)))
 ·rw[h1]at ha
  have:=bP h1
  refine hE.run rfl rfl fun W hW=>?_
  conv=>lhs;whnf
  repeat'((first|apply hW.t|apply hW.f|(apply hW.q;exact rqc)|apply hW.w (ha)|(apply hW.b<;>intro h))<;>conv=>lhs;whnf)
  rfl
theorem uX {E:Env} (hE:Sys E) (n m:Int):E 258 [iv n,iv m]=some ([iv (aB0 n m)],[]):=by
 have ha:=bI hE m 1 1000000000000
 unfold aB0
 cases h1:bK m 1 1000000000000
 ·rw[h1]at ha
  refine hE.run rfl rfl fun W hW=>?_
  conv=>lhs;whnf
  repeat'((first|apply hW.t|apply hW.f|(apply hW.q;exact rqc)|apply hW.w (ha)|(apply hW.b<;>intro h))<;>conv=>lhs;whnf)
  all_goals(refine congrArg (fun b=>(some ([iv b],[]):Option Res)) ?_;first|rfl|(simp_all [];done)|(simp_all []<;>(intros;omega)))
 ·rw[h1]at ha
  have:=bP h1
  refine hE.run rfl rfl fun W hW=>?_
  conv=>lhs;whnf
  repeat'((first|apply hW.t|apply hW.f|(apply hW.q;exact rqc)|apply hW.w (ha)|(apply hW.b<;>intro h))<;>conv=>lhs;whnf)
  rfl
theorem aD8 {n:Int} (h:0≤n∧n<251):aB0 n 251=n:=by
 unfold aB0
 have e:n.tmod 251=n:=by rw[Int.tmod_eq_emod_of_nonneg (by omega)];omega
 rw[if_pos (by decide),e,show IntKind.i64.wrap (n+251)=n+251 from aH (by omega),Int.tmod_eq_emod_of_nonneg (by omega)]
 omega
theorem aC2 {E:Env} (hE:Sys E) (x y:Int) (hx:0≤x∧x<251) (hy:0≤y∧y<251):E 257 [iv x,iv y]=some ([iv (IntKind.i64.wrap (x+IntKind.i64.wrap (251*y)))],[]):=by
 have h1:=uX hE x 251
 have h2:=uX hE y 251
 rw[aD8 hx]at h1
 rw[aD8 hy]at h2
 refine hE.run rfl rfl fun W hW=>?_
 conv=>lhs;whnf
 apply hW.w (h1)
 conv=>lhs;whnf
 repeat((first|apply hW.t|apply hW.f|(apply hW.q;exact rqc));conv=>lhs;whnf)
 apply hW.w (h2)
 conv=>lhs;whnf
 repeat((first|apply hW.t|apply hW.f|(apply hW.q;exact rqc));conv=>lhs;whnf)
 rfl
theorem dU {E:Env} (hE:Sys E) (b:aE) (h0:b.length≤1099511627776):E 256 [sv (bys b)]=some ([iv (aX b)],[]):=by
 have hr:=aJi (b:=b) (x:=0) (y:=0) (by omega) (by omega)
 refine hE.run rfl rfl fun W hW=>?_
 conv=>lhs;whnf
 refine hW.loop (σ:=Nat × Int × Int) (γ:=Nat) (fun i s=>((s.sl 9 (v1 (.t (.int .i64 i.1)))).sl 3 (v1 (.t (.int .i64 i.2.1)))).sl 4 (v1 (.t (.int .i64 i.2.2)))) (fun i n=>i.1=n∧n≤b.length∧jV (b.drop n) i.2.1 i.2.2=jV b 0 0) (fun n=>b.length-n) (fun _=>([iv (aX b)],[])) (0,0,0) 0 ?_ ?_ ?_ ?_
 ·intro K
  conv=>lhs;whnf
  conv=>rhs;whnf
  try rfl
 ·exact⟨rfl,by omega,rfl⟩
 ·rintro kl ⟨n,x,y⟩ _ ⟨rfl,hn,hs⟩ ih
  simp only at hs hn
  conv=>lhs;whnf
  apply hW.b<;>intro h2<;>conv=>lhs;whnf
  ·have h2:n<b.length:=by simpa[aF] using h2
   rw[List.drop_eq_getElem_cons h2,jV]at hs
   repeat((first|apply hW.t|apply hW.f|(apply hW.q;exact rqc)|(refine hW.w (cA ?_) ?_;omega));conv=>lhs;whnf)
   refine ih (n+1,wx x b[n],wy y (wx x b[n])) (n+1) _ ?_ ⟨rfl,by omega,hs⟩ (by omega)
   intro K
   conv=>lhs;whnf
   conv=>rhs;whnf
   try rfl
   rw[show IntKind.i64.wrap ((n:Int)+1)=_ from aI (by omega)]
   try rfl
  ·have:n=b.length:=by simp[aF]at h2;omega
   subst this
   rw[List.drop_length,jV]at hs
   rw[← hs]at hr
   apply hW.w (aC2 hE x y hr.1 hr.2)
   conv=>lhs;whnf
   repeat((first|apply hW.t|apply hW.f|(apply hW.q;exact rqc));conv=>lhs;whnf)
   unfold aX
   rw[← hs];rfl
 ·rfl
def mN:aE→Nat→Nat
 |[],s=>s
 |c::r,s=>mN r (256*s+c.toNat)
def bG (b:aE):Sum:=if(b.length:Int)>6 then⟨0,0⟩ else⟨aX b,mN b 1⟩
theorem aMC {s:Nat} {c:UInt8} (h:s≤562949953421312):wor (IntKind.i64.wrap ((s:Int)*2 ^ (min (8:Int).toNat IntKind.i64.bits))) (IntKind.i64.wrap (c.toNat:Int))=((256*s+c.toNat:Nat):Int):=by
 have hc:=UInt8.toNat_lt c
 rw[show((s:Int)*2 ^ (min (8:Int).toNat IntKind.i64.bits))=((256*s:Nat):Int) from by
  rw[show min (8:Int).toNat IntKind.i64.bits=8 from by decide];push_cast;omega]
 rw[show IntKind.i64.wrap ((256*s:Nat):Int)=((256*s:Nat):Int) from aH (by omega),show IntKind.i64.wrap (c.toNat:Int)=c.toNat from aH (by omega)]
 unfold wor
 have e:(BitVec.ofInt IntKind.i64.bits ((256*s:Nat):Int) ||| BitVec.ofInt IntKind.i64.bits (c.toNat:Int)).toNat=256*s+c.toNat:=by
  rw[BitVec.toNat_or,BitVec.ofInt_natCast,BitVec.ofInt_natCast,BitVec.toNat_ofNat,BitVec.toNat_ofNat]
  rw[Nat.mod_eq_of_lt (show 256*s<2 ^ IntKind.i64.bits from by simp only[IntKind.bits];omega),Nat.mod_eq_of_lt (show c.toNat<2 ^ IntKind.i64.bits from by simp only[IntKind.bits];omega)]
  rw[show 256*s=2 ^ 8*s from rfl,Nat.two_pow_add_eq_or_of_lt (by omega)]
 rw[e]
 exact aH (by omega)
theorem aLu {b:aE}:∀ {s:Nat},s≤mN b s:=by
 induction b with
 |nil=>intro s;exact Nat.le_refl _
 |cons c r ih=>intro s;have:=ih (s:=256*s+c.toNat);simp only[mN];omega
theorem aC3 {b:aE}:∀ {s:Nat},mN b s<(s+1)*256 ^ b.length:=by
 induction b with
 |nil=>intro s;simp[mN]
 |cons c r ih =>
  intro s
  have:=ih (s:=256*s+c.toNat)
  have hc:=UInt8.toNat_lt c
  simp only[mN,List.length_cons,Nat.pow_succ]
  have h2:(256*s+c.toNat+1)*256 ^ r.length≤((s+1)*256)*256 ^ r.length:=Nat.mul_le_mul_right _ (by omega)
  have h3:(s+1)*(256 ^ r.length*256)=(s+1)*256*256 ^ r.length:=by rw[Nat.mul_comm (256 ^ r.length) 256,Nat.mul_assoc]
  omega
theorem aMD {b:aE} (h:b.length≤6):mN b 1≤562949953421312:=by
 have h1:=aC3 (b:=b) (s:=1)
 have h2:256 ^ b.length≤256 ^ 6:=Nat.pow_le_pow_right (by decide) h
 have h3:(1+1)*256 ^ b.length≤(1+1)*256 ^ 6:=Nat.mul_le_mul_left _ h2
 have h4:(1+1)*256 ^ 6=562949953421312:=by decide
 omega
theorem aB1 {b:aE} {n:Nat} (h:b.length≤6) {s:Nat} (hs:mN (b.drop n) s=mN b 1):s≤562949953421312:=by
 have h1:=aLu (b:=b.drop n) (s:=s)
 have h2:=aMD h
 omega
theorem dO {E:Env} (hE:Sys E) (b:aE) (h0:b.length≤1099511627776):E 238 [sv (bys b)]=some ([gv (bG b).cs],[]):=by
 unfold bG
 refine hE.run rfl rfl fun W hW=>?_
 conv=>lhs;whnf
 rw[aY]
 apply hW.b<;>intro g<;>conv=>lhs;whnf
 ·rw[if_pos (by simpa using g)]
  repeat((first|apply hW.t|apply hW.f|(apply hW.q;exact rqc));conv=>lhs;whnf)
  rfl
 ·rw[if_neg (by simpa using g)]
  have g:b.length≤6:=by simp at g;omega
  refine hW.loop (σ:=Nat × Nat) (γ:=Nat) (fun i s=>(s.sl 4 (v1 (.t (.int .i64 i.1)))).sl 3 (v1 (.t (.int .i64 i.2)))) (fun i n=>i.1=n∧n≤b.length∧mN (b.drop n) i.2=mN b 1) (fun n=>b.length-n) (fun _=>([gv (Sum.cs ⟨aX b,mN b 1⟩)],[])) (0,1) 0 ?_ ?_ ?_ ?_
  ·intro K
   conv=>lhs;whnf
   conv=>rhs;whnf
   try rfl
  ·exact⟨rfl,by omega,rfl⟩
  ·rintro kl ⟨n,x⟩ _ ⟨rfl,hn,hs⟩ ih
   simp only at hs hn
   conv=>lhs;whnf
   apply hW.b<;>intro h2<;>conv=>lhs;whnf
   ·have h2:n<b.length:=by simpa[aF] using h2
    have hx:=aB1 g hs
    have hc:=UInt8.toNat_lt b[n]
    rw[List.drop_eq_getElem_cons h2,mN]at hs
    repeat((first|apply hW.t|apply hW.f|(apply hW.q;exact rqc)|(refine hW.w (cA ?_) ?_;omega));conv=>lhs;whnf)
    refine ih (n+1,256*x+b[n].toNat) (n+1) _ ?_ ⟨rfl,by omega,hs⟩ (by omega)
    intro K
    conv=>lhs;whnf
    conv=>rhs;whnf
    try rfl
    rw[show IntKind.i64.wrap ((n:Int)+1)=_ from aI (by omega),show IntKind.i64.wrap (256*(x:Int))=256*(x:Int) from aH (by omega),show IntKind.i64.wrap (b[n].toNat:Int)=b[n].toNat from aH (by omega),show IntKind.i64.wrap (256*(x:Int)+b[n].toNat)=((256*x+b[n].toNat:Nat):Int) from(aH (n:=256*(x:Int)+b[n].toNat) (by omega)).trans (by push_cast;rfl)]
    try rfl
   ·have:n=b.length:=by simp[aF]at h2;omega
    subst this
    rw[List.drop_length,mN]at hs
    apply hW.w (dE hE b h0)
    conv=>lhs;whnf
    repeat((first|apply hW.t|apply hW.f|(apply hW.q;exact rqc));conv=>lhs;whnf)
    rw[← hs];rfl
  ·rfl
theorem fR {E:Env} (hE:Sys E) (b:aE) (h0:b.length≤1099511627776):E 251 [sv (bys b)]=some ([gv (bG b).cs],[]):=by
 unfold bG
 refine hE.run rfl rfl fun W hW=>?_
 conv=>lhs;whnf
 rw[aY]
 apply hW.b<;>intro g<;>conv=>lhs;whnf
 ·rw[if_pos (by simpa using g)]
  repeat((first|apply hW.t|apply hW.f|(apply hW.q;exact rqc));conv=>lhs;whnf)
  rfl
 ·rw[if_neg (by simpa using g)]
  have g:b.length≤6:=by simp at g;omega
  refine hW.loop (σ:=Nat × Nat) (γ:=Nat) (fun i s=>(s.sl 12 (v1 (.t (.int .i64 i.1)))).sl 3 (v1 (.t (.int .i64 i.2)))) (fun i n=>i.1=n∧n≤b.length∧mN (b.drop n) i.2=mN b 1) (fun n=>b.length-n) (fun _=>([gv (Sum.cs ⟨aX b,mN b 1⟩)],[])) (0,1) 0 ?_ ?_ ?_ ?_
  ·intro K
   conv=>lhs;whnf
   conv=>rhs;whnf
   try rfl
  ·exact⟨rfl,by omega,rfl⟩
  ·rintro kl ⟨n,x⟩ _ ⟨rfl,hn,hs⟩ ih
   simp only at hs hn
   conv=>lhs;whnf
   apply hW.b<;>intro h2<;>conv=>lhs;whnf
   ·have h2:n<b.length:=by simpa[aF] using h2
    have hx:=aB1 g hs
    rw[List.drop_eq_getElem_cons h2,mN]at hs
    repeat((first|apply hW.t|apply hW.f|(apply hW.q;exact rqc)|(refine hW.w (cA ?_) ?_;omega));conv=>lhs;whnf)
    refine ih (n+1,256*x+b[n].toNat) (n+1) _ ?_ ⟨rfl,by omega,hs⟩ (by omega)
    intro K
    conv=>lhs;whnf
    conv=>rhs;whnf
    try rfl
    rw[show IntKind.i64.wrap ((n:Int)+1)=_ from aI (by omega),← aMC hx]
    try rfl
   ·have:n=b.length:=by simp[aF]at h2;omega
    subst this
    rw[List.drop_length,mN]at hs
    apply hW.w (dU hE b h0)
    conv=>lhs;whnf
    repeat((first|apply hW.t|apply hW.f|(apply hW.q;exact rqc));conv=>lhs;whnf)
    rw[← hs];rfl
  ·rfl
theorem jH {size n i:Int}:(aS size n i=0∧bE size n i=0)∨(0≤bE size n i∧1≤aS size n i∧aS size n i≤6∧bE size n i+aS size n i≤n∧n≤240):=by
 unfold aS bE
 by_cases h:bK i 0 (IntKind.i64.wrap (bD size n-1))=true
 ·right
  rw[if_pos h,if_pos h]
  have h1:=bP h
  by_cases hs:dC size n=true
  ·obtain⟨e1,e2,e3⟩:=qL hs
   obtain⟨s1,s2,s3,s4⟩:=uV hs
   rw[show IntKind.i64.wrap (bD size n-1)=bD size n-1 from aH (by omega)]at h1
   rw[e1]at h1
   obtain h5|h5|h5|h5|h5:size=2∨size=3∨size=4∨size=5∨size=6:=by omega
   all_goals
    subst h5
    have h6:0≤i∧i≤120:=by omega
    rw[show IntKind.i64.wrap (i*_)=i*_ from aH (by omega)]
    rw[show IntKind.i64.wrap (n-i*_)=n-i*_ from aH (by omega)]
    unfold uW
    split<;>omega
  ·have:bD size n=0:=by unfold bD;rw[if_neg hs]
   rw[this,show IntKind.i64.wrap ((0:Int)-1) = -1 from by decide]at h1
   omega
 ·left
  rw[if_neg h,if_neg h];exact⟨rfl,rfl⟩
def mO (b:aE) (size i:Int):aE:=(b.drop (bE size b.length i).toNat).take (aS size b.length i).toNat
def aD9 (b:aE) (size i:Int):Bool := !decide (aS size b.length i=0)
theorem eU (b:aE) (l n:Nat):((bys b).drop l).take n=bys ((b.drop l).take n):=by rw[aIX,aIY]
theorem rV {E:Env} (hE:Sys E) (b:aE) (at_ n:Int) (h0:b.length≤1048576) (h1:0≤at_) (h2:0≤n) (h3:at_+n≤b.length):E 255 [sv (bys b),iv at_,iv n]=some ([ov 1 (bys ((b.drop at_.toNat).take n.toNat)),bv true],[]):=by
 have ha:=bI hE at_ 0 b.length
 have hb:=bI hE n 0 (b.length-at_)
 rw[show bK at_ 0 b.length=true from by simp[bK];omega]at ha
 rw[show bK n 0 (b.length-at_)=true from by simp[bK];omega]at hb
 refine hE.run rfl rfl fun W hW=>?_
 conv=>lhs;whnf
 rw[aY]
 apply hW.w (ha)
 conv=>lhs;whnf
 repeat((first|apply hW.t|apply hW.f|(apply hW.q;exact rqc));conv=>lhs;whnf)
 rw[aY]
 rw[show IntKind.i64.wrap ((b.length:Int)-at_)=b.length-at_ from aH (by omega)]
 apply hW.w (hb)
 conv=>lhs;whnf
 repeat((first|apply hW.t|apply hW.f|(apply hW.q;exact rqc));conv=>lhs;whnf)
 rw[show IntKind.i64.wrap (at_+n)=at_+n from aH (by omega)]
 repeat((first|apply hW.t|apply hW.f|(apply hW.q;exact rqc));conv=>lhs;whnf)
 refine hW.q (by exact⟨by omega,by rw[aF];omega,bA b⟩) ?_
 conv=>lhs;whnf
 rw[eU]
 apply hW.w (cF hE _ (by simp;omega))
 conv=>lhs;whnf
 repeat((first|apply hW.t|apply hW.f|(apply hW.q;exact rqc));conv=>lhs;whnf)
 rw[show(at_+n).toNat-at_.toNat=n.toNat from by omega]
 rfl
theorem xK {E:Env} (hE:Sys E) (b:aE) (size i:Int) (h0:b.length≤1048576):E 237 [sv (bys b),iv size,iv i]=some ([ov 1 (bys (mO b size i)),bv (aD9 b size i)],[]):=by
 unfold mO aD9
 refine hE.run rfl rfl fun W hW=>?_
 conv=>lhs;whnf
 rw[aY]
 apply hW.w (dD hE size b.length i)
 conv=>lhs;whnf
 repeat((first|apply hW.t|apply hW.f|(apply hW.q;exact rqc));conv=>lhs;whnf)
 have hs:=jH (size:=size) (n:=b.length) (i:=i)
 generalize bE size b.length i=at_ at hs ⊢
 generalize aS size b.length i=n at hs ⊢
 apply hW.b<;>intro g<;>conv=>lhs;whnf
 ·have g:n=0:=by simpa using g
  subst g
  repeat((first|apply hW.t|apply hW.f|(apply hW.q;exact rqc));conv=>lhs;whnf)
  rfl
 ·have g:n≠0:=by simpa using g
  repeat((first|apply hW.t|apply hW.f|(apply hW.q;exact rqc));conv=>lhs;whnf)
  rw[show IntKind.i64.wrap (at_+n)=at_+n from aH (by omega)]
  repeat((first|apply hW.t|apply hW.f|(apply hW.q;exact rqc));conv=>lhs;whnf)
  refine hW.q (by exact⟨by omega,by rw[aF];omega,bA b⟩) ?_
  conv=>lhs;whnf
  rw[eU]
  refine hW.q (by exact⟨by decide,bA _,by rw[aF];simp;omega,by rw[aF];simp;omega⟩) ?_
  conv=>lhs;whnf
  apply hW.bt (cW _)
  conv=>lhs;whnf
  repeat((first|apply hW.t|apply hW.f|(apply hW.q;exact rqc));conv=>lhs;whnf)
  rw[show(at_+n).toNat-at_.toNat=n.toNat from by omega,decide_eq_false g]
  rfl
theorem xL {E:Env} (hE:Sys E) (b:aE) (size i:Int) (h0:b.length≤1048576):E 250 [sv (bys b),iv size,iv i]=some ([ov 1 (bys (mO b size i)),bv (aD9 b size i)],[]):=by
 unfold mO aD9
 refine hE.run rfl rfl fun W hW=>?_
 conv=>lhs;whnf
 rw[aY]
 apply hW.w (eT hE size b.length i)
 conv=>lhs;whnf
 repeat((first|apply hW.t|apply hW.f|(apply hW.q;exact rqc));conv=>lhs;whnf)
 have hs:=jH (size:=size) (n:=b.length) (i:=i)
 generalize bE size b.length i=at_ at hs ⊢
 generalize aS size b.length i=n at hs ⊢
 apply hW.b<;>intro g<;>conv=>lhs;whnf
 ·have g:n=0:=by simpa using g
  subst g
  repeat((first|apply hW.t|apply hW.f|(apply hW.q;exact rqc));conv=>lhs;whnf)
  rfl
 ·have g:n≠0:=by simpa using g
  repeat((first|apply hW.t|apply hW.f|(apply hW.q;exact rqc));conv=>lhs;whnf)
  apply hW.w (rV hE b at_ n h0 (by omega) (by omega) (by omega))
  conv=>lhs;whnf
  repeat((first|apply hW.t|apply hW.f|(apply hW.q;exact rqc));conv=>lhs;whnf)
  rw[decide_eq_false g]
  rfl
def aEa (b:aE) (size:Int):Nat:=(bD size b.length).toNat
def aB2 (b:aE) (size:Int) (n:Nat):List Sum:=(List.range n).map fun i:Nat=>bG (mO b size (i:Int))
def jI (b:aE) (size:Int):List Sum:=aB2 b size (aEa b size)
theorem iP (size n:Int):0≤bD size n∧bD size n≤40:=by
 by_cases h:dC size n=true
 ·exact(qL h).2
 ·unfold bD;rw[if_neg h];omega
theorem lG (b:aE) (size:Int) (n:Nat):(aB2 b size n).length=n:=by simp[aB2]
theorem zN (b:aE) (size:Int) (n:Nat):(aB2 b size n).map Sum.row++[Sum.row (bG (mO b size n))]=(aB2 b size (n+1)).map Sum.row:=by
 simp[aB2,List.range_succ]
theorem uY (b:aE) (size:Int):(jI b size).length≤40:=by
 have:=iP size b.length
 unfold jI aEa
 rw[lG];omega
theorem lY (b:aE) (size i:Int):(mO b size i).length≤b.length:=by
 unfold mO;simp;omega
theorem aAD {E:Env} (hE:Sys E) (b:aE) (size:Int) (h0:b.length≤1048576):E 234 [sv (bys b),iv size]=some ([ov 2 ((jI b size).map Sum.row)],[]):=by
 have hb:=iP size b.length
 have hk:((aEa b size:Nat):Int)=bD size b.length:=by unfold aEa;omega
 refine hE.run rfl rfl fun W hW=>?_
 conv=>lhs;whnf
 refine hW.loop (σ:=Nat) (γ:=Nat) (fun i s=>(s.sl 6 (v1 (.t (.int .i64 i)))).bl ⟨50500,2, .own,(aB2 b size i).map Sum.row⟩) (fun i n=>i=n∧n≤aEa b size) (fun n=>aEa b size-n) (fun _=>([ov 2 ((jI b size).map Sum.row)],[])) 0 0 ?_ ?_ ?_ ?_
 ·intro K
  conv=>lhs;whnf
  conv=>rhs;whnf
  try rfl
 ·exact⟨rfl,by omega⟩
 ·rintro kl n _ ⟨rfl,hn⟩ ih
  conv=>lhs;whnf
  rw[aY]
  apply hW.w (eR hE size b.length)
  conv=>lhs;whnf
  try(apply hW.q;exact rqc;conv=>lhs;whnf)
  apply hW.b<;>intro g1<;>conv=>lhs;whnf
  ·have g1:(n:Int)<bD size b.length:=by simpa using g1
   repeat((first|apply hW.t|apply hW.f|(apply hW.q;exact rqc));conv=>lhs;whnf)
   apply hW.w (xK hE b size n h0)
   conv=>lhs;whnf
   repeat((first|apply hW.t|apply hW.f|(apply hW.q;exact rqc));conv=>lhs;whnf)
   apply hW.w (dO hE (mO b size n) (Nat.le_trans (lY b size n) (by omega)))
   conv=>lhs;whnf
   repeat((first|apply hW.t|apply hW.f|(apply hW.q;exact rqc));conv=>lhs;whnf)
   refine hW.q (by exact⟨by decide,by intro e he;simp at he;subst he;rfl,by simp[lG];omega,by simp[lG];omega⟩) ?_
   conv=>lhs;whnf
   repeat((first|apply hW.t|apply hW.f|(apply hW.q;exact rqc));conv=>lhs;whnf)
   refine ih (n+1) (n+1) _ ?_ ⟨rfl,by omega⟩ (by omega)
   intro K
   conv=>lhs;whnf
   conv=>rhs;whnf
   try rfl
   rw[show IntKind.i64.wrap ((n:Int)+1)=_ from aI (by omega)]
   rw[← zN]
   rfl
  ·have g1:¬ (n:Int)<bD size b.length:=by simpa using g1
   have:n=aEa b size:=by omega
   subst this
   repeat((first|apply hW.t|apply hW.f|(apply hW.q;exact rqc));conv=>lhs;whnf)
   rfl
 ·rfl
theorem aAE {E:Env} (hE:Sys E) (b:aE) (size:Int) (h0:b.length≤1048576):E 247 [sv (bys b),iv size]=some ([ov 2 ((jI b size).map Sum.row)],[]):=by
 have hb:=iP size b.length
 have hk:((aEa b size:Nat):Int)=bD size b.length:=by unfold aEa;omega
 refine hE.run rfl rfl fun W hW=>?_
 conv=>lhs;whnf
 rw[aY]
 apply hW.w (eS hE size b.length)
 conv=>lhs;whnf
 repeat((first|apply hW.t|apply hW.f|(apply hW.q;exact rqc));conv=>lhs;whnf)
 rw[← hk]
 refine hW.loop (σ:=Nat) (γ:=Nat) (fun i s=>(s.sl 14 (v1 (.t (.int .i64 i)))).bl ⟨50500,2, .own,(aB2 b size i).map Sum.row⟩) (fun i n=>i=n∧n≤aEa b size) (fun n=>aEa b size-n) (fun _=>([ov 2 ((jI b size).map Sum.row)],[])) 0 0 ?_ ?_ ?_ ?_
 ·intro K
  conv=>lhs;whnf
  conv=>rhs;whnf
  try rfl
 ·exact⟨rfl,by omega⟩
 ·rintro kl n _ ⟨rfl,hn⟩ ih
  conv=>lhs;whnf
  apply hW.b<;>intro g1<;>conv=>lhs;whnf
  ·have g1:n<aEa b size:=by simpa using g1
   repeat((first|apply hW.t|apply hW.f|(apply hW.q;exact rqc));conv=>lhs;whnf)
   apply hW.w (xL hE b size n h0)
   conv=>lhs;whnf
   repeat((first|apply hW.t|apply hW.f|(apply hW.q;exact rqc));conv=>lhs;whnf)
   apply hW.w (fR hE (mO b size n) (Nat.le_trans (lY b size n) (by omega)))
   conv=>lhs;whnf
   repeat((first|apply hW.t|apply hW.f|(apply hW.q;exact rqc));conv=>lhs;whnf)
   refine hW.q (by exact⟨by decide,by intro e he;simp at he;subst he;rfl,by simp[lG];omega,by simp[lG];omega⟩) ?_
   conv=>lhs;whnf
   repeat((first|apply hW.t|apply hW.f|(apply hW.q;exact rqc));conv=>lhs;whnf)
   refine ih (n+1) (n+1) _ ?_ ⟨rfl,by omega⟩ (by omega)
   intro K
   conv=>lhs;whnf
   conv=>rhs;whnf
   try rfl
   rw[show IntKind.i64.wrap ((n:Int)+1)=_ from aI (by omega)]
   rw[← zN]
   rfl
  ·have g1:¬ n<aEa b size:=by simpa using g1
   have:n=aEa b size:=by omega
   subst this
   repeat((first|apply hW.t|apply hW.f|(apply hW.q;exact rqc));conv=>lhs;whnf)
   rfl
 ·rfl
def mP (m:Man) (b:aE):Bool:=decide ((b.length:Int)=m.len)&&decide (jI b m.size=m.sums)
theorem aB3 {E:Env} (hE:Sys E) (m:Man) (b:aE) (h0:b.length≤1048576):E 233 [gv (m.cs aL),sv (bys b)]=some ([bv (mP m b)],[]):=by
 have hl:=Nat.le_trans (uY b m.size) (show 40≤1099511627776 from by decide)
 refine hE.run rfl rfl fun W hW=>?_
 conv=>lhs;whnf
 rw[aY]
 repeat'((first|apply hW.t|apply hW.f|(apply hW.q;exact rqc)|apply hW.w (aAD hE b m.size h0)|apply hW.w (kY hE (jI b m.size) m.sums hl)|(apply hW.b<;>intro h))<;>conv=>lhs;whnf)
 all_goals(refine congrArg (fun b=>(some ([bv b],[]):Option Res)) ?_;first|rfl|(simp_all [mP];done)|(simp_all [mP]<;>(intros;omega)))
theorem aB4 {E:Env} (hE:Sys E) (m:Man) (b:aE) (h0:b.length≤1048576):E 246 [gv (m.cs aL),sv (bys b)]=some ([bv (mP m b)],[]):=by
 have hl:=Nat.le_trans (uY b m.size) (show 40≤1099511627776 from by decide)
 refine hE.run rfl rfl fun W hW=>?_
 conv=>lhs;whnf
 rw[aY]
 repeat'((first|apply hW.t|apply hW.f|(apply hW.q;exact rqc)|apply hW.w (aAE hE b m.size h0)|apply hW.w (kZ hE (jI b m.size) m.sums hl)|(apply hW.b<;>intro h))<;>conv=>lhs;whnf)
 all_goals(refine congrArg (fun b=>(some ([bv b],[]):Option Res)) ?_;first|rfl|(simp_all [mP];done)|(simp_all [mP]<;>(intros;omega)))
def uZ (d:Disk):aE:=if d.r.slot=1 then d.b else d.a
def lH (d:Disk):Int:=if fZ d=true then d.r.gen else 0
def lI (d:Disk):aE:=if fZ d=true then(uZ d).take d.r.len.toNat else[]
theorem aAF {d:Disk} (h:fZ d=true):d.a.length≤240∧d.b.length≤240∧hU d.r=true∧d.r.len≤(uZ d).length∧d.p.length≤200∧d.p.all fQ=true∧0≤d.r.len:=by
 simp only[fZ,Bool.and_eq_true,decide_eq_true_eq]at h
 obtain⟨h1,h2,h3,h4,h5,h6⟩:=h
 have h7:0≤d.r.len:=by simp[hU,bK]at h3;omega
 exact⟨by omega,by omega,h3,h4,by omega,h6,h7⟩
theorem vA (d:Disk):(lI d).length≤240:=by
 unfold lI
 split
 ·rename_i h
  obtain⟨h1,h2,h3,h4,h5,h6,h7⟩:=aAF h
  rw[List.length_take]
  unfold uZ at *
  by_cases hs:d.r.slot=1
  ·rw[if_pos hs];omega
  ·rw[if_neg hs];omega
 ·simp
theorem aG0 (b:aE):((bys b).drop 0).take b.length=bys b:=by rw[List.drop_zero,← aF b,List.take_length]
theorem aME (b:aE) (n:Nat):((bys b).drop (0+0)).take (n-0)=bys (b.take n):=by rw[eU];simp
theorem aLv (b:aE) (n:Nat):((bys b).drop 0).take (n-0)=bys (b.take n):=by rw[eU];simp
theorem xM {E:Env} (hE:Sys E) {o:Bool} (d:Disk) (hd:d.lim 1048576):E 232 [gv (d.cs aL o)]=some ([iv (lH d),ov 1 (bys (lI d))],[]):=by
 have hk:=aAB hE (o:=o) d hd
 unfold lH lI
 cases h:fZ d
 ·rw[h]at hk
  refine hE.run rfl rfl fun W hW=>?_
  conv=>lhs;whnf
  repeat'((first|apply hW.t|apply hW.f|(apply hW.q;exact rqc)|apply hW.w (hk)|(apply hW.b<;>intro h))<;>conv=>lhs;whnf)
  rfl
 ·rw[h]at hk
  obtain⟨h1,h2,h3,h4,h5,h6,h7⟩:=aAF h
  simp only[if_true]
  rcases pH h3 with hs|hs
  ·have e:uZ d=d.a:=if_neg (by omega)
   rw[e]at h4 ⊢
   refine hE.run rfl rfl fun W hW=>?_
   conv=>lhs;whnf
   repeat'((first|apply hW.t|apply hW.f|(apply hW.q;exact rqc)|apply hW.w (hk)|apply hW.w (mM hE d d.r.slot (by omega))|(apply hW.b<;>intro h))<;>conv=>lhs;whnf)
   rw[aG0]
   refine hW.q (by exact⟨by omega,by rw[aF];omega,bA _⟩) ?_
   conv=>lhs;whnf
   rw[aME]
   refine hW.q (by exact⟨by decide,bA _,by rw[aF];simp;omega,by rw[aF];simp;omega,cW _⟩) ?_
   conv=>lhs;whnf
   repeat((first|apply hW.t|apply hW.f|(apply hW.q;exact rqc));conv=>lhs;whnf)
   rfl
  ·have e:uZ d=d.b:=if_pos hs
   rw[e]at h4 ⊢
   refine hE.run rfl rfl fun W hW=>?_
   conv=>lhs;whnf
   repeat'((first|apply hW.t|apply hW.f|(apply hW.q;exact rqc)|apply hW.w (hk)|apply hW.w (mL hE d d.r.slot hs)|(apply hW.b<;>intro h))<;>conv=>lhs;whnf)
   rw[aG0]
   refine hW.q (by exact⟨by omega,by rw[aF];omega,bA _⟩) ?_
   conv=>lhs;whnf
   rw[aME]
   refine hW.q (by exact⟨by decide,bA _,by rw[aF];simp;omega,by rw[aF];simp;omega,cW _⟩) ?_
   conv=>lhs;whnf
   repeat((first|apply hW.t|apply hW.f|(apply hW.q;exact rqc));conv=>lhs;whnf)
   rfl
theorem mQ {E:Env} (hE:Sys E) {o:Bool} (d:Disk) (hd:d.lim 1048576):E 245 [gv (d.cs aL o)]=some ([iv (lH d),ov 1 (bys (lI d))],[]):=by
 have hk:=aAC hE (o:=o) d hd
 unfold lH lI
 cases h:fZ d
 ·rw[h]at hk
  refine hE.run rfl rfl fun W hW=>?_
  conv=>lhs;whnf
  repeat'((first|apply hW.t|apply hW.f|(apply hW.q;exact rqc)|apply hW.w (hk)|(apply hW.b<;>intro h))<;>conv=>lhs;whnf)
  rfl
 ·rw[h]at hk
  obtain⟨h1,h2,h3,h4,h5,h6,h7⟩:=aAF h
  simp only[if_true]
  rcases pH h3 with hs|hs
  ·have e:uZ d=d.a:=if_neg (by omega)
   rw[e]at h4 ⊢
   refine hE.run rfl rfl fun W hW=>?_
   conv=>lhs;whnf
   repeat'((first|apply hW.t|apply hW.f|(apply hW.q;exact rqc)|apply hW.w (hk)|apply hW.w (rT hE (fun _ _=>rfl) d d.r.slot hs)|(apply hW.b<;>intro h))<;>conv=>lhs;whnf)
   refine hW.q (by exact⟨by omega,by rw[aF];omega,bA _⟩) ?_
   conv=>lhs;whnf
   rw[aLv]
   apply hW.w (cF hE _ (by simp;omega))
   conv=>lhs;whnf
   repeat((first|apply hW.t|apply hW.f|(apply hW.q;exact rqc));conv=>lhs;whnf)
   rfl
  ·have e:uZ d=d.b:=if_pos hs
   rw[e]at h4 ⊢
   refine hE.run rfl rfl fun W hW=>?_
   conv=>lhs;whnf
   repeat'((first|apply hW.t|apply hW.f|(apply hW.q;exact rqc)|apply hW.w (hk)|apply hW.w (rU hE d d.r.slot (by omega))|(apply hW.b<;>intro h))<;>conv=>lhs;whnf)
   refine hW.q (by exact⟨by omega,by rw[aF];omega,bA _⟩) ?_
   conv=>lhs;whnf
   rw[aLv]
   apply hW.w (cF hE _ (by simp;omega))
   conv=>lhs;whnf
   repeat((first|apply hW.t|apply hW.f|(apply hW.q;exact rqc));conv=>lhs;whnf)
   rfl
theorem sL {E:Env} (hE:Sys E) (d:Disk) (m:Man) (hd:d.lim 1048576):E 244 [gv (d.cs aL true),gv (m.cs aL)]=some ([bv (decide (lH d=m.gen)&&mP m (lI d))],[]):=by
 have hl:=Nat.le_trans (vA d) (show 240≤1048576 from by decide)
 refine hE.run rfl rfl fun W hW=>?_
 conv=>lhs;whnf
 repeat'((first|apply hW.t|apply hW.f|(apply hW.q;exact rqc)|apply hW.w (mQ hE (o:=true) d hd)|apply hW.w (aB4 hE m (lI d) hl)|(apply hW.b<;>intro h))<;>conv=>lhs;whnf)
 all_goals(refine congrArg (fun b=>(some ([bv b],[]):Option Res)) ?_;first|rfl|(simp_all [];done)|(simp_all []<;>(intros;omega)))
def smS:aE→Int
 |[]=>0
 |c::r=>c.toNat+smS r
def smP:aE→Int
 |[]=>0
 |c::r=>((r.length:Int)+1)*c.toNat+smP r
theorem aG1 {a b k:Int} (h:a=b+251*k):a%251=b%251:=by omega
theorem aJj {b:aE}:∀ {x y:Int},(0≤x∧x<251)→(0≤y∧y<251)→(jV b x y).1=(x+smS b)%251∧(jV b x y).2=(y+(b.length:Int)*x+smP b)%251:=by
 induction b with
 |nil=>intro x y h h';simp only[jV,smS,smP,List.length_nil];constructor<;>omega
 |cons c r ih =>
  intro x y h h'
  have hc:=UInt8.toNat_lt c
  have h1:=aLt (c:=c) h
  have h2:=aMB h1 h'
  obtain⟨i1,i2⟩:=ih h1 h2
  have e1:wx x c=(x+c.toNat)%251:=by
   unfold wx
   rw[show IntKind.i64.wrap (c.toNat:Int)=c.toNat from aH (by omega),show IntKind.i64.wrap (x+c.toNat)=x+c.toNat from aH (by omega),Int.tmod_eq_emod_of_nonneg (by omega)]
  have e2:wy y (wx x c)=(y+wx x c)%251:=by
   unfold wy
   rw[show IntKind.i64.wrap (y+wx x c)=y+wx x c from aH (by omega),Int.tmod_eq_emod_of_nonneg (by omega)]
  simp only[jV,smS,smP,List.length_cons]
  rw[i1,i2]
  constructor
  ·omega
  ·generalize wx x c=x1 at *
   generalize wy y x1=y1 at *
   obtain⟨q,hq⟩:∃ q,x+c.toNat=251*q+x1:=⟨(x+c.toNat)/251,by omega⟩
   obtain⟨p,hp⟩:∃ p,y+x1=251*p+y1:=⟨(y+x1)/251,by omega⟩
   have m1:(r.length:Int)*(x+c.toNat)=251*((r.length:Int)*q)+r.length*x1:=by
    rw[hq,Int.mul_add,Int.mul_left_comm]
   have m2:(r.length:Int)*(x+c.toNat)=(r.length:Int)*x+r.length*c.toNat:=Int.mul_add _ _ _
   have m3:((r.length:Int)+1)*c.toNat=r.length*c.toNat+c.toNat:=by rw[Int.add_mul,Int.one_mul]
   have m4:(((r.length+1:Nat):Int))*x=r.length*x+x:=by push_cast;rw[Int.add_mul,Int.one_mul]
   rw[m3,m4]
   apply(aG1 (k:=(r.length:Int)*q+q+p) ?_).symm
   generalize (r.length:Int)*q=u at *
   generalize (r.length:Int)*x1=v at *
   generalize (r.length:Int)*x=w at *
   generalize (r.length:Int)*(c.toNat:Int)=z at *
   omega
theorem lZ (b:aE):aX b=smS b%251+251*(smP b%251):=by
 obtain⟨h1,h2⟩:=aJj (b:=b) (x:=0) (y:=0) (by omega) (by omega)
 unfold aX
 rw[h1,h2]
 rw[show(0:Int)+(b.length:Int)*0+smP b=smP b from by omega,show(0:Int)+smS b=smS b from by omega]
 rw[show IntKind.i64.wrap (251*(smP b%251))=251*(smP b%251) from aH (by omega)]
 exact aH (by omega)
theorem aJk {r:aE} {c:UInt8}:smS (r++[c])=smS r+c.toNat:=by
 induction r with
 |nil=>simp[smS]
 |cons a r ih=>simp only[List.cons_append,smS,ih];omega
theorem aJl {r:aE} {c:UInt8}:smP (r++[c])=smP r+smS r+c.toNat:=by
 induction r with
 |nil=>simp[smS,smP]
 |cons a r ih =>
  simp only[List.cons_append,smP,smS,ih,List.length_append,List.length_cons,List.length_nil]
  have:((r.length+(0+1):Nat):Int)+1=((r.length:Int)+1)+1:=by push_cast;omega
  rw[this,Int.add_mul ((r.length:Int)+1) 1,Int.one_mul]
  omega
theorem qM {n:Int} (h : -1000000000000000≤n∧n≤1000000000000000):aB0 n 251=n%251:=by
 unfold aB0
 rw[if_pos (by decide)]
 by_cases h0:0≤n
 ·rw[Int.tmod_eq_emod_of_nonneg h0,show IntKind.i64.wrap (n%251+251)=n%251+251 from aH (by omega),Int.tmod_eq_emod_of_nonneg (by omega)]
  omega
 ·obtain⟨m,rfl⟩:∃ m,n = -m:=⟨-n,by omega⟩
  have e:(-m).tmod 251 = -(m%251):=by rw[Int.neg_tmod,Int.tmod_eq_emod_of_nonneg (by omega)]
  rw[e,show IntKind.i64.wrap (-(m%251)+251) = -(m%251)+251 from aH (by omega),Int.tmod_eq_emod_of_nonneg (by omega)]
  omega
theorem vB {E:Env} (hE:Sys E) (w:Int):E 266 [iv w]=some ([bv (bK w 0 63000)],[]):=by
 refine hE.run rfl rfl fun W hW=>?_
 conv=>lhs;whnf
 repeat'((first|apply hW.t|apply hW.f|(apply hW.q;exact rqc)|apply hW.w (bF hE _ _ _)|(apply hW.b<;>intro h))<;>conv=>lhs;whnf)
 rfl
theorem qN {E:Env} (hE:Sys E) (b:aE):E 267 [iv (aX b)]=some ([iv (smS b%251),iv (smP b%251)],[]):=by
 have e:=lZ b
 generalize aX b=w at e ⊢
 have h:=vB hE w
 rw[show bK w 0 63000=true from by simp[bK];omega]at h
 refine hE.run rfl rfl fun W hW=>?_
 conv=>lhs;whnf
 repeat'((first|apply hW.t|apply hW.f|(apply hW.q;exact rqc)|apply hW.w (h)|(apply hW.b<;>intro h))<;>conv=>lhs;whnf)
 rw[Int.tmod_eq_emod_of_nonneg (by omega),Int.tdiv_eq_ediv_of_nonneg (by omega),show IntKind.i64.wrap (w/251)=w/251 from aH (by omega)]
 rw[show w%251=smS b%251 from by omega,show w/251=smP b%251 from by omega]
 rfl
theorem aC4 {E:Env} (hE:Sys E) (o:UInt8) (r:aE) (c:UInt8) (n:Int) (hn:n=r.length+1) (hr:r.length≤6):E 265 [iv (aX (o::r)),iv n,iv (o.toNat:Int),iv (c.toNat:Int)]=some ([iv (aX (r++[c]))],[]):=by
 have ho:=UInt8.toNat_lt o
 have hc:=UInt8.toNat_lt c
 have h:=vB hE (aX (o::r))
 have e:=lZ (o::r)
 rw[show bK (aX (o::r)) 0 63000=true from by simp[bK];omega]at h
 have h1:=bF hE n 1 1000000000000
 rw[show bK n 1 1000000000000=true from by simp[bK];omega]at h1
 have h2:=bF hE o.toNat 0 255
 rw[show bK o.toNat 0 255=true from by simp[bK];omega]at h2
 have h3:=bF hE c.toNat 0 255
 rw[show bK c.toNat 0 255=true from by simp[bK];omega]at h3
 refine hE.run rfl rfl fun W hW=>?_
 conv=>lhs;whnf
 repeat'((first|apply hW.t|apply hW.f|(apply hW.q;exact rqc)|apply hW.w (h)|apply hW.w (h1)|apply hW.w (h2)|apply hW.w (h3)|apply hW.w (qN hE (o::r))|apply hW.w (aC1 hE _ _)|(apply hW.b<;>intro h))<;>conv=>lhs;whnf)
 have hz:0≤n*(o.toNat:Int)∧n*(o.toNat:Int)≤7*255:=⟨Int.mul_nonneg (by omega) (by omega),Int.mul_le_mul (by omega) (by omega) (by omega) (by omega)⟩
 have hP:smP (o::r)=n*o.toNat+smP r:=by rw[smP,hn]
 have hS:smS (o::r)=o.toNat+smS r:=rfl
 have n1:n.tmod 251=n:=by rw[Int.tmod_eq_emod_of_nonneg (by omega)];omega
 rw[lZ (r++[c]),aJk,aJl,n1]
 rw[show IntKind.i64.wrap (n*(o.toNat:Int))=n*o.toNat from aH (by omega)]
 rw[hP,hS]
 generalize n*(o.toNat:Int)=z at *
 generalize hx:(o.toNat+smS r)%251=X
 generalize hy:(z+smP r)%251=Y
 rw[show IntKind.i64.wrap (X-(o.toNat:Int))=X-o.toNat from aH (by omega),show IntKind.i64.wrap (X-(o.toNat:Int)+c.toNat)=X-o.toNat+c.toNat from aH (by omega),show IntKind.i64.wrap (Y-z)=Y-z from aH (by omega)]
 rw[qM (n:=X-o.toNat+c.toNat) (by omega),qM (n:=Y-z) (by omega)]
 rw[show IntKind.i64.wrap ((Y-z)%251+(X-(o.toNat:Int)+c.toNat)%251)=(Y-z)%251+(X-(o.toNat:Int)+c.toNat)%251 from aH (by omega)]
 rw[qM (n:=(Y-z)%251+(X-(o.toNat:Int)+c.toNat)%251) (by omega)]
 rw[show IntKind.i64.wrap (251*(((Y-z)%251+(X-(o.toNat:Int)+c.toNat)%251)%251))=251*(((Y-z)%251+(X-(o.toNat:Int)+c.toNat)%251)%251) from aH (by omega)]
 refine congrArg (fun b=>(some ([iv b],[]):Option Res)) ((aH (by omega)).trans ?_)
 omega
def win (b:aE) (n i:Nat):aE:=(b.drop i).take n
def vC (b:aE) (n k:Nat):List Int:=(List.range k).map fun i=>aX (win b n i)
theorem iQ (b:aE) (n k:Nat):(vC b n k).length=k:=by simp[vC]
theorem aFd (b:aE) (n k:Nat):bZ (vC b n k)++[[ti (aX (win b n k))]]=bZ (vC b n (k+1)):=by
 simp[vC,List.range_succ,bZ,rM]
def dF (b:aE) (n:Nat):List Int:=vC b n (if n≤b.length then b.length+1-n else 0)
theorem aJm {b:aE} {n i:Nat} (hn:1≤n) (h:i+n<b.length):∃ r:aE,r.length+1=n∧win b n i=b[i]::r∧win b n (i+1)=r++[b[i+n]]:=by
 refine⟨(b.drop (i+1)).take (n-1),?_,?_,?_⟩
 ·simp;omega
 ·unfold win
  rw[List.drop_eq_getElem_cons (show i<b.length by omega)]
  obtain⟨m,rfl⟩:∃ m,n=m+1:=⟨n-1,by omega⟩
  rw[List.take_succ_cons];rfl
 ·unfold win
  obtain⟨m,rfl⟩:∃ m,n=m+1:=⟨n-1,by omega⟩
  rw[List.take_add_one]
  simp only[Nat.add_sub_cancel,List.getElem?_drop]
  rw[show i+1+m=i+(m+1) from by omega,List.getElem?_eq_getElem h]
  rfl
theorem xN {E:Env} (hE:Sys E) (b:aE) (n:Nat) (hb:b.length≤1048576) (hn:1≤n∧n≤6):E 264 [sv (bys b),iv n]=some ([ov 1 (bZ (dF b n))],[]):=by
 unfold dF
 refine hE.run rfl rfl fun W hW=>?_
 conv=>lhs;whnf
 repeat((first|apply hW.t|apply hW.f|(apply hW.q;exact rqc));conv=>lhs;whnf)
 apply hW.b<;>intro g0<;>conv=>lhs;whnf
 ·have:(n:Int)<1:=by simpa using g0
  omega
 ·repeat((first|apply hW.t|apply hW.f|(apply hW.q;exact rqc));conv=>lhs;whnf)
  rw[aY]
  apply hW.b<;>intro g<;>conv=>lhs;whnf
  ·have g:(n:Int)>b.length:=by simpa using g
   rw[if_neg (by omega)]
   repeat((first|apply hW.t|apply hW.f|(apply hW.q;exact rqc));conv=>lhs;whnf)
   rfl
  ·have g:¬ (n:Int)>b.length:=by simpa using g
   rw[if_pos (by omega)]
   repeat((first|apply hW.t|apply hW.f|(apply hW.q;exact rqc));conv=>lhs;whnf)
   refine hW.q (by exact⟨by omega,by rw[aF];omega,bA b⟩) ?_
   conv=>lhs;whnf
   rw[aLv,show((n:Int).toNat)=n from by omega]
   apply hW.w (dE hE (b.take n) (by simp;omega))
   conv=>lhs;whnf
   repeat((first|apply hW.t|apply hW.f|(apply hW.q;exact rqc));conv=>lhs;whnf)
   refine hW.loop (σ:=Nat) (γ:=Nat) (fun i s=>((s.sl 7 (v1 (.t (.int .i64 (i+n:Nat))))).sl 6 (v1 (.t (.int .i64 (aX (win b n i)))))).bl ⟨50500,1, .own,bZ (vC b n (i+1))⟩) (fun i m=>i=m∧m+n≤b.length) (fun m=>b.length-m) (fun _=>([ov 1 (bZ (vC b n (b.length+1-n)))],[])) 0 0 ?_ ?_ ?_ ?_
   ·intro K
    conv=>lhs;whnf
    conv=>rhs;whnf
    try rfl
    simp[vC,win,bZ,rM]
   ·exact⟨rfl,by omega⟩
   ·rintro kl i _ ⟨rfl,hi⟩ ih
    conv=>lhs;whnf
    rw[aY]
    apply hW.b<;>intro g1<;>conv=>lhs;whnf
    ·have g1:i+n<b.length:=by
      have:((i+n:Nat):Int)<b.length:=by simpa using g1
      omega
     obtain⟨r,r1,r2,r3⟩:=aJm hn.1 g1
     have c1:=UInt8.toNat_lt b[i]
     have c2:=UInt8.toNat_lt b[i+n]
     repeat((first|apply hW.t|apply hW.f|(apply hW.q;exact rqc));conv=>lhs;whnf)
     rw[show IntKind.i64.wrap (((i+n:Nat):Int)-(n:Int))=(i:Int) from(aH (by omega)).trans (by omega)]
     repeat((first|apply hW.t|apply hW.f|(apply hW.q;exact rqc)|(refine hW.w (cA ?_) ?_;omega));conv=>lhs;whnf)
     rw[show IntKind.i64.wrap (b[i].toNat:Int)=b[i].toNat from aH (by omega),show IntKind.i64.wrap (b[i+n].toNat:Int)=b[i+n].toNat from aH (by omega),r2]
     apply hW.w (aC4 hE b[i] r b[i+n] n (by omega) (by omega))
     conv=>lhs;whnf
     repeat((first|apply hW.t|apply hW.f|(apply hW.q;exact rqc));conv=>lhs;whnf)
     refine hW.q (by exact⟨by decide,by intro e he;simp at he;subst he;rfl,by simp[iQ,bZ];omega,by simp[iQ,bZ];omega⟩) ?_
     conv=>lhs;whnf
     repeat((first|apply hW.t|apply hW.f|(apply hW.q;exact rqc));conv=>lhs;whnf)
     refine ih (i+1) (i+1) _ ?_ ⟨rfl,by omega⟩ (by omega)
     intro K
     conv=>lhs;whnf
     conv=>rhs;whnf
     try rfl
     rw[show IntKind.i64.wrap (((i+n:Nat):Int)+1)=((i+1+n:Nat):Int) from(aI (by omega)).trans (by omega),← aFd b n (i+1),r3]
     rfl
    ·have g1:¬ i+n<b.length:=by
      have:¬ ((i+n:Nat):Int)<b.length:=by simpa using g1
      omega
     repeat((first|apply hW.t|apply hW.f|(apply hW.q;exact rqc));conv=>lhs;whnf)
     rw[show b.length+1-n=i+1 from by omega]
     rfl
   ·rfl
def aAG (p:Nat→Bool):Nat→Nat→Int
 |_,0 => -1
 |i,k+1=>if p i=true then(i:Int) else aAG p (i+1) k
def gG (b:aE) (s:Sum) (n:Int):Int:=if bK n 1 6=true then aAG (fun i=>decide (bG (win b n.toNat i)=s)) 0 (dF b n.toNat).length else -1
theorem aG2 (b:aE) (n i:Nat):(win b n i).length≤n:=by simp[win];omega
theorem aG3 {w:aE} (h:w.length≤6) (s:Sum):(decide (aX w=s.w)&&decide (bG w=s))=decide (bG w=s):=by
 have:(bG w).w=aX w:=by unfold bG;rw[if_neg (by omega)]
 rw[Bool.eq_iff_iff]
 simp only[Bool.and_eq_true,decide_eq_true_eq]
 constructor
 ·exact fun h=>h.2
 ·intro h;exact⟨by rw[← this,h],h⟩
theorem aJn (b:aE) (n k i:Nat) (h:i<k):(vC b n k)[i]?=some (aX (win b n i)):=by simp[vC,h]
theorem xO {E:Env} (hE:Sys E) (b:aE) (s:Sum) (n:Int) (hb:b.length≤1048576):E 263 [sv (bys b),gv s.cs,iv n]=some ([iv (gG b s n)],[]):=by
 have h1:=bF hE n 1 6
 unfold gG
 cases hn:bK n 1 6
 ·rw[hn]at h1
  refine hE.run rfl rfl fun W hW=>?_
  conv=>lhs;whnf
  repeat'((first|apply hW.t|apply hW.f|(apply hW.q;exact rqc)|apply hW.w (h1)|(apply hW.b<;>intro h))<;>conv=>lhs;whnf)
  rfl
 ·rw[hn]at h1
  have hr:=bP hn
  obtain⟨m,rfl⟩:∃ m:Nat,n=m:=⟨n.toNat,by omega⟩
  rw[show((m:Int).toNat)=m from by omega]
  have hl:(bZ (dF b m)).length=(dF b m).length:=List.length_map _
  have hl2:(dF b m).length+m≤b.length+1∨(dF b m).length=0:=by
   unfold dF;rw[iQ];split<;>omega
  have hg:∀ i (h:i<(dF b m).length),(bZ (dF b m))[(i:Int).toNat]?=some (rM (aX (win b m i))):=by
   intro i h
   unfold dF at h ⊢
   rw[iQ]at h
   rw[bZ,List.getElem?_map,show((i:Int).toNat)=i from by omega,aJn _ _ _ _ h]
   rfl
  simp only[if_true]
  refine hE.run rfl rfl fun W hW=>?_
  conv=>lhs;whnf
  apply hW.w (h1)
  conv=>lhs;whnf
  repeat((first|apply hW.t|apply hW.f|(apply hW.q;exact rqc));conv=>lhs;whnf)
  apply hW.w (xN hE b m hb (by omega))
  conv=>lhs;whnf
  repeat((first|apply hW.t|apply hW.f|(apply hW.q;exact rqc));conv=>lhs;whnf)
  generalize dF b m=l at hl hl2 hg ⊢
  refine hW.loop (σ:=Nat) (γ:=Nat) (fun i s=>s.sl 8 (v1 (.t (.int .i64 i)))) (fun i k=>i=k∧k≤l.length) (fun k=>l.length-k) (fun k=>([iv (aAG (fun i=>decide (bG (win b m i)=s)) k (l.length-k))],[])) 0 0 ?_ ?_ ?_ ?_
  ·intro K
   conv=>lhs;whnf
   conv=>rhs;whnf
   try rfl
  ·exact⟨rfl,by omega⟩
  ·rintro kl i _ ⟨rfl,hi⟩ ih
   conv=>lhs;whnf
   apply hW.b<;>intro g1<;>conv=>lhs;whnf
   ·have g1:i<l.length:=by simpa[hl] using g1
    have hw:=aG2 b m i
    rw[show l.length-i=(l.length-(i+1))+1 from by omega,aAG,← aG3 (by omega)]
    repeat((first|apply hW.t|apply hW.f|(apply hW.q;exact rqc));conv=>lhs;whnf)
    apply hW.w (hg i g1)
    conv=>lhs;whnf
    repeat((first|apply hW.t|apply hW.f|(apply hW.q;exact rqc));conv=>lhs;whnf)
    apply hW.w (hg i g1)
    conv=>lhs;whnf
    repeat((first|apply hW.t|apply hW.f|(apply hW.q;exact rqc));conv=>lhs;whnf)
    apply hW.b<;>intro g2<;>conv=>lhs;whnf
    ·rw[g2]
     repeat((first|apply hW.t|apply hW.f|(apply hW.q;exact rqc));conv=>lhs;whnf)
     rw[show IntKind.i64.wrap ((i:Int)+(m:Int))=((i+m:Nat):Int) from(aH (by omega)).trans (by omega)]
     repeat((first|apply hW.t|apply hW.f|(apply hW.q;exact rqc));conv=>lhs;whnf)
     refine hW.q (by exact⟨by omega,by rw[aF];omega,bA b⟩) ?_
     conv=>lhs;whnf
     repeat((first|apply hW.t|apply hW.f|(apply hW.q;exact rqc));conv=>lhs;whnf)
     rw[show((bys b).drop (i:Int).toNat).take ((((i+m:Nat):Int)).toNat-(i:Int).toNat)=bys (win b m i) from by rw[eU];unfold win;congr 2<;>omega]
     apply hW.w (dO hE (win b m i) (by omega))
     conv=>lhs;whnf
     repeat((first|apply hW.t|apply hW.f|(apply hW.q;exact rqc));conv=>lhs;whnf)
     apply hW.b<;>intro g3<;>conv=>lhs;whnf
     ·have g3:bG (win b m i)=s:=by
       revert g3
       generalize bG (win b m i)=x
       cases x;cases s
       simp
      rw[decide_eq_true g3]
      repeat((first|apply hW.t|apply hW.f|(apply hW.q;exact rqc));conv=>lhs;whnf)
      rfl
     ·have g3:bG (win b m i)≠s:=by intro e;rw[e]at g3;simp at g3
      rw[decide_eq_false g3]
      repeat((first|apply hW.t|apply hW.f|(apply hW.q;exact rqc));conv=>lhs;whnf)
      simp only[Bool.and_false,if_false,Bool.false_eq_true]
      refine ih (i+1) (i+1) _ ?_ ⟨rfl,by omega⟩ (by omega)
      intro K
      conv=>lhs;whnf
      conv=>rhs;whnf
      try rfl
      rw[show IntKind.i64.wrap ((i:Int)+1)=_ from aI (by omega)]
      try rfl
    ·rw[g2]
     repeat((first|apply hW.t|apply hW.f|(apply hW.q;exact rqc));conv=>lhs;whnf)
     simp only[Bool.false_and,if_false,Bool.false_eq_true]
     refine ih (i+1) (i+1) _ ?_ ⟨rfl,by omega⟩ (by omega)
     intro K
     conv=>lhs;whnf
     conv=>rhs;whnf
     try rfl
     rw[show IntKind.i64.wrap ((i:Int)+1)=_ from aI (by omega)]
   ·have:i=l.length:=by simp[hl]at g1;omega
    rw[this,Nat.sub_self];rfl
  ·rfl
theorem aFe (b:aE) (m:Nat):(dF b m).length=if m≤b.length then b.length+1-m else 0:=by unfold dF;rw[iQ]
theorem xP {E:Env} (hE:Sys E) (b:aE) (s:Sum) (n:Int) (hb:b.length≤1048576):E 272 [sv (bys b),gv s.cs,iv n]=some ([iv (gG b s n)],[]):=by
 have h1:=bI hE n 1 6
 unfold gG
 cases hn:bK n 1 6
 ·rw[hn]at h1
  refine hE.run rfl rfl fun W hW=>?_
  conv=>lhs;whnf
  repeat'((first|apply hW.t|apply hW.f|(apply hW.q;exact rqc)|apply hW.w (h1)|(apply hW.b<;>intro h))<;>conv=>lhs;whnf)
  rfl
 ·rw[hn]at h1
  have hr:=bP hn
  obtain⟨m,rfl⟩:∃ m:Nat,n=m:=⟨n.toNat,by omega⟩
  rw[show((m:Int).toNat)=m from by omega,aFe]
  simp only[if_true]
  refine hE.run rfl rfl fun W hW=>?_
  conv=>lhs;whnf
  apply hW.w (h1)
  conv=>lhs;whnf
  repeat((first|apply hW.t|apply hW.f|(apply hW.q;exact rqc));conv=>lhs;whnf)
  generalize hL:(if m≤b.length then b.length+1-m else 0)=L
  have hL':∀ i,i<L↔i+m≤b.length:=by intro i;rw[← hL];split<;>omega
  have hLb:L≤b.length:=by rw[← hL];split<;>omega
  refine hW.loop (σ:=Nat) (γ:=Nat) (fun i s=>s.sl 7 (v1 (.t (.int .i64 i)))) (fun i k=>i=k∧k≤L) (fun k=>L-k) (fun k=>([iv (aAG (fun i=>decide (bG (win b m i)=s)) k (L-k))],[])) 0 0 ?_ ?_ ?_ ?_
  ·intro K
   conv=>lhs;whnf
   conv=>rhs;whnf
   try rfl
  ·exact⟨rfl,by omega⟩
  ·rintro kl i _ ⟨rfl,hi⟩ ih
   conv=>lhs;whnf
   rw[aY,show IntKind.i64.wrap ((i:Int)+(m:Int))=((i+m:Nat):Int) from(aH (by omega)).trans (by omega)]
   apply hW.b<;>intro g1<;>conv=>lhs;whnf
   ·have g1:i+m≤b.length:=by
     have:((i+m:Nat):Int)≤b.length:=by simpa using g1
     omega
    have hw:=aG2 b m i
    rw[show L-i=(L-(i+1))+1 from by have:=(hL' i).2 g1;omega,aAG]
    repeat((first|apply hW.t|apply hW.f|(apply hW.q;exact rqc));conv=>lhs;whnf)
    rw[show IntKind.i64.wrap ((i:Int)+(m:Int))=((i+m:Nat):Int) from(aH (by omega)).trans (by omega)]
    repeat((first|apply hW.t|apply hW.f|(apply hW.q;exact rqc));conv=>lhs;whnf)
    refine hW.q (by exact⟨by omega,by rw[aF];omega,bA b⟩) ?_
    conv=>lhs;whnf
    repeat((first|apply hW.t|apply hW.f|(apply hW.q;exact rqc));conv=>lhs;whnf)
    rw[show((bys b).drop (i:Int).toNat).take ((((i+m:Nat):Int)).toNat-(i:Int).toNat)=bys (win b m i) from by rw[eU];unfold win;congr 2<;>omega]
    apply hW.w (fR hE (win b m i) (by omega))
    conv=>lhs;whnf
    repeat((first|apply hW.t|apply hW.f|(apply hW.q;exact rqc));conv=>lhs;whnf)
    apply hW.b<;>intro g3<;>conv=>lhs;whnf
    ·have g3:bG (win b m i)=s:=by
      revert g3
      generalize bG (win b m i)=x
      cases x;cases s
      simp
     rw[if_pos (decide_eq_true g3)]
     repeat((first|apply hW.t|apply hW.f|(apply hW.q;exact rqc));conv=>lhs;whnf)
     rfl
    ·have g3:bG (win b m i)≠s:=by intro e;rw[e]at g3;simp at g3
     rw[if_neg (by simpa using g3)]
     repeat((first|apply hW.t|apply hW.f|(apply hW.q;exact rqc));conv=>lhs;whnf)
     refine ih (i+1) (i+1) _ ?_ ⟨rfl,by have:=(hL' i).2 g1;omega⟩ (by have:=(hL' i).2 g1;omega)
     intro K
     conv=>lhs;whnf
     conv=>rhs;whnf
     try rfl
     rw[show IntKind.i64.wrap ((i:Int)+1)=_ from aI (by omega)]
     try rfl
   ·have g1:¬ i+m≤b.length:=by
     have:¬ ((i+m:Nat):Int)≤b.length:=by simpa using g1
     omega
    have hni:¬ i<L:=fun h=>g1 ((hL' i).1 h)
    have:i=L:=by omega
    rw[this,Nat.sub_self];rfl
  ·rfl
def bJ (b:aE) (m:Man) (i:Int):Int :=
 if i<0 then -1 else match m.sums[i.toNat]? with
 |none => -1
 |some s=>gG b s (aS m.size m.len i)
theorem aFf (b:aE) (s:Sum):gG b s 0 = -1:=by unfold gG;rw[if_neg (by decide)]
theorem aB5 {b:aE} {m:Man} {i:Int} (h:i<0∨(m.sums.length:Int)≤i):bJ b m i = -1:=by
 unfold bJ
 by_cases h0:i<0
 ·rw[if_pos h0]
 ·rw[if_neg h0,List.getElem?_eq_none (by omega)]
theorem aAH {b:aE} {m:Man} {n:Nat} (h:n<m.sums.length):bJ b m n=gG b m.sums[n] (aS m.size m.len n):=by
 unfold bJ
 rw[if_neg (by omega),show((n:Int).toNat)=n from by omega,List.getElem?_eq_getElem h]
theorem aJo {size n i:Int} (h:i<0):aS size n i=0:=by
 unfold aS
 rw[if_neg (by simp[bK];omega)]
theorem xQ {E:Env} (hE:Sys E) (b:aE) (m:Man) (i:Int) (hb:b.length≤1048576) (_:m.sums.length≤8388608):E 262 [sv (bys b),gv (m.cs aL),iv i]=some ([iv (bJ b m i)],[]):=by
 refine hE.run rfl rfl fun W hW=>?_
 conv=>lhs;whnf
 apply hW.w (dD hE m.size m.len i)
 conv=>lhs;whnf
 repeat((first|apply hW.t|apply hW.f|(apply hW.q;exact rqc));conv=>lhs;whnf)
 apply hW.b<;>intro g1<;>conv=>lhs;whnf
 ·have g1:aS m.size m.len i=0:=by simpa using g1
  repeat((first|apply hW.t|apply hW.f|(apply hW.q;exact rqc));conv=>lhs;whnf)
  have e:bJ b m i = -1:=by
   unfold bJ
   split
   ·rfl
   ·split
    ·rfl
    ·rw[g1,aFf]
  rw[e];rfl
 ·have g1:aS m.size m.len i≠0:=by simpa using g1
  have hi:0≤i:=by
   rcases Int.lt_or_le i 0 with h|h
   ·exact absurd (aJo h) g1
   ·exact h
  repeat((first|apply hW.t|apply hW.f|(apply hW.q;exact rqc));conv=>lhs;whnf)
  apply hW.b<;>intro g2<;>conv=>lhs;whnf
  ·have g2:(m.sums.length:Int)≤i:=by simpa using g2
   rw[aB5 (.inr g2)]
   repeat((first|apply hW.t|apply hW.f|(apply hW.q;exact rqc));conv=>lhs;whnf)
   rfl
  ·have g2:¬ (m.sums.length:Int)≤i:=by simpa using g2
   obtain⟨n,rfl⟩:∃ n:Nat,i=n:=⟨i.toNat,by omega⟩
   have hn:n<m.sums.length:=by omega
   rw[aAH hn]
   repeat((first|apply hW.t|apply hW.f|(apply hW.q;exact rqc)|(refine hW.w (cA ?_) ?_;omega));conv=>lhs;whnf)
   apply hW.w (xO hE b m.sums[n] _ hb)
   conv=>lhs;whnf
   repeat((first|apply hW.t|apply hW.f|(apply hW.q;exact rqc));conv=>lhs;whnf)
   rfl
end Tev
