/- What the functions compute, one contract each. -/
import Derived.Test.YtjelbnjaedoiaaaGreatTakeIr1
set_option linter.unusedSimpArgs false
set_option linter.unusedVariables false
namespace Tev
open Go
set_option maxRecDepth 50000
set_option maxHeartbeats 20000000
def thn (v:Int) (f:Int→Int):Int:=if v<0 then -1 else f v
theorem pP {v:Int} {f:Int→Int} (h:v<0):thn v f = -1:=if_pos h
theorem oE {v:Int} {f:Int→Int} (h:¬ v<0):thn v f=f v:=if_neg h
theorem iZ {v:Int} {f:Int→Int} (h:¬ thn v f<0):¬ v<0∧¬ f v<0:=by
 by_cases hv:v<0
 ·rw[pP hv]at h;omega
 ·rw[oE hv]at h;exact⟨hv,h⟩
def rg (v:Int):Prop := -1≤v∧v≤1048576
theorem aN1 {v:Int} (h:rg v) : -1≤v∧v≤1048576:=h
theorem jA {v:Int} {f:Int→Int} (hf:¬ v<0→rg (f v)):rg (thn v f):=by
 by_cases hv:v<0
 ·rw[pP hv];exact⟨by omega,by omega⟩
 ·rw[oE hv];exact hf hv
def iF (left n:Int):Int:=if left-n<0 then -1 else left-n
theorem cP {left:Int} {n:Nat} (h:rg left):rg (iF left n):=by
 obtain⟨h1,h2⟩:=h
 unfold iF rg;split<;>omega
theorem jQ {left:Int} {n:Nat} (h:rg left) (h1:¬ iF left n<0):n≤1048576∧iF left n=left-n:=by
 obtain⟨h2,h3⟩:=h
 unfold iF at h1 ⊢
 split at h1
 ·omega
 ·rename_i h4;rw[if_neg h4];omega
def szL {α:Type} (f:α→Int→Int):List α→Int→Int
 |[],left=>left
 |x::r,left=>thn (f x left) (szL f r)
def szS {α:Type} (f:α→Int→Int) (l:List α) (left:Int):Int:=thn (iF left l.length) (szL f l)
theorem aM3 {α:Type} {f:α→Int→Int} (hf:∀ x v,rg v→rg (f x v)) {l:List α}:∀ {left:Int},rg left→rg (szL f l left):=by
 induction l with
 |nil=>intro left h;exact h
 |cons x r ih=>intro left h;exact jA fun _=>ih (hf x left h)
theorem aM4 {α:Type} {f:α→Int→Int} {P:α→Prop} (hf:∀ x v,rg v→rg (f x v)) (hp:∀ x v,rg v→¬ f x v<0→P x) {l:List α}:∀ {left:Int},rg left→¬ szL f l left<0→∀ x∈l,P x:=by
 induction l with
 |nil=>intro left _ _ x hx;cases hx
 |cons x r ih =>
  intro left h h1 y hy
  obtain⟨h2,h3⟩:=iZ h1
  rcases List.mem_cons.mp hy with rfl|hy
  ·exact hp _ _ h h2
  ·exact ih (hf x left h) h3 y hy
theorem aKM {α:Type} {f:α→Int→Int} (hf:∀ x v,rg v→rg (f x v)) {l:List α} {left:Int} (h:rg left):rg (szS f l left):=jA fun _=>aM3 hf (cP h)
def aAa {α:Type} (P:Nat→α→Prop) (B:Nat) (l:List α):Prop:=l.length≤B∧∀ x∈l,P B x
theorem aM5 {α:Type} {f:α→Int→Int} {P:Nat→α→Prop} (hf:∀ x v,rg v→rg (f x v)) (hp:∀ x v,rg v→¬ f x v<0→P 1048576 x) {l:List α} {left:Int} (h:rg left) (h1:¬ szS f l left<0):aAa P 1048576 l:=by
 obtain⟨h2,h3⟩:=iZ h1
 exact⟨(jQ h h2).1,aM4 hf hp (cP h) h3⟩
theorem aCb {α:Type} {P:Nat→α→Prop} {B C:Nat} (hp:∀ x,P B x→P C x) (h:B≤C) {l:List α} (hl:aAa P B l):aAa P C l:=⟨by have:=hl.1;omega,fun x hx=>hp x (hl.2 x hx)⟩
theorem jR {α:Type} (f:α→List T) {l:List α} {n:Nat} (h:n<l.length) (z:List T):((l.take n).map f++List.replicate (l.length-n) z).set n (f l[n])=(l.take (n+1)).map f++List.replicate (l.length-(n+1)) z:=by
 have h1:((l.take n).map f).length=n:=by rw[List.length_map,List.length_take];omega
 rw[List.set_append,if_neg (by omega),h1,Nat.sub_self,show l.length-n=(l.length-(n+1))+1 from by omega,List.replicate_succ,List.set_cons_zero,show l.take (n+1)=l.take n++[l[n]] from by rw[List.take_add_one,List.getElem?_eq_getElem h];rfl,List.map_append]
 simp
theorem dO {α:Type} {f:α→List T} {l:List α} {n:Nat} (h:n<l.length) (z:List T):((l.take n).map f++List.replicate (l.length-n) z)[(n:Int).toNat]?=some z:=by
 have h1:((l.take n).map f).length=n:=by rw[List.length_map,List.length_take];omega
 rw[Int.toNat_natCast,List.getElem?_append_right (by omega),h1,Nat.sub_self,show l.length-n=(l.length-(n+1))+1 from by omega]
 rfl
def mix {α:Type} (f:α→List T) (M l:List α) (n:Nat):List (List T):=(M.take n).map f++(l.drop n).map f
theorem qX {α:Type} {f:α→List T} {M l:List α} {n:Nat} (h:M.length=l.length):(mix f M l n).length=l.length:=by
 simp[mix];omega
theorem gJ {α:Type} {f:α→List T} {M l:List α} {n:Nat} (h:M.length=l.length) (hn:n<l.length):(mix f M l n)[n]?=some (f l[n]):=by
 have h1:((M.take n).map f).length=n:=by rw[List.length_map,List.length_take];omega
 rw[mix,List.getElem?_append_right (by omega),h1,Nat.sub_self]
 simp[hn]
theorem aLO {α:Type} {f:α→List T} {M l:List α} {n:Nat} (h:M.length=l.length) (hn:n<l.length):(mix f M l n).set n (f (M[n]'(by omega)))=mix f M l (n+1):=by
 have h1:((M.take n).map f).length=n:=by rw[List.length_map,List.length_take];omega
 rw[mix,List.set_append,if_neg (by omega),h1,Nat.sub_self,List.drop_eq_getElem_cons hn,List.map_cons,List.set_cons_zero,mix,show M.take (n+1)=M.take n++[M[n]'(by omega)] from by rw[List.take_add_one,List.getElem?_eq_getElem (by omega)];rfl,List.map_append]
 simp
theorem mG {α:Type} {f:α→List T} {M l:List α}:mix f M l 0=l.map f:=by simp[mix]
theorem qY {α:Type} {f:α→List T} {M l:List α} (h:M.length=l.length):mix f M l l.length=M.map f:=by simp[mix,← h]
theorem aLP {L:List (List T)} {n:Nat} {e:List T} (h:n<L.length):(L.set n e)[n]?=some e:=by simp[h]
def dA {α:Type} (f:Int→α→α) (c:α→Nat):Int→List α→List α
 |_,[]=>[]
 |k,x::r=>f k x::dA f c (k+c x) r
def aJ {α:Type} (c:α→Nat):List α→Nat
 |[]=>0
 |x::r=>c x+aJ c r
theorem eX {α:Type} {f:Int→α→α} {c:α→Nat} {l:List α}:∀ {k:Int},(dA f c k l).length=l.length:=by
 induction l with
 |nil=>intro k;rfl
 |cons x r ih=>intro k;simp[dA,ih]
theorem fY {α:Type} {f:Int→α→α} {c:α→Nat} {l:List α}:∀ {k:Int} {n:Nat} (hn:n<l.length),(dA f c k l)[n]'(by rw[eX];exact hn)=f (k+aJ c (l.take n)) l[n]:=by
 induction l with
 |nil=>intro k n h;cases h
 |cons x r ih =>
  intro k n h
  cases n with
  |zero=>simp[dA,aJ]
  |succ n =>
   simp only[dA,List.getElem_cons_succ,List.take_succ_cons,aJ]
   rw[ih (by simpa using h)]
   congr 1
   push_cast;omega
theorem eH {α:Type} {c:α→Nat} {l:List α}:∀ {n:Nat} (hn:n<l.length),aJ c (l.take (n+1))=aJ c (l.take n)+c l[n]:=by
 induction l with
 |nil=>intro n h;cases h
 |cons x r ih =>
  intro n h
  cases n with
  |zero=>simp[aJ]
  |succ n =>
   simp only[List.take_succ_cons,aJ,List.getElem_cons_succ]
   rw[ih (by simpa using h)];omega
theorem iP {α:Type} {c:α→Nat} {l:List α}:∀ {n:Nat},aJ c (l.take n)≤aJ c l:=by
 induction l with
 |nil=>intro n;simp[aJ]
 |cons x r ih =>
  intro n
  cases n with
  |zero=>simp[aJ]
  |succ n=>simp only[List.take_succ_cons,aJ];have:=ih (n:=n);omega
def cC (k:Int):UInt8:=UInt8.ofNat (k%256).toNat
theorem dP (k:Int):((cC k).toNat:Int)=IntKind.u8.wrap k:=by
 unfold cC
 rw[UInt8.toNat_ofNat']
 simp only[IntKind.wrap,IntKind.bits,IntKind.signed]
 have h1:0≤k%256:=Int.emod_nonneg _ (by omega)
 have h2:k%256<256:=Int.emod_lt_of_pos _ (by omega)
 simp
 omega
def Sent.cs (x:Sent):List CA:=[ci x.frm,ci x.to,ci x.i]
theorem lB {E:Env} (hE:Sys E) (l:List UInt8) (left:Int) (hb:l.length≤140737488355328) (r0:rg left):E 9 [sv (bys l),iv left]=some ([iv (iF left l.length)],[]):=by
 obtain⟨hl0,hl1⟩:=r0
 refine hE.run rfl rfl fun W hW=>?_
 conv=>lhs;whnf
 have hw:IntKind.i64.wrap (left-((bys l).length:Int))=left-l.length:=by
  rw[show(bys l).length=l.length from List.length_map _];exact aG (by omega)
 apply hW.b<;>intro h<;>conv=>lhs;whnf
 ·rw[hw]at h
  simp only[decide_eq_true_eq]at h
  simp only[iF,if_pos h];rfl
 ·rw[hw]at h
  simp only[decide_eq_false_iff_not]at h
  rw[show iF left l.length=left-l.length from if_neg h,← hw];rfl
theorem lC {E:Env} (hE:Sys E) (l:List UInt8) (hb:l.length≤1048576):E 12 [sv (bys l)]=some ([ov 1 (bys l)],[]):=by
 have h0:l.length≤1048576:=hb
 refine hE.run rfl rfl fun W hW=>?_
 conv=>lhs;whnf
 refine hW.q (by(simp[bys,bQ]<;>omega)) ?_
 conv=>lhs;whnf
 refine hW.loop (σ:=Nat) (γ:=Nat) (fun i s=>(s.sl 4 (v1 (.t (.int .i64 i)))).bl ⟨700,1, .own,(l.take i).map mU++List.replicate (l.length-i) [.int .u8 0]⟩) (fun i n=>i=n∧n≤l.length) (fun n=>l.length-n) (fun _=>([ov 1 (bys l)],[])) 0 0 ?_ ?_ ?_ ?_
 ·intro K
  conv=>lhs;whnf
  conv=>rhs;whnf
  try rfl
  simp[bys,bQ]
 ·simp
 ·rintro kl n _ ⟨rfl,hn⟩ ih
  conv=>lhs;whnf
  apply hW.b<;>intro h2<;>conv=>lhs;whnf
  ·have h2:n<l.length:=by simpa[bys,bQ] using h2
   repeat((first|apply hW.t|apply hW.f|(apply hW.q;exact rqc)|(refine hW.w (cA ?_) ?_;omega));conv=>lhs;whnf)
   apply hW.w (dO h2 _)
   conv=>lhs;whnf
   repeat((first|apply hW.t|apply hW.f|(apply hW.q;exact rqc)|(refine hW.w (cA ?_) ?_;omega));conv=>lhs;whnf)
   apply hW.w (dO h2 _)
   conv=>lhs;whnf
   repeat((first|apply hW.t|apply hW.f|(apply hW.q;exact rqc)|(refine hW.w (cA ?_) ?_;omega));conv=>lhs;whnf)
   refine ih (n+1) (n+1) _ ?_ ⟨rfl,by omega⟩ (by omega)
   intro K
   conv=>lhs;whnf
   conv=>rhs;whnf
   try rfl
   rw[show IntKind.i64.wrap ((n:Int)+1)=_ from aH (by omega)]
   refine congrArg K (congrArg (St.mk _) (congrArg (List.cons _) (congrArg (fun x=>[Blk.mk (100*7) 1 .own x]) ?_)))
   exact jR mU h2 _
  ·have:n=l.length:=by simp[bys,bQ]at h2;omega
   subst this
   simp[List.take_length]
   rfl
 ·rfl
theorem lD {E:Env} (hE:Sys E) (l m:List UInt8) (hb:l.length≤1099511627776):E 18 [sv (bys l),sv (bys m)]=some ([bv (decide (l=m))],[]):=by
 have h0:l.length≤1099511627776:=hb
 refine hE.run rfl rfl fun W hW=>?_
 conv=>lhs;whnf
 apply hW.b<;>intro h<;>conv=>lhs;whnf
 ·have:l≠m:=by rintro rfl;simp[bys,bQ]at h
  rw[decide_eq_false this];rfl
 ·have h:l.length=m.length:=by simp[bys,bQ]at h;omega
  refine hW.loop (σ:=Nat) (γ:=Nat) (fun i s=>s.sl 5 (v1 (.t (.int .i64 i)))) (fun i n=>i=n∧n≤l.length) (fun n=>l.length-n) (fun n=>([bv (decide (l.drop n=m.drop n))],[])) 0 0 ?_ ?_ ?_ ?_
  ·intro K
   conv=>lhs;whnf
   conv=>rhs;whnf
   try rfl
  ·simp
  ·rintro kl n _ ⟨rfl,hn⟩ ih
   conv=>lhs;whnf
   apply hW.b<;>intro h2<;>conv=>lhs;whnf
   ·have h2:n<l.length:=by simpa[bys,bQ] using h2
    rw[List.drop_eq_getElem_cons h2,List.drop_eq_getElem_cons (l:=m) (i:=n) (by omega)]
    repeat((first|apply hW.t|apply hW.f|(apply hW.q;exact rqc)|(refine hW.w (cA ?_) ?_;omega));conv=>lhs;whnf)
    apply hW.b<;>intro h3<;>conv=>lhs;whnf
    ·have h3:l[n]≠m[n]:=fun e=>by rw[e]at h3;simp at h3
     rw[decide_eq_false fun e=>h3 (List.cons.inj e).1];rfl
    ·have h3:l[n]=m[n]:=by
      simp at h3
      exact UInt8.toNat_inj.mp (by omega)
     simp only[h3,List.cons.injEq,true_and]
     refine ih (n+1) (n+1) _ ?_ ⟨rfl,by omega⟩ (by omega)
     intro K
     conv=>lhs;whnf
     conv=>rhs;whnf
     try rfl
     rw[show IntKind.i64.wrap ((n:Int)+1)=_ from aH (by omega)]
   ·have:n=l.length:=by simp[bys,bQ]at h2;omega
    subst this
    rw[List.drop_length,h,List.drop_length];rfl
  ·rfl
theorem aJs {E:Env} (hE:Sys E) (l:List Int) (left:Int) (hb:l.length≤140737488355328) (r0:rg left):E 142 [sv (bQ l),iv left]=some ([iv (iF left l.length)],[]):=by
 obtain⟨hl0,hl1⟩:=r0
 refine hE.run rfl rfl fun W hW=>?_
 conv=>lhs;whnf
 have hw:IntKind.i64.wrap (left-((bQ l).length:Int))=left-l.length:=by
  rw[show(bQ l).length=l.length from List.length_map _];exact aG (by omega)
 apply hW.b<;>intro h<;>conv=>lhs;whnf
 ·rw[hw]at h
  simp only[decide_eq_true_eq]at h
  simp only[iF,if_pos h];rfl
 ·rw[hw]at h
  simp only[decide_eq_false_iff_not]at h
  rw[show iF left l.length=left-l.length from if_neg h,← hw];rfl
theorem aJt {E:Env} (hE:Sys E) (l:List Int) (hb:l.length≤1048576):E 144 [sv (bQ l)]=some ([ov 1 (bQ l)],[]):=by
 have h0:l.length≤1048576:=hb
 refine hE.run rfl rfl fun W hW=>?_
 conv=>lhs;whnf
 refine hW.q (by(simp[bys,bQ]<;>omega)) ?_
 conv=>lhs;whnf
 refine hW.loop (σ:=Nat) (γ:=Nat) (fun i s=>(s.sl 4 (v1 (.t (.int .i64 i)))).bl ⟨700,1, .own,(l.take i).map qI++List.replicate (l.length-i) [.int .i64 0]⟩) (fun i n=>i=n∧n≤l.length) (fun n=>l.length-n) (fun _=>([ov 1 (bQ l)],[])) 0 0 ?_ ?_ ?_ ?_
 ·intro K
  conv=>lhs;whnf
  conv=>rhs;whnf
  try rfl
  simp[bys,bQ]
 ·simp
 ·rintro kl n _ ⟨rfl,hn⟩ ih
  conv=>lhs;whnf
  apply hW.b<;>intro h2<;>conv=>lhs;whnf
  ·have h2:n<l.length:=by simpa[bys,bQ] using h2
   repeat((first|apply hW.t|apply hW.f|(apply hW.q;exact rqc)|(refine hW.w (cA ?_) ?_;omega));conv=>lhs;whnf)
   apply hW.w (dO h2 _)
   conv=>lhs;whnf
   repeat((first|apply hW.t|apply hW.f|(apply hW.q;exact rqc)|(refine hW.w (cA ?_) ?_;omega));conv=>lhs;whnf)
   apply hW.w (dO h2 _)
   conv=>lhs;whnf
   repeat((first|apply hW.t|apply hW.f|(apply hW.q;exact rqc)|(refine hW.w (cA ?_) ?_;omega));conv=>lhs;whnf)
   refine ih (n+1) (n+1) _ ?_ ⟨rfl,by omega⟩ (by omega)
   intro K
   conv=>lhs;whnf
   conv=>rhs;whnf
   try rfl
   rw[show IntKind.i64.wrap ((n:Int)+1)=_ from aH (by omega)]
   refine congrArg K (congrArg (St.mk _) (congrArg (List.cons _) (congrArg (fun x=>[Blk.mk (100*7) 1 .own x]) ?_)))
   exact jR qI h2 _
  ·have:n=l.length:=by simp[bys,bQ]at h2;omega
   subst this
   simp[List.take_length]
   rfl
 ·rfl
theorem aJu {E:Env} (hE:Sys E) (l m:List Int) (hb:l.length≤1099511627776):E 147 [sv (bQ l),sv (bQ m)]=some ([bv (decide (l=m))],[]):=by
 have h0:l.length≤1099511627776:=hb
 refine hE.run rfl rfl fun W hW=>?_
 conv=>lhs;whnf
 apply hW.b<;>intro h<;>conv=>lhs;whnf
 ·have:l≠m:=by rintro rfl;simp[bys,bQ]at h
  rw[decide_eq_false this];rfl
 ·have h:l.length=m.length:=by simp[bys,bQ]at h;omega
  refine hW.loop (σ:=Nat) (γ:=Nat) (fun i s=>s.sl 5 (v1 (.t (.int .i64 i)))) (fun i n=>i=n∧n≤l.length) (fun n=>l.length-n) (fun n=>([bv (decide (l.drop n=m.drop n))],[])) 0 0 ?_ ?_ ?_ ?_
  ·intro K
   conv=>lhs;whnf
   conv=>rhs;whnf
   try rfl
  ·simp
  ·rintro kl n _ ⟨rfl,hn⟩ ih
   conv=>lhs;whnf
   apply hW.b<;>intro h2<;>conv=>lhs;whnf
   ·have h2:n<l.length:=by simpa[bys,bQ] using h2
    rw[List.drop_eq_getElem_cons h2,List.drop_eq_getElem_cons (l:=m) (i:=n) (by omega)]
    repeat((first|apply hW.t|apply hW.f|(apply hW.q;exact rqc)|(refine hW.w (cA ?_) ?_;omega));conv=>lhs;whnf)
    apply hW.b<;>intro h3<;>conv=>lhs;whnf
    ·have h3:l[n]≠m[n]:=by simpa using h3
     rw[decide_eq_false fun e=>h3 (List.cons.inj e).1];rfl
    ·have h3:l[n]=m[n]:=by simpa using h3
     simp only[h3,List.cons.injEq,true_and]
     refine ih (n+1) (n+1) _ ?_ ⟨rfl,by omega⟩ (by omega)
     intro K
     conv=>lhs;whnf
     conv=>rhs;whnf
     try rfl
     rw[show IntKind.i64.wrap ((n:Int)+1)=_ from aH (by omega)]
   ·have:n=l.length:=by simp[bys,bQ]at h2;omega
    subst this
    rw[List.drop_length,h,List.drop_length];rfl
  ·rfl
theorem aJv {E:Env} (hE:Sys E) (l:List Sum) (left:Int) (hb:l.length≤140737488355328) (r0:rg left):E 53 [sv (l.map Sum.row),iv left]=some ([iv (iF left l.length)],[]):=by
 obtain⟨hl0,hl1⟩:=r0
 refine hE.run rfl rfl fun W hW=>?_
 conv=>lhs;whnf
 have hw:IntKind.i64.wrap (left-((l.map Sum.row).length:Int))=left-l.length:=by
  rw[show(l.map Sum.row).length=l.length from List.length_map _];exact aG (by omega)
 apply hW.b<;>intro h<;>conv=>lhs;whnf
 ·rw[hw]at h
  simp only[decide_eq_true_eq]at h
  simp only[iF,if_pos h];rfl
 ·rw[hw]at h
  simp only[decide_eq_false_iff_not]at h
  rw[show iF left l.length=left-l.length from if_neg h,← hw];rfl
theorem aLQ {E:Env} (hE:Sys E) (x:Sum):E 56 [gv (x.cs)]=some ([gv (x.cs)],[]):=by
 refine hE.run rfl rfl fun W hW=>?_
 conv=>lhs;whnf
 rfl
theorem aJw {E:Env} (hE:Sys E) (l:List Sum) (hb:l.length≤1048576):E 57 [sv (l.map Sum.row)]=some ([ov 2 (l.map Sum.row)],[]):=by
 have h0:l.length≤1048576:=hb
 refine hE.run rfl rfl fun W hW=>?_
 conv=>lhs;whnf
 refine hW.q (by(simp[bys,bQ]<;>omega)) ?_
 conv=>lhs;whnf
 refine hW.loop (σ:=Nat) (γ:=Nat) (fun i s=>(s.sl 4 (v1 (.t (.int .i64 i)))).bl ⟨700,2, .own,(l.take i).map Sum.row++List.replicate (l.length-i) [.int .i64 0, .int .i64 0]⟩) (fun i n=>i=n∧n≤l.length) (fun n=>l.length-n) (fun _=>([ov 2 (l.map Sum.row)],[])) 0 0 ?_ ?_ ?_ ?_
 ·intro K
  conv=>lhs;whnf
  conv=>rhs;whnf
  try rfl
  simp[bys,bQ]
 ·simp
 ·rintro kl n _ ⟨rfl,hn⟩ ih
  conv=>lhs;whnf
  apply hW.b<;>intro h2<;>conv=>lhs;whnf
  ·have h2:n<l.length:=by simpa[bys,bQ] using h2
   repeat((first|apply hW.t|apply hW.f|(apply hW.q;exact rqc)|(refine hW.w (cA ?_) ?_;omega));conv=>lhs;whnf)
   apply hW.w (aLQ hE l[n])
   conv=>lhs;whnf
   repeat((first|apply hW.t|apply hW.f|(apply hW.q;exact rqc)|(refine hW.w (cA ?_) ?_;omega));conv=>lhs;whnf)
   apply hW.w (dO h2 _)
   conv=>lhs;whnf
   repeat((first|apply hW.t|apply hW.f|(apply hW.q;exact rqc)|(refine hW.w (cA ?_) ?_;omega));conv=>lhs;whnf)
   apply hW.w (dO h2 _)
   conv=>lhs;whnf
   repeat((first|apply hW.t|apply hW.f|(apply hW.q;exact rqc)|(refine hW.w (cA ?_) ?_;omega));conv=>lhs;whnf)
   refine ih (n+1) (n+1) _ ?_ ⟨rfl,by omega⟩ (by omega)
   intro K
   conv=>lhs;whnf
   conv=>rhs;whnf
   try rfl
   rw[show IntKind.i64.wrap ((n:Int)+1)=_ from aH (by omega)]
   refine congrArg K (congrArg (St.mk _) (congrArg (List.cons _) (congrArg (fun x=>[Blk.mk (100*7) 2 .own x]) ?_)))
   exact jR Sum.row h2 _
  ·have:n=l.length:=by simp[bys,bQ]at h2;omega
   subst this
   simp[List.take_length]
   rfl
 ·rfl
theorem aLR {E:Env} (hE:Sys E) (x y:Sum):E 60 [gv (x.cs),gv (y.cs)]=some ([bv (decide (x=y))],[]):=by
 refine hE.run rfl rfl fun W hW=>?_
 conv=>lhs;whnf
 repeat((first|apply hW.t|apply hW.f|(apply hW.q;exact rqc)|(refine hW.w (cA ?_) ?_;omega));conv=>lhs;whnf)
 apply hW.b<;>intro e0<;>conv=>lhs;whnf
 ·have e0:x.w≠y.w:=by simpa using e0
  rw[decide_eq_false fun e=>e0 (by rw[e])];rfl
 ·have e0:x.w=y.w:=by simpa using e0
  repeat((first|apply hW.t|apply hW.f|(apply hW.q;exact rqc)|(refine hW.w (cA ?_) ?_;omega));conv=>lhs;whnf)
  apply hW.b<;>intro e1<;>conv=>lhs;whnf
  ·have e1:x.s≠y.s:=by simpa using e1
   rw[decide_eq_false fun e=>e1 (by rw[e])];rfl
  ·have e1:x.s=y.s:=by simpa using e1
   have:x=y:=by
    cases x;cases y;simp_all
   rw[decide_eq_true this];rfl
theorem aJx {E:Env} (hE:Sys E) (l m:List Sum) (hb:l.length≤1099511627776):E 61 [sv (l.map Sum.row),sv (m.map Sum.row)]=some ([bv (decide (l=m))],[]):=by
 have h0:l.length≤1099511627776:=hb
 refine hE.run rfl rfl fun W hW=>?_
 conv=>lhs;whnf
 apply hW.b<;>intro h<;>conv=>lhs;whnf
 ·have:l≠m:=by rintro rfl;simp[bys,bQ]at h
  rw[decide_eq_false this];rfl
 ·have h:l.length=m.length:=by simp[bys,bQ]at h;omega
  refine hW.loop (σ:=Nat) (γ:=Nat) (fun i s=>s.sl 5 (v1 (.t (.int .i64 i)))) (fun i n=>i=n∧n≤l.length) (fun n=>l.length-n) (fun n=>([bv (decide (l.drop n=m.drop n))],[])) 0 0 ?_ ?_ ?_ ?_
  ·intro K
   conv=>lhs;whnf
   conv=>rhs;whnf
   try rfl
  ·simp
  ·rintro kl n _ ⟨rfl,hn⟩ ih
   conv=>lhs;whnf
   apply hW.b<;>intro h2<;>conv=>lhs;whnf
   ·have h2:n<l.length:=by simpa[bys,bQ] using h2
    rw[List.drop_eq_getElem_cons h2,List.drop_eq_getElem_cons (l:=m) (i:=n) (by omega)]
    repeat((first|apply hW.t|apply hW.f|(apply hW.q;exact rqc)|(refine hW.w (cA ?_) ?_;omega));conv=>lhs;whnf)
    apply hW.w (aLR hE l[n] m[n])
    conv=>lhs;whnf
    try(apply hW.q;exact rqc;conv=>lhs;whnf)
    apply hW.b<;>intro h3<;>conv=>lhs;whnf
    ·have h3:l[n]≠m[n]:=by simpa using h3
     rw[decide_eq_false fun e=>h3 (List.cons.inj e).1];rfl
    ·have h3:l[n]=m[n]:=by simpa using h3
     simp only[h3,List.cons.injEq,true_and]
     refine ih (n+1) (n+1) _ ?_ ⟨rfl,by omega⟩ (by omega)
     intro K
     conv=>lhs;whnf
     conv=>rhs;whnf
     try rfl
     rw[show IntKind.i64.wrap ((n:Int)+1)=_ from aH (by omega)]
   ·have:n=l.length:=by simp[bys,bQ]at h2;omega
    subst this
    rw[List.drop_length,h,List.drop_length];rfl
  ·rfl
theorem aJy {E:Env} (hE:Sys E) (l:List Kid) (left:Int) (hb:l.length≤140737488355328) (r0:rg left):E 34 [sv (l.map Kid.row),iv left]=some ([iv (iF left l.length)],[]):=by
 obtain⟨hl0,hl1⟩:=r0
 refine hE.run rfl rfl fun W hW=>?_
 conv=>lhs;whnf
 have hw:IntKind.i64.wrap (left-((l.map Kid.row).length:Int))=left-l.length:=by
  rw[show(l.map Kid.row).length=l.length from List.length_map _];exact aG (by omega)
 apply hW.b<;>intro h<;>conv=>lhs;whnf
 ·rw[hw]at h
  simp only[decide_eq_true_eq]at h
  simp only[iF,if_pos h];rfl
 ·rw[hw]at h
  simp only[decide_eq_false_iff_not]at h
  rw[show iF left l.length=left-l.length from if_neg h,← hw];rfl
theorem aLS {E:Env} (hE:Sys E) (x:Kid):E 27 [gv (x.cs)]=some ([gv (x.cs)],[]):=by
 refine hE.run rfl rfl fun W hW=>?_
 conv=>lhs;whnf
 rfl
theorem aJz {E:Env} (hE:Sys E) (l:List Kid) (hb:l.length≤1048576):E 35 [sv (l.map Kid.row)]=some ([ov 5 (l.map Kid.row)],[]):=by
 have h0:l.length≤1048576:=hb
 refine hE.run rfl rfl fun W hW=>?_
 conv=>lhs;whnf
 refine hW.q (by(simp[bys,bQ]<;>omega)) ?_
 conv=>lhs;whnf
 refine hW.loop (σ:=Nat) (γ:=Nat) (fun i s=>(s.sl 4 (v1 (.t (.int .i64 i)))).bl ⟨700,5, .own,(l.take i).map Kid.row++List.replicate (l.length-i) [.int .i64 0, .int .i64 0, .int .i64 0, .int .i64 0, .int .i64 0]⟩) (fun i n=>i=n∧n≤l.length) (fun n=>l.length-n) (fun _=>([ov 5 (l.map Kid.row)],[])) 0 0 ?_ ?_ ?_ ?_
 ·intro K
  conv=>lhs;whnf
  conv=>rhs;whnf
  try rfl
  simp[bys,bQ]
 ·simp
 ·rintro kl n _ ⟨rfl,hn⟩ ih
  conv=>lhs;whnf
  apply hW.b<;>intro h2<;>conv=>lhs;whnf
  ·have h2:n<l.length:=by simpa[bys,bQ] using h2
   repeat((first|apply hW.t|apply hW.f|(apply hW.q;exact rqc)|(refine hW.w (cA ?_) ?_;omega));conv=>lhs;whnf)
   apply hW.w (aLS hE l[n])
   conv=>lhs;whnf
   repeat((first|apply hW.t|apply hW.f|(apply hW.q;exact rqc)|(refine hW.w (cA ?_) ?_;omega));conv=>lhs;whnf)
   apply hW.w (dO h2 _)
   conv=>lhs;whnf
   repeat((first|apply hW.t|apply hW.f|(apply hW.q;exact rqc)|(refine hW.w (cA ?_) ?_;omega));conv=>lhs;whnf)
   apply hW.w (dO h2 _)
   conv=>lhs;whnf
   repeat((first|apply hW.t|apply hW.f|(apply hW.q;exact rqc)|(refine hW.w (cA ?_) ?_;omega));conv=>lhs;whnf)
   refine ih (n+1) (n+1) _ ?_ ⟨rfl,by omega⟩ (by omega)
   intro K
   conv=>lhs;whnf
   conv=>rhs;whnf
   try rfl
   rw[show IntKind.i64.wrap ((n:Int)+1)=_ from aH (by omega)]
   refine congrArg K (congrArg (St.mk _) (congrArg (List.cons _) (congrArg (fun x=>[Blk.mk (100*7) 5 .own x]) ?_)))
   exact jR Kid.row h2 _
  ·have:n=l.length:=by simp[bys,bQ]at h2;omega
   subst this
   simp[List.take_length]
   rfl
 ·rfl
theorem aLT {E:Env} (hE:Sys E) (x y:Kid):E 33 [gv (x.cs),gv (y.cs)]=some ([bv (decide (x=y))],[]):=by
 refine hE.run rfl rfl fun W hW=>?_
 conv=>lhs;whnf
 repeat((first|apply hW.t|apply hW.f|(apply hW.q;exact rqc)|(refine hW.w (cA ?_) ?_;omega));conv=>lhs;whnf)
 apply hW.b<;>intro e0<;>conv=>lhs;whnf
 ·have e0:x.id≠y.id:=by simpa using e0
  rw[decide_eq_false fun e=>e0 (by rw[e])];rfl
 ·have e0:x.id=y.id:=by simpa using e0
  repeat((first|apply hW.t|apply hW.f|(apply hW.q;exact rqc)|(refine hW.w (cA ?_) ?_;omega));conv=>lhs;whnf)
  apply hW.b<;>intro e1<;>conv=>lhs;whnf
  ·have e1:x.want≠y.want:=by simpa using e1
   rw[decide_eq_false fun e=>e1 (by rw[e])];rfl
  ·have e1:x.want=y.want:=by simpa using e1
   repeat((first|apply hW.t|apply hW.f|(apply hW.q;exact rqc)|(refine hW.w (cA ?_) ?_;omega));conv=>lhs;whnf)
   apply hW.b<;>intro e2<;>conv=>lhs;whnf
   ·have e2:x.done≠y.done:=by simpa using e2
    rw[decide_eq_false fun e=>e2 (by rw[e])];rfl
   ·have e2:x.done=y.done:=by simpa using e2
    repeat((first|apply hW.t|apply hW.f|(apply hW.q;exact rqc)|(refine hW.w (cA ?_) ?_;omega));conv=>lhs;whnf)
    apply hW.b<;>intro e3<;>conv=>lhs;whnf
    ·have e3:x.age≠y.age:=by simpa using e3
     rw[decide_eq_false fun e=>e3 (by rw[e])];rfl
    ·have e3:x.age=y.age:=by simpa using e3
     repeat((first|apply hW.t|apply hW.f|(apply hW.q;exact rqc)|(refine hW.w (cA ?_) ?_;omega));conv=>lhs;whnf)
     apply hW.b<;>intro e4<;>conv=>lhs;whnf
     ·have e4:x.sent≠y.sent:=by simpa using e4
      rw[decide_eq_false fun e=>e4 (by rw[e])];rfl
     ·have e4:x.sent=y.sent:=by simpa using e4
      have:x=y:=by
       cases x;cases y;simp_all
      rw[decide_eq_true this];rfl
theorem aJA {E:Env} (hE:Sys E) (l m:List Kid) (hb:l.length≤1099511627776):E 38 [sv (l.map Kid.row),sv (m.map Kid.row)]=some ([bv (decide (l=m))],[]):=by
 have h0:l.length≤1099511627776:=hb
 refine hE.run rfl rfl fun W hW=>?_
 conv=>lhs;whnf
 apply hW.b<;>intro h<;>conv=>lhs;whnf
 ·have:l≠m:=by rintro rfl;simp[bys,bQ]at h
  rw[decide_eq_false this];rfl
 ·have h:l.length=m.length:=by simp[bys,bQ]at h;omega
  refine hW.loop (σ:=Nat) (γ:=Nat) (fun i s=>s.sl 5 (v1 (.t (.int .i64 i)))) (fun i n=>i=n∧n≤l.length) (fun n=>l.length-n) (fun n=>([bv (decide (l.drop n=m.drop n))],[])) 0 0 ?_ ?_ ?_ ?_
  ·intro K
   conv=>lhs;whnf
   conv=>rhs;whnf
   try rfl
  ·simp
  ·rintro kl n _ ⟨rfl,hn⟩ ih
   conv=>lhs;whnf
   apply hW.b<;>intro h2<;>conv=>lhs;whnf
   ·have h2:n<l.length:=by simpa[bys,bQ] using h2
    rw[List.drop_eq_getElem_cons h2,List.drop_eq_getElem_cons (l:=m) (i:=n) (by omega)]
    repeat((first|apply hW.t|apply hW.f|(apply hW.q;exact rqc)|(refine hW.w (cA ?_) ?_;omega));conv=>lhs;whnf)
    apply hW.w (aLT hE l[n] m[n])
    conv=>lhs;whnf
    try(apply hW.q;exact rqc;conv=>lhs;whnf)
    apply hW.b<;>intro h3<;>conv=>lhs;whnf
    ·have h3:l[n]≠m[n]:=by simpa using h3
     rw[decide_eq_false fun e=>h3 (List.cons.inj e).1];rfl
    ·have h3:l[n]=m[n]:=by simpa using h3
     simp only[h3,List.cons.injEq,true_and]
     refine ih (n+1) (n+1) _ ?_ ⟨rfl,by omega⟩ (by omega)
     intro K
     conv=>lhs;whnf
     conv=>rhs;whnf
     try rfl
     rw[show IntKind.i64.wrap ((n:Int)+1)=_ from aH (by omega)]
   ·have:n=l.length:=by simp[bys,bQ]at h2;omega
    subst this
    rw[List.drop_length,h,List.drop_length];rfl
  ·rfl
theorem aAb {E:Env} (hE:Sys E) (x:Rec):E 184 [gv (x.cs)]=some ([gv (x.cs)],[]):=by
 refine hE.run rfl rfl fun W hW=>?_
 conv=>lhs;whnf
 rfl
theorem aAc {E:Env} (hE:Sys E) (x y:Rec):E 202 [gv (x.cs),gv (y.cs)]=some ([bv (decide (x=y))],[]):=by
 refine hE.run rfl rfl fun W hW=>?_
 conv=>lhs;whnf
 repeat((first|apply hW.t|apply hW.f|(apply hW.q;exact rqc)|(refine hW.w (cA ?_) ?_;omega));conv=>lhs;whnf)
 apply hW.b<;>intro e0<;>conv=>lhs;whnf
 ·have e0:x.gen≠y.gen:=by simpa using e0
  rw[decide_eq_false fun e=>e0 (by rw[e])];rfl
 ·have e0:x.gen=y.gen:=by simpa using e0
  repeat((first|apply hW.t|apply hW.f|(apply hW.q;exact rqc)|(refine hW.w (cA ?_) ?_;omega));conv=>lhs;whnf)
  apply hW.b<;>intro e1<;>conv=>lhs;whnf
  ·have e1:x.slot≠y.slot:=by simpa using e1
   rw[decide_eq_false fun e=>e1 (by rw[e])];rfl
  ·have e1:x.slot=y.slot:=by simpa using e1
   repeat((first|apply hW.t|apply hW.f|(apply hW.q;exact rqc)|(refine hW.w (cA ?_) ?_;omega));conv=>lhs;whnf)
   apply hW.b<;>intro e2<;>conv=>lhs;whnf
   ·have e2:x.len≠y.len:=by simpa using e2
    rw[decide_eq_false fun e=>e2 (by rw[e])];rfl
   ·have e2:x.len=y.len:=by simpa using e2
    have:x=y:=by
     cases x;cases y;simp_all
    rw[decide_eq_true this];rfl
def Man.lim (B:Nat) (x:Man):Prop:=x.sums.length≤B
theorem Man.lim_mono {B C:Nat} (h:B≤C) {x:Man} (hx:x.lim B):x.lim C:=by
 exact Nat.le_trans (id hx) h
def Man.sz (x:Man) (v0:Int):Int:=thn ((fun v=>iF v x.sums.length) v0) fun v1=>v1
theorem Man.sz_rg {x:Man} {left:Int} (r0:rg left):rg (x.sz left):=by
 unfold Man.sz
 refine jA fun _=>?_
 exact(cP r0)
theorem Man.sz_ok {x:Man} {left:Int} (r0:rg left) (h:¬ x.sz left<0):x.lim 1048576:=by
 unfold Man.sz at h
 obtain⟨g0,h⟩:=iZ h
 exact(jQ r0 g0).1
theorem aCc {E:Env} (hE:Sys E) (x:Man) (left:Int) (hb:x.lim 140737488355328) (r0:rg left):E 54 [gv (x.cs aM),iv left]=some ([iv (x.sz left)],[]):=by
 unfold Man.sz
 refine hE.run rfl rfl fun W hW=>?_
 conv=>lhs;whnf
 apply hW.w (aJv hE x.sums (left) hb r0)
 conv=>lhs;whnf
 try(apply hW.q;exact rqc;conv=>lhs;whnf)
 have r1:rg (iF (left) x.sums.length):=cP r0
 apply hW.b<;>intro g0<;>conv=>lhs;whnf
 ·rw[pP (by simpa using g0)];rfl
 ·rw[oE (by simpa using g0)]
  rfl
theorem aCd {E:Env} (hE:Sys E) (x:Man) (hb:x.lim 1048576):E 58 [gv (x.cs aM)]=some ([gv (x.cs dD)],[]):=by
 refine hE.run rfl rfl fun W hW=>?_
 conv=>lhs;whnf
 apply hW.w (aJw hE x.sums hb)
 conv=>lhs;whnf
 try(apply hW.q;exact rqc;conv=>lhs;whnf)
 rfl
theorem aCe {E:Env} (hE:Sys E) (x y:Man) (hb:x.lim 1099511627776):E 62 [gv (x.cs aM),gv (y.cs aM)]=some ([bv (decide (x=y))],[]):=by
 refine hE.run rfl rfl fun W hW=>?_
 conv=>lhs;whnf
 repeat((first|apply hW.t|apply hW.f|(apply hW.q;exact rqc)|(refine hW.w (cA ?_) ?_;omega));conv=>lhs;whnf)
 apply hW.b<;>intro e0<;>conv=>lhs;whnf
 ·have e0:x.gen≠y.gen:=by simpa using e0
  rw[decide_eq_false fun e=>e0 (by rw[e])];rfl
 ·have e0:x.gen=y.gen:=by simpa using e0
  repeat((first|apply hW.t|apply hW.f|(apply hW.q;exact rqc)|(refine hW.w (cA ?_) ?_;omega));conv=>lhs;whnf)
  apply hW.b<;>intro e1<;>conv=>lhs;whnf
  ·have e1:x.size≠y.size:=by simpa using e1
   rw[decide_eq_false fun e=>e1 (by rw[e])];rfl
  ·have e1:x.size=y.size:=by simpa using e1
   repeat((first|apply hW.t|apply hW.f|(apply hW.q;exact rqc)|(refine hW.w (cA ?_) ?_;omega));conv=>lhs;whnf)
   apply hW.b<;>intro e2<;>conv=>lhs;whnf
   ·have e2:x.len≠y.len:=by simpa using e2
    rw[decide_eq_false fun e=>e2 (by rw[e])];rfl
   ·have e2:x.len=y.len:=by simpa using e2
    apply hW.w (aJx hE x.sums y.sums hb)
    conv=>lhs;whnf
    try(apply hW.q;exact rqc;conv=>lhs;whnf)
    apply hW.b<;>intro e3<;>conv=>lhs;whnf
    ·have e3:x.sums≠y.sums:=by simpa using e3
     rw[decide_eq_false fun e=>e3 (by rw[e])];rfl
    ·have e3:x.sums=y.sums:=by simpa using e3
     have:x=y:=by
      cases x;cases y;simp_all
     rw[decide_eq_true this];rfl
def Bld.lim (B:Nat) (x:Bld):Prop:=x.buf.length≤B
theorem Bld.lim_mono {B C:Nat} (h:B≤C) {x:Bld} (hx:x.lim B):x.lim C:=by
 exact Nat.le_trans (id hx) h
def Bld.sz (x:Bld) (v0:Int):Int:=thn ((fun v=>iF v x.buf.length) v0) fun v1=>v1
theorem Bld.sz_rg {x:Bld} {left:Int} (r0:rg left):rg (x.sz left):=by
 unfold Bld.sz
 refine jA fun _=>?_
 exact(cP r0)
theorem Bld.sz_ok {x:Bld} {left:Int} (r0:rg left) (h:¬ x.sz left<0):x.lim 1048576:=by
 unfold Bld.sz at h
 obtain⟨g0,h⟩:=iZ h
 exact(jQ r0 g0).1
theorem aHj {E:Env} (hE:Sys E) (x:Bld) (left:Int) (hb:x.lim 140737488355328) (r0:rg left):E 55 [gv (x.cs aM),iv left]=some ([iv (x.sz left)],[]):=by
 unfold Bld.sz
 refine hE.run rfl rfl fun W hW=>?_
 conv=>lhs;whnf
 apply hW.w (lB hE x.buf (left) hb r0)
 conv=>lhs;whnf
 try(apply hW.q;exact rqc;conv=>lhs;whnf)
 have r1:rg (iF (left) x.buf.length):=cP r0
 apply hW.b<;>intro g0<;>conv=>lhs;whnf
 ·rw[pP (by simpa using g0)];rfl
 ·rw[oE (by simpa using g0)]
  rfl
theorem aHk {E:Env} (hE:Sys E) (x:Bld) (hb:x.lim 1048576):E 59 [gv (x.cs aM)]=some ([gv (x.cs dD)],[]):=by
 refine hE.run rfl rfl fun W hW=>?_
 conv=>lhs;whnf
 apply hW.w (lC hE x.buf hb)
 conv=>lhs;whnf
 try(apply hW.q;exact rqc;conv=>lhs;whnf)
 rfl
theorem aHl {E:Env} (hE:Sys E) (x y:Bld) (hb:x.lim 1099511627776):E 63 [gv (x.cs aM),gv (y.cs aM)]=some ([bv (decide (x=y))],[]):=by
 refine hE.run rfl rfl fun W hW=>?_
 conv=>lhs;whnf
 repeat((first|apply hW.t|apply hW.f|(apply hW.q;exact rqc)|(refine hW.w (cA ?_) ?_;omega));conv=>lhs;whnf)
 apply hW.b<;>intro e0<;>conv=>lhs;whnf
 ·have e0:x.hav≠y.hav:=by simpa using e0
  rw[decide_eq_false fun e=>e0 (by rw[e])];rfl
 ·have e0:x.hav=y.hav:=by simpa using e0
  apply hW.w (lD hE x.buf y.buf hb)
  conv=>lhs;whnf
  try(apply hW.q;exact rqc;conv=>lhs;whnf)
  apply hW.b<;>intro e1<;>conv=>lhs;whnf
  ·have e1:x.buf≠y.buf:=by simpa using e1
   rw[decide_eq_false fun e=>e1 (by rw[e])];rfl
  ·have e1:x.buf=y.buf:=by simpa using e1
   have:x=y:=by
    cases x;cases y;simp_all
   rw[decide_eq_true this];rfl
def Put.lim (B:Nat) (x:Put):Prop:=x.b.length≤B
theorem Put.lim_mono {B C:Nat} (h:B≤C) {x:Put} (hx:x.lim B):x.lim C:=by
 exact Nat.le_trans (id hx) h
def Put.sz (x:Put) (v0:Int):Int:=thn ((fun v=>iF v x.b.length) v0) fun v1=>v1
theorem Put.sz_rg {x:Put} {left:Int} (r0:rg left):rg (x.sz left):=by
 unfold Put.sz
 refine jA fun _=>?_
 exact(cP r0)
theorem Put.sz_ok {x:Put} {left:Int} (r0:rg left) (h:¬ x.sz left<0):x.lim 1048576:=by
 unfold Put.sz at h
 obtain⟨g0,h⟩:=iZ h
 exact(jQ r0 g0).1
theorem aLU {E:Env} (hE:Sys E) (x:Put) (left:Int) (hb:x.lim 140737488355328) (r0:rg left):E 174 [gv (x.cs aM),iv left]=some ([iv (x.sz left)],[]):=by
 unfold Put.sz
 refine hE.run rfl rfl fun W hW=>?_
 conv=>lhs;whnf
 apply hW.w (lB hE x.b (left) hb r0)
 conv=>lhs;whnf
 try(apply hW.q;exact rqc;conv=>lhs;whnf)
 have r1:rg (iF (left) x.b.length):=cP r0
 apply hW.b<;>intro g0<;>conv=>lhs;whnf
 ·rw[pP (by simpa using g0)];rfl
 ·rw[oE (by simpa using g0)]
  rfl
theorem aJB {E:Env} (hE:Sys E) {o:Bool} (l:List Put) (left:Int) (hb:aAa (fun B=>Put.lim B) 140737488355328 l) (r0:rg left) :
 E 173 [sv (l.map (Put.row o)),iv left]=some ([iv (szS Put.sz l left)],[]):=by
 obtain⟨h0,hb⟩:=hb
 have hl:=aN1 r0
 unfold szS
 refine hE.run rfl rfl fun W hW=>?_
 conv=>lhs;whnf
 have hw:IntKind.i64.wrap (left-((l.map (Put.row o)).length:Int))=left-l.length:=by rw[List.length_map];exact aG (by omega)
 apply hW.b<;>intro h<;>conv=>lhs;whnf
 ·rw[hw]at h
  have h:left-l.length<0:=by simpa using h
  have h1:iF left l.length = -1:=if_pos h
  rw[h1];rfl
 ·rw[hw]at h
  have h:¬ left-(l.length:Int)<0:=by simpa using h
  have h1:iF left l.length=left-l.length:=if_neg h
  rw[h1,oE h]
  refine hW.loop (σ:=Nat × Int) (γ:=Nat) (fun i s=>(s.sl 5 (v1 (.t (.int .i64 i.1)))).sl 1 (v1 (.t (.int .i64 i.2)))) (fun i n=>i.1=n∧n≤l.length∧0≤i.2∧rg i.2∧szL Put.sz (l.drop n) i.2=szL Put.sz l (left-l.length)) (fun n=>l.length-n) (fun _=>([iv (szL Put.sz l (left-l.length))],[])) (0,left-l.length) 0 ?_ ?_ ?_ ?_
  ·intro K
   conv=>lhs;whnf
   conv=>rhs;whnf
   try rfl
   rw[hw];rfl
  ·exact⟨rfl,by omega,by simpa using h,by rw[← h1];exact cP r0,rfl⟩
  ·rintro kl ⟨n,y⟩ _ ⟨rfl,hn,hy0,hy1,hy⟩ ih
   conv=>lhs;whnf
   apply hW.b<;>intro h2<;>conv=>lhs;whnf
   ·have h2:n<l.length:=by simpa using h2
    simp only at hy hn hy1 hy0
    rw[List.drop_eq_getElem_cons h2,szL]at hy
    repeat((first|apply hW.t|apply hW.f|(apply hW.q;exact rqc)|(refine hW.w (cA ?_) ?_;omega));conv=>lhs;whnf)
    apply hW.w (aLU hE l[n] y (hb _ (List.getElem_mem h2)) hy1)
    conv=>lhs;whnf
    try(apply hW.q;exact rqc;conv=>lhs;whnf)
    apply hW.b<;>intro h3<;>conv=>lhs;whnf
    ·have h3:l[n].sz y<0:=by simpa using h3
     rw[pP h3]at hy
     rw[← hy];rfl
    ·have h3:¬ l[n].sz y<0:=by simpa using h3
     rw[oE h3]at hy
     refine ih (n+1,l[n].sz y) (n+1) _ ?_ ⟨rfl,by omega,by simpa using h3,Put.sz_rg hy1,hy⟩ (by omega)
     intro K
     conv=>lhs;whnf
     conv=>rhs;whnf
     try rfl
     rw[show IntKind.i64.wrap ((n:Int)+1)=_ from aH (by omega)]
   ·have:n=l.length:=by simp at h2 hn;omega
    subst this
    rw[List.drop_length]at hy
    simp only[szL]at hy
    rw[← hy];rfl
  ·rfl
theorem aLV {E:Env} (hE:Sys E) (x:Put) (hb:x.lim 1048576):E 186 [gv (x.cs aM)]=some ([gv (x.cs dD)],[]):=by
 refine hE.run rfl rfl fun W hW=>?_
 conv=>lhs;whnf
 apply hW.w (lC hE x.b hb)
 conv=>lhs;whnf
 try(apply hW.q;exact rqc;conv=>lhs;whnf)
 apply hW.w (aAb hE x.r)
 conv=>lhs;whnf
 try(apply hW.q;exact rqc;conv=>lhs;whnf)
 rfl
theorem aJC {E:Env} (hE:Sys E) {o:Bool} (l:List Put) (hb:aAa (fun B=>Put.lim B) 1048576 l):E 185 [sv (l.map (Put.row o))]=some ([ov 6 (l.map (Put.row true))],[]):=by
 obtain⟨h0,hb⟩:=hb
 refine hE.run rfl rfl fun W hW=>?_
 conv=>lhs;whnf
 refine hW.q (by(simp[bys,bQ]<;>omega)) ?_
 conv=>lhs;whnf
 refine hW.loop (σ:=Nat) (γ:=Nat) (fun i s=>(s.sl 4 (v1 (.t (.int .i64 i)))).bl ⟨700,6, .own,(l.take i).map (Put.row true)++List.replicate (l.length-i) [.int .i64 0, .int .i64 0, .sl true [], .int .i64 0, .int .i64 0, .int .i64 0]⟩) (fun i n=>i=n∧n≤l.length) (fun n=>l.length-n) (fun _=>([ov 6 (l.map (Put.row true))],[])) 0 0 ?_ ?_ ?_ ?_
 ·intro K
  conv=>lhs;whnf
  conv=>rhs;whnf
  try rfl
  simp[bys,bQ]
 ·simp
 ·rintro kl n _ ⟨rfl,hn⟩ ih
  conv=>lhs;whnf
  apply hW.b<;>intro h2<;>conv=>lhs;whnf
  ·have h2:n<l.length:=by simpa[bys,bQ] using h2
   repeat((first|apply hW.t|apply hW.f|(apply hW.q;exact rqc)|(refine hW.w (cA ?_) ?_;omega));conv=>lhs;whnf)
   apply hW.w (aLV hE l[n] (hb _ (List.getElem_mem h2)))
   conv=>lhs;whnf
   repeat((first|apply hW.t|apply hW.f|(apply hW.q;exact rqc)|(refine hW.w (cA ?_) ?_;omega));conv=>lhs;whnf)
   apply hW.w (dO h2 _)
   conv=>lhs;whnf
   repeat((first|apply hW.t|apply hW.f|(apply hW.q;exact rqc)|(refine hW.w (cA ?_) ?_;omega));conv=>lhs;whnf)
   apply hW.w (dO h2 _)
   conv=>lhs;whnf
   repeat((first|apply hW.t|apply hW.f|(apply hW.q;exact rqc)|(refine hW.w (cA ?_) ?_;omega));conv=>lhs;whnf)
   refine ih (n+1) (n+1) _ ?_ ⟨rfl,by omega⟩ (by omega)
   intro K
   conv=>lhs;whnf
   conv=>rhs;whnf
   try rfl
   rw[show IntKind.i64.wrap ((n:Int)+1)=_ from aH (by omega)]
   refine congrArg K (congrArg (St.mk _) (congrArg (List.cons _) (congrArg (fun x=>[Blk.mk (100*7) 6 .own x]) ?_)))
   exact jR (Put.row true) h2 _
  ·have:n=l.length:=by simp[bys,bQ]at h2;omega
   subst this
   simp[List.take_length]
   rfl
 ·rfl
theorem aLW {E:Env} (hE:Sys E) (x y:Put) (hb:x.lim 1099511627776):E 204 [gv (x.cs aM),gv (y.cs aM)]=some ([bv (decide (x=y))],[]):=by
 refine hE.run rfl rfl fun W hW=>?_
 conv=>lhs;whnf
 repeat((first|apply hW.t|apply hW.f|(apply hW.q;exact rqc)|(refine hW.w (cA ?_) ?_;omega));conv=>lhs;whnf)
 apply hW.b<;>intro e0<;>conv=>lhs;whnf
 ·have e0:x.what≠y.what:=by simpa using e0
  rw[decide_eq_false fun e=>e0 (by rw[e])];rfl
 ·have e0:x.what=y.what:=by simpa using e0
  repeat((first|apply hW.t|apply hW.f|(apply hW.q;exact rqc)|(refine hW.w (cA ?_) ?_;omega));conv=>lhs;whnf)
  apply hW.b<;>intro e1<;>conv=>lhs;whnf
  ·have e1:x.at_≠y.at_:=by simpa using e1
   rw[decide_eq_false fun e=>e1 (by rw[e])];rfl
  ·have e1:x.at_=y.at_:=by simpa using e1
   apply hW.w (lD hE x.b y.b hb)
   conv=>lhs;whnf
   try(apply hW.q;exact rqc;conv=>lhs;whnf)
   apply hW.b<;>intro e2<;>conv=>lhs;whnf
   ·have e2:x.b≠y.b:=by simpa using e2
    rw[decide_eq_false fun e=>e2 (by rw[e])];rfl
   ·have e2:x.b=y.b:=by simpa using e2
    apply hW.w (aAc hE x.r y.r)
    conv=>lhs;whnf
    try(apply hW.q;exact rqc;conv=>lhs;whnf)
    apply hW.b<;>intro e3<;>conv=>lhs;whnf
    ·have e3:x.r≠y.r:=by simpa using e3
     rw[decide_eq_false fun e=>e3 (by rw[e])];rfl
    ·have e3:x.r=y.r:=by simpa using e3
     have:x=y:=by
      cases x;cases y;simp_all
     rw[decide_eq_true this];rfl
theorem aJD {E:Env} (hE:Sys E) {o o':Bool} (l m:List Put) (hb:aAa (fun B=>Put.lim B) 1099511627776 l):E 203 [sv (l.map (Put.row o)),sv (m.map (Put.row o'))]=some ([bv (decide (l=m))],[]):=by
 obtain⟨h0,hb⟩:=hb
 refine hE.run rfl rfl fun W hW=>?_
 conv=>lhs;whnf
 apply hW.b<;>intro h<;>conv=>lhs;whnf
 ·have:l≠m:=by rintro rfl;simp[bys,bQ]at h
  rw[decide_eq_false this];rfl
 ·have h:l.length=m.length:=by simp[bys,bQ]at h;omega
  refine hW.loop (σ:=Nat) (γ:=Nat) (fun i s=>s.sl 5 (v1 (.t (.int .i64 i)))) (fun i n=>i=n∧n≤l.length) (fun n=>l.length-n) (fun n=>([bv (decide (l.drop n=m.drop n))],[])) 0 0 ?_ ?_ ?_ ?_
  ·intro K
   conv=>lhs;whnf
   conv=>rhs;whnf
   try rfl
  ·simp
  ·rintro kl n _ ⟨rfl,hn⟩ ih
   conv=>lhs;whnf
   apply hW.b<;>intro h2<;>conv=>lhs;whnf
   ·have h2:n<l.length:=by simpa[bys,bQ] using h2
    rw[List.drop_eq_getElem_cons h2,List.drop_eq_getElem_cons (l:=m) (i:=n) (by omega)]
    repeat((first|apply hW.t|apply hW.f|(apply hW.q;exact rqc)|(refine hW.w (cA ?_) ?_;omega));conv=>lhs;whnf)
    apply hW.w (aLW hE l[n] m[n] (hb _ (List.getElem_mem h2)))
    conv=>lhs;whnf
    try(apply hW.q;exact rqc;conv=>lhs;whnf)
    apply hW.b<;>intro h3<;>conv=>lhs;whnf
    ·have h3:l[n]≠m[n]:=by simpa using h3
     rw[decide_eq_false fun e=>h3 (List.cons.inj e).1];rfl
    ·have h3:l[n]=m[n]:=by simpa using h3
     simp only[h3,List.cons.injEq,true_and]
     refine ih (n+1) (n+1) _ ?_ ⟨rfl,by omega⟩ (by omega)
     intro K
     conv=>lhs;whnf
     conv=>rhs;whnf
     try rfl
     rw[show IntKind.i64.wrap ((n:Int)+1)=_ from aH (by omega)]
   ·have:n=l.length:=by simp[bys,bQ]at h2;omega
    subst this
    rw[List.drop_length,h,List.drop_length];rfl
  ·rfl
def Pkt.lim (B:Nat) (x:Pkt):Prop:=x.b.length≤B
theorem Pkt.lim_mono {B C:Nat} (h:B≤C) {x:Pkt} (hx:x.lim B):x.lim C:=by
 exact Nat.le_trans (id hx) h
def Pkt.sz (x:Pkt) (v0:Int):Int:=thn ((fun v=>iF v x.b.length) v0) fun v1=>v1
theorem Pkt.sz_rg {x:Pkt} {left:Int} (r0:rg left):rg (x.sz left):=by
 unfold Pkt.sz
 refine jA fun _=>?_
 exact(cP r0)
theorem Pkt.sz_ok {x:Pkt} {left:Int} (r0:rg left) (h:¬ x.sz left<0):x.lim 1048576:=by
 unfold Pkt.sz at h
 obtain⟨g0,h⟩:=iZ h
 exact(jQ r0 g0).1
theorem aFt {E:Env} (hE:Sys E) (x:Pkt) (left:Int) (hb:x.lim 140737488355328) (r0:rg left):E 10 [gv (x.cs aM),iv left]=some ([iv (x.sz left)],[]):=by
 unfold Pkt.sz
 refine hE.run rfl rfl fun W hW=>?_
 conv=>lhs;whnf
 apply hW.w (lB hE x.b (left) hb r0)
 conv=>lhs;whnf
 try(apply hW.q;exact rqc;conv=>lhs;whnf)
 have r1:rg (iF (left) x.b.length):=cP r0
 apply hW.b<;>intro g0<;>conv=>lhs;whnf
 ·rw[pP (by simpa using g0)];rfl
 ·rw[oE (by simpa using g0)]
  rfl
theorem mH {E:Env} (hE:Sys E) (x:Pkt) (hb:x.lim 1048576):E 13 [gv (x.cs aM)]=some ([gv (x.cs dD)],[]):=by
 refine hE.run rfl rfl fun W hW=>?_
 conv=>lhs;whnf
 apply hW.w (lC hE x.b hb)
 conv=>lhs;whnf
 try(apply hW.q;exact rqc;conv=>lhs;whnf)
 rfl
theorem aAd {E:Env} (hE:Sys E) (x y:Pkt) (hb:x.lim 1099511627776):E 19 [gv (x.cs aM),gv (y.cs aM)]=some ([bv (decide (x=y))],[]):=by
 refine hE.run rfl rfl fun W hW=>?_
 conv=>lhs;whnf
 repeat((first|apply hW.t|apply hW.f|(apply hW.q;exact rqc)|(refine hW.w (cA ?_) ?_;omega));conv=>lhs;whnf)
 apply hW.b<;>intro e0<;>conv=>lhs;whnf
 ·have e0:x.frm≠y.frm:=by simpa using e0
  rw[decide_eq_false fun e=>e0 (by rw[e])];rfl
 ·have e0:x.frm=y.frm:=by simpa using e0
  repeat((first|apply hW.t|apply hW.f|(apply hW.q;exact rqc)|(refine hW.w (cA ?_) ?_;omega));conv=>lhs;whnf)
  apply hW.b<;>intro e1<;>conv=>lhs;whnf
  ·have e1:x.to≠y.to:=by simpa using e1
   rw[decide_eq_false fun e=>e1 (by rw[e])];rfl
  ·have e1:x.to=y.to:=by simpa using e1
   apply hW.w (lD hE x.b y.b hb)
   conv=>lhs;whnf
   try(apply hW.q;exact rqc;conv=>lhs;whnf)
   apply hW.b<;>intro e2<;>conv=>lhs;whnf
   ·have e2:x.b≠y.b:=by simpa using e2
    rw[decide_eq_false fun e=>e2 (by rw[e])];rfl
   ·have e2:x.b=y.b:=by simpa using e2
    have:x=y:=by
     cases x;cases y;simp_all
    rw[decide_eq_true this];rfl
theorem aDi {E:Env} (hE:Sys E) {o o':Bool} (l m:List Pkt) (hb:aAa (fun B=>Pkt.lim B) 1099511627776 l):E 24 [sv (l.map (Pkt.row o)),sv (m.map (Pkt.row o'))]=some ([bv (decide (l=m))],[]):=by
 obtain⟨h0,hb⟩:=hb
 refine hE.run rfl rfl fun W hW=>?_
 conv=>lhs;whnf
 apply hW.b<;>intro h<;>conv=>lhs;whnf
 ·have:l≠m:=by rintro rfl;simp[bys,bQ]at h
  rw[decide_eq_false this];rfl
 ·have h:l.length=m.length:=by simp[bys,bQ]at h;omega
  refine hW.loop (σ:=Nat) (γ:=Nat) (fun i s=>s.sl 5 (v1 (.t (.int .i64 i)))) (fun i n=>i=n∧n≤l.length) (fun n=>l.length-n) (fun n=>([bv (decide (l.drop n=m.drop n))],[])) 0 0 ?_ ?_ ?_ ?_
  ·intro K
   conv=>lhs;whnf
   conv=>rhs;whnf
   try rfl
  ·simp
  ·rintro kl n _ ⟨rfl,hn⟩ ih
   conv=>lhs;whnf
   apply hW.b<;>intro h2<;>conv=>lhs;whnf
   ·have h2:n<l.length:=by simpa[bys,bQ] using h2
    rw[List.drop_eq_getElem_cons h2,List.drop_eq_getElem_cons (l:=m) (i:=n) (by omega)]
    repeat((first|apply hW.t|apply hW.f|(apply hW.q;exact rqc)|(refine hW.w (cA ?_) ?_;omega));conv=>lhs;whnf)
    apply hW.w (aAd hE l[n] m[n] (hb _ (List.getElem_mem h2)))
    conv=>lhs;whnf
    try(apply hW.q;exact rqc;conv=>lhs;whnf)
    apply hW.b<;>intro h3<;>conv=>lhs;whnf
    ·have h3:l[n]≠m[n]:=by simpa using h3
     rw[decide_eq_false fun e=>h3 (List.cons.inj e).1];rfl
    ·have h3:l[n]=m[n]:=by simpa using h3
     simp only[h3,List.cons.injEq,true_and]
     refine ih (n+1) (n+1) _ ?_ ⟨rfl,by omega⟩ (by omega)
     intro K
     conv=>lhs;whnf
     conv=>rhs;whnf
     try rfl
     rw[show IntKind.i64.wrap ((n:Int)+1)=_ from aH (by omega)]
   ·have:n=l.length:=by simp[bys,bQ]at h2;omega
    subst this
    rw[List.drop_length,h,List.drop_length];rfl
  ·rfl
def Image.lim (B:Nat) (x:Image):Prop:=x.b.length≤B
def Image.sz (x:Image) (v0:Int):Int:=thn ((fun v=>iF v x.b.length) v0) fun v1=>v1
def Tree.lim (B:Nat) (x:Tree):Prop:=x.up.length≤B
theorem Tree.lim_mono {B C:Nat} (h:B≤C) {x:Tree} (hx:x.lim B):x.lim C:=by
 exact Nat.le_trans (id hx) h
def Tree.sz (x:Tree) (v0:Int):Int:=thn ((fun v=>iF v x.up.length) v0) fun v1=>v1
theorem Tree.sz_rg {x:Tree} {left:Int} (r0:rg left):rg (x.sz left):=by
 unfold Tree.sz
 refine jA fun _=>?_
 exact(cP r0)
theorem Tree.sz_ok {x:Tree} {left:Int} (r0:rg left) (h:¬ x.sz left<0):x.lim 1048576:=by
 unfold Tree.sz at h
 obtain⟨g0,h⟩:=iZ h
 exact(jQ r0 g0).1
theorem aJE {E:Env} (hE:Sys E) (x:Tree) (left:Int) (hb:x.lim 140737488355328) (r0:rg left):E 136 [gv (x.cs aM),iv left]=some ([iv (x.sz left)],[]):=by
 unfold Tree.sz
 refine hE.run rfl rfl fun W hW=>?_
 conv=>lhs;whnf
 apply hW.w (aJs hE x.up (left) hb r0)
 conv=>lhs;whnf
 try(apply hW.q;exact rqc;conv=>lhs;whnf)
 have r1:rg (iF (left) x.up.length):=cP r0
 apply hW.b<;>intro g0<;>conv=>lhs;whnf
 ·rw[pP (by simpa using g0)];rfl
 ·rw[oE (by simpa using g0)]
  rfl
theorem tV {E:Env} (hE:Sys E) (x:Tree) (hb:x.lim 1048576):E 137 [gv (x.cs aM)]=some ([gv (x.cs dD)],[]):=by
 refine hE.run rfl rfl fun W hW=>?_
 conv=>lhs;whnf
 apply hW.w (aJt hE x.up hb)
 conv=>lhs;whnf
 try(apply hW.q;exact rqc;conv=>lhs;whnf)
 rfl
theorem aJF {E:Env} (hE:Sys E) (x y:Tree) (hb:x.lim 1099511627776):E 140 [gv (x.cs aM),gv (y.cs aM)]=some ([bv (decide (x=y))],[]):=by
 refine hE.run rfl rfl fun W hW=>?_
 conv=>lhs;whnf
 apply hW.w (aJu hE x.up y.up hb)
 conv=>lhs;whnf
 try(apply hW.q;exact rqc;conv=>lhs;whnf)
 apply hW.b<;>intro e0<;>conv=>lhs;whnf
 ·have e0:x.up≠y.up:=by simpa using e0
  rw[decide_eq_false fun e=>e0 (by rw[e])];rfl
 ·have e0:x.up=y.up:=by simpa using e0
  have:x=y:=by
   cases x;cases y;simp_all
  rw[decide_eq_true this];rfl
def Disk.lim (B:Nat) (x:Disk):Prop:=x.a.length≤B∧x.b.length≤B∧aAa (fun B=>Put.lim B) B x.p
theorem Disk.lim_mono {B C:Nat} (h:B≤C) {x:Disk} (hx:x.lim B):x.lim C:=by
 obtain⟨h0,h1,h2⟩:=hx
 exact⟨Nat.le_trans h0 h,Nat.le_trans h1 h,aCb (fun x hx=>Put.lim_mono h hx) h h2⟩
def Disk.sz (x:Disk) (v0:Int):Int:=thn ((fun v=>iF v x.a.length) v0) fun v1=>thn ((fun v=>iF v x.b.length) v1) fun v2=>thn (szS Put.sz x.p v2) fun v3=>v3
theorem Disk.sz_rg {x:Disk} {left:Int} (r0:rg left):rg (x.sz left):=by
 unfold Disk.sz
 refine jA fun _=>?_
 refine jA fun _=>?_
 refine jA fun _=>?_
 exact(aKM (fun _ _=>Put.sz_rg) (cP (cP r0)))
theorem Disk.sz_ok {x:Disk} {left:Int} (r0:rg left) (h:¬ x.sz left<0):x.lim 1048576:=by
 unfold Disk.sz at h
 obtain⟨g0,h⟩:=iZ h
 obtain⟨g1,h⟩:=iZ h
 obtain⟨g2,h⟩:=iZ h
 exact⟨(jQ r0 g0).1,(jQ (cP r0) g1).1,aM5 (fun _ _=>Put.sz_rg) (fun _ _=>Put.sz_ok) (cP (cP r0)) g2⟩
theorem aJG {E:Env} (hE:Sys E) {o:Bool} (x:Disk) (left:Int) (hb:x.lim 140737488355328) (r0:rg left):E 166 [gv (x.cs aM o),iv left]=some ([iv (x.sz left)],[]):=by
 obtain⟨h0,h1,h2⟩:=hb
 unfold Disk.sz
 refine hE.run rfl rfl fun W hW=>?_
 conv=>lhs;whnf
 apply hW.w (lB hE x.a (left) h0 r0)
 conv=>lhs;whnf
 try(apply hW.q;exact rqc;conv=>lhs;whnf)
 have r1:rg (iF (left) x.a.length):=cP r0
 apply hW.b<;>intro g0<;>conv=>lhs;whnf
 ·rw[pP (by simpa using g0)];rfl
 ·rw[oE (by simpa using g0)]
  apply hW.w (lB hE x.b (iF (left) x.a.length) h1 r1)
  conv=>lhs;whnf
  try(apply hW.q;exact rqc;conv=>lhs;whnf)
  have r2:rg (iF (iF (left) x.a.length) x.b.length):=cP r1
  apply hW.b<;>intro g1<;>conv=>lhs;whnf
  ·rw[pP (by simpa using g1)];rfl
  ·rw[oE (by simpa using g1)]
   apply hW.w (aJB hE x.p (iF (iF (left) x.a.length) x.b.length) h2 r2)
   conv=>lhs;whnf
   try(apply hW.q;exact rqc;conv=>lhs;whnf)
   have r3:rg (szS Put.sz x.p (iF (iF (left) x.a.length) x.b.length)):=aKM (fun _ _=>Put.sz_rg) r2
   apply hW.b<;>intro g2<;>conv=>lhs;whnf
   ·rw[pP (by simpa using g2)];rfl
   ·rw[oE (by simpa using g2)]
    rfl
theorem tW {E:Env} (hE:Sys E) {o:Bool} (x:Disk) (hb:x.lim 1048576):E 167 [gv (x.cs aM o)]=some ([gv (x.cs dD true)],[]):=by
 obtain⟨h0,h1,h2⟩:=hb
 refine hE.run rfl rfl fun W hW=>?_
 conv=>lhs;whnf
 apply hW.w (lC hE x.a h0)
 conv=>lhs;whnf
 try(apply hW.q;exact rqc;conv=>lhs;whnf)
 apply hW.w (lC hE x.b h1)
 conv=>lhs;whnf
 try(apply hW.q;exact rqc;conv=>lhs;whnf)
 apply hW.w (aAb hE x.r)
 conv=>lhs;whnf
 try(apply hW.q;exact rqc;conv=>lhs;whnf)
 apply hW.w (aJC hE x.p h2)
 conv=>lhs;whnf
 try(apply hW.q;exact rqc;conv=>lhs;whnf)
 rfl
theorem aJH {E:Env} (hE:Sys E) {o o':Bool} (x y:Disk) (hb:x.lim 1099511627776):E 170 [gv (x.cs aM o),gv (y.cs aM o')]=some ([bv (decide (x=y))],[]):=by
 obtain⟨h0,h1,h2⟩:=hb
 refine hE.run rfl rfl fun W hW=>?_
 conv=>lhs;whnf
 apply hW.w (lD hE x.a y.a h0)
 conv=>lhs;whnf
 try(apply hW.q;exact rqc;conv=>lhs;whnf)
 apply hW.b<;>intro e0<;>conv=>lhs;whnf
 ·have e0:x.a≠y.a:=by simpa using e0
  rw[decide_eq_false fun e=>e0 (by rw[e])];rfl
 ·have e0:x.a=y.a:=by simpa using e0
  apply hW.w (lD hE x.b y.b h1)
  conv=>lhs;whnf
  try(apply hW.q;exact rqc;conv=>lhs;whnf)
  apply hW.b<;>intro e1<;>conv=>lhs;whnf
  ·have e1:x.b≠y.b:=by simpa using e1
   rw[decide_eq_false fun e=>e1 (by rw[e])];rfl
  ·have e1:x.b=y.b:=by simpa using e1
   apply hW.w (aAc hE x.r y.r)
   conv=>lhs;whnf
   try(apply hW.q;exact rqc;conv=>lhs;whnf)
   apply hW.b<;>intro e2<;>conv=>lhs;whnf
   ·have e2:x.r≠y.r:=by simpa using e2
    rw[decide_eq_false fun e=>e2 (by rw[e])];rfl
   ·have e2:x.r=y.r:=by simpa using e2
    apply hW.w (aJD hE x.p y.p h2)
    conv=>lhs;whnf
    try(apply hW.q;exact rqc;conv=>lhs;whnf)
    apply hW.b<;>intro e3<;>conv=>lhs;whnf
    ·have e3:x.p≠y.p:=by simpa using e3
     rw[decide_eq_false fun e=>e3 (by rw[e])];rfl
    ·have e3:x.p=y.p:=by simpa using e3
     have:x=y:=by
      cases x;cases y;simp_all
     rw[decide_eq_true this];rfl
def Msg.lim (B:Nat) (x:Msg):Prop:=x.man.lim B∧x.b.length≤B
def Msg.sz (x:Msg) (v0:Int):Int:=thn (Man.sz x.man v0) fun v1=>thn ((fun v=>iF v x.b.length) v1) fun v2=>v2
def Node.lim (B:Nat) (x:Node):Prop:=x.man.lim B∧x.bld.lim B∧x.kids.length≤B
theorem Node.lim_mono {B C:Nat} (h:B≤C) {x:Node} (hx:x.lim B):x.lim C:=by
 obtain⟨h0,h1,h2⟩:=hx
 exact⟨Man.lim_mono h h0,Bld.lim_mono h h1,Nat.le_trans h2 h⟩
def Node.sz (x:Node) (v0:Int):Int:=thn (Man.sz x.man v0) fun v1=>thn (Bld.sz x.bld v1) fun v2=>thn ((fun v=>iF v x.kids.length) v2) fun v3=>v3
theorem Node.sz_rg {x:Node} {left:Int} (r0:rg left):rg (x.sz left):=by
 unfold Node.sz
 refine jA fun _=>?_
 refine jA fun _=>?_
 refine jA fun _=>?_
 exact(cP (Bld.sz_rg (Man.sz_rg r0)))
theorem Node.sz_ok {x:Node} {left:Int} (r0:rg left) (h:¬ x.sz left<0):x.lim 1048576:=by
 unfold Node.sz at h
 obtain⟨g0,h⟩:=iZ h
 obtain⟨g1,h⟩:=iZ h
 obtain⟨g2,h⟩:=iZ h
 exact⟨Man.sz_ok r0 g0,Bld.sz_ok (Man.sz_rg r0) g1,(jQ (Bld.sz_rg (Man.sz_rg r0)) g2).1⟩
theorem aJI {E:Env} (hE:Sys E) (x:Node) (left:Int) (hb:x.lim 140737488355328) (r0:rg left):E 64 [gv (x.cs aM),iv left]=some ([iv (x.sz left)],[]):=by
 obtain⟨h0,h1,h2⟩:=hb
 unfold Node.sz
 refine hE.run rfl rfl fun W hW=>?_
 conv=>lhs;whnf
 apply hW.w (aCc hE x.man (left) h0 r0)
 conv=>lhs;whnf
 try(apply hW.q;exact rqc;conv=>lhs;whnf)
 have r1:rg (Man.sz x.man (left)):=Man.sz_rg r0
 apply hW.b<;>intro g0<;>conv=>lhs;whnf
 ·rw[pP (by simpa using g0)];rfl
 ·rw[oE (by simpa using g0)]
  apply hW.w (aHj hE x.bld (Man.sz x.man (left)) h1 r1)
  conv=>lhs;whnf
  try(apply hW.q;exact rqc;conv=>lhs;whnf)
  have r2:rg (Bld.sz x.bld (Man.sz x.man (left))):=Bld.sz_rg r1
  apply hW.b<;>intro g1<;>conv=>lhs;whnf
  ·rw[pP (by simpa using g1)];rfl
  ·rw[oE (by simpa using g1)]
   apply hW.w (aJy hE x.kids (Bld.sz x.bld (Man.sz x.man (left))) h2 r2)
   conv=>lhs;whnf
   try(apply hW.q;exact rqc;conv=>lhs;whnf)
   have r3:rg (iF (Bld.sz x.bld (Man.sz x.man (left))) x.kids.length):=cP r2
   apply hW.b<;>intro g2<;>conv=>lhs;whnf
   ·rw[pP (by simpa using g2)];rfl
   ·rw[oE (by simpa using g2)]
    rfl
theorem tX {E:Env} (hE:Sys E) (x:Node) (hb:x.lim 1048576):E 65 [gv (x.cs aM)]=some ([gv (x.cs dD)],[]):=by
 obtain⟨h0,h1,h2⟩:=hb
 refine hE.run rfl rfl fun W hW=>?_
 conv=>lhs;whnf
 apply hW.w (aCd hE x.man h0)
 conv=>lhs;whnf
 try(apply hW.q;exact rqc;conv=>lhs;whnf)
 apply hW.w (aHk hE x.bld h1)
 conv=>lhs;whnf
 try(apply hW.q;exact rqc;conv=>lhs;whnf)
 apply hW.w (aJz hE x.kids h2)
 conv=>lhs;whnf
 try(apply hW.q;exact rqc;conv=>lhs;whnf)
 rfl
theorem aEr {E:Env} (hE:Sys E) (x y:Node) (hb:x.lim 1099511627776):E 68 [gv (x.cs aM),gv (y.cs aM)]=some ([bv (decide (x=y))],[]):=by
 obtain⟨h0,h1,h2⟩:=hb
 refine hE.run rfl rfl fun W hW=>?_
 conv=>lhs;whnf
 repeat((first|apply hW.t|apply hW.f|(apply hW.q;exact rqc)|(refine hW.w (cA ?_) ?_;omega));conv=>lhs;whnf)
 apply hW.b<;>intro e0<;>conv=>lhs;whnf
 ·have e0:x.on≠y.on:=by simpa using e0
  rw[decide_eq_false fun e=>e0 (by rw[e])];rfl
 ·have e0:x.on=y.on:=by simpa using e0
  repeat((first|apply hW.t|apply hW.f|(apply hW.q;exact rqc)|(refine hW.w (cA ?_) ?_;omega));conv=>lhs;whnf)
  apply hW.b<;>intro e1<;>conv=>lhs;whnf
  ·have e1:x.boss≠y.boss:=by simpa using e1
   rw[decide_eq_false fun e=>e1 (by rw[e])];rfl
  ·have e1:x.boss=y.boss:=by simpa using e1
   repeat((first|apply hW.t|apply hW.f|(apply hW.q;exact rqc)|(refine hW.w (cA ?_) ?_;omega));conv=>lhs;whnf)
   apply hW.b<;>intro e2<;>conv=>lhs;whnf
   ·have e2:x.quiet≠y.quiet:=by simpa using e2
    rw[decide_eq_false fun e=>e2 (by rw[e])];rfl
   ·have e2:x.quiet=y.quiet:=by simpa using e2
    apply hW.w (aCe hE x.man y.man h0)
    conv=>lhs;whnf
    try(apply hW.q;exact rqc;conv=>lhs;whnf)
    apply hW.b<;>intro e3<;>conv=>lhs;whnf
    ·have e3:x.man≠y.man:=by simpa using e3
     rw[decide_eq_false fun e=>e3 (by rw[e])];rfl
    ·have e3:x.man=y.man:=by simpa using e3
     apply hW.w (aHl hE x.bld y.bld h1)
     conv=>lhs;whnf
     try(apply hW.q;exact rqc;conv=>lhs;whnf)
     apply hW.b<;>intro e4<;>conv=>lhs;whnf
     ·have e4:x.bld≠y.bld:=by simpa using e4
      rw[decide_eq_false fun e=>e4 (by rw[e])];rfl
     ·have e4:x.bld=y.bld:=by simpa using e4
      repeat((first|apply hW.t|apply hW.f|(apply hW.q;exact rqc)|(refine hW.w (cA ?_) ?_;omega));conv=>lhs;whnf)
      apply hW.b<;>intro e5<;>conv=>lhs;whnf
      ·have e5:x.phase≠y.phase:=by simpa using e5
       rw[decide_eq_false fun e=>e5 (by rw[e])];rfl
      ·have e5:x.phase=y.phase:=by simpa using e5
       apply hW.w (aJA hE x.kids y.kids h2)
       conv=>lhs;whnf
       try(apply hW.q;exact rqc;conv=>lhs;whnf)
       apply hW.b<;>intro e6<;>conv=>lhs;whnf
       ·have e6:x.kids≠y.kids:=by simpa using e6
        rw[decide_eq_false fun e=>e6 (by rw[e])];rfl
       ·have e6:x.kids=y.kids:=by simpa using e6
        repeat((first|apply hW.t|apply hW.f|(apply hW.q;exact rqc)|(refine hW.w (cA ?_) ?_;omega));conv=>lhs;whnf)
        apply hW.b<;>intro e7<;>conv=>lhs;whnf
        ·have e7:x.drops≠y.drops:=by simpa using e7
         rw[decide_eq_false fun e=>e7 (by rw[e])];rfl
        ·have e7:x.drops=y.drops:=by simpa using e7
         have:x=y:=by
          cases x;cases y;simp_all
         rw[decide_eq_true this];rfl
def Actn.lim (B:Nat) (x:Actn):Prop:=x.n.lim B∧aAa (fun B=>Pkt.lim B) B x.out
theorem Actn.lim_mono {B C:Nat} (h:B≤C) {x:Actn} (hx:x.lim B):x.lim C:=by
 obtain⟨h0,h1⟩:=hx
 exact⟨Node.lim_mono h h0,aCb (fun x hx=>Pkt.lim_mono h hx) h h1⟩
def Actn.sz (x:Actn) (v0:Int):Int:=thn (Node.sz x.n v0) fun v1=>thn (szS Pkt.sz x.out v1) fun v2=>v2
theorem aDj {E:Env} (hE:Sys E) {o o':Bool} (x y:Actn) (hb:x.lim 1099511627776):E 427 [gv (x.cs aM o),gv (y.cs aM o')]=some ([bv (decide (x=y))],[]):=by
 obtain⟨h0,h1⟩:=hb
 refine hE.run rfl rfl fun W hW=>?_
 conv=>lhs;whnf
 apply hW.w (aEr hE x.n y.n h0)
 conv=>lhs;whnf
 try(apply hW.q;exact rqc;conv=>lhs;whnf)
 apply hW.b<;>intro e0<;>conv=>lhs;whnf
 ·have e0:x.n≠y.n:=by simpa using e0
  rw[decide_eq_false fun e=>e0 (by rw[e])];rfl
 ·have e0:x.n=y.n:=by simpa using e0
  apply hW.w (aDi hE x.out y.out h1)
  conv=>lhs;whnf
  try(apply hW.q;exact rqc;conv=>lhs;whnf)
  apply hW.b<;>intro e1<;>conv=>lhs;whnf
  ·have e1:x.out≠y.out:=by simpa using e1
   rw[decide_eq_false fun e=>e1 (by rw[e])];rfl
  ·have e1:x.out=y.out:=by simpa using e1
   have:x=y:=by
    cases x;cases y;simp_all
   rw[decide_eq_true this];rfl
def Beat.lim (B:Nat) (x:Beat):Prop:=x.n.lim B∧x.d.lim B∧aAa (fun B=>Pkt.lim B) B x.out
def Beat.sz (x:Beat) (v0:Int):Int:=thn (Node.sz x.n v0) fun v1=>thn (Disk.sz x.d v1) fun v2=>thn (szS Pkt.sz x.out v2) fun v3=>v3
def World.lim (B:Nat) (x:World):Prop:=x.t.lim B∧x.new.length≤B∧aAa (fun B=>Image.lim B) B x.old∧aAa (fun B=>Node.lim B) B x.n∧aAa (fun B=>Disk.lim B) B x.d∧aAa (fun B=>Pkt.lim B) B x.net∧x.log.length≤B
def World.sz (x:World) (v0:Int):Int:=thn (Tree.sz x.t v0) fun v1=>thn ((fun v=>iF v x.new.length) v1) fun v2=>thn (szS Image.sz x.old v2) fun v3=>thn (szS Node.sz x.n v3) fun v4=>thn (szS Disk.sz x.d v4) fun v5=>thn (szS Pkt.sz x.net v5) fun v6=>thn ((fun v=>iF v x.log.length) v6) fun v7=>v7
theorem fZ {α:Type} {c:α→Nat} (h:∀ x,1≤c x) {l:List α}:l.length≤aJ c l:=by
 induction l with
 |nil=>simp[aJ]
 |cons x r ih=>have:=h x;simp only[aJ,List.length_cons];omega
theorem mI {α:Type} {f:α→List T} {M l:List α} {n:Nat} {e:List T} (h:M.length=l.length) (hn:n<l.length) (he:f (M[n]'(by omega))=e):(mix f M l n).set n e=mix f M l (n+1):=by
 rw[← he];exact aLO h hn
theorem eY {α:Type} {c:α→Nat} {l:List α} {B m:Nat} (h:l.length≤B) (hc:∀ x∈l,c x≤m):aJ c l≤B*m:=by
 have:aJ c l≤l.length*m:=by
  clear h
  induction l with
  |nil=>simp[aJ]
  |cons x r ih =>
   have h1:=ih fun y hy=>hc y (by simp[hy])
   have h2:=hc x (by simp)
   simp only[aJ,List.length_cons,Nat.succ_mul];omega
 exact Nat.le_trans this (Nat.mul_le_mul_right m h)
theorem bL {L:List (List T)} {n:Nat} {e e':List T} (he:e=e') (h:n<L.length):(L.set n e)[n]?=some e':=by rw[← he];exact aLP h
theorem fQ {E:Env} (hE:Sys E) {zz:Nat} (l:List UInt8) (k:Int) (h0:0≤k) (hk:k+aJ (fun _=>1) l≤4611686018427387904):E 47 [ov zz (bys l),iv k]=some ([iv (k+aJ (fun _=>1) l)],[.own zz (bys (dA (fun k _=>cC k) (fun _=>1) k l))]):=by
 have hM:(dA (fun k _=>cC k) (fun _=>1) k l).length=l.length:=eX
 have hl:l.length≤aJ (fun _=>1) l:=fZ fun _=>by omega
 refine hE.run rfl rfl fun W hW=>?_
 conv=>lhs;whnf
 refine hW.loop (σ:=Nat) (γ:=Nat) (fun i s=>((s.sl 5 (v1 (.t (.int .i64 i)))).sl 1 (v1 (.t (.int .i64 (k+(aJ (fun _=>1) (l.take i):Nat)))))).bl ⟨0,zz, .fix,mix mU (dA (fun k _=>cC k) (fun _=>1) k l) l i⟩) (fun i n=>i=n∧n≤l.length) (fun n=>l.length-n) (fun _=>([iv (k+aJ (fun _=>1) l)],[.own zz (bys (dA (fun k _=>cC k) (fun _=>1) k l))])) 0 0 ?_ ?_ ?_ ?_
 ·intro K
  conv=>lhs;whnf
  conv=>rhs;whnf
  try rfl
  simp[mG,aJ,bys,bQ]
 ·simp
 ·rintro kl n _ ⟨rfl,hn⟩ ih
  conv=>lhs;whnf
  have hml:=qX (f:=mU) hM (n:=n)
  apply hW.b<;>intro h2<;>conv=>lhs;whnf
  ·have h2:n<l.length:=by simpa[hml] using h2
   have hc:=eH (c:=(fun _=>1)) h2
   have hle:=iP (c:=(fun _=>1)) (l:=l) (n:=n+1)
   try simp only[true_and]at hc
   have hk1:k+(aJ (fun _=>1) (l.take (n+1)):Nat)=k+(aJ (fun _=>1) (l.take n):Nat)+1:=by rw[hc];push_cast;omega
   repeat((first|apply hW.t|apply hW.f|(apply hW.q;exact rqc)|(refine hW.w (cA ?_) ?_;omega));conv=>lhs;whnf)
   apply hW.w (gJ hM h2);conv=>lhs;whnf
   repeat((first|apply hW.t|apply hW.f|(apply hW.q;exact rqc));conv=>lhs;whnf)
   apply hW.w (gJ hM h2);conv=>lhs;whnf
   repeat((first|apply hW.t|apply hW.f|(apply hW.q;exact rqc));conv=>lhs;whnf)
   refine ih (n+1) (n+1) _ ?_ ⟨rfl,by omega⟩ (by omega)
   intro K
   conv=>lhs;whnf
   conv=>rhs;whnf
   try rfl
   rw[show IntKind.i64.wrap (k+(aJ (fun _=>1) (l.take n):Nat)+1)=k+(aJ (fun _=>1) (l.take n):Nat)+1 from aG (by omega)]
   rw[show IntKind.i64.wrap ((n:Int)+1)=_ from aH (by omega),hk1]
   refine congrArg K (congrArg (St.mk _) (congrArg (fun x=>[Blk.mk 0 zz .fix x]) ?_))
   simp only[Int.toNat_natCast,List.set_set]
   exact mI hM h2 (by rw[fY h2];first|rfl|(simp only[mU,dP];rfl))
  ·have:n=l.length:=by simp[hml]at h2;omega
   subst this
   simp only[List.take_length,qY hM];rfl
 ·rfl
theorem vE {E:Env} (hE:Sys E) (l:List UInt8) (k:Int) (h0:0≤k) (hk:k+aJ (fun _=>1) l≤4611686018427387904):E 48 [sv (bys (dA (fun k _=>cC k) (fun _=>1) k l)),iv k]=some ([iv (k+aJ (fun _=>1) l)],[]):=by
 have hM:(dA (fun k _=>cC k) (fun _=>1) k l).length=l.length:=eX
 have hrl:(bys (dA (fun k _=>cC k) (fun _=>1) k l)).length=l.length:=by simp[bys,bQ,hM]
 have hget:∀ (n:Nat) (h:n<l.length),(bys (dA (fun k _=>cC k) (fun _=>1) k l))[(n:Int).toNat]?=some (mU ((fun k _=>cC k) (k+(aJ (fun _=>1) (l.take n):Nat)) l[n])):=by
  intro n h
  have:=cA (f:=mU) (l:=dA (fun k _=>cC k) (fun _=>1) k l) (n:=n) (by omega)
  rw[fY h]at this
  exact this
 have hl:l.length≤aJ (fun _=>1) l:=fZ fun _=>by omega
 refine hE.run rfl rfl fun W hW=>?_
 conv=>lhs;whnf
 refine hW.loop (σ:=Nat) (γ:=Nat) (fun i s=>((s.sl 5 (v1 (.t (.int .i64 i)))).sl 1 (v1 (.t (.int .i64 (k+(aJ (fun _=>1) (l.take i):Nat))))))) (fun i n=>i=n∧n≤l.length) (fun n=>l.length-n) (fun _=>([iv (k+aJ (fun _=>1) l)],[])) 0 0 ?_ ?_ ?_ ?_
 ·intro K
  conv=>lhs;whnf
  conv=>rhs;whnf
  try rfl
  simp[aJ]
 ·simp
 ·rintro kl n _ ⟨rfl,hn⟩ ih
  conv=>lhs;whnf
  apply hW.b<;>intro h2<;>conv=>lhs;whnf
  ·have h2:n<l.length:=by simpa[hrl] using h2
   have hc:=eH (c:=(fun _=>1)) h2
   have hle:=iP (c:=(fun _=>1)) (l:=l) (n:=n+1)
   try simp only[true_and]at hc
   have hk1:k+(aJ (fun _=>1) (l.take (n+1)):Nat)=k+(aJ (fun _=>1) (l.take n):Nat)+1:=by rw[hc];push_cast;omega
   repeat((first|apply hW.t|apply hW.f|(apply hW.q;exact rqc));conv=>lhs;whnf)
   (apply hW.w (hget n h2);conv=>lhs;whnf)
   repeat((first|apply hW.t|apply hW.f|(apply hW.q;exact rqc));conv=>lhs;whnf)
   apply hW.bf (by simp[dP])
   conv=>lhs;whnf
   refine ih (n+1) (n+1) _ ?_ ⟨rfl,by omega⟩ (by omega)
   intro K
   conv=>lhs;whnf
   conv=>rhs;whnf
   try rfl
   rw[show IntKind.i64.wrap (k+(aJ (fun _=>1) (l.take n):Nat)+1)=k+(aJ (fun _=>1) (l.take n):Nat)+1 from aG (by omega)]
   rw[show IntKind.i64.wrap ((n:Int)+1)=_ from aH (by omega),hk1]
  ·have:n=l.length:=by simp[hrl]at h2;omega
   subst this
   simp only[List.take_length];rfl
 ·rfl
theorem aFu {E:Env} (hE:Sys E) {zz:Nat} (l:List Int) (k:Int) (h0:0≤k) (hk:k+aJ (fun _=>1) l≤4611686018427387904):E 148 [ov zz (bQ l),iv k]=some ([iv (k+aJ (fun _=>1) l)],[.own zz (bQ (dA (fun k _=>k) (fun _=>1) k l))]):=by
 have hM:(dA (fun k _=>k) (fun _=>1) k l).length=l.length:=eX
 have hl:l.length≤aJ (fun _=>1) l:=fZ fun _=>by omega
 refine hE.run rfl rfl fun W hW=>?_
 conv=>lhs;whnf
 refine hW.loop (σ:=Nat) (γ:=Nat) (fun i s=>((s.sl 5 (v1 (.t (.int .i64 i)))).sl 1 (v1 (.t (.int .i64 (k+(aJ (fun _=>1) (l.take i):Nat)))))).bl ⟨0,zz, .fix,mix qI (dA (fun k _=>k) (fun _=>1) k l) l i⟩) (fun i n=>i=n∧n≤l.length) (fun n=>l.length-n) (fun _=>([iv (k+aJ (fun _=>1) l)],[.own zz (bQ (dA (fun k _=>k) (fun _=>1) k l))])) 0 0 ?_ ?_ ?_ ?_
 ·intro K
  conv=>lhs;whnf
  conv=>rhs;whnf
  try rfl
  simp[mG,aJ,bys,bQ]
 ·simp
 ·rintro kl n _ ⟨rfl,hn⟩ ih
  conv=>lhs;whnf
  have hml:=qX (f:=qI) hM (n:=n)
  apply hW.b<;>intro h2<;>conv=>lhs;whnf
  ·have h2:n<l.length:=by simpa[hml] using h2
   have hc:=eH (c:=(fun _=>1)) h2
   have hle:=iP (c:=(fun _=>1)) (l:=l) (n:=n+1)
   try simp only[true_and]at hc
   have hk1:k+(aJ (fun _=>1) (l.take (n+1)):Nat)=k+(aJ (fun _=>1) (l.take n):Nat)+1:=by rw[hc];push_cast;omega
   repeat((first|apply hW.t|apply hW.f|(apply hW.q;exact rqc)|(refine hW.w (cA ?_) ?_;omega));conv=>lhs;whnf)
   apply hW.w (gJ hM h2);conv=>lhs;whnf
   repeat((first|apply hW.t|apply hW.f|(apply hW.q;exact rqc));conv=>lhs;whnf)
   apply hW.w (gJ hM h2);conv=>lhs;whnf
   repeat((first|apply hW.t|apply hW.f|(apply hW.q;exact rqc));conv=>lhs;whnf)
   refine ih (n+1) (n+1) _ ?_ ⟨rfl,by omega⟩ (by omega)
   intro K
   conv=>lhs;whnf
   conv=>rhs;whnf
   try rfl
   rw[show IntKind.i64.wrap (k+(aJ (fun _=>1) (l.take n):Nat)+1)=k+(aJ (fun _=>1) (l.take n):Nat)+1 from aG (by omega)]
   rw[show IntKind.i64.wrap ((n:Int)+1)=_ from aH (by omega),hk1]
   refine congrArg K (congrArg (St.mk _) (congrArg (fun x=>[Blk.mk 0 zz .fix x]) ?_))
   simp only[Int.toNat_natCast,List.set_set]
   exact mI hM h2 (by rw[fY h2];first|rfl|(simp only[mU,dP];rfl))
  ·have:n=l.length:=by simp[hml]at h2;omega
   subst this
   simp only[List.take_length,qY hM];rfl
 ·rfl
def Sum.mrkE (k:Int) (_:Sum):Sum:=⟨k,k+1⟩
def Sum.cntE (_:Sum):Nat:=0+1+1
theorem aFv {E:Env} (hE:Sys E) {zz:Nat} (l:List Sum) (k:Int) (h0:0≤k) (hk:k+aJ Sum.cntE l≤4611686018427387904):E 75 [ov zz (l.map Sum.row),iv k]=some ([iv (k+aJ Sum.cntE l)],[.own zz ((dA Sum.mrkE Sum.cntE k l).map Sum.row)]):=by
 have hM:(dA Sum.mrkE Sum.cntE k l).length=l.length:=eX
 have hl:l.length≤aJ Sum.cntE l:=fZ fun _=>by simp only[Sum.cntE];omega
 refine hE.run rfl rfl fun W hW=>?_
 conv=>lhs;whnf
 refine hW.loop (σ:=Nat) (γ:=Nat) (fun i s=>((s.sl 5 (v1 (.t (.int .i64 i)))).sl 1 (v1 (.t (.int .i64 (k+(aJ Sum.cntE (l.take i):Nat)))))).bl ⟨0,zz, .fix,mix Sum.row (dA Sum.mrkE Sum.cntE k l) l i⟩) (fun i n=>i=n∧n≤l.length) (fun n=>l.length-n) (fun _=>([iv (k+aJ Sum.cntE l)],[.own zz ((dA Sum.mrkE Sum.cntE k l).map Sum.row)])) 0 0 ?_ ?_ ?_ ?_
 ·intro K
  conv=>lhs;whnf
  conv=>rhs;whnf
  try rfl
  simp[mG,aJ,bys,bQ]
 ·simp
 ·rintro kl n _ ⟨rfl,hn⟩ ih
  conv=>lhs;whnf
  have hml:=qX (f:=Sum.row) hM (n:=n)
  apply hW.b<;>intro h2<;>conv=>lhs;whnf
  ·have h2:n<l.length:=by simpa[hml] using h2
   have hc:=eH (c:=Sum.cntE) h2
   have hle:=iP (c:=Sum.cntE) (l:=l) (n:=n+1)
   try simp only[Sum.cntE]at hc
   have hk1:k+(aJ Sum.cntE (l.take (n+1)):Nat)=k+(aJ Sum.cntE (l.take n):Nat)+1+1:=by rw[hc];push_cast;omega
   repeat((first|apply hW.t|apply hW.f|(apply hW.q;exact rqc)|(refine hW.w (cA ?_) ?_;omega));conv=>lhs;whnf)
   apply hW.w (gJ hM h2);conv=>lhs;whnf
   repeat((first|apply hW.t|apply hW.f|(apply hW.q;exact rqc));conv=>lhs;whnf)
   apply hW.w (gJ hM h2);conv=>lhs;whnf
   repeat((first|apply hW.t|apply hW.f|(apply hW.q;exact rqc));conv=>lhs;whnf)
   rw[show IntKind.i64.wrap (k+(aJ Sum.cntE (l.take n):Nat)+1)=k+(aJ Sum.cntE (l.take n):Nat)+1 from aG (by omega)]
   apply hW.w (bL (e':=[.int .i64 (k+(aJ Sum.cntE (l.take n):Nat)), .int .i64 l[n].s]) rfl (by simp only[List.length_set,hml];exact h2));conv=>lhs;whnf
   repeat((first|apply hW.t|apply hW.f|(apply hW.q;exact rqc));conv=>lhs;whnf)
   apply hW.w (bL (e':=[.int .i64 (k+(aJ Sum.cntE (l.take n):Nat)), .int .i64 l[n].s]) rfl (by simp only[List.length_set,hml];exact h2));conv=>lhs;whnf
   repeat((first|apply hW.t|apply hW.f|(apply hW.q;exact rqc));conv=>lhs;whnf)
   refine ih (n+1) (n+1) _ ?_ ⟨rfl,by omega⟩ (by omega)
   intro K
   conv=>lhs;whnf
   conv=>rhs;whnf
   try rfl
   rw[show IntKind.i64.wrap (k+(aJ Sum.cntE (l.take n):Nat)+1+1)=k+(aJ Sum.cntE (l.take n):Nat)+1+1 from aG (by omega)]
   rw[show IntKind.i64.wrap ((n:Int)+1)=_ from aH (by omega),hk1]
   refine congrArg K (congrArg (St.mk _) (congrArg (fun x=>[Blk.mk 0 zz .fix x]) ?_))
   simp only[Int.toNat_natCast,List.set_set]
   exact mI hM h2 (by rw[fY h2];first|rfl|(simp only[mU,dP];rfl))
  ·have:n=l.length:=by simp[hml]at h2;omega
   subst this
   simp only[List.take_length,qY hM];rfl
 ·rfl
theorem aFw {E:Env} (hE:Sys E) (l:List Sum) (k:Int) (h0:0≤k) (hk:k+aJ Sum.cntE l≤4611686018427387904):E 78 [sv ((dA Sum.mrkE Sum.cntE k l).map Sum.row),iv k]=some ([iv (k+aJ Sum.cntE l)],[]):=by
 have hM:(dA Sum.mrkE Sum.cntE k l).length=l.length:=eX
 have hrl:((dA Sum.mrkE Sum.cntE k l).map Sum.row).length=l.length:=by simp[bys,bQ,hM]
 have hget:∀ (n:Nat) (h:n<l.length),((dA Sum.mrkE Sum.cntE k l).map Sum.row)[(n:Int).toNat]?=some (Sum.row (Sum.mrkE (k+(aJ Sum.cntE (l.take n):Nat)) l[n])):=by
  intro n h
  have:=cA (f:=Sum.row) (l:=dA Sum.mrkE Sum.cntE k l) (n:=n) (by omega)
  rw[fY h]at this
  exact this
 have hl:l.length≤aJ Sum.cntE l:=fZ fun _=>by simp only[Sum.cntE];omega
 refine hE.run rfl rfl fun W hW=>?_
 conv=>lhs;whnf
 refine hW.loop (σ:=Nat) (γ:=Nat) (fun i s=>((s.sl 5 (v1 (.t (.int .i64 i)))).sl 1 (v1 (.t (.int .i64 (k+(aJ Sum.cntE (l.take i):Nat))))))) (fun i n=>i=n∧n≤l.length) (fun n=>l.length-n) (fun _=>([iv (k+aJ Sum.cntE l)],[])) 0 0 ?_ ?_ ?_ ?_
 ·intro K
  conv=>lhs;whnf
  conv=>rhs;whnf
  try rfl
  simp[aJ]
 ·simp
 ·rintro kl n _ ⟨rfl,hn⟩ ih
  conv=>lhs;whnf
  apply hW.b<;>intro h2<;>conv=>lhs;whnf
  ·have h2:n<l.length:=by simpa[hrl] using h2
   have hc:=eH (c:=Sum.cntE) h2
   have hle:=iP (c:=Sum.cntE) (l:=l) (n:=n+1)
   try simp only[Sum.cntE]at hc
   have hk1:k+(aJ Sum.cntE (l.take (n+1)):Nat)=k+(aJ Sum.cntE (l.take n):Nat)+1+1:=by rw[hc];push_cast;omega
   repeat((first|apply hW.t|apply hW.f|(apply hW.q;exact rqc));conv=>lhs;whnf)
   (apply hW.w (hget n h2);conv=>lhs;whnf)
   repeat((first|apply hW.t|apply hW.f|(apply hW.q;exact rqc));conv=>lhs;whnf)
   apply hW.bf (by simp[Sum.mrkE])
   conv=>lhs;whnf
   repeat((first|apply hW.t|apply hW.f|(apply hW.q;exact rqc));conv=>lhs;whnf)
   rw[show IntKind.i64.wrap (k+(aJ Sum.cntE (l.take n):Nat)+1)=k+(aJ Sum.cntE (l.take n):Nat)+1 from aG (by omega)]
   (apply hW.w (hget n h2);conv=>lhs;whnf)
   repeat((first|apply hW.t|apply hW.f|(apply hW.q;exact rqc));conv=>lhs;whnf)
   apply hW.bf (by simp[Sum.mrkE])
   conv=>lhs;whnf
   refine ih (n+1) (n+1) _ ?_ ⟨rfl,by omega⟩ (by omega)
   intro K
   conv=>lhs;whnf
   conv=>rhs;whnf
   try rfl
   rw[show IntKind.i64.wrap (k+(aJ Sum.cntE (l.take n):Nat)+1+1)=k+(aJ Sum.cntE (l.take n):Nat)+1+1 from aG (by omega)]
   rw[show IntKind.i64.wrap ((n:Int)+1)=_ from aH (by omega),hk1]
  ·have:n=l.length:=by simp[hrl]at h2;omega
   subst this
   simp only[List.take_length];rfl
 ·rfl
def Kid.mrkE (k:Int) (_:Kid):Kid:=⟨k,k+1,k+1+1,k+1+1+1,k+1+1+1+1⟩
def Kid.cntE (_:Kid):Nat:=0+1+1+1+1+1
theorem aFx {E:Env} (hE:Sys E) {zz:Nat} (l:List Kid) (k:Int) (h0:0≤k) (hk:k+aJ Kid.cntE l≤4611686018427387904):E 39 [ov zz (l.map Kid.row),iv k]=some ([iv (k+aJ Kid.cntE l)],[.own zz ((dA Kid.mrkE Kid.cntE k l).map Kid.row)]):=by
 have hM:(dA Kid.mrkE Kid.cntE k l).length=l.length:=eX
 have hl:l.length≤aJ Kid.cntE l:=fZ fun _=>by simp only[Kid.cntE];omega
 refine hE.run rfl rfl fun W hW=>?_
 conv=>lhs;whnf
 refine hW.loop (σ:=Nat) (γ:=Nat) (fun i s=>((s.sl 5 (v1 (.t (.int .i64 i)))).sl 1 (v1 (.t (.int .i64 (k+(aJ Kid.cntE (l.take i):Nat)))))).bl ⟨0,zz, .fix,mix Kid.row (dA Kid.mrkE Kid.cntE k l) l i⟩) (fun i n=>i=n∧n≤l.length) (fun n=>l.length-n) (fun _=>([iv (k+aJ Kid.cntE l)],[.own zz ((dA Kid.mrkE Kid.cntE k l).map Kid.row)])) 0 0 ?_ ?_ ?_ ?_
 ·intro K
  conv=>lhs;whnf
  conv=>rhs;whnf
  try rfl
  simp[mG,aJ,bys,bQ]
 ·simp
 ·rintro kl n _ ⟨rfl,hn⟩ ih
  conv=>lhs;whnf
  have hml:=qX (f:=Kid.row) hM (n:=n)
  apply hW.b<;>intro h2<;>conv=>lhs;whnf
  ·have h2:n<l.length:=by simpa[hml] using h2
   have hc:=eH (c:=Kid.cntE) h2
   have hle:=iP (c:=Kid.cntE) (l:=l) (n:=n+1)
   try simp only[Kid.cntE]at hc
   have hk1:k+(aJ Kid.cntE (l.take (n+1)):Nat)=k+(aJ Kid.cntE (l.take n):Nat)+1+1+1+1+1:=by rw[hc];push_cast;omega
   repeat((first|apply hW.t|apply hW.f|(apply hW.q;exact rqc)|(refine hW.w (cA ?_) ?_;omega));conv=>lhs;whnf)
   apply hW.w (gJ hM h2);conv=>lhs;whnf
   repeat((first|apply hW.t|apply hW.f|(apply hW.q;exact rqc));conv=>lhs;whnf)
   apply hW.w (gJ hM h2);conv=>lhs;whnf
   repeat((first|apply hW.t|apply hW.f|(apply hW.q;exact rqc));conv=>lhs;whnf)
   rw[show IntKind.i64.wrap (k+(aJ Kid.cntE (l.take n):Nat)+1)=k+(aJ Kid.cntE (l.take n):Nat)+1 from aG (by omega)]
   apply hW.w (bL (e':=[.int .i64 (k+(aJ Kid.cntE (l.take n):Nat)), .int .i64 l[n].want, .int .i64 l[n].done, .int .i64 l[n].age, .int .i64 l[n].sent]) rfl (by simp only[List.length_set,hml];exact h2));conv=>lhs;whnf
   repeat((first|apply hW.t|apply hW.f|(apply hW.q;exact rqc));conv=>lhs;whnf)
   apply hW.w (bL (e':=[.int .i64 (k+(aJ Kid.cntE (l.take n):Nat)), .int .i64 l[n].want, .int .i64 l[n].done, .int .i64 l[n].age, .int .i64 l[n].sent]) rfl (by simp only[List.length_set,hml];exact h2));conv=>lhs;whnf
   repeat((first|apply hW.t|apply hW.f|(apply hW.q;exact rqc));conv=>lhs;whnf)
   rw[show IntKind.i64.wrap (k+(aJ Kid.cntE (l.take n):Nat)+1+1)=k+(aJ Kid.cntE (l.take n):Nat)+1+1 from aG (by omega)]
   apply hW.w (bL (e':=[.int .i64 (k+(aJ Kid.cntE (l.take n):Nat)), .int .i64 (k+(aJ Kid.cntE (l.take n):Nat)+1), .int .i64 l[n].done, .int .i64 l[n].age, .int .i64 l[n].sent]) rfl (by simp only[List.length_set,hml];exact h2));conv=>lhs;whnf
   repeat((first|apply hW.t|apply hW.f|(apply hW.q;exact rqc));conv=>lhs;whnf)
   apply hW.w (bL (e':=[.int .i64 (k+(aJ Kid.cntE (l.take n):Nat)), .int .i64 (k+(aJ Kid.cntE (l.take n):Nat)+1), .int .i64 l[n].done, .int .i64 l[n].age, .int .i64 l[n].sent]) rfl (by simp only[List.length_set,hml];exact h2));conv=>lhs;whnf
   repeat((first|apply hW.t|apply hW.f|(apply hW.q;exact rqc));conv=>lhs;whnf)
   rw[show IntKind.i64.wrap (k+(aJ Kid.cntE (l.take n):Nat)+1+1+1)=k+(aJ Kid.cntE (l.take n):Nat)+1+1+1 from aG (by omega)]
   apply hW.w (bL (e':=[.int .i64 (k+(aJ Kid.cntE (l.take n):Nat)), .int .i64 (k+(aJ Kid.cntE (l.take n):Nat)+1), .int .i64 (k+(aJ Kid.cntE (l.take n):Nat)+1+1), .int .i64 l[n].age, .int .i64 l[n].sent]) rfl (by simp only[List.length_set,hml];exact h2));conv=>lhs;whnf
   repeat((first|apply hW.t|apply hW.f|(apply hW.q;exact rqc));conv=>lhs;whnf)
   apply hW.w (bL (e':=[.int .i64 (k+(aJ Kid.cntE (l.take n):Nat)), .int .i64 (k+(aJ Kid.cntE (l.take n):Nat)+1), .int .i64 (k+(aJ Kid.cntE (l.take n):Nat)+1+1), .int .i64 l[n].age, .int .i64 l[n].sent]) rfl (by simp only[List.length_set,hml];exact h2));conv=>lhs;whnf
   repeat((first|apply hW.t|apply hW.f|(apply hW.q;exact rqc));conv=>lhs;whnf)
   rw[show IntKind.i64.wrap (k+(aJ Kid.cntE (l.take n):Nat)+1+1+1+1)=k+(aJ Kid.cntE (l.take n):Nat)+1+1+1+1 from aG (by omega)]
   apply hW.w (bL (e':=[.int .i64 (k+(aJ Kid.cntE (l.take n):Nat)), .int .i64 (k+(aJ Kid.cntE (l.take n):Nat)+1), .int .i64 (k+(aJ Kid.cntE (l.take n):Nat)+1+1), .int .i64 (k+(aJ Kid.cntE (l.take n):Nat)+1+1+1), .int .i64 l[n].sent]) rfl (by simp only[List.length_set,hml];exact h2));conv=>lhs;whnf
   repeat((first|apply hW.t|apply hW.f|(apply hW.q;exact rqc));conv=>lhs;whnf)
   apply hW.w (bL (e':=[.int .i64 (k+(aJ Kid.cntE (l.take n):Nat)), .int .i64 (k+(aJ Kid.cntE (l.take n):Nat)+1), .int .i64 (k+(aJ Kid.cntE (l.take n):Nat)+1+1), .int .i64 (k+(aJ Kid.cntE (l.take n):Nat)+1+1+1), .int .i64 l[n].sent]) rfl (by simp only[List.length_set,hml];exact h2));conv=>lhs;whnf
   repeat((first|apply hW.t|apply hW.f|(apply hW.q;exact rqc));conv=>lhs;whnf)
   refine ih (n+1) (n+1) _ ?_ ⟨rfl,by omega⟩ (by omega)
   intro K
   conv=>lhs;whnf
   conv=>rhs;whnf
   try rfl
   rw[show IntKind.i64.wrap (k+(aJ Kid.cntE (l.take n):Nat)+1+1+1+1+1)=k+(aJ Kid.cntE (l.take n):Nat)+1+1+1+1+1 from aG (by omega)]
   rw[show IntKind.i64.wrap ((n:Int)+1)=_ from aH (by omega),hk1]
   refine congrArg K (congrArg (St.mk _) (congrArg (fun x=>[Blk.mk 0 zz .fix x]) ?_))
   simp only[Int.toNat_natCast,List.set_set]
   exact mI hM h2 (by rw[fY h2];first|rfl|(simp only[mU,dP];rfl))
  ·have:n=l.length:=by simp[hml]at h2;omega
   subst this
   simp only[List.take_length,qY hM];rfl
 ·rfl
theorem aFy {E:Env} (hE:Sys E) (l:List Kid) (k:Int) (h0:0≤k) (hk:k+aJ Kid.cntE l≤4611686018427387904):E 40 [sv ((dA Kid.mrkE Kid.cntE k l).map Kid.row),iv k]=some ([iv (k+aJ Kid.cntE l)],[]):=by
 have hM:(dA Kid.mrkE Kid.cntE k l).length=l.length:=eX
 have hrl:((dA Kid.mrkE Kid.cntE k l).map Kid.row).length=l.length:=by simp[bys,bQ,hM]
 have hget:∀ (n:Nat) (h:n<l.length),((dA Kid.mrkE Kid.cntE k l).map Kid.row)[(n:Int).toNat]?=some (Kid.row (Kid.mrkE (k+(aJ Kid.cntE (l.take n):Nat)) l[n])):=by
  intro n h
  have:=cA (f:=Kid.row) (l:=dA Kid.mrkE Kid.cntE k l) (n:=n) (by omega)
  rw[fY h]at this
  exact this
 have hl:l.length≤aJ Kid.cntE l:=fZ fun _=>by simp only[Kid.cntE];omega
 refine hE.run rfl rfl fun W hW=>?_
 conv=>lhs;whnf
 refine hW.loop (σ:=Nat) (γ:=Nat) (fun i s=>((s.sl 5 (v1 (.t (.int .i64 i)))).sl 1 (v1 (.t (.int .i64 (k+(aJ Kid.cntE (l.take i):Nat))))))) (fun i n=>i=n∧n≤l.length) (fun n=>l.length-n) (fun _=>([iv (k+aJ Kid.cntE l)],[])) 0 0 ?_ ?_ ?_ ?_
 ·intro K
  conv=>lhs;whnf
  conv=>rhs;whnf
  try rfl
  simp[aJ]
 ·simp
 ·rintro kl n _ ⟨rfl,hn⟩ ih
  conv=>lhs;whnf
  apply hW.b<;>intro h2<;>conv=>lhs;whnf
  ·have h2:n<l.length:=by simpa[hrl] using h2
   have hc:=eH (c:=Kid.cntE) h2
   have hle:=iP (c:=Kid.cntE) (l:=l) (n:=n+1)
   try simp only[Kid.cntE]at hc
   have hk1:k+(aJ Kid.cntE (l.take (n+1)):Nat)=k+(aJ Kid.cntE (l.take n):Nat)+1+1+1+1+1:=by rw[hc];push_cast;omega
   repeat((first|apply hW.t|apply hW.f|(apply hW.q;exact rqc));conv=>lhs;whnf)
   (apply hW.w (hget n h2);conv=>lhs;whnf)
   repeat((first|apply hW.t|apply hW.f|(apply hW.q;exact rqc));conv=>lhs;whnf)
   apply hW.bf (by simp[Kid.mrkE])
   conv=>lhs;whnf
   repeat((first|apply hW.t|apply hW.f|(apply hW.q;exact rqc));conv=>lhs;whnf)
   rw[show IntKind.i64.wrap (k+(aJ Kid.cntE (l.take n):Nat)+1)=k+(aJ Kid.cntE (l.take n):Nat)+1 from aG (by omega)]
   (apply hW.w (hget n h2);conv=>lhs;whnf)
   repeat((first|apply hW.t|apply hW.f|(apply hW.q;exact rqc));conv=>lhs;whnf)
   apply hW.bf (by simp[Kid.mrkE])
   conv=>lhs;whnf
   repeat((first|apply hW.t|apply hW.f|(apply hW.q;exact rqc));conv=>lhs;whnf)
   rw[show IntKind.i64.wrap (k+(aJ Kid.cntE (l.take n):Nat)+1+1)=k+(aJ Kid.cntE (l.take n):Nat)+1+1 from aG (by omega)]
   (apply hW.w (hget n h2);conv=>lhs;whnf)
   repeat((first|apply hW.t|apply hW.f|(apply hW.q;exact rqc));conv=>lhs;whnf)
   apply hW.bf (by simp[Kid.mrkE])
   conv=>lhs;whnf
   repeat((first|apply hW.t|apply hW.f|(apply hW.q;exact rqc));conv=>lhs;whnf)
   rw[show IntKind.i64.wrap (k+(aJ Kid.cntE (l.take n):Nat)+1+1+1)=k+(aJ Kid.cntE (l.take n):Nat)+1+1+1 from aG (by omega)]
   (apply hW.w (hget n h2);conv=>lhs;whnf)
   repeat((first|apply hW.t|apply hW.f|(apply hW.q;exact rqc));conv=>lhs;whnf)
   apply hW.bf (by simp[Kid.mrkE])
   conv=>lhs;whnf
   repeat((first|apply hW.t|apply hW.f|(apply hW.q;exact rqc));conv=>lhs;whnf)
   rw[show IntKind.i64.wrap (k+(aJ Kid.cntE (l.take n):Nat)+1+1+1+1)=k+(aJ Kid.cntE (l.take n):Nat)+1+1+1+1 from aG (by omega)]
   (apply hW.w (hget n h2);conv=>lhs;whnf)
   repeat((first|apply hW.t|apply hW.f|(apply hW.q;exact rqc));conv=>lhs;whnf)
   apply hW.bf (by simp[Kid.mrkE])
   conv=>lhs;whnf
   refine ih (n+1) (n+1) _ ?_ ⟨rfl,by omega⟩ (by omega)
   intro K
   conv=>lhs;whnf
   conv=>rhs;whnf
   try rfl
   rw[show IntKind.i64.wrap (k+(aJ Kid.cntE (l.take n):Nat)+1+1+1+1+1)=k+(aJ Kid.cntE (l.take n):Nat)+1+1+1+1+1 from aG (by omega)]
   rw[show IntKind.i64.wrap ((n:Int)+1)=_ from aH (by omega),hk1]
  ·have:n=l.length:=by simp[hrl]at h2;omega
   subst this
   simp only[List.take_length];rfl
 ·rfl
def Sent.mrkE (k:Int) (_:Sent):Sent:=⟨k,k+1,k+1+1⟩
def Sent.cntE (_:Sent):Nat:=0+1+1+1
def Man.mrk (k:Int) (x:Man):Man:={ x with sums:=dA Sum.mrkE Sum.cntE (k) x.sums }
def Man.cnt (x:Man):Nat:=aJ Sum.cntE x.sums
theorem xO {E:Env} (hE:Sys E) (x:Man) (k:Int) (h0:0≤k) (hk:k+x.cnt≤4611686018427387904):E 76 [gv (x.cs dD),iv k]=some ([iv (k+x.cnt)],(x.mrk k).cs dD):=by
 unfold Man.cnt at hk ⊢
 refine hE.run rfl rfl fun W hW=>?_
 conv=>lhs;whnf
 repeat((first|apply hW.t|apply hW.f|(apply hW.q;exact rqc));conv=>lhs;whnf)
 apply hW.w (aFv hE x.sums (k) (by omega) (by omega))
 conv=>lhs;whnf
 repeat((first|apply hW.t|apply hW.f|(apply hW.q;exact rqc));conv=>lhs;whnf)
 rw[show k+(((aJ Sum.cntE x.sums):Nat):Int)=k+(aJ Sum.cntE x.sums:Nat) from by push_cast;omega]
 rfl
theorem xP {E:Env} (hE:Sys E) (x:Man) (k:Int) (h0:0≤k) (hk:k+x.cnt≤4611686018427387904):E 79 [gv ((x.mrk k).cs aM),iv k]=some ([iv (k+x.cnt)],[]):=by
 unfold Man.cnt at hk ⊢
 refine hE.run rfl rfl fun W hW=>?_
 conv=>lhs;whnf
 apply hW.w (aFw hE x.sums (k) (by omega) (by omega))
 conv=>lhs;whnf
 try(apply hW.q;exact rqc;conv=>lhs;whnf)
 apply hW.bf (by simp;omega)
 conv=>lhs;whnf
 rw[show k+(((aJ Sum.cntE x.sums):Nat):Int)=k+(aJ Sum.cntE x.sums:Nat) from by push_cast;omega]
 rfl
def Bld.mrk (k:Int) (x:Bld):Bld:={ x with buf:=dA (fun k _=>cC k) (fun _=>1) (k) x.buf }
def Bld.cnt (x:Bld):Nat:=aJ (fun _=>1) x.buf
theorem aDk {E:Env} (hE:Sys E) (x:Bld) (k:Int) (h0:0≤k) (hk:k+x.cnt≤4611686018427387904):E 77 [gv (x.cs dD),iv k]=some ([iv (k+x.cnt)],(x.mrk k).cs dD):=by
 unfold Bld.cnt at hk ⊢
 refine hE.run rfl rfl fun W hW=>?_
 conv=>lhs;whnf
 repeat((first|apply hW.t|apply hW.f|(apply hW.q;exact rqc));conv=>lhs;whnf)
 apply hW.w (fQ hE x.buf (k) (by omega) (by omega))
 conv=>lhs;whnf
 repeat((first|apply hW.t|apply hW.f|(apply hW.q;exact rqc));conv=>lhs;whnf)
 rw[show k+(((aJ (fun _=>1) x.buf):Nat):Int)=k+(aJ (fun _=>1) x.buf:Nat) from by push_cast;omega]
 rfl
theorem aDl {E:Env} (hE:Sys E) (x:Bld) (k:Int) (h0:0≤k) (hk:k+x.cnt≤4611686018427387904):E 80 [gv ((x.mrk k).cs aM),iv k]=some ([iv (k+x.cnt)],[]):=by
 unfold Bld.cnt at hk ⊢
 refine hE.run rfl rfl fun W hW=>?_
 conv=>lhs;whnf
 apply hW.w (vE hE x.buf (k) (by omega) (by omega))
 conv=>lhs;whnf
 try(apply hW.q;exact rqc;conv=>lhs;whnf)
 apply hW.bf (by simp;omega)
 conv=>lhs;whnf
 rw[show k+(((aJ (fun _=>1) x.buf):Nat):Int)=k+(aJ (fun _=>1) x.buf:Nat) from by push_cast;omega]
 rfl
def Put.mrkE (k:Int) (x:Put):Put:=⟨k,k+1,dA (fun k _=>cC k) (fun _=>1) (k+1+1) x.b,⟨k+1+1+(aJ (fun _=>1) x.b:Nat),k+1+1+(aJ (fun _=>1) x.b:Nat)+1,k+1+1+(aJ (fun _=>1) x.b:Nat)+1+1⟩⟩
def Put.cntE (x:Put):Nat:=0+1+1+aJ (fun _=>1) x.b+1+1+1
def Put.mrk (k:Int) (x:Put):Put:={ x with b:=dA (fun k _=>cC k) (fun _=>1) (k) x.b }
def Put.cnt (x:Put):Nat:=aJ (fun _=>1) x.b
theorem Put.cntE_le {x:Put} (h:x.lim 4194304):x.cntE≤4194309:=by
 have a0:aJ (fun _=>1) x.b≤4194304:=eY (m:=1) h fun _ _=>Nat.le_refl _
 simp only[Put.cntE];omega
theorem aFz {E:Env} (hE:Sys E) {zz:Nat} (l:List Put) (k:Int) (h0:0≤k) (hk:k+aJ Put.cntE l≤4611686018427387904):E 205 [ov zz (l.map (Put.row true)),iv k]=some ([iv (k+aJ Put.cntE l)],[.own zz ((dA Put.mrkE Put.cntE k l).map (Put.row true))]):=by
 have hM:(dA Put.mrkE Put.cntE k l).length=l.length:=eX
 have hl:l.length≤aJ Put.cntE l:=fZ fun _=>by simp only[Put.cntE];omega
 refine hE.run rfl rfl fun W hW=>?_
 conv=>lhs;whnf
 refine hW.loop (σ:=Nat) (γ:=Nat) (fun i s=>((s.sl 5 (v1 (.t (.int .i64 i)))).sl 1 (v1 (.t (.int .i64 (k+(aJ Put.cntE (l.take i):Nat)))))).bl ⟨0,zz, .fix,mix (Put.row true) (dA Put.mrkE Put.cntE k l) l i⟩) (fun i n=>i=n∧n≤l.length) (fun n=>l.length-n) (fun _=>([iv (k+aJ Put.cntE l)],[.own zz ((dA Put.mrkE Put.cntE k l).map (Put.row true))])) 0 0 ?_ ?_ ?_ ?_
 ·intro K
  conv=>lhs;whnf
  conv=>rhs;whnf
  try rfl
  simp[mG,aJ,bys,bQ]
 ·simp
 ·rintro kl n _ ⟨rfl,hn⟩ ih
  conv=>lhs;whnf
  have hml:=qX (f:=(Put.row true)) hM (n:=n)
  apply hW.b<;>intro h2<;>conv=>lhs;whnf
  ·have h2:n<l.length:=by simpa[hml] using h2
   have hc:=eH (c:=Put.cntE) h2
   have hle:=iP (c:=Put.cntE) (l:=l) (n:=n+1)
   try simp only[Put.cntE]at hc
   have hk1:k+(aJ Put.cntE (l.take (n+1)):Nat)=k+(aJ Put.cntE (l.take n):Nat)+1+1+(aJ (fun _=>1) l[n].b:Nat)+1+1+1:=by rw[hc];push_cast;omega
   repeat((first|apply hW.t|apply hW.f|(apply hW.q;exact rqc)|(refine hW.w (cA ?_) ?_;omega));conv=>lhs;whnf)
   apply hW.w (gJ hM h2);conv=>lhs;whnf
   repeat((first|apply hW.t|apply hW.f|(apply hW.q;exact rqc));conv=>lhs;whnf)
   apply hW.w (gJ hM h2);conv=>lhs;whnf
   repeat((first|apply hW.t|apply hW.f|(apply hW.q;exact rqc));conv=>lhs;whnf)
   rw[show IntKind.i64.wrap (k+(aJ Put.cntE (l.take n):Nat)+1)=k+(aJ Put.cntE (l.take n):Nat)+1 from aG (by omega)]
   apply hW.w (bL (e':=[.int .i64 (k+(aJ Put.cntE (l.take n):Nat)), .int .i64 l[n].at_, .sl true (bys l[n].b), .int .i64 l[n].r.gen, .int .i64 l[n].r.slot, .int .i64 l[n].r.len]) rfl (by simp only[List.length_set,hml];exact h2));conv=>lhs;whnf
   repeat((first|apply hW.t|apply hW.f|(apply hW.q;exact rqc));conv=>lhs;whnf)
   apply hW.w (bL (e':=[.int .i64 (k+(aJ Put.cntE (l.take n):Nat)), .int .i64 l[n].at_, .sl true (bys l[n].b), .int .i64 l[n].r.gen, .int .i64 l[n].r.slot, .int .i64 l[n].r.len]) rfl (by simp only[List.length_set,hml];exact h2));conv=>lhs;whnf
   repeat((first|apply hW.t|apply hW.f|(apply hW.q;exact rqc));conv=>lhs;whnf)
   rw[show IntKind.i64.wrap (k+(aJ Put.cntE (l.take n):Nat)+1+1)=k+(aJ Put.cntE (l.take n):Nat)+1+1 from aG (by omega)]
   apply hW.w (bL (e':=[.int .i64 (k+(aJ Put.cntE (l.take n):Nat)), .int .i64 (k+(aJ Put.cntE (l.take n):Nat)+1), .sl true (bys l[n].b), .int .i64 l[n].r.gen, .int .i64 l[n].r.slot, .int .i64 l[n].r.len]) rfl (by simp only[List.length_set,hml];exact h2));conv=>lhs;whnf
   repeat((first|apply hW.t|apply hW.f|(apply hW.q;exact rqc));conv=>lhs;whnf)
   apply hW.w (bL (e':=[.int .i64 (k+(aJ Put.cntE (l.take n):Nat)), .int .i64 (k+(aJ Put.cntE (l.take n):Nat)+1), .sl true (bys l[n].b), .int .i64 l[n].r.gen, .int .i64 l[n].r.slot, .int .i64 l[n].r.len]) rfl (by simp only[List.length_set,hml];exact h2));conv=>lhs;whnf
   repeat((first|apply hW.t|apply hW.f|(apply hW.q;exact rqc));conv=>lhs;whnf)
   apply hW.w (bL (e':=[.int .i64 (k+(aJ Put.cntE (l.take n):Nat)), .int .i64 (k+(aJ Put.cntE (l.take n):Nat)+1), .sl true (bys l[n].b), .int .i64 l[n].r.gen, .int .i64 l[n].r.slot, .int .i64 l[n].r.len]) rfl (by simp only[List.length_set,hml];exact h2));conv=>lhs;whnf
   repeat((first|apply hW.t|apply hW.f|(apply hW.q;exact rqc));conv=>lhs;whnf)
   apply hW.w (fQ hE l[n].b (k+(aJ Put.cntE (l.take n):Nat)+1+1) (by omega) (by omega))
   conv=>lhs;whnf
   try(apply hW.q;exact rqc;conv=>lhs;whnf)
   apply hW.w (bL (e':=[.int .i64 (k+(aJ Put.cntE (l.take n):Nat)), .int .i64 (k+(aJ Put.cntE (l.take n):Nat)+1), .sl true (bys l[n].b), .int .i64 l[n].r.gen, .int .i64 l[n].r.slot, .int .i64 l[n].r.len]) rfl (by simp only[List.length_set,hml];exact h2));conv=>lhs;whnf
   repeat((first|apply hW.t|apply hW.f|(apply hW.q;exact rqc));conv=>lhs;whnf)
   apply hW.w (bL (e':=[.int .i64 (k+(aJ Put.cntE (l.take n):Nat)), .int .i64 (k+(aJ Put.cntE (l.take n):Nat)+1), .sl true (bys (dA (fun k _=>cC k) (fun _=>1) (k+(aJ Put.cntE (l.take n):Nat)+1+1) l[n].b)), .int .i64 l[n].r.gen, .int .i64 l[n].r.slot, .int .i64 l[n].r.len]) rfl (by simp only[List.length_set,hml];exact h2));conv=>lhs;whnf
   repeat((first|apply hW.t|apply hW.f|(apply hW.q;exact rqc));conv=>lhs;whnf)
   apply hW.w (bL (e':=[.int .i64 (k+(aJ Put.cntE (l.take n):Nat)), .int .i64 (k+(aJ Put.cntE (l.take n):Nat)+1), .sl true (bys (dA (fun k _=>cC k) (fun _=>1) (k+(aJ Put.cntE (l.take n):Nat)+1+1) l[n].b)), .int .i64 l[n].r.gen, .int .i64 l[n].r.slot, .int .i64 l[n].r.len]) rfl (by simp only[List.length_set,hml];exact h2));conv=>lhs;whnf
   repeat((first|apply hW.t|apply hW.f|(apply hW.q;exact rqc));conv=>lhs;whnf)
   rw[show IntKind.i64.wrap (k+(aJ Put.cntE (l.take n):Nat)+1+1+(aJ (fun _=>1) l[n].b:Nat)+1)=k+(aJ Put.cntE (l.take n):Nat)+1+1+(aJ (fun _=>1) l[n].b:Nat)+1 from aG (by omega)]
   apply hW.w (bL (e':=[.int .i64 (k+(aJ Put.cntE (l.take n):Nat)), .int .i64 (k+(aJ Put.cntE (l.take n):Nat)+1), .sl true (bys (dA (fun k _=>cC k) (fun _=>1) (k+(aJ Put.cntE (l.take n):Nat)+1+1) l[n].b)), .int .i64 (k+(aJ Put.cntE (l.take n):Nat)+1+1+(aJ (fun _=>1) l[n].b:Nat)), .int .i64 l[n].r.slot, .int .i64 l[n].r.len]) rfl (by simp only[List.length_set,hml];exact h2));conv=>lhs;whnf
   repeat((first|apply hW.t|apply hW.f|(apply hW.q;exact rqc));conv=>lhs;whnf)
   apply hW.w (bL (e':=[.int .i64 (k+(aJ Put.cntE (l.take n):Nat)), .int .i64 (k+(aJ Put.cntE (l.take n):Nat)+1), .sl true (bys (dA (fun k _=>cC k) (fun _=>1) (k+(aJ Put.cntE (l.take n):Nat)+1+1) l[n].b)), .int .i64 (k+(aJ Put.cntE (l.take n):Nat)+1+1+(aJ (fun _=>1) l[n].b:Nat)), .int .i64 l[n].r.slot, .int .i64 l[n].r.len]) rfl (by simp only[List.length_set,hml];exact h2));conv=>lhs;whnf
   repeat((first|apply hW.t|apply hW.f|(apply hW.q;exact rqc));conv=>lhs;whnf)
   rw[show IntKind.i64.wrap (k+(aJ Put.cntE (l.take n):Nat)+1+1+(aJ (fun _=>1) l[n].b:Nat)+1+1)=k+(aJ Put.cntE (l.take n):Nat)+1+1+(aJ (fun _=>1) l[n].b:Nat)+1+1 from aG (by omega)]
   apply hW.w (bL (e':=[.int .i64 (k+(aJ Put.cntE (l.take n):Nat)), .int .i64 (k+(aJ Put.cntE (l.take n):Nat)+1), .sl true (bys (dA (fun k _=>cC k) (fun _=>1) (k+(aJ Put.cntE (l.take n):Nat)+1+1) l[n].b)), .int .i64 (k+(aJ Put.cntE (l.take n):Nat)+1+1+(aJ (fun _=>1) l[n].b:Nat)), .int .i64 (k+(aJ Put.cntE (l.take n):Nat)+1+1+(aJ (fun _=>1) l[n].b:Nat)+1), .int .i64 l[n].r.len]) rfl (by simp only[List.length_set,hml];exact h2));conv=>lhs;whnf
   repeat((first|apply hW.t|apply hW.f|(apply hW.q;exact rqc));conv=>lhs;whnf)
   apply hW.w (bL (e':=[.int .i64 (k+(aJ Put.cntE (l.take n):Nat)), .int .i64 (k+(aJ Put.cntE (l.take n):Nat)+1), .sl true (bys (dA (fun k _=>cC k) (fun _=>1) (k+(aJ Put.cntE (l.take n):Nat)+1+1) l[n].b)), .int .i64 (k+(aJ Put.cntE (l.take n):Nat)+1+1+(aJ (fun _=>1) l[n].b:Nat)), .int .i64 (k+(aJ Put.cntE (l.take n):Nat)+1+1+(aJ (fun _=>1) l[n].b:Nat)+1), .int .i64 l[n].r.len]) rfl (by simp only[List.length_set,hml];exact h2));conv=>lhs;whnf
   repeat((first|apply hW.t|apply hW.f|(apply hW.q;exact rqc));conv=>lhs;whnf)
   refine ih (n+1) (n+1) _ ?_ ⟨rfl,by omega⟩ (by omega)
   intro K
   conv=>lhs;whnf
   conv=>rhs;whnf
   try rfl
   rw[show IntKind.i64.wrap (k+(aJ Put.cntE (l.take n):Nat)+1+1+(aJ (fun _=>1) l[n].b:Nat)+1+1+1)=k+(aJ Put.cntE (l.take n):Nat)+1+1+(aJ (fun _=>1) l[n].b:Nat)+1+1+1 from aG (by omega)]
   rw[show IntKind.i64.wrap ((n:Int)+1)=_ from aH (by omega),hk1]
   refine congrArg K (congrArg (St.mk _) (congrArg (fun x=>[Blk.mk 0 zz .fix x]) ?_))
   simp only[Int.toNat_natCast,List.set_set]
   exact mI hM h2 (by rw[fY h2];first|rfl|(simp only[mU,dP];rfl))
  ·have:n=l.length:=by simp[hml]at h2;omega
   subst this
   simp only[List.take_length,qY hM];rfl
 ·rfl
def Pkt.mrkE (k:Int) (x:Pkt):Pkt:=⟨k,k+1,dA (fun k _=>cC k) (fun _=>1) (k+1+1) x.b⟩
def Pkt.cntE (x:Pkt):Nat:=0+1+1+aJ (fun _=>1) x.b
def Pkt.mrk (k:Int) (x:Pkt):Pkt:={ x with b:=dA (fun k _=>cC k) (fun _=>1) (k) x.b }
def Pkt.cnt (x:Pkt):Nat:=aJ (fun _=>1) x.b
theorem Pkt.cntE_le {x:Pkt} (h:x.lim 4194304):x.cntE≤4194306:=by
 have a0:aJ (fun _=>1) x.b≤4194304:=eY (m:=1) h fun _ _=>Nat.le_refl _
 simp only[Pkt.cntE];omega
theorem Pkt.cnt_le {x:Pkt} (h:x.lim 4194304):x.cnt≤4194304:=by
 have a0:aJ (fun _=>1) x.b≤4194304:=eY (m:=1) h fun _ _=>Nat.le_refl _
 simp only[Pkt.cnt];omega
theorem aCf {E:Env} (hE:Sys E) (x:Pkt) (k:Int) (h0:0≤k) (hk:k+x.cnt≤4611686018427387904):E 299 [gv (x.cs dD),iv k]=some ([iv (k+x.cnt)],(x.mrk k).cs dD):=by
 unfold Pkt.cnt at hk ⊢
 refine hE.run rfl rfl fun W hW=>?_
 conv=>lhs;whnf
 repeat((first|apply hW.t|apply hW.f|(apply hW.q;exact rqc));conv=>lhs;whnf)
 apply hW.w (fQ hE x.b (k) (by omega) (by omega))
 conv=>lhs;whnf
 repeat((first|apply hW.t|apply hW.f|(apply hW.q;exact rqc));conv=>lhs;whnf)
 rw[show k+(((aJ (fun _=>1) x.b):Nat):Int)=k+(aJ (fun _=>1) x.b:Nat) from by push_cast;omega]
 rfl
theorem aAO {E:Env} (hE:Sys E) {zz:Nat} (l:List Pkt) (k:Int) (h0:0≤k) (hk:k+aJ Pkt.cntE l≤4611686018427387904):E 51 [ov zz (l.map (Pkt.row true)),iv k]=some ([iv (k+aJ Pkt.cntE l)],[.own zz ((dA Pkt.mrkE Pkt.cntE k l).map (Pkt.row true))]):=by
 have hM:(dA Pkt.mrkE Pkt.cntE k l).length=l.length:=eX
 have hl:l.length≤aJ Pkt.cntE l:=fZ fun _=>by simp only[Pkt.cntE];omega
 refine hE.run rfl rfl fun W hW=>?_
 conv=>lhs;whnf
 refine hW.loop (σ:=Nat) (γ:=Nat) (fun i s=>((s.sl 5 (v1 (.t (.int .i64 i)))).sl 1 (v1 (.t (.int .i64 (k+(aJ Pkt.cntE (l.take i):Nat)))))).bl ⟨0,zz, .fix,mix (Pkt.row true) (dA Pkt.mrkE Pkt.cntE k l) l i⟩) (fun i n=>i=n∧n≤l.length) (fun n=>l.length-n) (fun _=>([iv (k+aJ Pkt.cntE l)],[.own zz ((dA Pkt.mrkE Pkt.cntE k l).map (Pkt.row true))])) 0 0 ?_ ?_ ?_ ?_
 ·intro K
  conv=>lhs;whnf
  conv=>rhs;whnf
  try rfl
  simp[mG,aJ,bys,bQ]
 ·simp
 ·rintro kl n _ ⟨rfl,hn⟩ ih
  conv=>lhs;whnf
  have hml:=qX (f:=(Pkt.row true)) hM (n:=n)
  apply hW.b<;>intro h2<;>conv=>lhs;whnf
  ·have h2:n<l.length:=by simpa[hml] using h2
   have hc:=eH (c:=Pkt.cntE) h2
   have hle:=iP (c:=Pkt.cntE) (l:=l) (n:=n+1)
   try simp only[Pkt.cntE]at hc
   have hk1:k+(aJ Pkt.cntE (l.take (n+1)):Nat)=k+(aJ Pkt.cntE (l.take n):Nat)+1+1+(aJ (fun _=>1) l[n].b:Nat):=by rw[hc];push_cast;omega
   repeat((first|apply hW.t|apply hW.f|(apply hW.q;exact rqc)|(refine hW.w (cA ?_) ?_;omega));conv=>lhs;whnf)
   apply hW.w (gJ hM h2);conv=>lhs;whnf
   repeat((first|apply hW.t|apply hW.f|(apply hW.q;exact rqc));conv=>lhs;whnf)
   apply hW.w (gJ hM h2);conv=>lhs;whnf
   repeat((first|apply hW.t|apply hW.f|(apply hW.q;exact rqc));conv=>lhs;whnf)
   rw[show IntKind.i64.wrap (k+(aJ Pkt.cntE (l.take n):Nat)+1)=k+(aJ Pkt.cntE (l.take n):Nat)+1 from aG (by omega)]
   apply hW.w (bL (e':=[.int .i64 (k+(aJ Pkt.cntE (l.take n):Nat)), .int .i64 l[n].to, .sl true (bys l[n].b)]) rfl (by simp only[List.length_set,hml];exact h2));conv=>lhs;whnf
   repeat((first|apply hW.t|apply hW.f|(apply hW.q;exact rqc));conv=>lhs;whnf)
   apply hW.w (bL (e':=[.int .i64 (k+(aJ Pkt.cntE (l.take n):Nat)), .int .i64 l[n].to, .sl true (bys l[n].b)]) rfl (by simp only[List.length_set,hml];exact h2));conv=>lhs;whnf
   repeat((first|apply hW.t|apply hW.f|(apply hW.q;exact rqc));conv=>lhs;whnf)
   rw[show IntKind.i64.wrap (k+(aJ Pkt.cntE (l.take n):Nat)+1+1)=k+(aJ Pkt.cntE (l.take n):Nat)+1+1 from aG (by omega)]
   apply hW.w (bL (e':=[.int .i64 (k+(aJ Pkt.cntE (l.take n):Nat)), .int .i64 (k+(aJ Pkt.cntE (l.take n):Nat)+1), .sl true (bys l[n].b)]) rfl (by simp only[List.length_set,hml];exact h2));conv=>lhs;whnf
   repeat((first|apply hW.t|apply hW.f|(apply hW.q;exact rqc));conv=>lhs;whnf)
   apply hW.w (bL (e':=[.int .i64 (k+(aJ Pkt.cntE (l.take n):Nat)), .int .i64 (k+(aJ Pkt.cntE (l.take n):Nat)+1), .sl true (bys l[n].b)]) rfl (by simp only[List.length_set,hml];exact h2));conv=>lhs;whnf
   repeat((first|apply hW.t|apply hW.f|(apply hW.q;exact rqc));conv=>lhs;whnf)
   apply hW.w (bL (e':=[.int .i64 (k+(aJ Pkt.cntE (l.take n):Nat)), .int .i64 (k+(aJ Pkt.cntE (l.take n):Nat)+1), .sl true (bys l[n].b)]) rfl (by simp only[List.length_set,hml];exact h2));conv=>lhs;whnf
   repeat((first|apply hW.t|apply hW.f|(apply hW.q;exact rqc));conv=>lhs;whnf)
   apply hW.w (fQ hE l[n].b (k+(aJ Pkt.cntE (l.take n):Nat)+1+1) (by omega) (by omega))
   conv=>lhs;whnf
   try(apply hW.q;exact rqc;conv=>lhs;whnf)
   apply hW.w (bL (e':=[.int .i64 (k+(aJ Pkt.cntE (l.take n):Nat)), .int .i64 (k+(aJ Pkt.cntE (l.take n):Nat)+1), .sl true (bys l[n].b)]) rfl (by simp only[List.length_set,hml];exact h2));conv=>lhs;whnf
   repeat((first|apply hW.t|apply hW.f|(apply hW.q;exact rqc));conv=>lhs;whnf)
   refine ih (n+1) (n+1) _ ?_ ⟨rfl,by omega⟩ (by omega)
   intro K
   conv=>lhs;whnf
   conv=>rhs;whnf
   try rfl
   rw[show IntKind.i64.wrap ((n:Int)+1)=_ from aH (by omega),hk1]
   refine congrArg K (congrArg (St.mk _) (congrArg (fun x=>[Blk.mk 0 zz .fix x]) ?_))
   simp only[Int.toNat_natCast,List.set_set]
   exact mI hM h2 (by rw[fY h2];first|rfl|(simp only[mU,dP];rfl))
  ·have:n=l.length:=by simp[hml]at h2;omega
   subst this
   simp only[List.take_length,qY hM];rfl
 ·rfl
theorem aAP {E:Env} (hE:Sys E) {o:Bool} (l:List Pkt) (k:Int) (h0:0≤k) (hk:k+aJ Pkt.cntE l≤4611686018427387904):E 52 [sv ((dA Pkt.mrkE Pkt.cntE k l).map (Pkt.row o)),iv k]=some ([iv (k+aJ Pkt.cntE l)],[]):=by
 have hM:(dA Pkt.mrkE Pkt.cntE k l).length=l.length:=eX
 have hrl:((dA Pkt.mrkE Pkt.cntE k l).map (Pkt.row o)).length=l.length:=by simp[bys,bQ,hM]
 have hget:∀ (n:Nat) (h:n<l.length),((dA Pkt.mrkE Pkt.cntE k l).map (Pkt.row o))[(n:Int).toNat]?=some ((Pkt.row o) (Pkt.mrkE (k+(aJ Pkt.cntE (l.take n):Nat)) l[n])):=by
  intro n h
  have:=cA (f:=(Pkt.row o)) (l:=dA Pkt.mrkE Pkt.cntE k l) (n:=n) (by omega)
  rw[fY h]at this
  exact this
 have hl:l.length≤aJ Pkt.cntE l:=fZ fun _=>by simp only[Pkt.cntE];omega
 refine hE.run rfl rfl fun W hW=>?_
 conv=>lhs;whnf
 refine hW.loop (σ:=Nat) (γ:=Nat) (fun i s=>((s.sl 5 (v1 (.t (.int .i64 i)))).sl 1 (v1 (.t (.int .i64 (k+(aJ Pkt.cntE (l.take i):Nat))))))) (fun i n=>i=n∧n≤l.length) (fun n=>l.length-n) (fun _=>([iv (k+aJ Pkt.cntE l)],[])) 0 0 ?_ ?_ ?_ ?_
 ·intro K
  conv=>lhs;whnf
  conv=>rhs;whnf
  try rfl
  simp[aJ]
 ·simp
 ·rintro kl n _ ⟨rfl,hn⟩ ih
  conv=>lhs;whnf
  apply hW.b<;>intro h2<;>conv=>lhs;whnf
  ·have h2:n<l.length:=by simpa[hrl] using h2
   have hc:=eH (c:=Pkt.cntE) h2
   have hle:=iP (c:=Pkt.cntE) (l:=l) (n:=n+1)
   try simp only[Pkt.cntE]at hc
   have hk1:k+(aJ Pkt.cntE (l.take (n+1)):Nat)=k+(aJ Pkt.cntE (l.take n):Nat)+1+1+(aJ (fun _=>1) l[n].b:Nat):=by rw[hc];push_cast;omega
   repeat((first|apply hW.t|apply hW.f|(apply hW.q;exact rqc));conv=>lhs;whnf)
   (apply hW.w (hget n h2);conv=>lhs;whnf)
   repeat((first|apply hW.t|apply hW.f|(apply hW.q;exact rqc));conv=>lhs;whnf)
   apply hW.bf (by simp[Pkt.mrkE])
   conv=>lhs;whnf
   repeat((first|apply hW.t|apply hW.f|(apply hW.q;exact rqc));conv=>lhs;whnf)
   rw[show IntKind.i64.wrap (k+(aJ Pkt.cntE (l.take n):Nat)+1)=k+(aJ Pkt.cntE (l.take n):Nat)+1 from aG (by omega)]
   (apply hW.w (hget n h2);conv=>lhs;whnf)
   repeat((first|apply hW.t|apply hW.f|(apply hW.q;exact rqc));conv=>lhs;whnf)
   apply hW.bf (by simp[Pkt.mrkE])
   conv=>lhs;whnf
   repeat((first|apply hW.t|apply hW.f|(apply hW.q;exact rqc));conv=>lhs;whnf)
   rw[show IntKind.i64.wrap (k+(aJ Pkt.cntE (l.take n):Nat)+1+1)=k+(aJ Pkt.cntE (l.take n):Nat)+1+1 from aG (by omega)]
   (apply hW.w (hget n h2);conv=>lhs;whnf)
   repeat((first|apply hW.t|apply hW.f|(apply hW.q;exact rqc));conv=>lhs;whnf)
   apply hW.w (vE hE l[n].b (k+(aJ Pkt.cntE (l.take n):Nat)+1+1) (by omega) (by omega))
   conv=>lhs;whnf
   try(apply hW.q;exact rqc;conv=>lhs;whnf)
   apply hW.bf (by simp;omega)
   conv=>lhs;whnf
   repeat((first|apply hW.t|apply hW.f|(apply hW.q;exact rqc));conv=>lhs;whnf)
   refine ih (n+1) (n+1) _ ?_ ⟨rfl,by omega⟩ (by omega)
   intro K
   conv=>lhs;whnf
   conv=>rhs;whnf
   try rfl
   rw[show IntKind.i64.wrap ((n:Int)+1)=_ from aH (by omega),hk1]
  ·have:n=l.length:=by simp[hrl]at h2;omega
   subst this
   simp only[List.take_length];rfl
 ·rfl
def Image.mrkE (k:Int) (x:Image):Image:=⟨dA (fun k _=>cC k) (fun _=>1) (k) x.b⟩
def Image.cntE (x:Image):Nat:=0+aJ (fun _=>1) x.b
def Image.mrk (k:Int) (x:Image):Image:={ x with b:=dA (fun k _=>cC k) (fun _=>1) (k) x.b }
def Image.cnt (x:Image):Nat:=aJ (fun _=>1) x.b
def Tree.mrk (k:Int) (x:Tree):Tree:={ x with up:=dA (fun k _=>k) (fun _=>1) (k) x.up }
def Tree.cnt (x:Tree):Nat:=aJ (fun _=>1) x.up
theorem Tree.cnt_le {x:Tree} (h:x.lim 4194304):x.cnt≤4194304:=by
 have a0:aJ (fun _=>1) x.up≤4194304:=eY (m:=1) h fun _ _=>Nat.le_refl _
 simp only[Tree.cnt];omega
theorem aFA {E:Env} (hE:Sys E) (x:Tree) (k:Int) (h0:0≤k) (hk:k+x.cnt≤4611686018427387904):E 141 [gv (x.cs dD),iv k]=some ([iv (k+x.cnt)],(x.mrk k).cs dD):=by
 unfold Tree.cnt at hk ⊢
 refine hE.run rfl rfl fun W hW=>?_
 conv=>lhs;whnf
 repeat((first|apply hW.t|apply hW.f|(apply hW.q;exact rqc));conv=>lhs;whnf)
 apply hW.w (aFu hE x.up (k) (by omega) (by omega))
 conv=>lhs;whnf
 repeat((first|apply hW.t|apply hW.f|(apply hW.q;exact rqc));conv=>lhs;whnf)
 rw[show k+(((aJ (fun _=>1) x.up):Nat):Int)=k+(aJ (fun _=>1) x.up:Nat) from by push_cast;omega]
 rfl
def Disk.mrkE (k:Int) (x:Disk):Disk:=⟨dA (fun k _=>cC k) (fun _=>1) (k) x.a,dA (fun k _=>cC k) (fun _=>1) (k+(aJ (fun _=>1) x.a:Nat)) x.b,⟨k+(aJ (fun _=>1) x.a:Nat)+(aJ (fun _=>1) x.b:Nat),k+(aJ (fun _=>1) x.a:Nat)+(aJ (fun _=>1) x.b:Nat)+1,k+(aJ (fun _=>1) x.a:Nat)+(aJ (fun _=>1) x.b:Nat)+1+1⟩,dA Put.mrkE Put.cntE (k+(aJ (fun _=>1) x.a:Nat)+(aJ (fun _=>1) x.b:Nat)+1+1+1) x.p⟩
def Disk.cntE (x:Disk):Nat:=0+aJ (fun _=>1) x.a+aJ (fun _=>1) x.b+1+1+1+aJ Put.cntE x.p
def Disk.mrk (k:Int) (x:Disk):Disk:={ x with a:=dA (fun k _=>cC k) (fun _=>1) (k) x.a,b:=dA (fun k _=>cC k) (fun _=>1) (k+(aJ (fun _=>1) x.a:Nat)) x.b,p:=dA Put.mrkE Put.cntE (k+(aJ (fun _=>1) x.a:Nat)+(aJ (fun _=>1) x.b:Nat)) x.p }
def Disk.cnt (x:Disk):Nat:=aJ (fun _=>1) x.a+aJ (fun _=>1) x.b+aJ Put.cntE x.p
theorem Disk.cnt_le {x:Disk} (h:x.lim 4194304):x.cnt≤17592215404544:=by
 have a0:aJ (fun _=>1) x.a≤4194304:=eY (m:=1) h.1 fun _ _=>Nat.le_refl _
 have a1:aJ (fun _=>1) x.b≤4194304:=eY (m:=1) h.2.1 fun _ _=>Nat.le_refl _
 have a2:aJ Put.cntE x.p≤17592207015936:=eY (m:=4194309) h.2.2.1 fun x hx=>Put.cntE_le (h.2.2.2 x hx)
 simp only[Disk.cnt];omega
theorem aFB {E:Env} (hE:Sys E) (x:Disk) (k:Int) (h0:0≤k) (hk:k+x.cnt≤4611686018427387904):E 171 [gv (x.cs dD true),iv k]=some ([iv (k+x.cnt)],(x.mrk k).cs dD true):=by
 unfold Disk.cnt at hk ⊢
 refine hE.run rfl rfl fun W hW=>?_
 conv=>lhs;whnf
 repeat((first|apply hW.t|apply hW.f|(apply hW.q;exact rqc));conv=>lhs;whnf)
 apply hW.w (fQ hE x.a (k) (by omega) (by omega))
 conv=>lhs;whnf
 repeat((first|apply hW.t|apply hW.f|(apply hW.q;exact rqc));conv=>lhs;whnf)
 apply hW.w (fQ hE x.b (k+(aJ (fun _=>1) x.a:Nat)) (by omega) (by omega))
 conv=>lhs;whnf
 repeat((first|apply hW.t|apply hW.f|(apply hW.q;exact rqc));conv=>lhs;whnf)
 apply hW.w (aFz hE x.p (k+(aJ (fun _=>1) x.a:Nat)+(aJ (fun _=>1) x.b:Nat)) (by omega) (by omega))
 conv=>lhs;whnf
 repeat((first|apply hW.t|apply hW.f|(apply hW.q;exact rqc));conv=>lhs;whnf)
 rw[show k+(((aJ (fun _=>1) x.a)+(aJ (fun _=>1) x.b)+(aJ Put.cntE x.p):Nat):Int)=k+(aJ (fun _=>1) x.a:Nat)+(aJ (fun _=>1) x.b:Nat)+(aJ Put.cntE x.p:Nat) from by push_cast;omega]
 rfl
def Msg.mrk (k:Int) (x:Msg):Msg:={ x with man:=x.man.mrk (k),b:=dA (fun k _=>cC k) (fun _=>1) (k+(x.man.cnt:Nat)) x.b }
def Msg.cnt (x:Msg):Nat:=x.man.cnt+aJ (fun _=>1) x.b
def Node.mrkE (k:Int) (x:Node):Node:=⟨decide (Int.tmod (k) 3=0),k+1,k+1+1,⟨k+1+1+1,k+1+1+1+1,k+1+1+1+1+1,dA Sum.mrkE Sum.cntE (k+1+1+1+1+1+1) x.man.sums⟩,⟨k+1+1+1+1+1+1+(aJ Sum.cntE x.man.sums:Nat),dA (fun k _=>cC k) (fun _=>1) (k+1+1+1+1+1+1+(aJ Sum.cntE x.man.sums:Nat)+1) x.bld.buf⟩,k+1+1+1+1+1+1+(aJ Sum.cntE x.man.sums:Nat)+1+(aJ (fun _=>1) x.bld.buf:Nat),dA Kid.mrkE Kid.cntE (k+1+1+1+1+1+1+(aJ Sum.cntE x.man.sums:Nat)+1+(aJ (fun _=>1) x.bld.buf:Nat)+1) x.kids,k+1+1+1+1+1+1+(aJ Sum.cntE x.man.sums:Nat)+1+(aJ (fun _=>1) x.bld.buf:Nat)+1+(aJ Kid.cntE x.kids:Nat)⟩
def Node.cntE (x:Node):Nat:=0+1+1+1+1+1+1+aJ Sum.cntE x.man.sums+1+aJ (fun _=>1) x.bld.buf+1+aJ Kid.cntE x.kids+1
def Node.mrk (k:Int) (x:Node):Node:={ x with man:=x.man.mrk (k),bld:=x.bld.mrk (k+(x.man.cnt:Nat)),kids:=dA Kid.mrkE Kid.cntE (k+(x.man.cnt:Nat)+(x.bld.cnt:Nat)) x.kids }
def Node.cnt (x:Node):Nat:=x.man.cnt+x.bld.cnt+aJ Kid.cntE x.kids
theorem Node.cnt_le {x:Node} (h:x.lim 4194304):x.cnt≤33554432:=by
 have a0:aJ Sum.cntE x.man.sums≤8388608:=eY (m:=2) h.1 fun _ _=>Nat.le_refl _
 have a1:aJ (fun _=>1) x.bld.buf≤4194304:=eY (m:=1) h.2.1 fun _ _=>Nat.le_refl _
 have a2:aJ Kid.cntE x.kids≤20971520:=eY (m:=5) h.2.2 fun _ _=>Nat.le_refl _
 simp only[Node.cnt,Man.cnt,Bld.cnt];omega
theorem aAe {E:Env} (hE:Sys E) (x:Node) (k:Int) (h0:0≤k) (hk:k+x.cnt≤4611686018427387904):E 83 [gv (x.cs dD),iv k]=some ([iv (k+x.cnt)],(x.mrk k).cs dD):=by
 unfold Node.cnt at hk ⊢
 refine hE.run rfl rfl fun W hW=>?_
 conv=>lhs;whnf
 repeat((first|apply hW.t|apply hW.f|(apply hW.q;exact rqc));conv=>lhs;whnf)
 apply hW.w (xO hE x.man (k) (by omega) (by omega))
 conv=>lhs;whnf
 repeat((first|apply hW.t|apply hW.f|(apply hW.q;exact rqc));conv=>lhs;whnf)
 apply hW.w (aDk hE x.bld (k+(x.man.cnt:Nat)) (by omega) (by omega))
 conv=>lhs;whnf
 repeat((first|apply hW.t|apply hW.f|(apply hW.q;exact rqc));conv=>lhs;whnf)
 apply hW.w (aFx hE x.kids (k+(x.man.cnt:Nat)+(x.bld.cnt:Nat)) (by omega) (by omega))
 conv=>lhs;whnf
 repeat((first|apply hW.t|apply hW.f|(apply hW.q;exact rqc));conv=>lhs;whnf)
 rw[show k+(((x.man.cnt)+(x.bld.cnt)+(aJ Kid.cntE x.kids):Nat):Int)=k+(x.man.cnt:Nat)+(x.bld.cnt:Nat)+(aJ Kid.cntE x.kids:Nat) from by push_cast;omega]
 rfl
theorem aFC {E:Env} (hE:Sys E) (x:Node) (k:Int) (h0:0≤k) (hk:k+x.cnt≤4611686018427387904):E 84 [gv ((x.mrk k).cs aM),iv k]=some ([iv (k+x.cnt)],[]):=by
 unfold Node.cnt at hk ⊢
 refine hE.run rfl rfl fun W hW=>?_
 conv=>lhs;whnf
 apply hW.w (xP hE x.man (k) (by omega) (by omega))
 conv=>lhs;whnf
 try(apply hW.q;exact rqc;conv=>lhs;whnf)
 apply hW.bf (by simp;omega)
 conv=>lhs;whnf
 apply hW.w (aDl hE x.bld (k+(x.man.cnt:Nat)) (by omega) (by omega))
 conv=>lhs;whnf
 try(apply hW.q;exact rqc;conv=>lhs;whnf)
 apply hW.bf (by simp;omega)
 conv=>lhs;whnf
 apply hW.w (aFy hE x.kids (k+(x.man.cnt:Nat)+(x.bld.cnt:Nat)) (by omega) (by omega))
 conv=>lhs;whnf
 try(apply hW.q;exact rqc;conv=>lhs;whnf)
 apply hW.bf (by simp;omega)
 conv=>lhs;whnf
 rw[show k+(((x.man.cnt)+(x.bld.cnt)+(aJ Kid.cntE x.kids):Nat):Int)=k+(x.man.cnt:Nat)+(x.bld.cnt:Nat)+(aJ Kid.cntE x.kids:Nat) from by push_cast;omega]
 rfl
def Actn.mrk (k:Int) (x:Actn):Actn:={ x with n:=x.n.mrk (k),out:=dA Pkt.mrkE Pkt.cntE (k+(x.n.cnt:Nat)) x.out }
def Actn.cnt (x:Actn):Nat:=x.n.cnt+aJ Pkt.cntE x.out
theorem Actn.cnt_le {x:Actn} (h:x.lim 4194304):x.cnt≤17592227987456:=by
 have a0:aJ Sum.cntE x.n.man.sums≤8388608:=eY (m:=2) h.1.1 fun _ _=>Nat.le_refl _
 have a1:aJ (fun _=>1) x.n.bld.buf≤4194304:=eY (m:=1) h.1.2.1 fun _ _=>Nat.le_refl _
 have a2:aJ Kid.cntE x.n.kids≤20971520:=eY (m:=5) h.1.2.2 fun _ _=>Nat.le_refl _
 have a3:aJ Pkt.cntE x.out≤17592194433024:=eY (m:=4194306) h.2.1 fun x hx=>Pkt.cntE_le (h.2.2 x hx)
 simp only[Actn.cnt,Node.cnt,Man.cnt,Bld.cnt];omega
theorem aHm {E:Env} (hE:Sys E) (x:Actn) (k:Int) (h0:0≤k) (hk:k+x.cnt≤4611686018427387904):E 428 [gv (x.cs dD true),iv k]=some ([iv (k+x.cnt)],(x.mrk k).cs dD true):=by
 unfold Actn.cnt at hk ⊢
 refine hE.run rfl rfl fun W hW=>?_
 conv=>lhs;whnf
 repeat((first|apply hW.t|apply hW.f|(apply hW.q;exact rqc));conv=>lhs;whnf)
 apply hW.w (aAe hE x.n (k) (by omega) (by omega))
 conv=>lhs;whnf
 repeat((first|apply hW.t|apply hW.f|(apply hW.q;exact rqc));conv=>lhs;whnf)
 apply hW.w (aAO hE x.out (k+(x.n.cnt:Nat)) (by omega) (by omega))
 conv=>lhs;whnf
 repeat((first|apply hW.t|apply hW.f|(apply hW.q;exact rqc));conv=>lhs;whnf)
 rw[show k+(((x.n.cnt)+(aJ Pkt.cntE x.out):Nat):Int)=k+(x.n.cnt:Nat)+(aJ Pkt.cntE x.out:Nat) from by push_cast;omega]
 rfl
theorem aCg {E:Env} (hE:Sys E) {o:Bool} (x:Actn) (k:Int) (h0:0≤k) (hk:k+x.cnt≤4611686018427387904):E 429 [gv ((x.mrk k).cs aM o),iv k]=some ([iv (k+x.cnt)],[]):=by
 unfold Actn.cnt at hk ⊢
 refine hE.run rfl rfl fun W hW=>?_
 conv=>lhs;whnf
 apply hW.w (aFC hE x.n (k) (by omega) (by omega))
 conv=>lhs;whnf
 try(apply hW.q;exact rqc;conv=>lhs;whnf)
 apply hW.bf (by simp;omega)
 conv=>lhs;whnf
 apply hW.w (aAP hE x.out (k+(x.n.cnt:Nat)) (by omega) (by omega))
 conv=>lhs;whnf
 try(apply hW.q;exact rqc;conv=>lhs;whnf)
 apply hW.bf (by simp;omega)
 conv=>lhs;whnf
 rw[show k+(((x.n.cnt)+(aJ Pkt.cntE x.out):Nat):Int)=k+(x.n.cnt:Nat)+(aJ Pkt.cntE x.out:Nat) from by push_cast;omega]
 rfl
def Beat.mrk (k:Int) (x:Beat):Beat:={ x with n:=x.n.mrk (k),d:=x.d.mrk (k+(x.n.cnt:Nat)),out:=dA Pkt.mrkE Pkt.cntE (k+(x.n.cnt:Nat)+(x.d.cnt:Nat)) x.out }
def Beat.cnt (x:Beat):Nat:=x.n.cnt+x.d.cnt+aJ Pkt.cntE x.out
def World.mrk (k:Int) (x:World):World:={ x with t:=x.t.mrk (k),new:=dA (fun k _=>cC k) (fun _=>1) (k+(x.t.cnt:Nat)) x.new,old:=dA Image.mrkE Image.cntE (k+(x.t.cnt:Nat)+(aJ (fun _=>1) x.new:Nat)) x.old,n:=dA Node.mrkE Node.cntE (k+(x.t.cnt:Nat)+(aJ (fun _=>1) x.new:Nat)+(aJ Image.cntE x.old:Nat)) x.n,d:=dA Disk.mrkE Disk.cntE (k+(x.t.cnt:Nat)+(aJ (fun _=>1) x.new:Nat)+(aJ Image.cntE x.old:Nat)+(aJ Node.cntE x.n:Nat)) x.d,net:=dA Pkt.mrkE Pkt.cntE (k+(x.t.cnt:Nat)+(aJ (fun _=>1) x.new:Nat)+(aJ Image.cntE x.old:Nat)+(aJ Node.cntE x.n:Nat)+(aJ Disk.cntE x.d:Nat)) x.net,log:=dA Sent.mrkE Sent.cntE (k+(x.t.cnt:Nat)+(aJ (fun _=>1) x.new:Nat)+(aJ Image.cntE x.old:Nat)+(aJ Node.cntE x.n:Nat)+(aJ Disk.cntE x.d:Nat)+(aJ Pkt.cntE x.net:Nat)) x.log }
def World.cnt (x:World):Nat:=x.t.cnt+aJ (fun _=>1) x.new+aJ Image.cntE x.old+aJ Node.cntE x.n+aJ Disk.cntE x.d+aJ Pkt.cntE x.net+aJ Sent.cntE x.log
def sW {α:Type} (p:α→Bool):Nat→List α→Int
 |_,[] => -1
 |n,x::r=>if p x then n else sW p (n+1) r
theorem aJJ {α:Type} {p:α→Bool} {l:List α}:∀ {n:Nat},sW p n l = -1∨∃ i:Nat,i<l.length∧sW p n l=((n+i:Nat):Int):=by
 induction l with
 |nil=>intro n;exact .inl rfl
 |cons x r ih =>
  intro n
  simp only[sW]
  cases p x
  ·simp only[Bool.false_eq_true,if_false]
   rcases ih (n:=n+1) with h|⟨i,h1,h2⟩
   ·exact .inl h
   ·exact .inr ⟨i+1,by simpa using h1,by rw[h2];congr 1;omega⟩
  ·exact .inr ⟨0,by simp,by simp⟩
def bM (x lo hi:Int):Bool:=decide (lo≤x)&&decide (x≤hi)
def cQ (s:Int):Bool:=bM s 0 1099511627775
theorem bG {E:Env} (hE:Sys E) (x lo hi:Int):E 1 [iv x,iv lo,iv hi]=some ([bv (bM x lo hi)],[]):=by
 refine hE.run rfl rfl fun W hW=>?_
 conv=>lhs;whnf
 unfold bM
 apply hW.b<;>intro h1<;>conv=>lhs;whnf
 ·rw[h1]
  repeat((first|apply hW.t|apply hW.f|(apply hW.q;exact rqc));conv=>lhs;whnf)
  simp_all;rfl
 ·rw[h1]
  repeat((first|apply hW.t|apply hW.f|(apply hW.q;exact rqc));conv=>lhs;whnf)
  simp_all;rfl
theorem bJ {E:Env} (hE:Sys E) (x lo hi:Int):E 2 [iv x,iv lo,iv hi]=some ([bv (bM x lo hi)],[]):=by
 refine hE.run rfl rfl fun W hW=>?_
 conv=>lhs;whnf
 unfold bM
 apply hW.b<;>intro h1<;>conv=>lhs;whnf
 ·rw[h1]
  repeat((first|apply hW.t|apply hW.f|(apply hW.q;exact rqc));conv=>lhs;whnf)
  simp_all;rfl
 ·rw[h1]
  repeat((first|apply hW.t|apply hW.f|(apply hW.q;exact rqc));conv=>lhs;whnf)
  simp_all;rfl
theorem bR {E:Env} (hE:Sys E) (s:Int):E 26 [iv s]=some ([bv (cQ s)],[]):=by
 refine hE.run rfl rfl fun W hW=>?_
 conv=>lhs;whnf
 apply hW.w (bG hE s 0 1099511627775)
 conv=>lhs;whnf
 try(apply hW.q;exact rqc;conv=>lhs;whnf)
 rfl
theorem cK {E:Env} (hE:Sys E) (s:Int):E 32 [iv s]=some ([bv (cQ s)],[]):=by
 refine hE.run rfl rfl fun W hW=>?_
 conv=>lhs;whnf
 apply hW.w (bJ hE s 0 1099511627775)
 conv=>lhs;whnf
 try(apply hW.q;exact rqc;conv=>lhs;whnf)
 rfl
def gE (l:List Kid) (id:Int):Int:=sW (fun x:Kid=>decide (x.id=id)) 0 l
theorem lE {E:Env} (hE:Sys E) (l:List Kid) (id:Int) (h0:l.length≤1099511627776):E 25 [sv (l.map Kid.row),iv id]=some ([iv (gE l id)],[]):=by
 refine hE.run rfl rfl fun W hW=>?_
 conv=>lhs;whnf
 refine hW.loop (σ:=Nat) (γ:=Nat) (fun i s=>s.sl 5 (v1 (.t (.int .i64 i)))) (fun i n=>i=n∧n≤l.length) (fun n=>l.length-n) (fun n=>([iv (sW (fun x:Kid=>decide (x.id=id)) n (l.drop n))],[])) 0 0 ?_ ?_ ?_ ?_
 ·intro K
  conv=>lhs;whnf
  conv=>rhs;whnf
  try rfl
 ·simp
 ·rintro kl n _ ⟨rfl,hn⟩ ih
  conv=>lhs;whnf
  apply hW.b<;>intro h2<;>conv=>lhs;whnf
  ·have h2:n<l.length:=by simpa using h2
   rw[List.drop_eq_getElem_cons h2,sW]
   repeat((first|apply hW.t|apply hW.f|(apply hW.q;exact rqc)|(refine hW.w (cA ?_) ?_;omega));conv=>lhs;whnf)
   apply hW.b<;>intro h3<;>conv=>lhs;whnf
   ·simp only[h3,if_true];rfl
   ·simp only[h3,if_false,Bool.false_eq_true]
    refine ih (n+1) (n+1) _ ?_ ⟨rfl,by omega⟩ (by omega)
    intro K
    conv=>lhs;whnf
    conv=>rhs;whnf
    try rfl
    rw[show IntKind.i64.wrap ((n:Int)+1)=_ from aH (by omega)]
  ·have:n=l.length:=by simp at h2;omega
   subst this
   rw[List.drop_length];rfl
 ·rfl
theorem aHn {E:Env} (hE:Sys E) (x:Kid) (id:Int):E 102 [gv x.cs, .pt false [ci id]]=some ([bv (decide (x.id=id))],[]):=by
 refine hE.run rfl rfl fun W hW=>?_
 conv=>lhs;whnf
 rfl
theorem qZ {E:Env} (hE:Sys E) (l:List Kid) (h0:l.length≤1099511627776) (id:Int):E 29 [sv (l.map Kid.row), .fn 102 [[ci id]]]=some ([iv (sW (fun x:Kid=>decide (x.id=id)) 0 l)],[]):=by
 have hrl:(l.map Kid.row).length=l.length:=by simp[bys,bQ]
 refine hE.run rfl rfl fun W hW=>?_
 conv=>lhs;whnf
 refine hW.loop (σ:=Nat) (γ:=Nat) (fun i s=>s.sl 8 (v1 (.t (.int .i64 i)))) (fun i n=>i=n∧n≤l.length) (fun n=>l.length-n) (fun n=>([iv (sW (fun x:Kid=>decide (x.id=id)) n (l.drop n))],[])) 0 0 ?_ ?_ ?_ ?_
 ·intro K
  conv=>lhs;whnf
  conv=>rhs;whnf
  try rfl
 ·simp
 ·rintro kl n _ ⟨rfl,hn⟩ ih
  conv=>lhs;whnf
  apply hW.b<;>intro h2<;>conv=>lhs;whnf
  ·have h2:n<l.length:=by simpa[hrl] using h2
   rw[List.drop_eq_getElem_cons h2]
   repeat((first|apply hW.t|apply hW.f|(apply hW.q;exact rqc)|(refine hW.w (cA ?_) ?_;omega));conv=>lhs;whnf)
   apply hW.w (aHn hE l[n] id)
   conv=>lhs;whnf
   try(apply hW.q;exact rqc;conv=>lhs;whnf)
   simp only[sW]
   apply hW.b<;>intro h3<;>conv=>lhs;whnf
   ·simp only[h3,if_true];rfl
   ·simp only[h3,if_false,Bool.false_eq_true]
    refine ih (n+1) (n+1) _ ?_ ⟨rfl,by omega⟩ (by omega)
    intro K
    conv=>lhs;whnf
    conv=>rhs;whnf
    try rfl
    rw[show IntKind.i64.wrap ((n:Int)+1)=_ from aH (by omega)]
    try rfl
  ·have:n=l.length:=by simp[hrl]at h2;omega
   subst this
   rw[List.drop_length];rfl
 ·rfl
theorem lF {E:Env} (hE:Sys E) (l:List Kid) (id:Int) (h0:l.length≤1099511627776):E 31 [sv (l.map Kid.row),iv id]=some ([iv (gE l id)],[]):=by
 refine hE.run rfl rfl fun W hW=>?_
 conv=>lhs;whnf
 apply hW.w (qZ hE l h0 id)
 conv=>lhs;whnf
 try(apply hW.q;exact rqc;conv=>lhs;whnf)
 rfl
theorem oF {E:Env} (hE:Sys E) (l:List Kid) (h0:l.length≤68719476736):E 30 [sv (l.map Kid.row)]=some ([ov 5 (l.map Kid.row)],[]):=by
 have hfl:lZ (l.map Kid.row)=true:=tU (fun _=>rfl) l
 have hrl:(l.map Kid.row).length=l.length:=by simp[bys,bQ]
 have hro:∀ e∈l.map Kid.row,e.length=5:=aM2 fun _=>rfl
 refine hE.run2 rfl rfl (fun W hW=>?_) (fun he W hW=>?_)
 ·conv=>lhs;whnf
  repeat((first|apply hW.t|apply hW.f|(apply hW.q;exact rqc));conv=>lhs;whnf)
  refine hW.q (by exact⟨by decide,hro,by simp only[List.length_nil,hrl];omega,by simp only[List.length_nil,hrl];omega⟩) ?_
  conv=>lhs;whnf
  apply hW.bt (hfl)
  conv=>lhs;whnf
  rfl
 ·cases l with
  |cons x r=>exact absurd (show false=true from he) (by decide)
  |nil =>
   conv=>lhs;whnf
   repeat((first|apply hW.t|apply hW.f|(apply hW.q;exact rqc));conv=>lhs;whnf)
   rfl
def Node.limk (n:Node):Prop:=n.man.sums.length≤1048576∧n.bld.buf.length≤1048576∧n.kids.length≤4194304
theorem Node.lim.k {n:Node} (h:n.lim 1048576):n.limk:=⟨h.1,h.2.1,Nat.le_trans h.2.2 (by decide)⟩
theorem Node.limk.l4 {n:Node} (h:n.limk):n.lim 4194304:=⟨Nat.le_trans h.1 (by decide),Nat.le_trans h.2.1 (by decide),h.2.2⟩
theorem Node.limk.l8 {n:Node} (h:n.limk):n.lim 8388608:=Node.lim_mono (by decide) h.l4
abbrev aHo (n:Node):Int:=n.bld.hav
def wor (a b:Int):Int:=IntKind.i64.wrap (BitVec.ofInt IntKind.i64.bits a ||| BitVec.ofInt IntKind.i64.bits b).toNat
theorem mJ {l:List Kid} {id:Int} (h:¬ gE l id<0):∃ n:Nat,∃ _:n<l.length,gE l id=n:=by
 rcases aJJ (p:=fun x:Kid=>decide (x.id=id)) (l:=l) (n:=0) with h1|⟨i,h1,h2⟩
 ·rw[show gE l id=_ from h1]at h;exact absurd (by decide) h
 ·exact⟨i,h1,by rw[show gE l id=_ from h2];simp⟩
def cW (l:List Kid) (id s:Int):List Kid :=
 match l[(gE l id).toNat]? with
 |none=>l
 |some x=>if gE l id<0∨cQ s=false∨cQ x.sent=false then l else l.set (gE l id).toNat { x with sent:=wor x.sent s }
theorem gT (l:List Kid) (id s:Int):(cW l id s).length=l.length:=by
 unfold cW
 split
 ·rfl
 ·split<;>simp
theorem pQ {l:List Kid} {id s:Int} (h:gE l id<0):cW l id s=l:=by
 unfold cW;split
 ·rfl
 ·rw[if_pos (.inl h)]
theorem sE {l:List Kid} {id s:Int} {n:Nat} (hn:n<l.length) (h:gE l id=n):cW l id s=if cQ s=false∨cQ l[n].sent=false then l else l.set n { l[n] with sent:=wor l[n].sent s }:=by
 unfold cW
 rw[h,Int.toNat_natCast,List.getElem?_eq_getElem hn]
 simp only[show ¬ ((n:Int)<0) from by omega,false_or]
theorem lG (l:List Kid):lZ (l.map Kid.row)=true:=tU (fun _=>rfl) l
theorem kids_rows (l:List Kid):∀ e∈l.map Kid.row,e.length=5:=aM2 fun _=>rfl
theorem lH {E:Env} (hE:Sys E) (l:List Kid) (id s:Int) (h0:l.length≤4194304):E 36 [sv (l.map Kid.row),iv id,iv s]=some ([ov 5 ((cW l id s).map Kid.row)],[]):=by
 refine hE.run rfl rfl fun W hW=>?_
 conv=>lhs;whnf
 repeat((first|apply hW.t|apply hW.f|(apply hW.q;exact rqc));conv=>lhs;whnf)
 refine hW.q (by exact⟨by decide,kids_rows l,by simp;omega,by simp;omega⟩) ?_
 conv=>lhs;whnf
 apply hW.bt (lG l)
 conv=>lhs;whnf
 apply hW.w (lE hE l id (by omega))
 conv=>lhs;whnf
 try(apply hW.q;exact rqc;conv=>lhs;whnf)
 apply hW.b<;>intro h1<;>conv=>lhs;whnf
 ·repeat((first|apply hW.t|apply hW.f|(apply hW.q;exact rqc));conv=>lhs;whnf)
  have h1:gE l id<0:=by simpa using h1
  rw[pQ h1];rfl
 ·obtain⟨n,hn,hk⟩:=mJ (by simpa using h1)
  rw[sE hn hk,hk]
  repeat((first|apply hW.t|apply hW.f|(apply hW.q;exact rqc));conv=>lhs;whnf)
  apply hW.w (bR hE s)
  conv=>lhs;whnf
  repeat((first|apply hW.t|apply hW.f|(apply hW.q;exact rqc));conv=>lhs;whnf)
  apply hW.b<;>intro h2<;>conv=>lhs;whnf
  ·repeat((first|apply hW.t|apply hW.f|(apply hW.q;exact rqc));conv=>lhs;whnf)
   rw[if_pos (.inl (by simpa using h2))];rfl
  ·repeat((first|apply hW.t|apply hW.f|(apply hW.q;exact rqc)|(refine hW.w (cA ?_) ?_;omega));conv=>lhs;whnf)
   apply hW.w (bR hE l[n].sent)
   conv=>lhs;whnf
   repeat((first|apply hW.t|apply hW.f|(apply hW.q;exact rqc));conv=>lhs;whnf)
   apply hW.b<;>intro h3<;>conv=>lhs;whnf
   ·repeat((first|apply hW.t|apply hW.f|(apply hW.q;exact rqc));conv=>lhs;whnf)
    rw[if_pos (.inr (by simpa using h3))];rfl
   ·rw[if_neg (by simp at h2 h3;simp[h2,h3]),List.map_set]
    repeat((first|apply hW.t|apply hW.f|(apply hW.q;exact rqc)|(refine hW.w (cA ?_) ?_;omega));conv=>lhs;whnf)
    rfl
theorem lI {E:Env} (hE:Sys E) (l:List Kid) (id s:Int) (h0:l.length≤4194304):E 37 [sv (l.map Kid.row),iv id,iv s]=some ([ov 5 ((cW l id s).map Kid.row)],[]):=by
 refine hE.run rfl rfl fun W hW=>?_
 conv=>lhs;whnf
 apply hW.w (oF hE l (by omega))
 conv=>lhs;whnf
 repeat((first|apply hW.t|apply hW.f|(apply hW.q;exact rqc));conv=>lhs;whnf)
 apply hW.w (lF hE l id (by omega))
 conv=>lhs;whnf
 repeat((first|apply hW.t|apply hW.f|(apply hW.q;exact rqc));conv=>lhs;whnf)
 apply hW.b<;>intro h1<;>conv=>lhs;whnf
 ·obtain⟨n,hn,hk⟩:=mJ (l:=l) (id:=id) (by simpa using h1)
  rw[sE hn hk,hk]
  repeat((first|apply hW.t|apply hW.f|(apply hW.q;exact rqc));conv=>lhs;whnf)
  apply hW.w (cK hE s)
  conv=>lhs;whnf
  repeat((first|apply hW.t|apply hW.f|(apply hW.q;exact rqc));conv=>lhs;whnf)
  apply hW.b<;>intro h2<;>conv=>lhs;whnf
  ·repeat((first|apply hW.t|apply hW.f|(apply hW.q;exact rqc)|(refine hW.w (cA ?_) ?_;omega));conv=>lhs;whnf)
   apply hW.w (cK hE l[n].sent)
   conv=>lhs;whnf
   repeat((first|apply hW.t|apply hW.f|(apply hW.q;exact rqc));conv=>lhs;whnf)
   apply hW.b<;>intro h3<;>conv=>lhs;whnf
   ·rw[if_neg (by rintro(h|h)<;>simp_all),List.map_set]
    repeat((first|apply hW.t|apply hW.f|(apply hW.q;exact rqc)|(refine hW.w (cA ?_) ?_;omega));conv=>lhs;whnf)
    rfl
   ·repeat((first|apply hW.t|apply hW.f|(apply hW.q;exact rqc));conv=>lhs;whnf)
    rw[if_pos (.inr (by simpa using h3))];rfl
  ·repeat((first|apply hW.t|apply hW.f|(apply hW.q;exact rqc));conv=>lhs;whnf)
   rw[if_pos (.inl (by simpa using h2))];rfl
 ·repeat((first|apply hW.t|apply hW.f|(apply hW.q;exact rqc));conv=>lhs;whnf)
  have h1:gE l id<0:=by simpa using h1
  rw[pQ h1];rfl
theorem bS {x lo hi:Int} (h:bM x lo hi=true):lo≤x∧x≤hi:=by simpa[bM] using h
theorem iA {b:Bool} (h:(!b)=false):b=true:=by simpa using h
theorem kK {b:Bool} (h:(!b)=true):b=false:=by simpa using h
def jS (n:Int):Int:=if bM n 0 40=true then IntKind.i64.wrap (IntKind.i64.wrap (1*2 ^ (min n.toNat IntKind.i64.bits))-1) else 0
theorem xQ {E:Env} (hE:Sys E) (n:Int):E 89 [iv n]=some ([iv (jS n)],[]):=by
 refine hE.run rfl rfl fun W hW=>?_
 conv=>lhs;whnf
 apply hW.w (bG hE n 0 40)
 conv=>lhs;whnf
 try(apply hW.q;exact rqc;conv=>lhs;whnf)
 unfold jS
 apply hW.b<;>intro h1<;>conv=>lhs;whnf
 ·rw[kK h1]
  repeat((first|apply hW.t|apply hW.f|(apply hW.q;exact rqc));conv=>lhs;whnf)
  rfl
 ·rw[iA h1]
  have:=bS (iA h1)
  repeat((first|apply hW.t|apply hW.f|(apply hW.q;exact rqc));conv=>lhs;whnf)
  rfl
theorem xR {E:Env} (hE:Sys E) (n:Int):E 93 [iv n]=some ([iv (jS n)],[]):=by
 refine hE.run rfl rfl fun W hW=>?_
 conv=>lhs;whnf
 apply hW.w (bJ hE n 0 40)
 conv=>lhs;whnf
 try(apply hW.q;exact rqc;conv=>lhs;whnf)
 unfold jS
 apply hW.b<;>intro h1<;>conv=>lhs;whnf
 ·rw[kK h1]
  repeat((first|apply hW.t|apply hW.f|(apply hW.q;exact rqc));conv=>lhs;whnf)
  rfl
 ·rw[iA h1]
  have:=bS (iA h1)
  repeat((first|apply hW.t|apply hW.f|(apply hW.q;exact rqc));conv=>lhs;whnf)
  rfl
def cN (m:Man):Int:=jS m.sums.length
theorem vF {E:Env} (hE:Sys E) (m:Man):E 90 [gv (m.cs aM)]=some ([iv (cN m)],[]):=by
 refine hE.run rfl rfl fun W hW=>?_
 conv=>lhs;whnf
 rw[show(m.sums.map Sum.row).length=m.sums.length from List.length_map _]
 apply hW.w (xQ hE m.sums.length)
 conv=>lhs;whnf
 try(apply hW.q;exact rqc;conv=>lhs;whnf)
 rfl
theorem vG {E:Env} (hE:Sys E) (m:Man):E 94 [gv (m.cs aM)]=some ([iv (cN m)],[]):=by
 refine hE.run rfl rfl fun W hW=>?_
 conv=>lhs;whnf
 rw[show(m.sums.map Sum.row).length=m.sums.length from List.length_map _]
 apply hW.w (xR hE m.sums.length)
 conv=>lhs;whnf
 try(apply hW.q;exact rqc;conv=>lhs;whnf)
 rfl
def xS (a b:Int):Int:=IntKind.i64.wrap (BitVec.ofInt IntKind.i64.bits a &&& ~~~BitVec.ofInt IntKind.i64.bits b).toNat
def tY (a b:Int):Int:=if cQ a=true∧cQ b=true then xS a b else 0
theorem xT {E:Env} (hE:Sys E) (a b:Int):E 91 [iv a,iv b]=some ([iv (tY a b)],[]):=by
 refine hE.run rfl rfl fun W hW=>?_
 conv=>lhs;whnf
 apply hW.w (bR hE a)
 conv=>lhs;whnf
 try(apply hW.q;exact rqc;conv=>lhs;whnf)
 unfold tY
 repeat((first|apply hW.t|apply hW.f|(apply hW.q;exact rqc));conv=>lhs;whnf)
 apply hW.b<;>intro h1<;>conv=>lhs;whnf
 ·rw[if_neg (by rintro⟨h,_⟩;rw[h]at h1;cases h1)]
  repeat((first|apply hW.t|apply hW.f|(apply hW.q;exact rqc));conv=>lhs;whnf)
  rfl
 ·rw[iA h1]
  repeat((first|apply hW.t|apply hW.f|(apply hW.q;exact rqc));conv=>lhs;whnf)
  apply hW.w (bR hE b)
  conv=>lhs;whnf
  repeat((first|apply hW.t|apply hW.f|(apply hW.q;exact rqc));conv=>lhs;whnf)
  apply hW.b<;>intro h2<;>conv=>lhs;whnf
  ·rw[kK h2]
   repeat((first|apply hW.t|apply hW.f|(apply hW.q;exact rqc));conv=>lhs;whnf)
   rfl
  ·rw[iA h2]
   repeat((first|apply hW.t|apply hW.f|(apply hW.q;exact rqc));conv=>lhs;whnf)
   rfl
theorem mV {E:Env} (hE:Sys E) (i:Int):E 128 [iv i]=some ([bv (bM i 0 39)],[]):=by
 refine hE.run rfl rfl fun W hW=>?_
 conv=>lhs;whnf
 apply hW.w (bJ hE i 0 39)
 conv=>lhs;whnf
 try(apply hW.q;exact rqc;conv=>lhs;whnf)
 rfl
theorem mW {E:Env} (hE:Sys E) (i:Int):E 1 [iv i,iv 0,iv 39]=some ([bv (bM i 0 39)],[]):=bG hE i 0 39
def aFD (n:Int):Int:=IntKind.i64.wrap (1*2 ^ (min n.toNat IntKind.i64.bits))
def jB (s i:Int):Int:=if cQ s=true∧bM i 0 39=true then wor s (aFD i) else s
theorem lJ {E:Env} (hE:Sys E) (s i:Int):E 123 [iv s,iv i]=some ([iv (jB s i)],[]):=by
 refine hE.run rfl rfl fun W hW=>?_
 conv=>lhs;whnf
 apply hW.w (bR hE s)
 conv=>lhs;whnf
 try(apply hW.q;exact rqc;conv=>lhs;whnf)
 unfold jB
 repeat((first|apply hW.t|apply hW.f|(apply hW.q;exact rqc));conv=>lhs;whnf)
 apply hW.b<;>intro h1<;>conv=>lhs;whnf
 ·rw[if_neg (by rintro⟨h,_⟩;rw[h]at h1;cases h1)]
  repeat((first|apply hW.t|apply hW.f|(apply hW.q;exact rqc));conv=>lhs;whnf)
  rfl
 ·rw[iA h1]
  repeat((first|apply hW.t|apply hW.f|(apply hW.q;exact rqc));conv=>lhs;whnf)
  apply hW.w (mW hE i)
  conv=>lhs;whnf
  repeat((first|apply hW.t|apply hW.f|(apply hW.q;exact rqc));conv=>lhs;whnf)
  apply hW.b<;>intro h2<;>conv=>lhs;whnf
  ·rw[kK h2]
   repeat((first|apply hW.t|apply hW.f|(apply hW.q;exact rqc));conv=>lhs;whnf)
   rfl
  ·rw[iA h2]
   have:=bS (iA h2)
   repeat((first|apply hW.t|apply hW.f|(apply hW.q;exact rqc));conv=>lhs;whnf)
   rfl
def dN (s i:Int):Bool:=cQ s&&(bM i 0 39&&decide (IntKind.i64.wrap (BitVec.ofInt IntKind.i64.bits (s.fdiv (2 ^ (min i.toNat IntKind.i64.bits))) &&& BitVec.ofInt IntKind.i64.bits 1).toNat=1))
theorem cX {E:Env} (hE:Sys E) (s i:Int):E 132 [iv s,iv i]=some ([bv (dN s i)],[]):=by
 refine hE.run rfl rfl fun W hW=>?_
 conv=>lhs;whnf
 apply hW.w (bR hE s)
 conv=>lhs;whnf
 try(apply hW.q;exact rqc;conv=>lhs;whnf)
 unfold dN
 repeat((first|apply hW.t|apply hW.f|(apply hW.q;exact rqc));conv=>lhs;whnf)
 apply hW.b<;>intro h1<;>conv=>lhs;whnf
 ·rw[h1]
  repeat((first|apply hW.t|apply hW.f|(apply hW.q;exact rqc));conv=>lhs;whnf)
  apply hW.w (mW hE i)
  conv=>lhs;whnf
  repeat((first|apply hW.t|apply hW.f|(apply hW.q;exact rqc));conv=>lhs;whnf)
  apply hW.b<;>intro h2<;>conv=>lhs;whnf
  ·rw[h2]
   have:=bS h2
   repeat((first|apply hW.t|apply hW.f|(apply hW.q;exact rqc));conv=>lhs;whnf)
   rfl
  ·rw[h2]
   repeat((first|apply hW.t|apply hW.f|(apply hW.q;exact rqc));conv=>lhs;whnf)
   rfl
 ·rw[h1]
  repeat((first|apply hW.t|apply hW.f|(apply hW.q;exact rqc));conv=>lhs;whnf)
  rfl
theorem dF {E:Env} (hE:Sys E) (s i:Int):E 135 [iv s,iv i]=some ([bv (dN s i)],[]):=by
 refine hE.run rfl rfl fun W hW=>?_
 conv=>lhs;whnf
 apply hW.w (cK hE s)
 conv=>lhs;whnf
 try(apply hW.q;exact rqc;conv=>lhs;whnf)
 unfold dN
 repeat((first|apply hW.t|apply hW.f|(apply hW.q;exact rqc));conv=>lhs;whnf)
 apply hW.b<;>intro h1<;>conv=>lhs;whnf
 ·rw[h1]
  repeat((first|apply hW.t|apply hW.f|(apply hW.q;exact rqc));conv=>lhs;whnf)
  apply hW.w (mV hE i)
  conv=>lhs;whnf
  repeat((first|apply hW.t|apply hW.f|(apply hW.q;exact rqc));conv=>lhs;whnf)
  apply hW.b<;>intro h2<;>conv=>lhs;whnf
  ·rw[h2]
   have:=bS h2
   repeat((first|apply hW.t|apply hW.f|(apply hW.q;exact rqc));conv=>lhs;whnf)
   rfl
  ·rw[h2]
   repeat((first|apply hW.t|apply hW.f|(apply hW.q;exact rqc));conv=>lhs;whnf)
   rfl
 ·rw[h1]
  repeat((first|apply hW.t|apply hW.f|(apply hW.q;exact rqc));conv=>lhs;whnf)
  rfl
theorem aCh (a:aE):(⟨a.toArray⟩:ByteArray).toList=a:=by rw[ByteArray.toList_eq]
theorem aAQ {E:Env} (hE:Sys E) (a b:aE):E 14 [sv (bys a),sv (bys b)]=some ([bv (decide (a=b))],[]):=by
 refine hE.run rfl rfl fun W hW=>?_
 conv=>lhs;whnf
 apply hW.w (zZ a)
 conv=>lhs;whnf
 try(apply hW.q;exact rqc;conv=>lhs;whnf)
 apply hW.w (zZ b)
 conv=>lhs;whnf
 try(apply hW.q;exact rqc;conv=>lhs;whnf)
 simp only[aCh]
 rfl
theorem sX {E:Env} (hE:Sys E) (a b:aE):E 15 [sv (bys a),sv (bys b)]=some ([bv (decide (a=b))],[]):=by
 refine hE.run rfl rfl fun W hW=>?_
 conv=>lhs;whnf
 apply hW.w (aAQ hE a b)
 conv=>lhs;whnf
 try(apply hW.q;exact rqc;conv=>lhs;whnf)
 rfl
theorem lK {E:Env} (hE:Sys E) (l m:List Sum) (h0:l.length≤1099511627776):E 235 [sv (l.map Sum.row),sv (m.map Sum.row)]=some ([bv (decide (l=m))],[]):=by
 refine hE.run rfl rfl fun W hW=>?_
 conv=>lhs;whnf
 apply hW.b<;>intro h<;>conv=>lhs;whnf
 ·have:l≠m:=by rintro rfl;simp at h
  rw[decide_eq_false this];rfl
 ·have h:l.length=m.length:=by simp at h;omega
  refine hW.loop (σ:=Nat) (γ:=Nat) (fun i s=>s.sl 5 (v1 (.t (.int .i64 i)))) (fun i n=>i=n∧n≤l.length) (fun n=>l.length-n) (fun n=>([bv (decide (l.drop n=m.drop n))],[])) 0 0 ?_ ?_ ?_ ?_
  ·intro K
   conv=>lhs;whnf
   conv=>rhs;whnf
   try rfl
  ·simp
  ·rintro kl n _ ⟨rfl,hn⟩ ih
   conv=>lhs;whnf
   apply hW.b<;>intro h2<;>conv=>lhs;whnf
   ·have h2:n<l.length:=by simpa using h2
    rw[List.drop_eq_getElem_cons h2,List.drop_eq_getElem_cons (l:=m) (i:=n) (by omega)]
    repeat((first|apply hW.t|apply hW.f|(apply hW.q;exact rqc)|(refine hW.w (cA ?_) ?_;omega));conv=>lhs;whnf)
    apply hW.b<;>intro h3<;>conv=>lhs;whnf
    ·have h3:l[n]≠m[n]:=by intro e;rw[e]at h3;simp at h3
     rw[decide_eq_false fun e=>h3 (List.cons.inj e).1];rfl
    ·have h3:l[n]=m[n]:=by
      revert h3
      generalize l[n]=x
      generalize m[n]=y
      cases x;cases y
      simp
     simp only[h3,List.cons.injEq,true_and]
     refine ih (n+1) (n+1) _ ?_ ⟨rfl,by omega⟩ (by omega)
     intro K
     conv=>lhs;whnf
     conv=>rhs;whnf
     try rfl
     rw[show IntKind.i64.wrap ((n:Int)+1)=_ from aH (by omega)]
     try rfl
   ·have:n=l.length:=by simp at h2;omega
    subst this
    rw[List.drop_length,h,List.drop_length];rfl
  ·rfl
theorem lL {E:Env} (hE:Sys E) (l m:List Sum) (h0:l.length≤1099511627776):E 248 [sv (l.map Sum.row),sv (m.map Sum.row)]=some ([bv (decide (l=m))],[]):=by
 refine hE.run rfl rfl fun W hW=>?_
 conv=>lhs;whnf
 apply hW.b<;>intro h<;>conv=>lhs;whnf
 ·have:l≠m:=by rintro rfl;simp at h
  rw[decide_eq_false this];rfl
 ·have h:l.length=m.length:=by simp at h;omega
  refine hW.loop (σ:=Nat) (γ:=Nat) (fun i s=>s.sl 13 (v1 (.t (.int .i64 i)))) (fun i n=>i=n∧n≤l.length) (fun n=>l.length-n) (fun n=>([bv (decide (l.drop n=m.drop n))],[])) 0 0 ?_ ?_ ?_ ?_
  ·intro K
   conv=>lhs;whnf
   conv=>rhs;whnf
   try rfl
  ·simp
  ·rintro kl n _ ⟨rfl,hn⟩ ih
   conv=>lhs;whnf
   apply hW.b<;>intro h2<;>conv=>lhs;whnf
   ·have h2:n<l.length:=by simpa using h2
    rw[List.drop_eq_getElem_cons h2,List.drop_eq_getElem_cons (l:=m) (i:=n) (by omega)]
    repeat((first|apply hW.t|apply hW.f|(apply hW.q;exact rqc)|(refine hW.w (cA ?_) ?_;omega));conv=>lhs;whnf)
    apply hW.b<;>intro h3<;>conv=>lhs;whnf
    ·have h3:l[n]≠m[n]:=by intro e;rw[e]at h3;simp at h3
     rw[decide_eq_false fun e=>h3 (List.cons.inj e).1];rfl
    ·have h3:l[n]=m[n]:=by
      revert h3
      generalize l[n]=x
      generalize m[n]=y
      cases x;cases y
      simp
     simp only[h3,List.cons.injEq,true_and]
     refine ih (n+1) (n+1) _ ?_ ⟨rfl,by omega⟩ (by omega)
     intro K
     conv=>lhs;whnf
     conv=>rhs;whnf
     try rfl
     rw[show IntKind.i64.wrap ((n:Int)+1)=_ from aH (by omega)]
     try rfl
   ·have:n=l.length:=by simp at h2;omega
    subst this
    rw[List.drop_length,h,List.drop_length];rfl
  ·rfl
theorem eI {E:Env} (hE:Sys E) (a b:Man) (h0:a.sums.length≤1099511627776):E 285 [gv (a.cs aM),gv (b.cs aM)]=some ([bv (decide (a=b))],[]):=by
 refine hE.run rfl rfl fun W hW=>?_
 conv=>lhs;whnf
 have key:decide (a=b)=(decide (a.gen=b.gen)&&(decide (a.size=b.size)&&(decide (a.len=b.len)&&decide (a.sums=b.sums)))):=by
  cases a;cases b;simp
 rw[key]
 apply hW.b<;>intro h1<;>conv=>lhs;whnf
 ·rw[h1]
  repeat((first|apply hW.t|apply hW.f|(apply hW.q;exact rqc));conv=>lhs;whnf)
  apply hW.b<;>intro h2<;>conv=>lhs;whnf
  ·rw[h2]
   repeat((first|apply hW.t|apply hW.f|(apply hW.q;exact rqc));conv=>lhs;whnf)
   apply hW.b<;>intro h3<;>conv=>lhs;whnf
   ·rw[h3]
    repeat((first|apply hW.t|apply hW.f|(apply hW.q;exact rqc));conv=>lhs;whnf)
    apply hW.w (lK hE a.sums b.sums h0)
    conv=>lhs;whnf
    repeat((first|apply hW.t|apply hW.f|(apply hW.q;exact rqc));conv=>lhs;whnf)
    rfl
   ·rw[h3]
    repeat((first|apply hW.t|apply hW.f|(apply hW.q;exact rqc));conv=>lhs;whnf)
    rfl
  ·rw[h2]
   repeat((first|apply hW.t|apply hW.f|(apply hW.q;exact rqc));conv=>lhs;whnf)
   rfl
 ·rw[h1]
  repeat((first|apply hW.t|apply hW.f|(apply hW.q;exact rqc));conv=>lhs;whnf)
  rfl
theorem xU {E:Env} (hE:Sys E) (a b:Man) (h0:a.sums.length≤1099511627776):E 286 [gv (a.cs aM),gv (b.cs aM)]=some ([bv (decide (a=b))],[]):=by
 refine hE.run rfl rfl fun W hW=>?_
 conv=>lhs;whnf
 have key:decide (a=b)=(decide (a.gen=b.gen)&&(decide (a.size=b.size)&&(decide (a.len=b.len)&&decide (a.sums=b.sums)))):=by
  cases a;cases b;simp
 rw[key]
 apply hW.b<;>intro h1<;>conv=>lhs;whnf
 ·rw[h1]
  repeat((first|apply hW.t|apply hW.f|(apply hW.q;exact rqc));conv=>lhs;whnf)
  apply hW.b<;>intro h2<;>conv=>lhs;whnf
  ·rw[h2]
   repeat((first|apply hW.t|apply hW.f|(apply hW.q;exact rqc));conv=>lhs;whnf)
   apply hW.b<;>intro h3<;>conv=>lhs;whnf
   ·rw[h3]
    repeat((first|apply hW.t|apply hW.f|(apply hW.q;exact rqc));conv=>lhs;whnf)
    apply hW.w (lL hE a.sums b.sums h0)
    conv=>lhs;whnf
    repeat((first|apply hW.t|apply hW.f|(apply hW.q;exact rqc));conv=>lhs;whnf)
    rfl
   ·rw[h3]
    repeat((first|apply hW.t|apply hW.f|(apply hW.q;exact rqc));conv=>lhs;whnf)
    rfl
  ·rw[h2]
   repeat((first|apply hW.t|apply hW.f|(apply hW.q;exact rqc));conv=>lhs;whnf)
   rfl
 ·rw[h1]
  repeat((first|apply hW.t|apply hW.f|(apply hW.q;exact rqc));conv=>lhs;whnf)
  rfl
def lM (s:Int):Nat→Nat→List Int
 |_,0=>[]
 |i,k+1=>if dN s i=true then(i:Int)::lM s (i+1) k else lM s (i+1) k
def dQ (s:Int):List Int:=lM s 0 40
theorem aFE {s:Int}:∀ {k i:Nat},(lM s i k).length≤k:=by
 intro k
 induction k with
 |zero=>intro i;exact Nat.le_refl _
 |succ k ih =>
  intro i
  simp only[lM]
  split
  ·have:=ih (i:=i+1);simp only[List.length_cons];omega
  ·have:=ih (i:=i+1);omega
theorem lN {s:Int}:(dQ s).length≤40:=aFE
theorem xV {E:Env} (hE:Sys E) (s:Int):E 134 [iv s]=some ([ov 1 (bQ (dQ s))],[]):=by
 refine hE.run rfl rfl fun W hW=>?_
 conv=>lhs;whnf
 refine hW.loop (σ:=Nat × List Int) (γ:=Nat) (fun i s=>(s.sl 6 (v1 (.t (.int .i64 i.1)))).bl ⟨50300,1, .own,bQ i.2⟩) (fun i m=>i.1=m∧m≤40∧i.2.length≤m∧i.2++lM s m (40-m)=dQ s) (fun m=>40-m) (fun _=>([ov 1 (bQ (dQ s))],[])) (0,[]) 0 ?_ ?_ ?_ ?_
 ·intro K
  conv=>lhs;whnf
  conv=>rhs;whnf
  try rfl
 ·exact⟨rfl,by omega,by simp,rfl⟩
 ·rintro kl ⟨m,acc⟩ _ ⟨rfl,hm,hl,hs⟩ ih
  simp only at hs hm hl
  conv=>lhs;whnf
  apply hW.b<;>intro h1<;>conv=>lhs;whnf
  ·have h1:m<40:=by
    have:(m:Int)<40:=by simpa using h1
    omega
   rw[show 40-m=(40-(m+1))+1 from by omega,lM]at hs
   repeat((first|apply hW.t|apply hW.f|(apply hW.q;exact rqc));conv=>lhs;whnf)
   apply hW.w (dF hE s m)
   conv=>lhs;whnf
   try(apply hW.q;exact rqc;conv=>lhs;whnf)
   apply hW.b<;>intro h3<;>conv=>lhs;whnf
   ·rw[if_pos h3]at hs
    repeat((first|apply hW.t|apply hW.f|(apply hW.q;exact rqc));conv=>lhs;whnf)
    refine hW.q (by exact⟨by decide,by intro e he;simp at he;subst he;rfl,by simp[bQ];omega,by simp[bQ];omega⟩) ?_
    conv=>lhs;whnf
    repeat((first|apply hW.t|apply hW.f|(apply hW.q;exact rqc));conv=>lhs;whnf)
    refine ih (m+1,acc++[(m:Int)]) (m+1) _ ?_ ⟨rfl,by omega,by simp;omega,by simpa using hs⟩ (by omega)
    intro K
    conv=>lhs;whnf
    conv=>rhs;whnf
    try rfl
    rw[show IntKind.i64.wrap ((m:Int)+1)=_ from aH (by omega)]
    simp[bQ,qI]
   ·rw[if_neg (by rw[h3];decide)]at hs
    repeat((first|apply hW.t|apply hW.f|(apply hW.q;exact rqc));conv=>lhs;whnf)
    refine ih (m+1,acc) (m+1) _ ?_ ⟨rfl,by omega,by simp only;omega,hs⟩ (by omega)
    intro K
    conv=>lhs;whnf
    conv=>rhs;whnf
    try rfl
    rw[show IntKind.i64.wrap ((m:Int)+1)=_ from aH (by omega)]
    try rfl
  ·have:m=40:=by
    have:¬ (m:Int)<40:=by simpa using h1
    omega
   subst this
   simp only[Nat.sub_self,lM,List.append_nil]at hs
   repeat((first|apply hW.t|apply hW.f|(apply hW.q;exact rqc));conv=>lhs;whnf)
   rw[← hs];rfl
 ·rfl
theorem aHp (l:List Sum):lZ (l.map Sum.row)=true:=tU (fun _=>rfl) l
theorem aHq (l:List Sum):∀ e∈l.map Sum.row,e.length=2:=aM2 fun _=>rfl
theorem aF (l:aE):(bys l).length=l.length:=List.length_map _
theorem aDm {E:Env} (hE:Sys E) (l:List Sum) (h0:l.length≤68719476736):E 218 [sv (l.map Sum.row)]=some ([ov 2 (l.map Sum.row)],[]):=by
 have hfl:lZ (l.map Sum.row)=true:=tU (fun _=>rfl) l
 have hrl:(l.map Sum.row).length=l.length:=by simp[bys,bQ]
 have hro:∀ e∈l.map Sum.row,e.length=2:=aM2 fun _=>rfl
 refine hE.run2 rfl rfl (fun W hW=>?_) (fun he W hW=>?_)
 ·conv=>lhs;whnf
  repeat((first|apply hW.t|apply hW.f|(apply hW.q;exact rqc));conv=>lhs;whnf)
  refine hW.q (by exact⟨by decide,hro,by simp only[List.length_nil,hrl];omega,by simp only[List.length_nil,hrl];omega⟩) ?_
  conv=>lhs;whnf
  apply hW.bt (hfl)
  conv=>lhs;whnf
  rfl
 ·cases l with
  |cons x r=>exact absurd (show false=true from he) (by decide)
  |nil =>
   conv=>lhs;whnf
   repeat((first|apply hW.t|apply hW.f|(apply hW.q;exact rqc));conv=>lhs;whnf)
   rfl
theorem cI {E:Env} (hE:Sys E) (b:aE) (h0:b.length≤68719476736):E 42 [sv (bys b)]=some ([ov 1 (bys b)],[]):=by
 refine hE.run rfl rfl fun W hW=>?_
 conv=>lhs;whnf
 refine hW.q (by exact⟨by omega, .inr rfl,by omega,by rw[aF];omega,by rw[aF];omega,by decide,rfl⟩) ?_
 conv=>lhs;whnf
 repeat((first|apply hW.t|apply hW.f|(apply hW.q;exact rqc));conv=>lhs;whnf)
 refine hW.q (by exact⟨by decide,bB _,by simp[aF];omega,by simp[aF];omega⟩) ?_
 conv=>lhs;whnf
 apply hW.bt (cZ _)
 conv=>lhs;whnf
 rfl
theorem pR {E:Env} (hE:Sys E) (x:Man) (h0:x.sums.length≤8388608):E 213 [gv (x.cs aM)]=some ([gv (x.cs dD)],[]):=by
 refine hE.run rfl rfl fun W hW=>?_
 conv=>lhs;whnf
 repeat((first|apply hW.t|apply hW.f|(apply hW.q;exact rqc));conv=>lhs;whnf)
 refine hW.q (by exact⟨by decide,aHq _,by simp;omega,by simp;omega⟩) ?_
 conv=>lhs;whnf
 apply hW.bt (aHp _)
 conv=>lhs;whnf
 rfl
theorem mX {E:Env} (hE:Sys E) (x:Man) (h0:x.sums.length≤8388608):E 216 [gv (x.cs aM)]=some ([gv (x.cs dD)],[]):=by
 refine hE.run rfl rfl fun W hW=>?_
 conv=>lhs;whnf
 repeat((first|apply hW.t|apply hW.f|(apply hW.q;exact rqc));conv=>lhs;whnf)
 apply hW.w (aDm hE x.sums (by omega))
 conv=>lhs;whnf
 repeat((first|apply hW.t|apply hW.f|(apply hW.q;exact rqc));conv=>lhs;whnf)
 rfl
theorem pT {E:Env} (hE:Sys E) (x:Bld) (h0:x.buf.length≤8388608):E 214 [gv (x.cs aM)]=some ([gv (x.cs dD)],[]):=by
 refine hE.run rfl rfl fun W hW=>?_
 conv=>lhs;whnf
 repeat((first|apply hW.t|apply hW.f|(apply hW.q;exact rqc));conv=>lhs;whnf)
 refine hW.q (by exact⟨by decide,bB _,by rw[aF];omega,by rw[aF];omega,cZ _⟩) ?_
 conv=>lhs;whnf
 repeat((first|apply hW.t|apply hW.f|(apply hW.q;exact rqc));conv=>lhs;whnf)
 rfl
theorem kE {E:Env} (hE:Sys E) (x:Bld) (h0:x.buf.length≤8388608):E 217 [gv (x.cs aM)]=some ([gv (x.cs dD)],[]):=by
 refine hE.run rfl rfl fun W hW=>?_
 conv=>lhs;whnf
 repeat((first|apply hW.t|apply hW.f|(apply hW.q;exact rqc));conv=>lhs;whnf)
 apply hW.w (cI hE x.buf (by omega))
 conv=>lhs;whnf
 repeat((first|apply hW.t|apply hW.f|(apply hW.q;exact rqc));conv=>lhs;whnf)
 rfl
theorem cY {E:Env} (hE:Sys E) (x:Node) (h0:x.lim 8388608):E 212 [gv (x.cs aM)]=some ([gv (x.cs dD)],[]):=by
 obtain⟨h1,h2,h3⟩:=h0
 refine hE.run rfl rfl fun W hW=>?_
 conv=>lhs;whnf
 repeat((first|apply hW.t|apply hW.f|(apply hW.q;exact rqc));conv=>lhs;whnf)
 apply hW.w (pR hE x.man h1)
 conv=>lhs;whnf
 repeat((first|apply hW.t|apply hW.f|(apply hW.q;exact rqc));conv=>lhs;whnf)
 apply hW.w (pT hE x.bld h2)
 conv=>lhs;whnf
 repeat((first|apply hW.t|apply hW.f|(apply hW.q;exact rqc));conv=>lhs;whnf)
 refine hW.q (by exact⟨by decide,kids_rows _,by simp;omega,by simp;omega⟩) ?_
 conv=>lhs;whnf
 apply hW.bt (lG _)
 conv=>lhs;whnf
 repeat((first|apply hW.t|apply hW.f|(apply hW.q;exact rqc));conv=>lhs;whnf)
 rfl
theorem dC {E:Env} (hE:Sys E) (x:Node) (h0:x.lim 8388608):E 215 [gv (x.cs aM)]=some ([gv (x.cs dD)],[]):=by
 obtain⟨h1,h2,h3⟩:=h0
 refine hE.run rfl rfl fun W hW=>?_
 conv=>lhs;whnf
 repeat((first|apply hW.t|apply hW.f|(apply hW.q;exact rqc));conv=>lhs;whnf)
 apply hW.w (mX hE x.man h1)
 conv=>lhs;whnf
 repeat((first|apply hW.t|apply hW.f|(apply hW.q;exact rqc));conv=>lhs;whnf)
 apply hW.w (kE hE x.bld h2)
 conv=>lhs;whnf
 repeat((first|apply hW.t|apply hW.f|(apply hW.q;exact rqc));conv=>lhs;whnf)
 apply hW.w (oF hE x.kids (by omega))
 conv=>lhs;whnf
 repeat((first|apply hW.t|apply hW.f|(apply hW.q;exact rqc));conv=>lhs;whnf)
 rfl
def iJ (r:Rec):Bool:=bM r.gen 0 1000000&&(bM r.slot 0 1&&bM r.len 0 240)
theorem lO {E:Env} (hE:Sys E) (r:Rec):E 180 [gv r.cs]=some ([bv (iJ r)],[]):=by
 refine hE.run rfl rfl fun W hW=>?_
 conv=>lhs;whnf
 repeat'((first|apply hW.t|apply hW.f|(apply hW.q;exact rqc)|apply hW.w (bG hE _ _ _)|(apply hW.b<;>intro h))<;>conv=>lhs;whnf)
 all_goals(refine congrArg (fun b=>(some ([bv b],[]):Option Res)) ?_;first|rfl|(simp_all [iJ];done)|(simp_all [iJ]<;>(intros;omega)))
theorem aHr (n:Int):bM n 0 1=(decide (n=0)||decide (n=1)):=by
 rw[Bool.eq_iff_iff];simp[bM];omega
theorem pU {E:Env} (hE:Sys E) (n:Int):E 199 [iv n]=some ([bv (bM n 0 1)],[]):=by
 rw[aHr]
 refine hE.run rfl rfl fun W hW=>?_
 conv=>lhs;whnf
 repeat'((first|apply hW.t|apply hW.f|(apply hW.q;exact rqc)|(apply hW.b<;>intro h))<;>conv=>lhs;whnf)
 all_goals(refine congrArg (fun b=>(some ([bv b],[]):Option Res)) ?_;first|rfl|(simp_all [];done)|(simp_all []<;>(intros;omega)))
theorem lP {E:Env} (hE:Sys E) (n:Int):E 198 [iv n]=some ([bv (bM n 0 1000000)],[]):=by
 refine hE.run rfl rfl fun W hW=>?_
 conv=>lhs;whnf
 repeat'((first|apply hW.t|apply hW.f|(apply hW.q;exact rqc)|apply hW.w (bJ hE _ _ _)|(apply hW.b<;>intro h))<;>conv=>lhs;whnf)
 all_goals(refine congrArg (fun b=>(some ([bv b],[]):Option Res)) ?_;first|rfl|(simp_all [];done)|(simp_all []<;>(intros;omega)))
theorem lQ {E:Env} (hE:Sys E) (r:Rec):E 193 [gv r.cs]=some ([bv (iJ r)],[]):=by
 refine hE.run rfl rfl fun W hW=>?_
 conv=>lhs;whnf
 repeat'((first|apply hW.t|apply hW.f|(apply hW.q;exact rqc)|apply hW.w (bJ hE _ _ _)|apply hW.w (lP hE _)|apply hW.w (pU hE _)|(apply hW.b<;>intro h))<;>conv=>lhs;whnf)
 all_goals(refine congrArg (fun b=>(some ([bv b],[]):Option Res)) ?_;first|rfl|(simp_all [iJ];done)|(simp_all [iJ]<;>(intros;omega)))
def gF (p:Put):Bool:=if p.what=2 then decide (p.at_=0)&&(decide (p.b=[])&&iJ p.r) else bM p.what 0 1&&(bM p.at_ 0 240&&(decide ((p.b.length:Int)≤IntKind.i64.wrap (240-p.at_))&&decide (p.r=⟨0,0,0⟩)))
theorem aZ (b:aE):((bys b).length:Int)=b.length:=by rw[aF]
theorem sF {E:Env} (hE:Sys E) {o:Bool} (p:Put) (_:p.b.length≤8388608):E 182 [gv (p.cs aM)]=some ([bv (gF p)],[]):=by
 obtain⟨w,a,b,⟨r1,r2,r3⟩⟩:=p
 refine hE.run rfl rfl fun W hW=>?_
 conv=>lhs;whnf
 repeat'((first|apply hW.t|apply hW.f|(apply hW.q;exact rqc)|apply hW.w (bG hE _ _ _)|apply hW.w (lO hE ⟨r1,r2,r3⟩)|(apply hW.b<;>intro h))<;>conv=>lhs;whnf)
 all_goals(refine congrArg (fun b=>(some ([bv b],[]):Option Res)) ?_;first|rfl|(simp_all [gF,aZ];done)|(simp_all [gF,aZ]<;>(intros;omega)))
theorem aCi {E:Env} (hE:Sys E) (p:Put) (hp:p.b.length≤8388608):E 200 [gv (p.cs aM)]=some ([bv (gF p)],[]):=by
 obtain⟨w,a,b,⟨r1,r2,r3⟩⟩:=p
 have hp:b.length≤8388608:=hp
 have hw:IntKind.i64.wrap (240-((bys b).length:Int))=240-b.length:=by rw[aF];exact aG (by omega)
 have hk:bM a 0 (240-b.length)=(bM a 0 240&&decide ((b.length:Int)≤IntKind.i64.wrap (240-a))):=by
  rw[Bool.eq_iff_iff]
  simp only[bM,Bool.and_eq_true,decide_eq_true_eq]
  constructor
  ·rintro⟨h1,h2⟩
   rw[show IntKind.i64.wrap (240-a)=240-a from aG (by omega)]
   omega
  ·rintro⟨⟨h1,h2⟩,h3⟩
   rw[show IntKind.i64.wrap (240-a)=240-a from aG (by omega)]at h3
   omega
 refine hE.run rfl rfl fun W hW=>?_
 conv=>lhs;whnf
 repeat'((first|apply hW.t|apply hW.f|(apply hW.q;exact rqc)|apply hW.w (bJ hE _ _ _)|apply hW.w (pU hE _)|apply hW.w (lQ hE ⟨r1,r2,r3⟩)|(apply hW.b<;>intro h))<;>conv=>lhs;whnf)
 all_goals(try rw[hw]at *)
 all_goals(try rw[hk]at *)
 all_goals(refine congrArg (fun b=>(some ([bv b],[]):Option Res)) ?_;first|rfl|(simp_all [gF,aZ];done)|(simp_all [gF,aZ]<;>(intros;omega)))
theorem mY {E:Env} (hE:Sys E) {o:Bool} (d:Disk) (n:Int) (hn:n=1):E 181 [gv (d.cs aM o),iv n]=some ([.v false [.alias 0 1 0 d.b.length]],[]):=by
 subst hn
 refine hE.run rfl rfl fun W hW=>?_
 conv=>lhs;whnf
 repeat((first|apply hW.t|apply hW.f|(apply hW.q;exact rqc));conv=>lhs;whnf)
 rw[show(bys d.b).length=d.b.length from List.length_map _]
 rfl
theorem mZ {E:Env} (hE:Sys E) {o:Bool} (d:Disk) (n:Int) (hn:n≠1):E 181 [gv (d.cs aM o),iv n]=some ([.v false [.alias 0 0 0 d.a.length]],[]):=by
 refine hE.run rfl rfl fun W hW=>?_
 conv=>lhs;whnf
 apply hW.bf (by simpa using hn)
 conv=>lhs;whnf
 repeat((first|apply hW.t|apply hW.f|(apply hW.q;exact rqc));conv=>lhs;whnf)
 rw[show(bys d.a).length=d.a.length from List.length_map _]
 rfl
theorem sG {E:Env} (hE:Sys E) {f:Nat→List (List T)→CA} {o:Bool} (hf:∀ z e,f z e=aM z e) (d:Disk) (n:Int) (hn:n=0):E 194 [.pt false (d.cs aM o),iv n]=some ([.apt 0 0],[]):=by
 subst hn
 refine hE.run rfl rfl fun W hW=>?_
 conv=>lhs;whnf
 repeat((first|apply hW.t|apply hW.f|(apply hW.q;exact rqc));conv=>lhs;whnf)
 rfl
theorem sH {E:Env} (hE:Sys E) {o:Bool} (d:Disk) (n:Int) (hn:n≠0):E 194 [.pt false (d.cs aM o),iv n]=some ([.apt 0 1],[]):=by
 refine hE.run rfl rfl fun W hW=>?_
 conv=>lhs;whnf
 apply hW.bf (by simpa using hn)
 conv=>lhs;whnf
 repeat((first|apply hW.t|apply hW.f|(apply hW.q;exact rqc));conv=>lhs;whnf)
 rfl
theorem aEs {α:Type} {p:α→Bool} {l:List α}:∀ {n:Nat},decide (sW p n l≥0)=l.any p:=by
 induction l with
 |nil=>intro n;simp[sW]
 |cons x r ih =>
  intro n
  simp only[sW,List.any_cons]
  by_cases hp:p x=true
  ·simp[hp]
  ·have:=ih (n:=n+1)
   simp_all
theorem aFF {E:Env} (hE:Sys E) (p:Put) (hp:p.b.length≤8388608):E 196 [gv (p.cs aM)]=some ([bv (!gF p)],[]):=by
 refine hE.run rfl rfl fun W hW=>?_
 conv=>lhs;whnf
 repeat((first|apply hW.t|apply hW.f|(apply hW.q;exact rqc));conv=>lhs;whnf)
 apply hW.w (aCi hE p hp)
 conv=>lhs;whnf
 repeat((first|apply hW.t|apply hW.f|(apply hW.q;exact rqc));conv=>lhs;whnf)
 rfl
theorem vH {E:Env} (hE:Sys E) {o:Bool} (l:List Put) (h0:l.length≤1099511627776) (hb:∀ x∈l,x.b.length≤8388608):E 197 [sv (l.map (Put.row o)), .fn 196 []]=some ([iv (sW (fun x:Put => !gF x) 0 l)],[]):=by
 have hrl:(l.map (Put.row o)).length=l.length:=by simp[bys,bQ]
 refine hE.run rfl rfl fun W hW=>?_
 conv=>lhs;whnf
 refine hW.loop (σ:=Nat) (γ:=Nat) (fun i s=>s.sl 8 (v1 (.t (.int .i64 i)))) (fun i n=>i=n∧n≤l.length) (fun n=>l.length-n) (fun n=>([iv (sW (fun x:Put => !gF x) n (l.drop n))],[])) 0 0 ?_ ?_ ?_ ?_
 ·intro K
  conv=>lhs;whnf
  conv=>rhs;whnf
  try rfl
 ·simp
 ·rintro kl n _ ⟨rfl,hn⟩ ih
  conv=>lhs;whnf
  apply hW.b<;>intro h2<;>conv=>lhs;whnf
  ·have h2:n<l.length:=by simpa[hrl] using h2
   rw[List.drop_eq_getElem_cons h2]
   repeat((first|apply hW.t|apply hW.f|(apply hW.q;exact rqc)|(refine hW.w (cA ?_) ?_;omega));conv=>lhs;whnf)
   apply hW.w (aFF hE l[n] (hb _ (List.getElem_mem h2)))
   conv=>lhs;whnf
   try(apply hW.q;exact rqc;conv=>lhs;whnf)
   simp only[sW]
   apply hW.b<;>intro h3<;>conv=>lhs;whnf
   ·simp only[h3,if_true];rfl
   ·simp only[h3,if_false,Bool.false_eq_true]
    refine ih (n+1) (n+1) _ ?_ ⟨rfl,by omega⟩ (by omega)
    intro K
    conv=>lhs;whnf
    conv=>rhs;whnf
    try rfl
    rw[show IntKind.i64.wrap ((n:Int)+1)=_ from aH (by omega)]
    try rfl
  ·have:n=l.length:=by simp[hrl]at h2;omega
   subst this
   rw[List.drop_length];rfl
 ·rfl
theorem pV {E:Env} (hE:Sys E) {o:Bool} (l:List Put) (h0:l.length≤1099511627776) (hb:∀ x∈l,x.b.length≤8388608):E 195 [sv (l.map (Put.row o)), .fn 196 []]=some ([bv (l.any fun x => !gF x)],[]):=by
 refine hE.run rfl rfl fun W hW=>?_
 conv=>lhs;whnf
 apply hW.w (vH hE l h0 hb)
 conv=>lhs;whnf
 try(apply hW.q;exact rqc;conv=>lhs;whnf)
 rw[aEs]
 repeat((first|apply hW.t|apply hW.f|(apply hW.q;exact rqc));conv=>lhs;whnf)
 rfl
def gK (d:Disk):Bool:=decide ((d.a.length:Int)≤240)&&(decide ((d.b.length:Int)≤240)&&(iJ d.r&&(decide (d.r.len≤((if d.r.slot=1 then d.b else d.a).length:Int))&&(decide ((d.p.length:Int)≤200)&&d.p.all gF))))
theorem pW {r:Rec} (h:iJ r=true):r.slot=0∨r.slot=1:=by
 simp[iJ,bM]at h;omega
theorem xW {E:Env} (hE:Sys E) {o:Bool} (d:Disk) (hd:d.lim 8388608):E 191 [gv (d.cs aM o)]=some ([bv (gK d)],[]):=by
 obtain⟨h1,h2,h3,h4⟩:=hd
 have hany:d.p.all gF = !(d.p.any fun x => !gF x):=by
  rw[Bool.eq_iff_iff];simp
 have hA:d.p.length≤1099511627776:=Nat.le_trans h3 (by decide)
 unfold gK
 rw[hany]
 have hR:=lQ hE d.r
 have hC:=pV hE (o:=o) d.p hA h4
 clear hany
 generalize (d.p.any fun x => !gF x)=q at hC ⊢
 cases hr:iJ d.r
 ·rw[hr]at hR
  refine hE.run rfl rfl fun W hW=>?_
  conv=>lhs;whnf
  repeat'((first|apply hW.t|apply hW.f|(apply hW.q;exact rqc)|apply hW.w (hR)|(apply hW.b<;>intro h))<;>conv=>lhs;whnf)
  all_goals(refine congrArg (fun b=>(some ([bv b],[]):Option Res)) ?_;first|rfl|(simp_all [aF];done)|(simp_all [aF]<;>(intros;omega)))
 ·rw[hr]at hR
  rcases pW hr with hs|hs
  ·refine hE.run rfl rfl fun W hW=>?_
   conv=>lhs;whnf
   repeat'((first|apply hW.t|apply hW.f|(apply hW.q;exact rqc)|apply hW.w (hR)|apply hW.w (sG hE (fun _ _=>rfl) d d.r.slot hs)|apply hW.w (hC)|(apply hW.b<;>intro h))<;>conv=>lhs;whnf)
   all_goals(refine congrArg (fun b=>(some ([bv b],[]):Option Res)) ?_;first|rfl|(simp_all [aF];done)|(simp_all [aF]<;>(intros;omega)))
  ·refine hE.run rfl rfl fun W hW=>?_
   conv=>lhs;whnf
   repeat'((first|apply hW.t|apply hW.f|(apply hW.q;exact rqc)|apply hW.w (hR)|apply hW.w (sH hE d d.r.slot (by omega))|apply hW.w (hC)|(apply hW.b<;>intro h))<;>conv=>lhs;whnf)
   all_goals(refine congrArg (fun b=>(some ([bv b],[]):Option Res)) ?_;first|rfl|(simp_all [aF];done)|(simp_all [aF]<;>(intros;omega)))
theorem xX {E:Env} (hE:Sys E) {o:Bool} (d:Disk) (hd:d.lim 8388608):E 177 [gv (d.cs aM o)]=some ([bv (gK d)],[]):=by
 obtain⟨h1,h2,h3,h4⟩:=hd
 have hA:d.p.length≤1099511627776:=Nat.le_trans h3 (by decide)
 unfold gK
 have hR:=lO hE d.r
 have key:∀ (W:Wd Res) (X:Option Res) (q:Bool),X=some ([bv q],[])→decide ((d.a.length:Int)≤240)=true→decide ((d.b.length:Int)≤240)=true→decide (d.r.len≤((if d.r.slot=1 then d.b else d.a).length:Int))=true→decide ((d.p.length:Int)≤200)=true →
  X=some ([bv (decide ((d.a.length:Int)≤240)&&(decide ((d.b.length:Int)≤240)&&(true&&(decide (d.r.len≤((if d.r.slot=1 then d.b else d.a).length:Int))&&(decide ((d.p.length:Int)≤200)&&q)))))],[]):=by
  intro W X q h h1 h2 h3 h4
  rw[h1,h2,h3,h4];exact h
 cases hr:iJ d.r
 ·rw[hr]at hR
  refine hE.run rfl rfl fun W hW=>?_
  conv=>lhs;whnf
  repeat'((first|apply hW.t|apply hW.f|(apply hW.q;exact rqc)|apply hW.w (hR)|(apply hW.b<;>intro h))<;>conv=>lhs;whnf)
  all_goals(refine congrArg (fun b=>(some ([bv b],[]):Option Res)) ?_;first|rfl|(simp_all [aF];done)|(simp_all [aF]<;>(intros;omega)))
 ·rw[hr]at hR
  rcases pW hr with hs|hs
  ·refine hE.run rfl rfl fun W hW=>?_
   conv=>lhs;whnf
   repeat'((first|apply hW.t|apply hW.f|(apply hW.q;exact rqc)|apply hW.w (hR)|apply hW.w (mZ hE d d.r.slot (by omega))|(apply hW.b<;>intro h))<;>conv=>lhs;whnf)
   all_goals(first|(refine congrArg (fun b=>(some ([bv b],[]):Option Res)) ?_;first|rfl|(simp_all [aF];done)|(simp_all [aF]<;>(intros;omega)))|skip)
   refine key W _ _ ?_ (by simp_all [aF];try omega) (by simp_all [aF];try omega) (by simp_all [aF];try omega) (by simp_all [aF];try omega)
   refine hW.loop (σ:=Nat) (γ:=Nat) (fun i s=>s.sl 3 (v1 (.t (.int .i64 i)))) (fun i n=>i=n∧n≤d.p.length) (fun n=>d.p.length-n) (fun n=>([bv ((d.p.drop n).all gF)],[])) 0 0 ?_ ?_ ?_ ?_
   ·intro K
    conv=>lhs;whnf
    conv=>rhs;whnf
    try rfl
   ·exact⟨rfl,by omega⟩
   ·rintro kl n _ ⟨rfl,hn⟩ ih
    conv=>lhs;whnf
    apply hW.b<;>intro g1<;>conv=>lhs;whnf
    ·have g1:n<d.p.length:=by simpa using g1
     rw[List.drop_eq_getElem_cons g1,List.all_cons]
     repeat((first|apply hW.t|apply hW.f|(apply hW.q;exact rqc)|(refine hW.w (cA ?_) ?_;omega));conv=>lhs;whnf)
     apply hW.w (sF hE (o:=o) d.p[n] (h4 _ (List.getElem_mem g1)))
     conv=>lhs;whnf
     try(apply hW.q;exact rqc;conv=>lhs;whnf)
     apply hW.b<;>intro g2<;>conv=>lhs;whnf
     ·rw[kK g2];rfl
     ·rw[iA g2]
      refine ih (n+1) (n+1) _ ?_ ⟨rfl,by omega⟩ (by omega)
      intro K
      conv=>lhs;whnf
      conv=>rhs;whnf
      try rfl
      rw[show IntKind.i64.wrap ((n:Int)+1)=_ from aH (by omega)]
      try rfl
    ·have:n=d.p.length:=by simp at g1;omega
     rw[this,List.drop_length];rfl
   ·rfl
  ·refine hE.run rfl rfl fun W hW=>?_
   conv=>lhs;whnf
   repeat'((first|apply hW.t|apply hW.f|(apply hW.q;exact rqc)|apply hW.w (hR)|apply hW.w (mY hE d d.r.slot hs)|(apply hW.b<;>intro h))<;>conv=>lhs;whnf)
   all_goals(first|(refine congrArg (fun b=>(some ([bv b],[]):Option Res)) ?_;first|rfl|(simp_all [aF];done)|(simp_all [aF]<;>(intros;omega)))|skip)
   refine key W _ _ ?_ (by simp_all [aF];try omega) (by simp_all [aF];try omega) (by simp_all [aF];try omega) (by simp_all [aF];try omega)
   refine hW.loop (σ:=Nat) (γ:=Nat) (fun i s=>s.sl 3 (v1 (.t (.int .i64 i)))) (fun i n=>i=n∧n≤d.p.length) (fun n=>d.p.length-n) (fun n=>([bv ((d.p.drop n).all gF)],[])) 0 0 ?_ ?_ ?_ ?_
   ·intro K
    conv=>lhs;whnf
    conv=>rhs;whnf
    try rfl
   ·exact⟨rfl,by omega⟩
   ·rintro kl n _ ⟨rfl,hn⟩ ih
    conv=>lhs;whnf
    apply hW.b<;>intro g1<;>conv=>lhs;whnf
    ·have g1:n<d.p.length:=by simpa using g1
     rw[List.drop_eq_getElem_cons g1,List.all_cons]
     repeat((first|apply hW.t|apply hW.f|(apply hW.q;exact rqc)|(refine hW.w (cA ?_) ?_;omega));conv=>lhs;whnf)
     apply hW.w (sF hE (o:=o) d.p[n] (h4 _ (List.getElem_mem g1)))
     conv=>lhs;whnf
     try(apply hW.q;exact rqc;conv=>lhs;whnf)
     apply hW.b<;>intro g2<;>conv=>lhs;whnf
     ·rw[kK g2];rfl
     ·rw[iA g2]
      refine ih (n+1) (n+1) _ ?_ ⟨rfl,by omega⟩ (by omega)
      intro K
      conv=>lhs;whnf
      conv=>rhs;whnf
      try rfl
      rw[show IntKind.i64.wrap ((n:Int)+1)=_ from aH (by omega)]
      try rfl
    ·have:n=d.p.length:=by simp at g1;omega
     rw[this,List.drop_length];rfl
   ·rfl
theorem aAR {E:Env} (hE:Sys E) {o:Bool} (d:Disk) (hd:d.lim 1048576):E 177 [gv (d.cs aM o)]=some ([bv (gK d)],[]):=xX hE d (Disk.lim_mono (by decide) hd)
theorem aAS {E:Env} (hE:Sys E) {o:Bool} (d:Disk) (hd:d.lim 1048576):E 191 [gv (d.cs aM o)]=some ([bv (gK d)],[]):=xW hE d (Disk.lim_mono (by decide) hd)
def mK (a b:Int):Int:=if bM a 0 1000000000000=true∧bM b 1 1000000000000=true then IntKind.i64.wrap ((IntKind.i64.wrap (IntKind.i64.wrap (a+b)-1)).tdiv b) else 0
theorem xY {E:Env} (hE:Sys E) (a b:Int):E 240 [iv a,iv b]=some ([iv (mK a b)],[]):=by
 have ha:=bG hE a 0 1000000000000
 have hb:=bG hE b 1 1000000000000
 unfold mK
 cases h1:bM a 0 1000000000000
 ·rw[h1]at ha
  refine hE.run rfl rfl fun W hW=>?_
  conv=>lhs;whnf
  repeat'((first|apply hW.t|apply hW.f|(apply hW.q;exact rqc)|apply hW.w (ha)|(apply hW.b<;>intro h))<;>conv=>lhs;whnf)
  all_goals(refine congrArg (fun b=>(some ([iv b],[]):Option Res)) ?_;first|rfl|(simp_all [];done)|(simp_all []<;>(intros;omega)))
 ·rw[h1]at ha
  cases h2:bM b 1 1000000000000
  ·rw[h2]at hb
   refine hE.run rfl rfl fun W hW=>?_
   conv=>lhs;whnf
   repeat'((first|apply hW.t|apply hW.f|(apply hW.q;exact rqc)|apply hW.w (ha)|apply hW.w (hb)|(apply hW.b<;>intro h))<;>conv=>lhs;whnf)
   all_goals(refine congrArg (fun b=>(some ([iv b],[]):Option Res)) ?_;first|rfl|(simp_all [];done)|(simp_all []<;>(intros;omega)))
  ·rw[h2]at hb
   have:=bS h2
   refine hE.run rfl rfl fun W hW=>?_
   conv=>lhs;whnf
   repeat'((first|apply hW.t|apply hW.f|(apply hW.q;exact rqc)|apply hW.w (ha)|apply hW.w (hb)|(apply hW.b<;>intro h))<;>conv=>lhs;whnf)
   rfl
theorem xZ {E:Env} (hE:Sys E) (a b:Int):E 253 [iv a,iv b]=some ([iv (mK a b)],[]):=by
 have ha:=bJ hE a 0 1000000000000
 have hb:=bJ hE b 1 1000000000000
 unfold mK
 cases h1:bM a 0 1000000000000
 ·rw[h1]at ha
  refine hE.run rfl rfl fun W hW=>?_
  conv=>lhs;whnf
  repeat'((first|apply hW.t|apply hW.f|(apply hW.q;exact rqc)|apply hW.w (ha)|(apply hW.b<;>intro h))<;>conv=>lhs;whnf)
  all_goals(refine congrArg (fun b=>(some ([iv b],[]):Option Res)) ?_;first|rfl|(simp_all [];done)|(simp_all []<;>(intros;omega)))
 ·rw[h1]at ha
  cases h2:bM b 1 1000000000000
  ·rw[h2]at hb
   refine hE.run rfl rfl fun W hW=>?_
   conv=>lhs;whnf
   repeat'((first|apply hW.t|apply hW.f|(apply hW.q;exact rqc)|apply hW.w (ha)|apply hW.w (hb)|(apply hW.b<;>intro h))<;>conv=>lhs;whnf)
   all_goals(refine congrArg (fun b=>(some ([iv b],[]):Option Res)) ?_;first|rfl|(simp_all [];done)|(simp_all []<;>(intros;omega)))
  ·rw[h2]at hb
   have:=bS h2
   refine hE.run rfl rfl fun W hW=>?_
   conv=>lhs;whnf
   repeat'((first|apply hW.t|apply hW.f|(apply hW.q;exact rqc)|apply hW.w (ha)|apply hW.w (hb)|(apply hW.b<;>intro h))<;>conv=>lhs;whnf)
   rfl
def dH (size n:Int):Bool:=bM size 2 6&&bM n 0 (IntKind.i64.wrap (size*40))
theorem pX {E:Env} (hE:Sys E) (size n:Int):E 239 [iv size,iv n]=some ([bv (dH size n)],[]):=by
 refine hE.run rfl rfl fun W hW=>?_
 conv=>lhs;whnf
 repeat'((first|apply hW.t|apply hW.f|(apply hW.q;exact rqc)|apply hW.w (bG hE _ _ _)|(apply hW.b<;>intro h))<;>conv=>lhs;whnf)
 all_goals(refine congrArg (fun b=>(some ([bv b],[]):Option Res)) ?_;first|rfl|(simp_all [dH];done)|(simp_all [dH]<;>(intros;omega)))
theorem pY {E:Env} (hE:Sys E) (size n:Int):E 252 [iv size,iv n]=some ([bv (dH size n)],[]):=by
 have:size*40=40*size:=Int.mul_comm _ _
 unfold dH
 rw[this]
 refine hE.run rfl rfl fun W hW=>?_
 conv=>lhs;whnf
 repeat'((first|apply hW.t|apply hW.f|(apply hW.q;exact rqc)|apply hW.w (bJ hE _ _ _)|(apply hW.b<;>intro h))<;>conv=>lhs;whnf)
 all_goals(refine congrArg (fun b=>(some ([bv b],[]):Option Res)) ?_;first|rfl|(simp_all [];done)|(simp_all []<;>(intros;omega)))
def bE (size n:Int):Int:=if dH size n=true then mK n size else 0
theorem eZ {E:Env} (hE:Sys E) (size n:Int):E 236 [iv size,iv n]=some ([iv (bE size n)],[]):=by
 have ha:=pX hE size n
 unfold bE
 cases h1:dH size n
 ·rw[h1]at ha
  refine hE.run rfl rfl fun W hW=>?_
  conv=>lhs;whnf
  repeat'((first|apply hW.t|apply hW.f|(apply hW.q;exact rqc)|apply hW.w (ha)|(apply hW.b<;>intro h))<;>conv=>lhs;whnf)
  all_goals(refine congrArg (fun b=>(some ([iv b],[]):Option Res)) ?_;first|rfl|(simp_all [];done)|(simp_all []<;>(intros;omega)))
 ·rw[h1]at ha
  refine hE.run rfl rfl fun W hW=>?_
  conv=>lhs;whnf
  repeat'((first|apply hW.t|apply hW.f|(apply hW.q;exact rqc)|apply hW.w (ha)|apply hW.w (xY hE n size)|(apply hW.b<;>intro h))<;>conv=>lhs;whnf)
  rfl
theorem fA {E:Env} (hE:Sys E) (size n:Int):E 249 [iv size,iv n]=some ([iv (bE size n)],[]):=by
 have ha:=pY hE size n
 unfold bE
 cases h1:dH size n
 ·rw[h1]at ha
  refine hE.run rfl rfl fun W hW=>?_
  conv=>lhs;whnf
  repeat'((first|apply hW.t|apply hW.f|(apply hW.q;exact rqc)|apply hW.w (ha)|(apply hW.b<;>intro h))<;>conv=>lhs;whnf)
  all_goals(refine congrArg (fun b=>(some ([iv b],[]):Option Res)) ?_;first|rfl|(simp_all [];done)|(simp_all []<;>(intros;omega)))
 ·rw[h1]at ha
  refine hE.run rfl rfl fun W hW=>?_
  conv=>lhs;whnf
  repeat'((first|apply hW.t|apply hW.f|(apply hW.q;exact rqc)|apply hW.w (ha)|apply hW.w (xZ hE n size)|(apply hW.b<;>intro h))<;>conv=>lhs;whnf)
  rfl
theorem vI {size n:Int} (h:dH size n=true):2≤size∧size≤6∧0≤n∧n≤size*40:=by
 simp only[dH,Bool.and_eq_true]at h
 obtain⟨h1,h2⟩:=h
 have h1:=bS h1
 rw[show IntKind.i64.wrap (size*40)=size*40 from aG (by omega)]at h2
 have h2:=bS h2
 omega
theorem rA {size n:Int} (h:dH size n=true):bE size n=(n+size-1)/size∧0≤bE size n∧bE size n≤40:=by
 obtain⟨h1,h2,h3,h4⟩:=vI h
 have e:bE size n=(n+size-1)/size:=by
  unfold bE mK
  rw[if_pos h,if_pos ⟨by simp[bM];omega,by simp[bM];omega⟩]
  rw[show IntKind.i64.wrap (n+size)=n+size from aG (by omega),show IntKind.i64.wrap (n+size-1)=n+size-1 from aG (by omega),Int.tdiv_eq_ediv_of_nonneg (by omega)]
  apply aG
  obtain h5|h5|h5|h5|h5:size=2∨size=3∨size=4∨size=5∨size=6:=by omega
  all_goals(subst h5;omega)
 rw[e]
 refine⟨rfl,?_⟩
 obtain h5|h5|h5|h5|h5:size=2∨size=3∨size=4∨size=5∨size=6:=by omega
 all_goals(subst h5;omega)
def vJ (a b:Int):Int:=if b<a then b else a
theorem aCj {E:Env} (hE:Sys E) (a b:Int):E 242 [iv a,iv b]=some ([iv (vJ a b)],[]):=by
 refine hE.run rfl rfl fun W hW=>?_
 conv=>lhs;whnf
 repeat'((first|apply hW.t|apply hW.f|(apply hW.q;exact rqc)|(apply hW.b<;>intro h))<;>conv=>lhs;whnf)
 all_goals(refine congrArg (fun b=>(some ([iv b],[]):Option Res)) ?_;first|rfl|(simp_all [vJ];done)|(simp_all [vJ]<;>(intros;omega)))
def bF (size n i:Int):Int:=if bM i 0 (IntKind.i64.wrap (bE size n-1))=true then IntKind.i64.wrap (i*size) else 0
def aU (size n i:Int):Int:=if bM i 0 (IntKind.i64.wrap (bE size n-1))=true then vJ size (IntKind.i64.wrap (n-IntKind.i64.wrap (i*size))) else 0
theorem dI {E:Env} (hE:Sys E) (size n i:Int):E 241 [iv size,iv n,iv i]=some ([iv (bF size n i),iv (aU size n i)],[]):=by
 have hb:=bG hE i 0 (IntKind.i64.wrap (bE size n-1))
 unfold bF aU
 cases h2:bM i 0 (IntKind.i64.wrap (bE size n-1))
 ·rw[h2]at hb
  refine hE.run rfl rfl fun W hW=>?_
  conv=>lhs;whnf
  repeat'((first|apply hW.t|apply hW.f|(apply hW.q;exact rqc)|apply hW.w (eZ hE size n)|apply hW.w (hb)|(apply hW.b<;>intro h))<;>conv=>lhs;whnf)
  rfl
 ·rw[h2]at hb
  refine hE.run rfl rfl fun W hW=>?_
  conv=>lhs;whnf
  repeat'((first|apply hW.t|apply hW.f|(apply hW.q;exact rqc)|apply hW.w (eZ hE size n)|apply hW.w (hb)|apply hW.w (aCj hE _ _)|(apply hW.b<;>intro h))<;>conv=>lhs;whnf)
  rfl
theorem fB {E:Env} (hE:Sys E) (size n i:Int):E 254 [iv size,iv n,iv i]=some ([iv (bF size n i),iv (aU size n i)],[]):=by
 have hb:=bJ hE i 0 (IntKind.i64.wrap (bE size n-1))
 unfold bF aU
 cases h2:bM i 0 (IntKind.i64.wrap (bE size n-1))
 ·rw[h2]at hb
  refine hE.run rfl rfl fun W hW=>?_
  conv=>lhs;whnf
  repeat'((first|apply hW.t|apply hW.f|(apply hW.q;exact rqc)|apply hW.w (fA hE size n)|apply hW.w (hb)|(apply hW.b<;>intro h))<;>conv=>lhs;whnf)
  rfl
 ·rw[h2]at hb
  refine hE.run rfl rfl fun W hW=>?_
  conv=>lhs;whnf
  repeat'((first|apply hW.t|apply hW.f|(apply hW.q;exact rqc)|apply hW.w (fA hE size n)|apply hW.w (hb)|(apply hW.b<;>intro h))<;>conv=>lhs;whnf)
  rw[show ∀ b,vJ size b=min size b from fun b=>by unfold vJ;omega]
  rfl
def wx (x:Int) (c:UInt8):Int:=(IntKind.i64.wrap (x+IntKind.i64.wrap (c.toNat:Int))).tmod 251
def wy (y x:Int):Int:=(IntKind.i64.wrap (y+x)).tmod 251
def kL:aE→Int→Int→Int × Int
 |[],x,y=>(x,y)
 |c::r,x,y=>kL r (wx x c) (wy y (wx x c))
def aY (b:aE):Int:=IntKind.i64.wrap ((kL b 0 0).1+IntKind.i64.wrap (251*(kL b 0 0).2))
theorem aLX {x:Int} {c:UInt8} (h:0≤x∧x<251):0≤wx x c∧wx x c<251:=by
 have:=UInt8.toNat_lt c
 unfold wx
 rw[show IntKind.i64.wrap (c.toNat:Int)=c.toNat from aG (by omega),show IntKind.i64.wrap (x+c.toNat)=x+c.toNat from aG (by omega)]
 rw[Int.tmod_eq_emod_of_nonneg (by omega)]
 omega
theorem aM6 {x y:Int} (h:0≤x∧x<251) (h':0≤y∧y<251):0≤wy y x∧wy y x<251:=by
 unfold wy
 rw[show IntKind.i64.wrap (y+x)=y+x from aG (by omega)]
 rw[Int.tmod_eq_emod_of_nonneg (by omega)]
 omega
theorem aJK {b:aE}:∀ {x y:Int},(0≤x∧x<251)→(0≤y∧y<251)→(0≤(kL b x y).1∧(kL b x y).1<251)∧(0≤(kL b x y).2∧(kL b x y).2<251):=by
 induction b with
 |nil=>intro x y h h';exact⟨h,h'⟩
 |cons c r ih=>intro x y h h';exact ih (aLX h) (aM6 (aLX h) h')
theorem dJ {E:Env} (hE:Sys E) (b:aE) (h0:b.length≤1099511627776):E 243 [sv (bys b)]=some ([iv (aY b)],[]):=by
 refine hE.run rfl rfl fun W hW=>?_
 conv=>lhs;whnf
 refine hW.loop (σ:=Nat × Int × Int) (γ:=Nat) (fun i s=>((s.sl 5 (v1 (.t (.int .i64 i.1)))).sl 3 (v1 (.t (.int .i64 i.2.1)))).sl 4 (v1 (.t (.int .i64 i.2.2)))) (fun i n=>i.1=n∧n≤b.length∧kL (b.drop n) i.2.1 i.2.2=kL b 0 0) (fun n=>b.length-n) (fun _=>([iv (aY b)],[])) (0,0,0) 0 ?_ ?_ ?_ ?_
 ·intro K
  conv=>lhs;whnf
  conv=>rhs;whnf
  try rfl
 ·exact⟨rfl,by omega,rfl⟩
 ·rintro kl ⟨n,x,y⟩ _ ⟨rfl,hn,hs⟩ ih
  simp only at hs hn
  conv=>lhs;whnf
  apply hW.b<;>intro h2<;>conv=>lhs;whnf
  ·have h2:n<b.length:=by simpa[aF] using h2
   rw[List.drop_eq_getElem_cons h2,kL]at hs
   repeat((first|apply hW.t|apply hW.f|(apply hW.q;exact rqc)|(refine hW.w (cA ?_) ?_;omega));conv=>lhs;whnf)
   refine ih (n+1,wx x b[n],wy y (wx x b[n])) (n+1) _ ?_ ⟨rfl,by omega,hs⟩ (by omega)
   intro K
   conv=>lhs;whnf
   conv=>rhs;whnf
   try rfl
   rw[show IntKind.i64.wrap ((n:Int)+1)=_ from aH (by omega)]
   try rfl
  ·have:n=b.length:=by simp[aF]at h2;omega
   subst this
   rw[List.drop_length]at hs
   unfold aY
   rw[← hs];rfl
 ·rfl
def aCk (n m:Int):Int:=if bM m 1 1000000000000=true then(IntKind.i64.wrap (n.tmod m+m)).tmod m else 0
theorem aDn {E:Env} (hE:Sys E) (n m:Int):E 268 [iv n,iv m]=some ([iv (aCk n m)],[]):=by
 have ha:=bG hE m 1 1000000000000
 unfold aCk
 cases h1:bM m 1 1000000000000
 ·rw[h1]at ha
  refine hE.run rfl rfl fun W hW=>?_
  conv=>lhs;whnf
  repeat'((first|apply hW.t|apply hW.f|(apply hW.q;exact rqc)|apply hW.w (ha)|(apply hW.b<;>intro h))<;>conv=>lhs;whnf)
  all_goals(refine congrArg (fun b=>(some ([iv b],[]):Option Res)) ?_;first|rfl|(simp_all [];done)|(simp_all []<;>(intros;omega)))
 ·rw[h1]at ha
  have:=bS h1
  refine hE.run rfl rfl fun W hW=>?_
  conv=>lhs;whnf
  repeat'((first|apply hW.t|apply hW.f|(apply hW.q;exact rqc)|apply hW.w (ha)|(apply hW.b<;>intro h))<;>conv=>lhs;whnf)
  rfl
theorem vK {E:Env} (hE:Sys E) (n m:Int):E 258 [iv n,iv m]=some ([iv (aCk n m)],[]):=by
 have ha:=bJ hE m 1 1000000000000
 unfold aCk
 cases h1:bM m 1 1000000000000
 ·rw[h1]at ha
  refine hE.run rfl rfl fun W hW=>?_
  conv=>lhs;whnf
  repeat'((first|apply hW.t|apply hW.f|(apply hW.q;exact rqc)|apply hW.w (ha)|(apply hW.b<;>intro h))<;>conv=>lhs;whnf)
  all_goals(refine congrArg (fun b=>(some ([iv b],[]):Option Res)) ?_;first|rfl|(simp_all [];done)|(simp_all []<;>(intros;omega)))
 ·rw[h1]at ha
  have:=bS h1
  refine hE.run rfl rfl fun W hW=>?_
  conv=>lhs;whnf
  repeat'((first|apply hW.t|apply hW.f|(apply hW.q;exact rqc)|apply hW.w (ha)|(apply hW.b<;>intro h))<;>conv=>lhs;whnf)
  rfl
theorem aEt {n:Int} (h:0≤n∧n<251):aCk n 251=n:=by
 unfold aCk
 have e:n.tmod 251=n:=by rw[Int.tmod_eq_emod_of_nonneg (by omega)];omega
 rw[if_pos (by decide),e,show IntKind.i64.wrap (n+251)=n+251 from aG (by omega),Int.tmod_eq_emod_of_nonneg (by omega)]
 omega
theorem aDo {E:Env} (hE:Sys E) (x y:Int) (hx:0≤x∧x<251) (hy:0≤y∧y<251):E 257 [iv x,iv y]=some ([iv (IntKind.i64.wrap (x+IntKind.i64.wrap (251*y)))],[]):=by
 have h1:=vK hE x 251
 have h2:=vK hE y 251
 rw[aEt hx]at h1
 rw[aEt hy]at h2
 refine hE.run rfl rfl fun W hW=>?_
 conv=>lhs;whnf
 apply hW.w (h1)
 conv=>lhs;whnf
 repeat((first|apply hW.t|apply hW.f|(apply hW.q;exact rqc));conv=>lhs;whnf)
 apply hW.w (h2)
 conv=>lhs;whnf
 repeat((first|apply hW.t|apply hW.f|(apply hW.q;exact rqc));conv=>lhs;whnf)
 rfl
end Tev
