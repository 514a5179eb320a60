/- What the functions compute, one contract each. -/
import Derived.Test.YtiihmlnehfnoaaaGreatTakeAllIr1
set_option linter.unusedSimpArgs false
set_option linter.unusedVariables false
namespace Tev
open Go
set_option maxRecDepth 50000
set_option maxHeartbeats 20000000
def thn (v:Int) (f:Int→Int):Int:=if v<0 then -1 else f v
theorem oI {v:Int} {f:Int→Int} (h:v<0):thn v f = -1:=if_pos h
theorem kN {v:Int} {f:Int→Int} (h:¬ v<0):thn v f=f v:=if_neg h
theorem iL {v:Int} {f:Int→Int} (h:¬ thn v f<0):¬ v<0∧¬ f v<0:=by
 by_cases hv:v<0
 ·rw[oI hv]at h;omega
 ·rw[kN hv]at h;exact⟨hv,h⟩
def rg (v:Int):Prop := -1≤v∧v≤1048576
theorem aNj {v:Int} (h:rg v) : -1≤v∧v≤1048576:=h
theorem jD {v:Int} {f:Int→Int} (hf:¬ v<0→rg (f v)):rg (thn v f):=by
 by_cases hv:v<0
 ·rw[oI hv];exact⟨by omega,by omega⟩
 ·rw[kN hv];exact hf hv
def eT (left n:Int):Int:=if left-n<0 then -1 else left-n
theorem cP {left:Int} {n:Nat} (h:rg left):rg (eT left n):=by
 obtain⟨h1,h2⟩:=h
 unfold eT rg;split<;>omega
theorem jU {left:Int} {n:Nat} (h:rg left) (h1:¬ eT left n<0):n≤1048576∧eT left n=left-n:=by
 obtain⟨h2,h3⟩:=h
 unfold eT at h1 ⊢
 split at h1
 ·omega
 ·rename_i h4;rw[if_neg h4];omega
def szL {α:Type} (f:α→Int→Int):List α→Int→Int
 |[],left=>left
 |x::r,left=>thn (f x left) (szL f r)
def szS {α:Type} (f:α→Int→Int) (l:List α) (left:Int):Int:=thn (eT left l.length) (szL f l)
theorem aNk {α:Type} {f:α→Int→Int} (hf:∀ x v,rg v→rg (f x v)) {l:List α}:∀ {left:Int},rg left→rg (szL f l left):=by
 induction l with
 |nil=>intro left h;exact h
 |cons x r ih=>intro left h;exact jD fun _=>ih (hf x left h)
theorem aNl {α:Type} {f:α→Int→Int} {P:α→Prop} (hf:∀ x v,rg v→rg (f x v)) (hp:∀ x v,rg v→¬ f x v<0→P x) {l:List α}:∀ {left:Int},rg left→¬ szL f l left<0→∀ x∈l,P x:=by
 induction l with
 |nil=>intro left _ _ x hx;cases hx
 |cons x r ih =>
  intro left h h1 y hy
  obtain⟨h2,h3⟩:=iL h1
  rcases List.mem_cons.mp hy with rfl|hy
  ·exact hp _ _ h h2
  ·exact ih (hf x left h) h3 y hy
theorem aHv {α:Type} {f:α→Int→Int} (hf:∀ x v,rg v→rg (f x v)) {l:List α} {left:Int} (h:rg left):rg (szS f l left):=jD fun _=>aNk hf (cP h)
def xW {α:Type} (P:Nat→α→Prop) (B:Nat) (l:List α):Prop:=l.length≤B∧∀ x∈l,P B x
theorem aK1 {α:Type} {f:α→Int→Int} {P:Nat→α→Prop} (hf:∀ x v,rg v→rg (f x v)) (hp:∀ x v,rg v→¬ f x v<0→P 1048576 x) {l:List α} {left:Int} (h:rg left) (h1:¬ szS f l left<0):xW P 1048576 l:=by
 obtain⟨h2,h3⟩:=iL h1
 exact⟨(jU h h2).1,aNl hf hp (cP h) h3⟩
theorem lF {α:Type} {P:Nat→α→Prop} {B C:Nat} (hp:∀ x,P B x→P C x) (h:B≤C) {l:List α} (hl:xW P B l):xW P C l:=⟨by have:=hl.1;omega,fun x hx=>hp x (hl.2 x hx)⟩
theorem iM {α:Type} (f:α→List T) {l:List α} {n:Nat} (h:n<l.length) (z:List T):((l.take n).map f++List.replicate (l.length-n) z).set n (f l[n])=(l.take (n+1)).map f++List.replicate (l.length-(n+1)) z:=by
 have h1:((l.take n).map f).length=n:=by rw[List.length_map,List.length_take];omega
 rw[List.set_append,if_neg (by omega),h1,Nat.sub_self,show l.length-n=(l.length-(n+1))+1 from by omega,List.replicate_succ,List.set_cons_zero,show l.take (n+1)=l.take n++[l[n]] from by rw[List.take_add_one,List.getElem?_eq_getElem h];rfl,List.map_append]
 simp
theorem dC {α:Type} {f:α→List T} {l:List α} {n:Nat} (h:n<l.length) (z:List T):((l.take n).map f++List.replicate (l.length-n) z)[(n:Int).toNat]?=some z:=by
 have h1:((l.take n).map f).length=n:=by rw[List.length_map,List.length_take];omega
 rw[Int.toNat_natCast,List.getElem?_append_right (by omega),h1,Nat.sub_self,show l.length-n=(l.length-(n+1))+1 from by omega]
 rfl
def mix {α:Type} (f:α→List T) (M l:List α) (n:Nat):List (List T):=(M.take n).map f++(l.drop n).map f
theorem rF {α:Type} {f:α→List T} {M l:List α} {n:Nat} (h:M.length=l.length):(mix f M l n).length=l.length:=by
 simp[mix];omega
theorem gK {α:Type} {f:α→List T} {M l:List α} {n:Nat} (h:M.length=l.length) (hn:n<l.length):(mix f M l n)[n]?=some (f l[n]):=by
 have h1:((M.take n).map f).length=n:=by rw[List.length_map,List.length_take];omega
 rw[mix,List.getElem?_append_right (by omega),h1,Nat.sub_self]
 simp[hn]
theorem aL3 {α:Type} {f:α→List T} {M l:List α} {n:Nat} (h:M.length=l.length) (hn:n<l.length):(mix f M l n).set n (f (M[n]'(by omega)))=mix f M l (n+1):=by
 have h1:((M.take n).map f).length=n:=by rw[List.length_map,List.length_take];omega
 rw[mix,List.set_append,if_neg (by omega),h1,Nat.sub_self,List.drop_eq_getElem_cons hn,List.map_cons,List.set_cons_zero,mix,show M.take (n+1)=M.take n++[M[n]'(by omega)] from by rw[List.take_add_one,List.getElem?_eq_getElem (by omega)];rfl,List.map_append]
 simp
theorem mK {α:Type} {f:α→List T} {M l:List α}:mix f M l 0=l.map f:=by simp[mix]
theorem rG {α:Type} {f:α→List T} {M l:List α} (h:M.length=l.length):mix f M l l.length=M.map f:=by simp[mix,← h]
theorem aL4 {L:List (List T)} {n:Nat} {e:List T} (h:n<L.length):(L.set n e)[n]?=some e:=by simp[h]
def dD {α:Type} (f:Int→α→α) (c:α→Nat):Int→List α→List α
 |_,[]=>[]
 |k,x::r=>f k x::dD f c (k+c x) r
def aJ {α:Type} (c:α→Nat):List α→Nat
 |[]=>0
 |x::r=>c x+aJ c r
theorem fA {α:Type} {f:Int→α→α} {c:α→Nat} {l:List α}:∀ {k:Int},(dD f c k l).length=l.length:=by
 induction l with
 |nil=>intro k;rfl
 |cons x r ih=>intro k;simp[dD,ih]
theorem fZ {α:Type} {f:Int→α→α} {c:α→Nat} {l:List α}:∀ {k:Int} {n:Nat} (hn:n<l.length),(dD f c k l)[n]'(by rw[fA];exact hn)=f (k+aJ c (l.take n)) l[n]:=by
 induction l with
 |nil=>intro k n h;cases h
 |cons x r ih =>
  intro k n h
  cases n with
  |zero=>simp[dD,aJ]
  |succ n =>
   simp only[dD,List.getElem_cons_succ,List.take_succ_cons,aJ]
   rw[ih (by simpa using h)]
   congr 1
   push_cast;omega
theorem eJ {α:Type} {c:α→Nat} {l:List α}:∀ {n:Nat} (hn:n<l.length),aJ c (l.take (n+1))=aJ c (l.take n)+c l[n]:=by
 induction l with
 |nil=>intro n h;cases h
 |cons x r ih =>
  intro n h
  cases n with
  |zero=>simp[aJ]
  |succ n =>
   simp only[List.take_succ_cons,aJ,List.getElem_cons_succ]
   rw[ih (by simpa using h)];omega
theorem iT {α:Type} {c:α→Nat} {l:List α}:∀ {n:Nat},aJ c (l.take n)≤aJ c l:=by
 induction l with
 |nil=>intro n;simp[aJ]
 |cons x r ih =>
  intro n
  cases n with
  |zero=>simp[aJ]
  |succ n=>simp only[List.take_succ_cons,aJ];have:=ih (n:=n);omega
def cD (k:Int):UInt8:=UInt8.ofNat (k%256).toNat
theorem dQ (k:Int):((cD k).toNat:Int)=IntKind.u8.wrap k:=by
 unfold cD
 rw[UInt8.toNat_ofNat']
 simp only[IntKind.wrap,IntKind.bits,IntKind.signed]
 have h1:0≤k%256:=Int.emod_nonneg _ (by omega)
 have h2:k%256<256:=Int.emod_lt_of_pos _ (by omega)
 simp
 omega
def Sent.cs (x:Sent):List CA:=[ci x.frm,ci x.to,ci x.i]
theorem lG {E:Env} (hE:Sys E) (l:List UInt8) (left:Int) (hb:l.length≤140737488355328) (r0:rg left):E 9 [sv (bys l),iv left]=some ([iv (eT left l.length)],[]):=by
 obtain⟨hl0,hl1⟩:=r0
 refine hE.run rfl rfl fun W hW=>?_
 conv=>lhs;whnf
 have hw:IntKind.i64.wrap (left-((bys l).length:Int))=left-l.length:=by
  rw[show(bys l).length=l.length from List.length_map _];exact aG (by omega)
 apply hW.b<;>intro h<;>conv=>lhs;whnf
 ·rw[hw]at h
  simp only[decide_eq_true_eq]at h
  simp only[eT,if_pos h];rfl
 ·rw[hw]at h
  simp only[decide_eq_false_iff_not]at h
  rw[show eT left l.length=left-l.length from if_neg h,← hw];rfl
theorem lH {E:Env} (hE:Sys E) (l:List UInt8) (hb:l.length≤1048576):E 12 [sv (bys l)]=some ([ov 1 (bys l)],[]):=by
 have h0:l.length≤1048576:=hb
 refine hE.run rfl rfl fun W hW=>?_
 conv=>lhs;whnf
 refine hW.q (by(simp[bys,bN]<;>omega)) ?_
 conv=>lhs;whnf
 refine hW.loop (σ:=Nat) (γ:=Nat) (fun i s=>(s.sl 4 (v1 (.t (.int .i64 i)))).bl ⟨700,1, .own,(l.take i).map mX++List.replicate (l.length-i) [.int .u8 0]⟩) (fun i n=>i=n∧n≤l.length) (fun n=>l.length-n) (fun _=>([ov 1 (bys l)],[])) 0 0 ?_ ?_ ?_ ?_
 ·intro K
  conv=>lhs;whnf
  conv=>rhs;whnf
  try rfl
  simp[bys,bN]
 ·simp
 ·rintro kl n _ ⟨rfl,hn⟩ ih
  conv=>lhs;whnf
  apply hW.b<;>intro h2<;>conv=>lhs;whnf
  ·have h2:n<l.length:=by simpa[bys,bN] using h2
   repeat((first|apply hW.t|apply hW.f|(apply hW.q;exact rqc)|(refine hW.w (bR ?_) ?_;omega));conv=>lhs;whnf)
   apply hW.w (dC h2 _)
   conv=>lhs;whnf
   repeat((first|apply hW.t|apply hW.f|(apply hW.q;exact rqc)|(refine hW.w (bR ?_) ?_;omega));conv=>lhs;whnf)
   apply hW.w (dC h2 _)
   conv=>lhs;whnf
   repeat((first|apply hW.t|apply hW.f|(apply hW.q;exact rqc)|(refine hW.w (bR ?_) ?_;omega));conv=>lhs;whnf)
   refine ih (n+1) (n+1) _ ?_ ⟨rfl,by omega⟩ (by omega)
   intro K
   conv=>lhs;whnf
   conv=>rhs;whnf
   try rfl
   rw[show IntKind.i64.wrap ((n:Int)+1)=_ from aH (by omega)]
   refine congrArg K (congrArg (St.mk _) (congrArg (List.cons _) (congrArg (fun x=>[Blk.mk (100*7) 1 .own x]) ?_)))
   exact iM mX h2 _
  ·have:n=l.length:=by simp[bys,bN]at h2;omega
   subst this
   simp[List.take_length]
   rfl
 ·rfl
theorem lI {E:Env} (hE:Sys E) (l m:List UInt8) (hb:l.length≤1099511627776):E 18 [sv (bys l),sv (bys m)]=some ([bv (decide (l=m))],[]):=by
 have h0:l.length≤1099511627776:=hb
 refine hE.run rfl rfl fun W hW=>?_
 conv=>lhs;whnf
 apply hW.b<;>intro h<;>conv=>lhs;whnf
 ·have:l≠m:=by rintro rfl;simp[bys,bN]at h
  rw[decide_eq_false this];rfl
 ·have h:l.length=m.length:=by simp[bys,bN]at h;omega
  refine hW.loop (σ:=Nat) (γ:=Nat) (fun i s=>s.sl 5 (v1 (.t (.int .i64 i)))) (fun i n=>i=n∧n≤l.length) (fun n=>l.length-n) (fun n=>([bv (decide (l.drop n=m.drop n))],[])) 0 0 ?_ ?_ ?_ ?_
  ·intro K
   conv=>lhs;whnf
   conv=>rhs;whnf
   try rfl
  ·simp
  ·rintro kl n _ ⟨rfl,hn⟩ ih
   conv=>lhs;whnf
   apply hW.b<;>intro h2<;>conv=>lhs;whnf
   ·have h2:n<l.length:=by simpa[bys,bN] using h2
    rw[List.drop_eq_getElem_cons h2,List.drop_eq_getElem_cons (l:=m) (i:=n) (by omega)]
    repeat((first|apply hW.t|apply hW.f|(apply hW.q;exact rqc)|(refine hW.w (bR ?_) ?_;omega));conv=>lhs;whnf)
    apply hW.b<;>intro h3<;>conv=>lhs;whnf
    ·have h3:l[n]≠m[n]:=fun e=>by rw[e]at h3;simp at h3
     rw[decide_eq_false fun e=>h3 (List.cons.inj e).1];rfl
    ·have h3:l[n]=m[n]:=by
      simp at h3
      exact UInt8.toNat_inj.mp (by omega)
     simp only[h3,List.cons.injEq,true_and]
     refine ih (n+1) (n+1) _ ?_ ⟨rfl,by omega⟩ (by omega)
     intro K
     conv=>lhs;whnf
     conv=>rhs;whnf
     try rfl
     rw[show IntKind.i64.wrap ((n:Int)+1)=_ from aH (by omega)]
   ·have:n=l.length:=by simp[bys,bN]at h2;omega
    subst this
    rw[List.drop_length,h,List.drop_length];rfl
  ·rfl
theorem aJI {E:Env} (hE:Sys E) (l:List Int) (left:Int) (hb:l.length≤140737488355328) (r0:rg left):E 142 [sv (bN l),iv left]=some ([iv (eT left l.length)],[]):=by
 obtain⟨hl0,hl1⟩:=r0
 refine hE.run rfl rfl fun W hW=>?_
 conv=>lhs;whnf
 have hw:IntKind.i64.wrap (left-((bN l).length:Int))=left-l.length:=by
  rw[show(bN l).length=l.length from List.length_map _];exact aG (by omega)
 apply hW.b<;>intro h<;>conv=>lhs;whnf
 ·rw[hw]at h
  simp only[decide_eq_true_eq]at h
  simp only[eT,if_pos h];rfl
 ·rw[hw]at h
  simp only[decide_eq_false_iff_not]at h
  rw[show eT left l.length=left-l.length from if_neg h,← hw];rfl
theorem aJJ {E:Env} (hE:Sys E) (l:List Int) (hb:l.length≤1048576):E 144 [sv (bN l)]=some ([ov 1 (bN l)],[]):=by
 have h0:l.length≤1048576:=hb
 refine hE.run rfl rfl fun W hW=>?_
 conv=>lhs;whnf
 refine hW.q (by(simp[bys,bN]<;>omega)) ?_
 conv=>lhs;whnf
 refine hW.loop (σ:=Nat) (γ:=Nat) (fun i s=>(s.sl 4 (v1 (.t (.int .i64 i)))).bl ⟨700,1, .own,(l.take i).map qQ++List.replicate (l.length-i) [.int .i64 0]⟩) (fun i n=>i=n∧n≤l.length) (fun n=>l.length-n) (fun _=>([ov 1 (bN l)],[])) 0 0 ?_ ?_ ?_ ?_
 ·intro K
  conv=>lhs;whnf
  conv=>rhs;whnf
  try rfl
  simp[bys,bN]
 ·simp
 ·rintro kl n _ ⟨rfl,hn⟩ ih
  conv=>lhs;whnf
  apply hW.b<;>intro h2<;>conv=>lhs;whnf
  ·have h2:n<l.length:=by simpa[bys,bN] using h2
   repeat((first|apply hW.t|apply hW.f|(apply hW.q;exact rqc)|(refine hW.w (bR ?_) ?_;omega));conv=>lhs;whnf)
   apply hW.w (dC h2 _)
   conv=>lhs;whnf
   repeat((first|apply hW.t|apply hW.f|(apply hW.q;exact rqc)|(refine hW.w (bR ?_) ?_;omega));conv=>lhs;whnf)
   apply hW.w (dC h2 _)
   conv=>lhs;whnf
   repeat((first|apply hW.t|apply hW.f|(apply hW.q;exact rqc)|(refine hW.w (bR ?_) ?_;omega));conv=>lhs;whnf)
   refine ih (n+1) (n+1) _ ?_ ⟨rfl,by omega⟩ (by omega)
   intro K
   conv=>lhs;whnf
   conv=>rhs;whnf
   try rfl
   rw[show IntKind.i64.wrap ((n:Int)+1)=_ from aH (by omega)]
   refine congrArg K (congrArg (St.mk _) (congrArg (List.cons _) (congrArg (fun x=>[Blk.mk (100*7) 1 .own x]) ?_)))
   exact iM qQ h2 _
  ·have:n=l.length:=by simp[bys,bN]at h2;omega
   subst this
   simp[List.take_length]
   rfl
 ·rfl
theorem aJK {E:Env} (hE:Sys E) (l m:List Int) (hb:l.length≤1099511627776):E 147 [sv (bN l),sv (bN m)]=some ([bv (decide (l=m))],[]):=by
 have h0:l.length≤1099511627776:=hb
 refine hE.run rfl rfl fun W hW=>?_
 conv=>lhs;whnf
 apply hW.b<;>intro h<;>conv=>lhs;whnf
 ·have:l≠m:=by rintro rfl;simp[bys,bN]at h
  rw[decide_eq_false this];rfl
 ·have h:l.length=m.length:=by simp[bys,bN]at h;omega
  refine hW.loop (σ:=Nat) (γ:=Nat) (fun i s=>s.sl 5 (v1 (.t (.int .i64 i)))) (fun i n=>i=n∧n≤l.length) (fun n=>l.length-n) (fun n=>([bv (decide (l.drop n=m.drop n))],[])) 0 0 ?_ ?_ ?_ ?_
  ·intro K
   conv=>lhs;whnf
   conv=>rhs;whnf
   try rfl
  ·simp
  ·rintro kl n _ ⟨rfl,hn⟩ ih
   conv=>lhs;whnf
   apply hW.b<;>intro h2<;>conv=>lhs;whnf
   ·have h2:n<l.length:=by simpa[bys,bN] using h2
    rw[List.drop_eq_getElem_cons h2,List.drop_eq_getElem_cons (l:=m) (i:=n) (by omega)]
    repeat((first|apply hW.t|apply hW.f|(apply hW.q;exact rqc)|(refine hW.w (bR ?_) ?_;omega));conv=>lhs;whnf)
    apply hW.b<;>intro h3<;>conv=>lhs;whnf
    ·have h3:l[n]≠m[n]:=by simpa using h3
     rw[decide_eq_false fun e=>h3 (List.cons.inj e).1];rfl
    ·have h3:l[n]=m[n]:=by simpa using h3
     simp only[h3,List.cons.injEq,true_and]
     refine ih (n+1) (n+1) _ ?_ ⟨rfl,by omega⟩ (by omega)
     intro K
     conv=>lhs;whnf
     conv=>rhs;whnf
     try rfl
     rw[show IntKind.i64.wrap ((n:Int)+1)=_ from aH (by omega)]
   ·have:n=l.length:=by simp[bys,bN]at h2;omega
    subst this
    rw[List.drop_length,h,List.drop_length];rfl
  ·rfl
theorem aJL {E:Env} (hE:Sys E) (l:List Sum) (left:Int) (hb:l.length≤140737488355328) (r0:rg left):E 53 [sv (l.map Sum.row),iv left]=some ([iv (eT left l.length)],[]):=by
 obtain⟨hl0,hl1⟩:=r0
 refine hE.run rfl rfl fun W hW=>?_
 conv=>lhs;whnf
 have hw:IntKind.i64.wrap (left-((l.map Sum.row).length:Int))=left-l.length:=by
  rw[show(l.map Sum.row).length=l.length from List.length_map _];exact aG (by omega)
 apply hW.b<;>intro h<;>conv=>lhs;whnf
 ·rw[hw]at h
  simp only[decide_eq_true_eq]at h
  simp only[eT,if_pos h];rfl
 ·rw[hw]at h
  simp only[decide_eq_false_iff_not]at h
  rw[show eT left l.length=left-l.length from if_neg h,← hw];rfl
theorem aL5 {E:Env} (hE:Sys E) (x:Sum):E 56 [gv (x.cs)]=some ([gv (x.cs)],[]):=by
 refine hE.run rfl rfl fun W hW=>?_
 conv=>lhs;whnf
 rfl
theorem aJM {E:Env} (hE:Sys E) (l:List Sum) (hb:l.length≤1048576):E 57 [sv (l.map Sum.row)]=some ([ov 2 (l.map Sum.row)],[]):=by
 have h0:l.length≤1048576:=hb
 refine hE.run rfl rfl fun W hW=>?_
 conv=>lhs;whnf
 refine hW.q (by(simp[bys,bN]<;>omega)) ?_
 conv=>lhs;whnf
 refine hW.loop (σ:=Nat) (γ:=Nat) (fun i s=>(s.sl 4 (v1 (.t (.int .i64 i)))).bl ⟨700,2, .own,(l.take i).map Sum.row++List.replicate (l.length-i) [.int .i64 0, .int .i64 0]⟩) (fun i n=>i=n∧n≤l.length) (fun n=>l.length-n) (fun _=>([ov 2 (l.map Sum.row)],[])) 0 0 ?_ ?_ ?_ ?_
 ·intro K
  conv=>lhs;whnf
  conv=>rhs;whnf
  try rfl
  simp[bys,bN]
 ·simp
 ·rintro kl n _ ⟨rfl,hn⟩ ih
  conv=>lhs;whnf
  apply hW.b<;>intro h2<;>conv=>lhs;whnf
  ·have h2:n<l.length:=by simpa[bys,bN] using h2
   repeat((first|apply hW.t|apply hW.f|(apply hW.q;exact rqc)|(refine hW.w (bR ?_) ?_;omega));conv=>lhs;whnf)
   apply hW.w (aL5 hE l[n])
   conv=>lhs;whnf
   repeat((first|apply hW.t|apply hW.f|(apply hW.q;exact rqc)|(refine hW.w (bR ?_) ?_;omega));conv=>lhs;whnf)
   apply hW.w (dC h2 _)
   conv=>lhs;whnf
   repeat((first|apply hW.t|apply hW.f|(apply hW.q;exact rqc)|(refine hW.w (bR ?_) ?_;omega));conv=>lhs;whnf)
   apply hW.w (dC h2 _)
   conv=>lhs;whnf
   repeat((first|apply hW.t|apply hW.f|(apply hW.q;exact rqc)|(refine hW.w (bR ?_) ?_;omega));conv=>lhs;whnf)
   refine ih (n+1) (n+1) _ ?_ ⟨rfl,by omega⟩ (by omega)
   intro K
   conv=>lhs;whnf
   conv=>rhs;whnf
   try rfl
   rw[show IntKind.i64.wrap ((n:Int)+1)=_ from aH (by omega)]
   refine congrArg K (congrArg (St.mk _) (congrArg (List.cons _) (congrArg (fun x=>[Blk.mk (100*7) 2 .own x]) ?_)))
   exact iM Sum.row h2 _
  ·have:n=l.length:=by simp[bys,bN]at h2;omega
   subst this
   simp[List.take_length]
   rfl
 ·rfl
theorem aL6 {E:Env} (hE:Sys E) (x y:Sum):E 60 [gv (x.cs),gv (y.cs)]=some ([bv (decide (x=y))],[]):=by
 refine hE.run rfl rfl fun W hW=>?_
 conv=>lhs;whnf
 repeat((first|apply hW.t|apply hW.f|(apply hW.q;exact rqc)|(refine hW.w (bR ?_) ?_;omega));conv=>lhs;whnf)
 apply hW.b<;>intro e0<;>conv=>lhs;whnf
 ·have e0:x.w≠y.w:=by simpa using e0
  rw[decide_eq_false fun e=>e0 (by rw[e])];rfl
 ·have e0:x.w=y.w:=by simpa using e0
  repeat((first|apply hW.t|apply hW.f|(apply hW.q;exact rqc)|(refine hW.w (bR ?_) ?_;omega));conv=>lhs;whnf)
  apply hW.b<;>intro e1<;>conv=>lhs;whnf
  ·have e1:x.s≠y.s:=by simpa using e1
   rw[decide_eq_false fun e=>e1 (by rw[e])];rfl
  ·have e1:x.s=y.s:=by simpa using e1
   have:x=y:=by
    cases x;cases y;simp_all
   rw[decide_eq_true this];rfl
theorem aJN {E:Env} (hE:Sys E) (l m:List Sum) (hb:l.length≤1099511627776):E 61 [sv (l.map Sum.row),sv (m.map Sum.row)]=some ([bv (decide (l=m))],[]):=by
 have h0:l.length≤1099511627776:=hb
 refine hE.run rfl rfl fun W hW=>?_
 conv=>lhs;whnf
 apply hW.b<;>intro h<;>conv=>lhs;whnf
 ·have:l≠m:=by rintro rfl;simp[bys,bN]at h
  rw[decide_eq_false this];rfl
 ·have h:l.length=m.length:=by simp[bys,bN]at h;omega
  refine hW.loop (σ:=Nat) (γ:=Nat) (fun i s=>s.sl 5 (v1 (.t (.int .i64 i)))) (fun i n=>i=n∧n≤l.length) (fun n=>l.length-n) (fun n=>([bv (decide (l.drop n=m.drop n))],[])) 0 0 ?_ ?_ ?_ ?_
  ·intro K
   conv=>lhs;whnf
   conv=>rhs;whnf
   try rfl
  ·simp
  ·rintro kl n _ ⟨rfl,hn⟩ ih
   conv=>lhs;whnf
   apply hW.b<;>intro h2<;>conv=>lhs;whnf
   ·have h2:n<l.length:=by simpa[bys,bN] using h2
    rw[List.drop_eq_getElem_cons h2,List.drop_eq_getElem_cons (l:=m) (i:=n) (by omega)]
    repeat((first|apply hW.t|apply hW.f|(apply hW.q;exact rqc)|(refine hW.w (bR ?_) ?_;omega));conv=>lhs;whnf)
    apply hW.w (aL6 hE l[n] m[n])
    conv=>lhs;whnf
    try(apply hW.q;exact rqc;conv=>lhs;whnf)
    apply hW.b<;>intro h3<;>conv=>lhs;whnf
    ·have h3:l[n]≠m[n]:=by simpa using h3
     rw[decide_eq_false fun e=>h3 (List.cons.inj e).1];rfl
    ·have h3:l[n]=m[n]:=by simpa using h3
     simp only[h3,List.cons.injEq,true_and]
     refine ih (n+1) (n+1) _ ?_ ⟨rfl,by omega⟩ (by omega)
     intro K
     conv=>lhs;whnf
     conv=>rhs;whnf
     try rfl
     rw[show IntKind.i64.wrap ((n:Int)+1)=_ from aH (by omega)]
   ·have:n=l.length:=by simp[bys,bN]at h2;omega
    subst this
    rw[List.drop_length,h,List.drop_length];rfl
  ·rfl
theorem aJO {E:Env} (hE:Sys E) (l:List Kid) (left:Int) (hb:l.length≤140737488355328) (r0:rg left):E 34 [sv (l.map Kid.row),iv left]=some ([iv (eT left l.length)],[]):=by
 obtain⟨hl0,hl1⟩:=r0
 refine hE.run rfl rfl fun W hW=>?_
 conv=>lhs;whnf
 have hw:IntKind.i64.wrap (left-((l.map Kid.row).length:Int))=left-l.length:=by
  rw[show(l.map Kid.row).length=l.length from List.length_map _];exact aG (by omega)
 apply hW.b<;>intro h<;>conv=>lhs;whnf
 ·rw[hw]at h
  simp only[decide_eq_true_eq]at h
  simp only[eT,if_pos h];rfl
 ·rw[hw]at h
  simp only[decide_eq_false_iff_not]at h
  rw[show eT left l.length=left-l.length from if_neg h,← hw];rfl
theorem aL7 {E:Env} (hE:Sys E) (x:Kid):E 27 [gv (x.cs)]=some ([gv (x.cs)],[]):=by
 refine hE.run rfl rfl fun W hW=>?_
 conv=>lhs;whnf
 rfl
theorem aJP {E:Env} (hE:Sys E) (l:List Kid) (hb:l.length≤1048576):E 35 [sv (l.map Kid.row)]=some ([ov 5 (l.map Kid.row)],[]):=by
 have h0:l.length≤1048576:=hb
 refine hE.run rfl rfl fun W hW=>?_
 conv=>lhs;whnf
 refine hW.q (by(simp[bys,bN]<;>omega)) ?_
 conv=>lhs;whnf
 refine hW.loop (σ:=Nat) (γ:=Nat) (fun i s=>(s.sl 4 (v1 (.t (.int .i64 i)))).bl ⟨700,5, .own,(l.take i).map Kid.row++List.replicate (l.length-i) [.int .i64 0, .int .i64 0, .int .i64 0, .int .i64 0, .int .i64 0]⟩) (fun i n=>i=n∧n≤l.length) (fun n=>l.length-n) (fun _=>([ov 5 (l.map Kid.row)],[])) 0 0 ?_ ?_ ?_ ?_
 ·intro K
  conv=>lhs;whnf
  conv=>rhs;whnf
  try rfl
  simp[bys,bN]
 ·simp
 ·rintro kl n _ ⟨rfl,hn⟩ ih
  conv=>lhs;whnf
  apply hW.b<;>intro h2<;>conv=>lhs;whnf
  ·have h2:n<l.length:=by simpa[bys,bN] using h2
   repeat((first|apply hW.t|apply hW.f|(apply hW.q;exact rqc)|(refine hW.w (bR ?_) ?_;omega));conv=>lhs;whnf)
   apply hW.w (aL7 hE l[n])
   conv=>lhs;whnf
   repeat((first|apply hW.t|apply hW.f|(apply hW.q;exact rqc)|(refine hW.w (bR ?_) ?_;omega));conv=>lhs;whnf)
   apply hW.w (dC h2 _)
   conv=>lhs;whnf
   repeat((first|apply hW.t|apply hW.f|(apply hW.q;exact rqc)|(refine hW.w (bR ?_) ?_;omega));conv=>lhs;whnf)
   apply hW.w (dC h2 _)
   conv=>lhs;whnf
   repeat((first|apply hW.t|apply hW.f|(apply hW.q;exact rqc)|(refine hW.w (bR ?_) ?_;omega));conv=>lhs;whnf)
   refine ih (n+1) (n+1) _ ?_ ⟨rfl,by omega⟩ (by omega)
   intro K
   conv=>lhs;whnf
   conv=>rhs;whnf
   try rfl
   rw[show IntKind.i64.wrap ((n:Int)+1)=_ from aH (by omega)]
   refine congrArg K (congrArg (St.mk _) (congrArg (List.cons _) (congrArg (fun x=>[Blk.mk (100*7) 5 .own x]) ?_)))
   exact iM Kid.row h2 _
  ·have:n=l.length:=by simp[bys,bN]at h2;omega
   subst this
   simp[List.take_length]
   rfl
 ·rfl
theorem aL8 {E:Env} (hE:Sys E) (x y:Kid):E 33 [gv (x.cs),gv (y.cs)]=some ([bv (decide (x=y))],[]):=by
 refine hE.run rfl rfl fun W hW=>?_
 conv=>lhs;whnf
 repeat((first|apply hW.t|apply hW.f|(apply hW.q;exact rqc)|(refine hW.w (bR ?_) ?_;omega));conv=>lhs;whnf)
 apply hW.b<;>intro e0<;>conv=>lhs;whnf
 ·have e0:x.id≠y.id:=by simpa using e0
  rw[decide_eq_false fun e=>e0 (by rw[e])];rfl
 ·have e0:x.id=y.id:=by simpa using e0
  repeat((first|apply hW.t|apply hW.f|(apply hW.q;exact rqc)|(refine hW.w (bR ?_) ?_;omega));conv=>lhs;whnf)
  apply hW.b<;>intro e1<;>conv=>lhs;whnf
  ·have e1:x.want≠y.want:=by simpa using e1
   rw[decide_eq_false fun e=>e1 (by rw[e])];rfl
  ·have e1:x.want=y.want:=by simpa using e1
   repeat((first|apply hW.t|apply hW.f|(apply hW.q;exact rqc)|(refine hW.w (bR ?_) ?_;omega));conv=>lhs;whnf)
   apply hW.b<;>intro e2<;>conv=>lhs;whnf
   ·have e2:x.done≠y.done:=by simpa using e2
    rw[decide_eq_false fun e=>e2 (by rw[e])];rfl
   ·have e2:x.done=y.done:=by simpa using e2
    repeat((first|apply hW.t|apply hW.f|(apply hW.q;exact rqc)|(refine hW.w (bR ?_) ?_;omega));conv=>lhs;whnf)
    apply hW.b<;>intro e3<;>conv=>lhs;whnf
    ·have e3:x.age≠y.age:=by simpa using e3
     rw[decide_eq_false fun e=>e3 (by rw[e])];rfl
    ·have e3:x.age=y.age:=by simpa using e3
     repeat((first|apply hW.t|apply hW.f|(apply hW.q;exact rqc)|(refine hW.w (bR ?_) ?_;omega));conv=>lhs;whnf)
     apply hW.b<;>intro e4<;>conv=>lhs;whnf
     ·have e4:x.sent≠y.sent:=by simpa using e4
      rw[decide_eq_false fun e=>e4 (by rw[e])];rfl
     ·have e4:x.sent=y.sent:=by simpa using e4
      have:x=y:=by
       cases x;cases y;simp_all
      rw[decide_eq_true this];rfl
theorem aJQ {E:Env} (hE:Sys E) (l m:List Kid) (hb:l.length≤1099511627776):E 38 [sv (l.map Kid.row),sv (m.map Kid.row)]=some ([bv (decide (l=m))],[]):=by
 have h0:l.length≤1099511627776:=hb
 refine hE.run rfl rfl fun W hW=>?_
 conv=>lhs;whnf
 apply hW.b<;>intro h<;>conv=>lhs;whnf
 ·have:l≠m:=by rintro rfl;simp[bys,bN]at h
  rw[decide_eq_false this];rfl
 ·have h:l.length=m.length:=by simp[bys,bN]at h;omega
  refine hW.loop (σ:=Nat) (γ:=Nat) (fun i s=>s.sl 5 (v1 (.t (.int .i64 i)))) (fun i n=>i=n∧n≤l.length) (fun n=>l.length-n) (fun n=>([bv (decide (l.drop n=m.drop n))],[])) 0 0 ?_ ?_ ?_ ?_
  ·intro K
   conv=>lhs;whnf
   conv=>rhs;whnf
   try rfl
  ·simp
  ·rintro kl n _ ⟨rfl,hn⟩ ih
   conv=>lhs;whnf
   apply hW.b<;>intro h2<;>conv=>lhs;whnf
   ·have h2:n<l.length:=by simpa[bys,bN] using h2
    rw[List.drop_eq_getElem_cons h2,List.drop_eq_getElem_cons (l:=m) (i:=n) (by omega)]
    repeat((first|apply hW.t|apply hW.f|(apply hW.q;exact rqc)|(refine hW.w (bR ?_) ?_;omega));conv=>lhs;whnf)
    apply hW.w (aL8 hE l[n] m[n])
    conv=>lhs;whnf
    try(apply hW.q;exact rqc;conv=>lhs;whnf)
    apply hW.b<;>intro h3<;>conv=>lhs;whnf
    ·have h3:l[n]≠m[n]:=by simpa using h3
     rw[decide_eq_false fun e=>h3 (List.cons.inj e).1];rfl
    ·have h3:l[n]=m[n]:=by simpa using h3
     simp only[h3,List.cons.injEq,true_and]
     refine ih (n+1) (n+1) _ ?_ ⟨rfl,by omega⟩ (by omega)
     intro K
     conv=>lhs;whnf
     conv=>rhs;whnf
     try rfl
     rw[show IntKind.i64.wrap ((n:Int)+1)=_ from aH (by omega)]
   ·have:n=l.length:=by simp[bys,bN]at h2;omega
    subst this
    rw[List.drop_length,h,List.drop_length];rfl
  ·rfl
theorem aAm {E:Env} (hE:Sys E) (x:Rec):E 184 [gv (x.cs)]=some ([gv (x.cs)],[]):=by
 refine hE.run rfl rfl fun W hW=>?_
 conv=>lhs;whnf
 rfl
theorem aAn {E:Env} (hE:Sys E) (x y:Rec):E 202 [gv (x.cs),gv (y.cs)]=some ([bv (decide (x=y))],[]):=by
 refine hE.run rfl rfl fun W hW=>?_
 conv=>lhs;whnf
 repeat((first|apply hW.t|apply hW.f|(apply hW.q;exact rqc)|(refine hW.w (bR ?_) ?_;omega));conv=>lhs;whnf)
 apply hW.b<;>intro e0<;>conv=>lhs;whnf
 ·have e0:x.gen≠y.gen:=by simpa using e0
  rw[decide_eq_false fun e=>e0 (by rw[e])];rfl
 ·have e0:x.gen=y.gen:=by simpa using e0
  repeat((first|apply hW.t|apply hW.f|(apply hW.q;exact rqc)|(refine hW.w (bR ?_) ?_;omega));conv=>lhs;whnf)
  apply hW.b<;>intro e1<;>conv=>lhs;whnf
  ·have e1:x.slot≠y.slot:=by simpa using e1
   rw[decide_eq_false fun e=>e1 (by rw[e])];rfl
  ·have e1:x.slot=y.slot:=by simpa using e1
   repeat((first|apply hW.t|apply hW.f|(apply hW.q;exact rqc)|(refine hW.w (bR ?_) ?_;omega));conv=>lhs;whnf)
   apply hW.b<;>intro e2<;>conv=>lhs;whnf
   ·have e2:x.len≠y.len:=by simpa using e2
    rw[decide_eq_false fun e=>e2 (by rw[e])];rfl
   ·have e2:x.len=y.len:=by simpa using e2
    have:x=y:=by
     cases x;cases y;simp_all
    rw[decide_eq_true this];rfl
def Man.lim (B:Nat) (x:Man):Prop:=x.sums.length≤B
theorem Man.lim_mono {B C:Nat} (h:B≤C) {x:Man} (hx:x.lim B):x.lim C:=by
 exact Nat.le_trans (id hx) h
def Man.sz (x:Man) (v0:Int):Int:=thn ((fun v=>eT v x.sums.length) v0) fun v1=>v1
theorem Man.sz_rg {x:Man} {left:Int} (r0:rg left):rg (x.sz left):=by
 unfold Man.sz
 refine jD fun _=>?_
 exact(cP r0)
theorem Man.sz_ok {x:Man} {left:Int} (r0:rg left) (h:¬ x.sz left<0):x.lim 1048576:=by
 unfold Man.sz at h
 obtain⟨g0,h⟩:=iL h
 exact(jU r0 g0).1
theorem aCj {E:Env} (hE:Sys E) (x:Man) (left:Int) (hb:x.lim 140737488355328) (r0:rg left):E 54 [gv (x.cs aP),iv left]=some ([iv (x.sz left)],[]):=by
 unfold Man.sz
 refine hE.run rfl rfl fun W hW=>?_
 conv=>lhs;whnf
 apply hW.w (aJL hE x.sums (left) hb r0)
 conv=>lhs;whnf
 try(apply hW.q;exact rqc;conv=>lhs;whnf)
 have r1:rg (eT (left) x.sums.length):=cP r0
 apply hW.b<;>intro g0<;>conv=>lhs;whnf
 ·rw[oI (by simpa using g0)];rfl
 ·rw[kN (by simpa using g0)]
  rfl
theorem aCk {E:Env} (hE:Sys E) (x:Man) (hb:x.lim 1048576):E 58 [gv (x.cs aP)]=some ([gv (x.cs dF)],[]):=by
 refine hE.run rfl rfl fun W hW=>?_
 conv=>lhs;whnf
 apply hW.w (aJM hE x.sums hb)
 conv=>lhs;whnf
 try(apply hW.q;exact rqc;conv=>lhs;whnf)
 rfl
theorem aCl {E:Env} (hE:Sys E) (x y:Man) (hb:x.lim 1099511627776):E 62 [gv (x.cs aP),gv (y.cs aP)]=some ([bv (decide (x=y))],[]):=by
 refine hE.run rfl rfl fun W hW=>?_
 conv=>lhs;whnf
 repeat((first|apply hW.t|apply hW.f|(apply hW.q;exact rqc)|(refine hW.w (bR ?_) ?_;omega));conv=>lhs;whnf)
 apply hW.b<;>intro e0<;>conv=>lhs;whnf
 ·have e0:x.gen≠y.gen:=by simpa using e0
  rw[decide_eq_false fun e=>e0 (by rw[e])];rfl
 ·have e0:x.gen=y.gen:=by simpa using e0
  repeat((first|apply hW.t|apply hW.f|(apply hW.q;exact rqc)|(refine hW.w (bR ?_) ?_;omega));conv=>lhs;whnf)
  apply hW.b<;>intro e1<;>conv=>lhs;whnf
  ·have e1:x.size≠y.size:=by simpa using e1
   rw[decide_eq_false fun e=>e1 (by rw[e])];rfl
  ·have e1:x.size=y.size:=by simpa using e1
   repeat((first|apply hW.t|apply hW.f|(apply hW.q;exact rqc)|(refine hW.w (bR ?_) ?_;omega));conv=>lhs;whnf)
   apply hW.b<;>intro e2<;>conv=>lhs;whnf
   ·have e2:x.len≠y.len:=by simpa using e2
    rw[decide_eq_false fun e=>e2 (by rw[e])];rfl
   ·have e2:x.len=y.len:=by simpa using e2
    apply hW.w (aJN hE x.sums y.sums hb)
    conv=>lhs;whnf
    try(apply hW.q;exact rqc;conv=>lhs;whnf)
    apply hW.b<;>intro e3<;>conv=>lhs;whnf
    ·have e3:x.sums≠y.sums:=by simpa using e3
     rw[decide_eq_false fun e=>e3 (by rw[e])];rfl
    ·have e3:x.sums=y.sums:=by simpa using e3
     have:x=y:=by
      cases x;cases y;simp_all
     rw[decide_eq_true this];rfl
def Bld.lim (B:Nat) (x:Bld):Prop:=x.buf.length≤B
theorem Bld.lim_mono {B C:Nat} (h:B≤C) {x:Bld} (hx:x.lim B):x.lim C:=by
 exact Nat.le_trans (id hx) h
def Bld.sz (x:Bld) (v0:Int):Int:=thn ((fun v=>eT v x.buf.length) v0) fun v1=>v1
theorem Bld.sz_rg {x:Bld} {left:Int} (r0:rg left):rg (x.sz left):=by
 unfold Bld.sz
 refine jD fun _=>?_
 exact(cP r0)
theorem Bld.sz_ok {x:Bld} {left:Int} (r0:rg left) (h:¬ x.sz left<0):x.lim 1048576:=by
 unfold Bld.sz at h
 obtain⟨g0,h⟩:=iL h
 exact(jU r0 g0).1
theorem aHw {E:Env} (hE:Sys E) (x:Bld) (left:Int) (hb:x.lim 140737488355328) (r0:rg left):E 55 [gv (x.cs aP),iv left]=some ([iv (x.sz left)],[]):=by
 unfold Bld.sz
 refine hE.run rfl rfl fun W hW=>?_
 conv=>lhs;whnf
 apply hW.w (lG hE x.buf (left) hb r0)
 conv=>lhs;whnf
 try(apply hW.q;exact rqc;conv=>lhs;whnf)
 have r1:rg (eT (left) x.buf.length):=cP r0
 apply hW.b<;>intro g0<;>conv=>lhs;whnf
 ·rw[oI (by simpa using g0)];rfl
 ·rw[kN (by simpa using g0)]
  rfl
theorem aHx {E:Env} (hE:Sys E) (x:Bld) (hb:x.lim 1048576):E 59 [gv (x.cs aP)]=some ([gv (x.cs dF)],[]):=by
 refine hE.run rfl rfl fun W hW=>?_
 conv=>lhs;whnf
 apply hW.w (lH hE x.buf hb)
 conv=>lhs;whnf
 try(apply hW.q;exact rqc;conv=>lhs;whnf)
 rfl
theorem aHy {E:Env} (hE:Sys E) (x y:Bld) (hb:x.lim 1099511627776):E 63 [gv (x.cs aP),gv (y.cs aP)]=some ([bv (decide (x=y))],[]):=by
 refine hE.run rfl rfl fun W hW=>?_
 conv=>lhs;whnf
 repeat((first|apply hW.t|apply hW.f|(apply hW.q;exact rqc)|(refine hW.w (bR ?_) ?_;omega));conv=>lhs;whnf)
 apply hW.b<;>intro e0<;>conv=>lhs;whnf
 ·have e0:x.hav≠y.hav:=by simpa using e0
  rw[decide_eq_false fun e=>e0 (by rw[e])];rfl
 ·have e0:x.hav=y.hav:=by simpa using e0
  apply hW.w (lI hE x.buf y.buf hb)
  conv=>lhs;whnf
  try(apply hW.q;exact rqc;conv=>lhs;whnf)
  apply hW.b<;>intro e1<;>conv=>lhs;whnf
  ·have e1:x.buf≠y.buf:=by simpa using e1
   rw[decide_eq_false fun e=>e1 (by rw[e])];rfl
  ·have e1:x.buf=y.buf:=by simpa using e1
   have:x=y:=by
    cases x;cases y;simp_all
   rw[decide_eq_true this];rfl
def Put.lim (B:Nat) (x:Put):Prop:=x.b.length≤B
theorem Put.lim_mono {B C:Nat} (h:B≤C) {x:Put} (hx:x.lim B):x.lim C:=by
 exact Nat.le_trans (id hx) h
def Put.sz (x:Put) (v0:Int):Int:=thn ((fun v=>eT v x.b.length) v0) fun v1=>v1
theorem Put.sz_rg {x:Put} {left:Int} (r0:rg left):rg (x.sz left):=by
 unfold Put.sz
 refine jD fun _=>?_
 exact(cP r0)
theorem Put.sz_ok {x:Put} {left:Int} (r0:rg left) (h:¬ x.sz left<0):x.lim 1048576:=by
 unfold Put.sz at h
 obtain⟨g0,h⟩:=iL h
 exact(jU r0 g0).1
theorem aL9 {E:Env} (hE:Sys E) (x:Put) (left:Int) (hb:x.lim 140737488355328) (r0:rg left):E 174 [gv (x.cs aP),iv left]=some ([iv (x.sz left)],[]):=by
 unfold Put.sz
 refine hE.run rfl rfl fun W hW=>?_
 conv=>lhs;whnf
 apply hW.w (lG hE x.b (left) hb r0)
 conv=>lhs;whnf
 try(apply hW.q;exact rqc;conv=>lhs;whnf)
 have r1:rg (eT (left) x.b.length):=cP r0
 apply hW.b<;>intro g0<;>conv=>lhs;whnf
 ·rw[oI (by simpa using g0)];rfl
 ·rw[kN (by simpa using g0)]
  rfl
theorem aJR {E:Env} (hE:Sys E) {o:Bool} (l:List Put) (left:Int) (hb:xW (fun B=>Put.lim B) 140737488355328 l) (r0:rg left) :
 E 173 [sv (l.map (Put.row o)),iv left]=some ([iv (szS Put.sz l left)],[]):=by
 obtain⟨h0,hb⟩:=hb
 have hl:=aNj r0
 unfold szS
 refine hE.run rfl rfl fun W hW=>?_
 conv=>lhs;whnf
 have hw:IntKind.i64.wrap (left-((l.map (Put.row o)).length:Int))=left-l.length:=by rw[List.length_map];exact aG (by omega)
 apply hW.b<;>intro h<;>conv=>lhs;whnf
 ·rw[hw]at h
  have h:left-l.length<0:=by simpa using h
  have h1:eT left l.length = -1:=if_pos h
  rw[h1];rfl
 ·rw[hw]at h
  have h:¬ left-(l.length:Int)<0:=by simpa using h
  have h1:eT left l.length=left-l.length:=if_neg h
  rw[h1,kN h]
  refine hW.loop (σ:=Nat × Int) (γ:=Nat) (fun i s=>(s.sl 5 (v1 (.t (.int .i64 i.1)))).sl 1 (v1 (.t (.int .i64 i.2)))) (fun i n=>i.1=n∧n≤l.length∧0≤i.2∧rg i.2∧szL Put.sz (l.drop n) i.2=szL Put.sz l (left-l.length)) (fun n=>l.length-n) (fun _=>([iv (szL Put.sz l (left-l.length))],[])) (0,left-l.length) 0 ?_ ?_ ?_ ?_
  ·intro K
   conv=>lhs;whnf
   conv=>rhs;whnf
   try rfl
   rw[hw];rfl
  ·exact⟨rfl,by omega,by simpa using h,by rw[← h1];exact cP r0,rfl⟩
  ·rintro kl ⟨n,y⟩ _ ⟨rfl,hn,hy0,hy1,hy⟩ ih
   conv=>lhs;whnf
   apply hW.b<;>intro h2<;>conv=>lhs;whnf
   ·have h2:n<l.length:=by simpa using h2
    simp only at hy hn hy1 hy0
    rw[List.drop_eq_getElem_cons h2,szL]at hy
    repeat((first|apply hW.t|apply hW.f|(apply hW.q;exact rqc)|(refine hW.w (bR ?_) ?_;omega));conv=>lhs;whnf)
    apply hW.w (aL9 hE l[n] y (hb _ (List.getElem_mem h2)) hy1)
    conv=>lhs;whnf
    try(apply hW.q;exact rqc;conv=>lhs;whnf)
    apply hW.b<;>intro h3<;>conv=>lhs;whnf
    ·have h3:l[n].sz y<0:=by simpa using h3
     rw[oI h3]at hy
     rw[← hy];rfl
    ·have h3:¬ l[n].sz y<0:=by simpa using h3
     rw[kN h3]at hy
     refine ih (n+1,l[n].sz y) (n+1) _ ?_ ⟨rfl,by omega,by simpa using h3,Put.sz_rg hy1,hy⟩ (by omega)
     intro K
     conv=>lhs;whnf
     conv=>rhs;whnf
     try rfl
     rw[show IntKind.i64.wrap ((n:Int)+1)=_ from aH (by omega)]
   ·have:n=l.length:=by simp at h2 hn;omega
    subst this
    rw[List.drop_length]at hy
    simp only[szL]at hy
    rw[← hy];rfl
  ·rfl
theorem aMa {E:Env} (hE:Sys E) (x:Put) (hb:x.lim 1048576):E 186 [gv (x.cs aP)]=some ([gv (x.cs dF)],[]):=by
 refine hE.run rfl rfl fun W hW=>?_
 conv=>lhs;whnf
 apply hW.w (lH hE x.b hb)
 conv=>lhs;whnf
 try(apply hW.q;exact rqc;conv=>lhs;whnf)
 apply hW.w (aAm hE x.r)
 conv=>lhs;whnf
 try(apply hW.q;exact rqc;conv=>lhs;whnf)
 rfl
theorem aJS {E:Env} (hE:Sys E) {o:Bool} (l:List Put) (hb:xW (fun B=>Put.lim B) 1048576 l):E 185 [sv (l.map (Put.row o))]=some ([ov 6 (l.map (Put.row true))],[]):=by
 obtain⟨h0,hb⟩:=hb
 refine hE.run rfl rfl fun W hW=>?_
 conv=>lhs;whnf
 refine hW.q (by(simp[bys,bN]<;>omega)) ?_
 conv=>lhs;whnf
 refine hW.loop (σ:=Nat) (γ:=Nat) (fun i s=>(s.sl 4 (v1 (.t (.int .i64 i)))).bl ⟨700,6, .own,(l.take i).map (Put.row true)++List.replicate (l.length-i) [.int .i64 0, .int .i64 0, .sl true [], .int .i64 0, .int .i64 0, .int .i64 0]⟩) (fun i n=>i=n∧n≤l.length) (fun n=>l.length-n) (fun _=>([ov 6 (l.map (Put.row true))],[])) 0 0 ?_ ?_ ?_ ?_
 ·intro K
  conv=>lhs;whnf
  conv=>rhs;whnf
  try rfl
  simp[bys,bN]
 ·simp
 ·rintro kl n _ ⟨rfl,hn⟩ ih
  conv=>lhs;whnf
  apply hW.b<;>intro h2<;>conv=>lhs;whnf
  ·have h2:n<l.length:=by simpa[bys,bN] using h2
   repeat((first|apply hW.t|apply hW.f|(apply hW.q;exact rqc)|(refine hW.w (bR ?_) ?_;omega));conv=>lhs;whnf)
   apply hW.w (aMa hE l[n] (hb _ (List.getElem_mem h2)))
   conv=>lhs;whnf
   repeat((first|apply hW.t|apply hW.f|(apply hW.q;exact rqc)|(refine hW.w (bR ?_) ?_;omega));conv=>lhs;whnf)
   apply hW.w (dC h2 _)
   conv=>lhs;whnf
   repeat((first|apply hW.t|apply hW.f|(apply hW.q;exact rqc)|(refine hW.w (bR ?_) ?_;omega));conv=>lhs;whnf)
   apply hW.w (dC h2 _)
   conv=>lhs;whnf
   repeat((first|apply hW.t|apply hW.f|(apply hW.q;exact rqc)|(refine hW.w (bR ?_) ?_;omega));conv=>lhs;whnf)
   refine ih (n+1) (n+1) _ ?_ ⟨rfl,by omega⟩ (by omega)
   intro K
   conv=>lhs;whnf
   conv=>rhs;whnf
   try rfl
   rw[show IntKind.i64.wrap ((n:Int)+1)=_ from aH (by omega)]
   refine congrArg K (congrArg (St.mk _) (congrArg (List.cons _) (congrArg (fun x=>[Blk.mk (100*7) 6 .own x]) ?_)))
   exact iM (Put.row true) h2 _
  ·have:n=l.length:=by simp[bys,bN]at h2;omega
   subst this
   simp[List.take_length]
   rfl
 ·rfl
theorem aMb {E:Env} (hE:Sys E) (x y:Put) (hb:x.lim 1099511627776):E 204 [gv (x.cs aP),gv (y.cs aP)]=some ([bv (decide (x=y))],[]):=by
 refine hE.run rfl rfl fun W hW=>?_
 conv=>lhs;whnf
 repeat((first|apply hW.t|apply hW.f|(apply hW.q;exact rqc)|(refine hW.w (bR ?_) ?_;omega));conv=>lhs;whnf)
 apply hW.b<;>intro e0<;>conv=>lhs;whnf
 ·have e0:x.what≠y.what:=by simpa using e0
  rw[decide_eq_false fun e=>e0 (by rw[e])];rfl
 ·have e0:x.what=y.what:=by simpa using e0
  repeat((first|apply hW.t|apply hW.f|(apply hW.q;exact rqc)|(refine hW.w (bR ?_) ?_;omega));conv=>lhs;whnf)
  apply hW.b<;>intro e1<;>conv=>lhs;whnf
  ·have e1:x.at_≠y.at_:=by simpa using e1
   rw[decide_eq_false fun e=>e1 (by rw[e])];rfl
  ·have e1:x.at_=y.at_:=by simpa using e1
   apply hW.w (lI hE x.b y.b hb)
   conv=>lhs;whnf
   try(apply hW.q;exact rqc;conv=>lhs;whnf)
   apply hW.b<;>intro e2<;>conv=>lhs;whnf
   ·have e2:x.b≠y.b:=by simpa using e2
    rw[decide_eq_false fun e=>e2 (by rw[e])];rfl
   ·have e2:x.b=y.b:=by simpa using e2
    apply hW.w (aAn hE x.r y.r)
    conv=>lhs;whnf
    try(apply hW.q;exact rqc;conv=>lhs;whnf)
    apply hW.b<;>intro e3<;>conv=>lhs;whnf
    ·have e3:x.r≠y.r:=by simpa using e3
     rw[decide_eq_false fun e=>e3 (by rw[e])];rfl
    ·have e3:x.r=y.r:=by simpa using e3
     have:x=y:=by
      cases x;cases y;simp_all
     rw[decide_eq_true this];rfl
theorem aJT {E:Env} (hE:Sys E) {o o':Bool} (l m:List Put) (hb:xW (fun B=>Put.lim B) 1099511627776 l):E 203 [sv (l.map (Put.row o)),sv (m.map (Put.row o'))]=some ([bv (decide (l=m))],[]):=by
 obtain⟨h0,hb⟩:=hb
 refine hE.run rfl rfl fun W hW=>?_
 conv=>lhs;whnf
 apply hW.b<;>intro h<;>conv=>lhs;whnf
 ·have:l≠m:=by rintro rfl;simp[bys,bN]at h
  rw[decide_eq_false this];rfl
 ·have h:l.length=m.length:=by simp[bys,bN]at h;omega
  refine hW.loop (σ:=Nat) (γ:=Nat) (fun i s=>s.sl 5 (v1 (.t (.int .i64 i)))) (fun i n=>i=n∧n≤l.length) (fun n=>l.length-n) (fun n=>([bv (decide (l.drop n=m.drop n))],[])) 0 0 ?_ ?_ ?_ ?_
  ·intro K
   conv=>lhs;whnf
   conv=>rhs;whnf
   try rfl
  ·simp
  ·rintro kl n _ ⟨rfl,hn⟩ ih
   conv=>lhs;whnf
   apply hW.b<;>intro h2<;>conv=>lhs;whnf
   ·have h2:n<l.length:=by simpa[bys,bN] using h2
    rw[List.drop_eq_getElem_cons h2,List.drop_eq_getElem_cons (l:=m) (i:=n) (by omega)]
    repeat((first|apply hW.t|apply hW.f|(apply hW.q;exact rqc)|(refine hW.w (bR ?_) ?_;omega));conv=>lhs;whnf)
    apply hW.w (aMb hE l[n] m[n] (hb _ (List.getElem_mem h2)))
    conv=>lhs;whnf
    try(apply hW.q;exact rqc;conv=>lhs;whnf)
    apply hW.b<;>intro h3<;>conv=>lhs;whnf
    ·have h3:l[n]≠m[n]:=by simpa using h3
     rw[decide_eq_false fun e=>h3 (List.cons.inj e).1];rfl
    ·have h3:l[n]=m[n]:=by simpa using h3
     simp only[h3,List.cons.injEq,true_and]
     refine ih (n+1) (n+1) _ ?_ ⟨rfl,by omega⟩ (by omega)
     intro K
     conv=>lhs;whnf
     conv=>rhs;whnf
     try rfl
     rw[show IntKind.i64.wrap ((n:Int)+1)=_ from aH (by omega)]
   ·have:n=l.length:=by simp[bys,bN]at h2;omega
    subst this
    rw[List.drop_length,h,List.drop_length];rfl
  ·rfl
def Pkt.lim (B:Nat) (x:Pkt):Prop:=x.b.length≤B
theorem Pkt.lim_mono {B C:Nat} (h:B≤C) {x:Pkt} (hx:x.lim B):x.lim C:=by
 exact Nat.le_trans (id hx) h
def Pkt.sz (x:Pkt) (v0:Int):Int:=thn ((fun v=>eT v x.b.length) v0) fun v1=>v1
theorem Pkt.sz_rg {x:Pkt} {left:Int} (r0:rg left):rg (x.sz left):=by
 unfold Pkt.sz
 refine jD fun _=>?_
 exact(cP r0)
theorem Pkt.sz_ok {x:Pkt} {left:Int} (r0:rg left) (h:¬ x.sz left<0):x.lim 1048576:=by
 unfold Pkt.sz at h
 obtain⟨g0,h⟩:=iL h
 exact(jU r0 g0).1
theorem aFB {E:Env} (hE:Sys E) (x:Pkt) (left:Int) (hb:x.lim 140737488355328) (r0:rg left):E 10 [gv (x.cs aP),iv left]=some ([iv (x.sz left)],[]):=by
 unfold Pkt.sz
 refine hE.run rfl rfl fun W hW=>?_
 conv=>lhs;whnf
 apply hW.w (lG hE x.b (left) hb r0)
 conv=>lhs;whnf
 try(apply hW.q;exact rqc;conv=>lhs;whnf)
 have r1:rg (eT (left) x.b.length):=cP r0
 apply hW.b<;>intro g0<;>conv=>lhs;whnf
 ·rw[oI (by simpa using g0)];rfl
 ·rw[kN (by simpa using g0)]
  rfl
theorem aDp {E:Env} (hE:Sys E) {o:Bool} (l:List Pkt) (left:Int) (hb:xW (fun B=>Pkt.lim B) 140737488355328 l) (r0:rg left) :
 E 20 [sv (l.map (Pkt.row o)),iv left]=some ([iv (szS Pkt.sz l left)],[]):=by
 obtain⟨h0,hb⟩:=hb
 have hl:=aNj r0
 unfold szS
 refine hE.run rfl rfl fun W hW=>?_
 conv=>lhs;whnf
 have hw:IntKind.i64.wrap (left-((l.map (Pkt.row o)).length:Int))=left-l.length:=by rw[List.length_map];exact aG (by omega)
 apply hW.b<;>intro h<;>conv=>lhs;whnf
 ·rw[hw]at h
  have h:left-l.length<0:=by simpa using h
  have h1:eT left l.length = -1:=if_pos h
  rw[h1];rfl
 ·rw[hw]at h
  have h:¬ left-(l.length:Int)<0:=by simpa using h
  have h1:eT left l.length=left-l.length:=if_neg h
  rw[h1,kN h]
  refine hW.loop (σ:=Nat × Int) (γ:=Nat) (fun i s=>(s.sl 5 (v1 (.t (.int .i64 i.1)))).sl 1 (v1 (.t (.int .i64 i.2)))) (fun i n=>i.1=n∧n≤l.length∧0≤i.2∧rg i.2∧szL Pkt.sz (l.drop n) i.2=szL Pkt.sz l (left-l.length)) (fun n=>l.length-n) (fun _=>([iv (szL Pkt.sz l (left-l.length))],[])) (0,left-l.length) 0 ?_ ?_ ?_ ?_
  ·intro K
   conv=>lhs;whnf
   conv=>rhs;whnf
   try rfl
   rw[hw];rfl
  ·exact⟨rfl,by omega,by simpa using h,by rw[← h1];exact cP r0,rfl⟩
  ·rintro kl ⟨n,y⟩ _ ⟨rfl,hn,hy0,hy1,hy⟩ ih
   conv=>lhs;whnf
   apply hW.b<;>intro h2<;>conv=>lhs;whnf
   ·have h2:n<l.length:=by simpa using h2
    simp only at hy hn hy1 hy0
    rw[List.drop_eq_getElem_cons h2,szL]at hy
    repeat((first|apply hW.t|apply hW.f|(apply hW.q;exact rqc)|(refine hW.w (bR ?_) ?_;omega));conv=>lhs;whnf)
    apply hW.w (aFB hE l[n] y (hb _ (List.getElem_mem h2)) hy1)
    conv=>lhs;whnf
    try(apply hW.q;exact rqc;conv=>lhs;whnf)
    apply hW.b<;>intro h3<;>conv=>lhs;whnf
    ·have h3:l[n].sz y<0:=by simpa using h3
     rw[oI h3]at hy
     rw[← hy];rfl
    ·have h3:¬ l[n].sz y<0:=by simpa using h3
     rw[kN h3]at hy
     refine ih (n+1,l[n].sz y) (n+1) _ ?_ ⟨rfl,by omega,by simpa using h3,Pkt.sz_rg hy1,hy⟩ (by omega)
     intro K
     conv=>lhs;whnf
     conv=>rhs;whnf
     try rfl
     rw[show IntKind.i64.wrap ((n:Int)+1)=_ from aH (by omega)]
   ·have:n=l.length:=by simp at h2 hn;omega
    subst this
    rw[List.drop_length]at hy
    simp only[szL]at hy
    rw[← hy];rfl
  ·rfl
theorem aFC {E:Env} (hE:Sys E) (x:Pkt) (hb:x.lim 1048576):E 13 [gv (x.cs aP)]=some ([gv (x.cs dF)],[]):=by
 refine hE.run rfl rfl fun W hW=>?_
 conv=>lhs;whnf
 apply hW.w (lH hE x.b hb)
 conv=>lhs;whnf
 try(apply hW.q;exact rqc;conv=>lhs;whnf)
 rfl
theorem jV {E:Env} (hE:Sys E) {o:Bool} (l:List Pkt) (hb:xW (fun B=>Pkt.lim B) 1048576 l):E 21 [sv (l.map (Pkt.row o))]=some ([ov 3 (l.map (Pkt.row true))],[]):=by
 obtain⟨h0,hb⟩:=hb
 refine hE.run rfl rfl fun W hW=>?_
 conv=>lhs;whnf
 refine hW.q (by(simp[bys,bN]<;>omega)) ?_
 conv=>lhs;whnf
 refine hW.loop (σ:=Nat) (γ:=Nat) (fun i s=>(s.sl 4 (v1 (.t (.int .i64 i)))).bl ⟨700,3, .own,(l.take i).map (Pkt.row true)++List.replicate (l.length-i) [.int .i64 0, .int .i64 0, .sl true []]⟩) (fun i n=>i=n∧n≤l.length) (fun n=>l.length-n) (fun _=>([ov 3 (l.map (Pkt.row true))],[])) 0 0 ?_ ?_ ?_ ?_
 ·intro K
  conv=>lhs;whnf
  conv=>rhs;whnf
  try rfl
  simp[bys,bN]
 ·simp
 ·rintro kl n _ ⟨rfl,hn⟩ ih
  conv=>lhs;whnf
  apply hW.b<;>intro h2<;>conv=>lhs;whnf
  ·have h2:n<l.length:=by simpa[bys,bN] using h2
   repeat((first|apply hW.t|apply hW.f|(apply hW.q;exact rqc)|(refine hW.w (bR ?_) ?_;omega));conv=>lhs;whnf)
   apply hW.w (aFC hE l[n] (hb _ (List.getElem_mem h2)))
   conv=>lhs;whnf
   repeat((first|apply hW.t|apply hW.f|(apply hW.q;exact rqc)|(refine hW.w (bR ?_) ?_;omega));conv=>lhs;whnf)
   apply hW.w (dC h2 _)
   conv=>lhs;whnf
   repeat((first|apply hW.t|apply hW.f|(apply hW.q;exact rqc)|(refine hW.w (bR ?_) ?_;omega));conv=>lhs;whnf)
   apply hW.w (dC h2 _)
   conv=>lhs;whnf
   repeat((first|apply hW.t|apply hW.f|(apply hW.q;exact rqc)|(refine hW.w (bR ?_) ?_;omega));conv=>lhs;whnf)
   refine ih (n+1) (n+1) _ ?_ ⟨rfl,by omega⟩ (by omega)
   intro K
   conv=>lhs;whnf
   conv=>rhs;whnf
   try rfl
   rw[show IntKind.i64.wrap ((n:Int)+1)=_ from aH (by omega)]
   refine congrArg K (congrArg (St.mk _) (congrArg (List.cons _) (congrArg (fun x=>[Blk.mk (100*7) 3 .own x]) ?_)))
   exact iM (Pkt.row true) h2 _
  ·have:n=l.length:=by simp[bys,bN]at h2;omega
   subst this
   simp[List.take_length]
   rfl
 ·rfl
theorem aFD {E:Env} (hE:Sys E) (x y:Pkt) (hb:x.lim 1099511627776):E 19 [gv (x.cs aP),gv (y.cs aP)]=some ([bv (decide (x=y))],[]):=by
 refine hE.run rfl rfl fun W hW=>?_
 conv=>lhs;whnf
 repeat((first|apply hW.t|apply hW.f|(apply hW.q;exact rqc)|(refine hW.w (bR ?_) ?_;omega));conv=>lhs;whnf)
 apply hW.b<;>intro e0<;>conv=>lhs;whnf
 ·have e0:x.frm≠y.frm:=by simpa using e0
  rw[decide_eq_false fun e=>e0 (by rw[e])];rfl
 ·have e0:x.frm=y.frm:=by simpa using e0
  repeat((first|apply hW.t|apply hW.f|(apply hW.q;exact rqc)|(refine hW.w (bR ?_) ?_;omega));conv=>lhs;whnf)
  apply hW.b<;>intro e1<;>conv=>lhs;whnf
  ·have e1:x.to≠y.to:=by simpa using e1
   rw[decide_eq_false fun e=>e1 (by rw[e])];rfl
  ·have e1:x.to=y.to:=by simpa using e1
   apply hW.w (lI hE x.b y.b hb)
   conv=>lhs;whnf
   try(apply hW.q;exact rqc;conv=>lhs;whnf)
   apply hW.b<;>intro e2<;>conv=>lhs;whnf
   ·have e2:x.b≠y.b:=by simpa using e2
    rw[decide_eq_false fun e=>e2 (by rw[e])];rfl
   ·have e2:x.b=y.b:=by simpa using e2
    have:x=y:=by
     cases x;cases y;simp_all
    rw[decide_eq_true this];rfl
theorem vR {E:Env} (hE:Sys E) {o o':Bool} (l m:List Pkt) (hb:xW (fun B=>Pkt.lim B) 1099511627776 l):E 24 [sv (l.map (Pkt.row o)),sv (m.map (Pkt.row o'))]=some ([bv (decide (l=m))],[]):=by
 obtain⟨h0,hb⟩:=hb
 refine hE.run rfl rfl fun W hW=>?_
 conv=>lhs;whnf
 apply hW.b<;>intro h<;>conv=>lhs;whnf
 ·have:l≠m:=by rintro rfl;simp[bys,bN]at h
  rw[decide_eq_false this];rfl
 ·have h:l.length=m.length:=by simp[bys,bN]at h;omega
  refine hW.loop (σ:=Nat) (γ:=Nat) (fun i s=>s.sl 5 (v1 (.t (.int .i64 i)))) (fun i n=>i=n∧n≤l.length) (fun n=>l.length-n) (fun n=>([bv (decide (l.drop n=m.drop n))],[])) 0 0 ?_ ?_ ?_ ?_
  ·intro K
   conv=>lhs;whnf
   conv=>rhs;whnf
   try rfl
  ·simp
  ·rintro kl n _ ⟨rfl,hn⟩ ih
   conv=>lhs;whnf
   apply hW.b<;>intro h2<;>conv=>lhs;whnf
   ·have h2:n<l.length:=by simpa[bys,bN] using h2
    rw[List.drop_eq_getElem_cons h2,List.drop_eq_getElem_cons (l:=m) (i:=n) (by omega)]
    repeat((first|apply hW.t|apply hW.f|(apply hW.q;exact rqc)|(refine hW.w (bR ?_) ?_;omega));conv=>lhs;whnf)
    apply hW.w (aFD hE l[n] m[n] (hb _ (List.getElem_mem h2)))
    conv=>lhs;whnf
    try(apply hW.q;exact rqc;conv=>lhs;whnf)
    apply hW.b<;>intro h3<;>conv=>lhs;whnf
    ·have h3:l[n]≠m[n]:=by simpa using h3
     rw[decide_eq_false fun e=>h3 (List.cons.inj e).1];rfl
    ·have h3:l[n]=m[n]:=by simpa using h3
     simp only[h3,List.cons.injEq,true_and]
     refine ih (n+1) (n+1) _ ?_ ⟨rfl,by omega⟩ (by omega)
     intro K
     conv=>lhs;whnf
     conv=>rhs;whnf
     try rfl
     rw[show IntKind.i64.wrap ((n:Int)+1)=_ from aH (by omega)]
   ·have:n=l.length:=by simp[bys,bN]at h2;omega
    subst this
    rw[List.drop_length,h,List.drop_length];rfl
  ·rfl
def Image.lim (B:Nat) (x:Image):Prop:=x.b.length≤B
def Image.sz (x:Image) (v0:Int):Int:=thn ((fun v=>eT v x.b.length) v0) fun v1=>v1
def Tree.lim (B:Nat) (x:Tree):Prop:=x.up.length≤B
theorem Tree.lim_mono {B C:Nat} (h:B≤C) {x:Tree} (hx:x.lim B):x.lim C:=by
 exact Nat.le_trans (id hx) h
def Tree.sz (x:Tree) (v0:Int):Int:=thn ((fun v=>eT v x.up.length) v0) fun v1=>v1
theorem Tree.sz_rg {x:Tree} {left:Int} (r0:rg left):rg (x.sz left):=by
 unfold Tree.sz
 refine jD fun _=>?_
 exact(cP r0)
theorem Tree.sz_ok {x:Tree} {left:Int} (r0:rg left) (h:¬ x.sz left<0):x.lim 1048576:=by
 unfold Tree.sz at h
 obtain⟨g0,h⟩:=iL h
 exact(jU r0 g0).1
theorem aJU {E:Env} (hE:Sys E) (x:Tree) (left:Int) (hb:x.lim 140737488355328) (r0:rg left):E 136 [gv (x.cs aP),iv left]=some ([iv (x.sz left)],[]):=by
 unfold Tree.sz
 refine hE.run rfl rfl fun W hW=>?_
 conv=>lhs;whnf
 apply hW.w (aJI hE x.up (left) hb r0)
 conv=>lhs;whnf
 try(apply hW.q;exact rqc;conv=>lhs;whnf)
 have r1:rg (eT (left) x.up.length):=cP r0
 apply hW.b<;>intro g0<;>conv=>lhs;whnf
 ·rw[oI (by simpa using g0)];rfl
 ·rw[kN (by simpa using g0)]
  rfl
theorem uG {E:Env} (hE:Sys E) (x:Tree) (hb:x.lim 1048576):E 137 [gv (x.cs aP)]=some ([gv (x.cs dF)],[]):=by
 refine hE.run rfl rfl fun W hW=>?_
 conv=>lhs;whnf
 apply hW.w (aJJ hE x.up hb)
 conv=>lhs;whnf
 try(apply hW.q;exact rqc;conv=>lhs;whnf)
 rfl
theorem aJV {E:Env} (hE:Sys E) (x y:Tree) (hb:x.lim 1099511627776):E 140 [gv (x.cs aP),gv (y.cs aP)]=some ([bv (decide (x=y))],[]):=by
 refine hE.run rfl rfl fun W hW=>?_
 conv=>lhs;whnf
 apply hW.w (aJK hE x.up y.up hb)
 conv=>lhs;whnf
 try(apply hW.q;exact rqc;conv=>lhs;whnf)
 apply hW.b<;>intro e0<;>conv=>lhs;whnf
 ·have e0:x.up≠y.up:=by simpa using e0
  rw[decide_eq_false fun e=>e0 (by rw[e])];rfl
 ·have e0:x.up=y.up:=by simpa using e0
  have:x=y:=by
   cases x;cases y;simp_all
  rw[decide_eq_true this];rfl
def Disk.lim (B:Nat) (x:Disk):Prop:=x.a.length≤B∧x.b.length≤B∧xW (fun B=>Put.lim B) B x.p
theorem Disk.lim_mono {B C:Nat} (h:B≤C) {x:Disk} (hx:x.lim B):x.lim C:=by
 obtain⟨h0,h1,h2⟩:=hx
 exact⟨Nat.le_trans h0 h,Nat.le_trans h1 h,lF (fun x hx=>Put.lim_mono h hx) h h2⟩
def Disk.sz (x:Disk) (v0:Int):Int:=thn ((fun v=>eT v x.a.length) v0) fun v1=>thn ((fun v=>eT v x.b.length) v1) fun v2=>thn (szS Put.sz x.p v2) fun v3=>v3
theorem Disk.sz_rg {x:Disk} {left:Int} (r0:rg left):rg (x.sz left):=by
 unfold Disk.sz
 refine jD fun _=>?_
 refine jD fun _=>?_
 refine jD fun _=>?_
 exact(aHv (fun _ _=>Put.sz_rg) (cP (cP r0)))
theorem Disk.sz_ok {x:Disk} {left:Int} (r0:rg left) (h:¬ x.sz left<0):x.lim 1048576:=by
 unfold Disk.sz at h
 obtain⟨g0,h⟩:=iL h
 obtain⟨g1,h⟩:=iL h
 obtain⟨g2,h⟩:=iL h
 exact⟨(jU r0 g0).1,(jU (cP r0) g1).1,aK1 (fun _ _=>Put.sz_rg) (fun _ _=>Put.sz_ok) (cP (cP r0)) g2⟩
theorem aJW {E:Env} (hE:Sys E) {o:Bool} (x:Disk) (left:Int) (hb:x.lim 140737488355328) (r0:rg left):E 166 [gv (x.cs aP o),iv left]=some ([iv (x.sz left)],[]):=by
 obtain⟨h0,h1,h2⟩:=hb
 unfold Disk.sz
 refine hE.run rfl rfl fun W hW=>?_
 conv=>lhs;whnf
 apply hW.w (lG hE x.a (left) h0 r0)
 conv=>lhs;whnf
 try(apply hW.q;exact rqc;conv=>lhs;whnf)
 have r1:rg (eT (left) x.a.length):=cP r0
 apply hW.b<;>intro g0<;>conv=>lhs;whnf
 ·rw[oI (by simpa using g0)];rfl
 ·rw[kN (by simpa using g0)]
  apply hW.w (lG hE x.b (eT (left) x.a.length) h1 r1)
  conv=>lhs;whnf
  try(apply hW.q;exact rqc;conv=>lhs;whnf)
  have r2:rg (eT (eT (left) x.a.length) x.b.length):=cP r1
  apply hW.b<;>intro g1<;>conv=>lhs;whnf
  ·rw[oI (by simpa using g1)];rfl
  ·rw[kN (by simpa using g1)]
   apply hW.w (aJR hE x.p (eT (eT (left) x.a.length) x.b.length) h2 r2)
   conv=>lhs;whnf
   try(apply hW.q;exact rqc;conv=>lhs;whnf)
   have r3:rg (szS Put.sz x.p (eT (eT (left) x.a.length) x.b.length)):=aHv (fun _ _=>Put.sz_rg) r2
   apply hW.b<;>intro g2<;>conv=>lhs;whnf
   ·rw[oI (by simpa using g2)];rfl
   ·rw[kN (by simpa using g2)]
    rfl
theorem uH {E:Env} (hE:Sys E) {o:Bool} (x:Disk) (hb:x.lim 1048576):E 167 [gv (x.cs aP o)]=some ([gv (x.cs dF true)],[]):=by
 obtain⟨h0,h1,h2⟩:=hb
 refine hE.run rfl rfl fun W hW=>?_
 conv=>lhs;whnf
 apply hW.w (lH hE x.a h0)
 conv=>lhs;whnf
 try(apply hW.q;exact rqc;conv=>lhs;whnf)
 apply hW.w (lH hE x.b h1)
 conv=>lhs;whnf
 try(apply hW.q;exact rqc;conv=>lhs;whnf)
 apply hW.w (aAm hE x.r)
 conv=>lhs;whnf
 try(apply hW.q;exact rqc;conv=>lhs;whnf)
 apply hW.w (aJS hE x.p h2)
 conv=>lhs;whnf
 try(apply hW.q;exact rqc;conv=>lhs;whnf)
 rfl
theorem aJX {E:Env} (hE:Sys E) {o o':Bool} (x y:Disk) (hb:x.lim 1099511627776):E 170 [gv (x.cs aP o),gv (y.cs aP o')]=some ([bv (decide (x=y))],[]):=by
 obtain⟨h0,h1,h2⟩:=hb
 refine hE.run rfl rfl fun W hW=>?_
 conv=>lhs;whnf
 apply hW.w (lI hE x.a y.a h0)
 conv=>lhs;whnf
 try(apply hW.q;exact rqc;conv=>lhs;whnf)
 apply hW.b<;>intro e0<;>conv=>lhs;whnf
 ·have e0:x.a≠y.a:=by simpa using e0
  rw[decide_eq_false fun e=>e0 (by rw[e])];rfl
 ·have e0:x.a=y.a:=by simpa using e0
  apply hW.w (lI hE x.b y.b h1)
  conv=>lhs;whnf
  try(apply hW.q;exact rqc;conv=>lhs;whnf)
  apply hW.b<;>intro e1<;>conv=>lhs;whnf
  ·have e1:x.b≠y.b:=by simpa using e1
   rw[decide_eq_false fun e=>e1 (by rw[e])];rfl
  ·have e1:x.b=y.b:=by simpa using e1
   apply hW.w (aAn hE x.r y.r)
   conv=>lhs;whnf
   try(apply hW.q;exact rqc;conv=>lhs;whnf)
   apply hW.b<;>intro e2<;>conv=>lhs;whnf
   ·have e2:x.r≠y.r:=by simpa using e2
    rw[decide_eq_false fun e=>e2 (by rw[e])];rfl
   ·have e2:x.r=y.r:=by simpa using e2
    apply hW.w (aJT hE x.p y.p h2)
    conv=>lhs;whnf
    try(apply hW.q;exact rqc;conv=>lhs;whnf)
    apply hW.b<;>intro e3<;>conv=>lhs;whnf
    ·have e3:x.p≠y.p:=by simpa using e3
     rw[decide_eq_false fun e=>e3 (by rw[e])];rfl
    ·have e3:x.p=y.p:=by simpa using e3
     have:x=y:=by
      cases x;cases y;simp_all
     rw[decide_eq_true this];rfl
def Msg.lim (B:Nat) (x:Msg):Prop:=x.man.lim B∧x.b.length≤B
def Msg.sz (x:Msg) (v0:Int):Int:=thn (Man.sz x.man v0) fun v1=>thn ((fun v=>eT v x.b.length) v1) fun v2=>v2
def Node.lim (B:Nat) (x:Node):Prop:=x.man.lim B∧x.bld.lim B∧x.kids.length≤B
theorem Node.lim_mono {B C:Nat} (h:B≤C) {x:Node} (hx:x.lim B):x.lim C:=by
 obtain⟨h0,h1,h2⟩:=hx
 exact⟨Man.lim_mono h h0,Bld.lim_mono h h1,Nat.le_trans h2 h⟩
def Node.sz (x:Node) (v0:Int):Int:=thn (Man.sz x.man v0) fun v1=>thn (Bld.sz x.bld v1) fun v2=>thn ((fun v=>eT v x.kids.length) v2) fun v3=>v3
theorem Node.sz_rg {x:Node} {left:Int} (r0:rg left):rg (x.sz left):=by
 unfold Node.sz
 refine jD fun _=>?_
 refine jD fun _=>?_
 refine jD fun _=>?_
 exact(cP (Bld.sz_rg (Man.sz_rg r0)))
theorem Node.sz_ok {x:Node} {left:Int} (r0:rg left) (h:¬ x.sz left<0):x.lim 1048576:=by
 unfold Node.sz at h
 obtain⟨g0,h⟩:=iL h
 obtain⟨g1,h⟩:=iL h
 obtain⟨g2,h⟩:=iL h
 exact⟨Man.sz_ok r0 g0,Bld.sz_ok (Man.sz_rg r0) g1,(jU (Bld.sz_rg (Man.sz_rg r0)) g2).1⟩
theorem aJY {E:Env} (hE:Sys E) (x:Node) (left:Int) (hb:x.lim 140737488355328) (r0:rg left):E 64 [gv (x.cs aP),iv left]=some ([iv (x.sz left)],[]):=by
 obtain⟨h0,h1,h2⟩:=hb
 unfold Node.sz
 refine hE.run rfl rfl fun W hW=>?_
 conv=>lhs;whnf
 apply hW.w (aCj hE x.man (left) h0 r0)
 conv=>lhs;whnf
 try(apply hW.q;exact rqc;conv=>lhs;whnf)
 have r1:rg (Man.sz x.man (left)):=Man.sz_rg r0
 apply hW.b<;>intro g0<;>conv=>lhs;whnf
 ·rw[oI (by simpa using g0)];rfl
 ·rw[kN (by simpa using g0)]
  apply hW.w (aHw hE x.bld (Man.sz x.man (left)) h1 r1)
  conv=>lhs;whnf
  try(apply hW.q;exact rqc;conv=>lhs;whnf)
  have r2:rg (Bld.sz x.bld (Man.sz x.man (left))):=Bld.sz_rg r1
  apply hW.b<;>intro g1<;>conv=>lhs;whnf
  ·rw[oI (by simpa using g1)];rfl
  ·rw[kN (by simpa using g1)]
   apply hW.w (aJO hE x.kids (Bld.sz x.bld (Man.sz x.man (left))) h2 r2)
   conv=>lhs;whnf
   try(apply hW.q;exact rqc;conv=>lhs;whnf)
   have r3:rg (eT (Bld.sz x.bld (Man.sz x.man (left))) x.kids.length):=cP r2
   apply hW.b<;>intro g2<;>conv=>lhs;whnf
   ·rw[oI (by simpa using g2)];rfl
   ·rw[kN (by simpa using g2)]
    rfl
theorem uI {E:Env} (hE:Sys E) (x:Node) (hb:x.lim 1048576):E 65 [gv (x.cs aP)]=some ([gv (x.cs dF)],[]):=by
 obtain⟨h0,h1,h2⟩:=hb
 refine hE.run rfl rfl fun W hW=>?_
 conv=>lhs;whnf
 apply hW.w (aCk hE x.man h0)
 conv=>lhs;whnf
 try(apply hW.q;exact rqc;conv=>lhs;whnf)
 apply hW.w (aHx hE x.bld h1)
 conv=>lhs;whnf
 try(apply hW.q;exact rqc;conv=>lhs;whnf)
 apply hW.w (aJP hE x.kids h2)
 conv=>lhs;whnf
 try(apply hW.q;exact rqc;conv=>lhs;whnf)
 rfl
theorem aEz {E:Env} (hE:Sys E) (x y:Node) (hb:x.lim 1099511627776):E 68 [gv (x.cs aP),gv (y.cs aP)]=some ([bv (decide (x=y))],[]):=by
 obtain⟨h0,h1,h2⟩:=hb
 refine hE.run rfl rfl fun W hW=>?_
 conv=>lhs;whnf
 repeat((first|apply hW.t|apply hW.f|(apply hW.q;exact rqc)|(refine hW.w (bR ?_) ?_;omega));conv=>lhs;whnf)
 apply hW.b<;>intro e0<;>conv=>lhs;whnf
 ·have e0:x.on≠y.on:=by simpa using e0
  rw[decide_eq_false fun e=>e0 (by rw[e])];rfl
 ·have e0:x.on=y.on:=by simpa using e0
  repeat((first|apply hW.t|apply hW.f|(apply hW.q;exact rqc)|(refine hW.w (bR ?_) ?_;omega));conv=>lhs;whnf)
  apply hW.b<;>intro e1<;>conv=>lhs;whnf
  ·have e1:x.boss≠y.boss:=by simpa using e1
   rw[decide_eq_false fun e=>e1 (by rw[e])];rfl
  ·have e1:x.boss=y.boss:=by simpa using e1
   repeat((first|apply hW.t|apply hW.f|(apply hW.q;exact rqc)|(refine hW.w (bR ?_) ?_;omega));conv=>lhs;whnf)
   apply hW.b<;>intro e2<;>conv=>lhs;whnf
   ·have e2:x.quiet≠y.quiet:=by simpa using e2
    rw[decide_eq_false fun e=>e2 (by rw[e])];rfl
   ·have e2:x.quiet=y.quiet:=by simpa using e2
    apply hW.w (aCl hE x.man y.man h0)
    conv=>lhs;whnf
    try(apply hW.q;exact rqc;conv=>lhs;whnf)
    apply hW.b<;>intro e3<;>conv=>lhs;whnf
    ·have e3:x.man≠y.man:=by simpa using e3
     rw[decide_eq_false fun e=>e3 (by rw[e])];rfl
    ·have e3:x.man=y.man:=by simpa using e3
     apply hW.w (aHy hE x.bld y.bld h1)
     conv=>lhs;whnf
     try(apply hW.q;exact rqc;conv=>lhs;whnf)
     apply hW.b<;>intro e4<;>conv=>lhs;whnf
     ·have e4:x.bld≠y.bld:=by simpa using e4
      rw[decide_eq_false fun e=>e4 (by rw[e])];rfl
     ·have e4:x.bld=y.bld:=by simpa using e4
      repeat((first|apply hW.t|apply hW.f|(apply hW.q;exact rqc)|(refine hW.w (bR ?_) ?_;omega));conv=>lhs;whnf)
      apply hW.b<;>intro e5<;>conv=>lhs;whnf
      ·have e5:x.phase≠y.phase:=by simpa using e5
       rw[decide_eq_false fun e=>e5 (by rw[e])];rfl
      ·have e5:x.phase=y.phase:=by simpa using e5
       apply hW.w (aJQ hE x.kids y.kids h2)
       conv=>lhs;whnf
       try(apply hW.q;exact rqc;conv=>lhs;whnf)
       apply hW.b<;>intro e6<;>conv=>lhs;whnf
       ·have e6:x.kids≠y.kids:=by simpa using e6
        rw[decide_eq_false fun e=>e6 (by rw[e])];rfl
       ·have e6:x.kids=y.kids:=by simpa using e6
        repeat((first|apply hW.t|apply hW.f|(apply hW.q;exact rqc)|(refine hW.w (bR ?_) ?_;omega));conv=>lhs;whnf)
        apply hW.b<;>intro e7<;>conv=>lhs;whnf
        ·have e7:x.drops≠y.drops:=by simpa using e7
         rw[decide_eq_false fun e=>e7 (by rw[e])];rfl
        ·have e7:x.drops=y.drops:=by simpa using e7
         have:x=y:=by
          cases x;cases y;simp_all
         rw[decide_eq_true this];rfl
def Actn.lim (B:Nat) (x:Actn):Prop:=x.n.lim B∧xW (fun B=>Pkt.lim B) B x.out
def Actn.sz (x:Actn) (v0:Int):Int:=thn (Node.sz x.n v0) fun v1=>thn (szS Pkt.sz x.out v1) fun v2=>v2
theorem aDq {E:Env} (hE:Sys E) {o o':Bool} (x y:Actn) (hb:x.lim 1099511627776):E 427 [gv (x.cs aP o),gv (y.cs aP o')]=some ([bv (decide (x=y))],[]):=by
 obtain⟨h0,h1⟩:=hb
 refine hE.run rfl rfl fun W hW=>?_
 conv=>lhs;whnf
 apply hW.w (aEz hE x.n y.n h0)
 conv=>lhs;whnf
 try(apply hW.q;exact rqc;conv=>lhs;whnf)
 apply hW.b<;>intro e0<;>conv=>lhs;whnf
 ·have e0:x.n≠y.n:=by simpa using e0
  rw[decide_eq_false fun e=>e0 (by rw[e])];rfl
 ·have e0:x.n=y.n:=by simpa using e0
  apply hW.w (vR hE x.out y.out h1)
  conv=>lhs;whnf
  try(apply hW.q;exact rqc;conv=>lhs;whnf)
  apply hW.b<;>intro e1<;>conv=>lhs;whnf
  ·have e1:x.out≠y.out:=by simpa using e1
   rw[decide_eq_false fun e=>e1 (by rw[e])];rfl
  ·have e1:x.out=y.out:=by simpa using e1
   have:x=y:=by
    cases x;cases y;simp_all
   rw[decide_eq_true this];rfl
def Beat.lim (B:Nat) (x:Beat):Prop:=x.n.lim B∧x.d.lim B∧xW (fun B=>Pkt.lim B) B x.out
def Beat.sz (x:Beat) (v0:Int):Int:=thn (Node.sz x.n v0) fun v1=>thn (Disk.sz x.d v1) fun v2=>thn (szS Pkt.sz x.out v2) fun v3=>v3
def World.lim (B:Nat) (x:World):Prop:=x.t.lim B∧x.new.length≤B∧xW (fun B=>Image.lim B) B x.old∧xW (fun B=>Node.lim B) B x.n∧xW (fun B=>Disk.lim B) B x.d∧xW (fun B=>Pkt.lim B) B x.net∧x.log.length≤B
def World.sz (x:World) (v0:Int):Int:=thn (Tree.sz x.t v0) fun v1=>thn ((fun v=>eT v x.new.length) v1) fun v2=>thn (szS Image.sz x.old v2) fun v3=>thn (szS Node.sz x.n v3) fun v4=>thn (szS Disk.sz x.d v4) fun v5=>thn (szS Pkt.sz x.net v5) fun v6=>thn ((fun v=>eT v x.log.length) v6) fun v7=>v7
theorem gA {α:Type} {c:α→Nat} (h:∀ x,1≤c x) {l:List α}:l.length≤aJ c l:=by
 induction l with
 |nil=>simp[aJ]
 |cons x r ih=>have:=h x;simp only[aJ,List.length_cons];omega
theorem mL {α:Type} {f:α→List T} {M l:List α} {n:Nat} {e:List T} (h:M.length=l.length) (hn:n<l.length) (he:f (M[n]'(by omega))=e):(mix f M l n).set n e=mix f M l (n+1):=by
 rw[← he];exact aL3 h hn
theorem gL {α:Type} {c:α→Nat} {l:List α} {B m:Nat} (h:l.length≤B) (hc:∀ x∈l,c x≤m):aJ c l≤B*m:=by
 have:aJ c l≤l.length*m:=by
  clear h
  induction l with
  |nil=>simp[aJ]
  |cons x r ih =>
   have h1:=ih fun y hy=>hc y (by simp[hy])
   have h2:=hc x (by simp)
   simp only[aJ,List.length_cons,Nat.succ_mul];omega
 exact Nat.le_trans this (Nat.mul_le_mul_right m h)
theorem bL {L:List (List T)} {n:Nat} {e e':List T} (he:e=e') (h:n<L.length):(L.set n e)[n]?=some e':=by rw[← he];exact aL4 h
theorem iC {E:Env} (hE:Sys E) {zz:Nat} (l:List UInt8) (k:Int) (h0:0≤k) (hk:k+aJ (fun _=>1) l≤4611686018427387904):E 47 [ov zz (bys l),iv k]=some ([iv (k+aJ (fun _=>1) l)],[.own zz (bys (dD (fun k _=>cD k) (fun _=>1) k l))]):=by
 have hM:(dD (fun k _=>cD k) (fun _=>1) k l).length=l.length:=fA
 have hl:l.length≤aJ (fun _=>1) l:=gA fun _=>by omega
 refine hE.run rfl rfl fun W hW=>?_
 conv=>lhs;whnf
 refine hW.loop (σ:=Nat) (γ:=Nat) (fun i s=>((s.sl 5 (v1 (.t (.int .i64 i)))).sl 1 (v1 (.t (.int .i64 (k+(aJ (fun _=>1) (l.take i):Nat)))))).bl ⟨0,zz, .fix,mix mX (dD (fun k _=>cD k) (fun _=>1) k l) l i⟩) (fun i n=>i=n∧n≤l.length) (fun n=>l.length-n) (fun _=>([iv (k+aJ (fun _=>1) l)],[.own zz (bys (dD (fun k _=>cD k) (fun _=>1) k l))])) 0 0 ?_ ?_ ?_ ?_
 ·intro K
  conv=>lhs;whnf
  conv=>rhs;whnf
  try rfl
  simp[mK,aJ,bys,bN]
 ·simp
 ·rintro kl n _ ⟨rfl,hn⟩ ih
  conv=>lhs;whnf
  have hml:=rF (f:=mX) hM (n:=n)
  apply hW.b<;>intro h2<;>conv=>lhs;whnf
  ·have h2:n<l.length:=by simpa[hml] using h2
   have hc:=eJ (c:=(fun _=>1)) h2
   have hle:=iT (c:=(fun _=>1)) (l:=l) (n:=n+1)
   try simp only[true_and]at hc
   have hk1:k+(aJ (fun _=>1) (l.take (n+1)):Nat)=k+(aJ (fun _=>1) (l.take n):Nat)+1:=by rw[hc];push_cast;omega
   repeat((first|apply hW.t|apply hW.f|(apply hW.q;exact rqc)|(refine hW.w (bR ?_) ?_;omega));conv=>lhs;whnf)
   apply hW.w (gK hM h2);conv=>lhs;whnf
   repeat((first|apply hW.t|apply hW.f|(apply hW.q;exact rqc));conv=>lhs;whnf)
   apply hW.w (gK hM h2);conv=>lhs;whnf
   repeat((first|apply hW.t|apply hW.f|(apply hW.q;exact rqc));conv=>lhs;whnf)
   refine ih (n+1) (n+1) _ ?_ ⟨rfl,by omega⟩ (by omega)
   intro K
   conv=>lhs;whnf
   conv=>rhs;whnf
   try rfl
   rw[show IntKind.i64.wrap (k+(aJ (fun _=>1) (l.take n):Nat)+1)=k+(aJ (fun _=>1) (l.take n):Nat)+1 from aG (by omega)]
   rw[show IntKind.i64.wrap ((n:Int)+1)=_ from aH (by omega),hk1]
   refine congrArg K (congrArg (St.mk _) (congrArg (fun x=>[Blk.mk 0 zz .fix x]) ?_))
   simp only[Int.toNat_natCast,List.set_set]
   exact mL hM h2 (by rw[fZ h2];first|rfl|(simp only[mX,dQ];rfl))
  ·have:n=l.length:=by simp[hml]at h2;omega
   subst this
   simp only[List.take_length,rG hM];rfl
 ·rfl
theorem vS {E:Env} (hE:Sys E) (l:List UInt8) (k:Int) (h0:0≤k) (hk:k+aJ (fun _=>1) l≤4611686018427387904):E 48 [sv (bys (dD (fun k _=>cD k) (fun _=>1) k l)),iv k]=some ([iv (k+aJ (fun _=>1) l)],[]):=by
 have hM:(dD (fun k _=>cD k) (fun _=>1) k l).length=l.length:=fA
 have hrl:(bys (dD (fun k _=>cD k) (fun _=>1) k l)).length=l.length:=by simp[bys,bN,hM]
 have hget:∀ (n:Nat) (h:n<l.length),(bys (dD (fun k _=>cD k) (fun _=>1) k l))[(n:Int).toNat]?=some (mX ((fun k _=>cD k) (k+(aJ (fun _=>1) (l.take n):Nat)) l[n])):=by
  intro n h
  have:=bR (f:=mX) (l:=dD (fun k _=>cD k) (fun _=>1) k l) (n:=n) (by omega)
  rw[fZ h]at this
  exact this
 have hl:l.length≤aJ (fun _=>1) l:=gA fun _=>by omega
 refine hE.run rfl rfl fun W hW=>?_
 conv=>lhs;whnf
 refine hW.loop (σ:=Nat) (γ:=Nat) (fun i s=>((s.sl 5 (v1 (.t (.int .i64 i)))).sl 1 (v1 (.t (.int .i64 (k+(aJ (fun _=>1) (l.take i):Nat))))))) (fun i n=>i=n∧n≤l.length) (fun n=>l.length-n) (fun _=>([iv (k+aJ (fun _=>1) l)],[])) 0 0 ?_ ?_ ?_ ?_
 ·intro K
  conv=>lhs;whnf
  conv=>rhs;whnf
  try rfl
  simp[aJ]
 ·simp
 ·rintro kl n _ ⟨rfl,hn⟩ ih
  conv=>lhs;whnf
  apply hW.b<;>intro h2<;>conv=>lhs;whnf
  ·have h2:n<l.length:=by simpa[hrl] using h2
   have hc:=eJ (c:=(fun _=>1)) h2
   have hle:=iT (c:=(fun _=>1)) (l:=l) (n:=n+1)
   try simp only[true_and]at hc
   have hk1:k+(aJ (fun _=>1) (l.take (n+1)):Nat)=k+(aJ (fun _=>1) (l.take n):Nat)+1:=by rw[hc];push_cast;omega
   repeat((first|apply hW.t|apply hW.f|(apply hW.q;exact rqc));conv=>lhs;whnf)
   (apply hW.w (hget n h2);conv=>lhs;whnf)
   repeat((first|apply hW.t|apply hW.f|(apply hW.q;exact rqc));conv=>lhs;whnf)
   apply hW.bf (by simp[dQ])
   conv=>lhs;whnf
   refine ih (n+1) (n+1) _ ?_ ⟨rfl,by omega⟩ (by omega)
   intro K
   conv=>lhs;whnf
   conv=>rhs;whnf
   try rfl
   rw[show IntKind.i64.wrap (k+(aJ (fun _=>1) (l.take n):Nat)+1)=k+(aJ (fun _=>1) (l.take n):Nat)+1 from aG (by omega)]
   rw[show IntKind.i64.wrap ((n:Int)+1)=_ from aH (by omega),hk1]
  ·have:n=l.length:=by simp[hrl]at h2;omega
   subst this
   simp only[List.take_length];rfl
 ·rfl
theorem aFE {E:Env} (hE:Sys E) {zz:Nat} (l:List Int) (k:Int) (h0:0≤k) (hk:k+aJ (fun _=>1) l≤4611686018427387904):E 148 [ov zz (bN l),iv k]=some ([iv (k+aJ (fun _=>1) l)],[.own zz (bN (dD (fun k _=>k) (fun _=>1) k l))]):=by
 have hM:(dD (fun k _=>k) (fun _=>1) k l).length=l.length:=fA
 have hl:l.length≤aJ (fun _=>1) l:=gA fun _=>by omega
 refine hE.run rfl rfl fun W hW=>?_
 conv=>lhs;whnf
 refine hW.loop (σ:=Nat) (γ:=Nat) (fun i s=>((s.sl 5 (v1 (.t (.int .i64 i)))).sl 1 (v1 (.t (.int .i64 (k+(aJ (fun _=>1) (l.take i):Nat)))))).bl ⟨0,zz, .fix,mix qQ (dD (fun k _=>k) (fun _=>1) k l) l i⟩) (fun i n=>i=n∧n≤l.length) (fun n=>l.length-n) (fun _=>([iv (k+aJ (fun _=>1) l)],[.own zz (bN (dD (fun k _=>k) (fun _=>1) k l))])) 0 0 ?_ ?_ ?_ ?_
 ·intro K
  conv=>lhs;whnf
  conv=>rhs;whnf
  try rfl
  simp[mK,aJ,bys,bN]
 ·simp
 ·rintro kl n _ ⟨rfl,hn⟩ ih
  conv=>lhs;whnf
  have hml:=rF (f:=qQ) hM (n:=n)
  apply hW.b<;>intro h2<;>conv=>lhs;whnf
  ·have h2:n<l.length:=by simpa[hml] using h2
   have hc:=eJ (c:=(fun _=>1)) h2
   have hle:=iT (c:=(fun _=>1)) (l:=l) (n:=n+1)
   try simp only[true_and]at hc
   have hk1:k+(aJ (fun _=>1) (l.take (n+1)):Nat)=k+(aJ (fun _=>1) (l.take n):Nat)+1:=by rw[hc];push_cast;omega
   repeat((first|apply hW.t|apply hW.f|(apply hW.q;exact rqc)|(refine hW.w (bR ?_) ?_;omega));conv=>lhs;whnf)
   apply hW.w (gK hM h2);conv=>lhs;whnf
   repeat((first|apply hW.t|apply hW.f|(apply hW.q;exact rqc));conv=>lhs;whnf)
   apply hW.w (gK hM h2);conv=>lhs;whnf
   repeat((first|apply hW.t|apply hW.f|(apply hW.q;exact rqc));conv=>lhs;whnf)
   refine ih (n+1) (n+1) _ ?_ ⟨rfl,by omega⟩ (by omega)
   intro K
   conv=>lhs;whnf
   conv=>rhs;whnf
   try rfl
   rw[show IntKind.i64.wrap (k+(aJ (fun _=>1) (l.take n):Nat)+1)=k+(aJ (fun _=>1) (l.take n):Nat)+1 from aG (by omega)]
   rw[show IntKind.i64.wrap ((n:Int)+1)=_ from aH (by omega),hk1]
   refine congrArg K (congrArg (St.mk _) (congrArg (fun x=>[Blk.mk 0 zz .fix x]) ?_))
   simp only[Int.toNat_natCast,List.set_set]
   exact mL hM h2 (by rw[fZ h2];first|rfl|(simp only[mX,dQ];rfl))
  ·have:n=l.length:=by simp[hml]at h2;omega
   subst this
   simp only[List.take_length,rG hM];rfl
 ·rfl
def Sum.mrkE (k:Int) (_:Sum):Sum:=⟨k,k+1⟩
def Sum.cntE (_:Sum):Nat:=0+1+1
theorem aFF {E:Env} (hE:Sys E) {zz:Nat} (l:List Sum) (k:Int) (h0:0≤k) (hk:k+aJ Sum.cntE l≤4611686018427387904):E 75 [ov zz (l.map Sum.row),iv k]=some ([iv (k+aJ Sum.cntE l)],[.own zz ((dD Sum.mrkE Sum.cntE k l).map Sum.row)]):=by
 have hM:(dD Sum.mrkE Sum.cntE k l).length=l.length:=fA
 have hl:l.length≤aJ Sum.cntE l:=gA fun _=>by simp only[Sum.cntE];omega
 refine hE.run rfl rfl fun W hW=>?_
 conv=>lhs;whnf
 refine hW.loop (σ:=Nat) (γ:=Nat) (fun i s=>((s.sl 5 (v1 (.t (.int .i64 i)))).sl 1 (v1 (.t (.int .i64 (k+(aJ Sum.cntE (l.take i):Nat)))))).bl ⟨0,zz, .fix,mix Sum.row (dD Sum.mrkE Sum.cntE k l) l i⟩) (fun i n=>i=n∧n≤l.length) (fun n=>l.length-n) (fun _=>([iv (k+aJ Sum.cntE l)],[.own zz ((dD Sum.mrkE Sum.cntE k l).map Sum.row)])) 0 0 ?_ ?_ ?_ ?_
 ·intro K
  conv=>lhs;whnf
  conv=>rhs;whnf
  try rfl
  simp[mK,aJ,bys,bN]
 ·simp
 ·rintro kl n _ ⟨rfl,hn⟩ ih
  conv=>lhs;whnf
  have hml:=rF (f:=Sum.row) hM (n:=n)
  apply hW.b<;>intro h2<;>conv=>lhs;whnf
  ·have h2:n<l.length:=by simpa[hml] using h2
   have hc:=eJ (c:=Sum.cntE) h2
   have hle:=iT (c:=Sum.cntE) (l:=l) (n:=n+1)
   try simp only[Sum.cntE]at hc
   have hk1:k+(aJ Sum.cntE (l.take (n+1)):Nat)=k+(aJ Sum.cntE (l.take n):Nat)+1+1:=by rw[hc];push_cast;omega
   repeat((first|apply hW.t|apply hW.f|(apply hW.q;exact rqc)|(refine hW.w (bR ?_) ?_;omega));conv=>lhs;whnf)
   apply hW.w (gK hM h2);conv=>lhs;whnf
   repeat((first|apply hW.t|apply hW.f|(apply hW.q;exact rqc));conv=>lhs;whnf)
   apply hW.w (gK hM h2);conv=>lhs;whnf
   repeat((first|apply hW.t|apply hW.f|(apply hW.q;exact rqc));conv=>lhs;whnf)
   rw[show IntKind.i64.wrap (k+(aJ Sum.cntE (l.take n):Nat)+1)=k+(aJ Sum.cntE (l.take n):Nat)+1 from aG (by omega)]
   apply hW.w (bL (e':=[.int .i64 (k+(aJ Sum.cntE (l.take n):Nat)), .int .i64 l[n].s]) rfl (by simp only[List.length_set,hml];exact h2));conv=>lhs;whnf
   repeat((first|apply hW.t|apply hW.f|(apply hW.q;exact rqc));conv=>lhs;whnf)
   apply hW.w (bL (e':=[.int .i64 (k+(aJ Sum.cntE (l.take n):Nat)), .int .i64 l[n].s]) rfl (by simp only[List.length_set,hml];exact h2));conv=>lhs;whnf
   repeat((first|apply hW.t|apply hW.f|(apply hW.q;exact rqc));conv=>lhs;whnf)
   refine ih (n+1) (n+1) _ ?_ ⟨rfl,by omega⟩ (by omega)
   intro K
   conv=>lhs;whnf
   conv=>rhs;whnf
   try rfl
   rw[show IntKind.i64.wrap (k+(aJ Sum.cntE (l.take n):Nat)+1+1)=k+(aJ Sum.cntE (l.take n):Nat)+1+1 from aG (by omega)]
   rw[show IntKind.i64.wrap ((n:Int)+1)=_ from aH (by omega),hk1]
   refine congrArg K (congrArg (St.mk _) (congrArg (fun x=>[Blk.mk 0 zz .fix x]) ?_))
   simp only[Int.toNat_natCast,List.set_set]
   exact mL hM h2 (by rw[fZ h2];first|rfl|(simp only[mX,dQ];rfl))
  ·have:n=l.length:=by simp[hml]at h2;omega
   subst this
   simp only[List.take_length,rG hM];rfl
 ·rfl
theorem aFG {E:Env} (hE:Sys E) (l:List Sum) (k:Int) (h0:0≤k) (hk:k+aJ Sum.cntE l≤4611686018427387904):E 78 [sv ((dD Sum.mrkE Sum.cntE k l).map Sum.row),iv k]=some ([iv (k+aJ Sum.cntE l)],[]):=by
 have hM:(dD Sum.mrkE Sum.cntE k l).length=l.length:=fA
 have hrl:((dD Sum.mrkE Sum.cntE k l).map Sum.row).length=l.length:=by simp[bys,bN,hM]
 have hget:∀ (n:Nat) (h:n<l.length),((dD Sum.mrkE Sum.cntE k l).map Sum.row)[(n:Int).toNat]?=some (Sum.row (Sum.mrkE (k+(aJ Sum.cntE (l.take n):Nat)) l[n])):=by
  intro n h
  have:=bR (f:=Sum.row) (l:=dD Sum.mrkE Sum.cntE k l) (n:=n) (by omega)
  rw[fZ h]at this
  exact this
 have hl:l.length≤aJ Sum.cntE l:=gA fun _=>by simp only[Sum.cntE];omega
 refine hE.run rfl rfl fun W hW=>?_
 conv=>lhs;whnf
 refine hW.loop (σ:=Nat) (γ:=Nat) (fun i s=>((s.sl 5 (v1 (.t (.int .i64 i)))).sl 1 (v1 (.t (.int .i64 (k+(aJ Sum.cntE (l.take i):Nat))))))) (fun i n=>i=n∧n≤l.length) (fun n=>l.length-n) (fun _=>([iv (k+aJ Sum.cntE l)],[])) 0 0 ?_ ?_ ?_ ?_
 ·intro K
  conv=>lhs;whnf
  conv=>rhs;whnf
  try rfl
  simp[aJ]
 ·simp
 ·rintro kl n _ ⟨rfl,hn⟩ ih
  conv=>lhs;whnf
  apply hW.b<;>intro h2<;>conv=>lhs;whnf
  ·have h2:n<l.length:=by simpa[hrl] using h2
   have hc:=eJ (c:=Sum.cntE) h2
   have hle:=iT (c:=Sum.cntE) (l:=l) (n:=n+1)
   try simp only[Sum.cntE]at hc
   have hk1:k+(aJ Sum.cntE (l.take (n+1)):Nat)=k+(aJ Sum.cntE (l.take n):Nat)+1+1:=by rw[hc];push_cast;omega
   repeat((first|apply hW.t|apply hW.f|(apply hW.q;exact rqc));conv=>lhs;whnf)
   (apply hW.w (hget n h2);conv=>lhs;whnf)
   repeat((first|apply hW.t|apply hW.f|(apply hW.q;exact rqc));conv=>lhs;whnf)
   apply hW.bf (by simp[Sum.mrkE])
   conv=>lhs;whnf
   repeat((first|apply hW.t|apply hW.f|(apply hW.q;exact rqc));conv=>lhs;whnf)
   rw[show IntKind.i64.wrap (k+(aJ Sum.cntE (l.take n):Nat)+1)=k+(aJ Sum.cntE (l.take n):Nat)+1 from aG (by omega)]
   (apply hW.w (hget n h2);conv=>lhs;whnf)
   repeat((first|apply hW.t|apply hW.f|(apply hW.q;exact rqc));conv=>lhs;whnf)
   apply hW.bf (by simp[Sum.mrkE])
   conv=>lhs;whnf
   refine ih (n+1) (n+1) _ ?_ ⟨rfl,by omega⟩ (by omega)
   intro K
   conv=>lhs;whnf
   conv=>rhs;whnf
   try rfl
   rw[show IntKind.i64.wrap (k+(aJ Sum.cntE (l.take n):Nat)+1+1)=k+(aJ Sum.cntE (l.take n):Nat)+1+1 from aG (by omega)]
   rw[show IntKind.i64.wrap ((n:Int)+1)=_ from aH (by omega),hk1]
  ·have:n=l.length:=by simp[hrl]at h2;omega
   subst this
   simp only[List.take_length];rfl
 ·rfl
def Kid.mrkE (k:Int) (_:Kid):Kid:=⟨k,k+1,k+1+1,k+1+1+1,k+1+1+1+1⟩
def Kid.cntE (_:Kid):Nat:=0+1+1+1+1+1
theorem aFH {E:Env} (hE:Sys E) {zz:Nat} (l:List Kid) (k:Int) (h0:0≤k) (hk:k+aJ Kid.cntE l≤4611686018427387904):E 39 [ov zz (l.map Kid.row),iv k]=some ([iv (k+aJ Kid.cntE l)],[.own zz ((dD Kid.mrkE Kid.cntE k l).map Kid.row)]):=by
 have hM:(dD Kid.mrkE Kid.cntE k l).length=l.length:=fA
 have hl:l.length≤aJ Kid.cntE l:=gA fun _=>by simp only[Kid.cntE];omega
 refine hE.run rfl rfl fun W hW=>?_
 conv=>lhs;whnf
 refine hW.loop (σ:=Nat) (γ:=Nat) (fun i s=>((s.sl 5 (v1 (.t (.int .i64 i)))).sl 1 (v1 (.t (.int .i64 (k+(aJ Kid.cntE (l.take i):Nat)))))).bl ⟨0,zz, .fix,mix Kid.row (dD Kid.mrkE Kid.cntE k l) l i⟩) (fun i n=>i=n∧n≤l.length) (fun n=>l.length-n) (fun _=>([iv (k+aJ Kid.cntE l)],[.own zz ((dD Kid.mrkE Kid.cntE k l).map Kid.row)])) 0 0 ?_ ?_ ?_ ?_
 ·intro K
  conv=>lhs;whnf
  conv=>rhs;whnf
  try rfl
  simp[mK,aJ,bys,bN]
 ·simp
 ·rintro kl n _ ⟨rfl,hn⟩ ih
  conv=>lhs;whnf
  have hml:=rF (f:=Kid.row) hM (n:=n)
  apply hW.b<;>intro h2<;>conv=>lhs;whnf
  ·have h2:n<l.length:=by simpa[hml] using h2
   have hc:=eJ (c:=Kid.cntE) h2
   have hle:=iT (c:=Kid.cntE) (l:=l) (n:=n+1)
   try simp only[Kid.cntE]at hc
   have hk1:k+(aJ Kid.cntE (l.take (n+1)):Nat)=k+(aJ Kid.cntE (l.take n):Nat)+1+1+1+1+1:=by rw[hc];push_cast;omega
   repeat((first|apply hW.t|apply hW.f|(apply hW.q;exact rqc)|(refine hW.w (bR ?_) ?_;omega));conv=>lhs;whnf)
   apply hW.w (gK hM h2);conv=>lhs;whnf
   repeat((first|apply hW.t|apply hW.f|(apply hW.q;exact rqc));conv=>lhs;whnf)
   apply hW.w (gK hM h2);conv=>lhs;whnf
   repeat((first|apply hW.t|apply hW.f|(apply hW.q;exact rqc));conv=>lhs;whnf)
   rw[show IntKind.i64.wrap (k+(aJ Kid.cntE (l.take n):Nat)+1)=k+(aJ Kid.cntE (l.take n):Nat)+1 from aG (by omega)]
   apply hW.w (bL (e':=[.int .i64 (k+(aJ Kid.cntE (l.take n):Nat)), .int .i64 l[n].want, .int .i64 l[n].done, .int .i64 l[n].age, .int .i64 l[n].sent]) rfl (by simp only[List.length_set,hml];exact h2));conv=>lhs;whnf
   repeat((first|apply hW.t|apply hW.f|(apply hW.q;exact rqc));conv=>lhs;whnf)
   apply hW.w (bL (e':=[.int .i64 (k+(aJ Kid.cntE (l.take n):Nat)), .int .i64 l[n].want, .int .i64 l[n].done, .int .i64 l[n].age, .int .i64 l[n].sent]) rfl (by simp only[List.length_set,hml];exact h2));conv=>lhs;whnf
   repeat((first|apply hW.t|apply hW.f|(apply hW.q;exact rqc));conv=>lhs;whnf)
   rw[show IntKind.i64.wrap (k+(aJ Kid.cntE (l.take n):Nat)+1+1)=k+(aJ Kid.cntE (l.take n):Nat)+1+1 from aG (by omega)]
   apply hW.w (bL (e':=[.int .i64 (k+(aJ Kid.cntE (l.take n):Nat)), .int .i64 (k+(aJ Kid.cntE (l.take n):Nat)+1), .int .i64 l[n].done, .int .i64 l[n].age, .int .i64 l[n].sent]) rfl (by simp only[List.length_set,hml];exact h2));conv=>lhs;whnf
   repeat((first|apply hW.t|apply hW.f|(apply hW.q;exact rqc));conv=>lhs;whnf)
   apply hW.w (bL (e':=[.int .i64 (k+(aJ Kid.cntE (l.take n):Nat)), .int .i64 (k+(aJ Kid.cntE (l.take n):Nat)+1), .int .i64 l[n].done, .int .i64 l[n].age, .int .i64 l[n].sent]) rfl (by simp only[List.length_set,hml];exact h2));conv=>lhs;whnf
   repeat((first|apply hW.t|apply hW.f|(apply hW.q;exact rqc));conv=>lhs;whnf)
   rw[show IntKind.i64.wrap (k+(aJ Kid.cntE (l.take n):Nat)+1+1+1)=k+(aJ Kid.cntE (l.take n):Nat)+1+1+1 from aG (by omega)]
   apply hW.w (bL (e':=[.int .i64 (k+(aJ Kid.cntE (l.take n):Nat)), .int .i64 (k+(aJ Kid.cntE (l.take n):Nat)+1), .int .i64 (k+(aJ Kid.cntE (l.take n):Nat)+1+1), .int .i64 l[n].age, .int .i64 l[n].sent]) rfl (by simp only[List.length_set,hml];exact h2));conv=>lhs;whnf
   repeat((first|apply hW.t|apply hW.f|(apply hW.q;exact rqc));conv=>lhs;whnf)
   apply hW.w (bL (e':=[.int .i64 (k+(aJ Kid.cntE (l.take n):Nat)), .int .i64 (k+(aJ Kid.cntE (l.take n):Nat)+1), .int .i64 (k+(aJ Kid.cntE (l.take n):Nat)+1+1), .int .i64 l[n].age, .int .i64 l[n].sent]) rfl (by simp only[List.length_set,hml];exact h2));conv=>lhs;whnf
   repeat((first|apply hW.t|apply hW.f|(apply hW.q;exact rqc));conv=>lhs;whnf)
   rw[show IntKind.i64.wrap (k+(aJ Kid.cntE (l.take n):Nat)+1+1+1+1)=k+(aJ Kid.cntE (l.take n):Nat)+1+1+1+1 from aG (by omega)]
   apply hW.w (bL (e':=[.int .i64 (k+(aJ Kid.cntE (l.take n):Nat)), .int .i64 (k+(aJ Kid.cntE (l.take n):Nat)+1), .int .i64 (k+(aJ Kid.cntE (l.take n):Nat)+1+1), .int .i64 (k+(aJ Kid.cntE (l.take n):Nat)+1+1+1), .int .i64 l[n].sent]) rfl (by simp only[List.length_set,hml];exact h2));conv=>lhs;whnf
   repeat((first|apply hW.t|apply hW.f|(apply hW.q;exact rqc));conv=>lhs;whnf)
   apply hW.w (bL (e':=[.int .i64 (k+(aJ Kid.cntE (l.take n):Nat)), .int .i64 (k+(aJ Kid.cntE (l.take n):Nat)+1), .int .i64 (k+(aJ Kid.cntE (l.take n):Nat)+1+1), .int .i64 (k+(aJ Kid.cntE (l.take n):Nat)+1+1+1), .int .i64 l[n].sent]) rfl (by simp only[List.length_set,hml];exact h2));conv=>lhs;whnf
   repeat((first|apply hW.t|apply hW.f|(apply hW.q;exact rqc));conv=>lhs;whnf)
   refine ih (n+1) (n+1) _ ?_ ⟨rfl,by omega⟩ (by omega)
   intro K
   conv=>lhs;whnf
   conv=>rhs;whnf
   try rfl
   rw[show IntKind.i64.wrap (k+(aJ Kid.cntE (l.take n):Nat)+1+1+1+1+1)=k+(aJ Kid.cntE (l.take n):Nat)+1+1+1+1+1 from aG (by omega)]
   rw[show IntKind.i64.wrap ((n:Int)+1)=_ from aH (by omega),hk1]
   refine congrArg K (congrArg (St.mk _) (congrArg (fun x=>[Blk.mk 0 zz .fix x]) ?_))
   simp only[Int.toNat_natCast,List.set_set]
   exact mL hM h2 (by rw[fZ h2];first|rfl|(simp only[mX,dQ];rfl))
  ·have:n=l.length:=by simp[hml]at h2;omega
   subst this
   simp only[List.take_length,rG hM];rfl
 ·rfl
theorem aFI {E:Env} (hE:Sys E) (l:List Kid) (k:Int) (h0:0≤k) (hk:k+aJ Kid.cntE l≤4611686018427387904):E 40 [sv ((dD Kid.mrkE Kid.cntE k l).map Kid.row),iv k]=some ([iv (k+aJ Kid.cntE l)],[]):=by
 have hM:(dD Kid.mrkE Kid.cntE k l).length=l.length:=fA
 have hrl:((dD Kid.mrkE Kid.cntE k l).map Kid.row).length=l.length:=by simp[bys,bN,hM]
 have hget:∀ (n:Nat) (h:n<l.length),((dD Kid.mrkE Kid.cntE k l).map Kid.row)[(n:Int).toNat]?=some (Kid.row (Kid.mrkE (k+(aJ Kid.cntE (l.take n):Nat)) l[n])):=by
  intro n h
  have:=bR (f:=Kid.row) (l:=dD Kid.mrkE Kid.cntE k l) (n:=n) (by omega)
  rw[fZ h]at this
  exact this
 have hl:l.length≤aJ Kid.cntE l:=gA fun _=>by simp only[Kid.cntE];omega
 refine hE.run rfl rfl fun W hW=>?_
 conv=>lhs;whnf
 refine hW.loop (σ:=Nat) (γ:=Nat) (fun i s=>((s.sl 5 (v1 (.t (.int .i64 i)))).sl 1 (v1 (.t (.int .i64 (k+(aJ Kid.cntE (l.take i):Nat))))))) (fun i n=>i=n∧n≤l.length) (fun n=>l.length-n) (fun _=>([iv (k+aJ Kid.cntE l)],[])) 0 0 ?_ ?_ ?_ ?_
 ·intro K
  conv=>lhs;whnf
  conv=>rhs;whnf
  try rfl
  simp[aJ]
 ·simp
 ·rintro kl n _ ⟨rfl,hn⟩ ih
  conv=>lhs;whnf
  apply hW.b<;>intro h2<;>conv=>lhs;whnf
  ·have h2:n<l.length:=by simpa[hrl] using h2
   have hc:=eJ (c:=Kid.cntE) h2
   have hle:=iT (c:=Kid.cntE) (l:=l) (n:=n+1)
   try simp only[Kid.cntE]at hc
   have hk1:k+(aJ Kid.cntE (l.take (n+1)):Nat)=k+(aJ Kid.cntE (l.take n):Nat)+1+1+1+1+1:=by rw[hc];push_cast;omega
   repeat((first|apply hW.t|apply hW.f|(apply hW.q;exact rqc));conv=>lhs;whnf)
   (apply hW.w (hget n h2);conv=>lhs;whnf)
   repeat((first|apply hW.t|apply hW.f|(apply hW.q;exact rqc));conv=>lhs;whnf)
   apply hW.bf (by simp[Kid.mrkE])
   conv=>lhs;whnf
   repeat((first|apply hW.t|apply hW.f|(apply hW.q;exact rqc));conv=>lhs;whnf)
   rw[show IntKind.i64.wrap (k+(aJ Kid.cntE (l.take n):Nat)+1)=k+(aJ Kid.cntE (l.take n):Nat)+1 from aG (by omega)]
   (apply hW.w (hget n h2);conv=>lhs;whnf)
   repeat((first|apply hW.t|apply hW.f|(apply hW.q;exact rqc));conv=>lhs;whnf)
   apply hW.bf (by simp[Kid.mrkE])
   conv=>lhs;whnf
   repeat((first|apply hW.t|apply hW.f|(apply hW.q;exact rqc));conv=>lhs;whnf)
   rw[show IntKind.i64.wrap (k+(aJ Kid.cntE (l.take n):Nat)+1+1)=k+(aJ Kid.cntE (l.take n):Nat)+1+1 from aG (by omega)]
   (apply hW.w (hget n h2);conv=>lhs;whnf)
   repeat((first|apply hW.t|apply hW.f|(apply hW.q;exact rqc));conv=>lhs;whnf)
   apply hW.bf (by simp[Kid.mrkE])
   conv=>lhs;whnf
   repeat((first|apply hW.t|apply hW.f|(apply hW.q;exact rqc));conv=>lhs;whnf)
   rw[show IntKind.i64.wrap (k+(aJ Kid.cntE (l.take n):Nat)+1+1+1)=k+(aJ Kid.cntE (l.take n):Nat)+1+1+1 from aG (by omega)]
   (apply hW.w (hget n h2);conv=>lhs;whnf)
   repeat((first|apply hW.t|apply hW.f|(apply hW.q;exact rqc));conv=>lhs;whnf)
   apply hW.bf (by simp[Kid.mrkE])
   conv=>lhs;whnf
   repeat((first|apply hW.t|apply hW.f|(apply hW.q;exact rqc));conv=>lhs;whnf)
   rw[show IntKind.i64.wrap (k+(aJ Kid.cntE (l.take n):Nat)+1+1+1+1)=k+(aJ Kid.cntE (l.take n):Nat)+1+1+1+1 from aG (by omega)]
   (apply hW.w (hget n h2);conv=>lhs;whnf)
   repeat((first|apply hW.t|apply hW.f|(apply hW.q;exact rqc));conv=>lhs;whnf)
   apply hW.bf (by simp[Kid.mrkE])
   conv=>lhs;whnf
   refine ih (n+1) (n+1) _ ?_ ⟨rfl,by omega⟩ (by omega)
   intro K
   conv=>lhs;whnf
   conv=>rhs;whnf
   try rfl
   rw[show IntKind.i64.wrap (k+(aJ Kid.cntE (l.take n):Nat)+1+1+1+1+1)=k+(aJ Kid.cntE (l.take n):Nat)+1+1+1+1+1 from aG (by omega)]
   rw[show IntKind.i64.wrap ((n:Int)+1)=_ from aH (by omega),hk1]
  ·have:n=l.length:=by simp[hrl]at h2;omega
   subst this
   simp only[List.take_length];rfl
 ·rfl
def Sent.mrkE (k:Int) (_:Sent):Sent:=⟨k,k+1,k+1+1⟩
def Sent.cntE (_:Sent):Nat:=0+1+1+1
def Man.mrk (k:Int) (x:Man):Man:={ x with sums:=dD Sum.mrkE Sum.cntE (k) x.sums }
def Man.cnt (x:Man):Nat:=aJ Sum.cntE x.sums
theorem xX {E:Env} (hE:Sys E) (x:Man) (k:Int) (h0:0≤k) (hk:k+x.cnt≤4611686018427387904):E 76 [gv (x.cs dF),iv k]=some ([iv (k+x.cnt)],(x.mrk k).cs dF):=by
 unfold Man.cnt at hk ⊢
 refine hE.run rfl rfl fun W hW=>?_
 conv=>lhs;whnf
 repeat((first|apply hW.t|apply hW.f|(apply hW.q;exact rqc));conv=>lhs;whnf)
 apply hW.w (aFF hE x.sums (k) (by omega) (by omega))
 conv=>lhs;whnf
 repeat((first|apply hW.t|apply hW.f|(apply hW.q;exact rqc));conv=>lhs;whnf)
 rw[show k+(((aJ Sum.cntE x.sums):Nat):Int)=k+(aJ Sum.cntE x.sums:Nat) from by push_cast;omega]
 rfl
theorem xY {E:Env} (hE:Sys E) (x:Man) (k:Int) (h0:0≤k) (hk:k+x.cnt≤4611686018427387904):E 79 [gv ((x.mrk k).cs aP),iv k]=some ([iv (k+x.cnt)],[]):=by
 unfold Man.cnt at hk ⊢
 refine hE.run rfl rfl fun W hW=>?_
 conv=>lhs;whnf
 apply hW.w (aFG hE x.sums (k) (by omega) (by omega))
 conv=>lhs;whnf
 try(apply hW.q;exact rqc;conv=>lhs;whnf)
 apply hW.bf (by simp;omega)
 conv=>lhs;whnf
 rw[show k+(((aJ Sum.cntE x.sums):Nat):Int)=k+(aJ Sum.cntE x.sums:Nat) from by push_cast;omega]
 rfl
def Bld.mrk (k:Int) (x:Bld):Bld:={ x with buf:=dD (fun k _=>cD k) (fun _=>1) (k) x.buf }
def Bld.cnt (x:Bld):Nat:=aJ (fun _=>1) x.buf
theorem aDr {E:Env} (hE:Sys E) (x:Bld) (k:Int) (h0:0≤k) (hk:k+x.cnt≤4611686018427387904):E 77 [gv (x.cs dF),iv k]=some ([iv (k+x.cnt)],(x.mrk k).cs dF):=by
 unfold Bld.cnt at hk ⊢
 refine hE.run rfl rfl fun W hW=>?_
 conv=>lhs;whnf
 repeat((first|apply hW.t|apply hW.f|(apply hW.q;exact rqc));conv=>lhs;whnf)
 apply hW.w (iC hE x.buf (k) (by omega) (by omega))
 conv=>lhs;whnf
 repeat((first|apply hW.t|apply hW.f|(apply hW.q;exact rqc));conv=>lhs;whnf)
 rw[show k+(((aJ (fun _=>1) x.buf):Nat):Int)=k+(aJ (fun _=>1) x.buf:Nat) from by push_cast;omega]
 rfl
theorem aDs {E:Env} (hE:Sys E) (x:Bld) (k:Int) (h0:0≤k) (hk:k+x.cnt≤4611686018427387904):E 80 [gv ((x.mrk k).cs aP),iv k]=some ([iv (k+x.cnt)],[]):=by
 unfold Bld.cnt at hk ⊢
 refine hE.run rfl rfl fun W hW=>?_
 conv=>lhs;whnf
 apply hW.w (vS hE x.buf (k) (by omega) (by omega))
 conv=>lhs;whnf
 try(apply hW.q;exact rqc;conv=>lhs;whnf)
 apply hW.bf (by simp;omega)
 conv=>lhs;whnf
 rw[show k+(((aJ (fun _=>1) x.buf):Nat):Int)=k+(aJ (fun _=>1) x.buf:Nat) from by push_cast;omega]
 rfl
def Put.mrkE (k:Int) (x:Put):Put:=⟨k,k+1,dD (fun k _=>cD k) (fun _=>1) (k+1+1) x.b,⟨k+1+1+(aJ (fun _=>1) x.b:Nat),k+1+1+(aJ (fun _=>1) x.b:Nat)+1,k+1+1+(aJ (fun _=>1) x.b:Nat)+1+1⟩⟩
def Put.cntE (x:Put):Nat:=0+1+1+aJ (fun _=>1) x.b+1+1+1
def Put.mrk (k:Int) (x:Put):Put:={ x with b:=dD (fun k _=>cD k) (fun _=>1) (k) x.b }
def Put.cnt (x:Put):Nat:=aJ (fun _=>1) x.b
theorem Put.cntE_le {x:Put} (h:x.lim 4194304):x.cntE≤4194309:=by
 have a0:aJ (fun _=>1) x.b≤4194304:=gL (m:=1) h fun _ _=>Nat.le_refl _
 simp only[Put.cntE];omega
theorem aFJ {E:Env} (hE:Sys E) {zz:Nat} (l:List Put) (k:Int) (h0:0≤k) (hk:k+aJ Put.cntE l≤4611686018427387904):E 205 [ov zz (l.map (Put.row true)),iv k]=some ([iv (k+aJ Put.cntE l)],[.own zz ((dD Put.mrkE Put.cntE k l).map (Put.row true))]):=by
 have hM:(dD Put.mrkE Put.cntE k l).length=l.length:=fA
 have hl:l.length≤aJ Put.cntE l:=gA fun _=>by simp only[Put.cntE];omega
 refine hE.run rfl rfl fun W hW=>?_
 conv=>lhs;whnf
 refine hW.loop (σ:=Nat) (γ:=Nat) (fun i s=>((s.sl 5 (v1 (.t (.int .i64 i)))).sl 1 (v1 (.t (.int .i64 (k+(aJ Put.cntE (l.take i):Nat)))))).bl ⟨0,zz, .fix,mix (Put.row true) (dD Put.mrkE Put.cntE k l) l i⟩) (fun i n=>i=n∧n≤l.length) (fun n=>l.length-n) (fun _=>([iv (k+aJ Put.cntE l)],[.own zz ((dD Put.mrkE Put.cntE k l).map (Put.row true))])) 0 0 ?_ ?_ ?_ ?_
 ·intro K
  conv=>lhs;whnf
  conv=>rhs;whnf
  try rfl
  simp[mK,aJ,bys,bN]
 ·simp
 ·rintro kl n _ ⟨rfl,hn⟩ ih
  conv=>lhs;whnf
  have hml:=rF (f:=(Put.row true)) hM (n:=n)
  apply hW.b<;>intro h2<;>conv=>lhs;whnf
  ·have h2:n<l.length:=by simpa[hml] using h2
   have hc:=eJ (c:=Put.cntE) h2
   have hle:=iT (c:=Put.cntE) (l:=l) (n:=n+1)
   try simp only[Put.cntE]at hc
   have hk1:k+(aJ Put.cntE (l.take (n+1)):Nat)=k+(aJ Put.cntE (l.take n):Nat)+1+1+(aJ (fun _=>1) l[n].b:Nat)+1+1+1:=by rw[hc];push_cast;omega
   repeat((first|apply hW.t|apply hW.f|(apply hW.q;exact rqc)|(refine hW.w (bR ?_) ?_;omega));conv=>lhs;whnf)
   apply hW.w (gK hM h2);conv=>lhs;whnf
   repeat((first|apply hW.t|apply hW.f|(apply hW.q;exact rqc));conv=>lhs;whnf)
   apply hW.w (gK hM h2);conv=>lhs;whnf
   repeat((first|apply hW.t|apply hW.f|(apply hW.q;exact rqc));conv=>lhs;whnf)
   rw[show IntKind.i64.wrap (k+(aJ Put.cntE (l.take n):Nat)+1)=k+(aJ Put.cntE (l.take n):Nat)+1 from aG (by omega)]
   apply hW.w (bL (e':=[.int .i64 (k+(aJ Put.cntE (l.take n):Nat)), .int .i64 l[n].at_, .sl true (bys l[n].b), .int .i64 l[n].r.gen, .int .i64 l[n].r.slot, .int .i64 l[n].r.len]) rfl (by simp only[List.length_set,hml];exact h2));conv=>lhs;whnf
   repeat((first|apply hW.t|apply hW.f|(apply hW.q;exact rqc));conv=>lhs;whnf)
   apply hW.w (bL (e':=[.int .i64 (k+(aJ Put.cntE (l.take n):Nat)), .int .i64 l[n].at_, .sl true (bys l[n].b), .int .i64 l[n].r.gen, .int .i64 l[n].r.slot, .int .i64 l[n].r.len]) rfl (by simp only[List.length_set,hml];exact h2));conv=>lhs;whnf
   repeat((first|apply hW.t|apply hW.f|(apply hW.q;exact rqc));conv=>lhs;whnf)
   rw[show IntKind.i64.wrap (k+(aJ Put.cntE (l.take n):Nat)+1+1)=k+(aJ Put.cntE (l.take n):Nat)+1+1 from aG (by omega)]
   apply hW.w (bL (e':=[.int .i64 (k+(aJ Put.cntE (l.take n):Nat)), .int .i64 (k+(aJ Put.cntE (l.take n):Nat)+1), .sl true (bys l[n].b), .int .i64 l[n].r.gen, .int .i64 l[n].r.slot, .int .i64 l[n].r.len]) rfl (by simp only[List.length_set,hml];exact h2));conv=>lhs;whnf
   repeat((first|apply hW.t|apply hW.f|(apply hW.q;exact rqc));conv=>lhs;whnf)
   apply hW.w (bL (e':=[.int .i64 (k+(aJ Put.cntE (l.take n):Nat)), .int .i64 (k+(aJ Put.cntE (l.take n):Nat)+1), .sl true (bys l[n].b), .int .i64 l[n].r.gen, .int .i64 l[n].r.slot, .int .i64 l[n].r.len]) rfl (by simp only[List.length_set,hml];exact h2));conv=>lhs;whnf
   repeat((first|apply hW.t|apply hW.f|(apply hW.q;exact rqc));conv=>lhs;whnf)
   apply hW.w (bL (e':=[.int .i64 (k+(aJ Put.cntE (l.take n):Nat)), .int .i64 (k+(aJ Put.cntE (l.take n):Nat)+1), .sl true (bys l[n].b), .int .i64 l[n].r.gen, .int .i64 l[n].r.slot, .int .i64 l[n].r.len]) rfl (by simp only[List.length_set,hml];exact h2));conv=>lhs;whnf
   repeat((first|apply hW.t|apply hW.f|(apply hW.q;exact rqc));conv=>lhs;whnf)
   apply hW.w (iC hE l[n].b (k+(aJ Put.cntE (l.take n):Nat)+1+1) (by omega) (by omega))
   conv=>lhs;whnf
   try(apply hW.q;exact rqc;conv=>lhs;whnf)
   apply hW.w (bL (e':=[.int .i64 (k+(aJ Put.cntE (l.take n):Nat)), .int .i64 (k+(aJ Put.cntE (l.take n):Nat)+1), .sl true (bys l[n].b), .int .i64 l[n].r.gen, .int .i64 l[n].r.slot, .int .i64 l[n].r.len]) rfl (by simp only[List.length_set,hml];exact h2));conv=>lhs;whnf
   repeat((first|apply hW.t|apply hW.f|(apply hW.q;exact rqc));conv=>lhs;whnf)
   apply hW.w (bL (e':=[.int .i64 (k+(aJ Put.cntE (l.take n):Nat)), .int .i64 (k+(aJ Put.cntE (l.take n):Nat)+1), .sl true (bys (dD (fun k _=>cD k) (fun _=>1) (k+(aJ Put.cntE (l.take n):Nat)+1+1) l[n].b)), .int .i64 l[n].r.gen, .int .i64 l[n].r.slot, .int .i64 l[n].r.len]) rfl (by simp only[List.length_set,hml];exact h2));conv=>lhs;whnf
   repeat((first|apply hW.t|apply hW.f|(apply hW.q;exact rqc));conv=>lhs;whnf)
   apply hW.w (bL (e':=[.int .i64 (k+(aJ Put.cntE (l.take n):Nat)), .int .i64 (k+(aJ Put.cntE (l.take n):Nat)+1), .sl true (bys (dD (fun k _=>cD k) (fun _=>1) (k+(aJ Put.cntE (l.take n):Nat)+1+1) l[n].b)), .int .i64 l[n].r.gen, .int .i64 l[n].r.slot, .int .i64 l[n].r.len]) rfl (by simp only[List.length_set,hml];exact h2));conv=>lhs;whnf
   repeat((first|apply hW.t|apply hW.f|(apply hW.q;exact rqc));conv=>lhs;whnf)
   rw[show IntKind.i64.wrap (k+(aJ Put.cntE (l.take n):Nat)+1+1+(aJ (fun _=>1) l[n].b:Nat)+1)=k+(aJ Put.cntE (l.take n):Nat)+1+1+(aJ (fun _=>1) l[n].b:Nat)+1 from aG (by omega)]
   apply hW.w (bL (e':=[.int .i64 (k+(aJ Put.cntE (l.take n):Nat)), .int .i64 (k+(aJ Put.cntE (l.take n):Nat)+1), .sl true (bys (dD (fun k _=>cD k) (fun _=>1) (k+(aJ Put.cntE (l.take n):Nat)+1+1) l[n].b)), .int .i64 (k+(aJ Put.cntE (l.take n):Nat)+1+1+(aJ (fun _=>1) l[n].b:Nat)), .int .i64 l[n].r.slot, .int .i64 l[n].r.len]) rfl (by simp only[List.length_set,hml];exact h2));conv=>lhs;whnf
   repeat((first|apply hW.t|apply hW.f|(apply hW.q;exact rqc));conv=>lhs;whnf)
   apply hW.w (bL (e':=[.int .i64 (k+(aJ Put.cntE (l.take n):Nat)), .int .i64 (k+(aJ Put.cntE (l.take n):Nat)+1), .sl true (bys (dD (fun k _=>cD k) (fun _=>1) (k+(aJ Put.cntE (l.take n):Nat)+1+1) l[n].b)), .int .i64 (k+(aJ Put.cntE (l.take n):Nat)+1+1+(aJ (fun _=>1) l[n].b:Nat)), .int .i64 l[n].r.slot, .int .i64 l[n].r.len]) rfl (by simp only[List.length_set,hml];exact h2));conv=>lhs;whnf
   repeat((first|apply hW.t|apply hW.f|(apply hW.q;exact rqc));conv=>lhs;whnf)
   rw[show IntKind.i64.wrap (k+(aJ Put.cntE (l.take n):Nat)+1+1+(aJ (fun _=>1) l[n].b:Nat)+1+1)=k+(aJ Put.cntE (l.take n):Nat)+1+1+(aJ (fun _=>1) l[n].b:Nat)+1+1 from aG (by omega)]
   apply hW.w (bL (e':=[.int .i64 (k+(aJ Put.cntE (l.take n):Nat)), .int .i64 (k+(aJ Put.cntE (l.take n):Nat)+1), .sl true (bys (dD (fun k _=>cD k) (fun _=>1) (k+(aJ Put.cntE (l.take n):Nat)+1+1) l[n].b)), .int .i64 (k+(aJ Put.cntE (l.take n):Nat)+1+1+(aJ (fun _=>1) l[n].b:Nat)), .int .i64 (k+(aJ Put.cntE (l.take n):Nat)+1+1+(aJ (fun _=>1) l[n].b:Nat)+1), .int .i64 l[n].r.len]) rfl (by simp only[List.length_set,hml];exact h2));conv=>lhs;whnf
   repeat((first|apply hW.t|apply hW.f|(apply hW.q;exact rqc));conv=>lhs;whnf)
   apply hW.w (bL (e':=[.int .i64 (k+(aJ Put.cntE (l.take n):Nat)), .int .i64 (k+(aJ Put.cntE (l.take n):Nat)+1), .sl true (bys (dD (fun k _=>cD k) (fun _=>1) (k+(aJ Put.cntE (l.take n):Nat)+1+1) l[n].b)), .int .i64 (k+(aJ Put.cntE (l.take n):Nat)+1+1+(aJ (fun _=>1) l[n].b:Nat)), .int .i64 (k+(aJ Put.cntE (l.take n):Nat)+1+1+(aJ (fun _=>1) l[n].b:Nat)+1), .int .i64 l[n].r.len]) rfl (by simp only[List.length_set,hml];exact h2));conv=>lhs;whnf
   repeat((first|apply hW.t|apply hW.f|(apply hW.q;exact rqc));conv=>lhs;whnf)
   refine ih (n+1) (n+1) _ ?_ ⟨rfl,by omega⟩ (by omega)
   intro K
   conv=>lhs;whnf
   conv=>rhs;whnf
   try rfl
   rw[show IntKind.i64.wrap (k+(aJ Put.cntE (l.take n):Nat)+1+1+(aJ (fun _=>1) l[n].b:Nat)+1+1+1)=k+(aJ Put.cntE (l.take n):Nat)+1+1+(aJ (fun _=>1) l[n].b:Nat)+1+1+1 from aG (by omega)]
   rw[show IntKind.i64.wrap ((n:Int)+1)=_ from aH (by omega),hk1]
   refine congrArg K (congrArg (St.mk _) (congrArg (fun x=>[Blk.mk 0 zz .fix x]) ?_))
   simp only[Int.toNat_natCast,List.set_set]
   exact mL hM h2 (by rw[fZ h2];first|rfl|(simp only[mX,dQ];rfl))
  ·have:n=l.length:=by simp[hml]at h2;omega
   subst this
   simp only[List.take_length,rG hM];rfl
 ·rfl
def Pkt.mrkE (k:Int) (x:Pkt):Pkt:=⟨k,k+1,dD (fun k _=>cD k) (fun _=>1) (k+1+1) x.b⟩
def Pkt.cntE (x:Pkt):Nat:=0+1+1+aJ (fun _=>1) x.b
def Pkt.mrk (k:Int) (x:Pkt):Pkt:={ x with b:=dD (fun k _=>cD k) (fun _=>1) (k) x.b }
def Pkt.cnt (x:Pkt):Nat:=aJ (fun _=>1) x.b
theorem Pkt.cntE_le {x:Pkt} (h:x.lim 4194304):x.cntE≤4194306:=by
 have a0:aJ (fun _=>1) x.b≤4194304:=gL (m:=1) h fun _ _=>Nat.le_refl _
 simp only[Pkt.cntE];omega
theorem pU {E:Env} (hE:Sys E) {zz:Nat} (l:List Pkt) (k:Int) (h0:0≤k) (hk:k+aJ Pkt.cntE l≤4611686018427387904):E 51 [ov zz (l.map (Pkt.row true)),iv k]=some ([iv (k+aJ Pkt.cntE l)],[.own zz ((dD Pkt.mrkE Pkt.cntE k l).map (Pkt.row true))]):=by
 have hM:(dD Pkt.mrkE Pkt.cntE k l).length=l.length:=fA
 have hl:l.length≤aJ Pkt.cntE l:=gA fun _=>by simp only[Pkt.cntE];omega
 refine hE.run rfl rfl fun W hW=>?_
 conv=>lhs;whnf
 refine hW.loop (σ:=Nat) (γ:=Nat) (fun i s=>((s.sl 5 (v1 (.t (.int .i64 i)))).sl 1 (v1 (.t (.int .i64 (k+(aJ Pkt.cntE (l.take i):Nat)))))).bl ⟨0,zz, .fix,mix (Pkt.row true) (dD Pkt.mrkE Pkt.cntE k l) l i⟩) (fun i n=>i=n∧n≤l.length) (fun n=>l.length-n) (fun _=>([iv (k+aJ Pkt.cntE l)],[.own zz ((dD Pkt.mrkE Pkt.cntE k l).map (Pkt.row true))])) 0 0 ?_ ?_ ?_ ?_
 ·intro K
  conv=>lhs;whnf
  conv=>rhs;whnf
  try rfl
  simp[mK,aJ,bys,bN]
 ·simp
 ·rintro kl n _ ⟨rfl,hn⟩ ih
  conv=>lhs;whnf
  have hml:=rF (f:=(Pkt.row true)) hM (n:=n)
  apply hW.b<;>intro h2<;>conv=>lhs;whnf
  ·have h2:n<l.length:=by simpa[hml] using h2
   have hc:=eJ (c:=Pkt.cntE) h2
   have hle:=iT (c:=Pkt.cntE) (l:=l) (n:=n+1)
   try simp only[Pkt.cntE]at hc
   have hk1:k+(aJ Pkt.cntE (l.take (n+1)):Nat)=k+(aJ Pkt.cntE (l.take n):Nat)+1+1+(aJ (fun _=>1) l[n].b:Nat):=by rw[hc];push_cast;omega
   repeat((first|apply hW.t|apply hW.f|(apply hW.q;exact rqc)|(refine hW.w (bR ?_) ?_;omega));conv=>lhs;whnf)
   apply hW.w (gK hM h2);conv=>lhs;whnf
   repeat((first|apply hW.t|apply hW.f|(apply hW.q;exact rqc));conv=>lhs;whnf)
   apply hW.w (gK hM h2);conv=>lhs;whnf
   repeat((first|apply hW.t|apply hW.f|(apply hW.q;exact rqc));conv=>lhs;whnf)
   rw[show IntKind.i64.wrap (k+(aJ Pkt.cntE (l.take n):Nat)+1)=k+(aJ Pkt.cntE (l.take n):Nat)+1 from aG (by omega)]
   apply hW.w (bL (e':=[.int .i64 (k+(aJ Pkt.cntE (l.take n):Nat)), .int .i64 l[n].to, .sl true (bys l[n].b)]) rfl (by simp only[List.length_set,hml];exact h2));conv=>lhs;whnf
   repeat((first|apply hW.t|apply hW.f|(apply hW.q;exact rqc));conv=>lhs;whnf)
   apply hW.w (bL (e':=[.int .i64 (k+(aJ Pkt.cntE (l.take n):Nat)), .int .i64 l[n].to, .sl true (bys l[n].b)]) rfl (by simp only[List.length_set,hml];exact h2));conv=>lhs;whnf
   repeat((first|apply hW.t|apply hW.f|(apply hW.q;exact rqc));conv=>lhs;whnf)
   rw[show IntKind.i64.wrap (k+(aJ Pkt.cntE (l.take n):Nat)+1+1)=k+(aJ Pkt.cntE (l.take n):Nat)+1+1 from aG (by omega)]
   apply hW.w (bL (e':=[.int .i64 (k+(aJ Pkt.cntE (l.take n):Nat)), .int .i64 (k+(aJ Pkt.cntE (l.take n):Nat)+1), .sl true (bys l[n].b)]) rfl (by simp only[List.length_set,hml];exact h2));conv=>lhs;whnf
   repeat((first|apply hW.t|apply hW.f|(apply hW.q;exact rqc));conv=>lhs;whnf)
   apply hW.w (bL (e':=[.int .i64 (k+(aJ Pkt.cntE (l.take n):Nat)), .int .i64 (k+(aJ Pkt.cntE (l.take n):Nat)+1), .sl true (bys l[n].b)]) rfl (by simp only[List.length_set,hml];exact h2));conv=>lhs;whnf
   repeat((first|apply hW.t|apply hW.f|(apply hW.q;exact rqc));conv=>lhs;whnf)
   apply hW.w (bL (e':=[.int .i64 (k+(aJ Pkt.cntE (l.take n):Nat)), .int .i64 (k+(aJ Pkt.cntE (l.take n):Nat)+1), .sl true (bys l[n].b)]) rfl (by simp only[List.length_set,hml];exact h2));conv=>lhs;whnf
   repeat((first|apply hW.t|apply hW.f|(apply hW.q;exact rqc));conv=>lhs;whnf)
   apply hW.w (iC hE l[n].b (k+(aJ Pkt.cntE (l.take n):Nat)+1+1) (by omega) (by omega))
   conv=>lhs;whnf
   try(apply hW.q;exact rqc;conv=>lhs;whnf)
   apply hW.w (bL (e':=[.int .i64 (k+(aJ Pkt.cntE (l.take n):Nat)), .int .i64 (k+(aJ Pkt.cntE (l.take n):Nat)+1), .sl true (bys l[n].b)]) rfl (by simp only[List.length_set,hml];exact h2));conv=>lhs;whnf
   repeat((first|apply hW.t|apply hW.f|(apply hW.q;exact rqc));conv=>lhs;whnf)
   refine ih (n+1) (n+1) _ ?_ ⟨rfl,by omega⟩ (by omega)
   intro K
   conv=>lhs;whnf
   conv=>rhs;whnf
   try rfl
   rw[show IntKind.i64.wrap ((n:Int)+1)=_ from aH (by omega),hk1]
   refine congrArg K (congrArg (St.mk _) (congrArg (fun x=>[Blk.mk 0 zz .fix x]) ?_))
   simp only[Int.toNat_natCast,List.set_set]
   exact mL hM h2 (by rw[fZ h2];first|rfl|(simp only[mX,dQ];rfl))
  ·have:n=l.length:=by simp[hml]at h2;omega
   subst this
   simp only[List.take_length,rG hM];rfl
 ·rfl
theorem aAY {E:Env} (hE:Sys E) {o:Bool} (l:List Pkt) (k:Int) (h0:0≤k) (hk:k+aJ Pkt.cntE l≤4611686018427387904):E 52 [sv ((dD Pkt.mrkE Pkt.cntE k l).map (Pkt.row o)),iv k]=some ([iv (k+aJ Pkt.cntE l)],[]):=by
 have hM:(dD Pkt.mrkE Pkt.cntE k l).length=l.length:=fA
 have hrl:((dD Pkt.mrkE Pkt.cntE k l).map (Pkt.row o)).length=l.length:=by simp[bys,bN,hM]
 have hget:∀ (n:Nat) (h:n<l.length),((dD Pkt.mrkE Pkt.cntE k l).map (Pkt.row o))[(n:Int).toNat]?=some ((Pkt.row o) (Pkt.mrkE (k+(aJ Pkt.cntE (l.take n):Nat)) l[n])):=by
  intro n h
  have:=bR (f:=(Pkt.row o)) (l:=dD Pkt.mrkE Pkt.cntE k l) (n:=n) (by omega)
  rw[fZ h]at this
  exact this
 have hl:l.length≤aJ Pkt.cntE l:=gA fun _=>by simp only[Pkt.cntE];omega
 refine hE.run rfl rfl fun W hW=>?_
 conv=>lhs;whnf
 refine hW.loop (σ:=Nat) (γ:=Nat) (fun i s=>((s.sl 5 (v1 (.t (.int .i64 i)))).sl 1 (v1 (.t (.int .i64 (k+(aJ Pkt.cntE (l.take i):Nat))))))) (fun i n=>i=n∧n≤l.length) (fun n=>l.length-n) (fun _=>([iv (k+aJ Pkt.cntE l)],[])) 0 0 ?_ ?_ ?_ ?_
 ·intro K
  conv=>lhs;whnf
  conv=>rhs;whnf
  try rfl
  simp[aJ]
 ·simp
 ·rintro kl n _ ⟨rfl,hn⟩ ih
  conv=>lhs;whnf
  apply hW.b<;>intro h2<;>conv=>lhs;whnf
  ·have h2:n<l.length:=by simpa[hrl] using h2
   have hc:=eJ (c:=Pkt.cntE) h2
   have hle:=iT (c:=Pkt.cntE) (l:=l) (n:=n+1)
   try simp only[Pkt.cntE]at hc
   have hk1:k+(aJ Pkt.cntE (l.take (n+1)):Nat)=k+(aJ Pkt.cntE (l.take n):Nat)+1+1+(aJ (fun _=>1) l[n].b:Nat):=by rw[hc];push_cast;omega
   repeat((first|apply hW.t|apply hW.f|(apply hW.q;exact rqc));conv=>lhs;whnf)
   (apply hW.w (hget n h2);conv=>lhs;whnf)
   repeat((first|apply hW.t|apply hW.f|(apply hW.q;exact rqc));conv=>lhs;whnf)
   apply hW.bf (by simp[Pkt.mrkE])
   conv=>lhs;whnf
   repeat((first|apply hW.t|apply hW.f|(apply hW.q;exact rqc));conv=>lhs;whnf)
   rw[show IntKind.i64.wrap (k+(aJ Pkt.cntE (l.take n):Nat)+1)=k+(aJ Pkt.cntE (l.take n):Nat)+1 from aG (by omega)]
   (apply hW.w (hget n h2);conv=>lhs;whnf)
   repeat((first|apply hW.t|apply hW.f|(apply hW.q;exact rqc));conv=>lhs;whnf)
   apply hW.bf (by simp[Pkt.mrkE])
   conv=>lhs;whnf
   repeat((first|apply hW.t|apply hW.f|(apply hW.q;exact rqc));conv=>lhs;whnf)
   rw[show IntKind.i64.wrap (k+(aJ Pkt.cntE (l.take n):Nat)+1+1)=k+(aJ Pkt.cntE (l.take n):Nat)+1+1 from aG (by omega)]
   (apply hW.w (hget n h2);conv=>lhs;whnf)
   repeat((first|apply hW.t|apply hW.f|(apply hW.q;exact rqc));conv=>lhs;whnf)
   apply hW.w (vS hE l[n].b (k+(aJ Pkt.cntE (l.take n):Nat)+1+1) (by omega) (by omega))
   conv=>lhs;whnf
   try(apply hW.q;exact rqc;conv=>lhs;whnf)
   apply hW.bf (by simp;omega)
   conv=>lhs;whnf
   repeat((first|apply hW.t|apply hW.f|(apply hW.q;exact rqc));conv=>lhs;whnf)
   refine ih (n+1) (n+1) _ ?_ ⟨rfl,by omega⟩ (by omega)
   intro K
   conv=>lhs;whnf
   conv=>rhs;whnf
   try rfl
   rw[show IntKind.i64.wrap ((n:Int)+1)=_ from aH (by omega),hk1]
  ·have:n=l.length:=by simp[hrl]at h2;omega
   subst this
   simp only[List.take_length];rfl
 ·rfl
def Image.mrkE (k:Int) (x:Image):Image:=⟨dD (fun k _=>cD k) (fun _=>1) (k) x.b⟩
def Image.cntE (x:Image):Nat:=0+aJ (fun _=>1) x.b
def Image.mrk (k:Int) (x:Image):Image:={ x with b:=dD (fun k _=>cD k) (fun _=>1) (k) x.b }
def Image.cnt (x:Image):Nat:=aJ (fun _=>1) x.b
def Tree.mrk (k:Int) (x:Tree):Tree:={ x with up:=dD (fun k _=>k) (fun _=>1) (k) x.up }
def Tree.cnt (x:Tree):Nat:=aJ (fun _=>1) x.up
theorem Tree.cnt_le {x:Tree} (h:x.lim 4194304):x.cnt≤4194304:=by
 have a0:aJ (fun _=>1) x.up≤4194304:=gL (m:=1) h fun _ _=>Nat.le_refl _
 simp only[Tree.cnt];omega
theorem aFK {E:Env} (hE:Sys E) (x:Tree) (k:Int) (h0:0≤k) (hk:k+x.cnt≤4611686018427387904):E 141 [gv (x.cs dF),iv k]=some ([iv (k+x.cnt)],(x.mrk k).cs dF):=by
 unfold Tree.cnt at hk ⊢
 refine hE.run rfl rfl fun W hW=>?_
 conv=>lhs;whnf
 repeat((first|apply hW.t|apply hW.f|(apply hW.q;exact rqc));conv=>lhs;whnf)
 apply hW.w (aFE hE x.up (k) (by omega) (by omega))
 conv=>lhs;whnf
 repeat((first|apply hW.t|apply hW.f|(apply hW.q;exact rqc));conv=>lhs;whnf)
 rw[show k+(((aJ (fun _=>1) x.up):Nat):Int)=k+(aJ (fun _=>1) x.up:Nat) from by push_cast;omega]
 rfl
def Disk.mrkE (k:Int) (x:Disk):Disk:=⟨dD (fun k _=>cD k) (fun _=>1) (k) x.a,dD (fun k _=>cD k) (fun _=>1) (k+(aJ (fun _=>1) x.a:Nat)) x.b,⟨k+(aJ (fun _=>1) x.a:Nat)+(aJ (fun _=>1) x.b:Nat),k+(aJ (fun _=>1) x.a:Nat)+(aJ (fun _=>1) x.b:Nat)+1,k+(aJ (fun _=>1) x.a:Nat)+(aJ (fun _=>1) x.b:Nat)+1+1⟩,dD Put.mrkE Put.cntE (k+(aJ (fun _=>1) x.a:Nat)+(aJ (fun _=>1) x.b:Nat)+1+1+1) x.p⟩
def Disk.cntE (x:Disk):Nat:=0+aJ (fun _=>1) x.a+aJ (fun _=>1) x.b+1+1+1+aJ Put.cntE x.p
def Disk.mrk (k:Int) (x:Disk):Disk:={ x with a:=dD (fun k _=>cD k) (fun _=>1) (k) x.a,b:=dD (fun k _=>cD k) (fun _=>1) (k+(aJ (fun _=>1) x.a:Nat)) x.b,p:=dD Put.mrkE Put.cntE (k+(aJ (fun _=>1) x.a:Nat)+(aJ (fun _=>1) x.b:Nat)) x.p }
def Disk.cnt (x:Disk):Nat:=aJ (fun _=>1) x.a+aJ (fun _=>1) x.b+aJ Put.cntE x.p
theorem Disk.cnt_le {x:Disk} (h:x.lim 4194304):x.cnt≤17592215404544:=by
 have a0:aJ (fun _=>1) x.a≤4194304:=gL (m:=1) h.1 fun _ _=>Nat.le_refl _
 have a1:aJ (fun _=>1) x.b≤4194304:=gL (m:=1) h.2.1 fun _ _=>Nat.le_refl _
 have a2:aJ Put.cntE x.p≤17592207015936:=gL (m:=4194309) h.2.2.1 fun x hx=>Put.cntE_le (h.2.2.2 x hx)
 simp only[Disk.cnt];omega
theorem aFL {E:Env} (hE:Sys E) (x:Disk) (k:Int) (h0:0≤k) (hk:k+x.cnt≤4611686018427387904):E 171 [gv (x.cs dF true),iv k]=some ([iv (k+x.cnt)],(x.mrk k).cs dF true):=by
 unfold Disk.cnt at hk ⊢
 refine hE.run rfl rfl fun W hW=>?_
 conv=>lhs;whnf
 repeat((first|apply hW.t|apply hW.f|(apply hW.q;exact rqc));conv=>lhs;whnf)
 apply hW.w (iC hE x.a (k) (by omega) (by omega))
 conv=>lhs;whnf
 repeat((first|apply hW.t|apply hW.f|(apply hW.q;exact rqc));conv=>lhs;whnf)
 apply hW.w (iC hE x.b (k+(aJ (fun _=>1) x.a:Nat)) (by omega) (by omega))
 conv=>lhs;whnf
 repeat((first|apply hW.t|apply hW.f|(apply hW.q;exact rqc));conv=>lhs;whnf)
 apply hW.w (aFJ hE x.p (k+(aJ (fun _=>1) x.a:Nat)+(aJ (fun _=>1) x.b:Nat)) (by omega) (by omega))
 conv=>lhs;whnf
 repeat((first|apply hW.t|apply hW.f|(apply hW.q;exact rqc));conv=>lhs;whnf)
 rw[show k+(((aJ (fun _=>1) x.a)+(aJ (fun _=>1) x.b)+(aJ Put.cntE x.p):Nat):Int)=k+(aJ (fun _=>1) x.a:Nat)+(aJ (fun _=>1) x.b:Nat)+(aJ Put.cntE x.p:Nat) from by push_cast;omega]
 rfl
def Msg.mrk (k:Int) (x:Msg):Msg:={ x with man:=x.man.mrk (k),b:=dD (fun k _=>cD k) (fun _=>1) (k+(x.man.cnt:Nat)) x.b }
def Msg.cnt (x:Msg):Nat:=x.man.cnt+aJ (fun _=>1) x.b
def Node.mrkE (k:Int) (x:Node):Node:=⟨decide (Int.tmod (k) 3=0),k+1,k+1+1,⟨k+1+1+1,k+1+1+1+1,k+1+1+1+1+1,dD Sum.mrkE Sum.cntE (k+1+1+1+1+1+1) x.man.sums⟩,⟨k+1+1+1+1+1+1+(aJ Sum.cntE x.man.sums:Nat),dD (fun k _=>cD k) (fun _=>1) (k+1+1+1+1+1+1+(aJ Sum.cntE x.man.sums:Nat)+1) x.bld.buf⟩,k+1+1+1+1+1+1+(aJ Sum.cntE x.man.sums:Nat)+1+(aJ (fun _=>1) x.bld.buf:Nat),dD Kid.mrkE Kid.cntE (k+1+1+1+1+1+1+(aJ Sum.cntE x.man.sums:Nat)+1+(aJ (fun _=>1) x.bld.buf:Nat)+1) x.kids,k+1+1+1+1+1+1+(aJ Sum.cntE x.man.sums:Nat)+1+(aJ (fun _=>1) x.bld.buf:Nat)+1+(aJ Kid.cntE x.kids:Nat)⟩
def Node.cntE (x:Node):Nat:=0+1+1+1+1+1+1+aJ Sum.cntE x.man.sums+1+aJ (fun _=>1) x.bld.buf+1+aJ Kid.cntE x.kids+1
def Node.mrk (k:Int) (x:Node):Node:={ x with man:=x.man.mrk (k),bld:=x.bld.mrk (k+(x.man.cnt:Nat)),kids:=dD Kid.mrkE Kid.cntE (k+(x.man.cnt:Nat)+(x.bld.cnt:Nat)) x.kids }
def Node.cnt (x:Node):Nat:=x.man.cnt+x.bld.cnt+aJ Kid.cntE x.kids
theorem Node.cnt_le {x:Node} (h:x.lim 4194304):x.cnt≤33554432:=by
 have a0:aJ Sum.cntE x.man.sums≤8388608:=gL (m:=2) h.1 fun _ _=>Nat.le_refl _
 have a1:aJ (fun _=>1) x.bld.buf≤4194304:=gL (m:=1) h.2.1 fun _ _=>Nat.le_refl _
 have a2:aJ Kid.cntE x.kids≤20971520:=gL (m:=5) h.2.2 fun _ _=>Nat.le_refl _
 simp only[Node.cnt,Man.cnt,Bld.cnt];omega
theorem aAo {E:Env} (hE:Sys E) (x:Node) (k:Int) (h0:0≤k) (hk:k+x.cnt≤4611686018427387904):E 83 [gv (x.cs dF),iv k]=some ([iv (k+x.cnt)],(x.mrk k).cs dF):=by
 unfold Node.cnt at hk ⊢
 refine hE.run rfl rfl fun W hW=>?_
 conv=>lhs;whnf
 repeat((first|apply hW.t|apply hW.f|(apply hW.q;exact rqc));conv=>lhs;whnf)
 apply hW.w (xX hE x.man (k) (by omega) (by omega))
 conv=>lhs;whnf
 repeat((first|apply hW.t|apply hW.f|(apply hW.q;exact rqc));conv=>lhs;whnf)
 apply hW.w (aDr hE x.bld (k+(x.man.cnt:Nat)) (by omega) (by omega))
 conv=>lhs;whnf
 repeat((first|apply hW.t|apply hW.f|(apply hW.q;exact rqc));conv=>lhs;whnf)
 apply hW.w (aFH hE x.kids (k+(x.man.cnt:Nat)+(x.bld.cnt:Nat)) (by omega) (by omega))
 conv=>lhs;whnf
 repeat((first|apply hW.t|apply hW.f|(apply hW.q;exact rqc));conv=>lhs;whnf)
 rw[show k+(((x.man.cnt)+(x.bld.cnt)+(aJ Kid.cntE x.kids):Nat):Int)=k+(x.man.cnt:Nat)+(x.bld.cnt:Nat)+(aJ Kid.cntE x.kids:Nat) from by push_cast;omega]
 rfl
theorem aFM {E:Env} (hE:Sys E) (x:Node) (k:Int) (h0:0≤k) (hk:k+x.cnt≤4611686018427387904):E 84 [gv ((x.mrk k).cs aP),iv k]=some ([iv (k+x.cnt)],[]):=by
 unfold Node.cnt at hk ⊢
 refine hE.run rfl rfl fun W hW=>?_
 conv=>lhs;whnf
 apply hW.w (xY hE x.man (k) (by omega) (by omega))
 conv=>lhs;whnf
 try(apply hW.q;exact rqc;conv=>lhs;whnf)
 apply hW.bf (by simp;omega)
 conv=>lhs;whnf
 apply hW.w (aDs hE x.bld (k+(x.man.cnt:Nat)) (by omega) (by omega))
 conv=>lhs;whnf
 try(apply hW.q;exact rqc;conv=>lhs;whnf)
 apply hW.bf (by simp;omega)
 conv=>lhs;whnf
 apply hW.w (aFI hE x.kids (k+(x.man.cnt:Nat)+(x.bld.cnt:Nat)) (by omega) (by omega))
 conv=>lhs;whnf
 try(apply hW.q;exact rqc;conv=>lhs;whnf)
 apply hW.bf (by simp;omega)
 conv=>lhs;whnf
 rw[show k+(((x.man.cnt)+(x.bld.cnt)+(aJ Kid.cntE x.kids):Nat):Int)=k+(x.man.cnt:Nat)+(x.bld.cnt:Nat)+(aJ Kid.cntE x.kids:Nat) from by push_cast;omega]
 rfl
def Actn.mrk (k:Int) (x:Actn):Actn:={ x with n:=x.n.mrk (k),out:=dD Pkt.mrkE Pkt.cntE (k+(x.n.cnt:Nat)) x.out }
def Actn.cnt (x:Actn):Nat:=x.n.cnt+aJ Pkt.cntE x.out
theorem aHz {E:Env} (hE:Sys E) (x:Actn) (k:Int) (h0:0≤k) (hk:k+x.cnt≤4611686018427387904):E 428 [gv (x.cs dF true),iv k]=some ([iv (k+x.cnt)],(x.mrk k).cs dF true):=by
 unfold Actn.cnt at hk ⊢
 refine hE.run rfl rfl fun W hW=>?_
 conv=>lhs;whnf
 repeat((first|apply hW.t|apply hW.f|(apply hW.q;exact rqc));conv=>lhs;whnf)
 apply hW.w (aAo hE x.n (k) (by omega) (by omega))
 conv=>lhs;whnf
 repeat((first|apply hW.t|apply hW.f|(apply hW.q;exact rqc));conv=>lhs;whnf)
 apply hW.w (pU hE x.out (k+(x.n.cnt:Nat)) (by omega) (by omega))
 conv=>lhs;whnf
 repeat((first|apply hW.t|apply hW.f|(apply hW.q;exact rqc));conv=>lhs;whnf)
 rw[show k+(((x.n.cnt)+(aJ Pkt.cntE x.out):Nat):Int)=k+(x.n.cnt:Nat)+(aJ Pkt.cntE x.out:Nat) from by push_cast;omega]
 rfl
theorem aCm {E:Env} (hE:Sys E) {o:Bool} (x:Actn) (k:Int) (h0:0≤k) (hk:k+x.cnt≤4611686018427387904):E 429 [gv ((x.mrk k).cs aP o),iv k]=some ([iv (k+x.cnt)],[]):=by
 unfold Actn.cnt at hk ⊢
 refine hE.run rfl rfl fun W hW=>?_
 conv=>lhs;whnf
 apply hW.w (aFM hE x.n (k) (by omega) (by omega))
 conv=>lhs;whnf
 try(apply hW.q;exact rqc;conv=>lhs;whnf)
 apply hW.bf (by simp;omega)
 conv=>lhs;whnf
 apply hW.w (aAY hE x.out (k+(x.n.cnt:Nat)) (by omega) (by omega))
 conv=>lhs;whnf
 try(apply hW.q;exact rqc;conv=>lhs;whnf)
 apply hW.bf (by simp;omega)
 conv=>lhs;whnf
 rw[show k+(((x.n.cnt)+(aJ Pkt.cntE x.out):Nat):Int)=k+(x.n.cnt:Nat)+(aJ Pkt.cntE x.out:Nat) from by push_cast;omega]
 rfl
def Beat.mrk (k:Int) (x:Beat):Beat:={ x with n:=x.n.mrk (k),d:=x.d.mrk (k+(x.n.cnt:Nat)),out:=dD Pkt.mrkE Pkt.cntE (k+(x.n.cnt:Nat)+(x.d.cnt:Nat)) x.out }
def Beat.cnt (x:Beat):Nat:=x.n.cnt+x.d.cnt+aJ Pkt.cntE x.out
def World.mrk (k:Int) (x:World):World:={ x with t:=x.t.mrk (k),new:=dD (fun k _=>cD k) (fun _=>1) (k+(x.t.cnt:Nat)) x.new,old:=dD Image.mrkE Image.cntE (k+(x.t.cnt:Nat)+(aJ (fun _=>1) x.new:Nat)) x.old,n:=dD Node.mrkE Node.cntE (k+(x.t.cnt:Nat)+(aJ (fun _=>1) x.new:Nat)+(aJ Image.cntE x.old:Nat)) x.n,d:=dD Disk.mrkE Disk.cntE (k+(x.t.cnt:Nat)+(aJ (fun _=>1) x.new:Nat)+(aJ Image.cntE x.old:Nat)+(aJ Node.cntE x.n:Nat)) x.d,net:=dD Pkt.mrkE Pkt.cntE (k+(x.t.cnt:Nat)+(aJ (fun _=>1) x.new:Nat)+(aJ Image.cntE x.old:Nat)+(aJ Node.cntE x.n:Nat)+(aJ Disk.cntE x.d:Nat)) x.net,log:=dD Sent.mrkE Sent.cntE (k+(x.t.cnt:Nat)+(aJ (fun _=>1) x.new:Nat)+(aJ Image.cntE x.old:Nat)+(aJ Node.cntE x.n:Nat)+(aJ Disk.cntE x.d:Nat)+(aJ Pkt.cntE x.net:Nat)) x.log }
def World.cnt (x:World):Nat:=x.t.cnt+aJ (fun _=>1) x.new+aJ Image.cntE x.old+aJ Node.cntE x.n+aJ Disk.cntE x.d+aJ Pkt.cntE x.net+aJ Sent.cntE x.log
def tJ {α:Type} (p:α→Bool):Nat→List α→Int
 |_,[] => -1
 |n,x::r=>if p x then n else tJ p (n+1) r
theorem aJZ {α:Type} {p:α→Bool} {l:List α}:∀ {n:Nat},tJ p n l = -1∨∃ i:Nat,i<l.length∧tJ p n l=((n+i:Nat):Int):=by
 induction l with
 |nil=>intro n;exact .inl rfl
 |cons x r ih =>
  intro n
  simp only[tJ]
  cases p x
  ·simp only[Bool.false_eq_true,if_false]
   rcases ih (n:=n+1) with h|⟨i,h1,h2⟩
   ·exact .inl h
   ·exact .inr ⟨i+1,by simpa using h1,by rw[h2];congr 1;omega⟩
  ·exact .inr ⟨0,by simp,by simp⟩
def bM (x lo hi:Int):Bool:=decide (lo≤x)&&decide (x≤hi)
def cT (s:Int):Bool:=bM s 0 1099511627775
theorem bG {E:Env} (hE:Sys E) (x lo hi:Int):E 1 [iv x,iv lo,iv hi]=some ([bv (bM x lo hi)],[]):=by
 refine hE.run rfl rfl fun W hW=>?_
 conv=>lhs;whnf
 unfold bM
 apply hW.b<;>intro h1<;>conv=>lhs;whnf
 ·rw[h1]
  repeat((first|apply hW.t|apply hW.f|(apply hW.q;exact rqc));conv=>lhs;whnf)
  simp_all;rfl
 ·rw[h1]
  repeat((first|apply hW.t|apply hW.f|(apply hW.q;exact rqc));conv=>lhs;whnf)
  simp_all;rfl
theorem bJ {E:Env} (hE:Sys E) (x lo hi:Int):E 2 [iv x,iv lo,iv hi]=some ([bv (bM x lo hi)],[]):=by
 refine hE.run rfl rfl fun W hW=>?_
 conv=>lhs;whnf
 unfold bM
 apply hW.b<;>intro h1<;>conv=>lhs;whnf
 ·rw[h1]
  repeat((first|apply hW.t|apply hW.f|(apply hW.q;exact rqc));conv=>lhs;whnf)
  simp_all;rfl
 ·rw[h1]
  repeat((first|apply hW.t|apply hW.f|(apply hW.q;exact rqc));conv=>lhs;whnf)
  simp_all;rfl
theorem bS {E:Env} (hE:Sys E) (s:Int):E 26 [iv s]=some ([bv (cT s)],[]):=by
 refine hE.run rfl rfl fun W hW=>?_
 conv=>lhs;whnf
 apply hW.w (bG hE s 0 1099511627775)
 conv=>lhs;whnf
 try(apply hW.q;exact rqc;conv=>lhs;whnf)
 rfl
theorem cL {E:Env} (hE:Sys E) (s:Int):E 32 [iv s]=some ([bv (cT s)],[]):=by
 refine hE.run rfl rfl fun W hW=>?_
 conv=>lhs;whnf
 apply hW.w (bJ hE s 0 1099511627775)
 conv=>lhs;whnf
 try(apply hW.q;exact rqc;conv=>lhs;whnf)
 rfl
def gF (l:List Kid) (id:Int):Int:=tJ (fun x:Kid=>decide (x.id=id)) 0 l
theorem lJ {E:Env} (hE:Sys E) (l:List Kid) (id:Int) (h0:l.length≤1099511627776):E 25 [sv (l.map Kid.row),iv id]=some ([iv (gF l id)],[]):=by
 refine hE.run rfl rfl fun W hW=>?_
 conv=>lhs;whnf
 refine hW.loop (σ:=Nat) (γ:=Nat) (fun i s=>s.sl 5 (v1 (.t (.int .i64 i)))) (fun i n=>i=n∧n≤l.length) (fun n=>l.length-n) (fun n=>([iv (tJ (fun x:Kid=>decide (x.id=id)) n (l.drop n))],[])) 0 0 ?_ ?_ ?_ ?_
 ·intro K
  conv=>lhs;whnf
  conv=>rhs;whnf
  try rfl
 ·simp
 ·rintro kl n _ ⟨rfl,hn⟩ ih
  conv=>lhs;whnf
  apply hW.b<;>intro h2<;>conv=>lhs;whnf
  ·have h2:n<l.length:=by simpa using h2
   rw[List.drop_eq_getElem_cons h2,tJ]
   repeat((first|apply hW.t|apply hW.f|(apply hW.q;exact rqc)|(refine hW.w (bR ?_) ?_;omega));conv=>lhs;whnf)
   apply hW.b<;>intro h3<;>conv=>lhs;whnf
   ·simp only[h3,if_true];rfl
   ·simp only[h3,if_false,Bool.false_eq_true]
    refine ih (n+1) (n+1) _ ?_ ⟨rfl,by omega⟩ (by omega)
    intro K
    conv=>lhs;whnf
    conv=>rhs;whnf
    try rfl
    rw[show IntKind.i64.wrap ((n:Int)+1)=_ from aH (by omega)]
  ·have:n=l.length:=by simp at h2;omega
   subst this
   rw[List.drop_length];rfl
 ·rfl
theorem aHA {E:Env} (hE:Sys E) (x:Kid) (id:Int):E 102 [gv x.cs, .pt false [ci id]]=some ([bv (decide (x.id=id))],[]):=by
 refine hE.run rfl rfl fun W hW=>?_
 conv=>lhs;whnf
 rfl
theorem rH {E:Env} (hE:Sys E) (l:List Kid) (h0:l.length≤1099511627776) (id:Int):E 29 [sv (l.map Kid.row), .fn 102 [[ci id]]]=some ([iv (tJ (fun x:Kid=>decide (x.id=id)) 0 l)],[]):=by
 have hrl:(l.map Kid.row).length=l.length:=by simp[bys,bN]
 refine hE.run rfl rfl fun W hW=>?_
 conv=>lhs;whnf
 refine hW.loop (σ:=Nat) (γ:=Nat) (fun i s=>s.sl 8 (v1 (.t (.int .i64 i)))) (fun i n=>i=n∧n≤l.length) (fun n=>l.length-n) (fun n=>([iv (tJ (fun x:Kid=>decide (x.id=id)) n (l.drop n))],[])) 0 0 ?_ ?_ ?_ ?_
 ·intro K
  conv=>lhs;whnf
  conv=>rhs;whnf
  try rfl
 ·simp
 ·rintro kl n _ ⟨rfl,hn⟩ ih
  conv=>lhs;whnf
  apply hW.b<;>intro h2<;>conv=>lhs;whnf
  ·have h2:n<l.length:=by simpa[hrl] using h2
   rw[List.drop_eq_getElem_cons h2]
   repeat((first|apply hW.t|apply hW.f|(apply hW.q;exact rqc)|(refine hW.w (bR ?_) ?_;omega));conv=>lhs;whnf)
   apply hW.w (aHA hE l[n] id)
   conv=>lhs;whnf
   try(apply hW.q;exact rqc;conv=>lhs;whnf)
   simp only[tJ]
   apply hW.b<;>intro h3<;>conv=>lhs;whnf
   ·simp only[h3,if_true];rfl
   ·simp only[h3,if_false,Bool.false_eq_true]
    refine ih (n+1) (n+1) _ ?_ ⟨rfl,by omega⟩ (by omega)
    intro K
    conv=>lhs;whnf
    conv=>rhs;whnf
    try rfl
    rw[show IntKind.i64.wrap ((n:Int)+1)=_ from aH (by omega)]
    try rfl
  ·have:n=l.length:=by simp[hrl]at h2;omega
   subst this
   rw[List.drop_length];rfl
 ·rfl
theorem lK {E:Env} (hE:Sys E) (l:List Kid) (id:Int) (h0:l.length≤1099511627776):E 31 [sv (l.map Kid.row),iv id]=some ([iv (gF l id)],[]):=by
 refine hE.run rfl rfl fun W hW=>?_
 conv=>lhs;whnf
 apply hW.w (rH hE l h0 id)
 conv=>lhs;whnf
 try(apply hW.q;exact rqc;conv=>lhs;whnf)
 rfl
theorem oJ {E:Env} (hE:Sys E) (l:List Kid) (h0:l.length≤68719476736):E 30 [sv (l.map Kid.row)]=some ([ov 5 (l.map Kid.row)],[]):=by
 have hfl:mD (l.map Kid.row)=true:=uF (fun _=>rfl) l
 have hrl:(l.map Kid.row).length=l.length:=by simp[bys,bN]
 have hro:∀ e∈l.map Kid.row,e.length=5:=aMG fun _=>rfl
 refine hE.run2 rfl rfl (fun W hW=>?_) (fun he W hW=>?_)
 ·conv=>lhs;whnf
  repeat((first|apply hW.t|apply hW.f|(apply hW.q;exact rqc));conv=>lhs;whnf)
  refine hW.q (by exact⟨by decide,hro,by simp only[List.length_nil,hrl];omega,by simp only[List.length_nil,hrl];omega⟩) ?_
  conv=>lhs;whnf
  apply hW.bt (hfl)
  conv=>lhs;whnf
  rfl
 ·cases l with
  |cons x r=>exact absurd (show false=true from he) (by decide)
  |nil =>
   conv=>lhs;whnf
   repeat((first|apply hW.t|apply hW.f|(apply hW.q;exact rqc));conv=>lhs;whnf)
   rfl
def Node.limk (n:Node):Prop:=n.man.sums.length≤1048576∧n.bld.buf.length≤1048576∧n.kids.length≤4194304
theorem Node.lim.k {n:Node} (h:n.lim 1048576):n.limk:=⟨h.1,h.2.1,Nat.le_trans h.2.2 (by decide)⟩
theorem Node.limk.l4 {n:Node} (h:n.limk):n.lim 4194304:=⟨Nat.le_trans h.1 (by decide),Nat.le_trans h.2.1 (by decide),h.2.2⟩
theorem Node.limk.l8 {n:Node} (h:n.limk):n.lim 8388608:=Node.lim_mono (by decide) h.l4
abbrev aHB (n:Node):Int:=n.bld.hav
def wor (a b:Int):Int:=IntKind.i64.wrap (BitVec.ofInt IntKind.i64.bits a ||| BitVec.ofInt IntKind.i64.bits b).toNat
theorem mM {l:List Kid} {id:Int} (h:¬ gF l id<0):∃ n:Nat,∃ _:n<l.length,gF l id=n:=by
 rcases aJZ (p:=fun x:Kid=>decide (x.id=id)) (l:=l) (n:=0) with h1|⟨i,h1,h2⟩
 ·rw[show gF l id=_ from h1]at h;exact absurd (by decide) h
 ·exact⟨i,h1,by rw[show gF l id=_ from h2];simp⟩
def cZ (l:List Kid) (id s:Int):List Kid :=
 match l[(gF l id).toNat]? with
 |none=>l
 |some x=>if gF l id<0∨cT s=false∨cT x.sent=false then l else l.set (gF l id).toNat { x with sent:=wor x.sent s }
theorem gW (l:List Kid) (id s:Int):(cZ l id s).length=l.length:=by
 unfold cZ
 split
 ·rfl
 ·split<;>simp
theorem pV {l:List Kid} {id s:Int} (h:gF l id<0):cZ l id s=l:=by
 unfold cZ;split
 ·rfl
 ·rw[if_pos (.inl h)]
theorem sP {l:List Kid} {id s:Int} {n:Nat} (hn:n<l.length) (h:gF l id=n):cZ l id s=if cT s=false∨cT l[n].sent=false then l else l.set n { l[n] with sent:=wor l[n].sent s }:=by
 unfold cZ
 rw[h,Int.toNat_natCast,List.getElem?_eq_getElem hn]
 simp only[show ¬ ((n:Int)<0) from by omega,false_or]
theorem lL (l:List Kid):mD (l.map Kid.row)=true:=uF (fun _=>rfl) l
theorem kids_rows (l:List Kid):∀ e∈l.map Kid.row,e.length=5:=aMG fun _=>rfl
theorem lM {E:Env} (hE:Sys E) (l:List Kid) (id s:Int) (h0:l.length≤4194304):E 36 [sv (l.map Kid.row),iv id,iv s]=some ([ov 5 ((cZ l id s).map Kid.row)],[]):=by
 refine hE.run rfl rfl fun W hW=>?_
 conv=>lhs;whnf
 repeat((first|apply hW.t|apply hW.f|(apply hW.q;exact rqc));conv=>lhs;whnf)
 refine hW.q (by exact⟨by decide,kids_rows l,by simp;omega,by simp;omega⟩) ?_
 conv=>lhs;whnf
 apply hW.bt (lL l)
 conv=>lhs;whnf
 apply hW.w (lJ hE l id (by omega))
 conv=>lhs;whnf
 try(apply hW.q;exact rqc;conv=>lhs;whnf)
 apply hW.b<;>intro h1<;>conv=>lhs;whnf
 ·repeat((first|apply hW.t|apply hW.f|(apply hW.q;exact rqc));conv=>lhs;whnf)
  have h1:gF l id<0:=by simpa using h1
  rw[pV h1];rfl
 ·obtain⟨n,hn,hk⟩:=mM (by simpa using h1)
  rw[sP hn hk,hk]
  repeat((first|apply hW.t|apply hW.f|(apply hW.q;exact rqc));conv=>lhs;whnf)
  apply hW.w (bS hE s)
  conv=>lhs;whnf
  repeat((first|apply hW.t|apply hW.f|(apply hW.q;exact rqc));conv=>lhs;whnf)
  apply hW.b<;>intro h2<;>conv=>lhs;whnf
  ·repeat((first|apply hW.t|apply hW.f|(apply hW.q;exact rqc));conv=>lhs;whnf)
   rw[if_pos (.inl (by simpa using h2))];rfl
  ·repeat((first|apply hW.t|apply hW.f|(apply hW.q;exact rqc)|(refine hW.w (bR ?_) ?_;omega));conv=>lhs;whnf)
   apply hW.w (bS hE l[n].sent)
   conv=>lhs;whnf
   repeat((first|apply hW.t|apply hW.f|(apply hW.q;exact rqc));conv=>lhs;whnf)
   apply hW.b<;>intro h3<;>conv=>lhs;whnf
   ·repeat((first|apply hW.t|apply hW.f|(apply hW.q;exact rqc));conv=>lhs;whnf)
    rw[if_pos (.inr (by simpa using h3))];rfl
   ·rw[if_neg (by simp at h2 h3;simp[h2,h3]),List.map_set]
    repeat((first|apply hW.t|apply hW.f|(apply hW.q;exact rqc)|(refine hW.w (bR ?_) ?_;omega));conv=>lhs;whnf)
    rfl
theorem lN {E:Env} (hE:Sys E) (l:List Kid) (id s:Int) (h0:l.length≤4194304):E 37 [sv (l.map Kid.row),iv id,iv s]=some ([ov 5 ((cZ l id s).map Kid.row)],[]):=by
 refine hE.run rfl rfl fun W hW=>?_
 conv=>lhs;whnf
 apply hW.w (oJ hE l (by omega))
 conv=>lhs;whnf
 repeat((first|apply hW.t|apply hW.f|(apply hW.q;exact rqc));conv=>lhs;whnf)
 apply hW.w (lK hE l id (by omega))
 conv=>lhs;whnf
 repeat((first|apply hW.t|apply hW.f|(apply hW.q;exact rqc));conv=>lhs;whnf)
 apply hW.b<;>intro h1<;>conv=>lhs;whnf
 ·obtain⟨n,hn,hk⟩:=mM (l:=l) (id:=id) (by simpa using h1)
  rw[sP hn hk,hk]
  repeat((first|apply hW.t|apply hW.f|(apply hW.q;exact rqc));conv=>lhs;whnf)
  apply hW.w (cL hE s)
  conv=>lhs;whnf
  repeat((first|apply hW.t|apply hW.f|(apply hW.q;exact rqc));conv=>lhs;whnf)
  apply hW.b<;>intro h2<;>conv=>lhs;whnf
  ·repeat((first|apply hW.t|apply hW.f|(apply hW.q;exact rqc)|(refine hW.w (bR ?_) ?_;omega));conv=>lhs;whnf)
   apply hW.w (cL hE l[n].sent)
   conv=>lhs;whnf
   repeat((first|apply hW.t|apply hW.f|(apply hW.q;exact rqc));conv=>lhs;whnf)
   apply hW.b<;>intro h3<;>conv=>lhs;whnf
   ·rw[if_neg (by rintro(h|h)<;>simp_all),List.map_set]
    repeat((first|apply hW.t|apply hW.f|(apply hW.q;exact rqc)|(refine hW.w (bR ?_) ?_;omega));conv=>lhs;whnf)
    rfl
   ·repeat((first|apply hW.t|apply hW.f|(apply hW.q;exact rqc));conv=>lhs;whnf)
    rw[if_pos (.inr (by simpa using h3))];rfl
  ·repeat((first|apply hW.t|apply hW.f|(apply hW.q;exact rqc));conv=>lhs;whnf)
   rw[if_pos (.inl (by simpa using h2))];rfl
 ·repeat((first|apply hW.t|apply hW.f|(apply hW.q;exact rqc));conv=>lhs;whnf)
  have h1:gF l id<0:=by simpa using h1
  rw[pV h1];rfl
theorem bT {x lo hi:Int} (h:bM x lo hi=true):lo≤x∧x≤hi:=by simpa[bM] using h
theorem iD {b:Bool} (h:(!b)=false):b=true:=by simpa using h
theorem kO {b:Bool} (h:(!b)=true):b=false:=by simpa using h
def jW (n:Int):Int:=if bM n 0 40=true then IntKind.i64.wrap (IntKind.i64.wrap (1*2 ^ (min n.toNat IntKind.i64.bits))-1) else 0
theorem xZ {E:Env} (hE:Sys E) (n:Int):E 89 [iv n]=some ([iv (jW n)],[]):=by
 refine hE.run rfl rfl fun W hW=>?_
 conv=>lhs;whnf
 apply hW.w (bG hE n 0 40)
 conv=>lhs;whnf
 try(apply hW.q;exact rqc;conv=>lhs;whnf)
 unfold jW
 apply hW.b<;>intro h1<;>conv=>lhs;whnf
 ·rw[kO h1]
  repeat((first|apply hW.t|apply hW.f|(apply hW.q;exact rqc));conv=>lhs;whnf)
  rfl
 ·rw[iD h1]
  have:=bT (iD h1)
  repeat((first|apply hW.t|apply hW.f|(apply hW.q;exact rqc));conv=>lhs;whnf)
  rfl
theorem yA {E:Env} (hE:Sys E) (n:Int):E 93 [iv n]=some ([iv (jW n)],[]):=by
 refine hE.run rfl rfl fun W hW=>?_
 conv=>lhs;whnf
 apply hW.w (bJ hE n 0 40)
 conv=>lhs;whnf
 try(apply hW.q;exact rqc;conv=>lhs;whnf)
 unfold jW
 apply hW.b<;>intro h1<;>conv=>lhs;whnf
 ·rw[kO h1]
  repeat((first|apply hW.t|apply hW.f|(apply hW.q;exact rqc));conv=>lhs;whnf)
  rfl
 ·rw[iD h1]
  have:=bT (iD h1)
  repeat((first|apply hW.t|apply hW.f|(apply hW.q;exact rqc));conv=>lhs;whnf)
  rfl
def cQ (m:Man):Int:=jW m.sums.length
theorem vT {E:Env} (hE:Sys E) (m:Man):E 90 [gv (m.cs aP)]=some ([iv (cQ m)],[]):=by
 refine hE.run rfl rfl fun W hW=>?_
 conv=>lhs;whnf
 rw[show(m.sums.map Sum.row).length=m.sums.length from List.length_map _]
 apply hW.w (xZ hE m.sums.length)
 conv=>lhs;whnf
 try(apply hW.q;exact rqc;conv=>lhs;whnf)
 rfl
theorem vU {E:Env} (hE:Sys E) (m:Man):E 94 [gv (m.cs aP)]=some ([iv (cQ m)],[]):=by
 refine hE.run rfl rfl fun W hW=>?_
 conv=>lhs;whnf
 rw[show(m.sums.map Sum.row).length=m.sums.length from List.length_map _]
 apply hW.w (yA hE m.sums.length)
 conv=>lhs;whnf
 try(apply hW.q;exact rqc;conv=>lhs;whnf)
 rfl
def yB (a b:Int):Int:=IntKind.i64.wrap (BitVec.ofInt IntKind.i64.bits a &&& ~~~BitVec.ofInt IntKind.i64.bits b).toNat
def uJ (a b:Int):Int:=if cT a=true∧cT b=true then yB a b else 0
theorem yC {E:Env} (hE:Sys E) (a b:Int):E 91 [iv a,iv b]=some ([iv (uJ a b)],[]):=by
 refine hE.run rfl rfl fun W hW=>?_
 conv=>lhs;whnf
 apply hW.w (bS hE a)
 conv=>lhs;whnf
 try(apply hW.q;exact rqc;conv=>lhs;whnf)
 unfold uJ
 repeat((first|apply hW.t|apply hW.f|(apply hW.q;exact rqc));conv=>lhs;whnf)
 apply hW.b<;>intro h1<;>conv=>lhs;whnf
 ·rw[if_neg (by rintro⟨h,_⟩;rw[h]at h1;cases h1)]
  repeat((first|apply hW.t|apply hW.f|(apply hW.q;exact rqc));conv=>lhs;whnf)
  rfl
 ·rw[iD h1]
  repeat((first|apply hW.t|apply hW.f|(apply hW.q;exact rqc));conv=>lhs;whnf)
  apply hW.w (bS hE b)
  conv=>lhs;whnf
  repeat((first|apply hW.t|apply hW.f|(apply hW.q;exact rqc));conv=>lhs;whnf)
  apply hW.b<;>intro h2<;>conv=>lhs;whnf
  ·rw[kO h2]
   repeat((first|apply hW.t|apply hW.f|(apply hW.q;exact rqc));conv=>lhs;whnf)
   rfl
  ·rw[iD h2]
   repeat((first|apply hW.t|apply hW.f|(apply hW.q;exact rqc));conv=>lhs;whnf)
   rfl
theorem mY {E:Env} (hE:Sys E) (i:Int):E 128 [iv i]=some ([bv (bM i 0 39)],[]):=by
 refine hE.run rfl rfl fun W hW=>?_
 conv=>lhs;whnf
 apply hW.w (bJ hE i 0 39)
 conv=>lhs;whnf
 try(apply hW.q;exact rqc;conv=>lhs;whnf)
 rfl
theorem mZ {E:Env} (hE:Sys E) (i:Int):E 1 [iv i,iv 0,iv 39]=some ([bv (bM i 0 39)],[]):=bG hE i 0 39
def aFN (n:Int):Int:=IntKind.i64.wrap (1*2 ^ (min n.toNat IntKind.i64.bits))
def jE (s i:Int):Int:=if cT s=true∧bM i 0 39=true then wor s (aFN i) else s
theorem lO {E:Env} (hE:Sys E) (s i:Int):E 123 [iv s,iv i]=some ([iv (jE s i)],[]):=by
 refine hE.run rfl rfl fun W hW=>?_
 conv=>lhs;whnf
 apply hW.w (bS hE s)
 conv=>lhs;whnf
 try(apply hW.q;exact rqc;conv=>lhs;whnf)
 unfold jE
 repeat((first|apply hW.t|apply hW.f|(apply hW.q;exact rqc));conv=>lhs;whnf)
 apply hW.b<;>intro h1<;>conv=>lhs;whnf
 ·rw[if_neg (by rintro⟨h,_⟩;rw[h]at h1;cases h1)]
  repeat((first|apply hW.t|apply hW.f|(apply hW.q;exact rqc));conv=>lhs;whnf)
  rfl
 ·rw[iD h1]
  repeat((first|apply hW.t|apply hW.f|(apply hW.q;exact rqc));conv=>lhs;whnf)
  apply hW.w (mZ hE i)
  conv=>lhs;whnf
  repeat((first|apply hW.t|apply hW.f|(apply hW.q;exact rqc));conv=>lhs;whnf)
  apply hW.b<;>intro h2<;>conv=>lhs;whnf
  ·rw[kO h2]
   repeat((first|apply hW.t|apply hW.f|(apply hW.q;exact rqc));conv=>lhs;whnf)
   rfl
  ·rw[iD h2]
   have:=bT (iD h2)
   repeat((first|apply hW.t|apply hW.f|(apply hW.q;exact rqc));conv=>lhs;whnf)
   rfl
def dP (s i:Int):Bool:=cT s&&(bM i 0 39&&decide (IntKind.i64.wrap (BitVec.ofInt IntKind.i64.bits (s.fdiv (2 ^ (min i.toNat IntKind.i64.bits))) &&& BitVec.ofInt IntKind.i64.bits 1).toNat=1))
theorem dA {E:Env} (hE:Sys E) (s i:Int):E 132 [iv s,iv i]=some ([bv (dP s i)],[]):=by
 refine hE.run rfl rfl fun W hW=>?_
 conv=>lhs;whnf
 apply hW.w (bS hE s)
 conv=>lhs;whnf
 try(apply hW.q;exact rqc;conv=>lhs;whnf)
 unfold dP
 repeat((first|apply hW.t|apply hW.f|(apply hW.q;exact rqc));conv=>lhs;whnf)
 apply hW.b<;>intro h1<;>conv=>lhs;whnf
 ·rw[h1]
  repeat((first|apply hW.t|apply hW.f|(apply hW.q;exact rqc));conv=>lhs;whnf)
  apply hW.w (mZ hE i)
  conv=>lhs;whnf
  repeat((first|apply hW.t|apply hW.f|(apply hW.q;exact rqc));conv=>lhs;whnf)
  apply hW.b<;>intro h2<;>conv=>lhs;whnf
  ·rw[h2]
   have:=bT h2
   repeat((first|apply hW.t|apply hW.f|(apply hW.q;exact rqc));conv=>lhs;whnf)
   rfl
  ·rw[h2]
   repeat((first|apply hW.t|apply hW.f|(apply hW.q;exact rqc));conv=>lhs;whnf)
   rfl
 ·rw[h1]
  repeat((first|apply hW.t|apply hW.f|(apply hW.q;exact rqc));conv=>lhs;whnf)
  rfl
theorem dH {E:Env} (hE:Sys E) (s i:Int):E 135 [iv s,iv i]=some ([bv (dP s i)],[]):=by
 refine hE.run rfl rfl fun W hW=>?_
 conv=>lhs;whnf
 apply hW.w (cL hE s)
 conv=>lhs;whnf
 try(apply hW.q;exact rqc;conv=>lhs;whnf)
 unfold dP
 repeat((first|apply hW.t|apply hW.f|(apply hW.q;exact rqc));conv=>lhs;whnf)
 apply hW.b<;>intro h1<;>conv=>lhs;whnf
 ·rw[h1]
  repeat((first|apply hW.t|apply hW.f|(apply hW.q;exact rqc));conv=>lhs;whnf)
  apply hW.w (mY hE i)
  conv=>lhs;whnf
  repeat((first|apply hW.t|apply hW.f|(apply hW.q;exact rqc));conv=>lhs;whnf)
  apply hW.b<;>intro h2<;>conv=>lhs;whnf
  ·rw[h2]
   have:=bT h2
   repeat((first|apply hW.t|apply hW.f|(apply hW.q;exact rqc));conv=>lhs;whnf)
   rfl
  ·rw[h2]
   repeat((first|apply hW.t|apply hW.f|(apply hW.q;exact rqc));conv=>lhs;whnf)
   rfl
 ·rw[h1]
  repeat((first|apply hW.t|apply hW.f|(apply hW.q;exact rqc));conv=>lhs;whnf)
  rfl
theorem aCn (a:aE):(⟨a.toArray⟩:ByteArray).toList=a:=by rw[ByteArray.toList_eq]
theorem aAZ {E:Env} (hE:Sys E) (a b:aE):E 14 [sv (bys a),sv (bys b)]=some ([bv (decide (a=b))],[]):=by
 refine hE.run rfl rfl fun W hW=>?_
 conv=>lhs;whnf
 apply hW.w (aAl a)
 conv=>lhs;whnf
 try(apply hW.q;exact rqc;conv=>lhs;whnf)
 apply hW.w (aAl b)
 conv=>lhs;whnf
 try(apply hW.q;exact rqc;conv=>lhs;whnf)
 simp only[aCn]
 rfl
theorem tK {E:Env} (hE:Sys E) (a b:aE):E 15 [sv (bys a),sv (bys b)]=some ([bv (decide (a=b))],[]):=by
 refine hE.run rfl rfl fun W hW=>?_
 conv=>lhs;whnf
 apply hW.w (aAZ hE a b)
 conv=>lhs;whnf
 try(apply hW.q;exact rqc;conv=>lhs;whnf)
 rfl
theorem lP {E:Env} (hE:Sys E) (l m:List Sum) (h0:l.length≤1099511627776):E 235 [sv (l.map Sum.row),sv (m.map Sum.row)]=some ([bv (decide (l=m))],[]):=by
 refine hE.run rfl rfl fun W hW=>?_
 conv=>lhs;whnf
 apply hW.b<;>intro h<;>conv=>lhs;whnf
 ·have:l≠m:=by rintro rfl;simp at h
  rw[decide_eq_false this];rfl
 ·have h:l.length=m.length:=by simp at h;omega
  refine hW.loop (σ:=Nat) (γ:=Nat) (fun i s=>s.sl 5 (v1 (.t (.int .i64 i)))) (fun i n=>i=n∧n≤l.length) (fun n=>l.length-n) (fun n=>([bv (decide (l.drop n=m.drop n))],[])) 0 0 ?_ ?_ ?_ ?_
  ·intro K
   conv=>lhs;whnf
   conv=>rhs;whnf
   try rfl
  ·simp
  ·rintro kl n _ ⟨rfl,hn⟩ ih
   conv=>lhs;whnf
   apply hW.b<;>intro h2<;>conv=>lhs;whnf
   ·have h2:n<l.length:=by simpa using h2
    rw[List.drop_eq_getElem_cons h2,List.drop_eq_getElem_cons (l:=m) (i:=n) (by omega)]
    repeat((first|apply hW.t|apply hW.f|(apply hW.q;exact rqc)|(refine hW.w (bR ?_) ?_;omega));conv=>lhs;whnf)
    apply hW.b<;>intro h3<;>conv=>lhs;whnf
    ·have h3:l[n]≠m[n]:=by intro e;rw[e]at h3;simp at h3
     rw[decide_eq_false fun e=>h3 (List.cons.inj e).1];rfl
    ·have h3:l[n]=m[n]:=by
      revert h3
      generalize l[n]=x
      generalize m[n]=y
      cases x;cases y
      simp
     simp only[h3,List.cons.injEq,true_and]
     refine ih (n+1) (n+1) _ ?_ ⟨rfl,by omega⟩ (by omega)
     intro K
     conv=>lhs;whnf
     conv=>rhs;whnf
     try rfl
     rw[show IntKind.i64.wrap ((n:Int)+1)=_ from aH (by omega)]
     try rfl
   ·have:n=l.length:=by simp at h2;omega
    subst this
    rw[List.drop_length,h,List.drop_length];rfl
  ·rfl
theorem lQ {E:Env} (hE:Sys E) (l m:List Sum) (h0:l.length≤1099511627776):E 248 [sv (l.map Sum.row),sv (m.map Sum.row)]=some ([bv (decide (l=m))],[]):=by
 refine hE.run rfl rfl fun W hW=>?_
 conv=>lhs;whnf
 apply hW.b<;>intro h<;>conv=>lhs;whnf
 ·have:l≠m:=by rintro rfl;simp at h
  rw[decide_eq_false this];rfl
 ·have h:l.length=m.length:=by simp at h;omega
  refine hW.loop (σ:=Nat) (γ:=Nat) (fun i s=>s.sl 13 (v1 (.t (.int .i64 i)))) (fun i n=>i=n∧n≤l.length) (fun n=>l.length-n) (fun n=>([bv (decide (l.drop n=m.drop n))],[])) 0 0 ?_ ?_ ?_ ?_
  ·intro K
   conv=>lhs;whnf
   conv=>rhs;whnf
   try rfl
  ·simp
  ·rintro kl n _ ⟨rfl,hn⟩ ih
   conv=>lhs;whnf
   apply hW.b<;>intro h2<;>conv=>lhs;whnf
   ·have h2:n<l.length:=by simpa using h2
    rw[List.drop_eq_getElem_cons h2,List.drop_eq_getElem_cons (l:=m) (i:=n) (by omega)]
    repeat((first|apply hW.t|apply hW.f|(apply hW.q;exact rqc)|(refine hW.w (bR ?_) ?_;omega));conv=>lhs;whnf)
    apply hW.b<;>intro h3<;>conv=>lhs;whnf
    ·have h3:l[n]≠m[n]:=by intro e;rw[e]at h3;simp at h3
     rw[decide_eq_false fun e=>h3 (List.cons.inj e).1];rfl
    ·have h3:l[n]=m[n]:=by
      revert h3
      generalize l[n]=x
      generalize m[n]=y
      cases x;cases y
      simp
     simp only[h3,List.cons.injEq,true_and]
     refine ih (n+1) (n+1) _ ?_ ⟨rfl,by omega⟩ (by omega)
     intro K
     conv=>lhs;whnf
     conv=>rhs;whnf
     try rfl
     rw[show IntKind.i64.wrap ((n:Int)+1)=_ from aH (by omega)]
     try rfl
   ·have:n=l.length:=by simp at h2;omega
    subst this
    rw[List.drop_length,h,List.drop_length];rfl
  ·rfl
theorem eK {E:Env} (hE:Sys E) (a b:Man) (h0:a.sums.length≤1099511627776):E 285 [gv (a.cs aP),gv (b.cs aP)]=some ([bv (decide (a=b))],[]):=by
 refine hE.run rfl rfl fun W hW=>?_
 conv=>lhs;whnf
 have key:decide (a=b)=(decide (a.gen=b.gen)&&(decide (a.size=b.size)&&(decide (a.len=b.len)&&decide (a.sums=b.sums)))):=by
  cases a;cases b;simp
 rw[key]
 apply hW.b<;>intro h1<;>conv=>lhs;whnf
 ·rw[h1]
  repeat((first|apply hW.t|apply hW.f|(apply hW.q;exact rqc));conv=>lhs;whnf)
  apply hW.b<;>intro h2<;>conv=>lhs;whnf
  ·rw[h2]
   repeat((first|apply hW.t|apply hW.f|(apply hW.q;exact rqc));conv=>lhs;whnf)
   apply hW.b<;>intro h3<;>conv=>lhs;whnf
   ·rw[h3]
    repeat((first|apply hW.t|apply hW.f|(apply hW.q;exact rqc));conv=>lhs;whnf)
    apply hW.w (lP hE a.sums b.sums h0)
    conv=>lhs;whnf
    repeat((first|apply hW.t|apply hW.f|(apply hW.q;exact rqc));conv=>lhs;whnf)
    rfl
   ·rw[h3]
    repeat((first|apply hW.t|apply hW.f|(apply hW.q;exact rqc));conv=>lhs;whnf)
    rfl
  ·rw[h2]
   repeat((first|apply hW.t|apply hW.f|(apply hW.q;exact rqc));conv=>lhs;whnf)
   rfl
 ·rw[h1]
  repeat((first|apply hW.t|apply hW.f|(apply hW.q;exact rqc));conv=>lhs;whnf)
  rfl
theorem yD {E:Env} (hE:Sys E) (a b:Man) (h0:a.sums.length≤1099511627776):E 286 [gv (a.cs aP),gv (b.cs aP)]=some ([bv (decide (a=b))],[]):=by
 refine hE.run rfl rfl fun W hW=>?_
 conv=>lhs;whnf
 have key:decide (a=b)=(decide (a.gen=b.gen)&&(decide (a.size=b.size)&&(decide (a.len=b.len)&&decide (a.sums=b.sums)))):=by
  cases a;cases b;simp
 rw[key]
 apply hW.b<;>intro h1<;>conv=>lhs;whnf
 ·rw[h1]
  repeat((first|apply hW.t|apply hW.f|(apply hW.q;exact rqc));conv=>lhs;whnf)
  apply hW.b<;>intro h2<;>conv=>lhs;whnf
  ·rw[h2]
   repeat((first|apply hW.t|apply hW.f|(apply hW.q;exact rqc));conv=>lhs;whnf)
   apply hW.b<;>intro h3<;>conv=>lhs;whnf
   ·rw[h3]
    repeat((first|apply hW.t|apply hW.f|(apply hW.q;exact rqc));conv=>lhs;whnf)
    apply hW.w (lQ hE a.sums b.sums h0)
    conv=>lhs;whnf
    repeat((first|apply hW.t|apply hW.f|(apply hW.q;exact rqc));conv=>lhs;whnf)
    rfl
   ·rw[h3]
    repeat((first|apply hW.t|apply hW.f|(apply hW.q;exact rqc));conv=>lhs;whnf)
    rfl
  ·rw[h2]
   repeat((first|apply hW.t|apply hW.f|(apply hW.q;exact rqc));conv=>lhs;whnf)
   rfl
 ·rw[h1]
  repeat((first|apply hW.t|apply hW.f|(apply hW.q;exact rqc));conv=>lhs;whnf)
  rfl
def lR (s:Int):Nat→Nat→List Int
 |_,0=>[]
 |i,k+1=>if dP s i=true then(i:Int)::lR s (i+1) k else lR s (i+1) k
def dR (s:Int):List Int:=lR s 0 40
theorem aFO {s:Int}:∀ {k i:Nat},(lR s i k).length≤k:=by
 intro k
 induction k with
 |zero=>intro i;exact Nat.le_refl _
 |succ k ih =>
  intro i
  simp only[lR]
  split
  ·have:=ih (i:=i+1);simp only[List.length_cons];omega
  ·have:=ih (i:=i+1);omega
theorem lS {s:Int}:(dR s).length≤40:=aFO
theorem yE {E:Env} (hE:Sys E) (s:Int):E 134 [iv s]=some ([ov 1 (bN (dR s))],[]):=by
 refine hE.run rfl rfl fun W hW=>?_
 conv=>lhs;whnf
 refine hW.loop (σ:=Nat × List Int) (γ:=Nat) (fun i s=>(s.sl 6 (v1 (.t (.int .i64 i.1)))).bl ⟨50300,1, .own,bN i.2⟩) (fun i m=>i.1=m∧m≤40∧i.2.length≤m∧i.2++lR s m (40-m)=dR s) (fun m=>40-m) (fun _=>([ov 1 (bN (dR s))],[])) (0,[]) 0 ?_ ?_ ?_ ?_
 ·intro K
  conv=>lhs;whnf
  conv=>rhs;whnf
  try rfl
 ·exact⟨rfl,by omega,by simp,rfl⟩
 ·rintro kl ⟨m,acc⟩ _ ⟨rfl,hm,hl,hs⟩ ih
  simp only at hs hm hl
  conv=>lhs;whnf
  apply hW.b<;>intro h1<;>conv=>lhs;whnf
  ·have h1:m<40:=by
    have:(m:Int)<40:=by simpa using h1
    omega
   rw[show 40-m=(40-(m+1))+1 from by omega,lR]at hs
   repeat((first|apply hW.t|apply hW.f|(apply hW.q;exact rqc));conv=>lhs;whnf)
   apply hW.w (dH hE s m)
   conv=>lhs;whnf
   try(apply hW.q;exact rqc;conv=>lhs;whnf)
   apply hW.b<;>intro h3<;>conv=>lhs;whnf
   ·rw[if_pos h3]at hs
    repeat((first|apply hW.t|apply hW.f|(apply hW.q;exact rqc));conv=>lhs;whnf)
    refine hW.q (by exact⟨by decide,by intro e he;simp at he;subst he;rfl,by simp[bN];omega,by simp[bN];omega⟩) ?_
    conv=>lhs;whnf
    repeat((first|apply hW.t|apply hW.f|(apply hW.q;exact rqc));conv=>lhs;whnf)
    refine ih (m+1,acc++[(m:Int)]) (m+1) _ ?_ ⟨rfl,by omega,by simp;omega,by simpa using hs⟩ (by omega)
    intro K
    conv=>lhs;whnf
    conv=>rhs;whnf
    try rfl
    rw[show IntKind.i64.wrap ((m:Int)+1)=_ from aH (by omega)]
    simp[bN,qQ]
   ·rw[if_neg (by rw[h3];decide)]at hs
    repeat((first|apply hW.t|apply hW.f|(apply hW.q;exact rqc));conv=>lhs;whnf)
    refine ih (m+1,acc) (m+1) _ ?_ ⟨rfl,by omega,by simp only;omega,hs⟩ (by omega)
    intro K
    conv=>lhs;whnf
    conv=>rhs;whnf
    try rfl
    rw[show IntKind.i64.wrap ((m:Int)+1)=_ from aH (by omega)]
    try rfl
  ·have:m=40:=by
    have:¬ (m:Int)<40:=by simpa using h1
    omega
   subst this
   simp only[Nat.sub_self,lR,List.append_nil]at hs
   repeat((first|apply hW.t|apply hW.f|(apply hW.q;exact rqc));conv=>lhs;whnf)
   rw[← hs];rfl
 ·rfl
theorem aHC (l:List Sum):mD (l.map Sum.row)=true:=uF (fun _=>rfl) l
theorem aHD (l:List Sum):∀ e∈l.map Sum.row,e.length=2:=aMG fun _=>rfl
theorem aF (l:aE):(bys l).length=l.length:=List.length_map _
theorem aDt {E:Env} (hE:Sys E) (l:List Sum) (h0:l.length≤68719476736):E 218 [sv (l.map Sum.row)]=some ([ov 2 (l.map Sum.row)],[]):=by
 have hfl:mD (l.map Sum.row)=true:=uF (fun _=>rfl) l
 have hrl:(l.map Sum.row).length=l.length:=by simp[bys,bN]
 have hro:∀ e∈l.map Sum.row,e.length=2:=aMG fun _=>rfl
 refine hE.run2 rfl rfl (fun W hW=>?_) (fun he W hW=>?_)
 ·conv=>lhs;whnf
  repeat((first|apply hW.t|apply hW.f|(apply hW.q;exact rqc));conv=>lhs;whnf)
  refine hW.q (by exact⟨by decide,hro,by simp only[List.length_nil,hrl];omega,by simp only[List.length_nil,hrl];omega⟩) ?_
  conv=>lhs;whnf
  apply hW.bt (hfl)
  conv=>lhs;whnf
  rfl
 ·cases l with
  |cons x r=>exact absurd (show false=true from he) (by decide)
  |nil =>
   conv=>lhs;whnf
   repeat((first|apply hW.t|apply hW.f|(apply hW.q;exact rqc));conv=>lhs;whnf)
   rfl
theorem cJ {E:Env} (hE:Sys E) (b:aE) (h0:b.length≤68719476736):E 42 [sv (bys b)]=some ([ov 1 (bys b)],[]):=by
 refine hE.run rfl rfl fun W hW=>?_
 conv=>lhs;whnf
 refine hW.q (by exact⟨by omega, .inr rfl,by omega,by rw[aF];omega,by rw[aF];omega,by decide,rfl⟩) ?_
 conv=>lhs;whnf
 repeat((first|apply hW.t|apply hW.f|(apply hW.q;exact rqc));conv=>lhs;whnf)
 refine hW.q (by exact⟨by decide,bB _,by simp[aF];omega,by simp[aF];omega⟩) ?_
 conv=>lhs;whnf
 apply hW.bt (dB _)
 conv=>lhs;whnf
 rfl
theorem pW {E:Env} (hE:Sys E) (x:Man) (h0:x.sums.length≤8388608):E 213 [gv (x.cs aP)]=some ([gv (x.cs dF)],[]):=by
 refine hE.run rfl rfl fun W hW=>?_
 conv=>lhs;whnf
 repeat((first|apply hW.t|apply hW.f|(apply hW.q;exact rqc));conv=>lhs;whnf)
 refine hW.q (by exact⟨by decide,aHD _,by simp;omega,by simp;omega⟩) ?_
 conv=>lhs;whnf
 apply hW.bt (aHC _)
 conv=>lhs;whnf
 rfl
theorem nA {E:Env} (hE:Sys E) (x:Man) (h0:x.sums.length≤8388608):E 216 [gv (x.cs aP)]=some ([gv (x.cs dF)],[]):=by
 refine hE.run rfl rfl fun W hW=>?_
 conv=>lhs;whnf
 repeat((first|apply hW.t|apply hW.f|(apply hW.q;exact rqc));conv=>lhs;whnf)
 apply hW.w (aDt hE x.sums (by omega))
 conv=>lhs;whnf
 repeat((first|apply hW.t|apply hW.f|(apply hW.q;exact rqc));conv=>lhs;whnf)
 rfl
theorem pX {E:Env} (hE:Sys E) (x:Bld) (h0:x.buf.length≤8388608):E 214 [gv (x.cs aP)]=some ([gv (x.cs dF)],[]):=by
 refine hE.run rfl rfl fun W hW=>?_
 conv=>lhs;whnf
 repeat((first|apply hW.t|apply hW.f|(apply hW.q;exact rqc));conv=>lhs;whnf)
 refine hW.q (by exact⟨by decide,bB _,by rw[aF];omega,by rw[aF];omega,dB _⟩) ?_
 conv=>lhs;whnf
 repeat((first|apply hW.t|apply hW.f|(apply hW.q;exact rqc));conv=>lhs;whnf)
 rfl
theorem kH {E:Env} (hE:Sys E) (x:Bld) (h0:x.buf.length≤8388608):E 217 [gv (x.cs aP)]=some ([gv (x.cs dF)],[]):=by
 refine hE.run rfl rfl fun W hW=>?_
 conv=>lhs;whnf
 repeat((first|apply hW.t|apply hW.f|(apply hW.q;exact rqc));conv=>lhs;whnf)
 apply hW.w (cJ hE x.buf (by omega))
 conv=>lhs;whnf
 repeat((first|apply hW.t|apply hW.f|(apply hW.q;exact rqc));conv=>lhs;whnf)
 rfl
theorem cM {E:Env} (hE:Sys E) (x:Node) (h0:x.lim 8388608):E 212 [gv (x.cs aP)]=some ([gv (x.cs dF)],[]):=by
 obtain⟨h1,h2,h3⟩:=h0
 refine hE.run rfl rfl fun W hW=>?_
 conv=>lhs;whnf
 repeat((first|apply hW.t|apply hW.f|(apply hW.q;exact rqc));conv=>lhs;whnf)
 apply hW.w (pW hE x.man h1)
 conv=>lhs;whnf
 repeat((first|apply hW.t|apply hW.f|(apply hW.q;exact rqc));conv=>lhs;whnf)
 apply hW.w (pX hE x.bld h2)
 conv=>lhs;whnf
 repeat((first|apply hW.t|apply hW.f|(apply hW.q;exact rqc));conv=>lhs;whnf)
 refine hW.q (by exact⟨by decide,kids_rows _,by simp;omega,by simp;omega⟩) ?_
 conv=>lhs;whnf
 apply hW.bt (lL _)
 conv=>lhs;whnf
 repeat((first|apply hW.t|apply hW.f|(apply hW.q;exact rqc));conv=>lhs;whnf)
 rfl
theorem cR {E:Env} (hE:Sys E) (x:Node) (h0:x.lim 8388608):E 215 [gv (x.cs aP)]=some ([gv (x.cs dF)],[]):=by
 obtain⟨h1,h2,h3⟩:=h0
 refine hE.run rfl rfl fun W hW=>?_
 conv=>lhs;whnf
 repeat((first|apply hW.t|apply hW.f|(apply hW.q;exact rqc));conv=>lhs;whnf)
 apply hW.w (nA hE x.man h1)
 conv=>lhs;whnf
 repeat((first|apply hW.t|apply hW.f|(apply hW.q;exact rqc));conv=>lhs;whnf)
 apply hW.w (kH hE x.bld h2)
 conv=>lhs;whnf
 repeat((first|apply hW.t|apply hW.f|(apply hW.q;exact rqc));conv=>lhs;whnf)
 apply hW.w (oJ hE x.kids (by omega))
 conv=>lhs;whnf
 repeat((first|apply hW.t|apply hW.f|(apply hW.q;exact rqc));conv=>lhs;whnf)
 rfl
def iN (r:Rec):Bool:=bM r.gen 0 1000000&&(bM r.slot 0 1&&bM r.len 0 240)
theorem lT {E:Env} (hE:Sys E) (r:Rec):E 180 [gv r.cs]=some ([bv (iN r)],[]):=by
 refine hE.run rfl rfl fun W hW=>?_
 conv=>lhs;whnf
 repeat'((first|apply hW.t|apply hW.f|(apply hW.q;exact rqc)|apply hW.w (bG hE _ _ _)|(apply hW.b<;>intro h))<;>conv=>lhs;whnf)
 all_goals(refine congrArg (fun b=>(some ([bv b],[]):Option Res)) ?_;first|rfl|(simp_all [iN];done)|(simp_all [iN]<;>(intros;omega)))
theorem aHE (n:Int):bM n 0 1=(decide (n=0)||decide (n=1)):=by
 rw[Bool.eq_iff_iff];simp[bM];omega
theorem pY {E:Env} (hE:Sys E) (n:Int):E 199 [iv n]=some ([bv (bM n 0 1)],[]):=by
 rw[aHE]
 refine hE.run rfl rfl fun W hW=>?_
 conv=>lhs;whnf
 repeat'((first|apply hW.t|apply hW.f|(apply hW.q;exact rqc)|(apply hW.b<;>intro h))<;>conv=>lhs;whnf)
 all_goals(refine congrArg (fun b=>(some ([bv b],[]):Option Res)) ?_;first|rfl|(simp_all [];done)|(simp_all []<;>(intros;omega)))
theorem lU {E:Env} (hE:Sys E) (n:Int):E 198 [iv n]=some ([bv (bM n 0 1000000)],[]):=by
 refine hE.run rfl rfl fun W hW=>?_
 conv=>lhs;whnf
 repeat'((first|apply hW.t|apply hW.f|(apply hW.q;exact rqc)|apply hW.w (bJ hE _ _ _)|(apply hW.b<;>intro h))<;>conv=>lhs;whnf)
 all_goals(refine congrArg (fun b=>(some ([bv b],[]):Option Res)) ?_;first|rfl|(simp_all [];done)|(simp_all []<;>(intros;omega)))
theorem lV {E:Env} (hE:Sys E) (r:Rec):E 193 [gv r.cs]=some ([bv (iN r)],[]):=by
 refine hE.run rfl rfl fun W hW=>?_
 conv=>lhs;whnf
 repeat'((first|apply hW.t|apply hW.f|(apply hW.q;exact rqc)|apply hW.w (bJ hE _ _ _)|apply hW.w (lU hE _)|apply hW.w (pY hE _)|(apply hW.b<;>intro h))<;>conv=>lhs;whnf)
 all_goals(refine congrArg (fun b=>(some ([bv b],[]):Option Res)) ?_;first|rfl|(simp_all [iN];done)|(simp_all [iN]<;>(intros;omega)))
def gG (p:Put):Bool:=if p.what=2 then decide (p.at_=0)&&(decide (p.b=[])&&iN p.r) else bM p.what 0 1&&(bM p.at_ 0 240&&(decide ((p.b.length:Int)≤IntKind.i64.wrap (240-p.at_))&&decide (p.r=⟨0,0,0⟩)))
theorem aZ (b:aE):((bys b).length:Int)=b.length:=by rw[aF]
theorem sQ {E:Env} (hE:Sys E) {o:Bool} (p:Put) (_:p.b.length≤8388608):E 182 [gv (p.cs aP)]=some ([bv (gG p)],[]):=by
 obtain⟨w,a,b,⟨r1,r2,r3⟩⟩:=p
 refine hE.run rfl rfl fun W hW=>?_
 conv=>lhs;whnf
 repeat'((first|apply hW.t|apply hW.f|(apply hW.q;exact rqc)|apply hW.w (bG hE _ _ _)|apply hW.w (lT hE ⟨r1,r2,r3⟩)|(apply hW.b<;>intro h))<;>conv=>lhs;whnf)
 all_goals(refine congrArg (fun b=>(some ([bv b],[]):Option Res)) ?_;first|rfl|(simp_all [gG,aZ];done)|(simp_all [gG,aZ]<;>(intros;omega)))
theorem aCo {E:Env} (hE:Sys E) (p:Put) (hp:p.b.length≤8388608):E 200 [gv (p.cs aP)]=some ([bv (gG p)],[]):=by
 obtain⟨w,a,b,⟨r1,r2,r3⟩⟩:=p
 have hp:b.length≤8388608:=hp
 have hw:IntKind.i64.wrap (240-((bys b).length:Int))=240-b.length:=by rw[aF];exact aG (by omega)
 have hk:bM a 0 (240-b.length)=(bM a 0 240&&decide ((b.length:Int)≤IntKind.i64.wrap (240-a))):=by
  rw[Bool.eq_iff_iff]
  simp only[bM,Bool.and_eq_true,decide_eq_true_eq]
  constructor
  ·rintro⟨h1,h2⟩
   rw[show IntKind.i64.wrap (240-a)=240-a from aG (by omega)]
   omega
  ·rintro⟨⟨h1,h2⟩,h3⟩
   rw[show IntKind.i64.wrap (240-a)=240-a from aG (by omega)]at h3
   omega
 refine hE.run rfl rfl fun W hW=>?_
 conv=>lhs;whnf
 repeat'((first|apply hW.t|apply hW.f|(apply hW.q;exact rqc)|apply hW.w (bJ hE _ _ _)|apply hW.w (pY hE _)|apply hW.w (lV hE ⟨r1,r2,r3⟩)|(apply hW.b<;>intro h))<;>conv=>lhs;whnf)
 all_goals(try rw[hw]at *)
 all_goals(try rw[hk]at *)
 all_goals(refine congrArg (fun b=>(some ([bv b],[]):Option Res)) ?_;first|rfl|(simp_all [gG,aZ];done)|(simp_all [gG,aZ]<;>(intros;omega)))
theorem nB {E:Env} (hE:Sys E) {o:Bool} (d:Disk) (n:Int) (hn:n=1):E 181 [gv (d.cs aP o),iv n]=some ([.v false [.alias 0 1 0 d.b.length]],[]):=by
 subst hn
 refine hE.run rfl rfl fun W hW=>?_
 conv=>lhs;whnf
 repeat((first|apply hW.t|apply hW.f|(apply hW.q;exact rqc));conv=>lhs;whnf)
 rw[show(bys d.b).length=d.b.length from List.length_map _]
 rfl
theorem nC {E:Env} (hE:Sys E) {o:Bool} (d:Disk) (n:Int) (hn:n≠1):E 181 [gv (d.cs aP o),iv n]=some ([.v false [.alias 0 0 0 d.a.length]],[]):=by
 refine hE.run rfl rfl fun W hW=>?_
 conv=>lhs;whnf
 apply hW.bf (by simpa using hn)
 conv=>lhs;whnf
 repeat((first|apply hW.t|apply hW.f|(apply hW.q;exact rqc));conv=>lhs;whnf)
 rw[show(bys d.a).length=d.a.length from List.length_map _]
 rfl
theorem sR {E:Env} (hE:Sys E) {f:Nat→List (List T)→CA} {o:Bool} (hf:∀ z e,f z e=aP z e) (d:Disk) (n:Int) (hn:n=0):E 194 [.pt false (d.cs aP o),iv n]=some ([.apt 0 0],[]):=by
 subst hn
 refine hE.run rfl rfl fun W hW=>?_
 conv=>lhs;whnf
 repeat((first|apply hW.t|apply hW.f|(apply hW.q;exact rqc));conv=>lhs;whnf)
 rfl
theorem sS {E:Env} (hE:Sys E) {o:Bool} (d:Disk) (n:Int) (hn:n≠0):E 194 [.pt false (d.cs aP o),iv n]=some ([.apt 0 1],[]):=by
 refine hE.run rfl rfl fun W hW=>?_
 conv=>lhs;whnf
 apply hW.bf (by simpa using hn)
 conv=>lhs;whnf
 repeat((first|apply hW.t|apply hW.f|(apply hW.q;exact rqc));conv=>lhs;whnf)
 rfl
theorem aEA {α:Type} {p:α→Bool} {l:List α}:∀ {n:Nat},decide (tJ p n l≥0)=l.any p:=by
 induction l with
 |nil=>intro n;simp[tJ]
 |cons x r ih =>
  intro n
  simp only[tJ,List.any_cons]
  by_cases hp:p x=true
  ·simp[hp]
  ·have:=ih (n:=n+1)
   simp_all
theorem aFP {E:Env} (hE:Sys E) (p:Put) (hp:p.b.length≤8388608):E 196 [gv (p.cs aP)]=some ([bv (!gG p)],[]):=by
 refine hE.run rfl rfl fun W hW=>?_
 conv=>lhs;whnf
 repeat((first|apply hW.t|apply hW.f|(apply hW.q;exact rqc));conv=>lhs;whnf)
 apply hW.w (aCo hE p hp)
 conv=>lhs;whnf
 repeat((first|apply hW.t|apply hW.f|(apply hW.q;exact rqc));conv=>lhs;whnf)
 rfl
theorem vV {E:Env} (hE:Sys E) {o:Bool} (l:List Put) (h0:l.length≤1099511627776) (hb:∀ x∈l,x.b.length≤8388608):E 197 [sv (l.map (Put.row o)), .fn 196 []]=some ([iv (tJ (fun x:Put => !gG x) 0 l)],[]):=by
 have hrl:(l.map (Put.row o)).length=l.length:=by simp[bys,bN]
 refine hE.run rfl rfl fun W hW=>?_
 conv=>lhs;whnf
 refine hW.loop (σ:=Nat) (γ:=Nat) (fun i s=>s.sl 8 (v1 (.t (.int .i64 i)))) (fun i n=>i=n∧n≤l.length) (fun n=>l.length-n) (fun n=>([iv (tJ (fun x:Put => !gG x) n (l.drop n))],[])) 0 0 ?_ ?_ ?_ ?_
 ·intro K
  conv=>lhs;whnf
  conv=>rhs;whnf
  try rfl
 ·simp
 ·rintro kl n _ ⟨rfl,hn⟩ ih
  conv=>lhs;whnf
  apply hW.b<;>intro h2<;>conv=>lhs;whnf
  ·have h2:n<l.length:=by simpa[hrl] using h2
   rw[List.drop_eq_getElem_cons h2]
   repeat((first|apply hW.t|apply hW.f|(apply hW.q;exact rqc)|(refine hW.w (bR ?_) ?_;omega));conv=>lhs;whnf)
   apply hW.w (aFP hE l[n] (hb _ (List.getElem_mem h2)))
   conv=>lhs;whnf
   try(apply hW.q;exact rqc;conv=>lhs;whnf)
   simp only[tJ]
   apply hW.b<;>intro h3<;>conv=>lhs;whnf
   ·simp only[h3,if_true];rfl
   ·simp only[h3,if_false,Bool.false_eq_true]
    refine ih (n+1) (n+1) _ ?_ ⟨rfl,by omega⟩ (by omega)
    intro K
    conv=>lhs;whnf
    conv=>rhs;whnf
    try rfl
    rw[show IntKind.i64.wrap ((n:Int)+1)=_ from aH (by omega)]
    try rfl
  ·have:n=l.length:=by simp[hrl]at h2;omega
   subst this
   rw[List.drop_length];rfl
 ·rfl
theorem pZ {E:Env} (hE:Sys E) {o:Bool} (l:List Put) (h0:l.length≤1099511627776) (hb:∀ x∈l,x.b.length≤8388608):E 195 [sv (l.map (Put.row o)), .fn 196 []]=some ([bv (l.any fun x => !gG x)],[]):=by
 refine hE.run rfl rfl fun W hW=>?_
 conv=>lhs;whnf
 apply hW.w (vV hE l h0 hb)
 conv=>lhs;whnf
 try(apply hW.q;exact rqc;conv=>lhs;whnf)
 rw[aEA]
 repeat((first|apply hW.t|apply hW.f|(apply hW.q;exact rqc));conv=>lhs;whnf)
 rfl
def gN (d:Disk):Bool:=decide ((d.a.length:Int)≤240)&&(decide ((d.b.length:Int)≤240)&&(iN d.r&&(decide (d.r.len≤((if d.r.slot=1 then d.b else d.a).length:Int))&&(decide ((d.p.length:Int)≤200)&&d.p.all gG))))
theorem qA {r:Rec} (h:iN r=true):r.slot=0∨r.slot=1:=by
 simp[iN,bM]at h;omega
theorem yF {E:Env} (hE:Sys E) {o:Bool} (d:Disk) (hd:d.lim 8388608):E 191 [gv (d.cs aP o)]=some ([bv (gN d)],[]):=by
 obtain⟨h1,h2,h3,h4⟩:=hd
 have hany:d.p.all gG = !(d.p.any fun x => !gG x):=by
  rw[Bool.eq_iff_iff];simp
 have hA:d.p.length≤1099511627776:=Nat.le_trans h3 (by decide)
 unfold gN
 rw[hany]
 have hR:=lV hE d.r
 have hC:=pZ hE (o:=o) d.p hA h4
 clear hany
 generalize (d.p.any fun x => !gG x)=q at hC ⊢
 cases hr:iN d.r
 ·rw[hr]at hR
  refine hE.run rfl rfl fun W hW=>?_
  conv=>lhs;whnf
  repeat'((first|apply hW.t|apply hW.f|(apply hW.q;exact rqc)|apply hW.w (hR)|(apply hW.b<;>intro h))<;>conv=>lhs;whnf)
  all_goals(refine congrArg (fun b=>(some ([bv b],[]):Option Res)) ?_;first|rfl|(simp_all [aF];done)|(simp_all [aF]<;>(intros;omega)))
 ·rw[hr]at hR
  rcases qA hr with hs|hs
  ·refine hE.run rfl rfl fun W hW=>?_
   conv=>lhs;whnf
   repeat'((first|apply hW.t|apply hW.f|(apply hW.q;exact rqc)|apply hW.w (hR)|apply hW.w (sR hE (fun _ _=>rfl) d d.r.slot hs)|apply hW.w (hC)|(apply hW.b<;>intro h))<;>conv=>lhs;whnf)
   all_goals(refine congrArg (fun b=>(some ([bv b],[]):Option Res)) ?_;first|rfl|(simp_all [aF];done)|(simp_all [aF]<;>(intros;omega)))
  ·refine hE.run rfl rfl fun W hW=>?_
   conv=>lhs;whnf
   repeat'((first|apply hW.t|apply hW.f|(apply hW.q;exact rqc)|apply hW.w (hR)|apply hW.w (sS hE d d.r.slot (by omega))|apply hW.w (hC)|(apply hW.b<;>intro h))<;>conv=>lhs;whnf)
   all_goals(refine congrArg (fun b=>(some ([bv b],[]):Option Res)) ?_;first|rfl|(simp_all [aF];done)|(simp_all [aF]<;>(intros;omega)))
theorem yG {E:Env} (hE:Sys E) {o:Bool} (d:Disk) (hd:d.lim 8388608):E 177 [gv (d.cs aP o)]=some ([bv (gN d)],[]):=by
 obtain⟨h1,h2,h3,h4⟩:=hd
 have hA:d.p.length≤1099511627776:=Nat.le_trans h3 (by decide)
 unfold gN
 have hR:=lT hE d.r
 have key:∀ (W:Wd Res) (X:Option Res) (q:Bool),X=some ([bv q],[])→decide ((d.a.length:Int)≤240)=true→decide ((d.b.length:Int)≤240)=true→decide (d.r.len≤((if d.r.slot=1 then d.b else d.a).length:Int))=true→decide ((d.p.length:Int)≤200)=true →
  X=some ([bv (decide ((d.a.length:Int)≤240)&&(decide ((d.b.length:Int)≤240)&&(true&&(decide (d.r.len≤((if d.r.slot=1 then d.b else d.a).length:Int))&&(decide ((d.p.length:Int)≤200)&&q)))))],[]):=by
  intro W X q h h1 h2 h3 h4
  rw[h1,h2,h3,h4];exact h
 cases hr:iN d.r
 ·rw[hr]at hR
  refine hE.run rfl rfl fun W hW=>?_
  conv=>lhs;whnf
  repeat'((first|apply hW.t|apply hW.f|(apply hW.q;exact rqc)|apply hW.w (hR)|(apply hW.b<;>intro h))<;>conv=>lhs;whnf)
  all_goals(refine congrArg (fun b=>(some ([bv b],[]):Option Res)) ?_;first|rfl|(simp_all [aF];done)|(simp_all [aF]<;>(intros;omega)))
 ·rw[hr]at hR
  rcases qA hr with hs|hs
  ·refine hE.run rfl rfl fun W hW=>?_
   conv=>lhs;whnf
   repeat'((first|apply hW.t|apply hW.f|(apply hW.q;exact rqc)|apply hW.w (hR)|apply hW.w (nC hE d d.r.slot (by omega))|(apply hW.b<;>intro h))<;>conv=>lhs;whnf)
   all_goals(first|(refine congrArg (fun b=>(some ([bv b],[]):Option Res)) ?_;first|rfl|(simp_all [aF];done)|(simp_all [aF]<;>(intros;omega)))|skip)
   refine key W _ _ ?_ (by simp_all [aF];try omega) (by simp_all [aF];try omega) (by simp_all [aF];try omega) (by simp_all [aF];try omega)
   refine hW.loop (σ:=Nat) (γ:=Nat) (fun i s=>s.sl 3 (v1 (.t (.int .i64 i)))) (fun i n=>i=n∧n≤d.p.length) (fun n=>d.p.length-n) (fun n=>([bv ((d.p.drop n).all gG)],[])) 0 0 ?_ ?_ ?_ ?_
   ·intro K
    conv=>lhs;whnf
    conv=>rhs;whnf
    try rfl
   ·exact⟨rfl,by omega⟩
   ·rintro kl n _ ⟨rfl,hn⟩ ih
    conv=>lhs;whnf
    apply hW.b<;>intro g1<;>conv=>lhs;whnf
    ·have g1:n<d.p.length:=by simpa using g1
     rw[List.drop_eq_getElem_cons g1,List.all_cons]
     repeat((first|apply hW.t|apply hW.f|(apply hW.q;exact rqc)|(refine hW.w (bR ?_) ?_;omega));conv=>lhs;whnf)
     apply hW.w (sQ hE (o:=o) d.p[n] (h4 _ (List.getElem_mem g1)))
     conv=>lhs;whnf
     try(apply hW.q;exact rqc;conv=>lhs;whnf)
     apply hW.b<;>intro g2<;>conv=>lhs;whnf
     ·rw[kO g2];rfl
     ·rw[iD g2]
      refine ih (n+1) (n+1) _ ?_ ⟨rfl,by omega⟩ (by omega)
      intro K
      conv=>lhs;whnf
      conv=>rhs;whnf
      try rfl
      rw[show IntKind.i64.wrap ((n:Int)+1)=_ from aH (by omega)]
      try rfl
    ·have:n=d.p.length:=by simp at g1;omega
     rw[this,List.drop_length];rfl
   ·rfl
  ·refine hE.run rfl rfl fun W hW=>?_
   conv=>lhs;whnf
   repeat'((first|apply hW.t|apply hW.f|(apply hW.q;exact rqc)|apply hW.w (hR)|apply hW.w (nB hE d d.r.slot hs)|(apply hW.b<;>intro h))<;>conv=>lhs;whnf)
   all_goals(first|(refine congrArg (fun b=>(some ([bv b],[]):Option Res)) ?_;first|rfl|(simp_all [aF];done)|(simp_all [aF]<;>(intros;omega)))|skip)
   refine key W _ _ ?_ (by simp_all [aF];try omega) (by simp_all [aF];try omega) (by simp_all [aF];try omega) (by simp_all [aF];try omega)
   refine hW.loop (σ:=Nat) (γ:=Nat) (fun i s=>s.sl 3 (v1 (.t (.int .i64 i)))) (fun i n=>i=n∧n≤d.p.length) (fun n=>d.p.length-n) (fun n=>([bv ((d.p.drop n).all gG)],[])) 0 0 ?_ ?_ ?_ ?_
   ·intro K
    conv=>lhs;whnf
    conv=>rhs;whnf
    try rfl
   ·exact⟨rfl,by omega⟩
   ·rintro kl n _ ⟨rfl,hn⟩ ih
    conv=>lhs;whnf
    apply hW.b<;>intro g1<;>conv=>lhs;whnf
    ·have g1:n<d.p.length:=by simpa using g1
     rw[List.drop_eq_getElem_cons g1,List.all_cons]
     repeat((first|apply hW.t|apply hW.f|(apply hW.q;exact rqc)|(refine hW.w (bR ?_) ?_;omega));conv=>lhs;whnf)
     apply hW.w (sQ hE (o:=o) d.p[n] (h4 _ (List.getElem_mem g1)))
     conv=>lhs;whnf
     try(apply hW.q;exact rqc;conv=>lhs;whnf)
     apply hW.b<;>intro g2<;>conv=>lhs;whnf
     ·rw[kO g2];rfl
     ·rw[iD g2]
      refine ih (n+1) (n+1) _ ?_ ⟨rfl,by omega⟩ (by omega)
      intro K
      conv=>lhs;whnf
      conv=>rhs;whnf
      try rfl
      rw[show IntKind.i64.wrap ((n:Int)+1)=_ from aH (by omega)]
      try rfl
    ·have:n=d.p.length:=by simp at g1;omega
     rw[this,List.drop_length];rfl
   ·rfl
theorem aA0 {E:Env} (hE:Sys E) {o:Bool} (d:Disk) (hd:d.lim 1048576):E 177 [gv (d.cs aP o)]=some ([bv (gN d)],[]):=yG hE d (Disk.lim_mono (by decide) hd)
theorem aA1 {E:Env} (hE:Sys E) {o:Bool} (d:Disk) (hd:d.lim 1048576):E 191 [gv (d.cs aP o)]=some ([bv (gN d)],[]):=yF hE d (Disk.lim_mono (by decide) hd)
def mN (a b:Int):Int:=if bM a 0 1000000000000=true∧bM b 1 1000000000000=true then IntKind.i64.wrap ((IntKind.i64.wrap (IntKind.i64.wrap (a+b)-1)).tdiv b) else 0
theorem yH {E:Env} (hE:Sys E) (a b:Int):E 240 [iv a,iv b]=some ([iv (mN a b)],[]):=by
 have ha:=bG hE a 0 1000000000000
 have hb:=bG hE b 1 1000000000000
 unfold mN
 cases h1:bM a 0 1000000000000
 ·rw[h1]at ha
  refine hE.run rfl rfl fun W hW=>?_
  conv=>lhs;whnf
  repeat'((first|apply hW.t|apply hW.f|(apply hW.q;exact rqc)|apply hW.w (ha)|(apply hW.b<;>intro h))<;>conv=>lhs;whnf)
  all_goals(refine congrArg (fun b=>(some ([iv b],[]):Option Res)) ?_;first|rfl|(simp_all [];done)|(simp_all []<;>(intros;omega)))
 ·rw[h1]at ha
  cases h2:bM b 1 1000000000000
  ·rw[h2]at hb
   refine hE.run rfl rfl fun W hW=>?_
   conv=>lhs;whnf
   repeat'((first|apply hW.t|apply hW.f|(apply hW.q;exact rqc)|apply hW.w (ha)|apply hW.w (hb)|(apply hW.b<;>intro h))<;>conv=>lhs;whnf)
   all_goals(refine congrArg (fun b=>(some ([iv b],[]):Option Res)) ?_;first|rfl|(simp_all [];done)|(simp_all []<;>(intros;omega)))
  ·rw[h2]at hb
   have:=bT h2
   refine hE.run rfl rfl fun W hW=>?_
   conv=>lhs;whnf
   repeat'((first|apply hW.t|apply hW.f|(apply hW.q;exact rqc)|apply hW.w (ha)|apply hW.w (hb)|(apply hW.b<;>intro h))<;>conv=>lhs;whnf)
   rfl
theorem yI {E:Env} (hE:Sys E) (a b:Int):E 253 [iv a,iv b]=some ([iv (mN a b)],[]):=by
 have ha:=bJ hE a 0 1000000000000
 have hb:=bJ hE b 1 1000000000000
 unfold mN
 cases h1:bM a 0 1000000000000
 ·rw[h1]at ha
  refine hE.run rfl rfl fun W hW=>?_
  conv=>lhs;whnf
  repeat'((first|apply hW.t|apply hW.f|(apply hW.q;exact rqc)|apply hW.w (ha)|(apply hW.b<;>intro h))<;>conv=>lhs;whnf)
  all_goals(refine congrArg (fun b=>(some ([iv b],[]):Option Res)) ?_;first|rfl|(simp_all [];done)|(simp_all []<;>(intros;omega)))
 ·rw[h1]at ha
  cases h2:bM b 1 1000000000000
  ·rw[h2]at hb
   refine hE.run rfl rfl fun W hW=>?_
   conv=>lhs;whnf
   repeat'((first|apply hW.t|apply hW.f|(apply hW.q;exact rqc)|apply hW.w (ha)|apply hW.w (hb)|(apply hW.b<;>intro h))<;>conv=>lhs;whnf)
   all_goals(refine congrArg (fun b=>(some ([iv b],[]):Option Res)) ?_;first|rfl|(simp_all [];done)|(simp_all []<;>(intros;omega)))
  ·rw[h2]at hb
   have:=bT h2
   refine hE.run rfl rfl fun W hW=>?_
   conv=>lhs;whnf
   repeat'((first|apply hW.t|apply hW.f|(apply hW.q;exact rqc)|apply hW.w (ha)|apply hW.w (hb)|(apply hW.b<;>intro h))<;>conv=>lhs;whnf)
   rfl
def dJ (size n:Int):Bool:=bM size 2 6&&bM n 0 (IntKind.i64.wrap (size*40))
theorem qB {E:Env} (hE:Sys E) (size n:Int):E 239 [iv size,iv n]=some ([bv (dJ size n)],[]):=by
 refine hE.run rfl rfl fun W hW=>?_
 conv=>lhs;whnf
 repeat'((first|apply hW.t|apply hW.f|(apply hW.q;exact rqc)|apply hW.w (bG hE _ _ _)|(apply hW.b<;>intro h))<;>conv=>lhs;whnf)
 all_goals(refine congrArg (fun b=>(some ([bv b],[]):Option Res)) ?_;first|rfl|(simp_all [dJ];done)|(simp_all [dJ]<;>(intros;omega)))
theorem qC {E:Env} (hE:Sys E) (size n:Int):E 252 [iv size,iv n]=some ([bv (dJ size n)],[]):=by
 have:size*40=40*size:=Int.mul_comm _ _
 unfold dJ
 rw[this]
 refine hE.run rfl rfl fun W hW=>?_
 conv=>lhs;whnf
 repeat'((first|apply hW.t|apply hW.f|(apply hW.q;exact rqc)|apply hW.w (bJ hE _ _ _)|(apply hW.b<;>intro h))<;>conv=>lhs;whnf)
 all_goals(refine congrArg (fun b=>(some ([bv b],[]):Option Res)) ?_;first|rfl|(simp_all [];done)|(simp_all []<;>(intros;omega)))
def bE (size n:Int):Int:=if dJ size n=true then mN n size else 0
theorem fB {E:Env} (hE:Sys E) (size n:Int):E 236 [iv size,iv n]=some ([iv (bE size n)],[]):=by
 have ha:=qB hE size n
 unfold bE
 cases h1:dJ size n
 ·rw[h1]at ha
  refine hE.run rfl rfl fun W hW=>?_
  conv=>lhs;whnf
  repeat'((first|apply hW.t|apply hW.f|(apply hW.q;exact rqc)|apply hW.w (ha)|(apply hW.b<;>intro h))<;>conv=>lhs;whnf)
  all_goals(refine congrArg (fun b=>(some ([iv b],[]):Option Res)) ?_;first|rfl|(simp_all [];done)|(simp_all []<;>(intros;omega)))
 ·rw[h1]at ha
  refine hE.run rfl rfl fun W hW=>?_
  conv=>lhs;whnf
  repeat'((first|apply hW.t|apply hW.f|(apply hW.q;exact rqc)|apply hW.w (ha)|apply hW.w (yH hE n size)|(apply hW.b<;>intro h))<;>conv=>lhs;whnf)
  rfl
theorem fD {E:Env} (hE:Sys E) (size n:Int):E 249 [iv size,iv n]=some ([iv (bE size n)],[]):=by
 have ha:=qC hE size n
 unfold bE
 cases h1:dJ size n
 ·rw[h1]at ha
  refine hE.run rfl rfl fun W hW=>?_
  conv=>lhs;whnf
  repeat'((first|apply hW.t|apply hW.f|(apply hW.q;exact rqc)|apply hW.w (ha)|(apply hW.b<;>intro h))<;>conv=>lhs;whnf)
  all_goals(refine congrArg (fun b=>(some ([iv b],[]):Option Res)) ?_;first|rfl|(simp_all [];done)|(simp_all []<;>(intros;omega)))
 ·rw[h1]at ha
  refine hE.run rfl rfl fun W hW=>?_
  conv=>lhs;whnf
  repeat'((first|apply hW.t|apply hW.f|(apply hW.q;exact rqc)|apply hW.w (ha)|apply hW.w (yI hE n size)|(apply hW.b<;>intro h))<;>conv=>lhs;whnf)
  rfl
theorem vW {size n:Int} (h:dJ size n=true):2≤size∧size≤6∧0≤n∧n≤size*40:=by
 simp only[dJ,Bool.and_eq_true]at h
 obtain⟨h1,h2⟩:=h
 have h1:=bT h1
 rw[show IntKind.i64.wrap (size*40)=size*40 from aG (by omega)]at h2
 have h2:=bT h2
 omega
theorem rI {size n:Int} (h:dJ size n=true):bE size n=(n+size-1)/size∧0≤bE size n∧bE size n≤40:=by
 obtain⟨h1,h2,h3,h4⟩:=vW h
 have e:bE size n=(n+size-1)/size:=by
  unfold bE mN
  rw[if_pos h,if_pos ⟨by simp[bM];omega,by simp[bM];omega⟩]
  rw[show IntKind.i64.wrap (n+size)=n+size from aG (by omega),show IntKind.i64.wrap (n+size-1)=n+size-1 from aG (by omega),Int.tdiv_eq_ediv_of_nonneg (by omega)]
  apply aG
  obtain h5|h5|h5|h5|h5:size=2∨size=3∨size=4∨size=5∨size=6:=by omega
  all_goals(subst h5;omega)
 rw[e]
 refine⟨rfl,?_⟩
 obtain h5|h5|h5|h5|h5:size=2∨size=3∨size=4∨size=5∨size=6:=by omega
 all_goals(subst h5;omega)
def vX (a b:Int):Int:=if b<a then b else a
theorem aCp {E:Env} (hE:Sys E) (a b:Int):E 242 [iv a,iv b]=some ([iv (vX a b)],[]):=by
 refine hE.run rfl rfl fun W hW=>?_
 conv=>lhs;whnf
 repeat'((first|apply hW.t|apply hW.f|(apply hW.q;exact rqc)|(apply hW.b<;>intro h))<;>conv=>lhs;whnf)
 all_goals(refine congrArg (fun b=>(some ([iv b],[]):Option Res)) ?_;first|rfl|(simp_all [vX];done)|(simp_all [vX]<;>(intros;omega)))
def bF (size n i:Int):Int:=if bM i 0 (IntKind.i64.wrap (bE size n-1))=true then IntKind.i64.wrap (i*size) else 0
def aU (size n i:Int):Int:=if bM i 0 (IntKind.i64.wrap (bE size n-1))=true then vX size (IntKind.i64.wrap (n-IntKind.i64.wrap (i*size))) else 0
theorem dK {E:Env} (hE:Sys E) (size n i:Int):E 241 [iv size,iv n,iv i]=some ([iv (bF size n i),iv (aU size n i)],[]):=by
 have hb:=bG hE i 0 (IntKind.i64.wrap (bE size n-1))
 unfold bF aU
 cases h2:bM i 0 (IntKind.i64.wrap (bE size n-1))
 ·rw[h2]at hb
  refine hE.run rfl rfl fun W hW=>?_
  conv=>lhs;whnf
  repeat'((first|apply hW.t|apply hW.f|(apply hW.q;exact rqc)|apply hW.w (fB hE size n)|apply hW.w (hb)|(apply hW.b<;>intro h))<;>conv=>lhs;whnf)
  rfl
 ·rw[h2]at hb
  refine hE.run rfl rfl fun W hW=>?_
  conv=>lhs;whnf
  repeat'((first|apply hW.t|apply hW.f|(apply hW.q;exact rqc)|apply hW.w (fB hE size n)|apply hW.w (hb)|apply hW.w (aCp hE _ _)|(apply hW.b<;>intro h))<;>conv=>lhs;whnf)
  rfl
theorem fE {E:Env} (hE:Sys E) (size n i:Int):E 254 [iv size,iv n,iv i]=some ([iv (bF size n i),iv (aU size n i)],[]):=by
 have hb:=bJ hE i 0 (IntKind.i64.wrap (bE size n-1))
 unfold bF aU
 cases h2:bM i 0 (IntKind.i64.wrap (bE size n-1))
 ·rw[h2]at hb
  refine hE.run rfl rfl fun W hW=>?_
  conv=>lhs;whnf
  repeat'((first|apply hW.t|apply hW.f|(apply hW.q;exact rqc)|apply hW.w (fD hE size n)|apply hW.w (hb)|(apply hW.b<;>intro h))<;>conv=>lhs;whnf)
  rfl
 ·rw[h2]at hb
  refine hE.run rfl rfl fun W hW=>?_
  conv=>lhs;whnf
  repeat'((first|apply hW.t|apply hW.f|(apply hW.q;exact rqc)|apply hW.w (fD hE size n)|apply hW.w (hb)|(apply hW.b<;>intro h))<;>conv=>lhs;whnf)
  rw[show ∀ b,vX size b=min size b from fun b=>by unfold vX;omega]
  rfl
def wx (x:Int) (c:UInt8):Int:=(IntKind.i64.wrap (x+IntKind.i64.wrap (c.toNat:Int))).tmod 251
def wy (y x:Int):Int:=(IntKind.i64.wrap (y+x)).tmod 251
def kP:aE→Int→Int→Int × Int
 |[],x,y=>(x,y)
 |c::r,x,y=>kP r (wx x c) (wy y (wx x c))
def aY (b:aE):Int:=IntKind.i64.wrap ((kP b 0 0).1+IntKind.i64.wrap (251*(kP b 0 0).2))
theorem aMc {x:Int} {c:UInt8} (h:0≤x∧x<251):0≤wx x c∧wx x c<251:=by
 have:=UInt8.toNat_lt c
 unfold wx
 rw[show IntKind.i64.wrap (c.toNat:Int)=c.toNat from aG (by omega),show IntKind.i64.wrap (x+c.toNat)=x+c.toNat from aG (by omega)]
 rw[Int.tmod_eq_emod_of_nonneg (by omega)]
 omega
theorem aNm {x y:Int} (h:0≤x∧x<251) (h':0≤y∧y<251):0≤wy y x∧wy y x<251:=by
 unfold wy
 rw[show IntKind.i64.wrap (y+x)=y+x from aG (by omega)]
 rw[Int.tmod_eq_emod_of_nonneg (by omega)]
 omega
theorem aJ0 {b:aE}:∀ {x y:Int},(0≤x∧x<251)→(0≤y∧y<251)→(0≤(kP b x y).1∧(kP b x y).1<251)∧(0≤(kP b x y).2∧(kP b x y).2<251):=by
 induction b with
 |nil=>intro x y h h';exact⟨h,h'⟩
 |cons c r ih=>intro x y h h';exact ih (aMc h) (aNm (aMc h) h')
end Tev
