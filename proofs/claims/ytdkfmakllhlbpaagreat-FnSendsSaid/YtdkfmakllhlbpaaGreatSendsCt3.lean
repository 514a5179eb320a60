/- What the functions compute, one contract each. -/
import Derived.Test.YtdkfmakllhlbpaaGreatSendsCt2
set_option linter.unusedSimpArgs false
set_option linter.unusedVariables false
namespace Tev
open Go
set_option maxRecDepth 50000
set_option maxHeartbeats 20000000
theorem aI6 {E:aR} (J:Sys E) {b:aD} (hb:b.length≤1048576):E 155 [sv (aU b)]=some ([.pt true [.alias 0 0 0 b.length,ci 0,ci (aLS b).h]],[]):=by
 have hl:=eK b
 refine J.run rfl rfl fun W U=>?_
 conv=>lhs;whnf
 refine U.loop (σ:=Nat) (γ:=Nat) (fun i s=>(s.sl 4 (v1 (.t (.int .i64 i)))).sl 3 (v1 (.t (.int .i64 (hN b i))))) (fun i m=>i=m∧m≤min 4000 b.length) (fun m=>b.length-m) (fun _=>([.pt true [.alias 0 0 0 b.length,ci 0,ci (aLS b).h]],[])) 0 0 ?_ ?_ ?_ ?_
 ·intro K
  conv=>lhs;whnf
  conv=>rhs;whnf
  try rfl
  rw[hl]
  rfl
 ·exact⟨rfl,Nat.zero_le _⟩
 ·rintro kl m _ ⟨rfl,hm⟩ ih
  conv=>lhs;whnf
  apply U.b<;>intro g1<;>conv=>lhs;whnf
  ·have g1:m<b.length:=by simpa[hl] using g1
   repeat((first|apply U.t|apply U.f|(apply U.q;exact aE));conv=>lhs;whnf)
   apply U.b<;>intro g2<;>conv=>lhs;whnf
   ·have g2:m<4000:=by have g2:=of_decide_eq_true g2;omega
    repeat((first|apply U.t|apply U.f|(apply U.q;exact aE)|(refine U.w (cG ?_) ?_;omega));conv=>lhs;whnf)
    refine ih (m+1) (m+1) _ ?_ ⟨rfl,by omega⟩ (by omega)
    intro K
    conv=>lhs;whnf
    conv=>rhs;whnf
    try rfl
    rw[show IntKind.i64.wrap ((m:Int)+1)=_ from aK (by omega)]
    have e:hN b (m+1)=IntKind.i64.wrap (BitVec.ofInt IntKind.i64.bits (IntKind.i64.wrap (IntKind.i64.wrap (IntKind.i64.wrap (hN b m*137)+IntKind.i64.wrap ((b[m]).toNat:Int))+11)) &&& BitVec.ofInt IntKind.i64.bits 1073741823).toNat:=by
     rw[hN,List.getD_eq_getElem?_getD,List.getElem?_eq_getElem g1]
     rfl
    rw[e]
   ·have g2:m=min 4000 b.length:=by have g2:=of_decide_eq_false g2;omega
    rw[hl]
    show some ([A.pt true [.alias 0 0 0 b.length,ci 0,ci (hN b m)]],[])=_
    rw[g2]
    rfl
  ·have g1:m=b.length:=by simp[hl]at g1;omega
   repeat((first|apply U.t|apply U.f|(apply U.q;exact aE));conv=>lhs;whnf)
   rw[hl]
   show some ([A.pt true [.alias 0 0 0 b.length,ci 0,ci (hN b m)]],[])=_
   rw[show m=min 4000 b.length by omega]
   rfl
 ·rfl
theorem dF (b:aD):((aU b).drop 0).take b.length=aU b:=by
 rw[List.drop_zero,List.take_of_length_le (Nat.le_of_eq (eK b))]
def rA {R:Type} (x:Option R) (P:R→Prop):Prop:=∃ r,x=some r∧P r
structure Wd.Sk {R:Type} (W:Wd R):Prop where
 ok:W.Ok
theorem Wd.Sk.b {R:Type} {W:Wd R} (h:W.Sk) {P:R→Prop} {b:Bool} {x y:Unit→Option R} (h1:b=true→rA (x ()) P) (h2:b=false→rA (y ()) P):rA (W.br b x y) P:=by
 rw[h.ok.br]
 cases b
 ·exact h2 rfl
 ·exact h1 rfl
theorem Wd.Sk.t {R:Type} {W:Wd R} (h:W.Sk) {P:R→Prop} {x y:Unit→Option R} (h1:rA (x ()) P):rA (W.br true x y) P:=by rw[h.ok.br];exact h1
theorem Wd.Sk.f {R:Type} {W:Wd R} (h:W.Sk) {P:R→Prop} {x y:Unit→Option R} (h1:rA (y ()) P):rA (W.br false x y) P:=by rw[h.ok.br];exact h1
theorem Wd.Sk.bt {R:Type} {W:Wd R} (h:W.Sk) {P:R→Prop} {b:Bool} {x y:Unit→Option R} (hb:b=true) (h1:rA (x ()) P):rA (W.br b x y) P:=by rw[h.ok.br,hb];exact h1
theorem Wd.Sk.bf {R:Type} {W:Wd R} (h:W.Sk) {P:R→Prop} {b:Bool} {x y:Unit→Option R} (hb:b=false) (h1:rA (y ()) P):rA (W.br b x y) P:=by rw[h.ok.br,hb];exact h1
theorem Wd.Sk.q {R:Type} {W:Wd R} (h:W.Sk) {P:R→Prop} {c:Prop} [Decidable c] {x:Unit→Option R} (hc:c) (h1:rA (x ()) P):rA (W.rq c x) P:=by rw[h.ok.rq,chk_true _ hc];exact h1
theorem Wd.Sk.w {R:Type} {W:Wd R} (h:W.Sk) {P:R→Prop} {α:Type} {x:Option α} {f:α→Option R} {a:α} (h1:x=some a) (h2:rA (f a) P):rA (W.wt x f) P:=by rw[h.ok.wt,h1];exact h2
theorem Wd.Sk.loop {R:Type} {W:Wd R} (h:W.Sk) {P:R→Prop} {E:aR} {hand:Nat→Option (Nat × HK)} {i:IC} {keep:List Bool} {drops:List Nat} {can:List (Nat × Nat × Nat × Nat)} {S:St} {k:X × St→Option R} {σ γ:Type} (upd:σ→St→St) (I:σ→γ→Prop) (m:γ→Nat) (a0:σ) (c0:γ)
 (h0:∀ K:St→Option R,aFi keep drops can S K=aFi keep drops can S fun s=>aBi (upd a0 s) K) (hI:I a0 c0)
 (step:∀ (kl:St→Option R) a c,I a c→(∀ a' c' S',(∀ K:St→Option R,aFi keep drops can S' K=aFi keep drops can S fun s=>aBi (upd a' s) K)→I a' c'→m c'<m c→rA (kl S') P) →
  rA (aFi keep drops can S fun s=>aBi (upd a s) fun s=>kC W E hand i s fun x s'=>match x with
   |.nor=>kl s'
   |.ret=>k (.ret,s')
   |.exit id=>k (.exit id,s')) P) :
 rA (W.wt (jW (aDC E hand i) (fun s=>(canon s can).mask keep drops) S) k) P:=by
 simp only[aN5,iT]at h0 step
 rw[h.ok.wt]
 have key:∀ (n:Nat) a c S',m c<n→(∀ K:St→Option R,K ((canon S' can).mask keep drops)=K (upd a ((canon S can).mask keep drops)))→I a c→rA (bnd (jW (aDC E hand i) (fun s=>(canon s can).mask keep drops) S') k) P:=by
  intro n
  induction n with
  |zero=>intro a c S' h;omega
  |succ n ih =>
   intro a c S' hn hS ha
   have:=step (fun s=>bnd (jW (aDC E hand i) (fun s=>(canon s can).mask keep drops) s) k) a c ha (fun a' c' S1 h1 h2 h3=>ih a' c' S1 (by omega) h1 h2)
   rw[← hS fun s=>kC W E hand i s fun x s'=>match x with
    |.nor=>bnd (jW (aDC E hand i) (fun s=>(canon s can).mask keep drops) s') k
    |.ret=>k (.ret,s')
    |.exit id=>k (.exit id,s')]at this
   obtain⟨r,hr,hp⟩:=this
   have:=aRL W E hand h.ok _ _ _ hr
   rw[aLf]
   obtain⟨r1,h1,h2⟩:=aA.mp this
   rw[h1]
   refine⟨r,?_,hp⟩
   obtain⟨x,s'⟩:=r1
   cases x with
   |nor=>simpa using h2
   |ret=>simpa using h2
   |exit id=>simpa using h2
 exact key (m c0+1) a0 c0 S (by omega) h0 hI
theorem Sys.runS {E:aR} (h:Sys E) {f:Nat} {c:Fn} {args:List A} {P:dA→Prop} (hf:tbl f=some c) (hn:c.nbody=none) (h':∀ W:Wd dA,W.Sk→rA (aGW W E hnd c c.body args) P):rA (E f args) P:=by
 obtain⟨r,hr,hp⟩:=h' _ ⟨Wd.std_ok dA⟩
 refine⟨r,h.fn f c args r hf ?_,hp⟩
 unfold rE
 rw[hn]
 exact aGa (Wd.std_ok dA) hr
theorem aLT {E:aR} (J:Sys E) (i:Int):E 115 [iv i]=some ([bv (aW i 0 6)],[]):=by
 refine J.run rfl rfl fun W U=>?_
 conv=>lhs;whnf
 repeat'((first|apply U.t|apply U.f|(apply U.q;exact aE)|apply U.w (cP J _ _ _)|(apply U.b<;>intro h))<;>conv=>lhs;whnf)
 rfl
def oJ (id:Int):List Kid→Nat
 |[]=>0
 |x::r=>if x.id≤id then oJ id r+1 else 0
theorem aNl {id:Int} {l:List Kid}:oJ id l≤l.length:=by
 induction l with
 |nil=>exact Nat.le_refl _
 |cons x r ih=>simp only[oJ,List.length_cons];split<;>omega
theorem aSo {id:Int} {l:List Kid}:∀ {n:Nat},(jU (fun x:Kid=>decide (x.id>id)) n l = -1∧oJ id l=l.length)∨(jU (fun x:Kid=>decide (x.id>id)) n l=((n+oJ id l:Nat):Int)∧oJ id l<l.length):=by
 induction l with
 |nil=>intro n;exact .inl ⟨rfl,rfl⟩
 |cons x r ih =>
  intro n
  simp only[jU,oJ,List.length_cons]
  by_cases h:x.id≤id
  ·rw[if_pos h,if_neg (by simp;omega)]
   rcases ih (n:=n+1) with⟨h1,h2⟩|⟨h1,h2⟩
   ·exact .inl ⟨h1,by omega⟩
   ·exact .inr ⟨by rw[h1];congr 1;omega,by omega⟩
  ·rw[if_neg h,if_pos (by simp;omega)]
   exact .inr ⟨rfl,by omega⟩
def oK (id want done:Int):Bool:=aW id 0 6&&bG want&&bG done
def jZ (l:List Kid) (id want done:Int):List Kid :=
 if oK id want done=true then
  (if eQ l id<0 then l.take (oJ id l)++⟨id,want,done,0,0⟩::l.drop (oJ id l)
  else match l[(eQ l id).toNat]? with
   |none=>l
   |some x=>l.set (eQ l id).toNat { x with want:=want,done:=aFE x.done done,age:=0 })
 else l
theorem xS (l:List Kid) (id want done:Int):(jZ l id want done).length≤l.length+1:=by
 unfold jZ
 have:=aNl (id:=id) (l:=l)
 split
 ·split
  ·simp only[List.length_append,List.length_cons,List.length_take,List.length_drop];omega
  ·split
   ·omega
   ·rw[List.length_set];omega
 ·omega
theorem aLU {l:List Kid} {id want done:Int} {n:Nat} (ho:oK id want done=true) (hn:n<l.length) (h:eQ l id=n):jZ l id want done=l.set n { l[n] with want:=want,done:=aFE l[n].done done,age:=0 }:=by
 unfold jZ
 rw[if_pos ho,if_neg (by omega),h,Int.toNat_natCast,List.getElem?_eq_getElem hn]
theorem aI7 {l:List Kid} {id want done:Int} (ho:oK id want done=true) (h:eQ l id<0):jZ l id want done=l.take (oJ id l)++⟨id,want,done,0,0⟩::l.drop (oJ id l):=by
 unfold jZ
 rw[if_pos ho,if_pos h]
theorem aLV {l:List Kid} {id want done:Int} (ho:oK id want done=false):jZ l id want done=l:=by
 unfold jZ
 rw[if_neg (by rw[ho];decide)]
theorem aOl {α:Type} (m:List α) (k:Nat) (r:α):(m.take k++[r])++(m.drop k).take (m.length-k)=m.take k++r::m.drop k:=by
 rw[List.take_of_length_le (l:=m.drop k) (by rw[List.length_drop];exact Nat.le_refl _),List.append_assoc]
 rfl
theorem wO {E:aR} (J:Sys E) (l:List Kid) (id want done:Int) (h0:l.length≤4194304):E 113 [sv (l.map Kid.row),iv id,iv want,iv done]=some ([ov 5 ((jZ l id want done).map Kid.row)],[]):=by
 have hrl:(l.map Kid.row).length=l.length:=List.length_map _
 refine J.run rfl rfl fun W U=>?_
 conv=>lhs;whnf
 refine U.q (by exact⟨by decide,kids_rows l,by simp;omega,by simp;omega⟩) ?_
 conv=>lhs;whnf
 apply U.bt (lY l)
 conv=>lhs;whnf
 have c1:=bR J id 0 6
 have c2:=cH J want
 have c3:=cH J done
 cases ho:oK id want done with
 |false =>
  rw[aLV ho]
  unfold oK at ho
  cases q1:aW id 0 6<;>rw[q1]at c1 ho
  ·apply U.w (c1)
   conv=>lhs;whnf
   repeat((first|apply U.t|apply U.f|(apply U.q;exact aE));conv=>lhs;whnf)
   rfl
  ·cases q2:bG want<;>rw[q2]at c2 ho
   ·apply U.w (c1)
    conv=>lhs;whnf
    repeat((first|apply U.t|apply U.f|(apply U.q;exact aE));conv=>lhs;whnf)
    apply U.w (c2)
    conv=>lhs;whnf
    repeat((first|apply U.t|apply U.f|(apply U.q;exact aE));conv=>lhs;whnf)
    rfl
   ·cases q3:bG done<;>rw[q3]at c3 ho
    ·apply U.w (c1)
     conv=>lhs;whnf
     repeat((first|apply U.t|apply U.f|(apply U.q;exact aE));conv=>lhs;whnf)
     apply U.w (c2)
     conv=>lhs;whnf
     repeat((first|apply U.t|apply U.f|(apply U.q;exact aE));conv=>lhs;whnf)
     apply U.w (c3)
     conv=>lhs;whnf
     repeat((first|apply U.t|apply U.f|(apply U.q;exact aE));conv=>lhs;whnf)
     rfl
    ·cases ho
 |true =>
  have hoo:=ho
  unfold oK at hoo
  simp only[Bool.and_eq_true]at hoo
  rw[hoo.1.1]at c1
  rw[hoo.1.2]at c2
  rw[hoo.2]at c3
  apply U.w (c1)
  conv=>lhs;whnf
  repeat((first|apply U.t|apply U.f|(apply U.q;exact aE));conv=>lhs;whnf)
  apply U.w (c2)
  conv=>lhs;whnf
  repeat((first|apply U.t|apply U.f|(apply U.q;exact aE));conv=>lhs;whnf)
  apply U.w (c3)
  conv=>lhs;whnf
  repeat((first|apply U.t|apply U.f|(apply U.q;exact aE));conv=>lhs;whnf)
  have hle:oJ id l≤l.length:=aNl
  have hlr:oJ id l≤(l.map Kid.row).length:=by rw[hrl];exact hle
  have key:∀ m:List (List T),m.length≤l.length→(∀ e∈m,e∈l.map Kid.row)→0<5∧(∀ e∈m,e.length=5)∧m.length*40≤140737488355328∧m.length≤140737488355328∧gK m=true:=fun m hm hs =>
   ⟨by decide,fun e he=>kids_rows l e (hs e he),by omega,by omega,List.all_eq_true.mpr fun e he=>List.all_eq_true.mp (lY l) e (hs e he)⟩
  have key1:=key ((l.map Kid.row).take (oJ id l)) (by rw[List.length_take];omega) (fun e he=>List.mem_of_mem_take he)
  have key3:=key (((l.map Kid.row).drop (oJ id l)).take ((l.map Kid.row).length-oJ id l)) (by rw[List.length_take];omega) (fun e he=>List.mem_of_mem_drop (List.mem_of_mem_take he))
  have key2:0<5∧(∀ e∈[Kid.row ⟨id,want,done,0,0⟩],e.length=5)∧[Kid.row ⟨id,want,done,0,0⟩].length*40≤140737488355328∧[Kid.row ⟨id,want,done,0,0⟩].length≤140737488355328∧gK [Kid.row ⟨id,want,done,0,0⟩]=true :=
   ⟨by decide,fun e he=>by rw[List.mem_singleton.mp he];rfl,show 1*40≤140737488355328 by decide,show 1≤140737488355328 by decide,rfl⟩
  apply U.w (qV J l id (by omega))
  conv=>lhs;whnf
  repeat((first|apply U.t|apply U.f|(apply U.q;exact aE));conv=>lhs;whnf)
  apply U.b<;>intro hk<;>conv=>lhs;whnf
  ·have hk:eQ l id<0:=by simpa using hk
   rw[aI7 ho hk]
   refine U.loop (σ:=Nat) (γ:=Nat) (fun i s=>s.sl 10 (v1 (.t (.int .i64 i)))) (fun i m=>i=m∧m≤l.length∧m+oJ id (l.drop m)=oJ id l) (fun m=>l.length-m) (fun _=>([ov 5 ((l.take (oJ id l)++⟨id,want,done,0,0⟩::l.drop (oJ id l)).map Kid.row)],[])) 0 0 ?_ ?_ ?_ ?_
   ·intro K
    conv=>lhs;whnf
    conv=>rhs;whnf
    try rfl
   ·exact⟨rfl,by omega,by simp⟩
   ·rintro kl m _ ⟨rfl,hm,hs⟩ ih
    conv=>lhs;whnf
    apply U.b<;>intro g1<;>conv=>lhs;whnf
    ·have g1:m<l.length:=by simpa[hrl] using g1
     rw[List.drop_eq_getElem_cons g1,oJ]at hs
     repeat((first|apply U.t|apply U.f|(apply U.q;exact aE)|(refine U.w (cG ?_) ?_;omega));conv=>lhs;whnf)
     apply U.b<;>intro g2<;>conv=>lhs;whnf
     ·have g2:l[m].id≤id:=of_decide_eq_true g2
      rw[if_pos g2]at hs
      refine ih (m+1) (m+1) _ ?_ ⟨rfl,by omega,by omega⟩ (by omega)
      intro K
      conv=>lhs;whnf
      conv=>rhs;whnf
      try rfl
      rw[show IntKind.i64.wrap ((m:Int)+1)=_ from aK (by omega)]
     ·have g2:¬ l[m].id≤id:=of_decide_eq_false g2
      rw[if_neg g2]at hs
      obtain rfl:m=oJ id l:=by omega
      clear ih
      repeat((first|apply U.t|apply U.f|(apply U.q;exact aE));conv=>lhs;whnf)
      refine U.q (by exact⟨Nat.zero_le _,hlr,kids_rows l⟩) ?_
      conv=>lhs;whnf
      repeat((first|apply U.t|apply U.f|(apply U.q;exact aE));conv=>lhs;whnf)
      refine U.q (by exact⟨hlr,Nat.le_refl _,kids_rows l⟩) ?_
      conv=>lhs;whnf
      refine U.q (by exact key1) ?_
      conv=>lhs;whnf
      refine U.q (by exact⟨by decide,key2.2.1,by simp;omega,by simp;omega⟩) ?_
      conv=>lhs;whnf
      repeat((first|apply U.t|apply U.f|(apply U.q;exact aE));conv=>lhs;whnf)
      refine U.q (by exact⟨by decide,key3.2.1,by simp;omega,by simp;omega⟩) ?_
      conv=>lhs;whnf
      apply U.bt (key3.2.2.2.2)
      conv=>lhs;whnf
      refine congrArg (fun b=>(some ([ov 5 b],[]):Option dA)) ?_
      show((l.map Kid.row).take (oJ id l)++[Kid.row ⟨id,want,done,0,0⟩])++((l.map Kid.row).drop (oJ id l)).take ((l.map Kid.row).length-oJ id l)=_
      exact(aOl _ _ _).trans (by rw[List.map_append,List.map_cons,List.map_take,List.map_drop])
    ·have g1:m=l.length:=by simp[hrl]at g1;omega
     rw[g1,List.drop_length]at hs
     obtain rfl:m=oJ id l:=by simp only[oJ]at hs;omega
     clear ih
     repeat((first|apply U.t|apply U.f|(apply U.q;exact aE));conv=>lhs;whnf)
     refine U.q (by exact⟨Nat.zero_le _,hlr,kids_rows l⟩) ?_
     conv=>lhs;whnf
     repeat((first|apply U.t|apply U.f|(apply U.q;exact aE));conv=>lhs;whnf)
     refine U.q (by exact⟨hlr,Nat.le_refl _,kids_rows l⟩) ?_
     conv=>lhs;whnf
     refine U.q (by exact key1) ?_
     conv=>lhs;whnf
     refine U.q (by exact⟨by decide,key2.2.1,by simp;omega,by simp;omega⟩) ?_
     conv=>lhs;whnf
     repeat((first|apply U.t|apply U.f|(apply U.q;exact aE));conv=>lhs;whnf)
     refine U.q (by exact⟨by decide,key3.2.1,by simp;omega,by simp;omega⟩) ?_
     conv=>lhs;whnf
     apply U.bt (key3.2.2.2.2)
     conv=>lhs;whnf
     refine congrArg (fun b=>(some ([ov 5 b],[]):Option dA)) ?_
     show((l.map Kid.row).take (oJ id l)++[Kid.row ⟨id,want,done,0,0⟩])++((l.map Kid.row).drop (oJ id l)).take ((l.map Kid.row).length-oJ id l)=_
     exact(aOl _ _ _).trans (by rw[List.map_append,List.map_cons,List.map_take,List.map_drop])
   ·rfl
  ·obtain⟨n,hn,hk⟩:=mR (by simpa using hk)
   rw[aLU ho hn hk,hk]
   repeat((first|apply U.t|apply U.f|(apply U.q;exact aE)|(refine U.w (cG ?_) ?_;omega));conv=>lhs;whnf)
   rw[List.map_set]
   rfl
theorem aSp {E:aR} (J:Sys E) (x:Kid) (id:Int):E 116 [gv x.cs, .pt false [ci id]]=some ([bv (decide (x.id>id))],[]):=by
 refine J.run rfl rfl fun W U=>?_
 conv=>lhs;whnf
 rfl
theorem pV {E:aR} (J:Sys E) (l:List Kid) (h0:l.length≤1099511627776) (id:Int):E 29 [sv (l.map Kid.row), .fn 116 [[ci id]]]=some ([iv (jU (fun x:Kid=>decide (x.id>id)) 0 l)],[]):=by
 have hrl:(l.map Kid.row).length=l.length:=by simp[aU,bD]
 refine J.run rfl rfl fun W U=>?_
 conv=>lhs;whnf
 refine U.loop (σ:=Nat) (γ:=Nat) (fun i s=>s.sl 8 (v1 (.t (.int .i64 i)))) (fun i n=>i=n∧n≤l.length) (fun n=>l.length-n) (fun n=>([iv (jU (fun x:Kid=>decide (x.id>id)) n (l.drop n))],[])) 0 0 ?_ ?_ ?_ ?_
 ·intro K
  conv=>lhs;whnf
  conv=>rhs;whnf
  try rfl
 ·simp
 ·rintro kl n _ ⟨rfl,hn⟩ ih
  conv=>lhs;whnf
  apply U.b<;>intro h2<;>conv=>lhs;whnf
  ·have h2:n<l.length:=by simpa[hrl] using h2
   rw[List.drop_eq_getElem_cons h2]
   repeat((first|apply U.t|apply U.f|(apply U.q;exact aE)|(refine U.w (cG ?_) ?_;omega));conv=>lhs;whnf)
   apply U.w (aSp J l[n] id)
   conv=>lhs;whnf
   try(apply U.q;exact aE;conv=>lhs;whnf)
   simp only[jU]
   apply U.b<;>intro h3<;>conv=>lhs;whnf
   ·simp only[h3,if_true];rfl
   ·simp only[h3,if_false,Bool.false_eq_true]
    refine ih (n+1) (n+1) _ ?_ ⟨rfl,by omega⟩ (by omega)
    intro K
    conv=>lhs;whnf
    conv=>rhs;whnf
    try rfl
    rw[show IntKind.i64.wrap ((n:Int)+1)=_ from aK (by omega)]
    try rfl
  ·have:n=l.length:=by simp[hrl]at h2;omega
   subst this
   rw[List.drop_length];rfl
 ·rfl
theorem aUk {d:Int} (h:bG d=true):aFE 0 d=d:=by
 unfold bG aW at h
 simp only[Bool.and_eq_true,decide_eq_true_eq]at h
 obtain⟨n,rfl⟩:=Int.eq_ofNat_of_zero_le h.1
 have:=(oA (a:=0) (b:=n) (by decide) (by omega)).1
 rw[Nat.zero_or]at this
 exact this
theorem aUl {E:aR} (J:Sys E) (l:List Kid) (x:Kid) (k:Nat) (hk:k≤l.length) (h0:l.length≤4194304) (o:Bool):E 117 [ov 5 (l.map Kid.row),iv k, .v false [.t (.sl o [Kid.row x])]]=some ([ov 5 ((l.take k++x::l.drop k).map Kid.row)],[]):=by
 refine J.ins _ _ ?_
 have hrl:(l.map Kid.row).length=l.length:=List.length_map _
 refine(if_pos (show(0≤(k:Int)∧(k:Int)≤((l.map Kid.row).length:Nat))∧(l.map Kid.row).length+1≤1099511627776∧gK (Kid.row x::l.map Kid.row)=true∧∀ r∈Kid.row x::l.map Kid.row,r.length=5 from
  ⟨⟨by omega,by rw[hrl];omega⟩,by rw[hrl];omega,lY (x::l),kids_rows (x::l)⟩)).trans ?_
 rw[List.map_append,List.map_cons,List.map_take,List.map_drop]
 rfl
theorem aI8 {es:List (List T)} {n:Nat} {e:List T} (h:es[n]?=some e):es[(n:Int).toNat]?=some e:=h
theorem xT {es:List (List T)} {n:Nat} {e:List T} (h:n<es.length):(es.set n e)[n]?=some e:=by simp[h]
theorem aVa (m:List Kid) (n:Nat) (a b:List T) (x:Kid):((((m.map Kid.row).set n a).set n b).set n (Kid.row x))=(m.set n x).map Kid.row:=by
 rw[List.set_set,List.set_set,List.map_set]
theorem aTP {α:Type} {l:List α} {k:Nat} {x:α} (hk:k≤l.length):(l.take k++x::l.drop k)[k]?=some x:=by
 have:(l.take k).length=k:=by rw[List.length_take];omega
 rw[List.getElem?_append_right (by omega),this,Nat.sub_self]
 rfl
theorem aOm {α:Type} {l:List α} {k:Nat} {x y:α} (hk:k≤l.length):(l.take k++x::l.drop k).set k y=l.take k++y::l.drop k:=by
 have:(l.take k).length=k:=by rw[List.length_take];omega
 rw[List.set_append_right _ _ (by omega),this,Nat.sub_self]
 rfl
theorem aLW {E:aR} (J:Sys E) (l:List Kid) (id want done:Int) (h0:l.length≤4194304):E 114 [sv (l.map Kid.row),iv id,iv want,iv done]=some ([ov 5 ((jZ l id want done).map Kid.row)],[]):=by
 have hrl:(l.map Kid.row).length=l.length:=List.length_map _
 refine J.run rfl rfl fun W U=>?_
 conv=>lhs;whnf
 apply U.w (vX J l (by omega))
 conv=>lhs;whnf
 repeat((first|apply U.t|apply U.f|(apply U.q;exact aE));conv=>lhs;whnf)
 have c1:=aLT J id
 have c2:=dD J want
 have c3:=dD J done
 cases ho:oK id want done with
 |false =>
  rw[aLV ho]
  unfold oK at ho
  cases q1:aW id 0 6<;>rw[q1]at c1 ho
  ·apply U.w (c1)
   conv=>lhs;whnf
   repeat((first|apply U.t|apply U.f|(apply U.q;exact aE));conv=>lhs;whnf)
   rfl
  ·cases q2:bG want<;>rw[q2]at c2 ho
   ·apply U.w (c1)
    conv=>lhs;whnf
    repeat((first|apply U.t|apply U.f|(apply U.q;exact aE));conv=>lhs;whnf)
    apply U.w (c2)
    conv=>lhs;whnf
    repeat((first|apply U.t|apply U.f|(apply U.q;exact aE));conv=>lhs;whnf)
    rfl
   ·cases q3:bG done<;>rw[q3]at c3 ho
    ·apply U.w (c1)
     conv=>lhs;whnf
     repeat((first|apply U.t|apply U.f|(apply U.q;exact aE));conv=>lhs;whnf)
     apply U.w (c2)
     conv=>lhs;whnf
     repeat((first|apply U.t|apply U.f|(apply U.q;exact aE));conv=>lhs;whnf)
     apply U.w (c3)
     conv=>lhs;whnf
     repeat((first|apply U.t|apply U.f|(apply U.q;exact aE));conv=>lhs;whnf)
     rfl
    ·cases ho
 |true =>
  have hoo:=ho
  unfold oK at hoo
  simp only[Bool.and_eq_true]at hoo
  rw[hoo.1.1]at c1
  rw[hoo.1.2]at c2
  rw[hoo.2]at c3
  apply U.w (c1)
  conv=>lhs;whnf
  repeat((first|apply U.t|apply U.f|(apply U.q;exact aE));conv=>lhs;whnf)
  apply U.w (c2)
  conv=>lhs;whnf
  repeat((first|apply U.t|apply U.f|(apply U.q;exact aE));conv=>lhs;whnf)
  apply U.w (c3)
  conv=>lhs;whnf
  repeat((first|apply U.t|apply U.f|(apply U.q;exact aE));conv=>lhs;whnf)
  have hle:oJ id l≤l.length:=aNl
  apply U.w (qW J l id (by omega))
  conv=>lhs;whnf
  repeat((first|apply U.t|apply U.f|(apply U.q;exact aE));conv=>lhs;whnf)
  apply U.b<;>intro hk<;>conv=>lhs;whnf
  ·have hk:eQ l id<0:=by simpa using hk
   rw[aI7 ho hk]
   have mk:((l.take (oJ id l)++⟨id,0,0,0,0⟩::l.drop (oJ id l)).map Kid.row)[oJ id l]?=some (Kid.row ⟨id,0,0,0,0⟩):=by rw[List.getElem?_map,aTP hle];rfl
   have hm:oJ id l<((l.take (oJ id l)++⟨id,0,0,0,0⟩::l.drop (oJ id l)).map Kid.row).length:=(List.getElem?_eq_some_iff.mp mk).1
   rcases aSo (id:=id) (l:=l) (n:=0) with⟨i1,i2⟩|⟨i1,i2⟩
   ·have ci:=pV J l (by omega) id
    rw[i1]at ci
    apply U.w (ci)
    conv=>lhs;whnf
    repeat((first|apply U.t|apply U.f|(apply U.q;exact aE));conv=>lhs;whnf)
    rw[hrl]
    rw[← i2]
    have cx:=aUl J l ⟨id,0,0,0,0⟩ (oJ id l) hle h0 false
    apply U.w (cx)
    conv=>lhs;whnf
    repeat((first|apply U.t|apply U.f|(apply U.q;exact aE));conv=>lhs;whnf)
    apply U.w ((aI8 mk))
    conv=>lhs;whnf
    repeat((first|apply U.t|apply U.f|(apply U.q;exact aE));conv=>lhs;whnf)
    apply U.w ((aI8 mk))
    conv=>lhs;whnf
    repeat((first|apply U.t|apply U.f|(apply U.q;exact aE));conv=>lhs;whnf)
    apply U.w ((aI8 mk))
    conv=>lhs;whnf
    repeat((first|apply U.t|apply U.f|(apply U.q;exact aE));conv=>lhs;whnf)
    apply U.w ((xT hm))
    conv=>lhs;whnf
    repeat((first|apply U.t|apply U.f|(apply U.q;exact aE));conv=>lhs;whnf)
    apply U.w ((xT (show oJ id l<(List.set _ _ _).length by rw[List.length_set];exact hm)))
    conv=>lhs;whnf
    repeat((first|apply U.t|apply U.f|(apply U.q;exact aE));conv=>lhs;whnf)
    refine congrArg (fun b=>(some ([ov 5 b],[]):Option dA)) ((aVa _ (oJ id l) _ _ ⟨id,want,aFE 0 done,0,0⟩).trans ?_)
    rw[aUk hoo.2,aOm hle]
   ·have ci:=pV J l (by omega) id
    rw[i1,Nat.zero_add]at ci
    apply U.w (ci)
    conv=>lhs;whnf
    repeat((first|apply U.t|apply U.f|(apply U.q;exact aE));conv=>lhs;whnf)
    try(apply U.bf (by first|(exact decide_eq_false (by omega))|(simp;done)|(simp;omega));conv=>lhs;whnf)
    have cx:=aUl J l ⟨id,0,0,0,0⟩ (oJ id l) hle h0 false
    apply U.w (cx)
    conv=>lhs;whnf
    repeat((first|apply U.t|apply U.f|(apply U.q;exact aE));conv=>lhs;whnf)
    apply U.w ((aI8 mk))
    conv=>lhs;whnf
    repeat((first|apply U.t|apply U.f|(apply U.q;exact aE));conv=>lhs;whnf)
    apply U.w ((aI8 mk))
    conv=>lhs;whnf
    repeat((first|apply U.t|apply U.f|(apply U.q;exact aE));conv=>lhs;whnf)
    apply U.w ((aI8 mk))
    conv=>lhs;whnf
    repeat((first|apply U.t|apply U.f|(apply U.q;exact aE));conv=>lhs;whnf)
    apply U.w ((xT hm))
    conv=>lhs;whnf
    repeat((first|apply U.t|apply U.f|(apply U.q;exact aE));conv=>lhs;whnf)
    apply U.w ((xT (show oJ id l<(List.set _ _ _).length by rw[List.length_set];exact hm)))
    conv=>lhs;whnf
    repeat((first|apply U.t|apply U.f|(apply U.q;exact aE));conv=>lhs;whnf)
    refine congrArg (fun b=>(some ([ov 5 b],[]):Option dA)) ((aVa _ (oJ id l) _ _ ⟨id,want,aFE 0 done,0,0⟩).trans ?_)
    rw[aUk hoo.2,aOm hle]
  ·obtain⟨n,hn,hk⟩:=mR (l:=l) (id:=id) (by simpa using hk)
   rw[aLU ho hn hk,hk]
   have hm:n<(l.map Kid.row).length:=by rw[hrl];exact hn
   repeat((first|apply U.t|apply U.f|(apply U.q;exact aE)|(refine U.w (cG ?_) ?_;omega));conv=>lhs;whnf)
   apply U.w ((xT hm))
   conv=>lhs;whnf
   repeat((first|apply U.t|apply U.f|(apply U.q;exact aE));conv=>lhs;whnf)
   apply U.w ((xT (show n<((l.map Kid.row).set n _).length by rw[List.length_set];exact hm)))
   conv=>lhs;whnf
   repeat((first|apply U.t|apply U.f|(apply U.q;exact aE));conv=>lhs;whnf)
   exact congrArg (fun b=>(some ([ov 5 b],[]):Option dA)) (aVa l n _ _ ⟨l[n].id,want,aFE l[n].done done,0,l[n].sent⟩)
def sF (up:List Int):Nat→Int→List Int
 |0,_=>[]
 |f+1,k=>if aW k 0 ((up.length:Int)-1)=true then k::sF up f (up.getD k.toNat 0) else[]
def oB (t:Tree) (k:Int):List Int:=sF t.up t.up.length k
theorem aPC {up:List Int} {f:Nat} {k:Int}:(sF up f k).length≤f:=by
 induction f generalizing k with
 |zero=>simp[sF]
 |succ f ih =>
  simp only[sF]
  split
  ·have:=ih (k:=up.getD k.toNat 0)
   simp only[List.length_cons];omega
  ·simp
theorem aIb {E:aR} (J:Sys E) (t:Tree) (k:Int) (ht:t.lim 1048576):E 348 [gv (t.cs aO),iv k]=some ([ov 1 (bD (oB t k))],[]):=by
 have h0:t.up.length≤1048576:=ht
 have hrl:(bD t.up).length=t.up.length:=List.length_map _
 have hw:IntKind.i64.wrap ((t.up.length:Int)-1)=(t.up.length:Int)-1:=aI (by omega)
 refine J.run rfl rfl fun W U=>?_
 conv=>lhs;whnf
 refine U.loop (σ:=Int × List Int) (γ:=Nat) (fun i s=>(s.sl 1 (v1 (.t (.int .i64 i.1)))).bl ⟨50500,1, .own,bD i.2⟩) (fun i f=>i.2.length+f=t.up.length∧i.2++sF t.up f i.1=oB t k) (fun f=>f) (fun _=>([ov 1 (bD (oB t k))],[])) (k,[]) t.up.length ?_ ?_ ?_ ?_
 ·intro K
  conv=>lhs;whnf
  conv=>rhs;whnf
  try rfl
 ·exact⟨by simp,rfl⟩
 ·rintro kl ⟨j,acc⟩ f ⟨hf,hs⟩ ih
  simp only at hf hs
  have hra:(bD acc).length=acc.length:=List.length_map _
  conv=>lhs;whnf
  rw[hrl,hw]
  apply U.w (bR J j 0 ((t.up.length:Int)-1))
  conv=>lhs;whnf
  repeat((first|apply U.t|apply U.f|(apply U.q;exact aE));conv=>lhs;whnf)
  cases hj:aW j 0 ((t.up.length:Int)-1)
  ·repeat((first|apply U.t|apply U.f|(apply U.q;exact aE));conv=>lhs;whnf)
   have hs:acc=oB t k:=by
    rw[← hs]
    cases f with
    |zero=>simp[sF]
    |succ f=>simp[sF,hj]
   rw[hs]
   rfl
  ·repeat((first|apply U.t|apply U.f|(apply U.q;exact aE));conv=>lhs;whnf)
   rw[hra]
   try rw[hrl]
   apply U.b<;>intro h2<;>conv=>lhs;whnf
   ·obtain⟨f,rfl⟩:∃ g,f=g+1:=⟨f-1,by simp at h2;omega⟩
    obtain⟨n,rfl⟩:∃ n:Nat,j=n:=⟨j.toNat,by have:=bS hj;omega⟩
    have hn:n<t.up.length:=by have:=bS hj;omega
    rw[sF,if_pos hj,Int.toNat_natCast,List.getD_eq_getElem?_getD,List.getElem?_eq_getElem hn,Option.getD_some]at hs
    refine U.q (by exact⟨by decide,by intro e he;simp at he;subst he;rfl,by simp[bD];omega,by simp[bD];omega⟩) ?_
    conv=>lhs;whnf
    repeat((first|apply U.t|apply U.f|(apply U.q;exact aE)|(refine U.w (cG ?_) ?_;omega));conv=>lhs;whnf)
    refine ih (t.up[n],acc++[(n:Int)]) f _ ?_ ⟨by simp;omega,by simpa using hs⟩ (by omega)
    intro K
    conv=>lhs;whnf
    conv=>rhs;whnf
    try rfl
    rw[show bD (acc++[(n:Int)])=bD acc++[[ti n]] from by simp[bD,kK]]
    rfl
   ·have:f=0:=by simp at h2;omega
    subst this
    simp only[sF,List.append_nil]at hs
    rw[hs]
    rfl
 ·rfl
def aSq (x:Kid):Kid:={ x with age:=IntKind.i64.wrap (x.age+1),sent:=0 }
def aTQ (f:Int) (x:Kid):List Kid:=if x.age<f then[aSq x] else[]
def gU (l:List Kid) (f:Int):List Kid:=l.flatMap (aTQ f)
theorem aIc {E:aR} (J:Sys E) (l:List Kid) (f:Int) (h0:l.length≤1048576):E 164 [sv (l.map Kid.row),iv f]=some ([ov 5 ((gU l f).map Kid.row)],[]):=by
 have hrl:(l.map Kid.row).length=l.length:=List.length_map _
 refine J.run rfl rfl fun W U=>?_
 conv=>lhs;whnf
 refine U.loop (σ:=Nat × List Kid) (γ:=Nat) (fun i s=>(s.sl 6 (v1 (.t (.int .i64 i.1)))).bl ⟨50500,5, .own,i.2.map Kid.row⟩) (fun i m=>i.1=m∧m≤l.length∧i.2.length≤m∧i.2++gU (l.drop m) f=gU l f) (fun m=>l.length-m) (fun _=>([ov 5 ((gU l f).map Kid.row)],[])) (0,[]) 0 ?_ ?_ ?_ ?_
 ·intro K
  conv=>lhs;whnf
  conv=>rhs;whnf
  try rfl
 ·exact⟨rfl,by omega,by simp,rfl⟩
 ·rintro kl ⟨m,acc⟩ _ ⟨rfl,hm,hl,hs⟩ ih
  simp only at hs hm hl
  conv=>lhs;whnf
  rw[hrl]
  apply U.b<;>intro h1<;>conv=>lhs;whnf
  ·have h1:m<l.length:=by simpa using h1
   rw[List.drop_eq_getElem_cons h1,gU,List.flatMap_cons,aTQ]at hs
   repeat((first|apply U.t|apply U.f|(apply U.q;exact aE)|(refine U.w (cG ?_) ?_;omega));conv=>lhs;whnf)
   apply U.b<;>intro h3<;>conv=>lhs;whnf
   ·have h3:¬ l[m].age<f:=by
     have:l[m].age≥f:=by simpa using h3
     omega
    rw[if_neg h3]at hs
    refine ih (m+1,acc) (m+1) _ ?_ ⟨rfl,by omega,by simp only;omega,hs⟩ (by omega)
    intro K
    conv=>lhs;whnf
    conv=>rhs;whnf
    try rfl
    rw[show IntKind.i64.wrap ((m:Int)+1)=_ from aK (by omega)]
    try rfl
   ·have h3:l[m].age<f:=by
     have:¬ l[m].age≥f:=by simpa using h3
     omega
    rw[if_pos h3]at hs
    refine U.q (by exact⟨by decide,by intro e he;simp at he;subst he;rfl,by simp;omega,by simp;omega⟩) ?_
    conv=>lhs;whnf
    repeat((first|apply U.t|apply U.f|(apply U.q;exact aE));conv=>lhs;whnf)
    refine ih (m+1,acc++[aSq l[m]]) (m+1) _ ?_ ⟨rfl,by omega,by simp;omega,by rw[List.append_assoc];exact hs⟩ (by omega)
    intro K
    conv=>lhs;whnf
    conv=>rhs;whnf
    try rfl
    rw[show IntKind.i64.wrap ((m:Int)+1)=_ from aK (by omega),List.map_append]
    rfl
  ·have:m=l.length:=by simp at h1;omega
   subst this
   simp only[List.drop_length,gU,List.flatMap_nil,List.append_nil]at hs
   rw[hs];rfl
 ·rfl
def aDy (gen want done:Int):Msg:=⟨2,gen,⟨0,0,0,[]⟩,want,done,0,[]⟩
theorem nC {E:aR} (J:Sys E) (gen want done:Int):E 498 [iv gen,iv want,iv done]=some ([gv ((aDy gen want done).cs dH)],[]):=by
 refine J.run rfl rfl fun W U=>?_
 conv=>lhs;whnf
 rfl
def lL (b:aD) (l:List Kid) (c:Cur):List Kid × Cur:=(if(aF b c 3).1=0 then gU l 3 else l,(aF b c 3).2)
def fG (b:aD) (l:List Kid) (c:Cur):List Kid × Cur :=
 if(aF b c 3).1=0 then(bH l (aF b (aF b c 3).2 7).1 (dZ b (aF b (aF b c 3).2 7).2).1,(dZ b (aF b (aF b c 3).2 7).2).2) else(l,(aF b c 3).2)
def lT (b:aD) (l:List Kid) (c:Cur):List Kid × Cur :=
 (jZ l (aF b (dZ b c).2 7).1 (dZ b c).1 (aF b (aF b (dZ b c).2 7).2 128).1,(aF b (aF b (dZ b c).2 7).2 128).2)
def aGf (b:aD) (p:List Kid × Cur):List Kid × Cur:=fG b (lL b (lT b p.1 p.2).1 (lT b p.1 p.2).2).1 (lL b (lT b p.1 p.2).1 (lT b p.1 p.2).2).2
def jO (b:aD):Nat→List Kid × Cur→List Kid × Cur
 |0,p=>p
 |n+1,p=>jO b n (aGf b p)
def hJ (b:aD) (c:Cur):List Kid × Cur:=jO b (aF b c 5).1.toNat ([],(aF b c 5).2)
theorem aSr (f:Int) (x:Kid):(aTQ f x).length≤1:=by unfold aTQ;split<;>simp
theorem aHG (l:List Kid) (f:Int):(gU l f).length≤l.length:=by
 unfold gU
 induction l with
 |nil=>simp
 |cons a r ih =>
  have:=aSr f a
  simp only[List.flatMap_cons,List.length_append,List.length_cons];omega
theorem aLX (b:aD) (l:List Kid) (c:Cur):(lT b l c).1.length≤l.length+1:=xS _ _ _ _
theorem aNm (b:aD) (l:List Kid) (c:Cur):(lL b l c).1.length≤l.length:=by
 unfold lL
 simp only
 split
 ·exact aHG _ _
 ·exact Nat.le_refl _
theorem aLY (b:aD) (l:List Kid) (c:Cur):(fG b l c).1.length≤l.length:=by
 unfold fG
 split
 ·simp only;rw[dS];exact Nat.le_refl _
 ·exact Nat.le_refl _
theorem aLZ (b:aD) (p:List Kid × Cur):(aGf b p).1.length≤p.1.length+1:=Nat.le_trans (aLY _ _ _) (Nat.le_trans (aNm _ _ _) (aLX _ _ _))
theorem aHH (b:aD):∀ (n:Nat) (p:List Kid × Cur),(jO b n p).1.length≤p.1.length+n
 |0,_=>Nat.le_refl _
 |n+1,p=>by
  have h1:=aHH b n (aGf b p)
  have h2:=aLZ b p
  simp only[jO]
  omega
theorem aI9 (b:aD) (c:Cur):(hJ b c).1.length≤5:=by
 have h:=cE b c (n:=5) (by decide)
 have:=aHH b (aF b c 5).1.toNat ([],(aF b c 5).2)
 unfold hJ
 simp only[List.length_nil]at this
 omega
theorem lU {k:Nat} (h:k+1<9223372036854775807):IntKind.i64.wrap (((k+1:Nat):Int)-1)=(k:Int):=by
 rw[show((k+1:Nat):Int)-1=(k:Int) by omega]
 exact aI (by omega)
theorem aVb {E:aR} (J:Sys E) {es:List (List T)} {b:aD} (he:es=aU b) (c:Cur) (hb:b.length≤1048576):E 159 [gT es c]=some ([ov 5 ((hJ b c).1.map Kid.row)],dP (hJ b c).2):=by
 have hr:=cE b c (n:=5) (by decide)
 obtain⟨n,hn⟩:=Int.eq_ofNat_of_zero_le hr.1
 unfold hJ
 have a0:=aT J he c hb 5
 rw[hn]at a0 hr ⊢
 rw[Int.toNat_natCast]
 refine J.run rfl rfl fun W U=>?_
 conv=>lhs;whnf
 repeat((first|apply U.t|apply U.f|(apply U.q;exact aE));conv=>lhs;whnf)
 apply U.w (a0)
 conv=>lhs;whnf
 repeat((first|apply U.t|apply U.f|(apply U.q;exact aE));conv=>lhs;whnf)
 generalize hfin:jO b n ([],(aF b c 5).2)=fin
 refine U.loop (σ:=Nat × List Kid × Cur) (γ:=Nat) (fun i s=>((s.sl 4 (v1 (.t (.int .i64 i.1)))).sl 0 (.box true [.blk 0, .t (.int .i64 i.2.2.i), .t (.int .i64 i.2.2.h)])).bl ⟨50300,5, .own,i.2.1.map Kid.row⟩) (fun i m=>i.1=m∧m≤n∧i.2.1.length+m≤n∧jO b m i.2=fin) (fun m=>m) (fun _=>([ov 5 (fin.1.map Kid.row)],dP fin.2)) (n,[],(aF b c 5).2) n ?_ ?_ ?_ ?_
 ·intro K
  conv=>lhs;whnf
  conv=>rhs;whnf
  try rfl
 ·exact⟨rfl,Nat.le_refl _,by simp,hfin⟩
 ·rintro kl ⟨m,l,q⟩ _ ⟨rfl,hm,hl,hs⟩ ih
  simp only at hs hl hm
  conv=>lhs;whnf
  apply U.b<;>intro g1<;>conv=>lhs;whnf
  ·have g1:0<m:=by have g1:=of_decide_eq_true g1;omega
   obtain⟨k,rfl⟩:∃ k,m=k+1:=⟨m-1,by omega⟩
   rw[jO]at hs
   have hstep:aGf b (l,q)=fG b (lL b (lT b l q).1 (lT b l q).2).1 (lL b (lT b l q).1 (lT b l q).2).2:=rfl
   rw[hstep]at hs
   repeat((first|apply U.t|apply U.f|(apply U.q;exact aE));conv=>lhs;whnf)
   apply U.w (aLR J he q hb)
   conv=>lhs;whnf
   repeat((first|apply U.t|apply U.f|(apply U.q;exact aE));conv=>lhs;whnf)
   apply U.w (aT J he (dZ b q).2 hb 7)
   conv=>lhs;whnf
   repeat((first|apply U.t|apply U.f|(apply U.q;exact aE));conv=>lhs;whnf)
   apply U.w (aT J he (aF b (dZ b q).2 7).2 hb 128)
   conv=>lhs;whnf
   repeat((first|apply U.t|apply U.f|(apply U.q;exact aE));conv=>lhs;whnf)
   apply U.w (wO J l (aF b (dZ b q).2 7).1 (dZ b q).1 (aF b (aF b (dZ b q).2 7).2 128).1 (by omega))
   conv=>lhs;whnf
   repeat((first|apply U.t|apply U.f|(apply U.q;exact aE));conv=>lhs;whnf)
   have hs:jO b k (fG b (lL b (jZ l (aF b (dZ b q).2 7).1 (dZ b q).1 (aF b (aF b (dZ b q).2 7).2 128).1) (aF b (aF b (dZ b q).2 7).2 128).2).1 (lL b (jZ l (aF b (dZ b q).2 7).1 (dZ b q).1 (aF b (aF b (dZ b q).2 7).2 128).1) (aF b (aF b (dZ b q).2 7).2 128).2).2)=fin:=hs
   have hl1:(jZ l (aF b (dZ b q).2 7).1 (dZ b q).1 (aF b (aF b (dZ b q).2 7).2 128).1).length≤l.length+1:=xS _ _ _ _
   generalize (aF b (aF b (dZ b q).2 7).2 128).2=c3 at hs ⊢
   generalize jZ l (aF b (dZ b q).2 7).1 (dZ b q).1 (aF b (aF b (dZ b q).2 7).2 128).1=l1 at hs hl1 ⊢
   have a5:=jN J he c3 hb 3
   by_cases h4:(aF b c3 3).1=0
   ·have hs:jO b k (fG b (gU l1 3) (aF b c3 3).2)=fin:=by
     have e:lL b l1 c3=(gU l1 3,(aF b c3 3).2):=by unfold lL;rw[if_pos h4]
     rw[e]at hs
     exact hs
    rw[decide_eq_true h4]at a5
    apply U.w (a5)
    conv=>lhs;whnf
    repeat((first|apply U.t|apply U.f|(apply U.q;exact aE));conv=>lhs;whnf)
    apply U.w (aIc J l1 3 (by omega))
    conv=>lhs;whnf
    repeat((first|apply U.t|apply U.f|(apply U.q;exact aE));conv=>lhs;whnf)
    have hl2:(gU l1 3).length≤l.length+1:=Nat.le_trans (aHG _ _) hl1
    generalize gU l1 3=l2 at hs hl2 ⊢
    generalize (aF b c3 3).2=c4 at hs ⊢
    have a6:=jN J he c4 hb 3
    by_cases h5:(aF b c4 3).1=0
    ·rw[decide_eq_true h5]at a6
     have hs:jO b k (bH l2 (aF b (aF b c4 3).2 7).1 (dZ b (aF b (aF b c4 3).2 7).2).1,(dZ b (aF b (aF b c4 3).2 7).2).2)=fin:=by
      have e:fG b l2 c4=(bH l2 (aF b (aF b c4 3).2 7).1 (dZ b (aF b (aF b c4 3).2 7).2).1,(dZ b (aF b (aF b c4 3).2 7).2).2):=by unfold fG;rw[if_pos h5]
      rw[e]at hs
      exact hs
     apply U.w (a6)
     conv=>lhs;whnf
     repeat((first|apply U.t|apply U.f|(apply U.q;exact aE));conv=>lhs;whnf)
     apply U.w (aT J he (aF b c4 3).2 hb 7)
     conv=>lhs;whnf
     repeat((first|apply U.t|apply U.f|(apply U.q;exact aE));conv=>lhs;whnf)
     apply U.w (aLR J he (aF b (aF b c4 3).2 7).2 hb)
     conv=>lhs;whnf
     repeat((first|apply U.t|apply U.f|(apply U.q;exact aE));conv=>lhs;whnf)
     apply U.w (iM J l2 (aF b (aF b c4 3).2 7).1 (dZ b (aF b (aF b c4 3).2 7).2).1 (by omega))
     conv=>lhs;whnf
     repeat((first|apply U.t|apply U.f|(apply U.q;exact aE));conv=>lhs;whnf)
     refine ih (k,bH l2 (aF b (aF b c4 3).2 7).1 (dZ b (aF b (aF b c4 3).2 7).2).1,(dZ b (aF b (aF b c4 3).2 7).2).2) k _ ?_ ⟨rfl,by omega,by simp only;rw[dS];omega,hs⟩ (by omega)
     intro K
     conv=>lhs;whnf
     conv=>rhs;whnf
     try rfl
     rw[show IntKind.i64.wrap (((k+1:Nat):Int)-1)=(k:Int) from lU (by omega)]
    ·rw[decide_eq_false h5]at a6
     have hs:jO b k (l2,(aF b c4 3).2)=fin:=by
      have e:fG b l2 c4=(l2,(aF b c4 3).2):=by unfold fG;rw[if_neg h5]
      rw[e]at hs
      exact hs
     apply U.w (a6)
     conv=>lhs;whnf
     repeat((first|apply U.t|apply U.f|(apply U.q;exact aE));conv=>lhs;whnf)
     refine ih (k,l2,(aF b c4 3).2) k _ ?_ ⟨rfl,by omega,by simp only;omega,hs⟩ (by omega)
     intro K
     conv=>lhs;whnf
     conv=>rhs;whnf
     try rfl
     rw[show IntKind.i64.wrap (((k+1:Nat):Int)-1)=(k:Int) from lU (by omega)]
   ·have hs:jO b k (fG b (l1) (aF b c3 3).2)=fin:=by
     have e:lL b l1 c3=(l1,(aF b c3 3).2):=by unfold lL;rw[if_neg h4]
     rw[e]at hs
     exact hs
    rw[decide_eq_false h4]at a5
    apply U.w (a5)
    conv=>lhs;whnf
    repeat((first|apply U.t|apply U.f|(apply U.q;exact aE));conv=>lhs;whnf)
    have hl2:(l1).length≤l.length+1:=hl1
    generalize (aF b c3 3).2=c4 at hs ⊢
    have a6:=jN J he c4 hb 3
    by_cases h5:(aF b c4 3).1=0
    ·rw[decide_eq_true h5]at a6
     have hs:jO b k (bH l1 (aF b (aF b c4 3).2 7).1 (dZ b (aF b (aF b c4 3).2 7).2).1,(dZ b (aF b (aF b c4 3).2 7).2).2)=fin:=by
      have e:fG b l1 c4=(bH l1 (aF b (aF b c4 3).2 7).1 (dZ b (aF b (aF b c4 3).2 7).2).1,(dZ b (aF b (aF b c4 3).2 7).2).2):=by unfold fG;rw[if_pos h5]
      rw[e]at hs
      exact hs
     apply U.w (a6)
     conv=>lhs;whnf
     repeat((first|apply U.t|apply U.f|(apply U.q;exact aE));conv=>lhs;whnf)
     apply U.w (aT J he (aF b c4 3).2 hb 7)
     conv=>lhs;whnf
     repeat((first|apply U.t|apply U.f|(apply U.q;exact aE));conv=>lhs;whnf)
     apply U.w (aLR J he (aF b (aF b c4 3).2 7).2 hb)
     conv=>lhs;whnf
     repeat((first|apply U.t|apply U.f|(apply U.q;exact aE));conv=>lhs;whnf)
     apply U.w (iM J l1 (aF b (aF b c4 3).2 7).1 (dZ b (aF b (aF b c4 3).2 7).2).1 (by omega))
     conv=>lhs;whnf
     repeat((first|apply U.t|apply U.f|(apply U.q;exact aE));conv=>lhs;whnf)
     refine ih (k,bH l1 (aF b (aF b c4 3).2 7).1 (dZ b (aF b (aF b c4 3).2 7).2).1,(dZ b (aF b (aF b c4 3).2 7).2).2) k _ ?_ ⟨rfl,by omega,by simp only;rw[dS];omega,hs⟩ (by omega)
     intro K
     conv=>lhs;whnf
     conv=>rhs;whnf
     try rfl
     rw[show IntKind.i64.wrap (((k+1:Nat):Int)-1)=(k:Int) from lU (by omega)]
    ·rw[decide_eq_false h5]at a6
     have hs:jO b k (l1,(aF b c4 3).2)=fin:=by
      have e:fG b l1 c4=(l1,(aF b c4 3).2):=by unfold fG;rw[if_neg h5]
      rw[e]at hs
      exact hs
     apply U.w (a6)
     conv=>lhs;whnf
     repeat((first|apply U.t|apply U.f|(apply U.q;exact aE));conv=>lhs;whnf)
     refine ih (k,l1,(aF b c4 3).2) k _ ?_ ⟨rfl,by omega,by simp only;omega,hs⟩ (by omega)
     intro K
     conv=>lhs;whnf
     conv=>rhs;whnf
     try rfl
     rw[show IntKind.i64.wrap (((k+1:Nat):Int)-1)=(k:Int) from lU (by omega)]
  ·have g1:m=0:=by have g1:=of_decide_eq_false g1;omega
   subst g1
   have hs:(l,q)=fin:=hs
   rw[← hs]
   rfl
 ·rfl
theorem aJa (l:aD) (k:Int):aU l++[[.int .u8 (IntKind.u8.wrap k)]]=aU (l++[dK k]):=by
 rw[mK]
 show _=aU l++[[.int .u8 ((dK k).toNat:Int)]]
 rw[jF]
theorem xU {E:aR} (J:Sys E) {es:List (List T)} {b:aD} (he:es=aU b) (c:Cur) (hb:b.length≤1048576) (k:Nat) (hk:k≤250):∃ (x:aD) (c':Cur),x.length≤k∧E 543 [gT es c,iv k]=some ([ov 1 (aU x)],dP c'):=by
 have hr:=cE b c (n:=(k:Int)+1) (by omega)
 obtain⟨n,hn⟩:=Int.eq_ofNat_of_zero_le hr.1
 have a0:=aT J he c hb ((k:Int)+1)
 rw[hn]at a0 hr
 have key:rA (E 543 [gT es c,iv k]) fun r=>∃ (x:aD) (c':Cur),x.length≤k∧r=([ov 1 (aU x)],dP c'):=by
  refine J.runS rfl rfl fun W U=>?_
  conv=>lhs;whnf
  repeat((first|apply U.t|apply U.f|(apply U.q;exact aE));conv=>lhs;whnf)
  rw[show IntKind.i64.wrap ((k:Int)+1)=(k:Int)+1 from aI (by omega)]
  apply U.w (a0)
  conv=>lhs;whnf
  repeat((first|apply U.t|apply U.f|(apply U.q;exact aE));conv=>lhs;whnf)
  refine U.loop (σ:=Nat × aD × Cur) (γ:=Nat) (fun i s=>((s.sl 6 (v1 (.t (.int .i64 i.1)))).sl 0 (.box true [.blk 0, .t (.int .i64 i.2.2.i), .t (.int .i64 i.2.2.h)])).bl ⟨50500,1, .own,aU i.2.1⟩) (fun i m=>i.1=m∧m≤n∧i.2.1.length+m≤n) (fun m=>m) (n,[],(aF b c ((k:Int)+1)).2) n ?_ ?_ ?_
  ·intro K
   conv=>lhs;whnf
   conv=>rhs;whnf
   try rfl
  ·exact⟨rfl,Nat.le_refl _,by simp⟩
  ·rintro kl ⟨m,l,q⟩ _ ⟨rfl,hm,hl⟩ ih
   simp only at hl hm
   conv=>lhs;whnf
   apply U.b<;>intro g1<;>conv=>lhs;whnf
   ·have g1:0<m:=by have g1:=of_decide_eq_true g1;omega
    obtain⟨j,rfl⟩:∃ j,m=j+1:=⟨m-1,by omega⟩
    repeat((first|apply U.t|apply U.f|(apply U.q;exact aE));conv=>lhs;whnf)
    apply U.w (aHF J he q hb [97,98,99,0,255] (by decide))
    conv=>lhs;whnf
    repeat((first|apply U.t|apply U.f|(apply U.q;exact aE));conv=>lhs;whnf)
    have hbl:=eK l
    refine U.q (by exact⟨by decide,fun e he=>by rw[List.mem_singleton.mp he];rfl,by simp;omega,by simp;omega⟩) ?_
    conv=>lhs;whnf
    repeat((first|apply U.t|apply U.f|(apply U.q;exact aE));conv=>lhs;whnf)
    refine ih (j,l++[dK (aHE b q [97,98,99,0,255]).1],(aHE b q [97,98,99,0,255]).2) j _ ?_ ⟨rfl,by omega,by simp only[List.length_append,List.length_singleton];omega⟩ (by omega)
    intro K
    conv=>lhs;whnf
    conv=>rhs;whnf
    try rfl
    rw[show IntKind.i64.wrap (((j+1:Nat):Int)-1)=(j:Int) from lU (by omega)]
    rw[← aJa]
    rfl
   ·repeat((first|apply U.t|apply U.f|(apply U.q;exact aE));conv=>lhs;whnf)
    exact⟨_,rfl,l,q,by omega,rfl⟩
 obtain⟨r,h1,x,c',h2,rfl⟩:=key
 exact⟨x,c',h2,h1⟩
theorem aPD {E:aR} (J:Sys E) {es:List (List T)} {b:aD} (he:es=aU b) (c:Cur) (hb:b.length≤1048576):∃ (x:aD) (c':Cur),x.length≤16∧E 546 [gT es c]=some ([ov 1 (aU x)],dP c'):=by
 obtain⟨x,c',hx,a0⟩:=xU J he c hb 16 (by decide)
 refine⟨x,c',hx,?_⟩
 refine J.run rfl rfl fun W U=>?_
 conv=>lhs;whnf
 repeat((first|apply U.t|apply U.f|(apply U.q;exact aE));conv=>lhs;whnf)
 apply U.w (a0)
 conv=>lhs;whnf
 repeat((first|apply U.t|apply U.f|(apply U.q;exact aE));conv=>lhs;whnf)
 rfl
theorem aHI {E:aR} (J:Sys E) {es:List (List T)} {b:aD} (he:es=aU b) (c:Cur) (hb:b.length≤1048576):∃ (g s:Int) (x:aD) (c':Cur),x.length≤16∧1≤g∧g≤5∧2≤s∧s≤6∧E 545 [gT es c]=some ([gv ((lJ g x s).cs dH),ov 1 (aU x)],dP c'):=by
 obtain⟨x,c1,hx,a0⟩:=aPD J he c hb
 have a1:=aT J he c1 hb 5
 have h1:=cE b c1 (n:=5) (by decide)
 generalize aF b c1 5=q at a1 h1
 obtain⟨g,c2⟩:=q
 simp only at a1 h1
 have a2:=aT J he c2 hb 5
 have h2:=cE b c2 (n:=5) (by decide)
 generalize aF b c2 5=q at a2 h2
 obtain⟨s,c3⟩:=q
 simp only at a2 h2
 refine⟨1+g,2+s,x,c3,hx,by omega,by omega,by omega,by omega,?_⟩
 refine J.run rfl rfl fun W U=>?_
 conv=>lhs;whnf
 repeat((first|apply U.t|apply U.f|(apply U.q;exact aE));conv=>lhs;whnf)
 apply U.w (a0)
 conv=>lhs;whnf
 repeat((first|apply U.t|apply U.f|(apply U.q;exact aE));conv=>lhs;whnf)
 apply U.w (a1)
 conv=>lhs;whnf
 repeat((first|apply U.t|apply U.f|(apply U.q;exact aE));conv=>lhs;whnf)
 apply U.w (a2)
 conv=>lhs;whnf
 repeat((first|apply U.t|apply U.f|(apply U.q;exact aE));conv=>lhs;whnf)
 rw[show IntKind.i64.wrap (1+g)=1+g from aI (by omega),show IntKind.i64.wrap (2+s)=2+s from aI (by omega)]
 apply U.w (aJ5 J (1+g) x (2+s) (by omega))
 conv=>lhs;whnf
 repeat((first|apply U.t|apply U.f|(apply U.q;exact aE));conv=>lhs;whnf)
 rfl
theorem aBc (g:Int) (x:aD) (s:Int):(lJ g x s).sums.length≤40:=by
 unfold lJ
 split
 ·exact aE7 _ _
 ·exact Nat.zero_le _
theorem aKg (g s l:Int) (ss:List Sum) (h:ss.length≤41) (c:Cur):∃ (m:Man) (c':Cur),m.sums.length≤41∧([gv [ci g,ci s,ci l, .own 2 (ss.map Sum.row)]],dP c)=([gv (m.cs dH)],dP c'):=⟨⟨g,s,l,ss⟩,c,h,rfl⟩
theorem aTR (g s l:Int) (ss:List Sum) (h:ss.length≤41) (c:Cur) {aAN:List (List T)} (hr:ss.map Sum.row=aAN):∃ (m:Man) (c':Cur),m.sums.length≤41∧([gv [ci g,ci s,ci l, .own 2 aAN]],dP c)=([gv (m.cs dH)],dP c'):=⟨⟨g,s,l,ss⟩,c,h,by rw[← hr];rfl⟩
theorem aTS {E:aR} (J:Sys E) {es:List (List T)} {b:aD} (he:es=aU b) (c:Cur) (hb:b.length≤1048576):∃ (m:Man) (c':Cur),m.sums.length≤41∧E 544 [gT es c]=some ([gv (m.cs dH)],dP c'):=by
 obtain⟨g,s,x,c1,hx,_,_,_,_,a0⟩:=aHI J he c hb
 have hl:=aBc g x s
 generalize lJ g x s=m at a0 hl
 have hrl:(m.sums.map Sum.row).length=m.sums.length:=List.length_map _
 have key:rA (E 544 [gT es c]) fun r=>∃ (m:Man) (c':Cur),m.sums.length≤41∧r=([gv (m.cs dH)],dP c'):=by
  refine J.runS rfl rfl fun W U=>?_
  conv=>lhs;whnf
  repeat((first|apply U.t|apply U.f|(apply U.q;exact aE));conv=>lhs;whnf)
  apply U.w (a0)
  conv=>lhs;whnf
  repeat((first|apply U.t|apply U.f|(apply U.q;exact aE));conv=>lhs;whnf)
  apply U.w (aT J he c1 hb 10)
  conv=>lhs;whnf
  repeat((first|apply U.t|apply U.f|(apply U.q;exact aE));conv=>lhs;whnf)
  apply U.b<;>intro g1<;>conv=>lhs;whnf
  ·repeat((first|apply U.t|apply U.f|(apply U.q;exact aE));conv=>lhs;whnf)
   apply U.w (aHF J he (aF b c1 10).2 hb [0,-1,1000000,1000001] (by decide))
   conv=>lhs;whnf
   repeat((first|apply U.t|apply U.f|(apply U.q;exact aE));conv=>lhs;whnf)
   exact⟨_,rfl,aKg _ _ _ _ (by omega) _⟩
  ·apply U.b<;>intro g2<;>conv=>lhs;whnf
   ·repeat((first|apply U.t|apply U.f|(apply U.q;exact aE));conv=>lhs;whnf)
    apply U.w (aHF J he (aF b c1 10).2 hb [0,1,7] (by decide))
    conv=>lhs;whnf
    repeat((first|apply U.t|apply U.f|(apply U.q;exact aE));conv=>lhs;whnf)
    exact⟨_,rfl,aKg _ _ _ _ (by omega) _⟩
   ·apply U.b<;>intro g3<;>conv=>lhs;whnf
    ·repeat((first|apply U.t|apply U.f|(apply U.q;exact aE));conv=>lhs;whnf)
     exact⟨_,rfl,aKg _ _ _ _ (by omega) _⟩
    ·apply U.b<;>intro g4<;>conv=>lhs;whnf
     ·refine U.q (by exact⟨by decide,fun e he=>by rw[List.mem_singleton.mp he];rfl,by simp;omega,by simp;omega⟩) ?_
      conv=>lhs;whnf
      repeat((first|apply U.t|apply U.f|(apply U.q;exact aE));conv=>lhs;whnf)
      exact⟨_,rfl,aTR _ _ _ (m.sums++[⟨1,257⟩]) (by simp only[List.length_append,List.length_singleton];omega) _ (by rw[List.map_append];rfl)⟩
     ·apply U.b<;>intro g5<;>conv=>lhs;whnf
      ·cases hs:m.sums with
       |nil =>
        repeat((first|apply U.t|apply U.f|(apply U.q;exact aE));conv=>lhs;whnf)
        try(apply U.bf (by first|(exact decide_eq_false (by omega))|(simp;done)|(simp;omega));conv=>lhs;whnf)
        refine⟨_,rfl,⟨m.gen,m.size,m.len,[]⟩,_,by simp,rfl⟩
       |cons y r =>
        have hlen:decide (((((y::r).map Sum.row).length:Nat):Int)>0)=true:=by simp
        apply U.bt (hlen)
        conv=>lhs;whnf
        repeat((first|apply U.t|apply U.f|(apply U.q;exact aE));conv=>lhs;whnf)
        repeat'((first|apply U.t|apply U.f|(apply U.q;exact aE)|apply U.w ((show((y::r).map Sum.row)[(0:Int).toNat]?=some (Sum.row y) from rfl))|(apply U.b<;>intro h))<;>conv=>lhs;whnf)
        rw[hs]at hl
        exact⟨_,rfl,aKg _ _ _ (⟨_,y.s⟩::r) (by simp only[List.length_cons]at hl ⊢;omega) _⟩
      ·repeat((first|apply U.t|apply U.f|(apply U.q;exact aE));conv=>lhs;whnf)
       exact⟨_,rfl,m,_,by omega,rfl⟩
 obtain⟨r,h1,m,c',h2,rfl⟩:=key
 exact⟨m,c',h2,h1⟩
theorem aL0 (l:aD) (n:Nat) (k:Int):aU (l.set n (dK k))=(aU l).set n [.int .u8 (IntKind.u8.wrap k)]:=by
 unfold aU
 rw[List.map_set]
 show _=(List.map nG l).set n [.int .u8 (IntKind.u8.wrap k)]
 rw[← jF]
 rfl
theorem wQ (n:Nat) (aAN:List (List T)) (x:aD) (hl:x.length≤n) (c:Cur) (hr:aU x=aAN):∃ (x:aD) (c':Cur),x.length≤n∧([sv aAN],dP c)=([sv (aU x)],dP c'):=⟨x,c,hl,by rw[hr]⟩
theorem kQ (n:Nat) (aAN:List (List T)) (x:aD) (hl:x.length≤n) (c:Cur) (hr:aU x=aAN):∃ (x:aD) (c':Cur),x.length≤n∧([ov 1 aAN],dP c)=([ov 1 (aU x)],dP c'):=⟨x,c,hl,by rw[hr]⟩
theorem aL1 {E:aR} (J:Sys E) {es:List (List T)} {b:aD} (he:es=aU b) (c:Cur) (hb:b.length≤1048576) (x:aD) (hx:x.length≤1048576):∃ (y:aD) (c':Cur),y.length≤x.length+1∧E 551 [gT es c,sv (aU x)]=some ([ov 1 (aU y)],dP c'):=by
 have hbl:=eK x
 have key:rA (E 551 [gT es c,sv (aU x)]) fun r=>∃ (y:aD) (c':Cur),y.length≤x.length+1∧r=([ov 1 (aU y)],dP c'):=by
  refine J.runS rfl rfl fun W U=>?_
  conv=>lhs;whnf
  refine U.q (by exact⟨by decide,bK x,by simp;omega,by simp;omega⟩) ?_
  conv=>lhs;whnf
  apply U.bt (cZ x)
  conv=>lhs;whnf
  repeat((first|apply U.t|apply U.f|(apply U.q;exact aE));conv=>lhs;whnf)
  apply U.w (aT J he c hb 6)
  conv=>lhs;whnf
  repeat((first|apply U.t|apply U.f|(apply U.q;exact aE));conv=>lhs;whnf)
  apply U.b<;>intro g1<;>conv=>lhs;whnf
  ·repeat((first|apply U.t|apply U.f|(apply U.q;exact aE));conv=>lhs;whnf)
   by_cases h0:x.length=0
   ·obtain rfl:=List.eq_nil_of_length_eq_zero h0
    repeat((first|apply U.t|apply U.f|(apply U.q;exact aE));conv=>lhs;whnf)
    exact⟨_,rfl,kQ _ _ [] (by simp) _ rfl⟩
   ·have hlen:decide ((((aU x).length:Nat):Int)>0)=true:=decide_eq_true (by omega)
    apply U.bt (hlen)
    conv=>lhs;whnf
    repeat((first|apply U.t|apply U.f|(apply U.q;exact aE));conv=>lhs;whnf)
    have hr:=cE b (aF b c 6).2 (n:=((aU x).length:Int)) (by omega)
    have a1:=aT J he (aF b c 6).2 hb ((aU x).length:Int)
    generalize aF b (aF b c 6).2 ((aU x).length:Int)=q at a1 hr
    obtain⟨j,c2⟩:=q
    simp only at a1 hr
    obtain⟨n,rfl⟩:=Int.eq_ofNat_of_zero_le hr.1
    apply U.w (a1)
    conv=>lhs;whnf
    repeat((first|apply U.t|apply U.f|(apply U.q;exact aE));conv=>lhs;whnf)
    apply U.w (aT J he c2 hb 256)
    conv=>lhs;whnf
    repeat((first|apply U.t|apply U.f|(apply U.q;exact aE));conv=>lhs;whnf)
    have hn:n<x.length:=by omega
    have hget:(aU x)[((n:Nat):Int).toNat]?=some (nG x[n]):=cG hn
    repeat'((first|apply U.t|apply U.f|(apply U.q;exact aE)|apply U.w (hget)|(apply U.b<;>intro h))<;>conv=>lhs;whnf)
    exact⟨_,rfl,kQ _ _ (x.set n (dK (aF b c2 256).1)) (by simp) _ (aL0 _ _ _)⟩
  ·apply U.b<;>intro g2<;>conv=>lhs;whnf
   ·repeat((first|apply U.t|apply U.f|(apply U.q;exact aE));conv=>lhs;whnf)
    have hr:=cE b (aF b c 6).2 (n:=((aU x).length:Int)+1) (by omega)
    have a1:=aT J he (aF b c 6).2 hb (((aU x).length:Int)+1)
    generalize aF b (aF b c 6).2 (((aU x).length:Int)+1)=q at a1 hr
    obtain⟨j,c2⟩:=q
    simp only at a1 hr
    obtain⟨n,rfl⟩:=Int.eq_ofNat_of_zero_le hr.1
    have hw:IntKind.i64.wrap (((aU x).length:Int)+1)=((aU x).length:Int)+1:=aI (by omega)
    rw[← hw]at a1
    apply U.w (a1)
    conv=>lhs;whnf
    repeat((first|apply U.t|apply U.f|(apply U.q;exact aE));conv=>lhs;whnf)
    have hle:((n:Nat):Int).toNat≤(aU x).length:=by omega
    refine U.q (by exact⟨Nat.zero_le _,hle,bK x⟩) ?_
    conv=>lhs;whnf
    refine U.q (by(show 0+(n-0)≤(aU x).length;omega)) ?_
    conv=>lhs;whnf
    exact⟨_,rfl,kQ _ _ (x.take n) (by simp;omega) _ (aLx _ _).symm⟩
   ·apply U.b<;>intro g3<;>conv=>lhs;whnf
    ·repeat((first|apply U.t|apply U.f|(apply U.q;exact aE));conv=>lhs;whnf)
     apply U.w (aHF J he (aF b c 6).2 hb [0,1,128,255] (by decide))
     conv=>lhs;whnf
     repeat((first|apply U.t|apply U.f|(apply U.q;exact aE));conv=>lhs;whnf)
     refine U.q (by exact⟨by decide,fun e he=>by rw[List.mem_singleton.mp he];rfl,by simp;omega,by simp;omega⟩) ?_
     conv=>lhs;whnf
     repeat((first|apply U.t|apply U.f|(apply U.q;exact aE));conv=>lhs;whnf)
     exact⟨_,rfl,kQ _ _ (x++[dK (aHE b (aF b c 6).2 [0,1,128,255]).1]) (by simp) _ (aJa _ _).symm⟩
    ·apply U.b<;>intro g4<;>conv=>lhs;whnf
     ·repeat((first|apply U.t|apply U.f|(apply U.q;exact aE));conv=>lhs;whnf)
      by_cases h0:x.length=0
      ·obtain rfl:=List.eq_nil_of_length_eq_zero h0
       repeat((first|apply U.t|apply U.f|(apply U.q;exact aE));conv=>lhs;whnf)
       exact⟨_,rfl,kQ _ _ [] (by simp) _ rfl⟩
      ·have hlen:decide ((((aU x).length:Nat):Int)>0)=true:=decide_eq_true (by omega)
       apply U.bt (hlen)
       conv=>lhs;whnf
       repeat((first|apply U.t|apply U.f|(apply U.q;exact aE));conv=>lhs;whnf)
       have hr:=cE b (aF b c 6).2 (n:=((aU x).length:Int)) (by omega)
       have a1:=aT J he (aF b c 6).2 hb ((aU x).length:Int)
       generalize aF b (aF b c 6).2 ((aU x).length:Int)=q at a1 hr
       obtain⟨j,c2⟩:=q
       simp only at a1 hr
       obtain⟨n,rfl⟩:=Int.eq_ofNat_of_zero_le hr.1
       apply U.w (a1)
       conv=>lhs;whnf
       repeat((first|apply U.t|apply U.f|(apply U.q;exact aE));conv=>lhs;whnf)
       have hn:n<x.length:=by omega
       have hget:(aU x)[((n:Nat):Int).toNat]?=some (nG x[n]):=cG hn
       have hr8:=cE b c2 (n:=8) (by decide)
       have a2:=aT J he c2 hb 8
       generalize aF b c2 8=q at a2 hr8
       obtain⟨m,c3⟩:=q
       simp only at a2 hr8
       repeat'((first|apply U.t|apply U.f|(apply U.q;exact aE)|apply U.w (hget)|apply U.w (a2)|(apply U.b<;>intro h))<;>conv=>lhs;whnf)
       exact⟨_,rfl,kQ _ _ (x.set n (dK _)) (by simp) _ (aL0 _ _ _)⟩
     ·repeat((first|apply U.t|apply U.f|(apply U.q;exact aE));conv=>lhs;whnf)
      exact⟨_,rfl,kQ _ _ x (by omega) _ rfl⟩
 obtain⟨r,h1,y,c',h2,rfl⟩:=key
 exact⟨y,c',h2,h1⟩
theorem aTT {E:aR} (J:Sys E) {es:List (List T)} {b:aD} (he:es=aU b) (c:Cur) (hb:b.length≤1048576) (x:aD) (hx:x.length≤1000):∃ (y:aD) (c':Cur),y.length≤x.length+20∧E 550 [gT es c,sv (aU x)]=some ([sv (aU y)],dP c'):=by
 have hbl:=eK x
 have key:rA (E 550 [gT es c,sv (aU x)]) fun r=>∃ (y:aD) (c':Cur),y.length≤x.length+20∧r=([sv (aU y)],dP c'):=by
  refine J.runS rfl rfl fun W U=>?_
  conv=>lhs;whnf
  repeat((first|apply U.t|apply U.f|(apply U.q;exact aE));conv=>lhs;whnf)
  apply U.w (aT J he c hb 5)
  conv=>lhs;whnf
  repeat((first|apply U.t|apply U.f|(apply U.q;exact aE));conv=>lhs;whnf)
  apply U.b<;>intro g1<;>conv=>lhs;whnf
  ·repeat((first|apply U.t|apply U.f|(apply U.q;exact aE));conv=>lhs;whnf)
   obtain⟨z,c2,hz,a2⟩:=xU J he (aF b c 5).2 hb 16 (by decide)
   apply U.w (a2)
   conv=>lhs;whnf
   repeat((first|apply U.t|apply U.f|(apply U.q;exact aE));conv=>lhs;whnf)
   exact⟨_,rfl,wQ _ _ z (by omega) _ rfl⟩
  ·apply U.b<;>intro g2<;>conv=>lhs;whnf
   ·repeat((first|apply U.t|apply U.f|(apply U.q;exact aE));conv=>lhs;whnf)
    refine U.q (by exact⟨by decide,bK x,by simp;omega,by simp;omega⟩) ?_
    conv=>lhs;whnf
    apply U.bt (cZ x)
    conv=>lhs;whnf
    exact⟨_,rfl,wQ _ _ x (by omega) _ rfl⟩
   ·apply U.b<;>intro g3<;>conv=>lhs;whnf
    ·repeat((first|apply U.t|apply U.f|(apply U.q;exact aE));conv=>lhs;whnf)
     have hr:=cE b (aF b c 5).2 (n:=((aU x).length:Int)+1) (by omega)
     have a1:=aT J he (aF b c 5).2 hb (((aU x).length:Int)+1)
     generalize aF b (aF b c 5).2 (((aU x).length:Int)+1)=q at a1 hr
     obtain⟨j,c2⟩:=q
     simp only at a1 hr
     obtain⟨n,rfl⟩:=Int.eq_ofNat_of_zero_le hr.1
     have hw:IntKind.i64.wrap (((aU x).length:Int)+1)=((aU x).length:Int)+1:=aI (by omega)
     rw[← hw]at a1
     apply U.w (a1)
     conv=>lhs;whnf
     repeat((first|apply U.t|apply U.f|(apply U.q;exact aE));conv=>lhs;whnf)
     have hle:((n:Nat):Int).toNat≤(aU x).length:=by omega
     refine U.q (by exact⟨hle,Nat.le_refl _,bK x⟩) ?_
     conv=>lhs;whnf
     repeat((first|apply U.t|apply U.f|(apply U.q;exact aE));conv=>lhs;whnf)
     refine U.q (by exact⟨Nat.zero_le _,hle,bK x⟩) ?_
     conv=>lhs;whnf
     have hq1:(List.take ((aU x).length-((n:Nat):Int).toNat) (List.drop ((n:Nat):Int).toNat (aU x))).length≤1000:=by rw[List.length_take,List.length_drop];omega
     refine U.q (by exact⟨by decide,fun e he=>bK x e (List.mem_of_mem_drop (List.mem_of_mem_take he)),by change (1+List.length _)*1≤140737488355328;omega,by change 1+List.length _≤140737488355328;omega⟩) ?_
     conv=>lhs;whnf
     apply U.bt (List.all_eq_true.mpr fun e he=>List.all_eq_true.mp (cZ x) e (List.mem_of_mem_drop (List.mem_of_mem_take he)))
     conv=>lhs;whnf
     have hq2:(List.take (((n:Nat):Int).toNat-0) (List.drop 0 (aU x))).length≤1000:=by rw[List.length_take,List.length_drop];omega
     have hq3:([[T.int IntKind.u8 120]]++List.take ((aU x).length-((n:Nat):Int).toNat) (List.drop ((n:Nat):Int).toNat (aU x))).length+(List.take (((n:Nat):Int).toNat-0) (List.drop 0 (aU x))).length≤140737488355328:=by
      rw[List.length_append,List.length_singleton];omega
     refine U.q (by exact⟨by decide,fun e he=>bK x e (List.mem_of_mem_drop (List.mem_of_mem_take he)),by rw[Nat.mul_one];exact hq3,hq3⟩) ?_
     conv=>lhs;whnf
     apply U.bt (List.all_eq_true.mpr fun e he=>List.all_eq_true.mp (cZ x) e (List.mem_of_mem_drop (List.mem_of_mem_take he)))
     conv=>lhs;whnf
     exact⟨_,rfl,wQ _ _ (([120]++List.take ((aU x).length-n) (x.drop n))++List.take (n-0) (x.drop 0)) (by simp only[List.length_append,List.length_singleton,List.length_take,List.length_drop];omega) _ (by simp only[aU,List.map_append,List.map_take,List.map_drop,List.map_cons,List.map_nil];rfl)⟩
    ·apply U.b<;>intro g4<;>conv=>lhs;whnf
     ·repeat((first|apply U.t|apply U.f|(apply U.q;exact aE));conv=>lhs;whnf)
      exact⟨_,rfl,wQ _ _ [] (by simp) _ rfl⟩
     ·repeat((first|apply U.t|apply U.f|(apply U.q;exact aE));conv=>lhs;whnf)
      obtain⟨z,c2,hz,a2⟩:=xU J he (aF b c 5).2 hb 3 (by decide)
      apply U.w (a2)
      conv=>lhs;whnf
      repeat((first|apply U.t|apply U.f|(apply U.q;exact aE));conv=>lhs;whnf)
      obtain⟨y,c3,hy,a3⟩:=aL1 J he c2 hb x (by omega)
      apply U.w (a3)
      conv=>lhs;whnf
      repeat((first|apply U.t|apply U.f|(apply U.q;exact aE));conv=>lhs;whnf)
      have hzl:=eK z
      have hyl:=eK y
      refine U.q (by exact⟨by decide,bK y,by simp only[hzl,hyl];omega,by simp only[hzl,hyl];omega⟩) ?_
      conv=>lhs;whnf
      apply U.bt (cZ y)
      conv=>lhs;whnf
      exact⟨_,rfl,wQ _ _ (z++y) (by simp;omega) _ (mK _ _)⟩
 obtain⟨r,h1,y,c',h2,rfl⟩:=key
 exact⟨y,c',h2,h1⟩
def pW (l:List Int):Prop:=l.length≤7∧1≤l.length∧l[0]?=some (-1)∧∀ (i:Nat) (x:Int),0<i→l[i]?=some x→0≤x∧x<i
theorem aHJ {l:List Int} {x:Int} (h:pW l) (hl:l.length≤6) (h0:0≤x) (h1:x<l.length):pW (l++[x]):=by
 obtain⟨a,b,c,d⟩:=h
 refine⟨by simp;omega,by simp,by rw[List.getElem?_append_left (by omega)];exact c,fun i y hi hy=>?_⟩
 by_cases hil:i<l.length
 ·rw[List.getElem?_append_left hil]at hy
  exact d i y hi hy
 ·rw[List.getElem?_append_right (by omega)]at hy
  by_cases hi2:i=l.length
  ·subst hi2
   simp at hy
   subst hy
   exact⟨h0,h1⟩
  ·rw[List.getElem?_eq_none (by simp;omega)]at hy
   cases hy
theorem aSs {t:Tree} (h:pW t.up) {k:Nat} (hk:0<k) (hl:k<t.up.length):2≤(oB t k).length:=by
 obtain⟨a,b,c,d⟩:=h
 have:=d k _ hk (List.getElem?_eq_getElem hl)
 unfold oB
 obtain⟨n,hn⟩:∃ n,t.up.length=n+1+1:=⟨t.up.length-2,by omega⟩
 rw[hn]
 have e1:aW (k:Int) 0 ((t.up.length:Int)-1)=true:=by simp[aW];omega
 have e2:aW t.up[k] 0 ((t.up.length:Int)-1)=true:=by simp[aW];omega
 have e3:t.up.getD (k:Int).toNat 0=t.up[k]:=by rw[Int.toNat_natCast,List.getD_eq_getElem?_getD,List.getElem?_eq_getElem hl];rfl
 rw[sF,if_pos e1,e3,sF,if_pos e2]
 simp
theorem aPE {E:aR} (J:Sys E) {es:List (List T)} {b:aD} (he:es=aU b) (c:Cur) (hb:b.length≤1048576):∃ (t:Tree) (c':Cur),pW t.up∧E 547 [gT es c]=some ([gv (t.cs aO)],dP c'):=by
 have key:rA (E 547 [gT es c]) fun r=>∃ (t:Tree) (c':Cur),pW t.up∧r=([gv (t.cs aO)],dP c'):=by
  refine J.runS rfl rfl fun W U=>?_
  conv=>lhs;whnf
  refine U.loop (σ:=Nat × List Int × Cur) (γ:=Nat) (fun i s=>((s.sl 4 (v1 (.t (.int .i64 i.1)))).sl 0 (.box true [.blk 0, .t (.int .i64 i.2.2.i), .t (.int .i64 i.2.2.h)])).bl ⟨50300,1, .own,bD i.2.1⟩) (fun i m=>i.1+m=8∧i.2.1.length=i.1∧pW i.2.1) (fun m=>m) (1,[-1],c) 7 ?_ ?_ ?_
  ·intro K
   conv=>lhs;whnf
   conv=>rhs;whnf
   try rfl
  ·exact⟨rfl,rfl,(by decide:([-1]:List Int).length≤7),(by decide:1≤([-1]:List Int).length),rfl,fun i x hi hx=>by rw[List.getElem?_eq_none (by simp;omega)]at hx;cases hx⟩
  ·rintro kl ⟨k,l,q⟩ m ⟨hk,hl,ht⟩ ih
   simp only at hk hl ht
   have hil:(bD l).length=l.length:=List.length_map _
   conv=>lhs;whnf
   repeat((first|apply U.t|apply U.f|(apply U.q;exact aE));conv=>lhs;whnf)
   have h7:=cE b q (n:=7) (by decide)
   have a0:=aT J he q hb 7
   generalize aF b q 7=u at a0 h7
   obtain⟨v,q1⟩:=u
   simp only at a0 h7
   apply U.w (a0)
   conv=>lhs;whnf
   repeat((first|apply U.t|apply U.f|(apply U.q;exact aE));conv=>lhs;whnf)
   rw[show IntKind.i64.wrap (1+v)=1+v from aI (by omega)]
   apply U.b<;>intro g1<;>conv=>lhs;whnf
   ·have g1:k<1+v:=of_decide_eq_true g1
    obtain⟨m,rfl⟩:∃ n,m=n+1:=⟨m-1,by omega⟩
    have hk1:1≤k:=by have:=ht.2.1;omega
    repeat((first|apply U.t|apply U.f|(apply U.q;exact aE));conv=>lhs;whnf)
    rw[show IntKind.i64.wrap ((k:Int)-1)=(k:Int)-1 from aI (by omega)]
    have a1:=jN J he q1 hb 2
    generalize aF b q1 2=u at a1
    obtain⟨w,q2⟩:=u
    simp only at a1
    apply U.w (a1)
    conv=>lhs;whnf
    repeat((first|apply U.t|apply U.f|(apply U.q;exact aE));conv=>lhs;whnf)
    apply U.b<;>intro g2<;>conv=>lhs;whnf
    ·repeat((first|apply U.t|apply U.f|(apply U.q;exact aE));conv=>lhs;whnf)
     have hr:=cE b q2 (n:=(k:Int)) (by omega)
     have a2:=aT J he q2 hb (k:Int)
     generalize aF b q2 (k:Int)=u at a2 hr
     obtain⟨y,q3⟩:=u
     simp only at a2 hr
     apply U.w (a2)
     conv=>lhs;whnf
     repeat((first|apply U.t|apply U.f|(apply U.q;exact aE));conv=>lhs;whnf)
     refine U.q (by exact⟨by decide,fun e he=>by rw[List.mem_singleton.mp he];rfl,by simp;omega,by simp;omega⟩) ?_
     conv=>lhs;whnf
     repeat((first|apply U.t|apply U.f|(apply U.q;exact aE));conv=>lhs;whnf)
     refine ih (k+1,l++[y],q3) m _ ?_ ⟨by simp only;omega,by simp;omega,aHJ ht (by omega) (by omega) (by omega)⟩ (by omega)
     intro K
     conv=>lhs;whnf
     conv=>rhs;whnf
     try rfl
     rw[show IntKind.i64.wrap ((k:Int)+1)=_ from aK (by omega),show bD (l++[y])=bD l++[[ti y]] from by simp[bD,kK]]
     rfl
    ·repeat((first|apply U.t|apply U.f|(apply U.q;exact aE));conv=>lhs;whnf)
     refine U.q (by exact⟨by decide,fun e he=>by rw[List.mem_singleton.mp he];rfl,by simp;omega,by simp;omega⟩) ?_
     conv=>lhs;whnf
     repeat((first|apply U.t|apply U.f|(apply U.q;exact aE));conv=>lhs;whnf)
     refine ih (k+1,l++[(k:Int)-1],q2) m _ ?_ ⟨by simp only;omega,by simp;omega,aHJ ht (by omega) (by omega) (by omega)⟩ (by omega)
     intro K
     conv=>lhs;whnf
     conv=>rhs;whnf
     try rfl
     rw[show IntKind.i64.wrap ((k:Int)+1)=_ from aK (by omega),show bD (l++[(k:Int)-1])=bD l++[[ti ((k:Int)-1)]] from by simp[bD,kK]]
     rfl
   ·repeat((first|apply U.t|apply U.f|(apply U.q;exact aE));conv=>lhs;whnf)
    exact⟨_,rfl,⟨l⟩,_,ht,rfl⟩
 obtain⟨r,h1,t,c',h2,rfl⟩:=key
 exact⟨t,c',h2,h1⟩
def aBd (n:Node) (k id i:Int):List Pkt:=if dN n.man n.bld i=true then[fR k id (cI n.man.gen i (dY n.man n.bld i))] else[]
def jP (n:Node) (k id:Int) (l:List Int):List Pkt:=l.flatMap (aBd n k id)
def fY (n:Node) (id:Int):Int:=dE n.kids id n.bld.hav
def bJ (n:Node) (k id:Int):Actn:=⟨{ n with kids:=bH n.kids id (fY n id) },jP n k id (cQ (fY n id))⟩
theorem wS {E:aR} (J:Sys E) (n:Node):E 71 [gv (n.cs aO)]=some ([iv (aN6 n)],[]):=by
 refine J.run rfl rfl fun W U=>?_
 conv=>lhs;whnf
 rfl
theorem nD {E:aR} (J:Sys E) (n:Node):E 72 [gv (n.cs aO)]=some ([iv (aN6 n)],[]):=by
 refine J.run rfl rfl fun W U=>?_
 conv=>lhs;whnf
 rfl
theorem gI (m:Man) (x:Bld) (i:Int):(dY m x i).length≤x.buf.length:=by
 unfold dY
 split
 ·exact pN x.buf m.size i
 ·exact Nat.zero_le _
theorem aNn (n:Node) (k id i:Int):(aBd n k id i).length≤1:=by
 unfold aBd;split<;>simp
theorem aEC (n:Node) (k id:Int) (l:List Int):(jP n k id l).length≤l.length:=by
 unfold jP
 induction l with
 |nil=>simp
 |cons a r ih =>
  have:=aNn n k id a
  simp only[List.flatMap_cons,List.length_append,List.length_cons];omega
theorem aPF (n:Node) (k id:Int) (l:List Int):∀ x∈jP n k id l,x.lim 4194304:=by
 intro x hx
 obtain⟨i,_,hx⟩:=List.mem_flatMap.mp hx
 unfold aBd at hx
 split at hx
 ·rw[List.mem_singleton.mp hx]
  exact Nat.le_trans (nZ _) (by decide)
 ·cases hx
theorem wT (n:Node) (k id:Int) (hn:n.limk):(bJ n k id).lim 4194304:=by
 have hn':=hn.l4
 refine⟨⟨hn'.1,hn'.2.1,by show(bH _ _ _).length≤_;rw[dS];exact hn.2.2⟩,?_,aPF _ _ _ _⟩
 exact Nat.le_trans (aEC _ _ _ _) (Nat.le_trans jH (by decide))
theorem aPG {o:Bool} (l:List Pkt):∀ e∈l.map (Pkt.row o),e.length=3:=aAN fun _=>rfl
theorem pX {E:aR} (J:Sys E) (n:Node) (k id:Int) (hn:n.limk):E 430 [gv (n.cs aO),iv k,iv id]=some ([gv ((bJ n k id).cs dH true)],[]):=by
 have hp:=jH (s:=fY n id)
 have hrl:(bD (cQ (fY n id))).length=(cQ (fY n id)).length:=List.length_map _
 have hrk:(n.kids.map Kid.row).length=n.kids.length:=List.length_map _
 refine J.run rfl rfl fun W U=>?_
 conv=>lhs;whnf
 apply U.w (jI J n hn.l8)
 conv=>lhs;whnf
 repeat((first|apply U.t|apply U.f|(apply U.q;exact aE));conv=>lhs;whnf)
 apply U.w (wS J n)
 conv=>lhs;whnf
 repeat((first|apply U.t|apply U.f|(apply U.q;exact aE));conv=>lhs;whnf)
 apply U.w (aAw J n.kids id n.bld.hav (Nat.le_trans hn.2.2 (by decide)))
 conv=>lhs;whnf
 repeat((first|apply U.t|apply U.f|(apply U.q;exact aE));conv=>lhs;whnf)
 apply U.w (aHB J (fY n id))
 conv=>lhs;whnf
 repeat((first|apply U.t|apply U.f|(apply U.q;exact aE));conv=>lhs;whnf)
 generalize hP:cQ (fY n id)=l at hp hrl
 refine U.loop (σ:=Nat × List Pkt) (γ:=Nat) (fun i s=>(s.sl 10 (v1 (.t (.int .i64 i.1)))).bl ⟨50712,3, .own,i.2.map (Pkt.row true)⟩) (fun i m=>i.1=m∧m≤l.length∧i.2.length≤m∧i.2++jP n k id (l.drop m)=jP n k id l) (fun m=>l.length-m) (fun _=>([gv ((bJ n k id).cs dH true)],[])) (0,[]) 0 ?_ ?_ ?_ ?_
 ·intro K
  conv=>lhs;whnf
  conv=>rhs;whnf
  try rfl
 ·exact⟨rfl,by omega,by simp,rfl⟩
 ·rintro kl ⟨m,acc⟩ _ ⟨rfl,hm,hl,hs⟩ ih
  simp only at hs hm hl
  conv=>lhs;whnf
  apply U.b<;>intro h1<;>conv=>lhs;whnf
  ·have h1:m<l.length:=by simpa[hrl] using h1
   rw[List.drop_eq_getElem_cons h1,jP,List.flatMap_cons,aBd]at hs
   repeat((first|apply U.t|apply U.f|(apply U.q;exact aE)|(refine U.w (cG ?_) ?_;omega));conv=>lhs;whnf)
   apply U.w (wL J n.man n.bld l[m] hn.1 hn.2.1)
   conv=>lhs;whnf
   repeat((first|apply U.t|apply U.f|(apply U.q;exact aE));conv=>lhs;whnf)
   apply U.b<;>intro h3<;>conv=>lhs;whnf
   ·rw[if_pos h3]at hs
    repeat((first|apply U.t|apply U.f|(apply U.q;exact aE)|(refine U.w (cG ?_) ?_;omega));conv=>lhs;whnf)
    apply U.w (nB J n.man.gen l[m] (dY n.man n.bld l[m]) (Nat.le_trans (gI _ _ _) (Nat.le_trans hn.2.1 (by decide))))
    conv=>lhs;whnf
    repeat((first|apply U.t|apply U.f|(apply U.q;exact aE));conv=>lhs;whnf)
    apply U.w (eA J k id (cI n.man.gen l[m] (dY n.man n.bld l[m])) ⟨Nat.zero_le _,Nat.le_trans (gI _ _ _) hn.2.1⟩)
    conv=>lhs;whnf
    repeat((first|apply U.t|apply U.f|(apply U.q;exact aE));conv=>lhs;whnf)
    refine U.q (by exact⟨by decide,by intro e he;simp at he;subst he;rfl,by simp;omega,by simp;omega⟩) ?_
    conv=>lhs;whnf
    repeat((first|apply U.t|apply U.f|(apply U.q;exact aE));conv=>lhs;whnf)
    refine ih (m+1,acc++[fR k id (cI n.man.gen l[m] (dY n.man n.bld l[m]))]) (m+1) _ ?_ ⟨rfl,by omega,by simp;omega,by rw[List.append_assoc];exact hs⟩ (by omega)
    intro K
    conv=>lhs;whnf
    conv=>rhs;whnf
    try rfl
    rw[show IntKind.i64.wrap ((m:Int)+1)=_ from aK (by omega)]
    rw[List.map_append]
    rfl
   ·rw[if_neg (by rw[h3];decide)]at hs
    refine ih (m+1,acc) (m+1) _ ?_ ⟨rfl,by omega,by simp only;omega,hs⟩ (by omega)
    intro K
    conv=>lhs;whnf
    conv=>rhs;whnf
    try rfl
    rw[show IntKind.i64.wrap ((m:Int)+1)=_ from aK (by omega)]
    try rfl
  ·have:m=l.length:=by simp[hrl]at h1;omega
   subst this
   simp only[List.drop_length,jP,List.flatMap_nil,List.append_nil]at hs
   apply U.w (iM J n.kids id (fY n id) hn.2.2)
   conv=>lhs;whnf
   repeat((first|apply U.t|apply U.f|(apply U.q;exact aE));conv=>lhs;whnf)
   unfold bJ
   rw[hP,jP,← hs]
   rfl
 ·rfl
theorem kR {E:aR} (J:Sys E) (n:Node) (k id:Int) (hn:n.limk):E 431 [gv (n.cs aO),iv k,iv id]=some ([gv ((bJ n k id).cs dH true)],[]):=by
 have hp:=jH (s:=fY n id)
 have hrl:(bD (cQ (fY n id))).length=(cQ (fY n id)).length:=List.length_map _
 have hrk:(n.kids.map Kid.row).length=n.kids.length:=List.length_map _
 refine J.run rfl rfl fun W U=>?_
 conv=>lhs;whnf
 apply U.w (lI J n hn.l8)
 conv=>lhs;whnf
 repeat((first|apply U.t|apply U.f|(apply U.q;exact aE));conv=>lhs;whnf)
 apply U.w (nD J n)
 conv=>lhs;whnf
 repeat((first|apply U.t|apply U.f|(apply U.q;exact aE));conv=>lhs;whnf)
 apply U.w (oI J n.kids id n.bld.hav (Nat.le_trans hn.2.2 (by decide)))
 conv=>lhs;whnf
 repeat((first|apply U.t|apply U.f|(apply U.q;exact aE));conv=>lhs;whnf)
 apply U.w (aG9 J (fY n id))
 conv=>lhs;whnf
 repeat((first|apply U.t|apply U.f|(apply U.q;exact aE));conv=>lhs;whnf)
 rw[hrl]
 generalize hP:cQ (fY n id)=l at hp hrl
 refine U.loop (σ:=Nat × List Pkt) (γ:=Nat) (fun i s=>(s.sl 25 (v1 (.t (.int .i64 i.1)))).bl ⟨50712,3, .own,i.2.map (Pkt.row true)⟩) (fun i m=>i.1=m∧m≤l.length∧i.2.length≤m∧i.2++jP n k id (l.drop m)=jP n k id l) (fun m=>l.length-m) (fun _=>([gv ((bJ n k id).cs dH true)],[])) (0,[]) 0 ?_ ?_ ?_ ?_
 ·intro K
  conv=>lhs;whnf
  conv=>rhs;whnf
  try rfl
 ·exact⟨rfl,by omega,by simp,rfl⟩
 ·rintro kl ⟨m,acc⟩ _ ⟨rfl,hm,hl,hs⟩ ih
  simp only at hs hm hl
  conv=>lhs;whnf
  apply U.b<;>intro h1<;>conv=>lhs;whnf
  ·have h1:m<l.length:=by simpa using h1
   rw[List.drop_eq_getElem_cons h1,jP,List.flatMap_cons,aBd]at hs
   repeat((first|apply U.t|apply U.f|(apply U.q;exact aE)|(refine U.w (cG ?_) ?_;omega));conv=>lhs;whnf)
   apply U.w (wM J n.man n.bld l[m] hn.1 hn.2.1)
   conv=>lhs;whnf
   repeat((first|apply U.t|apply U.f|(apply U.q;exact aE));conv=>lhs;whnf)
   apply U.b<;>intro h3<;>conv=>lhs;whnf
   ·rw[if_pos h3]at hs
    apply U.w (wN J n.man.gen l[m] (dY n.man n.bld l[m]) (Nat.le_trans (gI _ _ _) (Nat.le_trans hn.2.1 (by decide))))
    conv=>lhs;whnf
    repeat((first|apply U.t|apply U.f|(apply U.q;exact aE));conv=>lhs;whnf)
    apply U.w (fK J k id (cI n.man.gen l[m] (dY n.man n.bld l[m])) ⟨Nat.zero_le _,Nat.le_trans (gI _ _ _) hn.2.1⟩)
    conv=>lhs;whnf
    repeat((first|apply U.t|apply U.f|(apply U.q;exact aE));conv=>lhs;whnf)
    refine U.q (by exact⟨by decide,by intro e he;simp at he;subst he;rfl,by simp;omega,by simp;omega⟩) ?_
    conv=>lhs;whnf
    repeat((first|apply U.t|apply U.f|(apply U.q;exact aE));conv=>lhs;whnf)
    refine ih (m+1,acc++[fR k id (cI n.man.gen l[m] (dY n.man n.bld l[m]))]) (m+1) _ ?_ ⟨rfl,by omega,by simp;omega,by rw[List.append_assoc];exact hs⟩ (by omega)
    intro K
    conv=>lhs;whnf
    conv=>rhs;whnf
    try rfl
    rw[show IntKind.i64.wrap ((m:Int)+1)=_ from aK (by omega)]
    rw[List.map_append]
    rfl
   ·rw[if_neg (by rw[h3];decide)]at hs
    refine ih (m+1,acc) (m+1) _ ?_ ⟨rfl,by omega,by simp only;omega,hs⟩ (by omega)
    intro K
    conv=>lhs;whnf
    conv=>rhs;whnf
    try rfl
    rw[show IntKind.i64.wrap ((m:Int)+1)=_ from aK (by omega)]
    try rfl
  ·have:m=l.length:=by simp at h1;omega
   subst this
   simp only[List.drop_length,jP,List.flatMap_nil,List.append_nil]at hs
   apply U.w (sC J n.kids id (fY n id) hn.2.2)
   conv=>lhs;whnf
   repeat((first|apply U.t|apply U.f|(apply U.q;exact aE));conv=>lhs;whnf)
   unfold bJ
   rw[hP,jP,← hs]
   rfl
 ·rfl
theorem aDz {b:aD}:∀ {s:Nat},s*256 ^ b.length≤eV b s:=by
 induction b with
 |nil=>intro s;simp[eV]
 |cons c r ih =>
  intro s
  simp only[eV,List.length_cons]
  refine Nat.le_trans ?_ ih
  rw[Nat.pow_succ,Nat.mul_comm (256 ^ r.length) 256,← Nat.mul_assoc]
  exact Nat.mul_le_mul_right _ (by omega)
theorem aKh {a b:aD} (h:eV a 1=eV b 1):a.length=b.length:=by
 have h1:=aDz (b:=a) (s:=1)
 have h2:=aDz (b:=b) (s:=1)
 have h3:=aGb (b:=a) (s:=1)
 have h4:=aGb (b:=b) (s:=1)
 rcases Nat.lt_trichotomy a.length b.length with hl|hl|hl
 ·exfalso
  have:256 ^ (a.length+1)≤256 ^ b.length:=Nat.pow_le_pow_right (by decide) hl
  rw[Nat.pow_succ]at this;omega
 ·exact hl
 ·exfalso
  have:256 ^ (b.length+1)≤256 ^ a.length:=Nat.pow_le_pow_right (by decide) hl
  rw[Nat.pow_succ]at this;omega
theorem aTU {m:Man} {l:List Sum}:∀ {i n:Nat} (h:yK m i l=true) (hn:n<l.length),aAr m (i+n) l[n]=true:=by
 induction l with
 |nil=>intro i n _ hn;cases hn
 |cons x r ih =>
  intro i n h hn
  simp only[yK,Bool.and_eq_true]at h
  cases n with
  |zero=>exact h.1
  |succ n =>
   rw[show i+(n+1)=(i+1)+n from by omega]
   exact ih h.2 (by simpa using hn)
theorem aSt {m:Man} (h:aY m=true) {n:Nat} (hn:n<m.sums.length):aAr m n m.sums[n]=true:=by
 unfold aY at h
 split at h
 ·have h3:m.sums=[]:=by simp[bX]at h;exact h.2.2.2
  rw[h3]at hn;cases hn
 ·simp only[Bool.and_eq_true]at h
  have:=aTU h.2.2.2 hn
  rwa [Nat.zero_add]at this
theorem aPH {m:Man} (h:aY m=true) {n:Nat} (hn:n<m.sums.length) {b:aD} (hb:bI b=m.sums[n]):(b.length:Int)=aX m.size m.len n∧b.length≤6:=by
 have ha:=aSt h hn
 simp only[aAr,Bool.and_eq_true,decide_eq_true_eq]at ha
 obtain⟨h1,h2,h3⟩:=ha
 have hl:=kN m.sums[n].s
 have hb6:b.length≤6:=by
  rcases Nat.lt_or_ge 6 b.length with h6|h6
  ·exfalso
   unfold bI at hb
   rw[if_pos (by omega)]at hb
   rw[← hb]at h1
   exact absurd h1 (by decide)
  ·exact h6
 have e:=h3.trans hb.symm
 unfold bI at e
 rw[if_neg (by omega),if_neg (by omega)]at e
 have e:=congrArg Sum.s e
 simp only at e
 have e:eV (bQ m.sums[n].s) 1=eV b 1:=by omega
 have:=aKh e
 omega
theorem pY {s:Int} (h:bG s=true):∃ n:Nat,s=n∧n<1099511627776:=by
 unfold bG aW at h
 simp only[Bool.and_eq_true,decide_eq_true_eq]at h
 exact⟨s.toNat,by omega,by omega⟩
theorem aED {n:Nat} (h:n<1099511627776):bG (n:Int)=true:=by
 unfold bG aW
 simp only[Bool.and_eq_true,decide_eq_true_eq]
 omega
theorem aPI {a b:Nat} (ha:a<1099511627776) (hb:b<1099511627776) (h:∀ i,a.testBit i=true→b.testBit i=true):mU a b=0:=by
 unfold mU
 have hz:BitVec.ofInt IntKind.i64.bits (a:Int) &&& ~~~BitVec.ofInt IntKind.i64.bits (b:Int)=0#_:=by
  apply BitVec.eq_of_getLsbD_eq
  intro i hi
  simp only[BitVec.getLsbD_and,BitVec.getLsbD_not,BitVec.getLsbD_zero,BitVec.ofInt_natCast,BitVec.getLsbD_ofNat,hi,decide_true,Bool.true_and]
  cases q:a.testBit i
  ·simp
  ·rw[h i q];simp
 rw[hz]
 rfl
theorem aPJ {p:aD} {c:UInt8}:∀ {s:Nat},eV (p++[c]) s=256*eV p s+c.toNat:=by
 induction p with
 |nil=>intro s;rfl
 |cons a r ih=>intro s;simp only[List.cons_append,eV];exact ih
theorem aSu:∀ {n k:Nat} {p acc:aD},p.length=n→n≤k→aHS k (eV p 1) acc=some (p++acc):=by
 intro n
 induction n with
 |zero =>
  intro k p acc hp _
  obtain rfl:=List.eq_nil_of_length_eq_zero hp
  cases k<;>rfl
 |succ n ih =>
  intro k p acc hp hk
  obtain⟨j,rfl⟩:∃ j,k=j+1:=⟨k-1,by omega⟩
  rcases List.eq_nil_or_concat p with rfl|⟨q,c,rfl⟩
  ·cases hp
  ·rw[List.concat_eq_append,List.length_append,List.length_singleton]at hp
   rw[List.concat_eq_append,aPJ]
   have h1:=aDz (b:=q) (s:=1)
   have h2:1≤256 ^ q.length:=Nat.one_le_pow _ _ (by decide)
   have hc:=UInt8.toNat_lt c
   rw[aHS,if_neg (by omega),if_neg (by omega),show(256*eV q 1+c.toNat)/256=eV q 1 by omega,ih (by omega) (by omega)]
   have hb:dK ((256*eV q 1+c.toNat:Nat):Int)=c:=by
    apply UInt8.toNat_inj.mp
    unfold dK
    rw[UInt8.toNat_ofNat']
    omega
   rw[hb,List.append_assoc]
   rfl
theorem aHK {p:aD} (h:p.length≤6):dW (eV p 1:Nat)=some p:=by
 unfold dW
 have h1:=aDz (b:=p) (s:=1)
 have h2:1≤256 ^ p.length:=Nat.one_le_pow _ _ (by decide)
 have h3:=aGb (b:=p) (s:=1)
 have h4:256 ^ p.length≤256 ^ 6:=Nat.pow_le_pow_right (by decide) h
 have h5:(256:Nat) ^ 6=281474976710656:=by decide
 rw[if_pos (by simp only[aW,Bool.and_eq_true,decide_eq_true_eq];omega),Int.toNat_natCast,aSu rfl h,List.append_nil]
theorem aFd {b:aD} {size i:Int}:((eR b size i).length:Int)=aX size b.length i:=by
 have h:=jJ (size:=size) (n:=(b.length:Int)) (i:=i)
 unfold eR
 rw[List.length_take,List.length_drop]
 omega
theorem aPK {b:aD} {g size:Int} {s:List Sum} {n:Nat}:aAr ⟨g,size,b.length,s⟩ n (bI (eR b size (n:Int)))=true:=by
 have h:=jJ (size:=size) (n:=(b.length:Int)) (i:=(n:Int))
 have hl:=aFd (b:=b) (size:=size) (i:=(n:Int))
 have h6:(eR b size (n:Int)).length≤6:=by omega
 have e:bI (eR b size (n:Int))=⟨bB (eR b size (n:Int)),(eV (eR b size (n:Int)) 1:Nat)⟩:=by
  unfold bI
  rw[if_neg (by omega)]
 have hb:bQ (bI (eR b size (n:Int))).s=eR b size (n:Int):=by rw[e];unfold bQ;rw[aHK h6];rfl
 have hk:bW (bI (eR b size (n:Int))).s=true:=by rw[e];unfold bW;rw[aHK h6];rfl
 unfold aAr
 rw[hk,hb,hl]
 simp
theorem aPL {b:aD} {g size:Int} {s:List Sum}:∀ (n i:Nat),yK ⟨g,size,b.length,s⟩ i ((List.range' i n).map fun i:Nat=>bI (eR b size (i:Int)))=true:=by
 intro n
 induction n with
 |zero=>intro i;rfl
 |succ n ih =>
  intro i
  rw[List.range'_succ,List.map_cons,yK,aPK,ih (i+1)]
  rfl
theorem aSv {g size:Int} {b:aD} (hg:aW g 1 1000000=true) (hs:cL size b.length=true):lJ g b size=⟨g,size,b.length,iN b size⟩∧aY (lJ g b size)=true:=by
 have e:lJ g b size=⟨g,size,b.length,iN b size⟩:=by unfold lJ;rw[if_pos ⟨hg,hs⟩]
 refine⟨e,?_⟩
 rw[e]
 have hg':=bS hg
 have hb:=(mV hs).2
 unfold aY
 simp only
 rw[if_neg (by omega),hg,hs]
 have hn:(((iN b size).length:Nat):Int)=bA size b.length:=by
  unfold iN aLF
  rw[xQ]
  omega
 rw[hn]
 simp only[decide_true,Bool.true_and]
 unfold iN aE6
 rw[List.range_eq_range']
 exact aPL _ _
theorem aNo {size:Int} {n:Nat} (h1:2≤size) (h2:size≤6) (hn:n≤80):cL size n=true:=by
 unfold cL
 rw[show IntKind.i64.wrap (size*40)=size*40 from aI (by omega)]
 simp only[aW,Bool.and_eq_true,decide_eq_true_eq]
 omega
def aPM (m:Man) (x:Bld):Prop:=bG x.hav=true∧(x.buf.length:Int)=m.len
theorem wU {m:Man} {old:aD} (h:aY m=true):aPM m (fF m old):=by
 have hc:=iW h
 unfold fF
 rw[if_pos h]
 obtain⟨⟨n,hn,hlt⟩,hl⟩:=aOh (old:=old) h (Nat.le_refl m.sums.length)
 have hp:2 ^ m.sums.length≤2 ^ 40:=Nat.pow_le_pow_right (by decide) hc.1
 have hp2:(2:Nat) ^ 40=1099511627776:=by decide
 refine⟨?_,hl⟩
 rw[hn]
 simp only[bG,aW,Bool.and_eq_true,decide_eq_true_eq];omega
theorem aVc {m:Man} {x:Bld} {n:Nat} {b:aD} (h40:n<40) (h:aPM m x) (hb:bP m.size m.len n+b.length≤x.buf.length) (h0:0≤bP m.size m.len n):aPM m (aHx m x n b):=by
 obtain⟨hs,hl⟩:=h
 obtain⟨k,hk,hlt⟩:=pY hs
 have hp:2 ^ n≤2 ^ 39:=Nat.pow_le_pow_right (by decide) (by omega)
 have hp2:(2:Nat) ^ 39=549755813888:=by decide
 refine⟨?_,?_⟩
 ·unfold aHx
  simp only
  rw[hk,(aJ6 (by omega)).1,(oA (by omega) (by omega)).1]
  refine aED ?_
  have h3:=Nat.or_lt_two_pow (n:=40) (x:=k) (y:=2 ^ n) (by omega) (by omega)
  omega
 ·unfold aHx
  simp only
  rw[aOf (by omega)]
  exact hl
theorem aId {E:aR} (J:Sys E) (m:Man) (x:Bld) (n:Nat) (b:aD) (hn:n<m.sums.length) (hm:aY m=true) (hb:b.length≤1048576) (h:aPM m x):∃ (r:Bool) (y:Bld),aPM m y∧E 369 [gv (m.cs aO), .pt true (x.cs dH),iv n,sv (aU b)]=some ([bv r],y.cs dH):=by
 have hc:=iW hm
 have hrl:(m.sums.map Sum.row).length=m.sums.length:=List.length_map _
 have a1:=bR J n 0 ((m.sums.length:Int)-1)
 have a2:=eG J x.hav n
 have a3:=fE J b (by omega)
 rw[show aW n 0 ((m.sums.length:Int)-1)=true from by simp[aW];omega]at a1
 cases h2:eL x.hav n
 ·by_cases h3:bI b=m.sums[n]
  ·have hp:=aPH hm hn h3
   have hsp:=jJ (size:=m.size) (n:=m.len) (i:=n)
   have hl:=h.2
   exact⟨true,aHx m x n b,aVc (by omega) h (by omega) (by omega),aDx J m x n b (by omega) hn (by omega) h.1 h2 h3 hp.2 (by omega) (by omega) (by omega)⟩
  ·rw[h2]at a2
   refine⟨false,x,h,?_⟩
   refine J.run rfl rfl fun W U=>?_
   conv=>lhs;whnf
   rw[hrl,show IntKind.i64.wrap ((m.sums.length:Int)-1)=(m.sums.length:Int)-1 from aI (by omega)]
   apply U.w (a1)
   conv=>lhs;whnf
   repeat((first|apply U.t|apply U.f|(apply U.q;exact aE));conv=>lhs;whnf)
   apply U.w (a2)
   conv=>lhs;whnf
   repeat((first|apply U.t|apply U.f|(apply U.q;exact aE));conv=>lhs;whnf)
   repeat((first|apply U.t|apply U.f|(apply U.q;exact aE)|(refine U.w (cG ?_) ?_;omega));conv=>lhs;whnf)
   apply U.w (a3)
   conv=>lhs;whnf
   repeat((first|apply U.t|apply U.f|(apply U.q;exact aE));conv=>lhs;whnf)
   apply U.bt (by(revert h3;generalize bI b=y;generalize m.sums[n]=z;cases y;cases z;simp;exact fun h=>Decidable.or_iff_not_imp_left.mpr fun h'=>h (Decidable.not_not.mp h')))
   conv=>lhs;whnf
   repeat((first|apply U.t|apply U.f|(apply U.q;exact aE));conv=>lhs;whnf)
   rfl
 ·rw[h2]at a2
  refine⟨false,x,h,?_⟩
  refine J.run rfl rfl fun W U=>?_
  conv=>lhs;whnf
  rw[hrl,show IntKind.i64.wrap ((m.sums.length:Int)-1)=(m.sums.length:Int)-1 from aI (by omega)]
  apply U.w (a1)
  conv=>lhs;whnf
  repeat((first|apply U.t|apply U.f|(apply U.q;exact aE));conv=>lhs;whnf)
  apply U.w (a2)
  conv=>lhs;whnf
  repeat((first|apply U.t|apply U.f|(apply U.q;exact aE));conv=>lhs;whnf)
  rfl
theorem aJb {E:aR} (J:Sys E) {es:List (List T)} {b:aD} (he:es=aU b) (c:Cur) (hb:b.length≤1048576) (t:Tree) (k:Int) (ht:pW t.up):∃ (l:List Kid) (c':Cur),l.length≤3∧E 549 [gT es c,gv (t.cs aO),iv k]=some ([sv (l.map Kid.row)],dP c'):=by
 have hr:=cE b c (n:=4) (by decide)
 obtain⟨n,hn⟩:=Int.eq_ofNat_of_zero_le hr.1
 have a0:=aT J he c hb 4
 rw[hn]at a0 hr
 have hrl:(bD t.up).length=t.up.length:=List.length_map _
 have key:rA (E 549 [gT es c,gv (t.cs aO),iv k]) fun r=>∃ (l:List Kid) (c':Cur),l.length≤3∧r=([sv (l.map Kid.row)],dP c'):=by
  refine J.runS rfl rfl fun W U=>?_
  conv=>lhs;whnf
  repeat((first|apply U.t|apply U.f|(apply U.q;exact aE));conv=>lhs;whnf)
  apply U.w (a0)
  conv=>lhs;whnf
  repeat((first|apply U.t|apply U.f|(apply U.q;exact aE));conv=>lhs;whnf)
  refine U.loop (σ:=Nat × List Kid × Cur) (γ:=Nat) (fun i s=>((s.sl 8 (v1 (.t (.int .i64 i.1)))).sl 0 (.box true [.blk 0, .t (.int .i64 i.2.2.i), .t (.int .i64 i.2.2.h)])).bl ⟨50700,5, .own,i.2.1.map Kid.row⟩) (fun i m=>i.1=m∧i.1≤n∧i.2.1.length+m≤n) (fun m=>m) (n,[],(aF b c 4).2) n ?_ ?_ ?_
  ·intro K
   conv=>lhs;whnf
   conv=>rhs;whnf
   try rfl
  ·exact⟨rfl,Nat.le_refl _,by simp⟩
  ·rintro kl ⟨m,l,q⟩ _ ⟨rfl,hm,hl⟩ ih
   simp only at hm hl
   conv=>lhs;whnf
   apply U.b<;>intro g1<;>conv=>lhs;whnf
   ·have g1:0<m:=by have g1:=of_decide_eq_true g1;omega
    obtain⟨j,rfl⟩:∃ k,m=k+1:=⟨m-1,by omega⟩
    repeat((first|apply U.t|apply U.f|(apply U.q;exact aE));conv=>lhs;whnf)
    have a1:=aT J he q hb ((bD t.up).length:Int)
    generalize aF b q ((bD t.up).length:Int)=u at a1
    obtain⟨id,q1⟩:=u
    simp only at a1
    apply U.w (a1)
    conv=>lhs;whnf
    repeat((first|apply U.t|apply U.f|(apply U.q;exact aE));conv=>lhs;whnf)
    apply U.b<;>intro g2<;>conv=>lhs;whnf
    ·repeat((first|apply U.t|apply U.f|(apply U.q;exact aE));conv=>lhs;whnf)
     have a2:=aT J he q1 hb 64
     generalize aF b q1 64=u at a2
     obtain⟨w,q2⟩:=u
     simp only at a2
     apply U.w (a2)
     conv=>lhs;whnf
     repeat((first|apply U.t|apply U.f|(apply U.q;exact aE));conv=>lhs;whnf)
     have a3:=aT J he q2 hb (IntKind.i64.wrap (1*2 ^ min (((bD t.up).length:Nat):Int).toNat IntKind.i64.bits))
     generalize aF b q2 (IntKind.i64.wrap (1*2 ^ min (((bD t.up).length:Nat):Int).toNat IntKind.i64.bits))=u at a3
     obtain⟨v,q3⟩:=u
     simp only at a3
     apply U.w (a3)
     conv=>lhs;whnf
     repeat((first|apply U.t|apply U.f|(apply U.q;exact aE));conv=>lhs;whnf)
     apply U.w (wO J l id w v (by omega))
     conv=>lhs;whnf
     repeat((first|apply U.t|apply U.f|(apply U.q;exact aE));conv=>lhs;whnf)
     have hl1:=xS l id w v
     refine ih (j,jZ l id w v,q3) j _ ?_ ⟨rfl,by omega,by simp only;omega⟩ (by omega)
     intro K
     conv=>lhs;whnf
     conv=>rhs;whnf
     try rfl
     rw[show IntKind.i64.wrap (((j+1:Nat):Int)-1)=(j:Int) from lU (by omega)]
    ·repeat((first|apply U.t|apply U.f|(apply U.q;exact aE));conv=>lhs;whnf)
     refine ih (j,l,q1) j _ ?_ ⟨rfl,by omega,by simp only;omega⟩ (by omega)
     intro K
     conv=>lhs;whnf
     conv=>rhs;whnf
     try rfl
     rw[show IntKind.i64.wrap (((j+1:Nat):Int)-1)=(j:Int) from lU (by omega)]
   ·repeat((first|apply U.t|apply U.f|(apply U.q;exact aE));conv=>lhs;whnf)
    exact⟨_,rfl,l,q,by omega,rfl⟩
 obtain⟨r,h1,l,c',h2,rfl⟩:=key
 exact⟨l,c',h2,h1⟩
theorem aSw {E:aR} (J:Sys E) {es:List (List T)} {b:aD} (he:es=aU b) (c:Cur) (hb:b.length≤1048576):∃ (m:Man) (x:Bld) (y:aD) (c':Cur),m.sums.length≤40∧x.buf.length≤240∧y.length≤16∧aY m=true∧E 548 [gT es c]=some ([gv (m.cs aO),gv (x.cs aO),sv (aU y)],dP c'):=by
 obtain⟨g,s,y,c1,hy,hg1,hg2,hs1,hs2,a0⟩:=aHI J he c hb
 obtain⟨hm0,hm1⟩:=aSv (g:=g) (size:=s) (b:=y) (by simp only[aW,Bool.and_eq_true,decide_eq_true_eq];omega) (aNo hs1 hs2 (by omega))
 have hml:=aBc g y s
 generalize lJ g y s=m at a0 hm0 hm1 hml
 have hmc:=iW hm1
 have hrl:(m.sums.map Sum.row).length=m.sums.length:=List.length_map _
 obtain⟨z,c2,hz,a1⟩:=aTT J he c1 hb y (by omega)
 have a2:=kP J m z (by omega) (by omega)
 have hx:=wU (old:=z) hm1
 generalize fF m z=x at a2 hx
 have key:rA (E 548 [gT es c]) fun r=>∃ (m:Man) (x:Bld) (y:aD) (c':Cur),m.sums.length≤40∧x.buf.length≤240∧y.length≤16∧aY m=true∧r=([gv (m.cs aO),gv (x.cs aO),sv (aU y)],dP c'):=by
  refine J.runS rfl rfl fun W U=>?_
  conv=>lhs;whnf
  repeat((first|apply U.t|apply U.f|(apply U.q;exact aE));conv=>lhs;whnf)
  apply U.w (a0)
  conv=>lhs;whnf
  try(apply U.q;exact aE;conv=>lhs;whnf)
  rw[show(Man.cs dH m).length=4 from rfl]
  repeat((first|apply U.t|apply U.f|(apply U.q;exact aE));conv=>lhs;whnf)
  apply U.w (a1)
  conv=>lhs;whnf
  repeat((first|apply U.t|apply U.f|(apply U.q;exact aE));conv=>lhs;whnf)
  apply U.w (a2)
  conv=>lhs;whnf
  repeat((first|apply U.t|apply U.f|(apply U.q;exact aE));conv=>lhs;whnf)
  refine U.loop (σ:=Nat × Bld × Cur) (γ:=Nat) (fun i s=>⟨aP (aP (aP s.t 8 (v1 (.t (.int .i64 i.1)))) 0 (.box true [.blk 0, .t (.int .i64 i.2.2.i), .t (.int .i64 i.2.2.h)])) 7 (.box true [.t (.int .i64 i.2.1.hav), .blk 50701]),dB s.h ⟨50701,1, .own,aU i.2.1.buf⟩⟩) (fun i k=>i.1=k∧k≤m.sums.length∧aPM m i.2.1) (fun k=>m.sums.length-k) (0,x,c2) 0 ?_ ?_ ?_
  ·intro K
   conv=>lhs;whnf
   conv=>rhs;whnf
   try rfl
  ·exact⟨rfl,Nat.zero_le _,hx⟩
  ·rintro kl ⟨k,x,q⟩ _ ⟨rfl,hk,hx⟩ ih
   simp only at hk hx
   conv=>lhs;whnf
   apply U.b<;>intro g1<;>conv=>lhs;whnf
   ·have g1:k<m.sums.length:=by
     have g1:(k:Int)<((m.sums.map Sum.row).length:Nat):=of_decide_eq_true g1
     omega
    repeat((first|apply U.t|apply U.f|(apply U.q;exact aE));conv=>lhs;whnf)
    have a3:=jN J he q hb 3
    generalize aF b q 3=u at a3
    obtain⟨w,q2⟩:=u
    simp only at a3
    apply U.w (a3)
    conv=>lhs;whnf
    repeat((first|apply U.t|apply U.f|(apply U.q;exact aE));conv=>lhs;whnf)
    apply U.b<;>intro g2<;>conv=>lhs;whnf
    ·repeat((first|apply U.t|apply U.f|(apply U.q;exact aE));conv=>lhs;whnf)
     apply U.w (wB J y m.size k (by omega))
     conv=>lhs;whnf
     repeat((first|apply U.t|apply U.f|(apply U.q;exact aE));conv=>lhs;whnf)
     have hbk:=pN y m.size k
     obtain⟨r,x2,hx2,a5⟩:=aId J m x k (eR y m.size k) g1 hm1 (by omega) hx
     apply U.w (a5)
     conv=>lhs;whnf
     repeat((first|apply U.t|apply U.f|(apply U.q;exact aE));conv=>lhs;whnf)
     refine ih (k+1,x2,q2) (k+1) _ ?_ ⟨rfl,by omega,hx2⟩ (by omega)
     intro K
     conv=>lhs;whnf
     conv=>rhs;whnf
     try rfl
     rw[show IntKind.i64.wrap ((k:Int)+1)=_ from aK (by omega)]
     try rfl
    ·repeat((first|apply U.t|apply U.f|(apply U.q;exact aE));conv=>lhs;whnf)
     refine ih (k+1,x,q2) (k+1) _ ?_ ⟨rfl,by omega,hx⟩ (by omega)
     intro K
     conv=>lhs;whnf
     conv=>rhs;whnf
     try rfl
     rw[show IntKind.i64.wrap ((k:Int)+1)=_ from aK (by omega)]
     try rfl
   ·have h2:=hx.2
    exact⟨_,rfl,m,x,y,q,by omega,by omega,hy,hm1,rfl⟩
 obtain⟨r,h1,m,x,y,c',h2,h3,h4,h5,rfl⟩:=key
 exact⟨m,x,y,c',h2,h3,h4,h5,h1⟩
def aSx:List Kid→List Kid
 |[]=>[]
 |x::r=>{ x with sent := -1 }::r
def nE (b:aD) (c:Cur):List Kid × Cur :=
 if(aF b (hJ b c).2 10).1=0 then((hJ b c).1++[⟨(aHE b (aF b (hJ b c).2 10).2 [-1,0,7]).1,(aNk b (aHE b (aF b (hJ b c).2 10).2 [-1,0,7]).2).1,0,0,0⟩],(aNk b (aHE b (aF b (hJ b c).2 10).2 [-1,0,7]).2).2)
 else if(aF b (hJ b c).2 10).1=1 then((hJ b c).1++(hJ b c).1,(aF b (hJ b c).2 10).2)
 else if(aF b (hJ b c).2 10).1=2 then(aSx (hJ b c).1,(aF b (hJ b c).2 10).2)
 else((hJ b c).1,(aF b (hJ b c).2 10).2)
theorem aKi (b:aD) (c:Cur):(nE b c).1.length≤10:=by
 have:=aI9 b c
 unfold nE
 split
 ·simp only[List.length_append,List.length_cons,List.length_nil];omega
 ·split
  ·simp only[List.length_append];omega
  ·split
   ·simp only
    cases h:(hJ b c).1 with
    |nil=>exact Nat.zero_le _
    |cons x r=>rw[h]at this;simp only[aSx,List.length_cons]at this ⊢;omega
   ·simp only;omega
theorem aPN {E:aR} (J:Sys E) {es:List (List T)} {b:aD} (he:es=aU b) (c:Cur) (hb:b.length≤1048576):E 156 [gT es c]=some ([ov 5 ((nE b c).1.map Kid.row)],dP (nE b c).2):=by
 have hl:=aI9 b c
 have a0:=aVb J he c hb
 have a1:=aT J he (hJ b c).2 hb 10
 unfold nE
 generalize hJ b c=p at a0 a1 hl ⊢
 obtain⟨l,c1⟩:=p
 simp only at a0 a1 hl ⊢
 have hrl:(l.map Kid.row).length=l.length:=List.length_map _
 generalize aF b c1 10=q at a1 ⊢
 obtain⟨k,c2⟩:=q
 simp only at a1 ⊢
 by_cases h0:k=0
 ·rw[if_pos h0]
  refine J.run rfl rfl fun W U=>?_
  conv=>lhs;whnf
  repeat((first|apply U.t|apply U.f|(apply U.q;exact aE));conv=>lhs;whnf)
  apply U.w (a0)
  conv=>lhs;whnf
  repeat((first|apply U.t|apply U.f|(apply U.q;exact aE));conv=>lhs;whnf)
  apply U.w (a1)
  conv=>lhs;whnf
  try(apply U.q;exact aE;conv=>lhs;whnf)
  repeat'((first|with_reducible apply U.bt (decide_eq_true h0)|apply U.t|apply U.f|(apply U.q;exact aE)|(apply U.b<;>intro h))<;>conv=>lhs;whnf)
  apply U.w (aHF J he c2 hb [-1,0,7] (by decide))
  conv=>lhs;whnf
  repeat((first|apply U.t|apply U.f|(apply U.q;exact aE));conv=>lhs;whnf)
  apply U.w (aUj J he (aHE b c2 [-1,0,7]).2 hb)
  conv=>lhs;whnf
  repeat((first|apply U.t|apply U.f|(apply U.q;exact aE));conv=>lhs;whnf)
  refine U.q (by exact⟨by decide,fun e he=>by rw[List.mem_singleton.mp he];rfl,by simp;omega,by simp;omega⟩) ?_
  conv=>lhs;whnf
  repeat((first|apply U.t|apply U.f|(apply U.q;exact aE));conv=>lhs;whnf)
  refine congrArg (fun x=>(some ([ov 5 x],_):Option dA)) ?_
  rw[List.map_append]
  rfl
 ·rw[if_neg h0]
  by_cases h1:k=1
  ·rw[if_pos h1]
   refine J.run rfl rfl fun W U=>?_
   conv=>lhs;whnf
   repeat((first|apply U.t|apply U.f|(apply U.q;exact aE));conv=>lhs;whnf)
   apply U.w (a0)
   conv=>lhs;whnf
   repeat((first|apply U.t|apply U.f|(apply U.q;exact aE));conv=>lhs;whnf)
   apply U.w (a1)
   conv=>lhs;whnf
   try(apply U.q;exact aE;conv=>lhs;whnf)
   repeat'((first|with_reducible apply U.bf (decide_eq_false h0)|with_reducible apply U.bt (decide_eq_true h1)|apply U.t|apply U.f|(apply U.q;exact aE)|(apply U.b<;>intro h))<;>conv=>lhs;whnf)
   refine U.q (by exact⟨by decide,kids_rows l,by simp;omega,by simp;omega⟩) ?_
   conv=>lhs;whnf
   apply U.bt (lY l)
   conv=>lhs;whnf
   refine congrArg (fun x=>(some ([ov 5 x],_):Option dA)) ?_
   rw[List.map_append]
  ·rw[if_neg h1]
   by_cases h2:k=2
   ·rw[if_pos h2]
    cases l with
    |nil =>
     refine J.run rfl rfl fun W U=>?_
     conv=>lhs;whnf
     repeat((first|apply U.t|apply U.f|(apply U.q;exact aE));conv=>lhs;whnf)
     apply U.w (a0)
     conv=>lhs;whnf
     repeat((first|apply U.t|apply U.f|(apply U.q;exact aE));conv=>lhs;whnf)
     apply U.w (a1)
     conv=>lhs;whnf
     try(apply U.q;exact aE;conv=>lhs;whnf)
     repeat'((first|with_reducible apply U.bf (decide_eq_false h0)|with_reducible apply U.bf (decide_eq_false h1)|with_reducible apply U.bt (decide_eq_true h2)|apply U.t|apply U.f|(apply U.q;exact aE)|(apply U.b<;>intro h))<;>conv=>lhs;whnf)
     rfl
    |cons x l =>
     refine J.run rfl rfl fun W U=>?_
     conv=>lhs;whnf
     repeat((first|apply U.t|apply U.f|(apply U.q;exact aE));conv=>lhs;whnf)
     apply U.w (a0)
     conv=>lhs;whnf
     repeat((first|apply U.t|apply U.f|(apply U.q;exact aE));conv=>lhs;whnf)
     apply U.w (a1)
     conv=>lhs;whnf
     try(apply U.q;exact aE;conv=>lhs;whnf)
     have hlen:decide (((((x::l).map Kid.row).length:Nat):Int)>0)=true:=by simp
     repeat'((first|with_reducible apply U.bf (decide_eq_false h0)|with_reducible apply U.bf (decide_eq_false h1)|with_reducible apply U.bt (decide_eq_true h2)|with_reducible apply U.bt (hlen)|apply U.t|apply U.f|(apply U.q;exact aE)|(apply U.b<;>intro h))<;>conv=>lhs;whnf)
     apply U.w ((show((x::l).map Kid.row)[(0:Int).toNat]?=some (Kid.row x) from rfl))
     conv=>lhs;whnf
     repeat((first|apply U.t|apply U.f|(apply U.q;exact aE));conv=>lhs;whnf)
     apply U.w ((show((x::l).map Kid.row)[(0:Int).toNat]?=some (Kid.row x) from rfl))
     conv=>lhs;whnf
     repeat((first|apply U.t|apply U.f|(apply U.q;exact aE));conv=>lhs;whnf)
     rfl
   ·rw[if_neg h2]
    refine J.run rfl rfl fun W U=>?_
    conv=>lhs;whnf
    repeat((first|apply U.t|apply U.f|(apply U.q;exact aE));conv=>lhs;whnf)
    apply U.w (a0)
    conv=>lhs;whnf
    repeat((first|apply U.t|apply U.f|(apply U.q;exact aE));conv=>lhs;whnf)
    apply U.w (a1)
    conv=>lhs;whnf
    try(apply U.q;exact aE;conv=>lhs;whnf)
    repeat'((first|with_reducible apply U.bf (decide_eq_false h0)|with_reducible apply U.bf (decide_eq_false h1)|with_reducible apply U.bf (decide_eq_false h2)|apply U.t|apply U.f|(apply U.q;exact aE)|(apply U.b<;>intro h))<;>conv=>lhs;whnf)
    rfl
def Node.sm (n:Node):Prop:=n.man.sums.length≤41∧n.bld.buf.length≤240∧n.kids.length≤10
theorem aL2 {m:Man} {b:aD} (hm:m.sums.length≤41):(pU m b).sm:=by
 have hz:aLQ.sm:=⟨Nat.zero_le _,Nat.zero_le _,Nat.zero_le _⟩
 unfold pU
 split
 ·exact hz
 ·split
  ·exact hz
  ·split
   ·exact hz
   ·rename_i h1 h2 h3
    have h2:aY m=true:=by simpa using h2
    have:=(wU (old:=b) h2).2
    have:=iW h2
    exact⟨hm,by show(fF m b).buf.length≤240;omega,Nat.zero_le _⟩
theorem gW (t:Tree) (k:Int) (n:Node) (c:Cur) (ht:pW t.up) (h0:0≤k) (hk:k<t.up.length) (hn:n.sm):∃ (t':Tree) (k':Int) (n':Node) (c':Cur),pW t'.up∧0≤k'∧k'<t'.up.length∧n'.sm∧([gv (t.cs aO),iv k,gv (n.cs aO)],dP c)=([gv (t'.cs aO),iv k',gv (n'.cs aO)],dP c'):=⟨t,k,n,c,ht,h0,hk,hn,rfl⟩
theorem aJc {E:aR} (J:Sys E) {es:List (List T)} {b:aD} (he:es=aU b) (c:Cur) (hb:b.length≤1048576):∃ (t:Tree) (k:Int) (n:Node) (c':Cur),pW t.up∧0≤k∧k<t.up.length∧n.sm∧E 541 [gT es c]=some ([gv (t.cs aO),iv k,gv (n.cs aO)],dP c'):=by
 obtain⟨t,c1,ht,a0⟩:=aPE J he c hb
 have htl:=ht.1
 have ht1:=ht.2.1
 have hrl:(bD t.up).length=t.up.length:=List.length_map _
 have hr:=cE b c1 (n:=((bD t.up).length:Int)) (by omega)
 have a1:=aT J he c1 hb ((bD t.up).length:Int)
 generalize aF b c1 ((bD t.up).length:Int)=u at a1 hr
 obtain⟨k,c2⟩:=u
 simp only at a1 hr
 obtain⟨m,x,y,c3,hm,hx,hy,hmo,a2⟩:=aSw J he c2 hb
 have key:rA (E 541 [gT es c]) fun r=>∃ (t:Tree) (k:Int) (n:Node) (c':Cur),pW t.up∧0≤k∧k<t.up.length∧n.sm∧r=([gv (t.cs aO),iv k,gv (n.cs aO)],dP c'):=by
  refine J.runS rfl rfl fun W U=>?_
  conv=>lhs;whnf
  repeat((first|apply U.t|apply U.f|(apply U.q;exact aE));conv=>lhs;whnf)
  apply U.w (a0)
  conv=>lhs;whnf
  repeat((first|apply U.t|apply U.f|(apply U.q;exact aE));conv=>lhs;whnf)
  apply U.w (a1)
  conv=>lhs;whnf
  repeat((first|apply U.t|apply U.f|(apply U.q;exact aE));conv=>lhs;whnf)
  apply U.w (a2)
  conv=>lhs;whnf
  repeat((first|apply U.t|apply U.f|(apply U.q;exact aE));conv=>lhs;whnf)
  apply U.b<;>intro g1<;>conv=>lhs;whnf
  ·repeat((first|apply U.t|apply U.f|(apply U.q;exact aE));conv=>lhs;whnf)
   apply U.w (aFZ J m y (Nat.le_trans hm (by decide)) (by omega))
   conv=>lhs;whnf
   repeat((first|apply U.t|apply U.f|(apply U.q;exact aE));conv=>lhs;whnf)
   obtain⟨l,c4,hl,a4⟩:=aJb J he c3 hb t k ht
   apply U.w (a4)
   conv=>lhs;whnf
   repeat((first|apply U.t|apply U.f|(apply U.q;exact aE));conv=>lhs;whnf)
   have hn:=aL2 (m:=m) (b:=y) (by omega)
   exact⟨_,rfl,gW t k { pU m y with kids:=l } c4 ht hr.1 (by omega) ⟨hn.1,hn.2.1,by show l.length≤10;omega⟩⟩
  ·have g1:k≠0:=of_decide_eq_false g1
   repeat((first|apply U.t|apply U.f|(apply U.q;exact aE));conv=>lhs;whnf)
   have a3:=jN J he c3 hb 8
   generalize aF b c3 8=u at a3
   obtain⟨w,c4⟩:=u
   simp only at a3
   apply U.w (a3)
   conv=>lhs;whnf
   repeat((first|apply U.t|apply U.f|(apply U.q;exact aE));conv=>lhs;whnf)
   apply U.b<;>intro g2<;>conv=>lhs;whnf
   ·repeat((first|apply U.t|apply U.f|(apply U.q;exact aE));conv=>lhs;whnf)
    exact⟨_,rfl,gW t k aLQ c4 ht hr.1 (by omega) ⟨Nat.zero_le _,Nat.zero_le _,Nat.zero_le _⟩⟩
   ·repeat((first|apply U.t|apply U.f|(apply U.q;exact aE));conv=>lhs;whnf)
    apply U.w (aIb J t k (Nat.le_trans htl (by decide)))
    conv=>lhs;whnf
    repeat((first|apply U.t|apply U.f|(apply U.q;exact aE));conv=>lhs;whnf)
    obtain⟨kn,rfl⟩:=Int.eq_ofNat_of_zero_le hr.1
    have hp:=aSs ht (k:=kn) (by omega) (by omega)
    have hpl:=aPC (up:=t.up) (f:=t.up.length) (k:=kn)
    change (oB t kn).length≤_ at hpl
    generalize oB t kn=p at hp hpl
    have hpr:(bD p).length=p.length:=List.length_map _
    have hw1:IntKind.i64.wrap (((bD p).length:Int)-1)=((bD p).length:Int)-1:=aI (by omega)
    have hr5:=cE b c4 (n:=((bD p).length:Int)-1) (by omega)
    have a5:=aT J he c4 hb (((bD p).length:Int)-1)
    generalize aF b c4 (((bD p).length:Int)-1)=u at a5 hr5
    rw[← hw1]at a5
    obtain⟨v,c5⟩:=u
    simp only at a5 hr5
    apply U.w (a5)
    conv=>lhs;whnf
    repeat((first|apply U.t|apply U.f|(apply U.q;exact aE));conv=>lhs;whnf)
    have hix:(bD p)[(IntKind.i64.wrap (1+v)).toNat]?=some (kK (p.getD (1+v).toNat 0)):=by
     rw[show IntKind.i64.wrap (1+v)=1+v from aI (by omega)]
     unfold bD
     rw[List.getElem?_map,List.getElem?_eq_getElem (by omega),List.getD_eq_getElem?_getD,List.getElem?_eq_getElem (by omega)]
     rfl
    refine U.q (by(rw[show IntKind.i64.wrap (1+v)=1+v from aI (by omega)];omega)) ?_
    conv=>lhs;whnf
    repeat'((first|apply U.t|apply U.f|(apply U.q;exact aE)|apply U.w (hix)|apply U.w (aEw J (p.getD (1+v).toNat 0))|(apply U.b<;>intro h))<;>conv=>lhs;whnf)
    have a6:=aT J he c5 hb 3
    generalize aF b c5 3=u at a6
    obtain⟨qu,c6⟩:=u
    simp only at a6
    apply U.w (a6)
    conv=>lhs;whnf
    repeat((first|apply U.t|apply U.f|(apply U.q;exact aE));conv=>lhs;whnf)
    obtain⟨l,c7,hl,a7⟩:=aJb J he c6 hb t kn ht
    apply U.w (a7)
    conv=>lhs;whnf
    repeat((first|apply U.t|apply U.f|(apply U.q;exact aE));conv=>lhs;whnf)
    have a8:=aT J he c7 hb 4
    generalize aF b c7 4=u at a8
    obtain⟨ca,c8⟩:=u
    simp only at a8
    apply U.w (a8)
    conv=>lhs;whnf
    repeat((first|apply U.t|apply U.f|(apply U.q;exact aE));conv=>lhs;whnf)
    have hl10:l.length≤10:=by omega
    apply U.b<;>intro g3<;>conv=>lhs;whnf
    ·repeat((first|apply U.t|apply U.f|(apply U.q;exact aE));conv=>lhs;whnf)
     exact⟨_,rfl,gW t kn ⟨true,p.getD (1+v).toNat 0,qu,⟨0,0,0,[]⟩,⟨0,[]⟩,0,l,0⟩ c8 ht (by omega) (by omega) ⟨Nat.zero_le _,Nat.zero_le _,hl10⟩⟩
    ·apply U.b<;>intro g4<;>conv=>lhs;whnf
     ·repeat((first|apply U.t|apply U.f|(apply U.q;exact aE));conv=>lhs;whnf)
      have a9:=aT J he c8 hb 4
      generalize aF b c8 4=u at a9
      obtain⟨ph,c9⟩:=u
      simp only at a9
      apply U.w (a9)
      conv=>lhs;whnf
      repeat((first|apply U.t|apply U.f|(apply U.q;exact aE));conv=>lhs;whnf)
      apply U.w (kP J m y (by omega) (by omega))
      conv=>lhs;whnf
      repeat((first|apply U.t|apply U.f|(apply U.q;exact aE));conv=>lhs;whnf)
      have hbf:=(wU (old:=y) hmo).2
      have hmc:=iW hmo
      exact⟨_,rfl,gW t kn ⟨true,p.getD (1+v).toNat 0,qu,m,fF m y,IntKind.i64.wrap (2+ph),l,0⟩ c9 ht (by omega) (by omega) ⟨by show m.sums.length≤41;omega,by show(fF m y).buf.length≤240;omega,hl10⟩⟩
     ·repeat((first|apply U.t|apply U.f|(apply U.q;exact aE));conv=>lhs;whnf)
      exact⟨_,rfl,gW t kn ⟨true,p.getD (1+v).toNat 0,qu,m,x,1,l,0⟩ c8 ht (by omega) (by omega) ⟨by show m.sums.length≤41;omega,hx,hl10⟩⟩
 obtain⟨r,h1,t,k,n,c',h2,h3,h4,h5,rfl⟩:=key
 exact⟨t,k,n,c',h2,h3,h4,h5,h1⟩
theorem aHL {E:aR} (J:Sys E) {es:List (List T)} {b:aD} (he:es=aU b) (c:Cur) (hb:b.length≤1048576):∃ (t:Tree) (k:Int) (n:Node) (c':Cur),pW t.up∧0≤k∧k<t.up.length∧n.sm∧E 542 [gT es c]=some ([gv (t.cs aO),iv k,gv (n.cs aO)],dP c'):=by
 obtain⟨t,k,n,c1,ht,hk0,hk,hn,a0⟩:=aJc J he c hb
 obtain⟨hn1,hn2,hn3⟩:=hn
 have a1:=aT J he c1 hb 14
 generalize aF b c1 14=u at a1
 obtain⟨ca,c2⟩:=u
 simp only at a1
 have key:rA (E 542 [gT es c]) fun r=>∃ (t:Tree) (k:Int) (n:Node) (c':Cur),pW t.up∧0≤k∧k<t.up.length∧n.sm∧r=([gv (t.cs aO),iv k,gv (n.cs aO)],dP c'):=by
  refine J.runS rfl rfl fun W U=>?_
  conv=>lhs;whnf
  repeat((first|apply U.t|apply U.f|(apply U.q;exact aE));conv=>lhs;whnf)
  apply U.w (a0)
  conv=>lhs;whnf
  repeat((first|apply U.t|apply U.f|(apply U.q;exact aE));conv=>lhs;whnf)
  apply U.w (a1)
  conv=>lhs;whnf
  repeat((first|apply U.t|apply U.f|(apply U.q;exact aE));conv=>lhs;whnf)
  apply U.b<;>intro g1<;>conv=>lhs;whnf
  ·repeat((first|apply U.t|apply U.f|(apply U.q;exact aE));conv=>lhs;whnf)
   apply U.w (aT J he c2 hb 8)
   conv=>lhs;whnf
   repeat((first|apply U.t|apply U.f|(apply U.q;exact aE));conv=>lhs;whnf)
   exact⟨_,rfl,gW t k { n with boss:=IntKind.i64.wrap ((aF b c2 8).1-1) } (aF b c2 8).2 ht hk0 hk ⟨hn1,hn2,hn3⟩⟩
  ·apply U.b<;>intro g2<;>conv=>lhs;whnf
   ·repeat((first|apply U.t|apply U.f|(apply U.q;exact aE));conv=>lhs;whnf)
    apply U.w (aT J he c2 hb 9)
    conv=>lhs;whnf
    repeat((first|apply U.t|apply U.f|(apply U.q;exact aE));conv=>lhs;whnf)
    exact⟨_,rfl,gW t k { n with phase:=IntKind.i64.wrap ((aF b c2 9).1-1) } (aF b c2 9).2 ht hk0 hk ⟨hn1,hn2,hn3⟩⟩
   ·apply U.b<;>intro g3<;>conv=>lhs;whnf
    ·repeat((first|apply U.t|apply U.f|(apply U.q;exact aE));conv=>lhs;whnf)
     obtain⟨m,c3,hm,a2⟩:=aTS J he c2 hb
     apply U.w (a2)
     conv=>lhs;whnf
     repeat((first|apply U.t|apply U.f|(apply U.q;exact aE));conv=>lhs;whnf)
     exact⟨_,rfl,gW t k { n with man:=m } c3 ht hk0 hk ⟨hm,hn2,hn3⟩⟩
    ·apply U.b<;>intro g4<;>conv=>lhs;whnf
     ·repeat((first|apply U.t|apply U.f|(apply U.q;exact aE));conv=>lhs;whnf)
      apply U.w (aUj J he c2 hb)
      conv=>lhs;whnf
      repeat((first|apply U.t|apply U.f|(apply U.q;exact aE));conv=>lhs;whnf)
      exact⟨_,rfl,gW t k { n with bld:=⟨(aNk b c2).1,n.bld.buf⟩ } (aNk b c2).2 ht hk0 hk ⟨hn1,hn2,hn3⟩⟩
     ·apply U.b<;>intro g5<;>conv=>lhs;whnf
      ·repeat((first|apply U.t|apply U.f|(apply U.q;exact aE));conv=>lhs;whnf)
       apply U.w (aPN J he c2 hb)
       conv=>lhs;whnf
       repeat((first|apply U.t|apply U.f|(apply U.q;exact aE));conv=>lhs;whnf)
       exact⟨_,rfl,gW t k { n with kids:=(nE b c2).1 } (nE b c2).2 ht hk0 hk ⟨hn1,hn2,aKi b c2⟩⟩
      ·apply U.b<;>intro g6<;>conv=>lhs;whnf
       ·repeat((first|apply U.t|apply U.f|(apply U.q;exact aE));conv=>lhs;whnf)
        exact⟨_,rfl,gW t k { n with on := !n.on } c2 ht hk0 hk ⟨hn1,hn2,hn3⟩⟩
       ·apply U.b<;>intro g7<;>conv=>lhs;whnf
        ·repeat((first|apply U.t|apply U.f|(apply U.q;exact aE));conv=>lhs;whnf)
         exact⟨_,rfl,gW t k { n with quiet := -1 } c2 ht hk0 hk ⟨hn1,hn2,hn3⟩⟩
        ·repeat((first|apply U.t|apply U.f|(apply U.q;exact aE));conv=>lhs;whnf)
         exact⟨_,rfl,gW t k n c2 ht hk0 hk ⟨hn1,hn2,hn3⟩⟩
 obtain⟨r,h1,t,k,n,c',h2,h3,h4,h5,rfl⟩:=key
 exact⟨t,k,n,c',h2,h3,h4,h5,h1⟩
def Msg.sm (m:Msg):Prop:=m.man.sums.length≤41∧m.b.length≤1101
def Disk.sm (d:Disk):Prop:=d.a.length≤1100∧d.b=[]∧d.p=[]
theorem pZ (n:Node) (k i:Int) (c:Cur) (hn:n.sm):∃ (n':Node) (k' i':Int) (c':Cur),n'.sm∧([gv (n.cs aO),iv k,iv i],dP c)=([gv (n'.cs aO),iv k',iv i'],dP c'):=⟨n,k,i,c,hn,rfl⟩
theorem aKj (m:Msg) (c:Cur) (hm:m.sm):∃ (m':Msg) (c':Cur),m'.sm∧([gv (m.cs aO)],dP c)=([gv (m'.cs aO)],dP c'):=⟨m,c,hm,rfl⟩
theorem aEE {E:aR} (J:Sys E) {es:List (List T)} {b:aD} (he:es=aU b) (c:Cur) (hb:b.length≤1048576):∃ (n:Node) (k i:Int) (c':Cur),n.sm∧E 575 [gT es c]=some ([gv (n.cs aO),iv k,iv i],dP c'):=by
 obtain⟨t,k,n,c1,_,_,_,hn,a0⟩:=aJc J he c hb
 have key:rA (E 575 [gT es c]) fun r=>∃ (n:Node) (k i:Int) (c':Cur),n.sm∧r=([gv (n.cs aO),iv k,iv i],dP c'):=by
  refine J.runS rfl rfl fun W U=>?_
  conv=>lhs;whnf
  repeat((first|apply U.t|apply U.f|(apply U.q;exact aE));conv=>lhs;whnf)
  apply U.w (a0)
  conv=>lhs;whnf
  repeat((first|apply U.t|apply U.f|(apply U.q;exact aE));conv=>lhs;whnf)
  have a1:=jN J he c1 hb 8
  generalize aF b c1 8=u at a1
  obtain⟨v1,c2⟩:=u
  simp only at a1
  apply U.w (a1)
  conv=>lhs;whnf
  repeat((first|apply U.t|apply U.f|(apply U.q;exact aE));conv=>lhs;whnf)
  apply U.b<;>intro g1<;>conv=>lhs;whnf
  ·repeat((first|apply U.t|apply U.f|(apply U.q;exact aE));conv=>lhs;whnf)
   obtain⟨t,k,n,c3,_,_,_,hn,a2⟩:=aHL J he c2 hb
   apply U.w (a2)
   conv=>lhs;whnf
   repeat((first|apply U.t|apply U.f|(apply U.q;exact aE));conv=>lhs;whnf)
   have a3:=aT J he c3 hb 8
   generalize aF b c3 8=u at a3
   obtain⟨v2,c4⟩:=u
   simp only at a3
   apply U.w (a3)
   conv=>lhs;whnf
   repeat((first|apply U.t|apply U.f|(apply U.q;exact aE));conv=>lhs;whnf)
   apply U.b<;>intro g2<;>conv=>lhs;whnf
   ·repeat((first|apply U.t|apply U.f|(apply U.q;exact aE));conv=>lhs;whnf)
    have hlk:0<n.kids.length:=by
     have g2:(((n.kids.map Kid.row).length:Nat):Int)>0:=of_decide_eq_true g2
     rw[List.length_map]at g2
     omega
    have hrk:(n.kids.map Kid.row).length=n.kids.length:=List.length_map _
    have a4:=jN J he c4 hb 3
    generalize aF b c4 3=u at a4
    obtain⟨v3,c5⟩:=u
    simp only at a4
    apply U.w (a4)
    conv=>lhs;whnf
    repeat((first|apply U.t|apply U.f|(apply U.q;exact aE));conv=>lhs;whnf)
    apply U.b<;>intro g3<;>conv=>lhs;whnf
    ·repeat((first|apply U.t|apply U.f|(apply U.q;exact aE));conv=>lhs;whnf)
     have hr:=cE b c5 (n:=((n.kids.map Kid.row).length:Int)) (by omega)
     have a5:=aT J he c5 hb ((n.kids.map Kid.row).length:Int)
     generalize aF b c5 ((n.kids.map Kid.row).length:Int)=u at a5 hr
     obtain⟨j,c6⟩:=u
     simp only at a5 hr
     obtain⟨jn,rfl⟩:=Int.eq_ofNat_of_zero_le hr.1
     apply U.w (a5)
     conv=>lhs;whnf
     repeat((first|apply U.t|apply U.f|(apply U.q;exact aE));conv=>lhs;whnf)
     have hix:(n.kids.map Kid.row)[((jn:Nat):Int).toNat]?=some (Kid.row (n.kids[jn]'(by omega))):=cG (by omega)
     repeat'((first|apply U.t|apply U.f|(apply U.q;exact aE)|apply U.w (hix)|(apply U.b<;>intro h))<;>conv=>lhs;whnf)
     exact⟨_,rfl,pZ n k _ _ hn⟩
    ·repeat((first|apply U.t|apply U.f|(apply U.q;exact aE));conv=>lhs;whnf)
     exact⟨_,rfl,pZ n k _ _ hn⟩
   ·repeat((first|apply U.t|apply U.f|(apply U.q;exact aE));conv=>lhs;whnf)
    exact⟨_,rfl,pZ n k _ _ hn⟩
  ·repeat((first|apply U.t|apply U.f|(apply U.q;exact aE));conv=>lhs;whnf)
   have a3:=aT J he c2 hb 8
   generalize aF b c2 8=u at a3
   obtain⟨v2,c4⟩:=u
   simp only at a3
   apply U.w (a3)
   conv=>lhs;whnf
   repeat((first|apply U.t|apply U.f|(apply U.q;exact aE));conv=>lhs;whnf)
   apply U.b<;>intro g2<;>conv=>lhs;whnf
   ·repeat((first|apply U.t|apply U.f|(apply U.q;exact aE));conv=>lhs;whnf)
    have hlk:0<n.kids.length:=by
     have g2:(((n.kids.map Kid.row).length:Nat):Int)>0:=of_decide_eq_true g2
     rw[List.length_map]at g2
     omega
    have hrk:(n.kids.map Kid.row).length=n.kids.length:=List.length_map _
    have a4:=jN J he c4 hb 3
    generalize aF b c4 3=u at a4
    obtain⟨v3,c5⟩:=u
    simp only at a4
    apply U.w (a4)
    conv=>lhs;whnf
    repeat((first|apply U.t|apply U.f|(apply U.q;exact aE));conv=>lhs;whnf)
    apply U.b<;>intro g3<;>conv=>lhs;whnf
    ·repeat((first|apply U.t|apply U.f|(apply U.q;exact aE));conv=>lhs;whnf)
     have hr:=cE b c5 (n:=((n.kids.map Kid.row).length:Int)) (by omega)
     have a5:=aT J he c5 hb ((n.kids.map Kid.row).length:Int)
     generalize aF b c5 ((n.kids.map Kid.row).length:Int)=u at a5 hr
     obtain⟨j,c6⟩:=u
     simp only at a5 hr
     obtain⟨jn,rfl⟩:=Int.eq_ofNat_of_zero_le hr.1
     apply U.w (a5)
     conv=>lhs;whnf
     repeat((first|apply U.t|apply U.f|(apply U.q;exact aE));conv=>lhs;whnf)
     have hix:(n.kids.map Kid.row)[((jn:Nat):Int).toNat]?=some (Kid.row (n.kids[jn]'(by omega))):=cG (by omega)
     repeat'((first|apply U.t|apply U.f|(apply U.q;exact aE)|apply U.w (hix)|(apply U.b<;>intro h))<;>conv=>lhs;whnf)
     exact⟨_,rfl,pZ n k _ _ hn⟩
    ·repeat((first|apply U.t|apply U.f|(apply U.q;exact aE));conv=>lhs;whnf)
     exact⟨_,rfl,pZ n k _ _ hn⟩
   ·repeat((first|apply U.t|apply U.f|(apply U.q;exact aE));conv=>lhs;whnf)
    exact⟨_,rfl,pZ n k _ _ hn⟩
 obtain⟨r,h1,n,k,i,c',h2,rfl⟩:=key
 exact⟨n,k,i,c',h2,h1⟩
theorem aPO {E:aR} (J:Sys E) {es:List (List T)} {b:aD} (he:es=aU b) (c:Cur) (hb:b.length≤1048576):∃ (m:Msg) (c':Cur),m.sm∧E 553 [gT es c]=some ([gv (m.cs aO)],dP c'):=by
 have key:rA (E 553 [gT es c]) fun r=>∃ (m:Msg) (c':Cur),m.sm∧r=([gv (m.cs aO)],dP c'):=by
  have a0:=aT J he c hb 4
  generalize aF b c 4=u at a0
  obtain⟨v,c1⟩:=u
  simp only at a0
  refine J.runS rfl rfl fun W U=>?_
  conv=>lhs;whnf
  repeat((first|apply U.t|apply U.f|(apply U.q;exact aE));conv=>lhs;whnf)
  apply U.w (a0)
  conv=>lhs;whnf
  repeat((first|apply U.t|apply U.f|(apply U.q;exact aE));conv=>lhs;whnf)
  apply U.b<;>intro g1<;>conv=>lhs;whnf
  ·repeat((first|apply U.t|apply U.f|(apply U.q;exact aE));conv=>lhs;whnf)
   obtain⟨g,s,x,c2,hx,_,_,_,_,a1⟩:=aHI J he c1 hb
   have hl:=aBc g x s
   generalize lJ g x s=m at a1 hl
   apply U.w (a1)
   conv=>lhs;whnf
   repeat((first|apply U.t|apply U.f|(apply U.q;exact aE));conv=>lhs;whnf)
   exact⟨_,rfl,aKj ⟨1,0,m,0,0,0,[]⟩ c2 ⟨by show m.sums.length≤41;omega,Nat.zero_le _⟩⟩
  ·apply U.b<;>intro g2<;>conv=>lhs;whnf
   ·repeat((first|apply U.t|apply U.f|(apply U.q;exact aE));conv=>lhs;whnf)
    have a1:=aLR J he c1 hb
    generalize dZ b c1=u at a1
    obtain⟨s,c2⟩:=u
    simp only at a1
    apply U.w (a1)
    conv=>lhs;whnf
    repeat((first|apply U.t|apply U.f|(apply U.q;exact aE));conv=>lhs;whnf)
    have a2:=aT J he c2 hb 3
    generalize aF b c2 3=u at a2
    obtain⟨g,c3⟩:=u
    simp only at a2
    apply U.w (a2)
    conv=>lhs;whnf
    repeat((first|apply U.t|apply U.f|(apply U.q;exact aE));conv=>lhs;whnf)
    have a3:=aT J he c3 hb 64
    generalize aF b c3 64=u at a3
    obtain⟨d,c4⟩:=u
    simp only at a3
    apply U.w (a3)
    conv=>lhs;whnf
    repeat((first|apply U.t|apply U.f|(apply U.q;exact aE));conv=>lhs;whnf)
    apply U.w (nC J g s d)
    conv=>lhs;whnf
    repeat((first|apply U.t|apply U.f|(apply U.q;exact aE));conv=>lhs;whnf)
    exact⟨_,rfl,aKj (aDy g s d) c4 ⟨Nat.zero_le _,Nat.zero_le _⟩⟩
   ·apply U.b<;>intro g3<;>conv=>lhs;whnf
    ·repeat((first|apply U.t|apply U.f|(apply U.q;exact aE));conv=>lhs;whnf)
     obtain⟨x,c2,hx,a1⟩:=xU J he c1 hb 5 (by decide)
     apply U.w (a1)
     conv=>lhs;whnf
     repeat((first|apply U.t|apply U.f|(apply U.q;exact aE));conv=>lhs;whnf)
     have hxl:=eK x
     refine U.q (by exact⟨by decide,bK x,by simp only[hxl];show(1+_)*1≤_;omega,by simp only[hxl];show 1+_≤_;omega⟩) ?_
     conv=>lhs;whnf
     apply U.bt (cZ x)
     conv=>lhs;whnf
     repeat((first|apply U.t|apply U.f|(apply U.q;exact aE));conv=>lhs;whnf)
     have a2:=aT J he c2 hb 3
     generalize aF b c2 3=u at a2
     obtain⟨g,c3⟩:=u
     simp only at a2
     apply U.w (a2)
     conv=>lhs;whnf
     repeat((first|apply U.t|apply U.f|(apply U.q;exact aE));conv=>lhs;whnf)
     have a3:=aT J he c3 hb 9
     generalize aF b c3 9=u at a3
     obtain⟨i,c4⟩:=u
     simp only at a3
     apply U.w (a3)
     conv=>lhs;whnf
     repeat((first|apply U.t|apply U.f|(apply U.q;exact aE));conv=>lhs;whnf)
     apply U.w (nB J (IntKind.i64.wrap (1+g)) i (112::x) (by simp;omega))
     conv=>lhs;whnf
     repeat((first|apply U.t|apply U.f|(apply U.q;exact aE));conv=>lhs;whnf)
     exact⟨_,rfl,aKj (cI (IntKind.i64.wrap (1+g)) i (112::x)) c4 ⟨Nat.zero_le _,by show(112::x).length≤1101;simp;omega⟩⟩
    ·repeat((first|apply U.t|apply U.f|(apply U.q;exact aE));conv=>lhs;whnf)
     have a2:=aT J he c1 hb 3
     generalize aF b c1 3=u at a2
     obtain⟨g,c3⟩:=u
     simp only at a2
     apply U.w (a2)
     conv=>lhs;whnf
     repeat((first|apply U.t|apply U.f|(apply U.q;exact aE));conv=>lhs;whnf)
     exact⟨_,rfl,aKj ⟨4,g,⟨0,0,0,[]⟩,0,0,0,[]⟩ c3 ⟨Nat.zero_le _,Nat.zero_le _⟩⟩
 obtain⟨r,h1,m,c',h2,rfl⟩:=key
 exact⟨m,c',h2,h1⟩
theorem Node.sm.lim {n:Node} (h:n.sm):n.lim 1048576:=⟨Nat.le_trans h.1 (by decide),Nat.le_trans h.2.1 (by decide),Nat.le_trans h.2.2 (by decide)⟩
theorem Msg.sm.lim {m:Msg} (h:m.sm):m.lim 1048576:=⟨Nat.le_trans h.1 (by decide),Nat.le_trans h.2 (by decide)⟩
theorem Disk.sm.lim {d:Disk} (h:d.sm):d.lim 1048576:=⟨Nat.le_trans h.1 (by decide),by rw[h.2.1];exact Nat.zero_le _,by rw[h.2.2];exact⟨Nat.zero_le _,by simp⟩⟩
theorem aF0 {E:aR} (J:Sys E) {b:aD} (hb:b.length≤1048576):∃ (n:Node) (k i:Int),(n.sm)∧E 582 [sv (aU b)]=some ([gv (n.cs aO),iv k,iv i],[]):=by
 have key:rA (E 582 [sv (aU b)]) fun r=>∃ (n:Node) (k i:Int),(n.sm)∧r=([gv (n.cs aO),iv k,iv i],[]):=by
  refine J.runS rfl rfl fun W U=>?_
  conv=>lhs;whnf
  apply U.w (aI6 J hb)
  conv=>lhs;whnf
  repeat((first|apply U.t|apply U.f|(apply U.q;exact aE));conv=>lhs;whnf)
  obtain⟨n,k,i,c1,hn,a1⟩:=aEE J (dF b) (aLS b) hb
  apply U.w (a1)
  conv=>lhs;whnf
  repeat((first|apply U.t|apply U.f|(apply U.q;exact aE));conv=>lhs;whnf)
  exact⟨_,rfl,n,k,i,hn,rfl⟩
 obtain⟨r,h1,n,k,i,h2,rfl⟩:=key
 exact⟨n,k,i,h2,h1⟩
theorem aEF {E:aR} (J:Sys E) {b:aD} (hb:b.length≤1048576):∃ (n:Node) (k i:Int) (m:Msg),(n.sm∧m.sm)∧E 583 [sv (aU b)]=some ([gv (n.cs aO),iv k,iv i,gv (m.cs aO)],[]):=by
 have key:rA (E 583 [sv (aU b)]) fun r=>∃ (n:Node) (k i:Int) (m:Msg),(n.sm∧m.sm)∧r=([gv (n.cs aO),iv k,iv i,gv (m.cs aO)],[]):=by
  refine J.runS rfl rfl fun W U=>?_
  conv=>lhs;whnf
  apply U.w (aI6 J hb)
  conv=>lhs;whnf
  repeat((first|apply U.t|apply U.f|(apply U.q;exact aE));conv=>lhs;whnf)
  obtain⟨n,k,i,c1,hn,a1⟩:=aEE J (dF b) (aLS b) hb
  apply U.w (a1)
  conv=>lhs;whnf
  repeat((first|apply U.t|apply U.f|(apply U.q;exact aE));conv=>lhs;whnf)
  have a2:=jN J (dF b) c1 hb 3
  generalize aF b c1 3=u at a2
  obtain⟨v,c2⟩:=u
  simp only at a2
  apply U.w (a2)
  conv=>lhs;whnf
  repeat((first|apply U.t|apply U.f|(apply U.q;exact aE));conv=>lhs;whnf)
  apply U.b<;>intro g1<;>conv=>lhs;whnf
  ·repeat((first|apply U.t|apply U.f|(apply U.q;exact aE));conv=>lhs;whnf)
   have a3:=aT J (dF b) c2 hb 3
   generalize aF b c2 3=u at a3
   obtain⟨gen,c3⟩:=u
   simp only at a3
   apply U.w (a3)
   conv=>lhs;whnf
   repeat((first|apply U.t|apply U.f|(apply U.q;exact aE));conv=>lhs;whnf)
   have a4:=aT J (dF b) c3 hb 256
   generalize aF b c3 256=u at a4
   obtain⟨w,c4⟩:=u
   simp only at a4
   apply U.w (a4)
   conv=>lhs;whnf
   repeat((first|apply U.t|apply U.f|(apply U.q;exact aE));conv=>lhs;whnf)
   have a5:=aT J (dF b) c4 hb 64
   generalize aF b c4 64=u at a5
   obtain⟨d,c5⟩:=u
   simp only at a5
   apply U.w (a5)
   conv=>lhs;whnf
   repeat((first|apply U.t|apply U.f|(apply U.q;exact aE));conv=>lhs;whnf)
   apply U.w (nC J gen w d)
   conv=>lhs;whnf
   repeat((first|apply U.t|apply U.f|(apply U.q;exact aE));conv=>lhs;whnf)
   exact⟨_,rfl,n,k,i,aDy gen w d,⟨hn,Nat.zero_le _,Nat.zero_le _⟩,rfl⟩
  ·repeat((first|apply U.t|apply U.f|(apply U.q;exact aE));conv=>lhs;whnf)
   have a4:=aT J (dF b) c2 hb 256
   generalize aF b c2 256=u at a4
   obtain⟨w,c4⟩:=u
   simp only at a4
   apply U.w (a4)
   conv=>lhs;whnf
   repeat((first|apply U.t|apply U.f|(apply U.q;exact aE));conv=>lhs;whnf)
   have a5:=aT J (dF b) c4 hb 64
   generalize aF b c4 64=u at a5
   obtain⟨d,c5⟩:=u
   simp only at a5
   apply U.w (a5)
   conv=>lhs;whnf
   repeat((first|apply U.t|apply U.f|(apply U.q;exact aE));conv=>lhs;whnf)
   apply U.w (nC J n.man.gen w d)
   conv=>lhs;whnf
   repeat((first|apply U.t|apply U.f|(apply U.q;exact aE));conv=>lhs;whnf)
   exact⟨_,rfl,n,k,i,aDy n.man.gen w d,⟨hn,Nat.zero_le _,Nat.zero_le _⟩,rfl⟩
 obtain⟨r,h1,n,k,i,m,h2,rfl⟩:=key
 exact⟨n,k,i,m,h2,h1⟩
theorem aIe {E:aR} (J:Sys E) {b:aD} (hb:b.length≤1048576):∃ (n:Node) (k i:Int),(n.sm)∧E 584 [sv (aU b)]=some ([gv (n.cs aO),iv k,iv i],[]):=by
 have key:rA (E 584 [sv (aU b)]) fun r=>∃ (n:Node) (k i:Int),(n.sm)∧r=([gv (n.cs aO),iv k,iv i],[]):=by
  refine J.runS rfl rfl fun W U=>?_
  conv=>lhs;whnf
  apply U.w (aI6 J hb)
  conv=>lhs;whnf
  repeat((first|apply U.t|apply U.f|(apply U.q;exact aE));conv=>lhs;whnf)
  obtain⟨n,k,i,c1,hn,a1⟩:=aEE J (dF b) (aLS b) hb
  apply U.w (a1)
  conv=>lhs;whnf
  repeat((first|apply U.t|apply U.f|(apply U.q;exact aE));conv=>lhs;whnf)
  have a2:=aT J (dF b) c1 hb 8
  generalize aF b c1 8=u at a2
  obtain⟨v,c2⟩:=u
  simp only at a2
  apply U.w (a2)
  conv=>lhs;whnf
  repeat((first|apply U.t|apply U.f|(apply U.q;exact aE));conv=>lhs;whnf)
  exact⟨_,rfl,n,k,_,hn,rfl⟩
 obtain⟨r,h1,n,k,i,h2,rfl⟩:=key
 exact⟨n,k,i,h2,h1⟩
theorem aNp {E:aR} (J:Sys E) (l m:List Kid) (h0:l.length≤1099511627776):E 288 [sv (l.map Kid.row),sv (m.map Kid.row)]=some ([bv (decide (l=m))],[]):=by
 refine J.run rfl rfl fun W U=>?_
 conv=>lhs;whnf
 apply U.b<;>intro h<;>conv=>lhs;whnf
 ·have:l≠m:=by rintro rfl;simp at h
  rw[decide_eq_false this];rfl
 ·have h:l.length=m.length:=by simp at h;omega
  refine U.loop (σ:=Nat) (γ:=Nat) (fun i s=>s.sl 5 (v1 (.t (.int .i64 i)))) (fun i n=>i=n∧n≤l.length) (fun n=>l.length-n) (fun n=>([bv (decide (l.drop n=m.drop n))],[])) 0 0 ?_ ?_ ?_ ?_
  ·intro K
   conv=>lhs;whnf
   conv=>rhs;whnf
   try rfl
  ·simp
  ·rintro kl n _ ⟨rfl,hn⟩ ih
   conv=>lhs;whnf
   apply U.b<;>intro h2<;>conv=>lhs;whnf
   ·have h2:n<l.length:=by simpa using h2
    rw[List.drop_eq_getElem_cons h2,List.drop_eq_getElem_cons (l:=m) (i:=n) (by omega)]
    repeat((first|apply U.t|apply U.f|(apply U.q;exact aE)|(refine U.w (cG ?_) ?_;omega));conv=>lhs;whnf)
    apply U.b<;>intro h3<;>conv=>lhs;whnf
    ·have h3:l[n]≠m[n]:=by intro e;rw[e]at h3;simp at h3
     rw[decide_eq_false fun e=>h3 (List.cons.inj e).1];rfl
    ·have h3:l[n]=m[n]:=by
      revert h3
      generalize l[n]=x
      generalize m[n]=y
      cases x;cases y
      simp
     simp only[h3,List.cons.injEq,true_and]
     refine ih (n+1) (n+1) _ ?_ ⟨rfl,by omega⟩ (by omega)
     intro K
     conv=>lhs;whnf
     conv=>rhs;whnf
     try rfl
     rw[show IntKind.i64.wrap ((n:Int)+1)=_ from aK (by omega)]
     try rfl
   ·have:n=l.length:=by simp at h2;omega
    subst this
    rw[List.drop_length,h,List.drop_length];rfl
  ·rfl
theorem aVO {E:aR} (J:Sys E) (b:aD):E 149 [sv (aU b)]=some ([bv (decide (b.length>1048576))],[]):=by
 have hl:=eK b
 refine J.run rfl rfl fun W U=>?_
 conv=>lhs;whnf
 rw[hl]
 refine congrArg (fun x=>(some ([bv x],[]):Option dA)) ?_
 exact decide_eq_decide.mpr ⟨fun h=>by omega,fun h=>by omega⟩
theorem aL3 {E:aR} (J:Sys E) (l m:List Sum) (h0:l.length≤1099511627776):E 558 [sv (l.map Sum.row),sv (m.map Sum.row)]=some ([bv (decide (l=m))],[]):=by
 refine J.run rfl rfl fun W U=>?_
 conv=>lhs;whnf
 apply U.b<;>intro h<;>conv=>lhs;whnf
 ·have:l≠m:=by rintro rfl;simp at h
  rw[decide_eq_false this];rfl
 ·have h:l.length=m.length:=by simp at h;omega
  refine U.loop (σ:=Nat) (γ:=Nat) (fun i s=>s.sl 5 (v1 (.t (.int .i64 i)))) (fun i n=>i=n∧n≤l.length) (fun n=>l.length-n) (fun n=>([bv (decide (l.drop n=m.drop n))],[])) 0 0 ?_ ?_ ?_ ?_
  ·intro K
   conv=>lhs;whnf
   conv=>rhs;whnf
   try rfl
  ·simp
  ·rintro kl n _ ⟨rfl,hn⟩ ih
   conv=>lhs;whnf
   apply U.b<;>intro h2<;>conv=>lhs;whnf
   ·have h2:n<l.length:=by simpa using h2
    rw[List.drop_eq_getElem_cons h2,List.drop_eq_getElem_cons (l:=m) (i:=n) (by omega)]
    repeat((first|apply U.t|apply U.f|(apply U.q;exact aE)|(refine U.w (cG ?_) ?_;omega));conv=>lhs;whnf)
    apply U.b<;>intro h3<;>conv=>lhs;whnf
    ·have h3:l[n]≠m[n]:=by intro e;rw[e]at h3;simp at h3
     rw[decide_eq_false fun e=>h3 (List.cons.inj e).1];rfl
    ·have h3:l[n]=m[n]:=by
      revert h3
      generalize l[n]=x
      generalize m[n]=y
      cases x;cases y
      simp
     simp only[h3,List.cons.injEq,true_and]
     refine ih (n+1) (n+1) _ ?_ ⟨rfl,by omega⟩ (by omega)
     intro K
     conv=>lhs;whnf
     conv=>rhs;whnf
     try rfl
     rw[show IntKind.i64.wrap ((n:Int)+1)=_ from aK (by omega)]
     try rfl
   ·have:n=l.length:=by simp at h2;omega
    subst this
    rw[List.drop_length,h,List.drop_length];rfl
  ·rfl
theorem aSy {E:aR} (J:Sys E) (l m:aD) (h0:l.length≤1099511627776):E 559 [sv (aU l),sv (aU m)]=some ([bv (decide (l=m))],[]):=by
 refine J.run rfl rfl fun W U=>?_
 conv=>lhs;whnf
 apply U.b<;>intro h<;>conv=>lhs;whnf
 ·have:l≠m:=by rintro rfl;simp[aU,bD]at h
  rw[decide_eq_false this];rfl
 ·have h:l.length=m.length:=by simp[aU,bD]at h;omega
  refine U.loop (σ:=Nat) (γ:=Nat) (fun i s=>s.sl 5 (v1 (.t (.int .i64 i)))) (fun i n=>i=n∧n≤l.length) (fun n=>l.length-n) (fun n=>([bv (decide (l.drop n=m.drop n))],[])) 0 0 ?_ ?_ ?_ ?_
  ·intro K
   conv=>lhs;whnf
   conv=>rhs;whnf
   try rfl
  ·simp
  ·rintro kl n _ ⟨rfl,hn⟩ ih
   conv=>lhs;whnf
   apply U.b<;>intro h2<;>conv=>lhs;whnf
   ·have h2:n<l.length:=by simpa[aU,bD] using h2
    rw[List.drop_eq_getElem_cons h2,List.drop_eq_getElem_cons (l:=m) (i:=n) (by omega)]
    repeat((first|apply U.t|apply U.f|(apply U.q;exact aE)|(refine U.w (cG ?_) ?_;omega));conv=>lhs;whnf)
    apply U.b<;>intro h3<;>conv=>lhs;whnf
    ·have h3:l[n]≠m[n]:=fun e=>by rw[e]at h3;simp at h3
     rw[decide_eq_false fun e=>h3 (List.cons.inj e).1];rfl
    ·have h3:l[n]=m[n]:=by
      simp at h3
      exact UInt8.toNat_inj.mp (by omega)
     simp only[h3,List.cons.injEq,true_and]
     refine ih (n+1) (n+1) _ ?_ ⟨rfl,by omega⟩ (by omega)
     intro K
     conv=>lhs;whnf
     conv=>rhs;whnf
     try rfl
     rw[show IntKind.i64.wrap ((n:Int)+1)=_ from aK (by omega)]
   ·have:n=l.length:=by simp[aU,bD]at h2;omega
    subst this
    rw[List.drop_length,h,List.drop_length];rfl
  ·rfl
theorem wV {E:aR} (J:Sys E) {o o':Bool} (l m:List Pkt) (hb:vW (fun B=>Pkt.lim B) 1099511627776 l):E 555 [sv (l.map (Pkt.row o)),sv (m.map (Pkt.row o'))]=some ([bv (decide (l=m))],[]):=by
 obtain⟨h0,hb⟩:=hb
 refine J.run rfl rfl fun W U=>?_
 conv=>lhs;whnf
 apply U.b<;>intro h<;>conv=>lhs;whnf
 ·have:l≠m:=by rintro rfl;simp[aU,bD]at h
  rw[decide_eq_false this];rfl
 ·have h:l.length=m.length:=by simp[aU,bD]at h;omega
  refine U.loop (σ:=Nat) (γ:=Nat) (fun i s=>s.sl 5 (v1 (.t (.int .i64 i)))) (fun i n=>i=n∧n≤l.length) (fun n=>l.length-n) (fun n=>([bv (decide (l.drop n=m.drop n))],[])) 0 0 ?_ ?_ ?_ ?_
  ·intro K
   conv=>lhs;whnf
   conv=>rhs;whnf
   try rfl
  ·simp
  ·rintro kl n _ ⟨rfl,hn⟩ ih
   conv=>lhs;whnf
   apply U.b<;>intro h2<;>conv=>lhs;whnf
   ·have h2:n<l.length:=by simpa[aU,bD] using h2
    rw[List.drop_eq_getElem_cons h2,List.drop_eq_getElem_cons (l:=m) (i:=n) (by omega)]
    have hbn:=hb _ (List.getElem_mem h2)
    have q1:(l.map (Pkt.row o))[((n:Nat):Int).toNat]?=some (Pkt.row o l[n]):=cG h2
    have q2:(m.map (Pkt.row o'))[((n:Nat):Int).toNat]?=some (Pkt.row o' (m[n]'(by omega))):=cG (by omega)
    have ac:=aSy J l[n].b (m[n]'(by omega)).b hbn
    generalize l[n]=x at q1 ac
    generalize (m[n]'(by omega))=y at q2 ac
    have fin:x≠y→some ([bv false],[])=(some ([bv (decide (x::l.drop (n+1)=y::m.drop (n+1)))],[]):Option dA):=fun h=>by rw[decide_eq_false fun e=>h (List.cons.inj e).1]
    repeat((first|apply U.t|apply U.f|(apply U.q;exact aE));conv=>lhs;whnf)
    apply U.w (q1)
    conv=>lhs;whnf
    repeat((first|apply U.t|apply U.f|(apply U.q;exact aE));conv=>lhs;whnf)
    apply U.w (q2)
    conv=>lhs;whnf
    repeat((first|apply U.t|apply U.f|(apply U.q;exact aE));conv=>lhs;whnf)
    by_cases e1:x.frm=y.frm
    ·apply U.bf ((by rw[decide_eq_true e1];rfl))
     conv=>lhs;whnf
     repeat((first|apply U.t|apply U.f|(apply U.q;exact aE));conv=>lhs;whnf)
     apply U.w (q1)
     conv=>lhs;whnf
     repeat((first|apply U.t|apply U.f|(apply U.q;exact aE));conv=>lhs;whnf)
     apply U.w (q2)
     conv=>lhs;whnf
     repeat((first|apply U.t|apply U.f|(apply U.q;exact aE));conv=>lhs;whnf)
     by_cases e2:x.to=y.to
     ·apply U.bf ((by rw[decide_eq_true e2];rfl))
      conv=>lhs;whnf
      repeat((first|apply U.t|apply U.f|(apply U.q;exact aE));conv=>lhs;whnf)
      apply U.w (q1)
      conv=>lhs;whnf
      repeat((first|apply U.t|apply U.f|(apply U.q;exact aE));conv=>lhs;whnf)
      apply U.w (q2)
      conv=>lhs;whnf
      repeat((first|apply U.t|apply U.f|(apply U.q;exact aE));conv=>lhs;whnf)
      apply U.w (ac)
      conv=>lhs;whnf
      repeat((first|apply U.t|apply U.f|(apply U.q;exact aE));conv=>lhs;whnf)
      by_cases e3:x.b=y.b
      ·have e:x=y:=by cases x;cases y;simp_all
       apply U.bf ((by rw[decide_eq_true e3];rfl))
       conv=>lhs;whnf
       subst e
       simp only[List.cons.injEq,true_and]
       refine ih (n+1) (n+1) _ ?_ ⟨rfl,by omega⟩ (by omega)
       intro K
       conv=>lhs;whnf
       conv=>rhs;whnf
       try rfl
       rw[show IntKind.i64.wrap ((n:Int)+1)=_ from aK (by omega)]
      ·apply U.bt ((by rw[decide_eq_false e3];rfl))
       conv=>lhs;whnf
       exact fin (fun e=>e3 (by rw[e]))
     ·apply U.bt ((by rw[decide_eq_false e2];rfl))
      conv=>lhs;whnf
      repeat((first|apply U.t|apply U.f|(apply U.q;exact aE));conv=>lhs;whnf)
      exact fin (fun e=>e2 (by rw[e]))
    ·apply U.bt ((by rw[decide_eq_false e1];rfl))
     conv=>lhs;whnf
     repeat((first|apply U.t|apply U.f|(apply U.q;exact aE));conv=>lhs;whnf)
     exact fin (fun e=>e1 (by rw[e]))
   ·have:n=l.length:=by simp[aU,bD]at h2;omega
    subst this
    rw[List.drop_length,h,List.drop_length];rfl
  ·rfl
theorem aNq {E:aR} (J:Sys E) (x y:Man) (hb:x.lim 1099511627776):E 556 [gv (x.cs aO),gv (y.cs aO)]=some ([bv (decide (x=y))],[]):=by
 refine J.run rfl rfl fun W U=>?_
 conv=>lhs;whnf
 apply U.b<;>intro e0<;>conv=>lhs;whnf
 ·have e0:x.gen=y.gen:=by simpa using e0
  repeat((first|apply U.t|apply U.f|(apply U.q;exact aE));conv=>lhs;whnf)
  apply U.b<;>intro e1<;>conv=>lhs;whnf
  ·have e1:x.size=y.size:=by simpa using e1
   repeat((first|apply U.t|apply U.f|(apply U.q;exact aE));conv=>lhs;whnf)
   apply U.b<;>intro e2<;>conv=>lhs;whnf
   ·have e2:x.len=y.len:=by simpa using e2
    repeat((first|apply U.t|apply U.f|(apply U.q;exact aE));conv=>lhs;whnf)
    apply U.w (aL3 J x.sums y.sums hb)
    conv=>lhs;whnf
    repeat((first|apply U.t|apply U.f|(apply U.q;exact aE));conv=>lhs;whnf)
    refine congrArg (fun b=>(some ([bv b],[]):Option dA)) (decide_eq_decide.mpr ⟨fun h=>?_,fun h=>by rw[h]⟩)
    cases x;cases y;simp_all
   ·have e2:x.len≠y.len:=by simpa using e2
    repeat((first|apply U.t|apply U.f|(apply U.q;exact aE));conv=>lhs;whnf)
    rw[decide_eq_false fun e=>e2 (by rw[e])]
    first|rfl|skip
  ·have e1:x.size≠y.size:=by simpa using e1
   repeat((first|apply U.t|apply U.f|(apply U.q;exact aE));conv=>lhs;whnf)
   rw[decide_eq_false fun e=>e1 (by rw[e])]
   first|rfl|skip
 ·have e0:x.gen≠y.gen:=by simpa using e0
  repeat((first|apply U.t|apply U.f|(apply U.q;exact aE));conv=>lhs;whnf)
  rw[decide_eq_false fun e=>e0 (by rw[e])]
  first|rfl|skip
theorem aKk {E:aR} (J:Sys E) (x y:Bld) (hb:x.lim 1099511627776):E 557 [gv (x.cs aO),gv (y.cs aO)]=some ([bv (decide (x=y))],[]):=by
 refine J.run rfl rfl fun W U=>?_
 conv=>lhs;whnf
 apply U.b<;>intro e0<;>conv=>lhs;whnf
 ·have e0:x.hav=y.hav:=by simpa using e0
  repeat((first|apply U.t|apply U.f|(apply U.q;exact aE));conv=>lhs;whnf)
  apply U.w (aSy J x.buf y.buf hb)
  conv=>lhs;whnf
  repeat((first|apply U.t|apply U.f|(apply U.q;exact aE));conv=>lhs;whnf)
  refine congrArg (fun b=>(some ([bv b],[]):Option dA)) (decide_eq_decide.mpr ⟨fun h=>?_,fun h=>by rw[h]⟩)
  cases x;cases y;simp_all
 ·have e0:x.hav≠y.hav:=by simpa using e0
  repeat((first|apply U.t|apply U.f|(apply U.q;exact aE));conv=>lhs;whnf)
  rw[decide_eq_false fun e=>e0 (by rw[e])]
  first|rfl|skip
theorem aFe {E:aR} (J:Sys E) (x y:Node) (hb:x.lim 1099511627776):E 538 [gv (x.cs aO),gv (y.cs aO)]=some ([bv (decide (x=y))],[]):=by
 refine J.run rfl rfl fun W U=>?_
 conv=>lhs;whnf
 apply U.b<;>intro e0<;>conv=>lhs;whnf
 ·have e0:x.on=y.on:=by simpa using e0
  repeat((first|apply U.t|apply U.f|(apply U.q;exact aE));conv=>lhs;whnf)
  apply U.b<;>intro e1<;>conv=>lhs;whnf
  ·have e1:x.boss=y.boss:=by simpa using e1
   repeat((first|apply U.t|apply U.f|(apply U.q;exact aE));conv=>lhs;whnf)
   apply U.b<;>intro e2<;>conv=>lhs;whnf
   ·have e2:x.quiet=y.quiet:=by simpa using e2
    repeat((first|apply U.t|apply U.f|(apply U.q;exact aE));conv=>lhs;whnf)
    apply U.w (aNq J x.man y.man hb.1)
    conv=>lhs;whnf
    repeat((first|apply U.t|apply U.f|(apply U.q;exact aE));conv=>lhs;whnf)
    apply U.b<;>intro e3<;>conv=>lhs;whnf
    ·have e3:x.man=y.man:=by simpa using e3
     repeat((first|apply U.t|apply U.f|(apply U.q;exact aE));conv=>lhs;whnf)
     apply U.w (aKk J x.bld y.bld hb.2.1)
     conv=>lhs;whnf
     repeat((first|apply U.t|apply U.f|(apply U.q;exact aE));conv=>lhs;whnf)
     apply U.b<;>intro e4<;>conv=>lhs;whnf
     ·have e4:x.bld=y.bld:=by simpa using e4
      repeat((first|apply U.t|apply U.f|(apply U.q;exact aE));conv=>lhs;whnf)
      apply U.b<;>intro e5<;>conv=>lhs;whnf
      ·have e5:x.phase=y.phase:=by simpa using e5
       repeat((first|apply U.t|apply U.f|(apply U.q;exact aE));conv=>lhs;whnf)
       apply U.w (aNp J x.kids y.kids hb.2.2)
       conv=>lhs;whnf
       repeat((first|apply U.t|apply U.f|(apply U.q;exact aE));conv=>lhs;whnf)
       apply U.b<;>intro e6<;>conv=>lhs;whnf
       ·have e6:x.kids=y.kids:=by simpa using e6
        repeat((first|apply U.t|apply U.f|(apply U.q;exact aE));conv=>lhs;whnf)
        refine congrArg (fun b=>(some ([bv b],[]):Option dA)) (decide_eq_decide.mpr ⟨fun h=>?_,fun h=>by rw[h]⟩)
        cases x;cases y;simp_all
       ·have e6:x.kids≠y.kids:=by simpa using e6
        repeat((first|apply U.t|apply U.f|(apply U.q;exact aE));conv=>lhs;whnf)
        rw[decide_eq_false fun e=>e6 (by rw[e])]
        first|rfl|skip
      ·have e5:x.phase≠y.phase:=by simpa using e5
       repeat((first|apply U.t|apply U.f|(apply U.q;exact aE));conv=>lhs;whnf)
       rw[decide_eq_false fun e=>e5 (by rw[e])]
       first|rfl|skip
     ·have e4:x.bld≠y.bld:=by simpa using e4
      repeat((first|apply U.t|apply U.f|(apply U.q;exact aE));conv=>lhs;whnf)
      rw[decide_eq_false fun e=>e4 (by rw[e])]
      first|rfl|skip
    ·have e3:x.man≠y.man:=by simpa using e3
     repeat((first|apply U.t|apply U.f|(apply U.q;exact aE));conv=>lhs;whnf)
     rw[decide_eq_false fun e=>e3 (by rw[e])]
     first|rfl|skip
   ·have e2:x.quiet≠y.quiet:=by simpa using e2
    repeat((first|apply U.t|apply U.f|(apply U.q;exact aE));conv=>lhs;whnf)
    rw[decide_eq_false fun e=>e2 (by rw[e])]
    first|rfl|skip
  ·have e1:x.boss≠y.boss:=by simpa using e1
   repeat((first|apply U.t|apply U.f|(apply U.q;exact aE));conv=>lhs;whnf)
   rw[decide_eq_false fun e=>e1 (by rw[e])]
   first|rfl|skip
 ·have e0:x.on≠y.on:=by simpa using e0
  repeat((first|apply U.t|apply U.f|(apply U.q;exact aE));conv=>lhs;whnf)
  rw[decide_eq_false fun e=>e0 (by rw[e])]
  first|rfl|skip
theorem aBe {E:aR} (J:Sys E) {o o':Bool} (x y:Actn) (hb:x.lim 1099511627776):E 535 [gv (x.cs aO o),gv (y.cs aO o')]=some ([bv (decide (x=y))],[]):=by
 refine J.run rfl rfl fun W U=>?_
 conv=>lhs;whnf
 apply U.w (aFe J x.n y.n hb.1)
 conv=>lhs;whnf
 repeat((first|apply U.t|apply U.f|(apply U.q;exact aE));conv=>lhs;whnf)
 apply U.b<;>intro e0<;>conv=>lhs;whnf
 ·have e0:x.n=y.n:=by simpa using e0
  repeat((first|apply U.t|apply U.f|(apply U.q;exact aE));conv=>lhs;whnf)
  apply U.w (wV J x.out y.out hb.2)
  conv=>lhs;whnf
  repeat((first|apply U.t|apply U.f|(apply U.q;exact aE));conv=>lhs;whnf)
  refine congrArg (fun b=>(some ([bv b],[]):Option dA)) (decide_eq_decide.mpr ⟨fun h=>?_,fun h=>by rw[h]⟩)
  cases x;cases y;simp_all
 ·have e0:x.n≠y.n:=by simpa using e0
  repeat((first|apply U.t|apply U.f|(apply U.q;exact aE));conv=>lhs;whnf)
  rw[decide_eq_false fun e=>e0 (by rw[e])]
  first|rfl|skip
def rB (l:List Pkt):Prop:=l.length≤4∧∀ p∈l,p.b.length≤1010
theorem wW {l:List Pkt} (h:rB l):vW (fun B=>Pkt.lim B) 1048576 l:=⟨Nat.le_trans h.1 (by decide),fun p hp=>Nat.le_trans (h.2 p hp) (by decide)⟩
theorem aOn (l:List Pkt) (p:Pkt):(l++[p]).map (Pkt.row true)=l.map (Pkt.row true)++[[ti p.frm,ti p.to, .sl true (aU p.b)]]:=by rw[List.map_append];rfl
theorem rC {E:aR} (J:Sys E) {es:List (List T)} {b:aD} (he:es=aU b) (c:Cur) (hb:b.length≤1048576):∃ (l:List Pkt) (c':Cur),rB l∧E 572 [gT es c]=some ([sv (l.map (Pkt.row true))],dP c'):=by
 have hr:=cE b c (n:=5) (by decide)
 obtain⟨n,hn⟩:=Int.eq_ofNat_of_zero_le hr.1
 have a0:=aT J he c hb 5
 rw[hn]at a0 hr
 have key:rA (E 572 [gT es c]) fun r=>∃ (l:List Pkt) (c':Cur),rB l∧r=([sv (l.map (Pkt.row true))],dP c'):=by
  refine J.runS rfl rfl fun W U=>?_
  conv=>lhs;whnf
  repeat((first|apply U.t|apply U.f|(apply U.q;exact aE));conv=>lhs;whnf)
  apply U.w (a0)
  conv=>lhs;whnf
  repeat((first|apply U.t|apply U.f|(apply U.q;exact aE));conv=>lhs;whnf)
  refine U.loop (σ:=Nat × List Pkt × Cur) (γ:=Nat) (fun i s=>((s.sl 4 (v1 (.t (.int .i64 i.1)))).sl 0 (.box true [.blk 0, .t (.int .i64 i.2.2.i), .t (.int .i64 i.2.2.h)])).bl ⟨50300,3, .own,i.2.1.map (Pkt.row true)⟩) (fun i m=>i.1=m∧i.1≤n∧i.2.1.length+m≤n∧∀ p∈i.2.1,p.b.length≤1010) (fun m=>m) (n,[],(aF b c 5).2) n ?_ ?_ ?_
  ·intro K
   conv=>lhs;whnf
   conv=>rhs;whnf
   try rfl
  ·exact⟨rfl,Nat.le_refl _,by simp,fun p hp=>by cases hp⟩
  ·rintro kl ⟨m,l,q⟩ _ ⟨rfl,hm,hl,hp⟩ ih
   simp only at hm hl hp
   have hrl:(l.map (Pkt.row true)).length=l.length:=List.length_map _
   conv=>lhs;whnf
   apply U.b<;>intro g1<;>conv=>lhs;whnf
   ·have g1:0<m:=by have g1:=of_decide_eq_true g1;omega
    obtain⟨j,rfl⟩:∃ k,m=k+1:=⟨m-1,by omega⟩
    repeat((first|apply U.t|apply U.f|(apply U.q;exact aE));conv=>lhs;whnf)
    obtain⟨ms,q1,hms,a1⟩:=aPO J he q hb
    apply U.w (a1)
    conv=>lhs;whnf
    repeat((first|apply U.t|apply U.f|(apply U.q;exact aE));conv=>lhs;whnf)
    have a2:=aT J he q1 hb 4
    generalize aF b q1 4=u at a2
    obtain⟨v1,q2⟩:=u
    simp only at a2
    apply U.w (a2)
    conv=>lhs;whnf
    repeat((first|apply U.t|apply U.f|(apply U.q;exact aE));conv=>lhs;whnf)
    have a3:=aT J he q2 hb 4
    generalize aF b q2 4=u at a3
    obtain⟨v2,q3⟩:=u
    simp only at a3
    apply U.w (a3)
    conv=>lhs;whnf
    repeat((first|apply U.t|apply U.f|(apply U.q;exact aE));conv=>lhs;whnf)
    apply U.w (eA J v1 v2 ms hms.lim)
    conv=>lhs;whnf
    repeat((first|apply U.t|apply U.f|(apply U.q;exact aE));conv=>lhs;whnf)
    have hpl:(bZ ms).length≤1009:=nZ ms
    have a4:=jN J he q3 hb 6
    generalize aF b q3 6=u at a4
    obtain⟨v3,q4⟩:=u
    simp only at a4
    apply U.w (a4)
    conv=>lhs;whnf
    repeat((first|apply U.t|apply U.f|(apply U.q;exact aE));conv=>lhs;whnf)
    apply U.b<;>intro g2<;>conv=>lhs;whnf
    ·repeat((first|apply U.t|apply U.f|(apply U.q;exact aE));conv=>lhs;whnf)
     obtain⟨y,q5,hy,a5⟩:=aL1 J he q4 hb (bZ ms) (by omega)
     apply U.w (a5)
     conv=>lhs;whnf
     repeat((first|apply U.t|apply U.f|(apply U.q;exact aE));conv=>lhs;whnf)
     refine U.q (by exact⟨by decide,fun e he=>by rw[List.mem_singleton.mp he];rfl,by simp only[hrl];show(_+1)*40≤_;omega,by simp only[hrl];show _+1≤_;omega⟩) ?_
     conv=>lhs;whnf
     repeat((first|apply U.t|apply U.f|(apply U.q;exact aE));conv=>lhs;whnf)
     refine ih (j,l++[⟨v1,v2,y⟩],q5) j _ ?_ ⟨rfl,by omega,by simp;omega,fun p h=>(?_:p.b.length≤1010)⟩ (by omega)
     ·intro K
      conv=>lhs;whnf
      conv=>rhs;whnf
      try rfl
      rw[show IntKind.i64.wrap (((j+1:Nat):Int)-1)=(j:Int) from lU (by omega),aOn]
      rfl
     ·rcases List.mem_append.mp h with h|h
      ·exact hp p h
      ·rw[List.mem_singleton.mp h];show y.length≤1010;omega
    ·repeat((first|apply U.t|apply U.f|(apply U.q;exact aE));conv=>lhs;whnf)
     refine U.q (by exact⟨by decide,fun e he=>by rw[List.mem_singleton.mp he];rfl,by simp only[hrl];show(_+1)*40≤_;omega,by simp only[hrl];show _+1≤_;omega⟩) ?_
     conv=>lhs;whnf
     repeat((first|apply U.t|apply U.f|(apply U.q;exact aE));conv=>lhs;whnf)
     refine ih (j,l++[⟨v1,v2,bZ ms⟩],q4) j _ ?_ ⟨rfl,by omega,by simp;omega,fun p h=>(?_:p.b.length≤1010)⟩ (by omega)
     ·intro K
      conv=>lhs;whnf
      conv=>rhs;whnf
      try rfl
      rw[show IntKind.i64.wrap (((j+1:Nat):Int)-1)=(j:Int) from lU (by omega),aOn]
      rfl
     ·rcases List.mem_append.mp h with h|h
      ·exact hp p h
      ·rw[List.mem_singleton.mp h];show(bZ ms).length≤1010;omega
   ·repeat((first|apply U.t|apply U.f|(apply U.q;exact aE));conv=>lhs;whnf)
    exact⟨_,rfl,l,q,⟨by omega,hp⟩,rfl⟩
 obtain⟨r,h1,l,c',h2,rfl⟩:=key
 exact⟨l,c',h2,h1⟩
theorem aDA {E:aR} (J:Sys E) {b:aD} (hb:b.length≤1048576):∃ (l:List Pkt),rB l∧E 587 [sv (aU b)]=some ([sv (l.map (Pkt.row true))],[]):=by
 have key:rA (E 587 [sv (aU b)]) fun r=>∃ (l:List Pkt),rB l∧r=([sv (l.map (Pkt.row true))],[]):=by
  refine J.runS rfl rfl fun W U=>?_
  conv=>lhs;whnf
  repeat((first|apply U.t|apply U.f|(apply U.q;exact aE));conv=>lhs;whnf)
  apply U.w (aI6 J hb)
  conv=>lhs;whnf
  repeat((first|apply U.t|apply U.f|(apply U.q;exact aE));conv=>lhs;whnf)
  obtain⟨l,c1,hl,a1⟩:=rC J (dF b) (aLS b) hb
  apply U.w (a1)
  conv=>lhs;whnf
  repeat((first|apply U.t|apply U.f|(apply U.q;exact aE));conv=>lhs;whnf)
  exact⟨_,rfl,l,hl,rfl⟩
 obtain⟨r,h1,l,h2,rfl⟩:=key
 exact⟨l,h2,h1⟩
theorem aHM {E:aR} (J:Sys E) {b:aD} (hb:b.length≤1048576):∃ (x y:Node),(x.sm∧y.sm)∧E 585 [sv (aU b)]=some ([gv (x.cs aO),gv (y.cs aO)],[]):=by
 have key:rA (E 585 [sv (aU b)]) fun r=>∃ (x y:Node),(x.sm∧y.sm)∧r=([gv (x.cs aO),gv (y.cs aO)],[]):=by
  refine J.runS rfl rfl fun W U=>?_
  conv=>lhs;whnf
  repeat((first|apply U.t|apply U.f|(apply U.q;exact aE));conv=>lhs;whnf)
  apply U.w (aI6 J hb)
  conv=>lhs;whnf
  repeat((first|apply U.t|apply U.f|(apply U.q;exact aE));conv=>lhs;whnf)
  obtain⟨t,k,n,c1,z1,z2,z3,hn,a1⟩:=aHL J (dF b) (aLS b) hb
  apply U.w (a1)
  conv=>lhs;whnf
  repeat((first|apply U.t|apply U.f|(apply U.q;exact aE));conv=>lhs;whnf)
  have a3:=jI J n (Node.lim_mono (by decide) hn.lim)
  apply U.w (a3)
  conv=>lhs;whnf
  repeat((first|apply U.t|apply U.f|(apply U.q;exact aE));conv=>lhs;whnf)
  have a2:=aT J (dF b) c1 hb 4
  generalize aF b c1 4=u at a2
  obtain⟨f,c2⟩:=u
  simp only at a2
  apply U.w (a2)
  conv=>lhs;whnf
  repeat((first|apply U.t|apply U.f|(apply U.q;exact aE));conv=>lhs;whnf)
  apply U.b<;>intro g1<;>conv=>lhs;whnf
  ·repeat((first|apply U.t|apply U.f|(apply U.q;exact aE));conv=>lhs;whnf)
   obtain⟨t2,k2,y,c3,z4,z5,z6,hy,a4⟩:=aHL J (dF b) c2 hb
   apply U.w (a4)
   conv=>lhs;whnf
   repeat((first|apply U.t|apply U.f|(apply U.q;exact aE));conv=>lhs;whnf)
   exact⟨_,rfl,n,y,⟨hn,hy⟩,rfl⟩
  ·apply U.b<;>intro g2<;>conv=>lhs;whnf
   ·repeat((first|apply U.t|apply U.f|(apply U.q;exact aE));conv=>lhs;whnf)
    exact⟨_,rfl,n,{ n with drops:=IntKind.i64.wrap (n.drops+1) },⟨hn,hn⟩,rfl⟩
   ·repeat((first|apply U.t|apply U.f|(apply U.q;exact aE));conv=>lhs;whnf)
    exact⟨_,rfl,n,n,⟨hn,hn⟩,rfl⟩
 obtain⟨r,h1,x,y,h2,rfl⟩:=key
 exact⟨x,y,h2,h1⟩
def aOo (n:Node) (k i id:Int):Pkt:=fR k id (cI n.man.gen i (dY n.man n.bld i))
def oL (n:Node) (k i:Int):List Kid→List Kid→List Pkt→List Kid × List Pkt
 |[],c,o=>(c,o)
 |x::r,c,o=>if eL (dE c x.id n.bld.hav) i=true then oL n k i r (bH c x.id (aEx i)) (o++[aOo n k i x.id]) else oL n k i r c o
def gJ (n:Node) (k i:Int):Actn:=if dN n.man n.bld i=true then⟨{ n with kids:=(oL n k i n.kids n.kids []).1 },(oL n k i n.kids n.kids []).2⟩ else⟨n,[]⟩
theorem aL4 {n:Node} {k i:Int} {l:List Kid}:∀ {c:List Kid} {o:List Pkt},(oL n k i l c o).1.length=c.length∧(oL n k i l c o).2.length≤o.length+l.length:=by
 induction l with
 |nil=>intro c o;exact⟨rfl,Nat.le_refl _⟩
 |cons x r ih =>
  intro c o
  simp only[oL]
  split
  ·have:=ih (c:=bH c x.id (aEx i)) (o:=o++[aOo n k i x.id])
   rw[dS]at this
   simp only[List.length_append,List.length_cons,List.length_nil]at this ⊢
   omega
  ·have:=ih (c:=c) (o:=o)
   simp only[List.length_cons]
   omega
theorem aSz {n:Node} {k i:Int} {l:List Kid}:∀ {c:List Kid} {o:List Pkt},(∀ x∈o,x.lim 4194304)→∀ x∈(oL n k i l c o).2,x.lim 4194304:=by
 induction l with
 |nil=>intro c o h;exact h
 |cons x r ih =>
  intro c o h
  simp only[oL]
  split
  ·refine ih fun y hy=>?_
   rcases List.mem_append.mp hy with hy|hy
   ·exact h y hy
   ·rw[List.mem_singleton.mp hy]
    exact Nat.le_trans (nZ _) (by decide)
  ·exact ih h
theorem aKl (n:Node) (k i:Int) (hn:n.limk):(gJ n k i).lim 4194304:=by
 have hn':=hn.l4
 have hl:=aL4 (n:=n) (k:=k) (i:=i) (l:=n.kids) (c:=n.kids) (o:=[])
 have hk:=hn.2.2
 unfold gJ
 split
 ·refine⟨⟨hn'.1,hn'.2.1,?_⟩,?_,aSz fun _ h=>by cases h⟩
  ·simp only;omega
  ·simp only[List.length_nil]at hl ⊢;omega
 ·exact⟨hn',Nat.zero_le _,fun _ h=>by cases h⟩
theorem aPP {i:Int} (h:aW i 0 39=true):lZ 0 i=aEx i:=by
 unfold lZ
 rw[if_pos ⟨by decide,h⟩]
 have h:=bS h
 obtain⟨n,rfl⟩:∃ n:Nat,i=n:=⟨i.toNat,by omega⟩
 have hw:=aJ6 (i:=n) (by omega)
 rw[hw.1]
 have:=(oA (a:=0) (b:=2 ^ n) (by omega) (by omega)).1
 rw[Nat.zero_or]at this
 exact this
theorem aL5 {s i:Int} (h:eL s i=true):aW i 0 39=true:=by
 unfold eL at h
 simp only[Bool.and_eq_true]at h
 exact h.2.1
theorem aHN {E:aR} (J:Sys E) (n:Node) (k i:Int) (hn:n.limk):E 419 [gv (n.cs aO),iv k,iv i]=some ([gv ((gJ n k i).cs dH true)],[]):=by
 have hrk:(n.kids.map Kid.row).length=n.kids.length:=List.length_map _
 have hkl:=hn.2.2
 have a0:=jI J n hn.l8
 have a1:=wL J n.man n.bld i hn.1 hn.2.1
 unfold gJ
 cases hok:dN n.man n.bld i
 ·rw[hok]at a1
  refine J.run rfl rfl fun W U=>?_
  conv=>lhs;whnf
  apply U.w (a0)
  conv=>lhs;whnf
  repeat((first|apply U.t|apply U.f|(apply U.q;exact aE));conv=>lhs;whnf)
  apply U.w (a1)
  conv=>lhs;whnf
  repeat((first|apply U.t|apply U.f|(apply U.q;exact aE));conv=>lhs;whnf)
  refine U.loop (σ:=Unit) (γ:=Unit) (fun _ s=>s.sl 10 (v1 (.t (.int .i64 0)))) (fun _ _=>True) (fun _=>0) (fun _=>([gv (Actn.cs dH true ⟨n,[]⟩)],[])) () () ?_ ?_ ?_ ?_
  ·intro K
   conv=>lhs;whnf
   conv=>rhs;whnf
   try rfl
  ·trivial
  ·rintro kl _ _ _ ih
   conv=>lhs;whnf
   apply U.b<;>intro h1<;>conv=>lhs;whnf
   ·repeat((first|apply U.t|apply U.f|(apply U.q;exact aE));conv=>lhs;whnf)
    rfl
   ·repeat((first|apply U.t|apply U.f|(apply U.q;exact aE));conv=>lhs;whnf)
    rfl
  ·rfl
 ·rw[hok]at a1
  refine J.run rfl rfl fun W U=>?_
  conv=>lhs;whnf
  apply U.w (a0)
  conv=>lhs;whnf
  repeat((first|apply U.t|apply U.f|(apply U.q;exact aE));conv=>lhs;whnf)
  apply U.w (a1)
  conv=>lhs;whnf
  repeat((first|apply U.t|apply U.f|(apply U.q;exact aE));conv=>lhs;whnf)
  refine U.loop (σ:=Nat × List Kid × List Pkt) (γ:=Nat) (fun i s=>((s.sl 10 (v1 (.t (.int .i64 i.1)))).bl ⟨50710,5, .own,i.2.1.map Kid.row⟩).bl ⟨50712,3, .own,i.2.2.map (Pkt.row true)⟩) (fun j m=>j.1=m∧m≤n.kids.length∧j.2.1.length=n.kids.length∧j.2.2.length≤m∧oL n k i (n.kids.drop m) j.2.1 j.2.2=oL n k i n.kids n.kids []) (fun m=>n.kids.length-m) (fun _=>([gv (Actn.cs dH true ⟨{ n with kids:=(oL n k i n.kids n.kids []).1 },(oL n k i n.kids n.kids []).2⟩)],[])) (0,n.kids,[]) 0 ?_ ?_ ?_ ?_
  ·intro K
   conv=>lhs;whnf
   conv=>rhs;whnf
   try rfl
  ·exact⟨rfl,by omega,rfl,by simp,rfl⟩
  ·rintro kl ⟨m,c,o⟩ _ ⟨rfl,hm,hc,ho,hs⟩ ih
   simp only at hs hm hc ho
   conv=>lhs;whnf
   rw[hrk]
   apply U.b<;>intro h1<;>conv=>lhs;whnf
   ·have h1:m<n.kids.length:=by simpa using h1
    rw[List.drop_eq_getElem_cons h1,oL]at hs
    repeat((first|apply U.t|apply U.f|(apply U.q;exact aE)|(refine U.w (cG ?_) ?_;omega));conv=>lhs;whnf)
    apply U.w (wS J n)
    conv=>lhs;whnf
    repeat((first|apply U.t|apply U.f|(apply U.q;exact aE));conv=>lhs;whnf)
    apply U.w (aAw J c n.kids[m].id n.bld.hav (by omega))
    conv=>lhs;whnf
    repeat((first|apply U.t|apply U.f|(apply U.q;exact aE));conv=>lhs;whnf)
    apply U.w (eG J (dE c n.kids[m].id n.bld.hav) i)
    conv=>lhs;whnf
    repeat((first|apply U.t|apply U.f|(apply U.q;exact aE));conv=>lhs;whnf)
    apply U.b<;>intro h3<;>conv=>lhs;whnf
    ·rw[if_pos h3]at hs
     have h4:=aPP (aL5 h3)
     apply U.w (nB J n.man.gen i (dY n.man n.bld i) (Nat.le_trans (gI _ _ _) (Nat.le_trans hn.2.1 (by decide))))
     conv=>lhs;whnf
     repeat((first|apply U.t|apply U.f|(apply U.q;exact aE));conv=>lhs;whnf)
     apply U.w (eA J k n.kids[m].id (cI n.man.gen i (dY n.man n.bld i)) ⟨Nat.zero_le _,Nat.le_trans (gI _ _ _) hn.2.1⟩)
     conv=>lhs;whnf
     repeat((first|apply U.t|apply U.f|(apply U.q;exact aE));conv=>lhs;whnf)
     refine U.q (by exact⟨by decide,by intro e he;simp at he;subst he;rfl,by simp;omega,by simp;omega⟩) ?_
     conv=>lhs;whnf
     repeat((first|apply U.t|apply U.f|(apply U.q;exact aE));conv=>lhs;whnf)
     apply U.w (sD J 0 i)
     conv=>lhs;whnf
     repeat((first|apply U.t|apply U.f|(apply U.q;exact aE));conv=>lhs;whnf)
     rw[h4]
     apply U.w (iM J c n.kids[m].id (aEx i) (by omega))
     conv=>lhs;whnf
     repeat((first|apply U.t|apply U.f|(apply U.q;exact aE));conv=>lhs;whnf)
     refine ih (m+1,bH c n.kids[m].id (aEx i),o++[aOo n k i n.kids[m].id]) (m+1) _ ?_ ⟨rfl,by omega,by simp only;rw[dS];exact hc,by simp;omega,hs⟩ (by omega)
     intro K
     conv=>lhs;whnf
     conv=>rhs;whnf
     try rfl
     rw[show IntKind.i64.wrap ((m:Int)+1)=_ from aK (by omega)]
     rw[List.map_append]
     rfl
    ·rw[if_neg (by rw[h3];decide)]at hs
     refine ih (m+1,c,o) (m+1) _ ?_ ⟨rfl,by omega,hc,by simp only;omega,hs⟩ (by omega)
     intro K
     conv=>lhs;whnf
     conv=>rhs;whnf
     try rfl
     rw[show IntKind.i64.wrap ((m:Int)+1)=_ from aK (by omega)]
     try rfl
   ·have:m=n.kids.length:=by simp at h1;omega
    subst this
    simp only[List.drop_length,oL]at hs
    repeat((first|apply U.t|apply U.f|(apply U.q;exact aE));conv=>lhs;whnf)
    rw[← hs]
    rfl
  ·rfl
theorem aHO {E:aR} (J:Sys E) (n:Node) (k i:Int) (hn:n.limk):E 424 [gv (n.cs aO),iv k,iv i]=some ([gv ((gJ n k i).cs dH true)],[]):=by
 have hrk:(n.kids.map Kid.row).length=n.kids.length:=List.length_map _
 have hkl:=hn.2.2
 have a0:=lI J n hn.l8
 have a1:=wM J n.man n.bld i hn.1 hn.2.1
 unfold gJ
 cases hok:dN n.man n.bld i
 ·rw[hok]at a1
  refine J.run rfl rfl fun W U=>?_
  conv=>lhs;whnf
  repeat'((first|apply U.t|apply U.f|(apply U.q;exact aE)|apply U.w (a0)|apply U.w (a1)|(apply U.b<;>intro h))<;>conv=>lhs;whnf)
  rfl
 ·rw[hok]at a1
  refine J.run rfl rfl fun W U=>?_
  conv=>lhs;whnf
  apply U.w (a0)
  conv=>lhs;whnf
  repeat((first|apply U.t|apply U.f|(apply U.q;exact aE));conv=>lhs;whnf)
  apply U.w (a1)
  conv=>lhs;whnf
  repeat((first|apply U.t|apply U.f|(apply U.q;exact aE));conv=>lhs;whnf)
  rw[hrk]
  refine U.loop (σ:=Nat × List Kid × List Pkt) (γ:=Nat) (fun i s=>((s.sl 30 (v1 (.t (.int .i64 i.1)))).bl ⟨50710,5, .own,i.2.1.map Kid.row⟩).bl ⟨50712,3, .own,i.2.2.map (Pkt.row true)⟩) (fun j m=>j.1=m∧m≤n.kids.length∧j.2.1.length=n.kids.length∧j.2.2.length≤m∧oL n k i (n.kids.drop m) j.2.1 j.2.2=oL n k i n.kids n.kids []) (fun m=>n.kids.length-m) (fun _=>([gv (Actn.cs dH true ⟨{ n with kids:=(oL n k i n.kids n.kids []).1 },(oL n k i n.kids n.kids []).2⟩)],[])) (0,n.kids,[]) 0 ?_ ?_ ?_ ?_
  ·intro K
   conv=>lhs;whnf
   conv=>rhs;whnf
   try rfl
  ·exact⟨rfl,by omega,rfl,by simp,rfl⟩
  ·rintro kl ⟨m,c,o⟩ _ ⟨rfl,hm,hc,ho,hs⟩ ih
   simp only at hs hm hc ho
   conv=>lhs;whnf
   apply U.b<;>intro h1<;>conv=>lhs;whnf
   ·have h1:m<n.kids.length:=by simpa using h1
    rw[List.drop_eq_getElem_cons h1,oL]at hs
    repeat((first|apply U.t|apply U.f|(apply U.q;exact aE)|(refine U.w (cG ?_) ?_;omega));conv=>lhs;whnf)
    apply U.w (nD J n)
    conv=>lhs;whnf
    repeat((first|apply U.t|apply U.f|(apply U.q;exact aE));conv=>lhs;whnf)
    apply U.w (oI J c n.kids[m].id n.bld.hav (by omega))
    conv=>lhs;whnf
    repeat((first|apply U.t|apply U.f|(apply U.q;exact aE));conv=>lhs;whnf)
    apply U.w (fD J (dE c n.kids[m].id n.bld.hav) i)
    conv=>lhs;whnf
    repeat((first|apply U.t|apply U.f|(apply U.q;exact aE));conv=>lhs;whnf)
    apply U.b<;>intro h3<;>conv=>lhs;whnf
    ·rw[if_pos h3]at hs
     have h4:=bS (aL5 h3)
     apply U.w (wN J n.man.gen i (dY n.man n.bld i) (Nat.le_trans (gI _ _ _) (Nat.le_trans hn.2.1 (by decide))))
     conv=>lhs;whnf
     repeat((first|apply U.t|apply U.f|(apply U.q;exact aE));conv=>lhs;whnf)
     apply U.w (fK J k n.kids[m].id (cI n.man.gen i (dY n.man n.bld i)) ⟨Nat.zero_le _,Nat.le_trans (gI _ _ _) hn.2.1⟩)
     conv=>lhs;whnf
     repeat((first|apply U.t|apply U.f|(apply U.q;exact aE));conv=>lhs;whnf)
     refine U.q (by exact⟨by decide,by intro e he;simp at he;subst he;rfl,by simp;omega,by simp;omega⟩) ?_
     conv=>lhs;whnf
     repeat((first|apply U.t|apply U.f|(apply U.q;exact aE));conv=>lhs;whnf)
     apply U.w (sC J c n.kids[m].id (aEx i) (by omega))
     conv=>lhs;whnf
     repeat((first|apply U.t|apply U.f|(apply U.q;exact aE));conv=>lhs;whnf)
     refine ih (m+1,bH c n.kids[m].id (aEx i),o++[aOo n k i n.kids[m].id]) (m+1) _ ?_ ⟨rfl,by omega,by simp only;rw[dS];exact hc,by simp;omega,hs⟩ (by omega)
     intro K
     conv=>lhs;whnf
     conv=>rhs;whnf
     try rfl
     rw[show IntKind.i64.wrap ((m:Int)+1)=_ from aK (by omega)]
     rw[List.map_append]
     rfl
    ·rw[if_neg (by rw[h3];decide)]at hs
     refine ih (m+1,c,o) (m+1) _ ?_ ⟨rfl,by omega,hc,by simp only;omega,hs⟩ (by omega)
     intro K
     conv=>lhs;whnf
     conv=>rhs;whnf
     try rfl
     rw[show IntKind.i64.wrap ((m:Int)+1)=_ from aK (by omega)]
     try rfl
   ·have:m=n.kids.length:=by simp at h1;omega
    subst this
    simp only[List.drop_length,oL]at hs
    rw[← hs]
    rfl
  ·rfl
def nF (n:Node) (id:Int) (m:Msg):Node:={ n with kids:=jZ n.kids id m.want m.done }
def xV (g:Int):Msg:=⟨4,g,⟨0,0,0,[]⟩,0,0,0,[]⟩
def aNr (x:Man):Msg:=⟨1,0,x,0,0,0,[]⟩
def dG (n:Node) (k id:Int) (m:Msg):Actn :=
 if id=k then⟨n,[]⟩
 else if n.phase=0 then⟨nF n id m,[fR k id (xV 0)]⟩
 else if ¬ m.gen=n.man.gen then⟨nF n id m,[fR k id (aNr n.man)]⟩
 else if(bJ (nF n id m) k id).out=[] then⟨(bJ (nF n id m) k id).n,[fR k id (xV n.man.gen)]⟩
 else bJ (nF n id m) k id
theorem aKm {n:Node} {id:Int} {m:Msg} (hn:n.man.sums.length≤1048576∧n.bld.buf.length≤1048576∧n.kids.length+1≤4194304):(nF n id m).limk:=by
 refine⟨hn.1,hn.2.1,?_⟩
 show(jZ n.kids id m.want m.done).length≤_
 have:=xS n.kids id m.want m.done
 omega
theorem aBf {E:aR} (J:Sys E) (n:Node) (k id:Int) (m:Msg) (hn:n.man.sums.length≤1048576∧n.bld.buf.length≤1048576∧n.kids.length+1≤4194304):E 452 [gv (n.cs aO),iv k,iv id,gv (m.cs aO)]=some ([gv ((dG n k id m).cs dH true)],[]):=by
 have hk:n.limk:=⟨hn.1,hn.2.1,by omega⟩
 have a0:=jI J n hk.l8
 have a1:=wO J n.kids id m.want m.done hk.2.2
 have a2:=eA J k id (xV 0) ⟨Nat.zero_le _,Nat.zero_le _⟩
 have a3:=eA J k id (aNr n.man) ⟨hn.1,Nat.zero_le _⟩
 have a4:=pX J (nF n id m) k id (aKm hn)
 have a5:=eA J k id (xV n.man.gen) ⟨Nat.zero_le _,Nat.zero_le _⟩
 unfold dG
 by_cases h1:id=k
 ·rw[if_pos h1]
  refine J.run rfl rfl fun W U=>?_
  conv=>lhs;whnf
  repeat'((first|with_reducible apply U.bt (aSl h1)|apply U.t|apply U.f|(apply U.q;exact aE)|apply U.w (a0)|(apply U.b<;>intro h))<;>conv=>lhs;whnf)
  rfl
 ·rw[if_neg h1]
  by_cases h2:n.phase=0
  ·rw[if_pos h2]
   refine J.run rfl rfl fun W U=>?_
   conv=>lhs;whnf
   repeat'((first|with_reducible apply U.bf (wJ h1)|with_reducible apply U.bt (aSl h2)|apply U.t|apply U.f|(apply U.q;exact aE)|apply U.w (a0)|apply U.w (a1)|apply U.w (a2)|(apply U.b<;>intro h))<;>conv=>lhs;whnf)
   rfl
  ·rw[if_neg h2]
   by_cases h3:m.gen=n.man.gen
   ·rw[if_neg (fun h=>h h3)]
    generalize bJ (nF n id m) k id=x at a4 ⊢
    obtain⟨xn,xo⟩:=x
    cases xo with
    |nil =>
     rw[if_pos rfl]
     refine J.run rfl rfl fun W U=>?_
     conv=>lhs;whnf
     repeat'((first|with_reducible apply U.bf (wJ h1)|with_reducible apply U.bf (wJ h2)|with_reducible apply U.bf (aTO h3)|apply U.t|apply U.f|(apply U.q;exact aE)|apply U.w (a0)|apply U.w (a1)|apply U.w (a4)|apply U.w (a5)|(apply U.b<;>intro h))<;>conv=>lhs;whnf)
     rfl
    |cons p xo =>
     rw[if_neg (by simp)]
     refine J.run rfl rfl fun W U=>?_
     conv=>lhs;whnf
     repeat'((first|with_reducible apply U.bf (wJ h1)|with_reducible apply U.bf (wJ h2)|with_reducible apply U.bf (aTO h3)|apply U.t|apply U.f|(apply U.q;exact aE)|apply U.w (a0)|apply U.w (a1)|apply U.w (a4)|(apply U.b<;>intro h))<;>conv=>lhs;whnf)
     rfl
   ·rw[if_pos h3]
    refine J.run rfl rfl fun W U=>?_
    conv=>lhs;whnf
    repeat'((first|with_reducible apply U.bf (wJ h1)|with_reducible apply U.bf (wJ h2)|with_reducible apply U.bt (aVM h3)|apply U.t|apply U.f|(apply U.q;exact aE)|apply U.w (a0)|apply U.w (a1)|apply U.w (a3)|(apply U.b<;>intro h))<;>conv=>lhs;whnf)
    rfl
theorem aBg {E:aR} (J:Sys E) (n:Node) (k id:Int) (m:Msg) (hn:n.man.sums.length≤1048576∧n.bld.buf.length≤1048576∧n.kids.length+1≤4194304):E 455 [gv (n.cs aO),iv k,iv id,gv (m.cs aO)]=some ([gv ((dG n k id m).cs dH true)],[]):=by
 have hk:n.limk:=⟨hn.1,hn.2.1,by omega⟩
 have a0:=lI J n hk.l8
 have a1:=aLW J n.kids id m.want m.done hk.2.2
 have a2:=fK J k id (xV 0) ⟨Nat.zero_le _,Nat.zero_le _⟩
 have a3:=fK J k id (aNr n.man) ⟨hn.1,Nat.zero_le _⟩
 have a4:=kR J (nF n id m) k id (aKm hn)
 have a5:=fK J k id (xV n.man.gen) ⟨Nat.zero_le _,Nat.zero_le _⟩
 unfold dG
 by_cases h1:id=k
 ·rw[if_pos h1]
  refine J.run rfl rfl fun W U=>?_
  conv=>lhs;whnf
  repeat'((first|with_reducible apply U.bt (aSl h1)|apply U.t|apply U.f|(apply U.q;exact aE)|apply U.w (a0)|(apply U.b<;>intro h))<;>conv=>lhs;whnf)
  rfl
 ·rw[if_neg h1]
  by_cases h2:n.phase=0
  ·rw[if_pos h2]
   refine J.run rfl rfl fun W U=>?_
   conv=>lhs;whnf
   repeat'((first|with_reducible apply U.bf (wJ h1)|with_reducible apply U.bt (aSl h2)|apply U.t|apply U.f|(apply U.q;exact aE)|apply U.w (a0)|apply U.w (a1)|apply U.w (a2)|(apply U.b<;>intro h))<;>conv=>lhs;whnf)
   rfl
  ·rw[if_neg h2]
   by_cases h3:m.gen=n.man.gen
   ·rw[if_neg (fun h=>h h3)]
    generalize bJ (nF n id m) k id=x at a4 ⊢
    obtain⟨xn,xo⟩:=x
    cases xo with
    |nil =>
     rw[if_pos rfl]
     refine J.run rfl rfl fun W U=>?_
     conv=>lhs;whnf
     repeat'((first|with_reducible apply U.bf (wJ h1)|with_reducible apply U.bf (wJ h2)|with_reducible apply U.bf (aTO h3)|apply U.t|apply U.f|(apply U.q;exact aE)|apply U.w (a0)|apply U.w (a1)|apply U.w (a4)|apply U.w (a5)|(apply U.b<;>intro h))<;>conv=>lhs;whnf)
     rfl
    |cons p xo =>
     rw[if_neg (by simp)]
     refine J.run rfl rfl fun W U=>?_
     conv=>lhs;whnf
     repeat'((first|with_reducible apply U.bf (wJ h1)|with_reducible apply U.bf (wJ h2)|with_reducible apply U.bf (aTO h3)|apply U.t|apply U.f|(apply U.q;exact aE)|apply U.w (a0)|apply U.w (a1)|apply U.w (a4)|(apply U.b<;>intro h))<;>conv=>lhs;whnf)
     all_goals first|rfl|(exfalso;have h:=of_decide_eq_false h;simp at h;done)|(exfalso;have h:=of_decide_eq_false h;simp at h;omega)
   ·rw[if_pos h3]
    refine J.run rfl rfl fun W U=>?_
    conv=>lhs;whnf
    repeat'((first|with_reducible apply U.bf (wJ h1)|with_reducible apply U.bf (wJ h2)|with_reducible apply U.bt (aVM h3)|apply U.t|apply U.f|(apply U.q;exact aE)|apply U.w (a0)|apply U.w (a1)|apply U.w (a3)|(apply U.b<;>intro h))<;>conv=>lhs;whnf)
    rfl
theorem aF1 (n:Node) (k id:Int) (m:Msg) (hn:n.lim 1048576) (_:m.lim 1048576):(dG n k id m).lim 4194304:=by
 have hn':=hn.k.l4
 have hh:=(aKm (id:=id) (m:=m) ⟨hn.1,hn.2.1,by have:=hn.2.2;omega⟩)
 have hz:vW (fun B=>Pkt.lim B) 4194304 ([]:List Pkt):=⟨Nat.zero_le _,fun _ h=>by cases h⟩
 have h1:∀ m:Msg,vW (fun B=>Pkt.lim B) 4194304 [fR k id m]:=fun m=>⟨by simp,fun x hx=>by rw[List.mem_singleton.mp hx];exact Nat.le_trans (nZ _) (by decide)⟩
 have hs:=wT (nF n id m) k id hh
 unfold dG
 split
 ·exact⟨hn',hz⟩
 ·split
  ·exact⟨hh.l4,h1 _⟩
  ·split
   ·exact⟨hh.l4,h1 _⟩
   ·split
    ·exact⟨hs.1,h1 _⟩
    ·exact hs
theorem aSA {α:Type} {p:α→Bool} {pre post:List α} {e:α} (hp:∀ x∈pre,p x=false) (he:p e=true):∀ {n:Nat},jU p n (pre++e::post)=((n+pre.length:Nat):Int):=by
 induction pre with
 |nil=>intro n;simp[jU,he]
 |cons a r ih =>
  intro n
  simp only[List.cons_append,jU,hp a List.mem_cons_self,Bool.false_eq_true,if_false,List.length_cons]
  rw[ih fun x hx=>hp x (List.mem_cons_of_mem _ hx)]
  congr 1;omega
theorem aNs {α:Type} {p:α→Bool} {l:List α}:∀ {n k:Nat},jU p n l=((n+k:Nat):Int)→∃ pre e post,l=pre++e::post∧pre.length=k∧p e=true∧∀ x∈pre,p x=false:=by
 induction l with
 |nil=>intro n k h;simp only[jU]at h;omega
 |cons a r ih =>
  intro n k h
  simp only[jU]at h
  cases hp:p a
  ·rw[hp]at h
   simp only[Bool.false_eq_true,if_false]at h
   have hk:0<k:=by
    rcases aLz (p:=p) (l:=r) (n:=n+1) with h1|⟨i,_,h1⟩<;>rw[h1]at h<;>omega
   obtain⟨j,rfl⟩:∃ j,k=j+1:=⟨k-1,by omega⟩
   obtain⟨pre,e,post,rfl,h1,h2,h3⟩:=ih (n:=n+1) (k:=j) (by rw[h];congr 1;omega)
   exact⟨a::pre,e,post,rfl,by simp[h1],h2,fun x hx=>by rcases List.mem_cons.mp hx with rfl|hx;exact hp;exact h3 x hx⟩
  ·rw[hp]at h
   simp only[if_true]at h
   exact⟨[],a,r,rfl,by simp only[List.length_nil];omega,hp,fun x hx=>by cases hx⟩
theorem aJd {pre post:List Kid} {e:Kid} {id:Int} (hp:∀ x∈pre,x.id≠id) (he:e.id=id):eQ (pre++e::post) id=(pre.length:Int):=by
 have h:=aSA (p:=fun x:Kid=>decide (x.id=id)) (post:=post) (fun x hx=>decide_eq_false (hp x hx)) (decide_eq_true he) (n:=0)
 rw[Nat.zero_add]at h
 exact h
theorem aHP {pre post:List Kid} {e:Kid} {id h:Int} (hp:∀ x∈pre,x.id≠id) (he:e.id=id):dE (pre++e::post) id h=if bG h=false∨bG e.want=false∨bG e.sent=false then 0 else mU (aSm e.want h) e.sent:=by
 have hn:pre.length<(pre++e::post).length:=by simp
 rw[aBb hn (aJd hp he)]
 simp
theorem aL6 {d:Int} (h:bG d=true):aFE d 0=d:=by
 obtain⟨n,rfl,hn⟩:=pY h
 have:=(oA (b:=0) hn (by decide)).1
 rw[Nat.or_zero]at this
 exact this
theorem aTV {α:Type} {pre post:List α} {x y:α}:(pre++x::post).set pre.length y=pre++y::post:=by
 rw[List.set_append_right _ _ (Nat.le_refl _),Nat.sub_self];rfl
theorem aPQ {a b:Nat} (ha:a<1099511627776) (hb:b<1099511627776):aSm (a:Int) (b:Int)=((a &&& b:Nat):Int)∧a &&& b<1099511627776:=by
 have h1:a &&& b≤a:=Nat.and_le_left
 refine⟨?_,by omega⟩
 unfold aSm
 rw[BitVec.toNat_and,BitVec.ofInt_natCast,BitVec.ofInt_natCast,BitVec.toNat_ofNat,BitVec.toNat_ofNat,Nat.mod_eq_of_lt (by show a<2 ^ 64;omega),Nat.mod_eq_of_lt (by show b<2 ^ 64;omega)]
 exact aI (by omega)
end Tev
