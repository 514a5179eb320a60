/- What the functions compute, one contract each. -/
import Derived.Test.YtaoogeodghhnkaaGreatIgnoredCt3
set_option linter.unusedSimpArgs false
set_option linter.unusedVariables false
namespace Tev
open Go
set_option maxRecDepth 50000
set_option maxHeartbeats 20000000
theorem aFp {E:Env} (hE:Sys E) (aT:Tree) (aK:Int) (aN:Node) (aD:Disk) (aP:Pkt) (haT:aT.lim 140737488355328) (haN:aN.lim 140737488355328) (haD:aD.lim 140737488355328) (haP:aP.lim 140737488355328) :
 E 596 [gv (aT.cs aL),iv aK,gv (aN.cs aL),gv (aD.cs aL false),gv (aP.cs aL)]=some ([bv true],[]):=by
 refine hE.run rfl rfl fun W hW=>?_
 conv=>lhs;whnf
 have r0:rg 1048576:=⟨by omega,by omega⟩
 repeat((first|apply hW.t|apply hW.f|(apply hW.q;exact rqc));conv=>lhs;whnf)
 apply hW.w (aJb hE aT (1048576) haT r0)
 conv=>lhs;whnf
 try(apply hW.q;exact rqc;conv=>lhs;whnf)
 apply hW.b<;>intro g0<;>conv=>lhs;whnf
 ·rfl
 ·have laT:=Tree.sz_ok r0 (by simpa using g0)
  have r1:rg (aT.sz (1048576)):=(Tree.sz_rg r0)
  repeat((first|apply hW.t|apply hW.f|(apply hW.q;exact rqc));conv=>lhs;whnf)
  apply hW.w (aJf hE aN (aT.sz (1048576)) haN r1)
  conv=>lhs;whnf
  try(apply hW.q;exact rqc;conv=>lhs;whnf)
  apply hW.b<;>intro g1<;>conv=>lhs;whnf
  ·rfl
  ·have laN:=Node.sz_ok r1 (by simpa using g1)
   have r2:rg (aN.sz (aT.sz (1048576))):=(Node.sz_rg r1)
   repeat((first|apply hW.t|apply hW.f|(apply hW.q;exact rqc));conv=>lhs;whnf)
   apply hW.w (aJd hE aD (aN.sz (aT.sz (1048576))) haD r2)
   conv=>lhs;whnf
   try(apply hW.q;exact rqc;conv=>lhs;whnf)
   apply hW.b<;>intro g2<;>conv=>lhs;whnf
   ·rfl
   ·have laD:=Disk.sz_ok r2 (by simpa using g2)
    have r3:rg (aD.sz (aN.sz (aT.sz (1048576)))):=(Disk.sz_rg r2)
    repeat((first|apply hW.t|apply hW.f|(apply hW.q;exact rqc));conv=>lhs;whnf)
    apply hW.w (aE8 hE aP (aD.sz (aN.sz (aT.sz (1048576)))) haP r3)
    conv=>lhs;whnf
    try(apply hW.q;exact rqc;conv=>lhs;whnf)
    apply hW.b<;>intro g3<;>conv=>lhs;whnf
    ·rfl
    ·have laP:=Pkt.sz_ok r3 (by simpa using g3)
     have r4:rg (aP.sz (aD.sz (aN.sz (aT.sz (1048576))))):=(Pkt.sz_rg r3)
     repeat((first|apply hW.t|apply hW.f|(apply hW.q;exact rqc));conv=>lhs;whnf)
     apply hW.w (aAx hE aT laT)
     conv=>lhs;whnf
     repeat((first|apply hW.t|apply hW.f|(apply hW.q;exact rqc));conv=>lhs;whnf)
     apply hW.w (aAz hE aN laN)
     conv=>lhs;whnf
     repeat((first|apply hW.t|apply hW.f|(apply hW.q;exact rqc));conv=>lhs;whnf)
     apply hW.w (aAy hE aD laD)
     conv=>lhs;whnf
     repeat((first|apply hW.t|apply hW.f|(apply hW.q;exact rqc));conv=>lhs;whnf)
     apply hW.w (qJ hE aP laP)
     conv=>lhs;whnf
     repeat((first|apply hW.t|apply hW.f|(apply hW.q;exact rqc));conv=>lhs;whnf)
     apply hW.w (yJ hE aT aK aN aD aP laT laN laD laP)
     conv=>lhs;whnf
     repeat((first|apply hW.t|apply hW.f|(apply hW.q;exact rqc));conv=>lhs;whnf)
     apply hW.w (aAx hE aT laT)
     conv=>lhs;whnf
     repeat((first|apply hW.t|apply hW.f|(apply hW.q;exact rqc));conv=>lhs;whnf)
     apply hW.w (aAz hE aN laN)
     conv=>lhs;whnf
     repeat((first|apply hW.t|apply hW.f|(apply hW.q;exact rqc));conv=>lhs;whnf)
     apply hW.w (aAy hE aD laD)
     conv=>lhs;whnf
     repeat((first|apply hW.t|apply hW.f|(apply hW.q;exact rqc));conv=>lhs;whnf)
     apply hW.w (qJ hE aP laP)
     conv=>lhs;whnf
     repeat((first|apply hW.t|apply hW.f|(apply hW.q;exact rqc));conv=>lhs;whnf)
     apply hW.w (yK hE aT aK aN aD aP laT laN laD laP)
     conv=>lhs;whnf
     repeat((first|apply hW.t|apply hW.f|(apply hW.q;exact rqc));conv=>lhs;whnf)
     try(apply hW.bf (by first|(exact decide_eq_false (by omega))|(simp;done)|(simp;omega));conv=>lhs;whnf)
     repeat((first|apply hW.t|apply hW.f|(apply hW.q;exact rqc));conv=>lhs;whnf)
     apply hW.w (aAx hE aT laT)
     conv=>lhs;whnf
     repeat((first|apply hW.t|apply hW.f|(apply hW.q;exact rqc));conv=>lhs;whnf)
     apply hW.w (aJc hE aT aT (Tree.lim_mono (by decide:4194304≤1099511627776) (Tree.lim_mono (by decide:1048576≤4194304) laT)))
     conv=>lhs;whnf
     repeat((first|apply hW.t|apply hW.f|(apply hW.q;exact rqc));conv=>lhs;whnf)
     try(apply hW.bf (by first|(exact decide_eq_false (by omega))|(simp;done)|(simp;omega));conv=>lhs;whnf)
     repeat((first|apply hW.t|apply hW.f|(apply hW.q;exact rqc));conv=>lhs;whnf)
     apply hW.w (aAz hE aN laN)
     conv=>lhs;whnf
     repeat((first|apply hW.t|apply hW.f|(apply hW.q;exact rqc));conv=>lhs;whnf)
     apply hW.w (aJg hE aN aN (Node.lim_mono (by decide:4194304≤1099511627776) (Node.lim_mono (by decide:1048576≤4194304) laN)))
     conv=>lhs;whnf
     repeat((first|apply hW.t|apply hW.f|(apply hW.q;exact rqc));conv=>lhs;whnf)
     try(apply hW.bf (by first|(exact decide_eq_false (by omega))|(simp;done)|(simp;omega));conv=>lhs;whnf)
     repeat((first|apply hW.t|apply hW.f|(apply hW.q;exact rqc));conv=>lhs;whnf)
     apply hW.w (aAy hE aD laD)
     conv=>lhs;whnf
     repeat((first|apply hW.t|apply hW.f|(apply hW.q;exact rqc));conv=>lhs;whnf)
     apply hW.w (aJe hE aD aD (Disk.lim_mono (by decide:4194304≤1099511627776) (Disk.lim_mono (by decide:1048576≤4194304) laD)))
     conv=>lhs;whnf
     repeat((first|apply hW.t|apply hW.f|(apply hW.q;exact rqc));conv=>lhs;whnf)
     try(apply hW.bf (by first|(exact decide_eq_false (by omega))|(simp;done)|(simp;omega));conv=>lhs;whnf)
     repeat((first|apply hW.t|apply hW.f|(apply hW.q;exact rqc));conv=>lhs;whnf)
     apply hW.w (qJ hE aP laP)
     conv=>lhs;whnf
     repeat((first|apply hW.t|apply hW.f|(apply hW.q;exact rqc));conv=>lhs;whnf)
     apply hW.w (aE9 hE aP aP (Pkt.lim_mono (by decide:4194304≤1099511627776) (Pkt.lim_mono (by decide:1048576≤4194304) laP)))
     conv=>lhs;whnf
     repeat((first|apply hW.t|apply hW.f|(apply hW.q;exact rqc));conv=>lhs;whnf)
     try(apply hW.bf (by first|(exact decide_eq_false (by omega))|(simp;done)|(simp;omega));conv=>lhs;whnf)
     rfl
theorem aHD {row:List Sh} {e:List T} (hl:e.length=row.length) (h:∀ (j:Nat) s t,row[j]?=some s→e[j]?=some t→Fit s t):All2 Fit row e:=by
 induction row generalizing e with
 |nil=>cases e with
  |nil=>exact .nil
  |cons _ _=>cases hl
 |cons s r ih=>cases e with
  |nil=>cases hl
  |cons t u=>exact .cons (h 0 s t rfl rfl) (ih (by simpa using hl) fun j s t h1 h2=>h (j+1) s t (by simpa using h1) (by simpa using h2))
theorem wL {α:Type} (f:α→List T) (Q:α→Prop) {row:List Sh} {by_:Nat} {t:T} (hr:∀ e:List T,All2 Fit row e→∃ x,e=f x∧Q x) (h:Fit (.sl row by_) t):∃ l:List α,t = .sl false (l.map f)∧l.length*by_≤reachBytes∧∀ x∈l,Q x:=by
 cases h with
 |sl h hs hx =>
  rename_i es
  have:∃ l:List α,es=l.map f∧∀ x∈l,Q x:=by
   clear h
   induction es with
   |nil=>exact⟨[],rfl,by simp⟩
   |cons e r ih =>
    obtain⟨l,h1,h2⟩:=ih (fun e he=>hs e (by simp[he])) fun i e he j s t h3 h4=>hx (i+1) e (by simpa using he) j s t h3 h4
    obtain⟨x,h3,h4⟩:=hr e (aHD (hs e (by simp)) fun j s t h5 h6=>hx 0 e rfl j s t h5 h6)
    exact⟨x::l,by rw[h1,h3];rfl,fun y hy=>by rcases List.mem_cons.mp hy with rfl|hy;exact h4;exact h2 y hy⟩
  obtain⟨l,rfl,hq⟩:=this
  exact⟨l,rfl,by simpa using h,hq⟩
abbrev okI (n:Int):Prop := -9223372036854775808≤n∧n≤9223372036854775807
theorem bY {t:T} (h:Fit (.int .i64) t):∃ n,t = .int .i64 n∧okI n:=by
 cases h with
 |int h=>exact⟨_,rfl,by simpa[Lit.wf,IntKind.min,IntKind.max,IntKind.bits,IntKind.signed] using h⟩
theorem aJH {e:List T} (h:All2 Fit [.int .u8] e):∃ x:UInt8,e=wN x∧True:=by
 cases h with
 |cons h t =>
  cases t
  cases h with
  |int h =>
   rename_i n
   have h:0≤n∧n≤255:=by simpa[Lit.wf,IntKind.min,IntKind.max,IntKind.bits,IntKind.signed] using h
   refine⟨UInt8.ofNat n.toNat,?_,trivial⟩
   simp only[wN,UInt8.toNat_ofNat']
   congr 2
   omega
theorem wM {n by_:Nat} (hb:0<by_) (h:n*by_≤reachBytes):n≤2 ^ 47:=by
 have:n*1≤n*by_:=Nat.mul_le_mul_left _ hb
 unfold reachBytes at h
 omega
def aHE (P:Program) (t:TypeId):Bool:=match P.underlying t with|some (.struct _)=>true|_=>false
theorem aLP {P:Program} {t:TypeId} {a:A} {sh:Sh} (h:aFr P t a) (hs:uP P 12 t=some [sh]) (hu:aHE P t=false):∃ x,a = .v false [.t x]∧Fit sh x:=by
 obtain⟨sh',ts,h1,h2,h3⟩:=h
 rw[hs]at h1
 cases h1
 cases h2 with
 |cons h2 t=>cases t;exact⟨_,by rw[h3];exact congrArg (fun g=>A.v g _) hu,h2⟩
theorem aQ {α β:Type} {R:α→β→Prop} {a:α} {l:List α} {e:List β} (h:All2 R (a::l) e):∃ x r,e=x::r∧R a x∧All2 R l r:=by
 cases h with
 |cons h t=>exact⟨_,_,rfl,h,t⟩
theorem aJI {t:T} (h:Fit .bool t):∃ b,t = .bool b:=by cases h;exact⟨_,rfl⟩
theorem aJJ {e:List T} (h:All2 Fit [.int .i64] e):∃ x:Int,e=rM x∧True:=by
 obtain⟨_,_,rfl,h0,t⟩:=aQ h
 obtain⟨y,rfl,_⟩:=bY h0
 cases t
 exact⟨y,rfl,trivial⟩
theorem aJK {P:Program} {t:TypeId} {a:A} {sh:Sh} (h:aFr P t a) (hs:uP P 12 t=some [sh]) (hu:aHE P t=false):∃ x,a = .v false [.t x]∧Fit sh x:=aLP h hs hu
theorem aLQ {P:Program} {As:List A} (h:All2 (aFr P) [] As):As=[]:=by cases h;rfl
theorem lN {t:T} (h:Fit (.sl [.int .u8] 1) t):∃ l:List UInt8,t = .sl false (bys l)∧l.length≤140737488355328:=by
 obtain⟨l,h1,h2,h3⟩:=wL wN (fun _=>True) (fun e he=>aJH he) h
 exact⟨l,h1,wM (by decide) h2⟩
theorem aJL {t:T} (h:Fit (.sl [.int .i64] 8) t):∃ l:List Int,t = .sl false (bZ l)∧l.length≤140737488355328:=by
 obtain⟨l,h1,h2,h3⟩:=wL rM (fun _=>True) (fun e he=>aJJ he) h
 exact⟨l,h1,wM (by decide) h2⟩
theorem aDj {e:List T} (h:All2 Fit [.int .i64, .int .i64] e):∃ x:Sum,e=Sum.row x∧True:=by
 obtain⟨_,_,rfl,h0,t0⟩:=aQ h
 obtain⟨y0,rfl,_⟩:=bY h0
 obtain⟨_,_,rfl,h1,t1⟩:=aQ t0
 obtain⟨y1,rfl,_⟩:=bY h1
 cases t1
 exact⟨⟨y0,y1⟩,rfl,trivial⟩
theorem aJM {t:T} (h:Fit (.sl [.int .i64, .int .i64] 16) t):∃ l:List Sum,t = .sl false (l.map Sum.row)∧l.length≤140737488355328:=by
 obtain⟨l,h1,h2,h3⟩:=wL Sum.row (fun _=>True) (fun e he=>aDj he) h
 exact⟨l,h1,wM (by decide) h2⟩
theorem aDk {e:List T} (h:All2 Fit [.int .i64, .int .i64, .int .i64, .int .i64, .int .i64] e):∃ x:Kid,e=Kid.row x∧True:=by
 obtain⟨_,_,rfl,h0,t0⟩:=aQ h
 obtain⟨y0,rfl,_⟩:=bY h0
 obtain⟨_,_,rfl,h1,t1⟩:=aQ t0
 obtain⟨y1,rfl,_⟩:=bY h1
 obtain⟨_,_,rfl,h2,t2⟩:=aQ t1
 obtain⟨y2,rfl,_⟩:=bY h2
 obtain⟨_,_,rfl,h3,t3⟩:=aQ t2
 obtain⟨y3,rfl,_⟩:=bY h3
 obtain⟨_,_,rfl,h4,t4⟩:=aQ t3
 obtain⟨y4,rfl,_⟩:=bY h4
 cases t4
 exact⟨⟨y0,y1,y2,y3,y4⟩,rfl,trivial⟩
theorem aJN {t:T} (h:Fit (.sl [.int .i64, .int .i64, .int .i64, .int .i64, .int .i64] 40) t):∃ l:List Kid,t = .sl false (l.map Kid.row)∧l.length≤140737488355328:=by
 obtain⟨l,h1,h2,h3⟩:=wL Kid.row (fun _=>True) (fun e he=>aDk he) h
 exact⟨l,h1,wM (by decide) h2⟩
theorem aDl {e:List T} (h:All2 Fit [.int .i64, .int .i64, .sl [.int .u8] 1, .int .i64, .int .i64, .int .i64] e):∃ x:Put,e=(Put.row false) x∧x.lim 140737488355328:=by
 obtain⟨_,_,rfl,h0,t0⟩:=aQ h
 obtain⟨y0,rfl,_⟩:=bY h0
 obtain⟨_,_,rfl,h1,t1⟩:=aQ t0
 obtain⟨y1,rfl,_⟩:=bY h1
 obtain⟨_,_,rfl,h2,t2⟩:=aQ t1
 obtain⟨y2,rfl,l2⟩:=lN h2
 obtain⟨_,_,rfl,h3,t3⟩:=aQ t2
 obtain⟨y3,rfl,_⟩:=bY h3
 obtain⟨_,_,rfl,h4,t4⟩:=aQ t3
 obtain⟨y4,rfl,_⟩:=bY h4
 obtain⟨_,_,rfl,h5,t5⟩:=aQ t4
 obtain⟨y5,rfl,_⟩:=bY h5
 cases t5
 exact⟨⟨y0,y1,y2,⟨y3,y4,y5⟩⟩,rfl,l2⟩
theorem aJO {t:T} (h:Fit (.sl [.int .i64, .int .i64, .sl [.int .u8] 1, .int .i64, .int .i64, .int .i64] 64) t):∃ l:List Put,t = .sl false (l.map (Put.row false))∧aAw (fun B=>Put.lim B) 140737488355328 l:=by
 obtain⟨l,h1,h2,h3⟩:=wL (Put.row false) (fun x=>Put.lim 140737488355328 x) (fun e he=>aDl he) h
 exact⟨l,h1,⟨wM (by decide) h2,h3⟩⟩
theorem aFq {P:Program} {t:TypeId} {a:A} (h:aFr P t a) (hs:uP P 12 t=some [.int .i64, .int .i64, .sl [.int .u8] 1]) (hu:aHE P t=true):∃ x:Pkt,a=gv (x.cs aL)∧x.lim 140737488355328:=by
 obtain⟨sh,ts,h1,h,h3⟩:=h
 rw[hs]at h1
 cases h1
 have h3:a = .v true (ts.map CA.t):=h3.trans (congrArg (fun g=>A.v g _) hu)
 subst h3
 obtain⟨_,_,rfl,h0,t0⟩:=aQ h
 obtain⟨y0,rfl,_⟩:=bY h0
 obtain⟨_,_,rfl,h1,t1⟩:=aQ t0
 obtain⟨y1,rfl,_⟩:=bY h1
 obtain⟨_,_,rfl,h2,t2⟩:=aQ t1
 obtain⟨y2,rfl,l2⟩:=lN h2
 cases t2
 exact⟨⟨y0,y1,y2⟩,rfl,l2⟩
theorem aJP {P:Program} {t:TypeId} {a:A} (h:aFr P t a) (hs:uP P 12 t=some [.sl [.int .i64] 8]) (hu:aHE P t=true):∃ x:Tree,a=gv (x.cs aL)∧x.lim 140737488355328:=by
 obtain⟨sh,ts,h1,h,h3⟩:=h
 rw[hs]at h1
 cases h1
 have h3:a = .v true (ts.map CA.t):=h3.trans (congrArg (fun g=>A.v g _) hu)
 subst h3
 obtain⟨_,_,rfl,h0,t0⟩:=aQ h
 obtain⟨y0,rfl,l0⟩:=aJL h0
 cases t0
 exact⟨⟨y0⟩,rfl,l0⟩
theorem aJQ {P:Program} {t:TypeId} {a:A} (h:aFr P t a) (hs:uP P 12 t=some [.sl [.int .u8] 1, .sl [.int .u8] 1, .int .i64, .int .i64, .int .i64, .sl [.int .i64, .int .i64, .sl [.int .u8] 1, .int .i64, .int .i64, .int .i64] 64]) (hu:aHE P t=true):∃ x:Disk,a=gv (x.cs aL false)∧x.lim 140737488355328:=by
 obtain⟨sh,ts,h1,h,h3⟩:=h
 rw[hs]at h1
 cases h1
 have h3:a = .v true (ts.map CA.t):=h3.trans (congrArg (fun g=>A.v g _) hu)
 subst h3
 obtain⟨_,_,rfl,h0,t0⟩:=aQ h
 obtain⟨y0,rfl,l0⟩:=lN h0
 obtain⟨_,_,rfl,h1,t1⟩:=aQ t0
 obtain⟨y1,rfl,l1⟩:=lN h1
 obtain⟨_,_,rfl,h2,t2⟩:=aQ t1
 obtain⟨y2,rfl,_⟩:=bY h2
 obtain⟨_,_,rfl,h3,t3⟩:=aQ t2
 obtain⟨y3,rfl,_⟩:=bY h3
 obtain⟨_,_,rfl,h4,t4⟩:=aQ t3
 obtain⟨y4,rfl,_⟩:=bY h4
 obtain⟨_,_,rfl,h5,t5⟩:=aQ t4
 obtain⟨y5,rfl,l5⟩:=aJO h5
 cases t5
 exact⟨⟨y0,y1,⟨y2,y3,y4⟩,y5⟩,rfl,⟨l0,l1,l5⟩⟩
theorem aJR {P:Program} {t:TypeId} {a:A} (h:aFr P t a) (hs:uP P 12 t=some [.bool, .int .i64, .int .i64, .int .i64, .int .i64, .int .i64, .sl [.int .i64, .int .i64] 16, .int .i64, .sl [.int .u8] 1, .int .i64, .sl [.int .i64, .int .i64, .int .i64, .int .i64, .int .i64] 40, .int .i64]) (hu:aHE P t=true):∃ x:Node,a=gv (x.cs aL)∧x.lim 140737488355328:=by
 obtain⟨sh,ts,h1,h,h3⟩:=h
 rw[hs]at h1
 cases h1
 have h3:a = .v true (ts.map CA.t):=h3.trans (congrArg (fun g=>A.v g _) hu)
 subst h3
 obtain⟨_,_,rfl,h0,t0⟩:=aQ h
 obtain⟨y0,rfl⟩:=aJI h0
 obtain⟨_,_,rfl,h1,t1⟩:=aQ t0
 obtain⟨y1,rfl,_⟩:=bY h1
 obtain⟨_,_,rfl,h2,t2⟩:=aQ t1
 obtain⟨y2,rfl,_⟩:=bY h2
 obtain⟨_,_,rfl,h3,t3⟩:=aQ t2
 obtain⟨y3,rfl,_⟩:=bY h3
 obtain⟨_,_,rfl,h4,t4⟩:=aQ t3
 obtain⟨y4,rfl,_⟩:=bY h4
 obtain⟨_,_,rfl,h5,t5⟩:=aQ t4
 obtain⟨y5,rfl,_⟩:=bY h5
 obtain⟨_,_,rfl,h6,t6⟩:=aQ t5
 obtain⟨y6,rfl,l6⟩:=aJM h6
 obtain⟨_,_,rfl,h7,t7⟩:=aQ t6
 obtain⟨y7,rfl,_⟩:=bY h7
 obtain⟨_,_,rfl,h8,t8⟩:=aQ t7
 obtain⟨y8,rfl,l8⟩:=lN h8
 obtain⟨_,_,rfl,h9,t9⟩:=aQ t8
 obtain⟨y9,rfl,_⟩:=bY h9
 obtain⟨_,_,rfl,h10,t10⟩:=aQ t9
 obtain⟨y10,rfl,l10⟩:=aJN h10
 obtain⟨_,_,rfl,h11,t11⟩:=aQ t10
 obtain⟨y11,rfl,_⟩:=bY h11
 cases t11
 exact⟨⟨y0,y1,y2,⟨y3,y4,y5,y6⟩,⟨y7,y8⟩,y9,y10,y11⟩,rfl,⟨l6,l8,l10⟩⟩
end Tev
