/- What a function of the library does that the law reaches, walked: conditions as each theorem says. -/
import Derived.Test.YtdkfmakllhlbpaaGreatChecked
import Derived.Test.YtdkfmakllhlbpaaGreatSendsCt4
import Derived.Shelf.RegionOpenPlain
import Derived.WalkKit
import Derived.Lib.Walk
import Derived.Lib.SliceRun
import Derived.Lib.JoinLaws
import Derived.Lib.AppendZeros
import Derived.Laws.Externs
import Derived.Laws.IdiomCopy
import Derived.KernelRfl
set_option linter.unusedVariables false
set_option linter.unusedSimpArgs false
namespace Go.Proofs.YtdkfmakllhlbpaaGreat.fnSends
open Go.Shelf Go.RowKit Go.Lib Tev
def KZ:Value := .agg #[.int .i64 0, .int .i64 0, .int .i64 0, .int .i64 0, .int .i64 0]
theorem ki:(Tryz.prog.info? 75).map (fun i=>(i.zero,i.size,i.bytes))=some (some KZ,5,40):=by kernel_rfl
set_option maxHeartbeats 4000000
set_option maxRecDepth 100000
theorem ins_end (w:World) (v:Value) (n:Nat) (xs news:List Value) (hown:cV w 5 v n xs) (vb vo vc:Nat)
 (hnews:∀ (j:Nat) u,news[j]?=some u→w.cell? ⟨vb,vo+j,none⟩=some u) (hl:news.length=5) (h1:∀ u∈news,u.oneCell'=true) (hn:n+1≤1099511627776) :
 Calls Tryz.prog 81 #[v, .int .i64 n, .slice (some ⟨vb,vo,none⟩) 1 vc] w fun e w'=>∃ v',e = .returned v'∧cV w' 5 v' (n+1) (xs++news)∧Gr w w' ∧
  (∀ b,b<w.heap.size→gE v≠some b→w'.heap[b]?=w.heap[b]?)∧(∀ b,gE v'=some b→gE v=some b∨(w.heap.size≤b∧b<w'.heap.size)):=by
 obtain⟨KI,hki,kz,ks,kb⟩:=info_parts ki
 have hrun:=fun ty=>aJo (P:=Tryz.prog) w 29 ty 75 KI _ Tryz.underlying29 hki kz (by rw[ks];rfl) (by rw[ks];decide) v n xs (by rw[ks];exact hown) (some ⟨vb,vo,none⟩) 1 vc news
  (by rw[ks];exact hl) (.inr ⟨vb,vo,rfl,hnews⟩) h1 (by omega) (by rw[kb];omega)
 obtain⟨base,cap,rfl,hc⟩:∃ base cap,v = .slice base n cap∧n≤cap:=by
  rcases hown.cases with⟨a0,rfl,rfl,_⟩|⟨g,cap,cur,e',rfl,_,hc,_⟩
  ·exact⟨_,_,rfl,Nat.le_refl _⟩
  ·exact⟨_,_,rfl,hc⟩
 obtain⟨v',w',hr,hp⟩:=hrun 29
 rw[ks]at hp
 refine Calls.mono (R:=fun e w''=>e = .returned v'∧w''=w') ?_ (fun e w'' h=>⟨v',h.1,h.2 ▸ hp⟩)
 clear hp hrun hown
 have mixed:Tryz.prog.follows .mixedOrders=true:=by kernel_rfl
 go_enter Tryz.func81,Tryz.ntmps81
 go_wp2_with (at_builtin;refine Lib.wpList_append_run _ rfl _ _ _ _ rfl _ _ rfl rfl _ _ hr ?_)
 all_goals(go_ret;exact⟨rfl,rfl⟩)
theorem ins_room (w:World) (g n cap i:Nat) (cur:Array Value) (e':TypeId) (hg:w.heap[g]?=some (.cells cur e' (0,0))) (hi:i<n) (hroom:n+1≤cap) (hcm:cap≤maxLen) (hcs:cur.size=cap*5)
 (vb vo vc:Nat) (xs news:List Value) (hxs:cur.toList.take (n*5)=xs) (hvb:vb≠g) (hx1:∀ u∈xs,u.oneCell'=true)
 (hnews:∀ (j:Nat) u,news[j]?=some u→w.cell? ⟨vb,vo+j,none⟩=some u) (hl:news.length=5) (h1:∀ u∈news,u.oneCell'=true) (hn:n+1≤1099511627776)
 (R1:Array Value) (hR1:R1=(cur.toList.take ((i+1)*5)++xs.drop (i*5)++cur.toList.drop ((i+1)*5+(xs.drop (i*5)).length)).toArray) :
 Calls Tryz.prog 81 #[.slice (some ⟨g,0,none⟩) n cap, .int .i64 i, .slice (some ⟨vb,vo,none⟩) 1 vc] w fun e w' =>
  e = .returned (.slice (some ⟨g,0,none⟩) (n+1) cap)∧w'=(w.drew.setRow g R1).setRow g (R1.toList.take (i*5)++news++R1.toList.drop (i*5+news.length)).toArray:=by
 obtain⟨KI,hki,kz,ks,kb⟩:=info_parts ki
 have hz:∀ w,(Go.sizeOf 75).run Tryz.prog w = .ok 5 w:=fun w=>by simp[Go.sizeOf,typeInfo,hki,ks]
 have hxl:xs.length=n*5:=by rw[← hxs,List.length_take,Array.length_toList,hcs];omega
 have hdl:(xs.drop (i*5)).length=(n-i)*5:=by rw[List.length_drop,hxl];omega
 have hsb:w.shape? g=some (e',cur.size):=by simp[World.shape?,hg]
 have hv0:=hnews 0 _ (List.getElem?_eq_getElem (by omega))
 obtain⟨tv,kv,hsv,hkv⟩:∃ tv kv,w.shape? vb=some (tv,kv)∧kv≠0:=by
  simp only[World.cell?]at hv0
  split at hv0
  ·rename_i c t q hq
   refine⟨t,c.size,by simp[World.shape?,hq],fun h0=>?_⟩
   have:c = #[]:=by simpa using h0
   subst this
   simp at hv0
  ·cases hv0
 have hfr:∀ o,w.frozen? ⟨g,o,none⟩=false:=fun o=>by simp[World.frozen?,hg]
 have hov:∀ o la lb cb,(callFunc 129 #[.slice (some ⟨vb,vo,none⟩) la vc, .slice (some ⟨g,o,none⟩) lb cb]).run Tryz.prog w = .ok (.value (.bool false)) w:=fun o la lb cb=>by
  rw[run_callFunc_extern Tryz.func129 (by kernel_rfl) (by kernel_rfl) (by kernel_rfl) (e:=Extern.SlicesOverlaps.overlaps #[29,29] #[4]) (by kernel_rfl),
   aPe w 29 4 75 Tryz.underlying29 5 hz ⟨vb,vo,none⟩ ⟨g,o,none⟩ la vc lb cb hvb tv e' kv _ hsv hsb hkv (hfr _) (hfr _)]
  rfl
 have hgd:w.drew.heap[g]?=some (.cells cur e' (0,0)):=hg
 have hcell:∀ (j:Nat) v,(xs.drop (i*5))[j]?=some v→w.drew.cell? ((⟨g,i*5,none⟩:Addr).add j)=some v:=fun j v hj=>by
  rw[add_lit]
  have hj':cur.toList[i*5+j]?=some v:=by
   rw[List.getElem?_drop,← hxs,List.getElem?_take]at hj
   split at hj
   ·exact hj
   ·cases hj
  simp only[World.cell?,hgd]
  simpa using hj'
 have hcp1:∀ ty dc sc,(Builtin.copy_ #[29,29] ty #[.slice (some ⟨g,(i+1)*5,none⟩) (n-i) dc, .slice (some ⟨g,i*5,none⟩) (n+1-i) sc]).run Tryz.prog w.drew = .ok (goInt (Nat.min (n+1-i) (n-i))) (w.drew.setRow g R1):=fun ty dc sc=>by
  rw[hR1]
  exact xN w.drew 29 29 ty 75 KI g ((i+1)*5) (n-i) dc ⟨g,i*5,none⟩ (n+1-i) sc cur e' (xs.drop (i*5)) Tryz.underlying29 hki hgd
   (by rw[hdl,ks];congr 1;simp only[Nat.min_def];split<;>omega) hcell (by rw[hdl,hcs];omega) (fun v hv=>hx1 v (List.mem_of_mem_drop hv))
 have hsz1:R1.size=cur.size:=by rw[hR1];simp only[List.size_toArray,List.length_append,List.length_take,List.length_drop,Array.length_toList,hxl,hcs];omega
 have hg1:(w.drew.setRow g R1).heap[g]?=some (.cells R1 e' (0,0)):=setRow_heap w.drew g cur _ e' _ hgd
 have hcp2:∀ ty dc,(Builtin.copy_ #[29,29] ty #[.slice (some ⟨g,i*5,none⟩) (n+1-i) dc, .slice (some ⟨vb,vo,none⟩) 1 vc]).run Tryz.prog (w.drew.setRow g R1) = .ok (goInt (Nat.min 1 (n+1-i))) ((w.drew.setRow g R1).setRow g (R1.toList.take (i*5)++news++R1.toList.drop (i*5+news.length)).toArray):=fun ty dc =>
  xN (w.drew.setRow g R1) 29 29 ty 75 KI g (i*5) (n+1-i) dc ⟨vb,vo,none⟩ 1 vc R1 e' news Tryz.underlying29 hki hg1
   (by rw[hl,ks];simp only[Nat.min_def];split<;>omega) (fun j v hj=>by
    rw[add_lit,← hnews j v hj]
    exact World.cell?_of_block (setRow_other w.drew g vb _ hvb)) (by rw[hsz1,hl,hcs];omega) h1
 have hz2:¬ ((i:Int)=(n:Int)):=by omega
 have hw1:IntKind.i64.wrap ((i:Int)+1)=(i:Int)+1:=by rw[IntKind.wrap_i64];omega
 have hw2:IntKind.i64.wrap ((n:Int)+1)=(n:Int)+1:=by rw[IntKind.wrap_i64];omega
 have hb1:(0:Int)≤(i:Int)+1:=by omega
 have hin:i≤n:=by omega
 have htn:((i:Int)+1).toNat=i+1:=by omega
 have htn2:((n:Int)+1).toNat=n+1:=by omega
 have hb2:¬ (cap=i+1):=by omega
 have hb3:(i:Int)≤(n:Int)+1:=by omega
 have hb4:¬ (cap=i):=by omega
 have hgt:¬ ((cap:Int)<(n:Int)+1):=by omega
 clear hR1 hcell hgd hg1 hsz1
 have mixed:Tryz.prog.follows .mixedOrders=true:=by kernel_rfl
 go_enter Tryz.func81,Tryz.ntmps81
 go_wp2_with (simp only[hov])
 go_region_law_o (refine aNW rfl rfl (v := .slice (some ⟨g,(i+1)*5,none⟩) (n-i) (cap-(i+1))) (u := .slice (some ⟨g,i*5,none⟩) (n+1-i) (cap-i)) ?_ ?_ (hcp1 _ _ _) ?_)
 go_wp2_with (at_builtin;refine aIL _ rfl rfl rfl rfl (hcp2 _ _) ?_)
 go_ret
 exact⟨rfl,by rw[List.append_assoc,hl]⟩
theorem ins_grow (w:World) (g n i:Nat) (cur:Array Value) (e':TypeId) (hg:w.heap[g]?=some (.cells cur e' (0,0))) (hi:i<n) (hcs:cur.size=n*5)
 (vb vo vc:Nat) (xs news:List Value) (hxs:cur.toList=xs) (hx1:∀ u∈xs,u.oneCell'=true)
 (hnews:∀ (j:Nat) u,news[j]?=some u→w.cell? ⟨vb,vo+j,none⟩=some u) (hl:news.length=5) (h1:∀ u∈news,u.oneCell'=true) (hn:n+1≤1099511627776)
 (ROW RA:Array Value) (hROW:ROW=(xs.take (i*5)).toArray++Builtin.zeroCells KZ.cells (n+1-i)++Builtin.zeroCells KZ.cells (grownCap w (n+1) n 75-(n+1)))
 (hRA:RA=(ROW.toList.take (i*5)++news++ROW.toList.drop (i*5+news.length)).toArray) :
 Calls Tryz.prog 81 #[.slice (some ⟨g,0,none⟩) n n, .int .i64 i, .slice (some ⟨vb,vo,none⟩) 1 vc] w fun e w' =>
  e = .returned (.slice (some ⟨w.heap.size,0,none⟩) (n+1) (grownCap w (n+1) n 75)) ∧
  w'=((w.drew.alloc (.cells ROW 75)).setRow w.heap.size RA).drew.setRow w.heap.size (RA.toList.take ((i+1)*5)++xs.drop (i*5)++RA.toList.drop ((i+1)*5+(xs.drop (i*5)).length)).toArray:=by
 obtain⟨KI,hki,kz,ks,kb⟩:=info_parts ki
 have hxl:xs.length=n*5:=by rw[← hxs,Array.length_toList,hcs]
 have hdl:(xs.drop (i*5)).length=(n-i)*5:=by rw[List.length_drop,hxl];omega
 have hgw:g<w.heap.size:=(Array.getElem?_eq_some_iff.1 hg).1
 have hv0:=hnews 0 _ (List.getElem?_eq_getElem (by omega))
 have hvw:vb<w.heap.size:=World.block_lt_of_cell? w _ hv0
 obtain⟨G,hG⟩:∃ G,G=grownCap w (n+1) n 75:=⟨_,rfl⟩
 have hGn:n+1≤G:=by rw[hG];exact grownCap_ge w _ _ _
 have hGm:G≤maxLen:=by rw[hG];exact grownCap_le_maxLen w (n+1) n 75 (by unfold maxLen;omega)
 have hxc:∀ (W:World),W.heap[g]?=some (.cells cur e' (0,0))→∀ (o j:Nat) v,(xs.drop o)[j]?=some v→W.cell? ((⟨g,o,none⟩:Addr).add j)=some v:=fun W hW o j v hj=>by
  rw[add_lit]
  have hj':cur.toList[o+j]?=some v:=by rw[List.getElem?_drop,← hxs]at hj;exact hj
  simp only[World.cell?,hW]
  simpa using hj'
 have hold:(Builtin.firstCells KI.size i (.slice (some ⟨g,0,none⟩) i n)).run Tryz.prog w.drew = .ok (xs.take (i*5)).toArray w.drew:=by
  rw[ks]
  refine run_firstCells_some w.drew 5 i ⟨g,0,none⟩ i n (xs.take (i*5)) (by rw[List.length_take,hxl];omega) (fun j v hj=>?_)
  rw[List.getElem?_take]at hj
  split at hj
  ·exact hxc w.drew hg 0 j v (by simpa using hj)
  ·cases hj
 have hik:i+(n+1-i)=n+1:=by omega
 have hrz:∀ ty,(Builtin.append_ #[29,3] ty #[.slice (some ⟨g,0,none⟩) i n, .int .i64 ((n:Int)+1-(i:Int))]).run Tryz.prog w =
  .ok (.slice (some ⟨w.heap.size,0,none⟩) (n+1) G) (w.drew.alloc (.cells ROW 75)):=fun ty=>by
  have h:=run_append_grow_zeros w 29 3 ty 75 KI _ .i64 .i64 Tryz.underlying29 Tryz.underlying3 hki kz (some ⟨g,0,none⟩) i n (xs.take (i*5)) hold (n+1-i) (by omega) (by rw[ks];decide) (by omega) (by omega) (by rw[kb];omega)
   (by rw[hik];exact growslice_fits (by omega) (by rw[kb];omega))
  rw[hik]at h
  rw[show(n:Int)+1-(i:Int)=((n+1-i:Nat):Int) by omega,hROW,hG]
  exact h
 have hRs:ROW.size=G*5:=by
  rw[hROW]
  simp only[Array.size_append,List.size_toArray,List.length_take,size_zeroCells,hxl]
  rw[← hG,show KZ.cells.size=5 from rfl]
  omega
 obtain⟨W1,hW1⟩:∃ W1,W1=w.drew.alloc (.cells ROW 75):=⟨_,rfl⟩
 rw[← hW1]at hrz ⊢
 have hh:W1.heap[w.heap.size]?=some (.cells ROW 75 (0,0)):=by rw[hW1];exact heap_alloc_new w.drew _
 have hho:∀ b,b<w.heap.size→W1.heap[b]?=w.heap[b]?:=fun b hb=>by rw[hW1];exact heap_alloc_old w.drew _ hb
 have hcpA:∀ ty dc,(Builtin.copy_ #[29,29] ty #[.slice (some ⟨w.heap.size,i*5,none⟩) (n+1-i) dc, .slice (some ⟨vb,vo,none⟩) 1 vc]).run Tryz.prog W1 = .ok (goInt (Nat.min 1 (n+1-i))) (W1.setRow w.heap.size RA):=fun ty dc=>by
  rw[hRA]
  exact xN W1 29 29 ty 75 KI w.heap.size (i*5) (n+1-i) dc ⟨vb,vo,none⟩ 1 vc ROW 75 news Tryz.underlying29 hki hh
   (by rw[hl,ks];simp only[Nat.min_def];split<;>omega) (fun j v hj=>by
    rw[add_lit,← hnews j v hj]
    exact World.cell?_of_block (hho vb hvw)) (by rw[hRs,hl];omega) h1
 have hRAs:RA.size=G*5:=by rw[hRA];simp only[List.size_toArray,List.length_append,List.length_take,List.length_drop,Array.length_toList,hl,hRs];omega
 obtain⟨W2,hW2⟩:∃ W2,W2=W1.setRow w.heap.size RA:=⟨_,rfl⟩
 rw[← hW2]at hcpA ⊢
 have hh2:W2.heap[w.heap.size]?=some (.cells RA 75 (0,0)):=by rw[hW2];exact setRow_heap W1 _ ROW _ 75 _ hh
 have hg2:W2.heap[g]?=some (.cells cur e' (0,0)):=by
  rw[hW2,setRow_other W1 w.heap.size g _ (by omega),hho g hgw]
  exact hg
 have hcpB:∀ ty dc sc,(Builtin.copy_ #[29,29] ty #[.slice (some ⟨w.heap.size,(i+1)*5,none⟩) (n-i) dc, .slice (some ⟨g,i*5,none⟩) (n-i) sc]).run Tryz.prog W2.drew = .ok (goInt (Nat.min (n-i) (n-i)))
  (W2.drew.setRow w.heap.size (RA.toList.take ((i+1)*5)++xs.drop (i*5)++RA.toList.drop ((i+1)*5+(xs.drop (i*5)).length)).toArray):=fun ty dc sc =>
  xN W2.drew 29 29 ty 75 KI w.heap.size ((i+1)*5) (n-i) dc ⟨g,i*5,none⟩ (n-i) sc RA 75 (xs.drop (i*5)) Tryz.underlying29 hki hh2
   (by rw[hdl,ks];congr 1;simp only[Nat.min_def];split<;>omega) (fun j v hj=>hxc W2.drew hg2 _ j v hj) (by rw[hdl,hRAs];omega) (fun v hv=>hx1 v (List.mem_of_mem_drop hv))
 obtain⟨RB,hRB⟩:∃ RB,RB=(RA.toList.take ((i+1)*5)++xs.drop (i*5)++RA.toList.drop ((i+1)*5+(xs.drop (i*5)).length)).toArray:=⟨_,rfl⟩
 rw[← hRB]at hcpB ⊢
 rw[← hG]
 have hz2:¬ ((i:Int)=(n:Int)):=by omega
 have hw1:IntKind.i64.wrap ((i:Int)+1)=(i:Int)+1:=by rw[IntKind.wrap_i64];omega
 have hw2:IntKind.i64.wrap ((n:Int)+1)=(n:Int)+1:=by rw[IntKind.wrap_i64];omega
 have hw3:IntKind.i64.wrap ((n:Int)+1-(i:Int))=(n:Int)+1-(i:Int):=by rw[IntKind.wrap_i64];omega
 have hb1:(0:Int)≤(i:Int)+1:=by omega
 have hin:i≤n:=by omega
 have htn:((i:Int)+1).toNat=i+1:=by omega
 have hb2:¬ (G=i+1):=by omega
 have hb3:(i:Int)≤(n:Int)+1:=by omega
 have hb4:¬ (G=i):=by omega
 have hb5:¬ (n=i):=by omega
 have hgt:(n:Int)<(n:Int)+1:=by omega
 clear hRB hW2 hW1 hROW hRA hG hxc hold hcs hh hho hh2 hg2 hRAs hRs
 have mixed:Tryz.prog.follows .mixedOrders=true:=by kernel_rfl
 go_enter Tryz.func81,Tryz.ntmps81
 go_wp2_with (first
  |(at_builtin;refine Lib.wpList_append_run _ rfl _ _ _ _ rfl _ _ rfl rfl _ _ (hrz _) ?_)
  |(at_builtin;refine aIL _ rfl rfl rfl rfl (hcpA _ _) ?_))
 trace_state
 go_region_law_o (refine aNW rfl rfl (v := .slice (some ⟨w.heap.size,(i+1)*5,none⟩) (n-i) (G-(i+1))) (u := .slice (some ⟨g,i*5,none⟩) (n-i) (n-i)) ?_ ?_ (hcpB _ _ _) ?_)
 go_wp2
 go_ret
 exact⟨rfl,rfl⟩
theorem ins_all:Ins Tryz.prog 81 5:=by
 intro w v n i xs news hown hin hn hx1 vb vo vc hnews hl h1 hvb
 by_cases hi:i=n
 ·subst hi
  refine(ins_end w v i xs news hown vb vo vc hnews hl h1 hn).mono fun e w' h=>?_
  rw[← hown.length,List.take_length,List.drop_length,List.append_nil]
  exact h
 have hi:i<n:=by omega
 have hxl:xs.length=n*5:=hown.length
 rcases hown.cases with⟨a0,rfl,rfl,_⟩|⟨g,cap,cur,e',rfl,hg,hc,hcm,hcs,htake,hc0⟩
 ·omega
 have hcl:cur.toList.length=cap*5:=by rw[Array.length_toList];exact hcs
 obtain⟨c0,rfl⟩:∃ c0,cap=c0+1:=⟨cap-1,by omega⟩
 have hgb:∀ m,gE (.slice (some ⟨g,0,none⟩) m (c0+1))=some g:=fun m=>rfl
 by_cases hroom:n+1≤c0+1
 ·refine(ins_room w g n (c0+1) i cur e' hg hi hroom hcm hcs vb vo vc xs news htake (fun h=>hvb (by rw[h];rfl)) hx1 hnews hl h1 hn _ rfl).mono fun e w' h=>?_
  obtain⟨rfl,rfl⟩:=h
  obtain⟨R1,hR1⟩:∃ R1,R1=(cur.toList.take ((i+1)*5)++xs.drop (i*5)++cur.toList.drop ((i+1)*5+(xs.drop (i*5)).length)).toArray:=⟨_,rfl⟩
  rw[← hR1]
  have hR1s:R1.size=cur.size:=by rw[hR1];simp only[List.size_toArray,List.length_append,List.length_take,List.length_drop,hcl,hxl,hcs];omega
  have hg1:(w.drew.setRow g R1).heap[g]?=some (.cells R1 e' (0,0)):=setRow_heap w.drew g cur _ e' _ hg
  refine⟨_,rfl, .inl ⟨e',?_, .inr ⟨g,c0+1,_,rfl,Nat.zero_le _,setRow_heap _ g R1 _ e' _ hg1,hroom,hcm,?_,?_⟩⟩,?_,fun b hb hne=>?_,fun b hb => .inl (by rw[hgb]at hb ⊢;exact hb)⟩
  ·simp only[List.length_append,List.length_take,List.length_drop,hl,hxl];omega
  ·simp only[List.size_toArray,List.length_append,List.length_take,List.length_drop,Array.length_toList,hl,hR1s,hcs]
   omega
  ·rw[hl,show(n+1)*5=n*5+5 by omega]
   refine aJU cur.toList xs news (cur.toList.drop ((i+1)*5+(xs.drop (i*5)).length)) R1.toList (i*5) (n*5) 5 htake (by omega) (by rw[hcl];omega) hl (by rw[hR1,show(i+1)*5=i*5+5 by omega]) hxl
  ·exact(show Gr w w.drew from⟨Nat.le_refl _,rfl,rfl⟩).trans ((Gr.setRow _ _ _).trans (Gr.setRow _ _ _))
  ·have hbg:b≠g:=fun h=>hne (by rw[h];rfl)
   rw[setRow_other _ g b _ hbg,setRow_other _ g b _ hbg]
   rfl
 ·have hcn:c0+1=n:=by omega
  rw[hcn]at hcs hcl hvb ⊢
  have hxs:cur.toList=xs:=by rw[← htake,← hcl];exact(List.take_length).symm
  refine(ins_grow w g n i cur e' hg hi hcs vb vo vc xs news hxs hx1 hnews hl h1 hn _ _ rfl rfl).mono fun e w' h=>?_
  obtain⟨rfl,rfl⟩:=h
  obtain⟨G,hG⟩:∃ G,G=grownCap w (n+1) n 75:=⟨_,rfl⟩
  have hGn:n+1≤G:=by rw[hG];exact grownCap_ge w _ _ _
  have hGm:G≤maxLen:=by rw[hG];exact grownCap_le_maxLen w (n+1) n 75 (by unfold maxLen;omega)
  rw[← hG]
  obtain⟨ROW,hROW⟩:∃ ROW,ROW=(xs.take (i*5)).toArray++Builtin.zeroCells KZ.cells (n+1-i)++Builtin.zeroCells KZ.cells (G-(n+1)):=⟨_,rfl⟩
  rw[← hROW]
  have hRs:ROW.size=G*5:=by
   rw[hROW]
   simp only[Array.size_append,List.size_toArray,List.length_take,size_zeroCells,hxl]
   rw[show KZ.cells.size=5 from rfl]
   omega
  obtain⟨RA,hRA⟩:∃ RA,RA=(ROW.toList.take (i*5)++news++ROW.toList.drop (i*5+news.length)).toArray:=⟨_,rfl⟩
  rw[← hRA]
  have hRAs:RA.size=G*5:=by rw[hRA];simp only[List.size_toArray,List.length_append,List.length_take,List.length_drop,Array.length_toList,hl,hRs];omega
  have hh:(w.drew.alloc (.cells ROW 75)).heap[w.heap.size]?=some (.cells ROW 75 (0,0)):=heap_alloc_new w.drew _
  have hh2:((w.drew.alloc (.cells ROW 75)).setRow w.heap.size RA).drew.heap[w.heap.size]?=some (.cells RA 75 (0,0)):=setRow_heap _ _ ROW _ 75 _ hh
  have hss:∀ (W:World) b R,(W.setRow b R).heap.size=W.heap.size:=fun W b R=>by simp[World.setRow]
  have hsz:∀ R,(((w.drew.alloc (.cells ROW 75)).setRow w.heap.size RA).drew.setRow w.heap.size R).heap.size=w.heap.size+1:=fun R=>by
   rw[hss]
   show((w.drew.alloc (.cells ROW 75)).setRow w.heap.size RA).heap.size=_
   rw[hss]
   show(w.heap.push (.cells ROW 75)).size=_
   simp
  refine⟨_,rfl, .inl ⟨75,?_, .inr ⟨w.heap.size,G,_,rfl,Nat.zero_le _,setRow_heap _ _ RA _ 75 _ hh2,hGn,hGm,?_,?_⟩⟩,?_,fun b hb hne=>?_,fun b hb => .inr ?_⟩
  ·simp only[List.length_append,List.length_take,List.length_drop,hl,hxl];omega
  ·simp only[List.size_toArray,List.length_append,List.length_take,List.length_drop,Array.length_toList,hxl,hRAs]
   omega
  ·rw[show(n+1)*5=n*5+5 by omega,show(i+1)*5=i*5+5 by omega]
   refine aJV xs news (xs.take (i*5)) ((Builtin.zeroCells KZ.cells (n+1-i)).toList++(Builtin.zeroCells KZ.cells (G-(n+1))).toList) (ROW.toList.drop (i*5+news.length)) RA.toList ROW.toList (i*5) (n*5) 5 hxl (by omega) hl rfl
    (by rw[hROW];simp only[Array.toList_append,List.append_assoc]) (by rw[hRA]) _
  ·exact⟨by rw[hsz];exact Nat.le_succ _,rfl,rfl⟩
  ·have hbg:b≠w.heap.size:=by omega
   rw[setRow_other _ _ b _ hbg]
   show((w.drew.alloc (.cells ROW 75)).setRow w.heap.size RA).heap[b]?=_
   rw[setRow_other _ _ b _ hbg]
   exact heap_alloc_old w.drew _ hb
  ·have hb':=aBw hb
   have hb':some w.heap.size=some b:=hb'
   cases hb'
   exact⟨Nat.le_refl _,by rw[hsz];exact Nat.lt_succ_self _⟩
end Go.Proofs.YtdkfmakllhlbpaaGreat.fnSends
