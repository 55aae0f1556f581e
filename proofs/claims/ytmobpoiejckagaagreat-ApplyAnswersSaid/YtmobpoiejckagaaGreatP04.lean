/- Part 5 of a proof: ApplyAnswers -/
import Derived.Test.YtmobpoiejckagaaGreatChecked
import Derived.Tactics
import Derived.Tactics2
import Derived.Test.YtmobpoiejckagaaGreatP03
set_option linter.constructorNameAsVariable false
set_option linter.unusedVariables false
set_option linter.unusedSimpArgs false
set_option linter.unusedSectionVars false
open Go.IntKind (i64)
noncomputable section
namespace Go.Proofs.YtmobpoiejckagaaGreat
open Go Tw Go.Shelf
def a4K:Go.Shelf.Ren:=⟨fun| 189=>137| 125=>180| 257=>179| 128=>216| 129=>217| 294=>207| 295=>208| 296=>209| 297=>210| 298=>211| 299=>212| 216=>213| 300=>214| 301=>215| 328=>229| 329=>230| 330=>231| 331=>232| 332=>233| 215=>219| 343=>235|n=>n,fun| 28=>22| 3=>3| 46=>184| 0=>0| 51=>204| 53=>207| 4=>4| 183=>212| 182=>211| 131=>152| 5=>5| 9=>9| 218=>227| 222=>231| 228=>233| 229=>192|n=>n,fun|n=>n⟩
theorem adG:Lays.n189 Tryz.prog a4K where
 mixed:=by kernel_rfl
 f125:=Tryz.func180.trans (congrArg some (by kernel_rfl))
 f128:=Tryz.func216.trans (congrArg some (by kernel_rfl))
 f129:=Tryz.func217.trans (congrArg some (by kernel_rfl))
 f189:=Tryz.func137.trans (congrArg some (by kernel_rfl))
 f215:=Tryz.func219.trans (congrArg some (by kernel_rfl))
 f216:=Tryz.func213.trans (congrArg some (by kernel_rfl))
 f257:=Tryz.func179.trans (congrArg some (by kernel_rfl))
 f294:=Tryz.func207.trans (congrArg some (by kernel_rfl))
 f295:=Tryz.func208.trans (congrArg some (by kernel_rfl))
 f296:=Tryz.func209.trans (congrArg some (by kernel_rfl))
 f297:=Tryz.func210.trans (congrArg some (by kernel_rfl))
 f298:=Tryz.func211.trans (congrArg some (by kernel_rfl))
 f299:=Tryz.func212.trans (congrArg some (by kernel_rfl))
 f300:=Tryz.func214.trans (congrArg some (by kernel_rfl))
 f301:=Tryz.func215.trans (congrArg some (by kernel_rfl))
 f328:=Tryz.func229.trans (congrArg some (by kernel_rfl))
 f329:=Tryz.func230.trans (congrArg some (by kernel_rfl))
 f330:=Tryz.func231.trans (congrArg some (by kernel_rfl))
 f331:=Tryz.func232.trans (congrArg some (by kernel_rfl))
 f332:=Tryz.func233.trans (congrArg some (by kernel_rfl))
 f343:=Tryz.func235.trans (congrArg some (by kernel_rfl))
 t0:=Tryz.underlying0
 a0:=Tryz.isAgg0
 z0:=Tryz.sizeOf0
 v0:=Tryz.zeroValue0
 t3:=Tryz.underlying3
 a3:=Tryz.isAgg3
 z3:=Tryz.sizeOf3
 v3:=Tryz.zeroValue3
 t4:=Tryz.underlying4
 a4:=Tryz.isAgg4
 z4:=Tryz.sizeOf4
 v4:=Tryz.zeroValue4
 t5:=Tryz.underlying5
 a5:=Tryz.isAgg5
 z5:=Tryz.sizeOf5
 v5:=Tryz.zeroValue5
 t9:=Tryz.underlying9
 a9:=Tryz.isAgg9
 z9:=Tryz.sizeOf9
 v9:=Tryz.zeroValue9
 t28:=Tryz.underlying22
 a28:=Tryz.isAgg22
 z28:=Tryz.sizeOf22
 v28:=Tryz.zeroValue22
 t46:=Tryz.underlying184
 a46:=Tryz.isAgg184
 z46:=Tryz.sizeOf184
 v46:=Tryz.zeroValue184
 t51:=Tryz.underlying204
 a51:=Tryz.isAgg204
 z51:=Tryz.sizeOf204
 v51:=Tryz.zeroValue204
 t53:=Tryz.underlying207
 a53:=Tryz.isAgg207
 z53:=Tryz.sizeOf207
 v53:=Tryz.zeroValue207
 t131:=Tryz.underlying152
 a131:=Tryz.isAgg152
 z131:=Tryz.sizeOf152
 v131:=Tryz.zeroValue152
 t182:=Tryz.underlying211
 a182:=Tryz.isAgg211
 z182:=Tryz.sizeOf211
 v182:=Tryz.zeroValue211
 t183:=Tryz.underlying212
 a183:=Tryz.isAgg212
 z183:=Tryz.sizeOf212
 v183:=Tryz.zeroValue212
 t218:=Tryz.underlying227
 a218:=Tryz.isAgg227
 z218:=Tryz.sizeOf227
 v218:=Tryz.zeroValue227
 t222:=Tryz.underlying231
 a222:=Tryz.isAgg231
 z222:=Tryz.sizeOf231
 v222:=Tryz.zeroValue231
 t228:=Tryz.underlying233
 a228:=Tryz.isAgg233
 z228:=Tryz.sizeOf233
 v228:=Tryz.zeroValue233
 t229:=Tryz.underlying192
 a229:=Tryz.isAgg192
 z229:=Tryz.sizeOf192
 v229:=Tryz.zeroValue192
open Go.RowKit Go.Lib Go.Proofs
section
variable{P:LI1}
theorem qH(w dT sT ty elem b o dLen dCap a sLen sCap cs sz k)(hu:P.underlying dT=some (.slice elem)) (hs:(P.info? elem).map (·.size)=some sz) (hk:Nat.min sLen dLen=k) (hn:cs.length=k*sz)(lG:∀j v,cs[j]? = some v->w.cell? (a.add j)=some v) (hc:∀j,j<cs.length->(w.cell? ⟨b,o+j,none⟩).isSome=true) (hf:∀j,j<cs.length->w.frozen? ⟨b,o+j,none⟩=false) (h1:∀v∈cs,v.oneCell'=true) :(Builtin.copy_ #[dT,sT] ty #[.slice (some ⟨b,o,none⟩) dLen dCap,.slice (some a) sLen sCap]).run P w=.ok (goInt k) (w.setCells b o cs):=by
 have hl:=run_loadCells_list (P:=P) w a cs lG;have vK:=run_storeCells_cells (P:=P) b o cs 0 w (by simpa using hc) (by simpa using hf) h1;cases hq:P.info? elem with
 |none=>simp[hq]at hs
 |some i=>
  have hi:i.size=sz:=by simpa[hq]using hs
  rw[hn]at hl;simp[Builtin.copy_,run_underlying hu,Builtin.lenOf,Builtin.firstCells,sizeOf,typeInfo,hq,hi,hk,hl,vK]
end
set_option maxHeartbeats 4000000 in
set_option maxRecDepth 100000 in
theorem a0N(b n c vb rC vc cs vs w)(hn:0<n)(xG:n+1<=c)(akw:c<=9223372036854775807)(hvb:vb≠b)(nP:cs.length=n*5) (hvl:vs.length=5)(JW:∀j v,cs[j]? = some v->w.cell? ⟨b,j,none⟩=some v) (hsp:∀j,j<(n+1)*5->(w.cell? ⟨b,j,none⟩).isSome=true) (hfz:∀j,j<(n+1)*5->w.frozen? ⟨b,j,none⟩=false)(RS:∀j v,vs[j]? = some v->w.cell? ⟨vb,rC+j,none⟩=some v) (h1c:∀v∈cs,v.oneCell'=true) (h1v:∀v∈vs,v.oneCell'=true)(tA tB kA kB) (hsa:w.shape? vb=some (tA,kA)) (hsb:w.shape? b=some (tB,kB)) (hkB:kB≠0) (hfa:w.frozen? ⟨vb,rC,none⟩=false) (hfe:w.frozen? ⟨vb,kA,none⟩=false) :Calls Tryz.prog 118 #[.slice (some ⟨b,0,none⟩) n c,.int .i64 0,.slice (some ⟨vb,rC,none⟩) 1 vc] w fun e w'=> e=.returned (.slice (some ⟨b,0,none⟩) (n+1) c)/\w'=(w.drew.setCells b 5 cs).setCells b 0 vs:=by
 have qV:(Tryz.prog.info? 26).map (·.size)=some 5:=by kernel_rfl
 have hov:∀lb cb,(callFunc 170 #[.slice (some ⟨vb,rC,none⟩) 1 vc,.slice (some ⟨b,5,none⟩) lb cb]).run Tryz.prog w=.ok (.value (.bool false)) w:=fun lb cb=>by
  rw[run_callFunc_extern Tryz.func170 (by kernel_rfl) (by kernel_rfl) (by kernel_rfl) (e:=Extern.SlicesOverlaps.overlaps #[56,56] #[4]) (by kernel_rfl),
   Lib.run_overlaps_apart w 56 4 26 Tryz.underlying56 5 Tryz.sizeOf26 ⟨vb,rC,none⟩ ⟨b,5,none⟩ 1 vc lb cb hvb tA tB kA kB hsa hsb hkB hfa hfe]
  rfl
 have hz2:¬((0:Int)=(n:Int)):=by omega
 have aky:∀ty dc sc,(Builtin.copy_ #[56,56] ty #[.slice (some ⟨b,5,none⟩) n dc,.slice (some ⟨b,0,none⟩) (n+1) sc]).run Tryz.prog w.drew=.ok (goInt n) (w.drew.setCells b 5 cs):=fun ty dc sc=>
  qH w.drew _ _ ty 26 b 5 n dc ⟨b,0,none⟩ (n+1) sc cs 5 n Tryz.underlying56 qV (by simp only[Nat.min_def];split<;>omega) nP
   (fun j v hj=>by rw[Addr.add_lit,a3L];exact JW j v hj)
   (fun j hj=>hsp _ (by omega)) (fun j hj=>hfz _ (by omega)) h1c
 obtain⟨W1,hW1⟩:∃W1,W1=w.drew.setCells b 5 cs:=⟨_,rfl⟩;have aqD:∀k,k<(n+1)*5->(W1.cell? ⟨b,k,none⟩).isSome=true:=fun k hk=>by rw[hW1];exact isSome_setCells b cs 5 w.drew (fun j hj=>hsp (5+j) (by omega)) k (hsp k hk)
 have aqE:∀(W:LI4),(∀x,W.cell? x=W1.cell? x)->(∀x,W.frozen? x=W1.frozen? x)->∀ty dc,(Builtin.copy_ #[56,56] ty #[.slice (some ⟨b,0,none⟩) (n+1) dc,.slice (some ⟨vb,rC,none⟩) 1 vc]).run Tryz.prog W=.ok (goInt 1) (W.setCells b 0 vs):=fun W hWc hWf ty dc=>
  qH W _ _ ty 26 b 0 (n+1) dc ⟨vb,rC,none⟩ 1 vc vs 5 1 Tryz.underlying56 qV (by simp only[Nat.min_def];split<;>omega) (by omega)
   (fun j v hj=>by rw[Addr.add_lit,hWc,hW1,World.cell?_setCells_out b _ _ _ _ (fun h _=>absurd h hvb)];exact RS j v hj)
   (fun j hj=>by rw[hWc];exact aqD _ (by omega)) (fun j hj=>by rw[hWf,hW1,World.frozen?_setCells];exact hfz _ (by omega)) h1v
 rw[<-hW1]at aky;have hw1:i64.wrap ((n:Int)+1)=(n:Int)+1:=by rw[IntKind.wrap_i64];omega
 have mixed:Tryz.prog.follows .mixedOrders=true:=by kernel_rfl
 have hw3:i64.wrap 1=1:=by decide
 have CV:(1:Int)<=(n:Int)+1:=by omega
 have hb3:(0:Int)<=(n:Int)+1:=by omega
 have hc1:¬(c=1):=by omega
 have hc0:¬(c=0):=by omega
 go_enter Tryz.func118,Tryz.ntmps118
 go_wp2_with (simp only[hov])
 go_region_law_o (refine step_copy_runI rfl _ _ 56 56 rfl _ _ (by simp[Act.eval,Act.put]) (by simp[Act.eval,Act.put]) (aky _ _ _) ?_)
 go_wp2_with (at_builtin;refine wpList_copy_runI _ rfl _ _ 56 56 rfl _ _ rfl rfl (aqE _ (fun _=>rfl) (fun _=>rfl) _ _) ?_)
 go_ret
 first|exact⟨rfl,rfl⟩|exact⟨rfl,by rw[hW1]⟩
abbrev Qz:LI3:=.agg #[.slice none 0 0,.slice none 0 0,.slice none 0 0,.slice none 0 0,.int .i64 0]
theorem a8i:(Tryz.prog.info? 26).map (fun i=>(i.zero,i.size,i.bytes))=some (some Qz,5,104):=by kernel_rfl
set_option maxHeartbeats 4000000 in
set_option maxRecDepth 100000 in
theorem a4L(b n c vb rC vc cs vs w)(hn:0<n)(hnc:n<=c)(xG:c<n+1)(FP:n<=2^20)(nP:cs.length=n*5) (hvl:vs.length=5)(JW:∀j v,cs[j]? = some v->w.cell? ⟨b,j,none⟩=some v)(RS:∀j v,vs[j]? = some v->w.cell? ⟨vb,rC+j,none⟩=some v) (h1c:∀v∈cs,v.oneCell'=true) (h1v:∀v∈vs,v.oneCell'=true) :Calls Tryz.prog 118 #[.slice (some ⟨b,0,none⟩) n c,.int .i64 0,.slice (some ⟨vb,rC,none⟩) 1 vc] w fun e w'=> e=.returned (.slice (some ⟨w.heap.size,0,none⟩) (n+1) (grownCap w (n+1) c 26)) /\w'=(((w.alloc (.cells (Builtin.zeroCells Qz.cells (n+1)++Builtin.zeroCells Qz.cells (grownCap w (n+1) c 26-(n+1))) 26)).drew.setCells w.heap.size 0 vs).drew).setCells w.heap.size 5 cs:=by
 obtain⟨i0,hi0,hz0,hzs,hzb⟩:=info_parts a8i;have hz2:¬((0:Int)=(n:Int)):=by omega
 have hz3:(c:Int)<(n:Int)+1:=by omega
 have qV:(Tryz.prog.info? 26).map (·.size)=some 5:=by kernel_rfl
 have hbw:b<w.heap.size:=block_lt_of_cell (JW 0 _ (a0Q (by omega)));have hvw:vb<w.heap.size:=block_lt_of_cell (RS 0 _ (a0Q (by omega)));have hold:(Builtin.firstCells i0.size 0 (.slice (some ⟨b,0,none⟩) 0 c)).run Tryz.prog w.drew=.ok ([]:List LI3).toArray w.drew:=by rw[hzs];exact run_firstCells_some w.drew 5 0 ⟨b,0,none⟩ 0 c [] (by simp) (fun j v hj=>by simp at hj)
 have hrz:∀ty,(Builtin.append_ #[56,3] ty #[.slice (some ⟨b,0,none⟩) 0 c,.int .i64 ((n:Int)+1)]).run Tryz.prog w =
   .ok (.slice (some ⟨w.heap.size,0,none⟩) (n+1) (grownCap w (n+1) c 26)) (w.drew.alloc (.cells (Builtin.zeroCells Qz.cells (n+1)++Builtin.zeroCells Qz.cells (grownCap w (n+1) c 26-(n+1))) 26)):=fun ty=>by
  have h:=Lib.run_append_grow_zeros w 56 3 ty 26 i0 _ .i64 .i64 Tryz.underlying56 Tryz.underlying3 hi0 hz0 (some ⟨b,0,none⟩) 0 c [] hold (n+1) (by omega) (by rw[hzs];omega) (by omega) (by omega) (by rw[hzb];omega) (by rw[hzb,a3L];exact growslice_fits xG (by omega));rw[a3L]at h;simpa using h
 obtain⟨G,hG⟩:∃G,G=grownCap w (n+1) c 26:=⟨_,rfl⟩;obtain⟨ROW,hROW⟩:∃ROW:Array LI3,ROW=Builtin.zeroCells Qz.cells (n+1)++Builtin.zeroCells Qz.cells (G-(n+1)):=⟨_,rfl⟩;rw[<-hG]at hrz ⊢;rw[<-hROW]at hrz ⊢;have hRl:(n+1)*5<=ROW.size:=by rw[hROW];simp[Builtin.zeroCells,Value.cells]
 obtain⟨W1,hW1⟩:∃W1,W1=w.drew.alloc (.cells ROW 26):=⟨_,rfl⟩;rw[<-hW1]at hrz;have hN:∀j,j<(n+1)*5->(W1.cell? ⟨w.heap.size,j,none⟩).isSome=true:=fun j hj=>by rw[hW1,World.cell?_alloc_at (w:=w.drew) ROW _ w.heap.size j rfl,a4o (by omega)];rfl
 have hNf:∀j,W1.frozen? ⟨w.heap.size,j,none⟩=false:=fun j=>by rw[hW1];exact World.frozen?_alloc_at (w:=w.drew) ROW _ w.heap.size j rfl
 have hOb:∀j v,w.cell? ⟨b,j,none⟩=some v->W1.cell? ⟨b,j,none⟩=some v:=fun j v h=>by rw[hW1,World.cell?_alloc_past (w:=w.drew) _ b j hbw];exact h
 have hOv:∀j v,w.cell? ⟨vb,j,none⟩=some v->W1.cell? ⟨vb,j,none⟩=some v:=fun j v h=>by rw[hW1,World.cell?_alloc_past (w:=w.drew) _ vb j hvw];exact h
 have aqF:∀(W:LI4),(∀x,W.cell? x=W1.cell? x)->(∀x,W.frozen? x=W1.frozen? x)->∀ty dc,(Builtin.copy_ #[56,56] ty #[.slice (some ⟨w.heap.size,0,none⟩) (n+1) dc,.slice (some ⟨vb,rC,none⟩) 1 vc]).run Tryz.prog W=.ok (goInt 1) (W.setCells w.heap.size 0 vs):=fun W hWc hWf ty dc=>
  qH W _ _ ty 26 w.heap.size 0 (n+1) dc ⟨vb,rC,none⟩ 1 vc vs 5 1 Tryz.underlying56 qV (by simp only[Nat.min_def];split<;>omega) (by omega)
   (fun j v hj=>by rw[Addr.add_lit,hWc];exact hOv _ v (RS j v hj))
   (fun j hj=>by rw[hWc];exact hN _ (by omega)) (fun j hj=>by rw[hWf];exact hNf _) h1v
 have hGn:n+1<=G:=by rw[hG];exact grownCap_ge w _ _ _
 have awI:G<=9223372036854775807:=by have:=grownCap_le_maxLen w (n+1) c 26 (by unfold maxLen;omega);rw[<-hG]at this;unfold maxLen at this;omega
 have hG0:¬(G=0):=by omega
 have hG1:¬(G=1):=by omega
 have hc0:¬(c=0):=by omega
 have hbN:b≠w.heap.size:=by omega
 have akA:∀(W:LI4),(∀x,W.cell? x=(W1.setCells w.heap.size 0 vs).cell? x)->(∀x,W.frozen? x=(W1.setCells w.heap.size 0 vs).frozen? x)->∀ty dc sc,(Builtin.copy_ #[56,56] ty #[.slice (some ⟨w.heap.size,5,none⟩) n dc,.slice (some ⟨b,0,none⟩) n sc]).run Tryz.prog W=.ok (goInt n) (W.setCells w.heap.size 5 cs):=fun W hWc hWf ty dc sc=>
  qH W _ _ ty 26 w.heap.size 5 n dc ⟨b,0,none⟩ n sc cs 5 n Tryz.underlying56 qV (by simp only[Nat.min_def];split<;>omega) nP
   (fun j v hj=>by rw[Addr.add_lit,hWc,World.cell?_setCells_out _ _ _ _ _ (fun h _=>absurd h hbN),a3L];exact hOb _ v (JW j v hj))
   (fun j hj=>by rw[hWc];exact isSome_setCells _ _ _ _ (fun t ht=>hN _ (by omega)) _ (hN _ (by omega)))
   (fun j hj=>by rw[hWf,World.frozen?_setCells];exact hNf _) h1c
 subst hW1;have hE1:∀x,((w.alloc (.cells ROW 26)).drew).cell? x=(w.drew.alloc (.cells ROW 26)).cell? x:=fun x=>rfl;have hE2:∀x,((w.alloc (.cells ROW 26)).drew).frozen? x=(w.drew.alloc (.cells ROW 26)).frozen? x:=fun x=>rfl;have hF1:∀x,(((w.alloc (.cells ROW 26)).drew.setCells w.heap.size 0 vs).drew).cell? x=((w.drew.alloc (.cells ROW 26)).setCells w.heap.size 0 vs).cell? x:=fun x=>rfl;have hF2:∀x,(((w.alloc (.cells ROW 26)).drew.setCells w.heap.size 0 vs).drew).frozen? x=((w.drew.alloc (.cells ROW 26)).setCells w.heap.size 0 vs).frozen? x:=fun x=>rfl;have hw1:i64.wrap ((n:Int)+1)=(n:Int)+1:=by rw[IntKind.wrap_i64];omega
 have hw3:i64.wrap 1=1:=by decide
 have mixed:Tryz.prog.follows .mixedOrders=true:=by kernel_rfl
 have CV:(1:Int)<=(n:Int)+1:=by omega
 have hb3:(0:Int)<=(n:Int)+1:=by omega
 clear hold hROW hG hRl
 go_enter Tryz.func118,Tryz.ntmps118
 go_wp2_with (first
  |(at_builtin;refine Lib.wpList_append_run _ rfl _ _ _ _ rfl _ _ rfl rfl _ _ (hrz _) ?_)
  |(at_builtin;refine wpList_copy_runI _ rfl _ _ 56 56 rfl _ _ rfl rfl (aqF _ hE1 hE2 _ _) ?_)
  |(at_builtin;refine wpList_copy_runI _ rfl _ _ 56 56 rfl _ _ rfl rfl (akA _ (fun _=>rfl) (fun _=>rfl) _ _ _) ?_))
 go_region_law_o (refine step_copy_runI rfl _ _ 56 56 rfl (.slice (some ⟨w.heap.size,5,none⟩) n (G-1)) (.slice (some ⟨b,0,none⟩) n c) (by simp[Act.eval,Act.put]) (by simp[Act.eval,Act.put]) (akA _ hF1 hF2 3 (G-1) c) ?_)
 go_wp2
 go_ret
 exact⟨rfl,rfl⟩
set_option maxHeartbeats 4000000 in
set_option maxRecDepth 100000 in
theorem a8j(base vb rC vc)(vs:List LI3)(w)(hvl:vs.length=5)(RS:∀j v,vs[j]? = some v->w.cell? ⟨vb,rC+j,none⟩=some v) (h1v:∀v∈vs,v.oneCell'=true) :Calls Tryz.prog 118 #[.slice base 0 0,.int .i64 0,.slice (some ⟨vb,rC,none⟩) 1 vc] w fun e w'=> e=.returned (.slice (some ⟨w.heap.size,0,none⟩) 1 (grownCap w 1 0 26)) /\w'=w.drew.alloc (.cells (vs.toArray++Builtin.zeroCells Qz.cells (grownCap w 1 0 26-1)) 26):=by
 have mixed:Tryz.prog.follows .mixedOrders=true:=by kernel_rfl
 obtain⟨i0,hi0,hz0,hzs,hzb⟩:=info_parts a8i;have lG:Src Tryz.prog i0.size 56 (.slice (some ⟨vb,rC,none⟩) 1 vc) 1 vs w:=by rw[hzs];exact Src.ofSlice w Tryz.underlying56 ⟨vb,rC,none⟩ 1 vc vs (by omega) (fun j u hj=>by rw[Addr.add_lit];exact RS j u hj) h1v
 have hold:(Builtin.firstCells i0.size 0 (.slice base 0 0)).run Tryz.prog w.drew=.ok ([]:List LI3).toArray w.drew:=by
  rw[hzs];cases base with
  |none=>exact run_firstCells_none w.drew 5 0 0 0
  |some a=>exact run_firstCells_some w.drew 5 0 a 0 0 [] (by simp) (fun j v hj=>by simp at hj)
 have uF:∀ty,(Builtin.append_ #[56,56] ty #[.slice base 0 0,.slice (some ⟨vb,rC,none⟩) 1 vc]).run Tryz.prog w=_:=fun ty=>
  run_append_grow_src w 56 56 ty 26 i0 _ Tryz.underlying56 hi0 hz0 base 0 0 [] hold _ 1 vs lG (by omega) (by omega) (by rw[hzb];exact growslice_fits (by omega) (by omega))
 go_enter Tryz.func118,Tryz.ntmps118
 cases base with
 |none=>
  go_wp2_with (at_builtin;refine Lib.wpList_append_run _ rfl _ _ _ _ rfl _ _ rfl rfl _ _ (uF _) ?_)
  go_ret
  exact⟨rfl,rfl⟩
 |some a=>
  obtain⟨ab,ao,asp⟩:=a
  go_wp2_with (at_builtin;refine Lib.wpList_append_run _ rfl _ _ _ _ rfl _ _ rfl rfl _ _ (uF _) ?_)
  all_goals (go_ret;exact⟨rfl,rfl⟩)
def Ny:dO
 |.fn f [] [],[d,.int .i64 0,.aO vb rC 1 akC 5 vex],h=>
  if f=118 then
   match h[vb]? with
   |some (.cells kv vcs)=>if kv=.ro\/(kv=.last/\rC+akC*5≠vcs.length)then none else
    match sub vcs rC 5 with
    |some vs=>match d with
     |.nil .aO=>some (.aO h.length 0 1 1 5 false,h++[.cells .own vs],[])
     |.aO b off n n' 5 ex=>if n=0 then(if n'=0/\ex=true then some (.aO h.length 0 1 1 5 false,h++[.cells .own vs],[])else none)else match h[b]? with
      |some (.cells k cs)=>if k≠.ro/\off=0/\n=n'/\cs.length=n*5/\n<=2^20/\vb≠b then some (.aO b 0 (n+1) (n+1) 5 false,h.set b (.cells .last (vs++cs)),[b])else none
      |_=>none
     |_=>none
    |_=>none
   |_=>none
  else none
 |_,_,_=>none
section
variable{P:LI1}
theorem QA{M w h}(hV:Valid M rU (lD h) w){b off len cap ex y}(hx:VR M.h (.aO b off len cap 5 ex) y)(h0:0<len){k cs r}(hb:h[b]? = some (.cells k cs))(hk:k≠.ro)(hl:k=.last->off+cap*5=cs.length) (hr:sub cs off (len*5)=some r) :∃ls p cap',M (.h b)=some (.cells ls)/\p∈ls/\y=.slice (some ⟨p.c,off,none⟩) len cap'/\len<=cap'/\cap<=cap'/\(ex=true->cap'=cap)/\off+cap*5<=p.ext/\off+cap'*5<=p.tot/\cap'<2^63/\JQ M.h w k cs p/\p.base=0/\(∀c∈cs,iO c=true) /\∃xs,bZ M.h r xs/\∀(j) (v),xs[j]? = some v->w.cell? ⟨p.c,off+j,none⟩=some v:=by
 cases hx with
 |aO hm hp yC hle uf hex ha abu=>
  rename_i ls p a cap';obtain⟨gQ,h1,h2⟩:=hV.ok _ _ hm trivial;have hg:lD h (.h b)=some (.cells k cs):=by simp[St.get,hb]
  rw[hg]at h1;cases h1;have hp:=hp.resolve_left (by omega);have AQ:=h2.2.1 p hp;have yu:=AQ.base hk;rcases ha with ha|⟨rfl,ha⟩
  .omega
  obtain⟨xs,g1,g2⟩:=AQ.slice hr (by omega) (fun e=>by have:=hl e;have:=AQ.ext;omega);rw[yu]at g2 ha ⊢;simp only[a3L]at g2 ha yC ⊢;exact⟨ls,p,cap',hm,hp,rfl,by omega,uf,hex,yC,ha,abu,AQ,yu,h2.1,xs,g1,g2⟩
theorem adI{M w w' h}(hV:Valid M rU (lD h) w)(vM:∀k,M (.l k)=none){b n k cs vs ls p}(hm:M (.h b)=some (.cells ls))(hb:h[b]? = some (.cells k cs))(hk:k≠.ro) (hp:p∈ls) (yC:p.ext=cs.length) (nP:cs.length=n*5) (hvl:vs.length=5) (vZ:∀c∈vs++cs,iO c=true) (g arr ty)(wz:w'.heap[g]? = some (.cells arr ty (0,0))) (RG:∀c,c<w.heap.size->c≠g->w'.heap[c]? = w.heap[c]?) (hg:(g=p.c/\arr.size=p.tot)\/g=w.heap.size)(qV:w.heap.size<=w'.heap.size) (ho:w'.os=w.os) (hou:w'.output=w.output) (ht:w'.tape=w.tape) {a4M} (uf:n+1<=a4M) (auA:a4M*5<=arr.size) (akw:a4M<2^63)(VZ:∀(i:Nat) (c) (x),(vs++cs)[i]? = some c->arr[i]? = some x->VR M.h c x) :jE M h w (.aO b 0 (n+1) (n+1) 5 false) (h.set b (.cells .last (vs++cs))) [b] (.slice (some ⟨g,0,none⟩) (n+1) a4M) w':=by
 have hl:(vs++cs).length=(n+1)*5:=by rw[a1B];omega
 obtain⟨M',q,h1,h2,⟨qw,h3,h4⟩,h5,h6,h7,h8⟩:=agB (s:=⟨[],[],h,[]⟩) (D:=rU) (new:=vs++cs) hV hm trivial hb hk hp yC vZ (by rw[a1B];omega) g arr ty wz RG hg qV ho hou ht (by omega) VZ;refine⟨M',h1,fun k=>?_,h2,?_⟩
 .rw[h2.kR (.l k) (.inr (by simp[St.get])) (by simp)];exact vM k
 .exact .aO (p:=q) h3 (.inr h4) (by rw[h5];omega) (a1l _) uf (fun e=>by cases e) (.inr ⟨by rw[h7,h6],by rw[h6,h8];omega⟩) akw
theorem abB:iM Tryz.prog Ny:=by
 intro fv args h v h' ws hc M w x xs hV vM hx GV;unfold Ny at hc;split at hc
 case h_2=>cases hc
 rename_i f d vb rC akC vex;split at hc
 case isFalse=>cases hc
 rename_i hf;subst hf;split at hc
 case h_2=>cases hc
 rename_i kv vcs hvb;split at hc
 .cases hc
 rename_i CZ;simp only[adl,not_and,Decidable.not_not]at CZ;split at hc
 case h_2=>cases hc
 rename_i vx lX;cases hx with
 | @fn _ _ _ ys zs h1 h1a h3 h3a=>
 have:ys=[]:=a4u h1.symm;subst this;have:zs=[]:=a4u h3.symm;subst this;obtain⟨dv,r1,rfl,hdv,GV⟩:=GV.iq;obtain⟨iv,r2,rfl,hiv,GV⟩:=GV.iq;obtain⟨sv,r3,rfl,hsv,GV⟩:=GV.iq;have:=GV.oO;subst this;cases hiv;obtain⟨lsv,pv,QB,m1,m2,rfl,m3,m4,_,m5,m6,m7,m8,m9,m10,Xf,m11,YC⟩:=QA hV hsv (by omega) hvb CZ.1 CZ.2 lX;have hvl:Xf.length=5:=by rw[<-m11.len];exact(o9 lX).2.2
 have hvx:vx.length=5:=(o9 lX).2.2;have a8k:∀c∈vx,iO c=true:=fun c FV=>m10 c (a6a (aaf (by rw[<-(o9 lX).2.1];exact FV)));have Xe:∀u∈Xf,u.oneCell'=true:=a2z m11 a8k;obtain⟨aqG,tyv,fzv,w1,w2,w3,_⟩:=m8.row;have:=w3 CZ.1;subst this;have enters:∀{R:LI3->LI4->Prop},Calls Tryz.prog 118 #[dv,.int .i64 0,.slice (some ⟨pv.c,rC,none⟩) 1 QB] w (Ko R) ->
   ∃d,(∀w,(Deferred.ofValue (.func (.func 118) [].toArray [].toArray) [dv,.int .i64 0,.slice (some ⟨pv.c,rC,none⟩) 1 QB].toArray).run Tryz.prog w=.ok d w)/\((EU Tryz.prog d w R/\∃f a b,(TV.fn 118 [] [])=.fn f a b)\/(Iw Tryz.prog d w R/\∃l,(TV.fn 118 [] [])=.lC l)):=by
  intro R KL;refine⟨{ target:=.fn (.func 118) #[],args:=#[dv,.int .i64 0,.slice (some ⟨pv.c,rC,none⟩) 1 QB] },fun w=>by simp[Deferred.ofValue],.inl ⟨⟨118,_,?_,fun n=>callsIn_wide.2 KL⟩,_,_,_,rfl⟩⟩;have e1:Tryz.prog.funcs[118]? = some Tryz.f118:=Tryz.func118;have e2 : ¬ (Tryz.f118.name = "runtime.NumGoroutine") := by decide +kernel
  obtain⟨c,e3⟩:∃c,Tryz.f118.body=some c:=⟨_,rfl⟩;simp[invoke,callFunc,program,Sem.run,e1,e2,e3]
 have fresh:∀{base:Option Addr},dv=.slice base 0 0->v=.aO h.length 0 1 1 5 false->h'=h++[.cells .own vx]->ws=[]->∃d,(∀w,(Deferred.ofValue (.func (.func 118) [].toArray [].toArray) [dv,.int .i64 0,.slice (some ⟨pv.c,rC,none⟩) 1 QB].toArray).run Tryz.prog w=.ok d w)/\((EU Tryz.prog d w (jE M h w v h' ws)/\∃f a b,(TV.fn 118 [] [])=.fn f a b)\/(Iw Tryz.prog d w (jE M h w v h' ws)/\∃l,(TV.fn 118 [] [])=.lC l)):=by
  rintro base rfl rfl rfl rfl;refine enters ?_;refine(a8j base pv.c rC QB Xf w hvl YC Xe).mono fun e w' ⟨he,hw⟩=>?_;subst he;subst hw;have hgl:=MV (w:=w) (need:=1) (old:=0) (e:=26) (by omega);have CU:=grownCap_ge (w:=w) (need:=1) (old:=0) (e:=26);obtain⟨M',hp⟩:=OU (s:=⟨[],[],h,[]⟩) (D:=rU) (size:=5) (len:=1) (cs:=vx) (pre:=Xf.toArray) (rest:=Builtin.zeroCells Qz.cells (grownCap w 1 0 26-1)) (e:=26) hV
   (by
    cases hq:M (.h h.length)with
    |none=>rfl
    |some l=>have:=hV.has hq;simp[St.get]at this)
   (by simpa using m11) a8k (by omega) CU hgl (by simp[Builtin.zeroCells,Value.cells])
  refine⟨M',⟨fun k l hk _=>hp.val.ok k l hk (.inl trivial),fun k k' l l' b a1 a2 a3 _=>hp.val.own k k' l l' b a1 a2 a3 (.inl trivial),hp.val.inb⟩,fun k=>?_,hp.ext,?_⟩
  .rw[hp.ext.kR (.l k) (.inr (by simp[St.get])) (by simp)];exact vM k
  .exact hp.er.uZ
 split at hc
 .-- nil
  simp only[a09,a1k]at hc;obtain⟨e1,e2,e3⟩:=hc;cases hdv;exact fresh rfl e1.symm e2.symm e3.symm
 .rename_i b off n n' ex;split at hc
  .-- an empty one
   rename_i Xt;split at hc
   case isFalse=>cases hc
   rename_i Gg;obtain⟨rfl,rfl⟩:=Gg;subst Xt;simp only[a09,a1k]at hc;obtain⟨e1,e2,e3⟩:=hc;cases hdv with
   |aO hm hp yC hle uf hex ha abu=>
    cases hex rfl;exact fresh rfl e1.symm e2.symm e3.symm
  .-- a list
   rename_i Xt;split at hc
   case h_2=>cases hc
   rename_i k cs hb;split at hc
   case isFalse=>cases hc
   rename_i Gg;obtain⟨hk,rfl,rfl,nP,akq,iI⟩:=Gg;simp only[a09,a1k]at hc;obtain⟨rfl,rfl,rfl⟩:=hc;have a7X:sub cs 0 (n*5)=some cs:=by unfold sub;rw[a1e (by omega)];simp[<-nP]
   obtain⟨ls,p,cap',k1,k2,rfl,k3,k4,_,k5,k6,k7,k8,k9,k10,ZB,k11,k12⟩:=QA hV hdv (by omega) hb hk (fun _=>by omega) a7X;have hpe:p.ext=cs.length:=by have:=k8.ext;omega
   obtain⟨arr,ty,fz,z1,z2,z3,_⟩:=k8.row;have:=z3 hk;subst this;have akD:ZB.length=n*5:=(by rw[<-k11.len,nP]);have akE:∀u∈ZB,u.oneCell'=true:=a2z k11 k10;have vZ:∀c∈vx++cs,iO c=true:=fun c hc=>by
    rcases a3M.1 hc with hc|hc
    .exact a8k c hc
    .exact k10 c hc
   have hgb:lD h (.h b)=some (.cells k cs):=(by simp[St.get,hb]);have agR:pv.c≠p.c:=fun e=>by have:=hV.own (.h b) (.h vb) _ _ _ (by simp[afJ iI]) k1 m1 trivial hgb (by cases k<;>simp_all [Tw.wr]) p.c (a1w.2 ⟨p,k2,rfl⟩);exact this (a1w.2 ⟨pv,m2,e⟩)
   have hrl:∀(i:Nat) (c:TV) (u:LI3),(vx++cs)[i]? = some c->(Xf++ZB)[i]? = some u->VR M.h c u:=fun i c u hc hu=>(m11.append k11).at_ i c u hc hu;have akF:∀(j:Nat) (u:LI3),Xf[j]? = some u->w.cell? ⟨pv.c,rC+j,none⟩=some u:=YC;have akG:∀(j:Nat) (u:LI3),ZB[j]? = some u->w.cell? ⟨p.c,j,none⟩=some u:=fun j u hj=>by have:=k12 j u hj;rwa [a3L]at this
   refine enters ?_;by_cases xG:n+1<=cap'
   .have qV:(n+1)*5<=arr.size:=by have:(n+1)*5<=cap'*5:=a3N 5 xG;omega
    refine(a0N p.c n cap' pv.c rC QB ZB Xf w (by omega) xG (by omega) agR akD hvl akG
     (fun j hj=>?_) (fun j hj=>?_) akF akE Xe tyv ty aqG.size arr.size (by simp[World.shape?,w1]) (by simp[World.shape?,z1]) (by omega) (by simp[World.frozen?,w1]) (by simp[World.frozen?,w1])).mono fun e w' ⟨he,hw⟩=>?_
    .simp only[World.cell?,z1];rw[a18 (by simp),a4o (by omega)];rfl
    .simp[World.frozen?,z1]
    .subst he;have s1:=sO p.c ty (0,0) ZB 5 arr w.drew z1 (by omega);rw[s1]at hw;have z1':=uD w.drew p.c ((arr.toList.take 5++ZB++arr.toList.drop (5+ZB.length)).toArray) arr ty (0,0) z1;have S9:((arr.toList.take 5++ZB++arr.toList.drop (5+ZB.length)).toArray).size=arr.size:=by simp;omega
     rw[sO p.c ty (0,0) Xf 0 _ _ z1' (by rw[S9];omega),setRow_setRow]at hw;subst hw;refine adI hV vM k1 hb hk k2 hpe nP hvx vZ p.c _ ty (uD w.drew p.c _ arr ty (0,0) z1) (fun c _ hcg=>ny w.drew p.c _ c hcg) (.inl ⟨rfl,?_⟩) (by simp[World.setRow]) rfl rfl rfl (a4M:=cap') xG ?_ k7 fun i c u hc hu=>hrl i c u hc ?_
     .simp only[af6,a1B,a4t,a4g,a8p,S9];omega
     .simp only[af6,a1B,a4t,a4g,a8p,S9];omega
     .have hi:i<(n+1)*5:=by have:=(a0x.1 hc).1;rw[a1B]at this;omega
      rw[zJ i (by rw[S9];omega)]at hu;rw[<-hu];by_cases h0:i<5
      .rw[a18 (by omega),a1e (by omega),a0U (by omega)];simp
      .rw[a18 (by omega),a18 (by omega),zJ i (by omega),a18 (by omega),a1e (by omega),a1r (by omega),hvl]
   .have hgl:=MV (w:=w) (need:=n+1) (old:=cap') (e:=26) (by omega);have CU:=grownCap_ge (w:=w) (need:=n+1) (old:=cap') (e:=26);refine(a4L p.c n cap' pv.c rC QB ZB Xf w (by omega) k3 (by omega) akq akD hvl akG akF akE Xe).mono fun e w' ⟨he,hw⟩=>?_;subst he;generalize hA:(Builtin.zeroCells Qz.cells (n+1)++Builtin.zeroCells Qz.cells (grownCap w (n+1) cap' 26-(n+1)))=A at hw;have hAs:A.size=grownCap w (n+1) cap' 26*5:=by rw[<-hA];simp[Builtin.zeroCells,Value.cells];omega
    have y1:((w.alloc (.cells A 26)).drew).heap[w.heap.size]? = some (.cells A 26 (0,0)):=heap_alloc_new w _;have awR:(n+1)*5<=A.size:=by rw[hAs];exact a3N 5 CU
    rw[sO w.heap.size 26 (0,0) Xf 0 A _ y1 (by omega)]at hw;have S9:((A.toList.take 0++Xf++A.toList.drop (0+Xf.length)).toArray).size=A.size:=by simp;omega
    have y2:=uD (w.alloc (.cells A 26)).drew w.heap.size ((A.toList.take 0++Xf++A.toList.drop (0+Xf.length)).toArray) A 26 (0,0) y1;have y3:(((w.alloc (.cells A 26)).drew.setRow w.heap.size ((A.toList.take 0++Xf++A.toList.drop (0+Xf.length)).toArray)).drew).heap[w.heap.size]? = some (.cells ((A.toList.take 0++Xf++A.toList.drop (0+Xf.length)).toArray) 26 (0,0)):=y2;rw[sO w.heap.size 26 (0,0) ZB 5 _ _ y3 (by rw[S9];omega)]at hw;subst hw;refine adI hV vM k1 hb hk k2 hpe nP hvx vZ w.heap.size _ 26 (uD _ w.heap.size _ _ 26 (0,0) y3) (fun c JW hcg=>?_) (.inr rfl) (by simp[World.setRow]) rfl rfl rfl (a4M:=grownCap w (n+1) cap' 26) CU ?_ hgl fun i c u hc hu=>hrl i c u hc ?_
    .rw[ny _ _ _ c hcg];show((w.alloc (.cells A 26)).drew.setRow w.heap.size _).heap[c]? = _;rw[ny _ _ _ c hcg];exact vI w _ c JW
    .simp only[af6,a1B,a4t,a4g,a8p,S9];omega
    .have hi:i<(n+1)*5:=by have:=(a0x.1 hc).1;rw[a1B]at this;omega
     rw[zJ i (by rw[S9];omega)]at hu;rw[<-hu];by_cases h0:i<5
     .rw[a1e h0,zJ i (by omega),a18 (by omega),a1e (by omega),a0U (by omega)];simp
     .rw[a18 h0,a1e (by omega),a1r (by omega),hvl]
 .cases hc
end
def Tb:Tw.vH:={
 live:=[(15,[(0,[3,4,5]),(1,[3,4,5,36]),(2,[6]),(3,[3,4,5,7,8]),(4,[3,4,5,7,8,9,10]),(5,[3,4,5,7,8,9,10,11,12]),(6,[3,4,5,7,8,9,10,11,12,13,14]),(7,[3,4,5,7,8,9,10,11,12,13,14,15,16]),(8,[3,4,5,7,8,9,10,11,12,13,14,15,16,17,18]),(9,[3,4,5,7,13,15,180]),(10,[6]),(11,[3,4,5,7,13,15,19]),(12,[3,4,5,7,13,15,19,185]),(13,[3,4,5,7,13,15,19]),(14,[3,4,5,7,13,15,19,199]),(15,[6]),(16,[3,4,5,7,13,15,20]),(17,[3,4,5,7,13,224]),(18,[6]),(19,[3,7,13,21,22]),(20,[3,7,13,21,245]),(21,[6]),(22,[3,7,13,21,23,24]),(23,[7,13,23,24,25,26]),(24,[6])]),
  (18,[(0,[1]),(1,[1,21]),(2,[2]),(3,[1,3]),(4,[1,3,26]),(5,[1,3]),(6,[1,3,36]),(7,[2]),(8,[2])]),
  (19,[(0,[]),(1,[1,2]),(2,[1,2,3,4]),(3,[1,2,3,4,5,6]),(4,[1,2,3,4,5,6,7,8]),(5,[1,2,3,4,5,6,7,8,9,10]),(6,[1,2,3,4,5,6,7,8,9,10,11,12]),(7,[1,2,3,4,5,6,7,8,9,10,11,12,13,14]),(8,[1,2,3,4,5,6,7,8,9,10,11,12,13,14,15,16]),(9,[1,2,3,4,5,6,7,8,9,10,11,12,13,14,16,17,18]),(10,[1,2,3,4,5,6,7,8,9,10,11,12,13,14,16,17,18,19,20]),(11,[1,3,4,5,6,7,8,9,10,11,12,13,14,16,17,18,20,21,22]),(12,[0])]),
  (20,[(0,[1,2,3,6]),(1,[1,2,3,6,8]),(2,[1,2,3,6,8,14]),(3,[6,7]),(4,[1,2,3,6,34]),(5,[6,7]),(6,[1,2,6,9]),(7,[6,9]),(8,[6,7])]),
  (21,[(0,[1,2]),(1,[1,2,3]),(2,[1,2,3,4]),(3,[1,2,3,4,21]),(4,[1,2,3,4]),(5,[1,2,3,4]),(6,[2])]),
  (22,[(0,[1]),(1,[1,3]),(2,[1,3,7]),(3,[2]),(4,[11]),(5,[2]),(6,[2])]),
  (23,[(0,[0,1,2]),(1,[6])]),
  (25,[(0,[1,3,5]),(1,[6])]),
  (27,[(0,[2,3]),(1,[3,6,7]),(2,[3,6,7,15]),(3,[4,5]),(4,[4,5])]),
  (28,[(0,[2,3]),(1,[3,6,7]),(2,[3,6,7,17]),(3,[4,5]),(4,[3,6,21]),(5,[4,5]),(6,[3,6,29,30,31]),(7,[3,6,29,30,31,32]),(8,[3,6,8,9,29,30,31]),(9,[3,6,8,29,30,31,36,37]),(10,[3,6,8,29,30,31,36,37,38]),(11,[3,6,8,10,29,30,31,36,37]),(12,[3,6,8,29,30,31,36,37]),(13,[3,6,8,29,30,31,36,37,49]),(14,[3,6,8,29,30,31,36,37]),(15,[3,6,29,30,31]),(16,[4,5])]),
  (29,[(0,[1]),(1,[1,5]),(2,[2]),(3,[2])]),
  (32,[(0,[0,1]),(1,[0,1,10]),(2,[4]),(3,[0,1,5]),(4,[0,1,5,14]),(5,[0,1,5]),(6,[0,1,5,25]),(7,[4]),(8,[4])]),
  (33,[(0,[0,4,5,6]),(1,[0,4,5,6,8]),(2,[0,4,5,6,8,17]),(3,[6,7]),(4,[0,4,5,6,25]),(5,[6,7]),(6,[0,6,9]),(7,[0,6,9]),(8,[0,6,9,36]),(9,[6]),(10,[6,7]),(11,[0,6,9,10,11]),(12,[6,9,10,11,44]),(13,[6]),(14,[6,9,10,11,44,49]),(15,[6]),(16,[6,9,10,11,44,58]),(17,[6]),(18,[6,9,10,11,44,65]),(19,[6]),(20,[6,10,11,71]),(21,[6,10]),(22,[6,10]),(23,[6,10,81]),(24,[6]),(25,[6,7])]),
  (34,[(0,[0]),(1,[0,3]),(2,[0,3,9]),(3,[0,3]),(4,[0,3,4]),(5,[0,3,4,18]),(6,[2]),(7,[0,5]),(8,[0,5,23]),(9,[0,5]),(10,[0,5,34]),(11,[2]),(12,[2])]),
  (35,[(0,[2,3]),(1,[2,3,69]),(2,[4]),(3,[2,3,5]),(4,[2,3,5,74]),(5,[2,3,5]),(6,[2,3,5,87]),(7,[4]),(8,[4])]),
  (39,[(0,[0,3,4]),(1,[0,3,4,12]),(2,[4,5]),(3,[0,3,4,5]),(4,[0,3,4,5,20]),(5,[4,5]),(6,[0,3,4,25]),(7,[4,5]),(8,[0,3,4]),(9,[3,4,31,32,33]),(10,[3,4,31,32,33,34]),(11,[3,4,6,7,31,32,33]),(12,[3,4,6,8,31,32,33]),(13,[3,4,6,8,31,32,33,45]),(14,[4]),(15,[4,5]),(16,[3,4,6,9,31,32,33]),(17,[3,4,6,9,31,32,33,59]),(18,[3,4,31,32,33]),(19,[3,4,31,32,33]),(20,[4,5])]),
  (40,[(0,[0]),(1,[0,3]),(2,[0,3,4]),(3,[0,3,4,8]),(4,[0,3,4]),(5,[0,3,4]),(6,[2])]),
  (42,[(0,[2,3]),(1,[4])]),
  (44,[(0,[1]),(1,[1,3]),(2,[1,3,7]),(3,[2]),(4,[1,3,4]),(5,[1,3,4,12]),(6,[1,3,4]),(7,[1,3,4]),(8,[2])]),
  (45,[(0,[0,4,5,6]),(1,[0,4,5,6,11]),(2,[0,4,5,6,11,12]),(3,[6,7]),(4,[0,4,5,6,20]),(5,[6,7]),(6,[4,5,6,8]),(7,[4,5,6,8,38]),(8,[6,7]),(9,[4,5,6,8,9,10]),(10,[4,5,6,8,9,47]),(11,[6,7]),(12,[6,7])]),
  (48,[(0,[0,2]),(1,[2])]),
  (49,[(0,[0]),(1,[2])]),
  (53,[(0,[0,1]),(1,[0,1,5]),(2,[0,1,5,6]),(3,[0,1,5,6,14]),(4,[0,1,5,6]),(5,[0,1,5,6]),(6,[0,1,5,6]),(7,[4])]),
  (54,[(0,[0,1]),(1,[0,1,12]),(2,[4]),(3,[4])]),
  (56,[(0,[0]),(1,[2])]),
  (57,[(0,[0,1,2,3,8]),(1,[0,1,2,3,8,10]),(2,[0,1,2,3,8,10,17]),(3,[8,9]),(4,[0,1,2,3,8,36]),(5,[8,9]),(6,[0,2,3,8,11]),(7,[3,8,11,47,48]),(8,[3,8,11,47,48,49]),(9,[3,8,11,12,47,48]),(10,[3,8,11,12,47,48]),(11,[3,8,11,47,48]),(12,[3,8,11,47,48]),(13,[8,9])]),
  (58,[(0,[0,1]),(1,[0,1,8]),(2,[4]),(3,[0,1,5]),(4,[0,1,5,12]),(5,[0,1,5]),(6,[0,1,5,20]),(7,[4]),(8,[0,1,23]),(9,[4]),(10,[27]),(11,[4]),(12,[4])]),
  (62,[(0,[3,4,5,6]),(1,[3,4,5,6,8]),(2,[3,4,5,6,8,16]),(3,[6,7]),(4,[3,4,5,6,10]),(5,[3,4,5,6,10,27]),(6,[6,7]),(7,[6,7])]),
  (63,[(0,[3,4,5,6]),(1,[3,4,5,6,8]),(2,[3,4,5,6,8,15]),(3,[6,7]),(4,[6,7])]),
  (67,[(0,[1,2]),(1,[1,2,4]),(2,[1,2,4,9]),(3,[2,3]),(4,[2,3])]),
  (68,[(0,[0,1,2,6]),(1,[0,1,2,6,8]),(2,[0,1,2,6,8,17]),(3,[6,7]),(4,[2,6,9]),(5,[2,6,9,10]),(6,[2,6,9,10,31]),(7,[6,7]),(8,[6,9,34,35,36]),(9,[6,9,34,35,36,37]),(10,[6,9,12,34,35,36]),(11,[6,9,34,35,36]),(12,[6,9,34,35,36]),(13,[6,7])]),
  (70,[(0,[2,3]),(1,[4])]),
  (72,[(0,[2,3]),(1,[2,3,43]),(2,[4]),(3,[2,3,5]),(4,[2,3,5,48]),(5,[2,3,5]),(6,[2,3,5,79]),(7,[4]),(8,[4])]),
  (73,[(0,[0,1]),(1,[0,1,2]),(2,[0,1,2,3]),(3,[0,1])]),
  (74,[(0,[1,2,3]),(1,[1,2,3,7]),(2,[1,2,3,7,8]),(3,[1,2,3,7,8,12]),(4,[1,2,3,7,8]),(5,[1,2,3,7,8]),(6,[6])]),
  (75,[(0,[0,1]),(1,[0,1,10]),(2,[4]),(3,[0,1,5]),(4,[0,1,5,14]),(5,[0,1,5]),(6,[0,1,5,25]),(7,[4]),(8,[4])]),
  (76,[(0,[0]),(1,[0,6,7,8]),(2,[0,6,7,8,9]),(3,[0,4,6,7,8]),(4,[0,5,6,7,8]),(5,[0,5,6,7,8,15]),(6,[2]),(7,[0,6,7,8]),(8,[30]),(9,[2]),(10,[2])]),
  (77,[(0,[0,1,2]),(1,[6])]),
  (78,[(0,[0,1,4]),(1,[4])]),
  (79,[(0,[0,2]),(1,[2])]),
  (80,[(0,[1,2]),(1,[1,2,3]),(2,[1,2,3,4]),(3,[1,2,3,4,5]),(4,[1,2,3,5]),(5,[2,3]),(6,[2,6]),(7,[2])]),
  (81,[(0,[0]),(1,[2])]),
  (82,[(0,[0]),(1,[2])]),
  (83,[(0,[1]),(1,[1,3]),(2,[1,3,10]),(3,[2]),(4,[1,15]),(5,[2]),(6,[18]),(7,[2]),(8,[2])]),
  (84,[(0,[1]),(1,[1,3]),(2,[1,3,13]),(3,[1,3]),(4,[1,3,4]),(5,[1,3,4,18]),(6,[1,3,4]),(7,[1,3,4,31]),(8,[2]),(9,[1,5]),(10,[1,5,36]),(11,[1,5]),(12,[1,5,44]),(13,[2]),(14,[1,5,6]),(15,[1,5,6,47]),(16,[1,5,6]),(17,[1,5,6,77]),(18,[2]),(19,[1,7,8]),(20,[2])]),
  (86,[(0,[2,3,4]),(1,[2,3,4,6]),(2,[2,3,4,6,11]),(3,[4,5]),(4,[2,4,16]),(5,[4,5]),(6,[4,5])]),
  (87,[(0,[1,2]),(1,[1,2,3]),(2,[2,3,8]),(3,[3,4,10]),(4,[3,4,5]),(5,[3,4,5,15]),(6,[]),(7,[2])]),
  (88,[(0,[0,2,3]),(1,[2,3,6]),(2,[2,3,6,8]),(3,[2,3,4,6]),(4,[2,3,4,6,13]),(5,[2,3,6]),(6,[2,3,6]),(7,[2,3]),(8,[2,3])]),
  (89,[(0,[0]),(1,[0])]),
  (90,[(0,[0,2]),(1,[2,6]),(2,[2,6,8]),(3,[2,4,6]),(4,[2,6]),(5,[2])]),
  (93,[(0,[0]),(1,[2])]),
  (94,[(0,[0]),(1,[0,7]),(2,[0]),(3,[0,3]),(4,[0,3,4]),(5,[0,3,4,15]),(6,[0,3,4]),(7,[0,3,4]),(8,[2])]),
  (95,[(0,[0]),(1,[2])]),
  (96,[(0,[1]),(1,[2])]),
  (98,[(0,[1,2,4]),(1,[1,2,4,5]),(2,[1,2,4,5,9]),(3,[1,2,4,5]),(4,[4])]),
  (99,[(0,[3,4,5,6]),(1,[3,4,5,6,8]),(2,[6,7]),(3,[3,4,5,6,16]),(4,[6,7]),(5,[4,5,6,21]),(6,[6,7]),(7,[6,7])]),
  (100,[(0,[0,2]),(1,[0,2,6]),(2,[2]),(3,[2])]),
  (101,[(0,[0]),(1,[3]),(2,[3,4]),(3,[2]),(4,[3,6]),(5,[2]),(6,[3,8]),(7,[2]),(8,[3,10]),(9,[2]),(10,[3,13]),(11,[2]),(12,[3,16]),(13,[2]),(14,[3,19]),(15,[2]),(16,[22]),(17,[2]),(18,[2])]),
  (102,[(0,[0]),(1,[2])]),
  (103,[(0,[0,2]),(1,[0,2,4]),(2,[0,2,4,8]),(3,[2,3]),(4,[2,3])]),
  (104,[(0,[0,1]),(1,[0,1,5]),(2,[0,5,6]),(3,[0,5,6,11]),(4,[0,5,6]),(5,[0,5,6]),(6,[4])]),
  (105,[(0,[0,1]),(1,[0,1,9]),(2,[4]),(3,[0,1,13]),(4,[4]),(5,[0,1,5]),(6,[0,1,5,17,18,19]),(7,[0,1,5,17,18,19,20]),(8,[0,1,5,7,17,18,19]),(9,[0,1,5,17,18,19]),(10,[0,1,5,17,18,19]),(11,[0,1,28]),(12,[4]),(13,[0,8]),(14,[0,8]),(15,[38]),(16,[4]),(17,[4])]),
  (106,[(0,[1]),(1,[5]),(2,[2]),(3,[2])]),
  (107,[(0,[0,1,5,6]),(1,[6])]),
  (108,[(0,[1,2]),(1,[2,4,5]),(2,[2,4,5,12]),(3,[2,3]),(4,[2,3])]),
  (109,[(0,[0,1]),(1,[0,1,11]),(2,[4]),(3,[0,1,5]),(4,[0,1,5,15]),(5,[0,1,5]),(6,[0,1,5,26]),(7,[4]),(8,[0,1,5,6]),(9,[0,1,5,6,29]),(10,[0,1,5,6]),(11,[0,1,5,6,40]),(12,[4]),(13,[4])]),
  (112,[(0,[0,1,3]),(1,[3,4]),(2,[3])]),
  (113,[(0,[0,2]),(1,[2,3]),(2,[2])]),
  (117,[(0,[0,2]),(1,[2,4]),(2,[2]),(3,[2])]),
  (118,[(0,[0,1,2]),(1,[0,1,2]),(2,[0,1,2,7]),(3,[0,1,2,7,16]),(4,[6]),(5,[0,1,2,7,8]),(6,[0,1,2,7,8,22]),(7,[6]),(8,[0,1,2,7,8,31]),(9,[0,1,2,7,9]),(10,[0,1,7,9]),(11,[9]),(12,[6]),(13,[0,1,2,7,8]),(14,[0,1,2,7,8,68]),(15,[0,1,2]),(16,[0]),(17,[6]),(18,[0,1,7]),(19,[0]),(20,[6])]),
  (119,[(0,[0]),(1,[0,4]),(2,[2]),(3,[2])]),
  (121,[(0,[1]),(1,[4]),(2,[2])]),
  (122,[(0,[1,2]),(1,[4])]),
  (123,[(0,[2,3]),(1,[4])]),
  (124,[(0,[0,1]),(1,[0,1,10]),(2,[0,1]),(3,[0,5,6]),(4,[0,6,26]),(5,[0,6]),(6,[0,7]),(7,[7,8]),(8,[7,8,37]),(9,[7,8]),(10,[4])]),
  (125,[(0,[0]),(1,[0,4]),(2,[2]),(3,[2])]),
  (126,[(0,[1,2,3,4,5,6]),(1,[1,2,3,4,5,6,32]),(2,[1,2,3,4,5,6]),(3,[1,2,3,4,5,6,40]),(4,[3]),(5,[8]),(6,[1,2,3,4,5,6,9]),(7,[1,2,3,4,5,6,9,10]),(8,[1,2,3,4,5,6,9,10,68]),(9,[8]),(10,[1,2,3,4,5,6,9,11,12]),(11,[1,2,3,4,5,6,9,11,84]),(12,[8]),(13,[1,2,3,4,5,6,9,13]),(14,[1,2,3,4,5,6,9,13,93,94]),(15,[1,2,3,4,5,6,9,13,93,94,95]),(16,[1,2,3,4,5,6,9,13,14,93,94]),(17,[1,2,3,4,5,6,9,13,93,94]),(18,[1,2,3,4,5,6,9,13,93,94]),(19,[3,5,6,13]),(20,[5,6]),(21,[8])]),
  (127,[(0,[2,3,4]),(1,[2,4,10,11,12]),(2,[2,4,10,11,12,13]),(3,[2,4,7,8,10,11,12]),(4,[2,4,10,11,12,32]),(5,[6]),(6,[2,4,10,11,12]),(7,[6])]),
  (128,[(0,[2,3,4]),(1,[3,4,8,9,10]),(2,[3,4,8,9,10,11]),(3,[3,4,5,6,8,9,10]),(4,[3,4,8,9,10]),(5,[3,4,8,9,10]),(6,[4])]),
  (129,[(0,[2,3,4,5,8]),(1,[2,3,5,8,12,13,14]),(2,[2,3,5,8,12,13,14,15]),(3,[2,3,5,8,9,10,12,13,14]),(4,[2,3,5,8,9,10,12,13,14,34]),(5,[2,3,5,8,12,13,14]),(6,[2,3,5,8,12,13,14]),(7,[8])]),
  (130,[(0,[1,2]),(1,[2,6,7,8]),(2,[2,6,7,8,9]),(3,[2,3,4,6,7,8]),(4,[2,6,7,8]),(5,[2,6,7,8]),(6,[2])]),
  (131,[(0,[1]),(1,[1,3]),(2,[1,3,11]),(3,[1,3]),(4,[1,3,20]),(5,[2]),(6,[1,4]),(7,[1,4,25]),(8,[1,4]),(9,[1,4,5]),(10,[1,4,5,52]),(11,[2]),(12,[1,4,5,6]),(13,[1,4,5,6,57]),(14,[1,4,5,6]),(15,[1,4,5,6,81]),(16,[2]),(17,[2])]),
  (132,[(0,[1]),(1,[1,3]),(2,[1,3,8]),(3,[1,3]),(4,[1,3,20]),(5,[2]),(6,[2])]),
  (133,[(0,[1,2,3,4]),(1,[1,2,3,4,13]),(2,[1,2,3,18]),(3,[2,3]),(4,[8,9]),(5,[1,2,3,4,28]),(6,[8,9]),(7,[1,2,3,4,10]),(8,[1,2,3,4,10,11]),(9,[1,2,3,4,10,11,40]),(10,[1,2,3,4,10,11]),(11,[1,2,3,4,10,11]),(12,[8,9])]),
  (134,[(0,[0,1]),(1,[0,1,5]),(2,[0,1,5,9]),(3,[0,1,5]),(4,[0,1,5,17]),(5,[4]),(6,[4])]),
  (136,[(0,[1,2]),(1,[1,2,4]),(2,[1,2,4,21,22,23]),(3,[1,2,4,21,22,23,24]),(4,[1,2,4,6,21,22,23]),(5,[1,2,4,6,7,21,22,23]),(6,[1,2,6,7,21,22,23,29]),(7,[1,2,6,7,21,22,23,29,31]),(8,[1,2,6,7,8,9,21,22,23,29]),(9,[1,2,6,7,8,9,10,21,22,23,29]),(10,[1,2,6,7,8,9,10,11,21,22,23,29]),(11,[1,2,6,7,8,9,10,11,21,22,23,29,46]),(12,[1,2,6,7,21,22,23,29]),(13,[1,2,6,7,8,9,10,21,22,23,29,60]),(14,[1,2,6,7,21,22,23,29]),(15,[1,2,6,7,8,9,21,22,23,29,75,76]),(16,[1,2,6,7,8,9,21,22,23,29,75,76,77]),(17,[1,2,6,7,8,9,12,21,22,23,29,75,76]),(18,[1,2,6,7,8,9,21,22,23,29,75,76]),(19,[1,2,6,7,8,9,21,22,23,29,75,76]),(20,[1,2,4,21,22,23]),(21,[1,2,4,21,22,23]),(22,[1,2,94]),(23,[1,2,94,96]),(24,[1,2,13,14,94]),(25,[1,2,94,106])]),
  (137,[(0,[0,2]),(1,[])]),
  (138,[(0,[1,2,4]),(1,[2,4,6]),(2,[2,5]),(3,[]),(4,[4])]),
  (139,[(0,[0,6]),(1,[0,6,8]),(2,[0,4,6]),(3,[0,6,14])]),
  (140,[(0,[2,3,4]),(1,[6])]),
  (141,[(0,[0,2]),(1,[2])]),
  (142,[(0,[0,1,4]),(1,[4])]),
  (143,[(0,[0,1,4]),(1,[4])]),
  (144,[(0,[0,1,4]),(1,[4])]),
  (145,[(0,[1]),(1,[2])]),
  (146,[(0,[0]),(1,[4])]),
  (147,[(0,[1]),(1,[4])]),
  (148,[(0,[1]),(1,[2])]),
  (149,[(0,[0]),(1,[2])]),
  (150,[(0,[0]),(1,[2])]),
  (151,[(0,[0]),(1,[2])]),
  (152,[(0,[0,1]),(1,[4])]),
  (153,[(0,[1]),(1,[2])]),
  (154,[(0,[1]),(1,[1,5]),(2,[2]),(3,[2])]),
  (155,[(0,[0,1]),(1,[0,1,7,8]),(2,[0,1,7,8,9]),(3,[0,1,5,7,8]),(4,[0,1,5,7,8,16]),(5,[4]),(6,[0,1,7,8]),(7,[4])]),
  (156,[(0,[1]),(1,[2])]),
  (157,[(0,[2,3,4]),(1,[6])]),
  (158,[(0,[0,1]),(1,[0,1,10]),(2,[4]),(3,[0,1,12,13]),(4,[0,1,12,13,14]),(5,[0,1,5,12,13]),(6,[0,1,12,13,24]),(7,[4]),(8,[0,1,12,13]),(9,[4])]),
  (159,[(0,[0]),(1,[0,3]),(2,[3,7,8]),(3,[3,7,8,9]),(4,[3,4,7,8]),(5,[3,7,8]),(6,[3,7,8]),(7,[2])]),
  (160,[(0,[1,2]),(1,[1,2,4]),(2,[1,2,4,11]),(3,[2,3]),(4,[1,2]),(5,[1,2,21]),(6,[2,3]),(7,[1,2,27]),(8,[1,2,27]),(9,[2,27]),(10,[2,3]),(11,[2,3])]),
  (161,[(0,[1,2]),(1,[1,2,3]),(2,[1,2,3,4]),(3,[1,2,3,4,5]),(4,[1,2,3,5]),(5,[2,3]),(6,[2])]),
  (168,[(0,[1,2]),(1,[4])]),
  (169,[(0,[1]),(1,[2])]),
  (172,[(0,[1,2]),(1,[1,2,3]),(2,[2,3,17]),(3,[2,3]),(4,[2,3])]),
  (173,[(0,[0,1]),(1,[4])]),
  (174,[(0,[1,2]),(1,[3])]),
  (175,[(0,[0,1]),(1,[6,7]),(2,[4,5]),(3,[8,9]),(4,[4,5])]),
  (176,[(0,[1,2,3]),(1,[1,2,3,8]),(2,[6]),(3,[6])]),
  (177,[(0,[1,2]),(1,[1,2,5]),(2,[1,2,5,14]),(3,[1,2,5]),(4,[1,2,5,28]),(5,[4]),(6,[4])]),
  (178,[(0,[0,1]),(1,[0,1,5]),(2,[0,1,5,9]),(3,[0,1,5]),(4,[0,1,5,17]),(5,[4]),(6,[4])]),
  (181,[(0,[0,1]),(1,[4])]),
  (182,[(0,[0,1,2]),(1,[4])]),
  (183,[(0,[0,1,2,5]),(1,[0,1,2,5,7]),(2,[5]),(3,[5])]),
  (184,[(0,[0,1]),(1,[1,4,5]),(2,[1,4,5,20]),(3,[4,5]),(4,[4,5])]),
  (185,[(0,[0,1,2,5]),(1,[5])]),
  (186,[(0,[0,2]),(1,[2,3]),(2,[2]),(3,[2])]),
  (187,[(0,[0,1]),(1,[0,1,5]),(2,[0,1,5,6]),(3,[0,1,6,11]),(4,[12]),(5,[4]),(6,[4]),(7,[0,1,13]),(8,[4]),(9,[0,1,16]),(10,[4]),(11,[19]),(12,[4]),(13,[4])]),
  (188,[(0,[0,1,2]),(1,[4])]),
  (189,[(0,[0,3]),(1,[4])]),
  (190,[(0,[1]),(1,[1,5]),(2,[2]),(3,[2])]),
  (191,[(0,[0,3]),(1,[4])]),
  (192,[(0,[2,3]),(1,[2,3,5]),(2,[2,3,5,34]),(3,[4]),(4,[4])]),
  (193,[(0,[1,2,3,4]),(1,[1,2,3,4,10]),(2,[8]),(3,[8])]),
  (194,[(0,[1]),(1,[2])]),
  (195,[(0,[0,1,2,3,4]),(1,[0,1,2,3,4,14]),(2,[6]),(3,[0,1,2,3,4,7,8]),(4,[0,1,2,3,4,7,30]),(5,[6]),(6,[0,1,3,4,9]),(7,[0,1,3,4,9,10]),(8,[0,1,3,4,9,10,43,44,45]),(9,[0,1,3,4,9,10,43,44,45,46]),(10,[0,1,3,4,9,10,11,12,43,44,45]),(11,[0,1,3,4,9,10,43,44,45]),(12,[0,1,3,4,9,10,43,44,45]),(13,[0,3]),(14,[6])]),
  (196,[(0,[0,3]),(1,[0,3,5,6]),(2,[0,3,5,17]),(3,[0,3,5]),(4,[0,3,5]),(5,[5]),(6,[4])]),
  (197,[(0,[0]),(1,[2])]),
  (198,[(0,[0,1,5]),(1,[0,1,5,12]),(2,[6]),(3,[0,1,5,7]),(4,[0,1,5,7]),(5,[0,1,5,7,8,9]),(6,[0,1,5,7,8,32]),(7,[0,1,5,7,8]),(8,[0,1,5,8]),(9,[8]),(10,[6])]),
  (201,[(0,[1,2]),(1,[3])]),
  (203,[(0,[2,3]),(1,[2,3,5]),(2,[4])]),
  (204,[(0,[0,1]),(1,[0,1,7,8]),(2,[0,1,7,8,9]),(3,[0,1,5,7,8]),(4,[0,1,5,7,8,16]),(5,[4]),(6,[0,1,7,8]),(7,[4])]),
  (205,[(0,[0,1]),(1,[6]),(2,[4,5])]),
  (206,[(0,[0,1]),(1,[0,1,6]),(2,[0,1,6,7]),(3,[0,1,6,7,8]),(4,[0,1,6,7,8,9]),(5,[0,1,6,7,8,9,10]),(6,[0,1,6,7,9,11]),(7,[0,1,6,7,9,11,12]),(8,[0,1,6,7,9,12,13]),(9,[0,1,7,9,12,13]),(10,[0,1,4]),(11,[4,5])]),
  (218,[(0,[0,1]),(1,[0,1,7,8]),(2,[0,1,7,8,9]),(3,[0,1,5,7,8]),(4,[0,1,5,7,8,16]),(5,[4]),(6,[0,1,7,8]),(7,[4])]),
  (219,[(0,[0]),(1,[2])]),
  (220,[(0,[1,2]),(1,[3])]),
  (221,[(0,[0,1]),(1,[3])]),
  (222,[(0,[0,1,2,3]),(1,[5])]),
  (223,[(0,[1,2]),(1,[4])]),
  (224,[(0,[0,1]),(1,[3])]),
  (226,[(0,[2,3]),(1,[4])]),
  (227,[(0,[0,1]),(1,[0,1,10]),(2,[4]),(3,[0,1,12,13]),(4,[0,1,12,13,14]),(5,[0,1,5,12,13]),(6,[0,1,12,13,24]),(7,[4]),(8,[0,1,12,13]),(9,[4])]),
  (228,[(0,[0,1,2]),(1,[0,1,2,14]),(2,[6]),(3,[1,2,15,16,17]),(4,[1,2,15,16,17,18]),(5,[1,2,7,8,15,16,17]),(6,[1,2,8,9,15,16,17]),(7,[1,2,15,16,17,30]),(8,[6]),(9,[1,2,15,16,17]),(10,[6])]),
  (234,[(0,[0,1]),(1,[0,1,7,8]),(2,[0,1,7,8,9]),(3,[0,1,5,7,8]),(4,[0,1,5,7,8,16]),(5,[4]),(6,[0,1,7,8]),(7,[4])])],
 head:=[(15,[(12,[3,4,5,7,13,15,19])]),
  (18,[(4,[1,3])]),
  (21,[(3,[1,2,3,4])]),
  (28,[(7,[3,6,29,30,31]),(10,[3,6,8,29,30,31,36,37])]),
  (32,[(4,[0,1,5])]),
  (34,[(2,[0,3]),(8,[0,5])]),
  (35,[(4,[2,3,5])]),
  (39,[(10,[3,4,31,32,33])]),
  (40,[(3,[0,3,4])]),
  (44,[(5,[1,3,4])]),
  (53,[(3,[0,1,5,6])]),
  (57,[(8,[3,8,11,47,48])]),
  (58,[(4,[0,1,5])]),
  (68,[(9,[6,9,34,35,36])]),
  (72,[(4,[2,3,5])]),
  (74,[(3,[1,2,3,7,8])]),
  (75,[(4,[0,1,5])]),
  (76,[(2,[0,6,7,8])]),
  (84,[(2,[1,3]),(5,[1,3,4]),(10,[1,5]),(15,[1,5,6])]),
  (88,[(2,[2,3,6])]),
  (90,[(2,[2,6])]),
  (94,[(5,[0,3,4])]),
  (98,[(2,[1,2,4,5])]),
  (104,[(3,[0,5,6])]),
  (105,[(7,[0,1,5,17,18,19])]),
  (109,[(4,[0,1,5]),(9,[0,1,5,6])]),
  (124,[(8,[7,8])]),
  (126,[(1,[1,2,3,4,5,6]),(15,[1,2,3,4,5,6,9,13,93,94])]),
  (127,[(2,[2,4,10,11,12])]),
  (128,[(2,[3,4,8,9,10])]),
  (129,[(2,[2,3,5,8,12,13,14])]),
  (130,[(2,[2,6,7,8])]),
  (131,[(2,[1,3]),(7,[1,4]),(13,[1,4,5,6])]),
  (132,[(2,[1,3])]),
  (133,[(9,[1,2,3,4,10,11])]),
  (134,[(2,[0,1,5])]),
  (136,[(3,[1,2,4,21,22,23]),(7,[1,2,6,7,21,22,23,29]),(16,[1,2,6,7,8,9,21,22,23,29,75,76]),(23,[1,2,94])]),
  (139,[(1,[0,6])]),
  (155,[(2,[0,1,7,8])]),
  (158,[(4,[0,1,12,13])]),
  (159,[(3,[3,7,8])]),
  (177,[(2,[1,2,5])]),
  (178,[(2,[0,1,5])]),
  (195,[(9,[0,1,3,4,9,10,43,44,45])]),
  (204,[(2,[0,1,7,8])]),
  (218,[(2,[0,1,7,8])]),
  (227,[(4,[0,1,12,13])]),
  (228,[(4,[1,2,15,16,17])]),
  (234,[(2,[0,1,7,8])])],
 site:=[(61,[2]),(62,[3]),(80,[1,3,4,5]),(87,[1,3]),(96,[1]),(122,[2]),(138,[2]),(140,[3,4]),(145,[1]),(148,[1]),(157,[3,4]),(161,[1,3,4,5]),(168,[2]),(189,[3]),(191,[3]),(192,[2,3,5]),(194,[14]),(198,[5,7]),(209,[7]),(210,[9])] }
def Tm:Tw.vH:={ Tb with exts:=[],ext:=fun _ _ _=>none }
open Tw in
def agS:dO:=fun fv xs h=>match fv with
 |.fn f a b=>if f=94 then a4y 94 (kW Tryz.prog Tm (2^24) 2) (.fn f a b) xs h else if f=118 then Ny (.fn f a b) xs h else Qm 137 (.fn f a b) xs h
 |fv=>Qm 137 fv xs h
def T:Tw.vH:={ Tb with exts:=[94,137,118],ext:=agS,dem:=[87,88,90,138],din:=[136,139],aat:=[138] }
open Pv
structure Rw where
 fr:LI0
 to:LI0
 cell:V
 deriving DecidableEq
structure Br where
 var:Int
 aA:LI0
 deriving DecidableEq
structure Dg where
 aj:LI0
 aB:LI0
 aK:List V
 au:List Br
 root:Int
 deriving DecidableEq
structure Ld where
 s:LI0
 cells:List V
 deriving DecidableEq
structure Fc where
 name:ByteArray
 d:Dg
 deriving DecidableEq
structure Pc where
 facts:Int
 goal:Bool
 deriving DecidableEq
abbrev iJ:Dg:=⟨[],[],[],[],0⟩
abbrev Fc0:Fc:=⟨⟨#[]⟩,iJ⟩
abbrev Pc0:Pc:=⟨0,false⟩
abbrev Rw0:Rw:=⟨[],[],V0⟩
abbrev lH:Br:=⟨0,[]⟩
abbrev Ld0:Ld:=⟨[],[]⟩
inductive Kd where
 |i64|u8|u16|u64|b|o|k|v|rw|br|tb|vs|ld|dg|is|fc|pc|bl|bs|no
def Kd.T:Kd->Type
 |.i64|.u8|.u16|.u64=>Int
 |.dg=>Dg
 |.is=>LI0
 |.fc=>Fc
 |.pc=>Pc
 |.bl=>Bool
 |.bs=>List Bool
 |.b=>B
 |.o=>O
 |.k=>K
 |.v=>V
 |.rw=>Rw
 |.br=>Br
 |.tb=>List Rw
 |.vs=>List V
 |.ld=>Ld
 |.no=>Unit
def kd(t:Nat):Kd:=match t with
 | 3=>.i64
 | 5=>.u8
 | 900001=>.b
 | 900002=>.o
 | 900003=>.k
 | 900004=>.u16
 | 900005=>.u64
 | 26=>.dg
 | 22=>.is
 | 900006=>.fc
 | 900007=>.pc
 | 4=>.bl
 | 900008=>.bs
 | 39=>.v
 | 900009=>.rw
 | 105=>.br
 | 900010=>.tb
 | 23=>.vs
 | 900011=>.ld
 |_=>.no
def aH(t:Nat):Type:=(kd t).T
def Kd.z:(k:Kd)->k.T
 |.i64|.u8|.u16|.u64=>(0:Int)
 |.dg=>iJ
 |.is=>([]:LI0)
 |.fc=>Fc0
 |.pc=>Pc0
 |.bl=>false
 |.bs=>([]:List Bool)
 |.b=>B0
 |.o=>O0
 |.k=>K0
 |.v=>V0
 |.rw=>Rw0
 |.br=>lH
 |.tb=>([]:List Rw)
 |.vs=>([]:List V)
 |.ld=>Ld0
 |.no=>()
abbrev lI(l:LI0):PV aH:=.dD 3 l false
abbrev lV(l:List V):PV aH:=.dD 39 l false
abbrev lRw(l:List Rw):PV aH:=.dD 900009 l false
abbrev lBr(l:List Br):PV aH:=.dD 105 l false
abbrev lDg(l:List Dg):PV aH:=.dD 26 l false
abbrev lB(l:List Bool):PV aH:=.dD 4 l false
def B.ps(b:B):List (PV aH):=[.int .i64 b.lo,.int .i64 b.hi,.int .u8 b.f]
def O.ps(o:O):List (PV aH):=[.int .u8 o.code,.int .i64 o.a,.int .i64 o.b,.int .i64 o.c,.int .i64 o.n]
def K.ps(c:K):List (PV aH):=[.str c.name,.int .i64 c.lo,.int .i64 c.hi]
def V.ps(v:V):List (PV aH):=[.int .u8 v.f,.int .i64 v.n]
def Rw.ps(r:Rw):List (PV aH):=[lI r.fr,lI r.to,.int .u8 r.cell.f,.int .i64 r.cell.n]
def Br.ps(b:Br):List (PV aH):=[.int .i64 b.var,lI b.aA]
def Ld.ps(x:Ld):List (PV aH):=[lI x.s,lV x.cells]
def Dg.ps(d:Dg):List (PV aH):=[lI d.aj,lI d.aB,lV d.aK,lBr d.au,.int .i64 d.root]
def Fc.ps(x:Fc):List (PV aH):=.str x.name::x.d.ps
def Pc.ps(x:Pc):List (PV aH):=[.int .u64 x.facts,.bool x.goal]
def B.un(l:List (PV aH)):Option B:=match l with
 | [.int .i64 a,.int .i64 b,.int .u8 c]=>some ⟨a,b,c⟩
 |_=>none
def O.un(l:List (PV aH)):Option O:=match l with
 | [.int .u8 c,.int .i64 x,.int .i64 y,.int .i64 z,.int .i64 n]=>some ⟨c,x,y,z,n⟩
 |_=>none
def K.un(l:List (PV aH)):Option K:=match l with
 | [.str c,.int .i64 x,.int .i64 y]=>some ⟨c,x,y⟩
 |_=>none
def V.un(l:List (PV aH)):Option V:=match l with
 | [.int .u8 c,.int .i64 x]=>some ⟨c,x⟩
 |_=>none
def I.un(k:IntKind)(l:List (PV aH)):Option Int:=match l with
 | [.int k' x]=>if k'=k then some x else none
 |_=>none
def L.un(t)(v:PV aH):Option (List (aH t)):=match v with
 |.dD t' l _=>Cm t t' l
 |.nil .aO=>some []
 |_=>none
def Rw.un(l:List (PV aH)):Option Rw:=match l with
 | [a,b,.int .u8 c,.int .i64 x]=>match L.un 3 a,L.un 3 b with
  |some a,some b=>some ⟨a,b,⟨c,x⟩⟩
  |_,_=>none
 |_=>none
def Br.un(l:List (PV aH)):Option Br:=match l with
 | [.int .i64 x,a]=>match L.un 3 a with
  |some a=>some ⟨x,a⟩
  |none=>none
 |_=>none
def Tb.un(l:List (PV aH)):Option (List Rw):=match l with
 | [a]=>L.un 900009 a
 |_=>none
def Vs.un(l:List (PV aH)):Option (List V):=match l with
 | [a]=>L.un 39 a
 |_=>none
def Ld.un(l:List (PV aH)):Option Ld:=match l with
 | [a,b]=>match L.un 3 a,L.un 39 b with
  |some a,some b=>some ⟨a,b⟩
  |_,_=>none
 |_=>none
def Dg.un(l:List (PV aH)):Option Dg:=match l with
 | [a,b,c,d,.int .i64 r]=>match L.un 3 a,L.un 3 b,L.un 39 c,L.un 105 d with
  |some a,some b,some c,some d=>some ⟨a,b,c,d,r⟩
  |_,_,_,_=>none
 |_=>none
def Is.un(l:List (PV aH)):Option LI0:=match l with
 | [a]=>L.un 3 a
 |_=>none
def Fc.un(l:List (PV aH)):Option Fc:=match l with
 |.str n::r=>(Dg.un r).map (⟨n,·⟩)
 |_=>none
def Pc.un(l:List (PV aH)):Option Pc:=match l with
 | [.int .u64 n,.bool b]=>some ⟨n,b⟩
 |_=>none
def Bl.un(l:List (PV aH)):Option Bool:=match l with
 | [.bool b]=>some b
 |_=>none
def Bs.un(l:List (PV aH)):Option (List Bool):=match l with
 | [a]=>L.un 4 a
 |_=>none
def Kd.enc:(k:Kd)->k.T->List (PV aH)
 |.i64=>fun n=>[.int .i64 n]
 |.u8=>fun n=>[.int .u8 n]
 |.u16=>fun n=>[.int .u16 n]
 |.u64=>fun n=>[.int .u64 n]
 |.dg=>Dg.ps
 |.is=>fun l=>[lI l]
 |.fc=>Fc.ps
 |.pc=>Pc.ps
 |.bl=>fun b=>[.bool b]
 |.bs=>fun l=>[lB l]
 |.b=>B.ps
 |.o=>O.ps
 |.k=>K.ps
 |.v=>V.ps
 |.rw=>Rw.ps
 |.br=>Br.ps
 |.tb=>fun l=>[lRw l]
 |.vs=>fun l=>[lV l]
 |.ld=>Ld.ps
 |.no=>fun _=>[]
def Kd.dec:(k:Kd)->List (PV aH)->Option k.T
 |.i64=>I.un .i64
 |.u8=>I.un .u8
 |.u16=>I.un .u16
 |.u64=>I.un .u64
 |.dg=>Dg.un
 |.is=>Is.un
 |.fc=>Fc.un
 |.pc=>Pc.un
 |.bl=>Bl.un
 |.bs=>Bs.un
 |.b=>B.un
 |.o=>O.un
 |.k=>K.un
 |.v=>V.un
 |.rw=>Rw.un
 |.br=>Br.un
 |.tb=>Tb.un
 |.vs=>Vs.un
 |.ld=>Ld.un
 |.no=>fun _=>none
def X0:mV:=⟨aH,fun t=>(kd t).z,fun t=>(kd t).enc,fun t=>(kd t).dec⟩
theorem B.wK{l b}(h:B.un l=some b):B.ps b=l:=by
 unfold B.un at h;split at h
 .cases h;rfl
 cases h
theorem O.wK{l b}(h:O.un l=some b):O.ps b=l:=by
 unfold O.un at h;split at h
 .cases h;rfl
 cases h
theorem K.wK{l b}(h:K.un l=some b):K.ps b=l:=by
 unfold K.un at h;split at h
 .cases h;rfl
 cases h
theorem V.wK{l b}(h:V.un l=some b):V.ps b=l:=by
 unfold V.un at h;split at h
 .cases h;rfl
 cases h
theorem I.wK{k l b}(h:I.un k l=some b):[PV.int k b]=l:=by
 unfold I.un at h;split at h
 .split at h
  .rename_i e;cases h;rw[e]
  cases h
 cases h
section
variable{A:Nat->Prop}{m:List MB}{h:List HB}
theorem L.jk{t v l}(hu:L.un t v=some l){x}(hv:VR X0 Tryz.prog A m h v x):VR X0 Tryz.prog A m h (.dD t l false) x:=(a7P (X:=X0) (P:=Tryz.prog) t).ok (a:=l) (v:=v) (by
 cases v with
 |nil k=>cases k<;>first|exact hu|cases hu
 |dD t' l' f=>exact hu
 |_=>cases hu) hv
theorem Rw.jk{l r}(hu:Rw.un l=some r){xs}(hv:bZ X0 Tryz.prog A m h l xs):bZ X0 Tryz.prog A m h r.ps xs:=by
 unfold Rw.un at hu;split at hu
 .split at hu
  .rename_i e1 e2;cases hu;obtain⟨x1,r1,rfl,h1,hv⟩:=hv.inv;obtain⟨x2,r2,rfl,h2,hv⟩:=hv.inv;exact .cons (L.jk e1 h1) (.cons (L.jk e2 h2) hv)
  cases hu
 cases hu
theorem Br.jk{l r}(hu:Br.un l=some r){xs}(hv:bZ X0 Tryz.prog A m h l xs):bZ X0 Tryz.prog A m h r.ps xs:=by
 unfold Br.un at hu;split at hu
 .split at hu
  .rename_i e1;cases hu;obtain⟨x1,r1,rfl,h1,hv⟩:=hv.inv;obtain⟨x2,r2,rfl,h2,hv⟩:=hv.inv;exact .cons h1 (.cons (L.jk e1 h2) hv)
  cases hu
 cases hu
theorem Ld.jk{l r}(hu:Ld.un l=some r){xs}(hv:bZ X0 Tryz.prog A m h l xs):bZ X0 Tryz.prog A m h r.ps xs:=by
 unfold Ld.un at hu;split at hu
 .split at hu
  .rename_i e1 e2;cases hu;obtain⟨x1,r1,rfl,h1,hv⟩:=hv.inv;obtain⟨x2,r2,rfl,h2,hv⟩:=hv.inv;exact .cons (L.jk e1 h1) (.cons (L.jk e2 h2) hv)
  cases hu
 cases hu
theorem Tb.jk{l r}(hu:Tb.un l=some r){xs}(hv:bZ X0 Tryz.prog A m h l xs):bZ X0 Tryz.prog A m h [lRw r] xs:=by
 rcases l with _|⟨a,_|⟨b,l⟩⟩
 .cases hu
 .obtain⟨x1,r1,rfl,h1,hv⟩:=hv.inv;exact .cons (L.jk hu h1) hv
 cases hu
theorem Vs.jk{l r}(hu:Vs.un l=some r){xs}(hv:bZ X0 Tryz.prog A m h l xs):bZ X0 Tryz.prog A m h [lV r] xs:=by
 rcases l with _|⟨a,_|⟨b,l⟩⟩
 .cases hu
 .obtain⟨x1,r1,rfl,h1,hv⟩:=hv.inv;exact .cons (L.jk hu h1) hv
 cases hu
theorem Dg.jk{l r}(hu:Dg.un l=some r){xs}(hv:bZ X0 Tryz.prog A m h l xs):bZ X0 Tryz.prog A m h r.ps xs:=by
 unfold Dg.un at hu;split at hu
 .split at hu
  .rename_i e1 e2 e3 e4;cases hu;obtain⟨x1,r1,rfl,h1,hv⟩:=hv.inv;obtain⟨x2,r2,rfl,h2,hv⟩:=hv.inv;obtain⟨x3,r3,rfl,h3,hv⟩:=hv.inv;obtain⟨x4,r4,rfl,h4,hv⟩:=hv.inv;exact .cons (L.jk e1 h1) (.cons (L.jk e2 h2) (.cons (L.jk e3 h3) (.cons (L.jk e4 h4) hv)))
  cases hu
 cases hu
theorem Is.jk{l r}(hu:Is.un l=some r){xs}(hv:bZ X0 Tryz.prog A m h l xs):bZ X0 Tryz.prog A m h [lI r] xs:=by
 rcases l with _|⟨a,_|⟨b,l⟩⟩
 .cases hu
 .obtain⟨x1,r1,rfl,h1,hv⟩:=hv.inv;exact .cons (L.jk hu h1) hv
 cases hu
theorem Bs.jk{l r}(hu:Bs.un l=some r){xs}(hv:bZ X0 Tryz.prog A m h l xs):bZ X0 Tryz.prog A m h [lB r] xs:=by
 rcases l with _|⟨a,_|⟨b,l⟩⟩
 .cases hu
 .obtain⟨x1,r1,rfl,h1,hv⟩:=hv.inv;exact .cons (L.jk hu h1) hv
 cases hu
theorem Bl.wK{l b}(h:Bl.un l=some b):[PV.bool b]=l:=by
 unfold Bl.un at h;split at h
 .cases h;rfl
 cases h
theorem Fc.jk{l r}(hu:Fc.un l=some r){xs}(hv:bZ X0 Tryz.prog A m h l xs):bZ X0 Tryz.prog A m h r.ps xs:=by
 unfold Fc.un at hu;split at hu
 .obtain⟨d,e1,rfl⟩:=a0A.1 hu;obtain⟨x1,r1,rfl,h1,hv⟩:=hv.inv;exact .cons h1 (Dg.jk e1 hv)
 cases hu
theorem Pc.wK{l b}(h:Pc.un l=some b):Pc.ps b=l:=by
 unfold Pc.un at h;split at h
 .cases h;rfl
 cases h
theorem abC:∀(k:Kd) {l} {a:k.T},k.dec l=some a->∀{xs},bZ X0 Tryz.prog A m h l xs->bZ X0 Tryz.prog A m h (k.enc a) xs
 |.i64,_,_,e,_,hv=>by rw[show Kd.enc .i64 _=_ from I.wK e];exact hv
 |.u8,_,_,e,_,hv=>by rw[show Kd.enc .u8 _=_ from I.wK e];exact hv
 |.u16,_,_,e,_,hv=>by rw[show Kd.enc .u16 _=_ from I.wK e];exact hv
 |.u64,_,_,e,_,hv=>by rw[show Kd.enc .u64 _=_ from I.wK e];exact hv
 |.dg,_,_,e,_,hv=>Dg.jk e hv
 |.is,_,_,e,_,hv=>Is.jk e hv
 |.fc,_,_,e,_,hv=>Fc.jk e hv
 |.pc,_,_,e,_,hv=>by rw[show Kd.enc .pc _=_ from Pc.wK e];exact hv
 |.bl,_,_,e,_,hv=>by rw[show Kd.enc .bl _=_ from Bl.wK e];exact hv
 |.bs,_,_,e,_,hv=>Bs.jk e hv
 |.b,_,_,e,_,hv=>by rw[show Kd.enc .b _=_ from B.wK e];exact hv
 |.o,_,_,e,_,hv=>by rw[show Kd.enc .o _=_ from O.wK e];exact hv
 |.k,_,_,e,_,hv=>by rw[show Kd.enc .k _=_ from K.wK e];exact hv
 |.v,_,_,e,_,hv=>by rw[show Kd.enc .v _=_ from V.wK e];exact hv
 |.rw,_,_,e,_,hv=>Rw.jk e hv
 |.br,_,_,e,_,hv=>Br.jk e hv
 |.tb,_,_,e,_,hv=>Tb.jk e hv
 |.vs,_,_,e,_,hv=>Vs.jk e hv
 |.ld,_,_,e,_,hv=>Ld.jk e hv
 |.no,_,_,e,_,_=>by cases e
end
theorem a4N:∀(k:Kd) (a),jH.IJ (k.enc a)=true:=by intro k a;cases k<;>rfl
theorem hX:bT X0 Tryz.prog:=⟨fun{t} vs a e {A m hh xs} hv=>abC (kd t) e hv,fun t a=>a4N (kd t) a⟩
abbrev Arg(α:Type):=Ar X0 Tryz.prog α
def iA:Arg Int:=ags .i64
def uA:Arg Int:=ags .u8
def tA:Arg Bool:=akf
def vA:Arg V:=akg hX 39
def brA:Arg Br:=akg hX 105
def qC:Arg LI0:=a7P 3
def vsA:Arg (List V):=a7P 39
def abD:Arg (List Br):=a7P 105
def a4P:Arg (List Dg):=a7P 26
def pA:Arg Int:=ags .u64
def dA:Arg Dg:=agu (a7Q (Nw qC (a4 qC vsA abD iA))) (fun p=>⟨p.1,p.2.1,p.2.2.1,p.2.2.2.1,p.2.2.2.2⟩) (fun d=>(d.aj,d.aB,d.aK,d.au,d.root)) fun _=>rfl
abbrev LL:Nat:=2^24
abbrev Gd(gq:gZ aH):Prop:=Pv.Good X0 Tryz.prog T LL gq
abbrev iw(n:Nat):dO:=kW Tryz.prog T LL n
theorem SB:ah<LL:=by decide
abbrev Lp(n f k:Nat)(s:bV aH)(e:Ex)(s':bV aH):Prop:=dS X0 Tryz.prog T (iw n) LL f false (Df Tryz.prog f) 0 (.loop (Ua Tryz.prog f k)) s e s'
abbrev Ok(n:Nat)(gq:gZ aH):Prop:=jT X0 Tryz.prog (iw n) gq
abbrev xi(n:Int):PE aH:=.val (.int .i64 n)
abbrev xl(b:Bool):PE aH:=.val (.lit b)
abbrev xL(t:Nat)(l:List (aH t)):PE aH:=.val (.dD t l false)
abbrev xo(b:Nat):PE aH:=.val (.own b)
theorem le0:0<=ah:=by decide
theorem le1:1<=ah:=by decide
theorem ZC:2<=ah:=by decide
theorem le3:3<=ah:=by decide
theorem le8:8<=LL:=by decide
theorem gU{n}:Ok n (abo (X:=X0)):=fun f vs v ext ps h=>by cases h
abbrev Oi(n f k B:Nat)(s:bV aH)(e:Ex)(s':bV aH):Prop:=dS X0 Tryz.prog T (iw n) LL f false (Df Tryz.prog f) B (.loop (Ua Tryz.prog f k)) s e s'
abbrev Qp:LI1:=Tryz.prog
abbrev iW(n:Nat):=dK X0 Tryz.prog (iw n)
theorem iE{α:Type}{a:α}{l:List α}:a∈a::l:=.head _
theorem zq{α:Type}{a b:α}{l:List α}:a∈b::a::l:=.tail _ (.head _)
theorem hh2{α:Type}{a b c:α}{l:List α}:a∈b::c::a::l:=.tail _ (.tail _ (.head _))
theorem aP{β:Type}{n f:Nat}{gq:gZ aH}(hO:Ok n gq){vs:List (PV aH)}{an:PT aH}{r:Ar X0 Tryz.prog β}{s:β}{o:OT (Option (PV aH))}(ht:Fp (Is r s) an o)(hk:(DV X0 Tryz.prog T gq (dK X0 Tryz.prog (iw n)) (CG X0 Tryz.prog T (iw n) LL f 0) LL f vs [] an).map frz=o:=by kernel_rfl):nI X0 Tryz.prog (iw (n+1)) f vs (r.put s) []:=aki hX hO hk ht
theorem jI{β:Type}{n f:Nat}{gq:gZ aH}(hO:Ok n gq){first xs cap:List (PV aH)}{H H1:List (PB aH)}{an:PT aH}{r:Ar X0 Tryz.prog β}{s:β}{o:OT (PV aH×List (PB aH))}(ht:Fp (IsS r s H1) an o)(hk:DV X0 Tryz.prog T gq (dK X0 Tryz.prog (iw n)) (CG X0 Tryz.prog T (iw n) LL f H.length) LL f (first++xs++cap) H an=o:=by kernel_rfl):dK X0 Tryz.prog (iw (n+1)) (.fn f first cap) xs H (r.put s) H1:=E8 hX hO hk ht
theorem fK{n f:Nat}{gq:gZ aH}(hO:Ok n gq){first xs cap:List (PV aH)}{H H1:List (PB aH)}{v:PV aH}{an:PT aH}{o:OT (PV aH×List (PB aH))}(ht:Fp (IsE (X:=X0) v H1) an o)(hk:DV X0 Tryz.prog T gq (dK X0 Tryz.prog (iw n)) (CG X0 Tryz.prog T (iw n) LL f H.length) LL f (first++xs++cap) H an=o:=by kernel_rfl):dK X0 Tryz.prog (iw (n+1)) (.fn f first cap) xs H v H1:=nS hX hO hk ht
theorem aN{call:dO}{gq:gZ aH}{L f:Nat}{iy:Bool}{nt B:Nat}(hO:jT X0 Tryz.prog call gq){b:Code}{n:Nat}{ps:bV aH}{an:PT aH}{e:Ex}{s:bV aH}{o:OT (Ex×bV aH)}(ht:Fp (Rnd X0 Tryz.prog T call L f iy nt B b n e s) an o)(hk:jY X0 Tryz.prog T gq (dK X0 Tryz.prog call) (dS X0 Tryz.prog T call L f iy nt B) B L f iy nt b ps an (agr (gY X0 (T.eY f (dZ b))) B)=o:=by kernel_rfl):dP X0 Tryz.prog T call L f iy nt B b (n+1) ps e s:=round hX hO hk ht
abbrev a8l(f:Nat)(a c:List (PV aH))(H:List (PB aH))(l:LI0)(i:Int)(x:List (Nat×PE aH)):bV aH:=⟨[(0,xL 3 l),(1,.val (.fn f a c)),(7,xi l.length),(8,xi i)]++x,[],H⟩
def z218(f:Nat)(a c:List (PV aH))(H:List (PB aH))(l:LI0):Unit⊕(Nat×Int×Unit)->Ex×bV aH
 |.inl _=>(.exit 0,a8l f a c H l l.length [(9,xl false)])
 |.inr r=>(.ret,⟨[(4,xi r.1)],[],H⟩)
theorem aqJ{n f:Nat}{a c:List (PV aH)}{H:List (PB aH)}{g}(hf:∀x,iW n (.fn f a c) [.int .i64 x] H (.bool (g x)) H)(l:LI0)(hl:l.length<=ah):iW (n+1) (.fn 218 [] []) [.dD 3 l false,.fn f a c] H (iA.put (sS g l)) H:=by
 have lp:Oi n 218 0 H.length (a8l f a c H l 0 []) (z218 f a c H l (nG (qB g) l 0 ())).1 (z218 f a c H l (nG (qB g) l 0 ())).2:=
  Yb (st:=fun i _=>a8l f a c H l i []) (0:Int) (fun _ _=>True) (by kernel_rfl) hl SB trivial (fun k s n hk _ ih=>aN gU (.b (bg hk) (.o (aG hk) (.k (hf (l.getD k (0:Int))) (.ls (.ou nofun) (.nx (ih _ trivial))))))) (fun s _=>aN gU (.b (fC l.length) (.ou nofun)))
 exact jI gU (first:=[]) (cap:=[]) (.szh (fun h=>.w (l7 lp () h) .sr) (fun h=>.w (l9 lp (0,0,()) h) .sr))
theorem akH{n f:Nat}(hn:0<n){a c:List (PV aH)}{H:List (PB aH)}{g}(hf:∀x,dK X0 Qp (iw (n-1)) (.fn f a c) [.int .i64 x] H (.bool (g x)) H)(l:LI0)(hl:l.length<=ah):iW (n+1) (.fn 181 [] []) [.dD 3 l false,.fn f a c] H (tA.put (nJ g l)) H:=by have h1:=aqJ hf l hl;rw[show n-1+1=n by omega]at h1;exact jI gU (first:=[]) (cap:=[]) (.k h1 .sr)
abbrev agT(f:Nat)(a c:List (PV aH))(H:List (PB aH))(l:List V)(i:Int)(x:List (Nat×PE aH)):bV aH:=⟨[(0,xL 39 l),(1,.val (.fn f a c)),(7,xi l.length),(8,xi i)]++x,[],H⟩
def akI(f:Nat)(a c:List (PV aH))(H:List (PB aH))(l:List V):Unit⊕(Nat×V×Unit)->Ex×bV aH
 |.inl _=>(.exit 0,agT f a c H l l.length [(9,xl false)])
 |.inr r=>(.ret,⟨[(4,xi r.1)],[],H⟩)
theorem akJ{n f:Nat}{a c:List (PV aH)}{H:List (PB aH)}{g}(hf:∀x,iW n (.fn f a c) [.agg x.ps] H (.bool (g x)) H)(l:List V)(hl:l.length<=ah):iW (n+1) (.fn 155 [] []) [.dD 39 l false,.fn f a c] H (iA.put (iQ g l)) H:=by
 have lp:Oi n 155 0 H.length (agT f a c H l 0 []) (akI f a c H l (nG (jL g) l 0 ())).1 (akI f a c H l (nG (jL g) l 0 ())).2:=
  Yb (st:=fun i _=>agT f a c H l i []) V0 (fun _ _=>True) (by kernel_rfl) hl SB trivial (fun k s n hk _ ih=>aN gU (.b (bg hk) (.o (aG hk) (.k (hf (l.getD k V0)) (.ls (.ou nofun) (.nx (ih _ trivial))))))) (fun s _=>aN gU (.b (fC l.length) (.ou nofun)))
 exact jI gU (first:=[]) (cap:=[]) (.szh (fun h=>.w (l7 lp () h) .sr) (fun h=>.w (l9 lp (0,V0,()) h) .sr))
theorem agU{n f:Nat}(hn:0<n){a c:List (PV aH)}{H:List (PB aH)}{g}(hf:∀x,dK X0 Qp (iw (n-1)) (.fn f a c) [.agg x.ps] H (.bool (g x)) H)(l:List V)(hl:l.length<=ah):iW (n+1) (.fn 152 [] []) [.dD 39 l false,.fn f a c] H (tA.put (qG g l)) H:=by have h1:=akJ hf l hl;rw[show n-1+1=n by omega]at h1;exact jI gU (first:=[]) (cap:=[]) (.k h1 .sr)
def adJ:gZ aH:=cu 219 (a1 iA) tA (fun p=>Wn p) np (abo (X:=X0))
theorem akK:Gd adJ:=Good.nil.add fun n hO p hp=>aP hO .rr
def adK:gZ aH:=cu 141 (a1 uA) vA (fun p=>Ji p) np adJ
theorem akL:Gd adK:=akK.add fun n hO p hp=>aP hO .rr
def adL:gZ aH:=cu 140 (a3 iA iA qC) tA (fun p=>wY p.2.2 p.1 p.2.1) (fun p=>[p.2.2.length<=ah]) adK
theorem akM:Gd adL:=akL.deep 3 fun n hn hO p hp=>by have h1:∀x,dK X0 Qp (iw (n-3+1)) (.fn 182 [] [.ptr 0 0 1,.ptr 1 0 1]) [.int .i64 x] [.cells [.int .i64 p.1],.cells [.int .i64 p.2.1]] (tA.put (uQ x p.1 p.2.1)) [.cells [.int .i64 p.1],.cells [.int .i64 p.2.1]]:=fun x=>jI gU (first:=[]) (.ssh (fun _=>.sr) (fun _=>.sr));obtain⟨n,rfl⟩:∃k,n=k+3:=⟨n-3,by omega⟩;rw[show n+3-3+1=n+1 by omega]at h1;have h2:=akH (n:=n+2) (by omega) (g:=fun x=>uQ x p.1 p.2.1) h1 p.2.2 (hp _ iE);exact aP (hO _ (by omega)) (.k h2 (.v (!(nJ (fun x=>uQ x p.1 p.2.1) p.2.2)) (by rw[Fj];rfl)))
theorem nan(x):Wn x=false:=by simp[Wn]
def adM:gZ aH:=cu 154 (a1 vA) tA (fun p=>y9 p) np adL
theorem akN:Gd adM:=akM.add fun n hO p hp=>aP hO (.ss (.o le1 .rr) (.ss .rr .rr))
def adN:gZ aH:=cu 100 (a1 iA) vA (fun p=>pG p) np adM
theorem akO:Gd adN:=akN.add fun n hO p hp=>aP hO (.o le1 (.ss .rr .rr))
def adO:gZ aH:=cu 186 (a1 tA) vA (fun p=>Qx p) np adN
theorem akP:Gd adO:=akO.add fun n hO p hp=>aP hO (.ss .rr .rr)
def adP:gZ aH:=cu 156 (a1 vA) tA (fun p=>oK p) np adO
theorem akQ:Gd adP:=akP.add fun n hO p hp=>aP hO .rr
def adQ:gZ aH:=cu 153 (a1 vA) tA (fun p=>BI p) np adP
theorem akR:Gd adQ:=akQ.add fun n hO p hp=>aP hO .rr
def adR:gZ aH:=cu 142 (a2 iA iA) vA (fun p=>KX p.1 p.2) np adQ
theorem akS:Gd adR:=akR.add fun n hO p hp=>aP hO .rr
def adS:gZ aH:=cu 143 (a2 iA iA) vA (fun p=>KY p.1 p.2) np adR
theorem akT:Gd adS:=akS.add fun n hO p hp=>aP hO .rr
def adT:gZ aH:=cu 144 (a2 iA iA) vA (fun p=>KZ p.1 p.2) np adS
theorem akU:Gd adT:=akT.add fun n hO p hp=>aP hO .rr
def adU:gZ aH:=cu 146 (a2 iA iA) iA (fun p=>Ej p.1 p.2) np adT
theorem akV:Gd adU:=akU.add fun n hO p hp=>aP hO .rr
def adV:gZ aH:=cu 147 (a2 iA iA) iA (fun p=>Em p.1 p.2) np adU
theorem akW:Gd adV:=akV.add fun n hO p hp=>aP hO .rr
def adW:gZ aH:=cu 149 (a1 iA) tA (fun p=>En p) np adV
theorem akX:Gd adW:=akW.add fun n hO p hp=>aP hO .rr
def adX:gZ aH:=cu 150 (a1 iA) tA (fun p=>Eo p) np adW
theorem akY:Gd adX:=akX.add fun n hO p hp=>aP hO .rr
def adY:gZ aH:=cu 151 (a1 iA) tA (fun p=>Ep p) np adX
theorem akZ:Gd adY:=akY.add fun n hO p hp=>aP hO .rr
def adZ:gZ aH:=cu 184 (a2 iA iA) (dQ (a2 iA iA)) (fun p=>vW p.1 p.2) (fun p=>[p.2≠0]) adY
theorem al0:Gd adZ:=akZ.add fun n hO p hp=>aP hO (.o (hp _ iE) (.o (hp _ iE) (.ss (.ss .rr .rr) .rr)))
def ae0:gZ aH:=cu 187 (a2 iA iA) iA (fun p=>KW p.1 p.2) np adZ
theorem al1:Gd ae0:=al0.add fun n hO p hp=>aP hO (.b (nan p.1) (.b (nan p.2) (.ss .rr (.ss .rr .rr))))
theorem aqK{n gq}(hO:Ok n gq)(ho:∀x,gq 156 [.agg x.ps]=some (.bool (oK x),[],[]))(H:List (PB aH))(x):iW n (.fn 156 [] []) [.agg x.ps] H (.bool (oK x)) H:=
 Oe hX hO (first:=[]) (cap:=[]) (vs:=[.agg x.ps]) (v:=.bool (oK x)) rfl (ho x) (fun p h=>by cases h) rfl
theorem aqL{n gq}(hO:Ok n gq)(ho:∀x,gq 153 [.agg x.ps]=some (.bool (BI x),[],[]))(H:List (PB aH))(x):iW n (.fn 153 [] []) [.agg x.ps] H (.bool (BI x)) H:=
 Oe hX hO (first:=[]) (cap:=[]) (vs:=[.agg x.ps]) (v:=.bool (BI x)) rfl (ho x) (fun p h=>by cases h) rfl
def ae1:gZ aH:=cu 103 (a1 vsA) (dQ (a2 vA tA)) (fun p=>bU p) (fun p=>[p.length<=ah]) ae0
theorem al2:Gd ae1:=al1.deep 2 fun n hn hO p hp=>by have hs:=akJ (n:=n-1) (H:=[]) (g:=fun v=>oK v) (aqK (hO (n-1) (by omega)) (fun _=>rfl) []) p (hp _ iE);rw[show n-1+1=n by omega]at hs;exact aP (hO n (by omega)) (.k hs (.sh (fun h=>.rr) (fun h=>.o (show gG (iQ (fun v=>oK v) p) p.length from⟨by simpa using h,SA _ _⟩) .rr)))
def ae2:gZ aH:=cu 102 (a1 vsA) tA (fun p=>iG p) (fun p=>[p.length<=ah]) ae1
theorem al3:Gd ae2:=al2.deep 3 fun n hn hO p hp=>by have hs:=agU (n:=n-1) (by omega) (H:=[]) (g:=fun v=>BI v) (aqL (hO (n-2) (by omega)) (fun _=>rfl) []) p (hp _ iE);rw[show n-1+1=n by omega]at hs;exact aP (hO n (by omega)) (.k hs (.v (!(qG (fun v=>BI v) p)) (by rw[KU];rfl)))
def al4:gZ aH:=cu 99 (a3 vA vA vA) (dQ (a2 vA iA)) (fun p=>jV p.1 p.2.1 p.2.2) np ae2
theorem aqM:Gd al4:=al3.add fun n hO p hp=>aP hO (.o le3 (.ss .rr (.ss .rr (.ss .rr .rr))))
def al5:Arg Nat where
 put f:=.fn f [] []
 get v:=match v with
  |.fn g [] []=>some g
  |_=>none
 ok:=by
  intro v a hg A m h x hv;split at hg
  .cases hg;exact hv
  .cases hg
def ae3:gZ aH:=Yd 145 (a1 al5) (fun _=>.fn 183 [] [.ptr 0 0 1]) (fun g=>[.cells [.fn g [] []]]) np al4
theorem al6:Gd ae3:=aqM.Uc 0 fun n _ hO p hp=>Ad hX (hO n (by omega)) (by kernel_rfl) .er
def ae4:gZ aH:=Yd 148 (a1 al5) (fun _=>.fn 185 [] [.ptr 0 0 1]) (fun g=>[.cells [.fn g [] []]]) np ae3
theorem al7:Gd ae4:=al6.Uc 0 fun n _ hO p hp=>Ad hX (hO n (by omega)) (by kernel_rfl) .er
def aqN(p:Int):PV aH:=if p=7 then .fn 142 [] []else if p=8 then .fn 143 [] []else if p=9 then .fn 144 [] []else if p=10 then .fn 183 [] [.ptr 0 0 1]else if p=11 then .fn 183 [] [.ptr 0 0 1]else .fn 185 [] [.ptr 0 0 1]
def aqO(p:Int):List (PB aH):=if p=10 then [.cells [.fn 146 [] []]]else if p=11 then [.cells [.fn 147 [] []]]else if p=12 then [.cells [.fn 149 [] []]]else if p=13 then [.cells [.fn 150 [] []]]else if p=14 then [.cells [.fn 151 [] []]]else []
def QC:gZ aH:=Yd 101 (a1 uA) aqN aqO (fun p=>[7<=p/\p<=14]) ae4
theorem seven{p:Int}(h:7<=p/\p<=14):p=7\/p=8\/p=9\/p=10\/p=11\/p=12\/p=13\/p=14:=by omega
theorem al8:Gd QC:=al7.Uc 0 fun n _ hO p hp=>by
 rcases seven (hp _ iE)with rfl|rfl|rfl|rfl|rfl|rfl|rfl|rfl
 .exact Ad hX (hO n (by omega)) (by kernel_rfl) (.b aiH .er)
 .exact Ad hX (hO n (by omega)) (by kernel_rfl) (.b aiC (.b aiH .er))
 .exact Ad hX (hO n (by omega)) (by kernel_rfl) (.b aiC (.b aiC (.b aiH .er)))
 .exact Ad hX (hO n (by omega)) (by kernel_rfl) (.b aiC (.b aiC (.b aiC (.b aiH .er))))
 .exact Ad hX (hO n (by omega)) (by kernel_rfl) (.b aiC (.b aiC (.b aiC (.b aiC (.b aiH .er)))))
 .exact Ad hX (hO n (by omega)) (by kernel_rfl) (.b aiC (.b aiC (.b aiC (.b aiC (.b aiC (.b aiH .er))))))
 .exact Ad hX (hO n (by omega)) (by kernel_rfl) (.b aiC (.b aiC (.b aiC (.b aiC (.b aiC (.b aiC (.b aiH .er)))))))
 .exact Ad hX (hO n (by omega)) (by kernel_rfl) (.b aiC (.b aiC (.b aiC (.b aiC (.b aiC (.b aiC (.b aiC (.b aiH .er))))))))
theorem abE{n}(hO:Ok n QC)(a b:V)(x y):iW (n+1) (.fn 183 [] [.ptr 0 0 1]) [.int .i64 x,.int .i64 y] [.cells [.fn 146 [] []],.list true true 39 [a,b],.list true true 39 [a,b]] (vA.put (iR Ej x y)) [.cells [.fn 146 [] []],.list true true 39 [a,b],.list true true 39 [a,b]]:=
 jI hO (first:=[]) (.ssh (fun _=>.sr) (fun h=>.o (show y≠0 by simpa using h) .sr))
theorem abG{n}(hO:Ok n QC)(a b:V)(x y):iW (n+1) (.fn 183 [] [.ptr 0 0 1]) [.int .i64 x,.int .i64 y] [.cells [.fn 147 [] []],.list true true 39 [a,b],.list true true 39 [a,b]] (vA.put (iR Em x y)) [.cells [.fn 147 [] []],.list true true 39 [a,b],.list true true 39 [a,b]]:=
 jI hO (first:=[]) (.ssh (fun _=>.sr) (fun h=>.o (show y≠0 by simpa using h) .sr))
theorem abH{n}(hO:Ok n QC)(a b:V)(x y):iW (n+1) (.fn 185 [] [.ptr 0 0 1]) [.int .i64 x,.int .i64 y] [.cells [.fn 149 [] []],.list true true 39 [a,b],.list true true 39 [a,b]] (vA.put (dW En x y)) [.cells [.fn 149 [] []],.list true true 39 [a,b],.list true true 39 [a,b]]:=
 jI hO (first:=[]) .sr
theorem abI{n}(hO:Ok n QC)(a b:V)(x y):iW (n+1) (.fn 185 [] [.ptr 0 0 1]) [.int .i64 x,.int .i64 y] [.cells [.fn 150 [] []],.list true true 39 [a,b],.list true true 39 [a,b]] (vA.put (dW Eo x y)) [.cells [.fn 150 [] []],.list true true 39 [a,b],.list true true 39 [a,b]]:=
 jI hO (first:=[]) .sr
theorem abJ{n}(hO:Ok n QC)(a b:V)(x y):iW (n+1) (.fn 185 [] [.ptr 0 0 1]) [.int .i64 x,.int .i64 y] [.cells [.fn 151 [] []],.list true true 39 [a,b],.list true true 39 [a,b]] (vA.put (dW Ep x y)) [.cells [.fn 151 [] []],.list true true 39 [a,b],.list true true 39 [a,b]]:=
 jI hO (first:=[]) .sr
def al9:gZ aH:=cu 45 (a3 uA vA vA) (dQ (a2 vA iA)) (fun p=>Jj p.1 p.2.1 p.2.2) (fun p=>[7<=p.1/\p.1<=16]) QC
theorem aqP:Gd al9:=al8.deep 1 fun n hn hO p hp=>by
 obtain⟨n,rfl⟩:∃k,n=k+1:=⟨n-1,by omega⟩;have D5:=hO n (by omega);have hO:=hO (n+1) (by omega);obtain⟨k,a,b⟩:=p;rcases nine (show 7<=k/\k<=16 from hp _ iE)with rfl|rfl|rfl|rfl|rfl|rfl|rfl|rfl|rfl|rfl
 .have:nI X0 Qp (iw (n+1+1)) 45 ((a3 uA vA vA).put (7,a,b)) ((dQ (a2 vA iA)).put (sV a b)) []:=aP hO (.b aiC (.b aiC (.o (by decide:(7:Int)<=7/\(7:Int)<=14) (.b aiC (.o ZC (.ss .rr (.o ZC (.ss .rr .rr))))))));exact this
 .have:nI X0 Qp (iw (n+1+1)) 45 ((a3 uA vA vA).put (8,a,b)) ((dQ (a2 vA iA)).put (sW a b)) []:=aP hO (.b aiC (.b aiC (.o (by decide:(7:Int)<=8/\(8:Int)<=14) (.b aiC (.o ZC (.ss .rr (.o ZC (.ss .rr .rr))))))));exact this
 .have:nI X0 Qp (iw (n+1+1)) 45 ((a3 uA vA vA).put (9,a,b)) ((dQ (a2 vA iA)).put (tC a b)) []:=aP hO (.b aiC (.b aiC (.o (by decide:(7:Int)<=9/\(9:Int)<=14) (.b aiC (.o ZC (.ss .rr (.o ZC (.ss .rr .rr))))))));exact this
 .have:nI X0 Qp (iw (n+1+1)) 45 ((a3 uA vA vA).put (10,a,b)) ((dQ (a2 vA iA)).put (pI a b)) []:=aP hO (.b aiC (.b aiC (.o (by decide:(7:Int)<=10/\(10:Int)<=14) (.b aiC (.o ZC (.ss .rr (.o ZC (.ss .rr (.k (abE D5 a b a.n b.n) .rr)))))))));exact this
 .have:nI X0 Qp (iw (n+1+1)) 45 ((a3 uA vA vA).put (11,a,b)) ((dQ (a2 vA iA)).put (pJ a b)) []:=aP hO (.b aiC (.b aiC (.o (by decide:(7:Int)<=11/\(11:Int)<=14) (.b aiC (.o ZC (.ss .rr (.o ZC (.ss .rr (.k (abG D5 a b a.n b.n) .rr)))))))));exact this
 .have:nI X0 Qp (iw (n+1+1)) 45 ((a3 uA vA vA).put (12,a,b)) ((dQ (a2 vA iA)).put (pK a b)) []:=aP hO (.b aiC (.b aiC (.o (by decide:(7:Int)<=12/\(12:Int)<=14) (.b aiC (.o ZC (.ss .rr (.o ZC (.ss .rr (.k (abH D5 a b a.n b.n) .rr)))))))));exact this
 .have:nI X0 Qp (iw (n+1+1)) 45 ((a3 uA vA vA).put (13,a,b)) ((dQ (a2 vA iA)).put (pO a b)) []:=aP hO (.b aiC (.b aiC (.o (by decide:(7:Int)<=13/\(13:Int)<=14) (.b aiC (.o ZC (.ss .rr (.o ZC (.ss .rr (.k (abI D5 a b a.n b.n) .rr)))))))));exact this
 .have:nI X0 Qp (iw (n+1+1)) 45 ((a3 uA vA vA).put (14,a,b)) ((dQ (a2 vA iA)).put (pR a b)) []:=aP hO (.b aiC (.b aiC (.o (by decide:(7:Int)<=14/\(14:Int)<=14) (.b aiC (.o ZC (.ss .rr (.o ZC (.ss .rr (.k (abJ D5 a b a.n b.n) .rr)))))))));exact this
 .have:nI X0 Qp (iw (n+1+1)) 45 ((a3 uA vA vA).put (15,a,b)) ((dQ (a2 vA iA)).put (uS a b)) []:=aP hO (.b aiH .rr);exact this
 .have:nI X0 Qp (iw (n+1+1)) 45 ((a3 uA vA vA).put (16,a,b)) ((dQ (a2 vA iA)).put (uT a b)) []:=aP hO (.b aiC (.b aiH .rr));exact this
open Go Tw Pv bK
def ala:gZ aH:=cu 23 (a3 iA iA iA) tA (fun p=>nU p.1 p.2.1 p.2.2) np al9
theorem aqQ:Gd ala:=aqP.add fun n hO p hp=>aP hO (.ss .rr .rr)
abbrev MZ(a b:LI0)(k:Nat):Bool:=a.getD k 0 != b.getD k 0
abbrev w32(a b:LI0)(i:Int)(x:List (Nat×PE aH)):bV aH:=⟨[(0,xL 3 a),(1,xL 3 b),(5,xi i)]++x,[],[]⟩
def z32(a b:LI0):Unit⊕Nat->Ex×bV aH
 |.inl _=>(.exit 0,w32 a b a.length [(14,xl false)])
 |.inr _=>(.ret,⟨[(4,xl false)],[],[]⟩)
theorem l32{n gq}(hO:Ok n gq)(a b)(hl:a.length<=ah)(h:a.length=b.length):Lp n 32 0 (w32 a b 0 []) (z32 a b (bH (MZ a b) a.length)).1 (z32 a b (bH (MZ a b) a.length)).2:=
 Qh (st:=fun i _=>w32 a b i []) (fun _ _=>True) (by kernel_rfl) hl SB trivial (fun k s n hk _ ih=>aN hO (.b (bg hk) (.o (aG hk) (.o (aG (h▸hk)) (.ls (.ou nofun) (.nx (ih _ trivial))))))) (fun s _=>aN hO (.b (fC a.length) (.ou nofun)))
theorem Fq{a b}(h:a.length=b.length):kC (bH (MZ a b) a.length)=decide (a=b):=by rw[a5S,dL,a1x,pz (d:=0) h];simp[MZ]
theorem a8m{a b:LI0}(h:((a.length:Int) != (b.length:Int))=true):decide (a=b)=false:=by rw[a3G];rintro rfl;simp at h
theorem mJ{α β:Type}{a:List α}{b:List β}(h:((a.length:Int) != (b.length:Int))=false):a.length=b.length:=by simp at h;omega
def alb:gZ aH:=cu 32 (a2 qC qC) tA (fun p=>decide (p.1=p.2)) (fun p=>[p.1.length<=ah]) ala
theorem aqS:Gd alb:=aqQ.add fun n hO p hp=>aP hO (.s (fun h=>.v false (a8m h).symm) fun h=>.z (c:=kC (bH (MZ p.1 p.2) p.1.length)) (fun h2=>.w (l7 (l32 hO p.1 p.2 (hp _ iE) (mJ h)) () h2) (.v true (by rw[<-Fq (mJ h),h2]))) fun h2=>.w (l9 (l32 hO p.1 p.2 (hp _ iE) (mJ h)) 0 h2) (.v false (by rw[<-Fq (mJ h),h2])))
abbrev abK(a:LI0)(n i:Int)(x:List (Nat×PE aH)):bV aH:=⟨[(0,xL 3 a),(5,xi n),(6,xi i)]++x,[],[]⟩
theorem aqT{n gq}(hO:Ok n gq)(a)(hl:a.length<=ah):Lp n 104 0 (abK a 1 0 []) (.exit 0) (abK a (Gv a) a.length [(11,xl false)]):=
 Qi (st:=fun i n=>abK a n i []) (fin:=fun n=>abK a n a.length [(11,xl false)]) (fun _ _=>True) (by kernel_rfl) hl SB trivial (fun _ _ _ _=>trivial) (fun k s hk _ n e p h=>aN hO (.b (bg hk) (.o (aG hk) (.go h)))) (fun s _=>aN hO (.b (fC a.length) .ex))
def ae5:gZ aH:=cu 104 (a2 qC iA) iA (fun p=>Gv p.1) (fun p=>[p.1.length<=ah,p.2=0]) alb
theorem alc:Gd ae5:=aqS.add fun n hO p hp=>by obtain⟨a,k⟩:=p;have h0:k=0:=hp _ zq;subst h0;exact aP hO (.w (aqT hO a (hp _ iE)) .rr)
def agV:gZ aH:=cu 49 (a1 qC) iA (fun p=>Gv p) (fun p=>[p.length<=ah]) ae5
theorem aqU:Gd agV:=alc.add fun n hO p hp=>aP hO (.o (hp _ iE) (.o aiN .rr))
abbrev N7(b:LI0)(k j:Nat):Bool:=b.getD j 0==b.getD k 0
abbrev a4R(a b:LI0)(i:Int)(x:List (Nat×PE aH)):bV aH:=⟨[(0,xL 3 a),(1,xL 3 b),(5,xi i)]++x,[],[]⟩
def ae6(a b:LI0)(k:Int)(i:Int):Unit⊕Nat->Ex×bV aH
 |.inl _=>(.exit 2,a4R a b k [(6,xi i),(29,xl false)])
 |.inr _=>(.ret,⟨[(4,xl false)],[],[]⟩)
theorem ae7{n gq}(hO:Ok n gq)(a b k)(hl:k<=ah)(h:k<b.length):Lp n 109 1 (a4R a b k [(6,xi 0)]) (ae6 a b k k (bH (N7 b k) k)).1 (ae6 a b k k (bH (N7 b k) k)).2:=
 Qh (st:=fun i _=>a4R a b k [(6,xi i)]) (fun _ _=>True) (by kernel_rfl) hl SB trivial (fun j s n hk _ ih=>aN hO (.b (bg hk) (.o (aG (show j<b.length by omega)) (.o (aG h) (.ls (.ou nofun) (.nx (ih _ trivial))))))) (fun s _=>aN hO (.b (fC k) (.ou nofun)))
abbrev a0O(m:Int)(b:LI0)(k:Nat):Bool:=if(!(nU (b.getD k 0) 0 m))=true then true else if kC (bH (N7 b k) k)=true then false else true
def z109(a b:LI0):Unit⊕Nat->Ex×bV aH
 |.inl _=>(.exit 0,a4R a b b.length [(15,xl false)])
 |.inr _=>(.ret,⟨[(4,xl false)],[],[]⟩)
abbrev xw(s:LI0):Int:=i64.wrap ((s.length:Int)-1)
theorem ald{n}(hO:Ok n agV)(a b)(hl:b.length<=ah):Lp n 109 0 (a4R a b 0 []) (z109 a b (bH (a0O (xw a) b) b.length)).1 (z109 a b (bH (a0O (xw a) b) b.length)).2:=
 Qh (st:=fun i _=>a4R a b i []) (fun _ _=>True) (by kernel_rfl) hl SB trivial (fun k s n hk _ ih=>by
  unfold gS a0O;cases h1:(!(nU (b.getD k 0) 0 (xw a)))
  .cases h2:kC (bH (N7 b k) k)
   .exact aN hO (.b (bg hk) (.o (aG hk) (.b h1 (.w (l9 (ae7 hO a b k (by omega) hk) 0 h2) (.ou nofun)))))
   .exact aN hO (.b (bg hk) (.o (aG hk) (.b h1 (.w (l7 (ae7 hO a b k (by omega) hk) () h2) (.nx (ih _ trivial))))))
  .exact aN hO (.b (bg hk) (.o (aG hk) (.b h1 (.ou nofun))))
  ) (fun s _=>aN hO (.b (fC b.length) (.ou nofun)))
theorem a8n{s}(h:s.length<=ah):xw s=(s.length:Int)-1:=by unfold xw;unfold ah at h;exact fV (by omega) (by omega)
theorem wR{k lo hi}:nU k lo hi=true↔lo<=k/\k<=hi:=by
 unfold nU;split
 .rename_i h;simp at h ⊢;omega
 rename_i h;simp at h ⊢;omega
theorem YD{a b}(ha:a.length<=ah)(h:b.length=a.length):kC (bH (a0O (xw a) b) b.length)=kD a.length b:=by
 rw[a5S,dL,kD,a1x];have e1:(∀j,j<b.length->a0O (xw a) b j=false)↔(∀j,j<b.length->(0<=b.getD j 0/\b.getD j 0<a.length)/\∀i,i<j->b.getD i 0≠b.getD j 0):=by
  refine acJ fun j=>acJ fun hj=>?_;unfold a0O;rw[a8n ha];cases h1:nU (b.getD j 0) 0 ((a.length:Int)-1)
  .simp only[abf,a2p,afw,false_iff];intro h2;have:nU (b.getD j 0) 0 ((a.length:Int)-1)=true:=by rw[wR];omega
   rw[h1]at this;cases this
  have h3:0<=b.getD j 0/\b.getD j 0<a.length:=by rw[wR]at h1;omega
  simp only[aah,a2K,a3U,h3,adw,true_and];cases h2:kC (bH (N7 b j) j)
  .simp only[a2K,a3U,afw,false_iff];intro h4;have:kC (bH (N7 b j) j)=true:=dL.2 fun i hi=>(by simpa[N7]using h4 i hi);rw[h2]at this;cases this
  simp only[a2p,true_iff];intro i hi;have:=dL.1 h2 i hi;simpa[N7]using this
 rw[e1];constructor
 .intro hq;refine⟨h,(Qg (d:=0)).1 fun j hj=>(hq j hj).1,?_⟩;rw[ad6,aao];intro i j hi hj AZ;have:=(hq j hj).2 i AZ;simpa[List.getD,a0Q hi,a0Q hj]using this
 rintro⟨_,h2,h3⟩ j hj;refine⟨(Qg (d:=0)).2 h2 j hj,fun i hi=>?_⟩;rw[ad6,aao]at h3;have:=h3 i j (by omega) hj hi;simpa[List.getD,a0Q (show i<b.length by omega),a0Q hj]using this
theorem abL{a b:LI0}(h:((b.length:Int) != (a.length:Int))=true):kD a.length b=false:=by unfold kD;rw[a3G];rintro⟨h1,_⟩;rw[h1]at h;simp at h
def a8o:gZ aH:=cu 109 (a2 qC qC) tA (fun p=>kD p.1.length p.2) (fun p=>[p.1.length<=ah,p.2.length<=ah]) agV
theorem ale:Gd a8o:=aqU.add fun n hO p hp=>aP hO (.s (fun h=>.v false (abL h).symm) fun h=>.z (c:=kC (bH (a0O (xw p.1) p.2) p.2.length)) (fun h2=>.w (l7 (ald hO p.1 p.2 (hp _ zq)) () h2) (.v true (by rw[<-YD (hp _ iE) (mJ h),h2]))) fun h2=>.w (l9 (ald hO p.1 p.2 (hp _ zq)) 0 h2) (.v false (by rw[<-YD (hp _ iE) (mJ h),h2])))
abbrev cSz(a:LI0)(k:Nat):Bool:=!(nU (a.getD k 0) 1 12)
theorem abM{a}:kC (bH (cSz a) a.length)=decide (nZ a):=by rw[a5S,dL,a1x,nZ,<-Qg (d:=0)];refine acJ fun j=>acJ fun hj=>?_;simp only[cSz,abQ,wR]
abbrev w58(a b:LI0)(i:Int)(x:List (Nat×PE aH)):bV aH:=⟨[(0,xL 3 a),(1,xL 3 b),(5,xi i)]++x,[],[]⟩
def z58(a b:LI0):Unit⊕Nat->Ex×bV aH
 |.inl _=>(.exit 0,w58 a b a.length [(12,xl false)])
 |.inr _=>(.ret,⟨[(4,xi 3)],[],[]⟩)
theorem l58{n}(hO:Ok n a8o)(a b)(hl:a.length<=ah):Lp n 58 0 (w58 a b 0 []) (z58 a b (bH (cSz a) a.length)).1 (z58 a b (bH (cSz a) a.length)).2:=
 Qh (st:=fun i _=>w58 a b i []) (fun _ _=>True) (by kernel_rfl) hl SB trivial (fun k s n hk _ ih=>aN hO (.b (bg hk) (.o (aG hk) (.ls (.ou nofun) (.nx (ih _ trivial)))))) (fun s _=>aN hO (.b (fC a.length) (.ou nofun)))
def bn(s o:LI0):Int:=if decide ((s.length:Int)>6)=true then 5 else if kC (bH (cSz s) s.length)=true then(if decide (Gv s>2000)=true then 5 else if(!(kD s.length o))=true then 4 else 0)else 3
theorem abN{s:LI0}(h:decide ((s.length:Int)>6)=false):s.length<=6:=by simp at h;omega
theorem a2J{k}(h:k<=6):k<=ah:=by unfold ah;omega
def alg:gZ aH:=cu 58 (a2 qC qC) iA (fun p=>bn p.1 p.2) (fun p=>[p.2.length<=ah]) a8o
theorem aqW:Gd alg:=ale.add fun n hO p hp=>aP hO (.sh (fun _=>.rr) fun h=>.zh (fun h2=>.w (l7 (l58 hO p.1 p.2 (a2J (abN h))) () h2) (.o (a2J (abN h)) (.o aiN (.ss .rr (.o (a2J (abN h)) (.o (hp _ iE) (.ss .rr .rr))))))) fun h2=>.w (l9 (l58 hO p.1 p.2 (a2J (abN h))) 0 h2) .rr)
theorem QD(s o):bn s o=if 6<s.length then 5 else if nZ s then(if 2000<bF s then 5 else if kD s.length o=true then 0 else 4)else 3:=by
 unfold bn;rw[abM];by_cases h1:6<s.length
 .rw[a1e h1,a1e (by simp;omega)]
 rw[a18 h1,a18 (by simp;omega)];by_cases h2:nZ s
 .rw[a1e (by simpa using h2),a1e h2,Yj h2];by_cases h3:2000<bF s
  .rw[a1e h3,a1e (by simp;omega)]
  rw[a18 h3,a18 (by simp;omega)];cases kD s.length o<;>simp
 rw[a18 (by simpa using h2),a18 h2]
theorem iT{s o}:bn s o=0↔wC s/\kD s.length o=true:=by
 rw[QD];constructor
 .intro h;split at h
  .cases h
  split at h
  .split at h
   .cases h
   split at h
   .exact⟨⟨by omega,by assumption,by omega⟩,by assumption⟩
   cases h
  cases h
 rintro⟨⟨h1,h2,h3⟩,h4⟩;rw[a18 (by omega),a1e h2,a18 (by omega),a1e h4]
abbrev w53(a:LI0)(i:Int)(s:Int×LI0)(x:List (Nat×PE aH)):bV aH:=⟨[(0,xL 3 a),(1,xi s.1),(5,xo 0),(6,xi i)]++x,[],[.list true true 3 s.2]⟩
theorem szk{a}(hs:nZ a){k}(hk:k<a.length):a.getD k 0≠0:=by have:=hs _ (dG hk);omega
theorem agW(k:Nat):decide ((k:Int)>=0)=true:=by simp
theorem l53{n gq}(hO:Ok n gq)(a m)(hl:a.length<=ah)(hs:nZ a):Lp n 53 0 (w53 a (i64.wrap ((a.length:Int)-1)) (m,List.replicate a.length 0) []) (.exit 0) (w53 a (-1) (Qe (a4w a) a.length (m,List.replicate a.length 0)) [(14,xl false)]):=
 ako (st:=fun i s=>w53 a i s []) (fin:=fun s=>w53 a (-1) s [(14,xl false)]) (fun _ s=>s.2.length=a.length) (by kernel_rfl) hl SB (by simp) (fun k s _ h=>by simp[a4w,h]) (fun k s hk hi n e p h=>aN hO (.b (agW k) (.o (aG hk) (.o (szk hs hk) (.o (aG (show k<s.2.length by omega)) (.o (aG hk) (.o (szk hs hk) (.go h)))))))) (fun s _=>aN hO (.b (rfl:decide ((-1:Int)>=0)=false) .ex))
theorem mk1{α:Type}(l:List α):(l.length:Int)=(l.length:Int):=rfl
theorem mk2{α:Type}(l:List α):(0:Int)<=(l.length:Int):=by omega
theorem mk3{α:Type}{l:List α}(h:l.length<=ah):(l.length:Int)<=(ah:Int):=by omega
def alh:gZ aH:=cu 53 (a2 qC iA) qC (fun p=>fP p.1 p.2) (fun p=>[p.1.length<=ah,nZ p.1,0<=p.2,p.2<2^62]) alg
theorem aqX:Gd alh:=aqW.add fun n hO p hp=>aP hO (.o (mk1 p.1) (.o (mk2 p.1) (.o (mk3 (hp _ iE)) (.w (l53 hO p.1 p.2 (hp _ iE) (hp _ zq)) (.v (Qe (a4w p.1) p.1.length (p.2,List.replicate p.1.length 0)).2 (a7V (hp _ zq) (hp _ hh2) (hp _ (.tail _ (.tail _ (.tail _ (.head _))))) a7t))))))
def vOk(v:V):Bool:=if(v.f==0)=true then nU v.n (-9999) 9999 else if(decide (v.f<=4))=true then v.n==0 else false
def ali:gZ aH:=cu 29 (a1 vA) tA (fun p=>vOk p) np alh
theorem aqY:Gd ali:=aqX.add fun n hO p hp=>aP hO (.ss .rr (.ss .rr .rr))
def vIs(v:V):Bool:=if(decide (v.f>0))=true then(if(decide (v.f<=4))=true then v.n==0 else false)else nU v.n (-9999) 9999
theorem agX{v}(h:0<=v.f):vOk v=vIs v:=by
 unfold vOk vIs;by_cases h0:v.f=0
 .rw[a1e (by simp[h0]),a18 (by simp;omega)]
 have:v.f>0:=by omega
 simp[h0,this]
open Go Tw Pv bK
def dU(n:Nat):LI0:=(List.range n).map fun(k:Nat)=>(k:Int)
theorem mM(n):(dU n).length=n:=by simp[dU]
theorem Us(n):kD n (dU n)=true:=by
 unfold kD;rw[a1x];refine⟨mM n,fun a ha=>?_,?_⟩
 .simp only[dU,a1w,a5m]at ha;obtain⟨k,h1,rfl⟩:=ha;omega
 unfold dU;exact List.Pairwise.map _ (fun a b h=>by omega) afm
open Go Tw Pv bK
abbrev V.tv(v:V):TV:=.agg [.int .u8 v.f,.int .i64 v.n]
theorem a4S:Tryz.prog.underlying 3=some (.int .i64):=by kernel_rfl
theorem uU8:Tryz.prog.underlying 5=some (.int .u8):=by kernel_rfl
theorem agY : Tryz.prog.underlying 39 = some (.struct #[⟨"Fault", 5, 0, false, "", "", 0⟩, ⟨"N", 3, 1, false, "", "", 8⟩]) := by kernel_rfl
theorem a2L(d)(a b:V):aC Qp (Op.equalIn (d+2) 39 (.agg #[.int .u8 a.f,.int .i64 a.n]) (.agg #[.int .u8 b.f,.int .i64 b.n]))=some (decide (a=b)):=by
 rw[yS (d+1) 39 _ _ _ agY (by kernel_rfl)];have p0:∀x y:LI3,aC Qp (part 5 #[x,y] 0)=some x:=by intro x y;kernel_rfl
 have p1:∀x y:LI3,aC Qp (part 3 #[x,y] 1)=some y:=by intro x y;kernel_rfl
 have n1 : ("Fault" : String) ≠ "_" := by decide
 have n2 : ("N" : String) ≠ "_" := by decide
 have q1 := oZ (f := ⟨"Fault", 5, 0, false, "", "", 0⟩) (fs := [⟨"N", 3, 1, false, "", "", 8⟩]) n1 (p0 (.int .u8 a.f) (.int .i64 a.n)) (p0 (.int .u8 b.f) (.int .i64 b.n)) (su d _ _ _ _ _ uU8);have q2 := oZ (f := ⟨"N", 3, 1, false, "", "", 8⟩) (fs := []) n2 (p1 (.int .u8 a.f) (.int .i64 a.n)) (p1 (.int .u8 b.f) (.int .i64 b.n)) (su d _ _ _ _ _ a4S);rw[q1,q2];rw[show aC Qp (Op.eqFields (d+1) #[.int .u8 a.f,.int .i64 a.n] #[.int .u8 b.f,.int .i64 b.n] [])=some true from rfl];rcases a with⟨a1,a2⟩;rcases b with⟨b1,b2⟩;by_cases h1:a1=b1<;>by_cases h2:a2=b2<;>simp[h1,h2]
theorem eqV(x y a b):uq Qp .eql 39 x y (V.tv a) (V.tv b)=some (.bool (decide (a=b))):=(IL rfl rfl (by kernel_rfl) (by decide) (a2L 9998 a b)).1
theorem neV(x y a b):uq Qp .neq 39 x y (V.tv a) (V.tv b)=some (.bool (!decide (a=b))):=(IL rfl rfl (by kernel_rfl) (by decide) (a2L 9998 a b)).2
open Go Tw Pv bK
abbrev cAl(a b:List V)(k:Nat):Bool:=!decide (a.getD k V0=b.getD k V0)
abbrev w75(a b:List V)(i:Int)(x:List (Nat×PE aH)):bV aH:=⟨[(0,xL 39 a),(1,xL 39 b),(5,xi i)]++x,[],[]⟩
def z75(a b:List V):Unit⊕Nat->Ex×bV aH
 |.inl _=>(.exit 0,w75 a b a.length [(14,xl false)])
 |.inr _=>(.ret,⟨[(4,xl false)],[],[]⟩)
theorem l75{n gq}(hO:Ok n gq)(a b)(hl:a.length<=ah)(h:a.length=b.length):Lp n 75 0 (w75 a b 0 []) (z75 a b (bH (cAl a b) a.length)).1 (z75 a b (bH (cAl a b) a.length)).2:=
 Qh (st:=fun i _=>w75 a b i []) (fun _ _=>True) (by kernel_rfl) hl SB trivial (fun k s n hk _ ih=>aN hO (.b (bg hk) (.o (aG hk) (.o (aG (h▸hk)) (.q (.bool (cAl a b k)) (neV (.tmp 20) (.tmp 24) (a.getD k V0) (b.getD k V0)) (.ls (.ou nofun) (.nx (ih _ trivial)))))))) (fun s _=>aN hO (.b (fC a.length) (.ou nofun)))
theorem a2M{a b}(h:a.length=b.length):kC (bH (cAl a b) a.length)=decide (a=b):=by rw[a5S,dL,a1x,pz (d:=V0) h];simp[cAl]
theorem abO{a b:List V}(h:((a.length:Int) != (b.length:Int))=true):decide (a=b)=false:=by rw[a3G];rintro rfl;simp at h
def alj:gZ aH:=cu 75 (a2 vsA vsA) tA (fun p=>decide (p.1=p.2)) (fun p=>[p.1.length<=ah]) ali
theorem ar2:Gd alj:=aqY.add fun n hO p hp=>aP hO (.s (fun h=>.v false (abO h).symm) fun h=>.z (c:=kC (bH (cAl p.1 p.2) p.1.length)) (fun h2=>.w (l7 (l75 hO p.1 p.2 (hp _ iE) (mJ h)) () h2) (.v true (by rw[<-a2M (mJ h),h2]))) fun h2=>.w (l9 (l75 hO p.1 p.2 (hp _ iE) (mJ h)) 0 h2) (.v false (by rw[<-a2M (mJ h),h2])))
open Go Tw Pv bK
abbrev RhB(n f k B m:Nat)(s:bV aH)(e:Ex)(p:bV aH):Prop:=dP X0 Qp T (iw n) LL f false (Df Qp f) B (Ua Qp f k) m s e p
abbrev hdP(f k:Nat)(w:bV aH):bV aH:=gY X0 (T.eY f (dZ (Ua Qp f k))) w
section
variable{n f k B N:Nat}{σ ρ:Type}
theorem wL{st:Int->σ->bV aH}{g e}{fin:σ->bV aH}{s0 w}(Inv:Nat->σ->Prop)(h0:hdP f k w=st 0 s0)(hl:N<=ah)(hi:Inv 0 s0)(hv:∀j s,j<N->Inv j s->Inv (j+1) (g j s))(hs:∀(j) (s),j<N->Inv j s->∀m e1 p,RhB n f k B m (st (i64.wrap (j+1)) (g j s)) e1 p->RhB n f k B (m+1) (st j s) e1 p)(ho:∀s,Inv N s->RhB n f k B 1 (st N s) e (fin s)):Oi n f k B w e (fin (aS g N 0 s0)):=Qi Inv h0 hl SB hi hv hs ho
theorem jo{st:Int->σ->bV aH}{g}{out:σ⊕ρ->Ex×bV aH}{s0 w}(Inv:Nat->σ->Prop)(h0:hdP f k w=st 0 s0)(hl:N<=ah)(hi:Inv 0 s0)(hs:∀(j) (s) (m),j<N->Inv j s->(∀s1,Inv (j+1) s1->RhB n f k B m (st (i64.wrap (j+1)) s1) (wJ (X:=X0) out g (N-(j+1)) (j+1) (.inl s1)).1 (wJ (X:=X0) out g (N-(j+1)) (j+1) (.inl s1)).2) ->RhB n f k B (m+1) (st j s) (wJ (X:=X0) out g (N-(j+1)) (j+1) (g j s)).1 (wJ (X:=X0) out g (N-(j+1)) (j+1) (g j s)).2)(ho:∀s,Inv N s->RhB n f k B 1 (st N s) (out (.inl s)).1 (out (.inl s)).2):Oi n f k B w (out (lq g N 0 s0)).1 (out (lq g N 0 s0)).2:=Qh Inv h0 hl SB hi hs ho
theorem a2N{a:Nat}{st:Int->σ->bV aH}{g}{out:σ⊕ρ->Ex×bV aH}{s0 w}(Inv:Nat->σ->Prop)(h0:hdP f k w=st a s0)(ha:a<=N)(hl:N<=ah)(hi:Inv a s0)(hs:∀(j) (s) (m),a<=j->j<N->Inv j s->(∀s1,Inv (j+1) s1->RhB n f k B m (st (i64.wrap (j+1)) s1) (wJ (X:=X0) out g (N-(j+1)) (j+1) (.inl s1)).1 (wJ (X:=X0) out g (N-(j+1)) (j+1) (.inl s1)).2) ->RhB n f k B (m+1) (st j s) (wJ (X:=X0) out g (N-(j+1)) (j+1) (g j s)).1 (wJ (X:=X0) out g (N-(j+1)) (j+1) (g j s)).2)(ho:∀s,Inv N s->RhB n f k B 1 (st N s) (out (.inl s)).1 (out (.inl s)).2):Oi n f k B w (out (lq g (N-a) a s0)).1 (out (lq g (N-a) a s0)).2:=a7U Inv h0 ha hl SB hi hs ho
theorem a0P{st:σ->bV aH}{g}{out:ρ->Ex×bV aH}(Inv:σ->Prop){m s r w}(hr:itF g m s=some r)(h0:hdP f k w=st s)(hk:m<=LL)(hv:Inv s)(hi:∀s s1,Inv s->g s=.inl s1->Inv s1)(hs:∀s m r,Inv s->(∀s1,g s=.inl s1->RhB n f k B m (st s1) (out r).1 (out r).2)->RhB n f k B (m+1) (st s) (Eb (X:=X0) out r (g s)).1 (Eb (X:=X0) out r (g s)).2):Oi n f k B w (out r).1 (out r).2:=agx Inv hr h0 hk hv hi hs
end
open Go Tw Pv bK
structure Prt(l:List V)(w n:Nat):Prop where
 n12:n<=12
 w2:w<=5000
 len:l.length=n*w
section
variable{l:List V}{w n j:Nat}(h:Prt l w n)
include h
end
theorem Fv{α β:Type}(l:List α)(d)(f:α->β):(List.range l.length).map (fun k=>f (l.getD k d))=l.map f:=by
 apply aaw (by simp);intro i h1 h2;have:i<l.length:=by simpa using h1
 simp[List.getD,a0Q this]
open Go Tw Pv bK
theorem YE{s p ch d}(hp:jR s p=true)(hc:gG ch s.length)(hd:gG d (s.getD ch.toNat 0).toNat):jR s (p.set ch.toNat d)=true:=by
 rw[qA]at hp ⊢;obtain⟨c1,c2⟩:=hc;obtain⟨d1,d2⟩:=hd;refine⟨by simp[hp.1],fun j hj=>?_⟩;rw[zT (by omega)];split
 .rename_i e;subst e;omega
 exact hp.2 j hj
open Go Tw Pv bK
abbrev ay(d:Dg)(r:Int):Br:=d.au.getD r.toNat lH
abbrev QE(d:Dg)(r:Int)(k:Nat):Bool:=d.aB.getD k 0==(ay d r).var
abbrev a4T(d:Dg)(r i:Int)(x:List (Nat×PE aH)):bV aH:=⟨[(1,xi r),(2,.loc 0 0),(5,xi i)]++x,[d.ps],[]⟩
def alk(d:Dg)(r:Int)(N:Nat):Unit⊕Nat->Ex×bV aH
 |.inl _=>(.exit 0,a4T d r N [(14,xl false)])
 |.inr k=>(.ret,⟨[(4,xi k)],[d.ps],[]⟩)
theorem alm{r:Int}(h:0<=r):decide (r>=0)=true:=by simpa using h
theorem aln{n gq}(hO:Ok n gq)(d r)(hl:d.aB.length<=ah)(h:gG r d.au.length):Lp n 177 0 (a4T d r 0 []) (alk d r d.aB.length (bH (QE d r) d.aB.length)).1 (alk d r d.aB.length (bH (QE d r) d.aB.length)).2:=
 jo (st:=fun i _=>a4T d r i []) (fun _ _=>True) (by kernel_rfl) hl trivial (fun k s m hk _ ih=>aN hO (.b (alm h.1) (.b (bg hk) (.o (aG hk) (.o h (.ls (.ou nofun) (.nx (ih _ trivial)))))))) (fun s _=>aN hO (.b (alm h.1) (.b (fC d.aB.length) (.ou nofun))))
theorem alo{n gq}(hO:Ok n gq)(d r)(h:r<0):Lp n 177 0 (a4T d r 0 []) (.exit 0) (a4T d r 0 [(14,xl false)]):=
 Aa (ps:=a4T d r 0 []) (aN hO (.b (show decide (r>=0)=false by simpa using h) .ex)) (by kernel_rfl) (by decide:1<=LL)
def uV(d:Dg)(r:Int):Int:=if decide (r<0)=true then(d.aB.length:Int)else if kC (bH (QE d r) d.aB.length)=true then(d.aB.length:Int)else((Ea 0 (bH (QE d r) d.aB.length):Nat):Int)
def ae8:gZ aH:=cu 177 (a2 dA iA) iA (fun p=>uV p.1 p.2) (fun p=>[p.1.aB.length<=ah,0<=p.2->gG p.2 p.1.au.length]) alj
theorem alp:Gd ae8:=ar2.add fun n hO p hp=>aP hO (.zh (fun h=>.w (alo hO p.1 p.2 (by simpa using h)) .rr) fun h=>.zh (fun h2=>.w (l7 (aln hO p.1 p.2 (hp _ iE) (hp (0<=p.2->gG p.2 p.1.au.length) (.tail _ (.head _)) (by simpa using h))) () h2) .rr) fun h2=>.w (l9 (aln hO p.1 p.2 (hp _ iE) (hp (0<=p.2->gG p.2 p.1.au.length) (.tail _ (.head _)) (by simpa using h))) 0 h2) .rr)
def jd(d:Dg)(r below:Int):Bool:=if decide (r>=0)=true then decide (r<below)else nU (i64.wrap (-1-r)) 0 (i64.wrap ((d.aK.length:Int)-1))
def ae9:gZ aH:=cu 176 (a3 dA iA iA) tA (fun p=>jd p.1 p.2.1 p.2.2) np ae8
theorem alq:Gd ae9:=alp.add fun n hO p hp=>aP hO (.ss .rr .rr)
abbrev QF(b:Br)(k:Nat):Bool:=b.aA.getD k 0 != b.aA.getD 0 0
abbrev agZ(b:Br)(i:Int)(x:List (Nat×PE aH)):bV aH:=⟨[(1,.loc 0 0),(3,xi i)]++x,[b.ps],[]⟩
def alr(b:Br):Unit⊕Nat->Ex×bV aH
 |.inl _=>(.exit 0,agZ b (max 1 b.aA.length:Nat) [(8,xl false)])
 |.inr _=>(.ret,⟨[(2,xl false)],[b.ps],[]⟩)
theorem als{n gq}(hO:Ok n gq)(b)(hl:b.aA.length<=ah):Lp n 132 0 (agZ b 1 []) (alr b (Ue (QF b) 1 (max 1 b.aA.length))).1 (alr b (Ue (QF b) 1 (max 1 b.aA.length))).2:=
 a2N (st:=fun i _=>agZ b i []) (fun _ _=>True) (by kernel_rfl) (by omega) (by unfold ah at *;omega) trivial (fun k s m h1 hk _ ih=>aN hO (.b (bg (show k<b.aA.length by omega)) (.o (aG (show k<b.aA.length by omega)) (.o (show gG 0 b.aA.length from⟨by omega,by omega⟩) (.ls (.ou nofun) (.nx (ih _ trivial))))))) (fun s _=>aN hO (.b (show decide (((max 1 b.aA.length:Nat):Int)<(b.aA.length:Int))=false by simp only[a3G];omega) (.ou nofun)))
def Es(b:Br):Bool:=if kC (Ue (QF b) 1 (max 1 b.aA.length))=true then true else false
def aea:gZ aH:=cu 132 (a1 brA) tA (fun p=>Es p) (fun p=>[p.aA.length<=ah]) ae9
theorem alu:Gd aea:=alq.add fun n hO p hp=>aP hO (.zh (fun h=>.w (l7 (als hO p (hp _ iE)) () h) .rr) fun h=>.w (l9 (als hO p (hp _ iE)) 0 h) .rr)
abbrev Ut(l:LI0)(n:Int)(k:Nat):Bool:=l.getD k 0==n
abbrev ah0(l:LI0)(m i:Int)(x:List (Nat×PE aH)):bV aH:=⟨[(0,xL 3 l),(1,xi m),(5,xi i)]++x,[],[]⟩
def alv(l:LI0)(m:Int):Unit⊕Nat->Ex×bV aH
 |.inl _=>(.exit 0,ah0 l m l.length [(9,xl false)])
 |.inr _=>(.ret,⟨[(4,xl true)],[],[]⟩)
theorem alx{n gq}(hO:Ok n gq)(l m)(hl:l.length<=ah):Lp n 178 0 (ah0 l m 0 []) (alv l m (bH (Ut l m) l.length)).1 (alv l m (bH (Ut l m) l.length)).2:=
 jo (st:=fun i _=>ah0 l m i []) (fun _ _=>True) (by kernel_rfl) hl trivial (fun k s m hk _ ih=>aN hO (.b (bg hk) (.o (aG hk) (.ls (.ou nofun) (.nx (ih _ trivial)))))) (fun s _=>aN hO (.b (fC l.length) (.ou nofun)))
theorem Uu{l m}:kC (bH (Ut l m) l.length)=!decide (m∈l):=by
 rw[a5S,dL];simp only[a6A,a3G];constructor
 .intro h hm;obtain⟨j,hj,e⟩:=a5T.1 hm;have:=h j hj;simp[Ut,List.getD,a0Q hj,e]at this
 intro h j hj;have e:l.getD j 0=l[j]:=by simp[List.getD,a0Q hj]
 simp only[Ut,adH,ne_eq,e];intro e2;exact h (e2▸a5K hj)
def aeb:gZ aH:=cu 178 (a2 qC iA) tA (fun p=>decide (p.2∈p.1)) (fun p=>[p.1.length<=ah]) aea
theorem aly:Gd aeb:=alu.add fun n hO p hp=>aP hO (.z (c:=kC (bH (Ut p.1 p.2) p.1.length)) (fun h=>.w (l7 (alx hO p.1 p.2 (hp _ iE)) () h) (.v false (by rw[Uu]at h;simp at h;simp[h]))) fun h=>.w (l9 (alx hO p.1 p.2 (hp _ iE)) 0 h) (.v true (by rw[Uu]at h;simp at h;simp[h])))
abbrev a8q(l:LI0)(k:Nat):Bool:=l.getD k 0 != (k:Int)
abbrev ah1(l:LI0)(m i:Int)(x:List (Nat×PE aH)):bV aH:=⟨[(0,xL 3 l),(1,xi m),(5,xi i)]++x,[],[]⟩
def alz(l:LI0)(m:Int):Unit⊕Nat->Ex×bV aH
 |.inl _=>(.exit 0,ah1 l m l.length [(9,xl false)])
 |.inr _=>(.ret,⟨[(4,xl false)],[],[]⟩)
theorem alA{n gq}(hO:Ok n gq)(l m)(hl:l.length<=ah):Lp n 134 0 (ah1 l m 0 []) (alz l m (bH (a8q l) l.length)).1 (alz l m (bH (a8q l) l.length)).2:=
 jo (st:=fun i _=>ah1 l m i []) (fun _ _=>True) (by kernel_rfl) hl trivial (fun k s m hk _ ih=>aN hO (.b (bg hk) (.o (aG hk) (.ls (.ou nofun) (.nx (ih _ trivial)))))) (fun s _=>aN hO (.b (fC l.length) (.ou nofun)))
def Ag(l:LI0)(m:Int):Bool:=if kC (bH (a8q l) l.length)=true then((l.length:Int)==m)else false
def YF:gZ aH:=cu 134 (a2 qC iA) tA (fun p=>Ag p.1 p.2) (fun p=>[p.1.length<=ah]) aeb
theorem alB:Gd YF:=aly.add fun n hO p hp=>aP hO (.zh (fun h=>.w (l7 (alA hO p.1 p.2 (hp _ iE)) () h) .rr) fun h=>.w (l9 (alA hO p.1 p.2 (hp _ iE)) 0 h) .rr)
abbrev cLk(d:Dg)(i k:Nat):Bool:=if(!(jd d ((d.au.getD i lH).aA.getD k 0) i))=true then true else decide (uV d ((d.au.getD i lH).aA.getD k 0)<=uV d i)
abbrev fD(d:Dg)(i:Nat):Br:=d.au.getD i lH
abbrev a8r(d:Dg)(i k:Int)(b:Br)(x:List (Nat×PE aH)):bV aH:=⟨[(1,.loc 0 0),(4,xi i),(5,.loc 1 0),(6,xi k)]++x,[d.ps,b.ps],[]⟩
def aec(d:Dg)(i:Nat):Unit⊕Nat->Ex×bV aH
 |.inl _=>(.exit 4,a8r d i (fD d i).aA.length (fD d i) [(57,xl false)])
 |.inr _=>(.ret,⟨[(2,xl false)],[d.ps,(fD d i).ps],[]⟩)
structure DgL(d:Dg):Prop where
 aB:d.aB.length<=ah
 au:d.au.length<=ah
 aK:d.aK.length<=ah
 bQ:wC d.aj
theorem YG{d r}{i:Nat}(h:jd d r i=true)(h0:0<=r)(hi:i<=d.au.length):gG r d.au.length:=by
 unfold jd at h;rw[a1e (by simpa using h0)]at h;have:r<(i:Int):=by simpa using h
 exact⟨h0,by omega⟩
theorem alC{n}(hO:Ok n YF){d}(h:DgL d){i}(hi:i<d.au.length)(hk:(fD d i).aA.length<=ah):Lp n 131 2 (a8r d i 0 (fD d i) []) (aec d i (bH (cLk d i) (fD d i).aA.length)).1 (aec d i (bH (cLk d i) (fD d i).aA.length)).2:=
 jo (st:=fun k _=>a8r d i k (fD d i) []) (fun _ _=>True) (by kernel_rfl) hk trivial (fun k s m hk _ ih=>by
  unfold gS cLk;cases e1:jd d ((fD d i).aA.getD k 0) i
  .exact aN hO (.b (bg hk) (.o (aG hk) (.b (show(!(jd d ((fD d i).aA.getD k 0) i))=true by rw[e1];rfl) (.ou nofun))))
  .exact aN hO (.b (bg hk) (.o (aG hk) (.b (show(!(jd d ((fD d i).aA.getD k 0) i))=false by rw[e1];rfl) (.o (aG hk) (.o h.aB (.o (show 0<=(fD d i).aA.getD k 0->gG ((fD d i).aA.getD k 0) d.au.length from fun h0=>YG e1 h0 (by omega)) (.o h.aB (.o (show 0<=((i:Nat):Int)->gG i d.au.length from fun _=>aG hi) (.ls (.ou nofun) (.nx (ih _ trivial)))))))))))
  ) (fun s _=>aN hO (.b (fC (fD d i).aA.length) (.ou nofun)))
abbrev cLn(d:Dg)(i:Nat):Bool:=if(!(nU (fD d i).var 0 (xw d.aj)))=true then true else if(((fD d i).aA.length:Int) != d.aj.getD (fD d i).var.toNat 0)=true then true else if kC (bH (cLk d i) (fD d i).aA.length)=true then false else true
abbrev a8s(d:Dg)(i:Int)(x:List (Nat×PE aH)):bV aH:=⟨[(1,.loc 0 0),(4,xi i)]++x,[d.ps],[]⟩
def aed(d:Dg):Unit⊕Nat->Ex×bV aH
 |.inl _=>(.exit 2,a8s d d.au.length [(25,xl false)])
 |.inr k=>(.ret,⟨[(2,xl false)],[d.ps,(fD d k).ps],[]⟩)
theorem L8{d:Dg}(h:wC d.aj){v}(e:nU v 0 (xw d.aj)=true):gG v d.aj.length:=by rw[wR,a8n h.akp]at e;exact⟨e.1,by omega⟩
theorem YH{d:Dg}(h:wC d.aj){v}(e:gG v d.aj.length){l:LI0}(hl:(((l.length:Int)) != d.aj.getD v.toNat 0)=false):l.length<=12:=by
 have:=h.sz _ (dG (s:=d.aj) (k:=v.toNat) (by have:=e.2;have:=e.1;omega));have hl:(l.length:Int)=d.aj.getD v.toNat 0:=by simpa using hl
 omega
theorem YC{k}(h:k<=12):k<=ah:=by unfold ah;omega
theorem aee{n}(hO:Ok n YF){d}(h:DgL d):Lp n 131 1 (a8s d 0 []) (aed d (bH (cLn d) d.au.length)).1 (aed d (bH (cLn d) d.au.length)).2:=
 jo (st:=fun k _=>a8s d k []) (fun _ _=>True) (by kernel_rfl) h.au trivial (fun k s m hk _ ih=>by
  unfold gS cLn;cases e1:nU (fD d k).var 0 (xw d.aj)
  .exact aN hO (.b (bg hk) (.o (aG hk) (.b (show(!(nU (fD d k).var 0 (xw d.aj)))=true by rw[e1];rfl) (.ou nofun))))
  .have hv:=L8 h.bQ e1;cases e2:(((fD d k).aA.length:Int) != d.aj.getD (fD d k).var.toNat 0)
   .have hl:=alC hO h hk (YC (YH h.bQ hv e2));cases e3:kC (bH (cLk d k) (fD d k).aA.length)
    .exact aN hO (.b (bg hk) (.o (aG hk) (.b (show(!(nU (fD d k).var 0 (xw d.aj)))=false by rw[e1];rfl) (.o hv (.b e2 (.w (l9 hl 0 e3) (.ou nofun)))))))
    .exact aN hO (.b (bg hk) (.o (aG hk) (.b (show(!(nU (fD d k).var 0 (xw d.aj)))=false by rw[e1];rfl) (.o hv (.b e2 (.w (l7 hl () e3) (.nx (ih _ trivial))))))))
   .exact aN hO (.b (bg hk) (.o (aG hk) (.b (show(!(nU (fD d k).var 0 (xw d.aj)))=false by rw[e1];rfl) (.o hv (.b e2 (.ou nofun))))))
  ) (fun s _=>aN hO (.b (fC d.au.length) (.ou nofun)))
abbrev cLe(d:Dg)(k:Nat):Bool:=!(vOk (d.aK.getD k V0))
abbrev a8u(d:Dg)(i:Int)(x:List (Nat×PE aH)):bV aH:=⟨[(1,.loc 0 0),(3,xi i)]++x,[d.ps],[]⟩
def aef(d:Dg):Unit⊕Nat->Ex×bV aH
 |.inl _=>(.exit 0,a8u d d.aK.length [(11,xl false)])
 |.inr _=>(.ret,⟨[(2,xl false)],[d.ps],[]⟩)
theorem aeg{n}(hO:Ok n YF){d}(h:DgL d):Lp n 131 0 (a8u d 0 []) (aef d (bH (cLe d) d.aK.length)).1 (aef d (bH (cLe d) d.aK.length)).2:=
 jo (st:=fun k _=>a8u d k []) (fun _ _=>True) (by kernel_rfl) h.aK trivial (fun k s m hk _ ih=>aN hO (.b (bg hk) (.o (aG hk) (.ls (.ou nofun) (.nx (ih _ trivial)))))) (fun s _=>aN hO (.b (fC d.aK.length) (.ou nofun)))
def mO(d:Dg):Bool:=if kC (bH (cLe d) d.aK.length)=true then(if kC (bH (cLn d) d.au.length)=true then jd d d.root d.au.length else false)else false
def aeh:gZ aH:=cu 131 (a1 dA) tA (fun p=>mO p) (fun p=>[DgL p]) YF
theorem alD:Gd aeh:=alB.add fun n hO p hp=>aP hO (.zh (fun h=>.w (l7 (aeg hO (show DgL p from hp _ iE)) () h) (.zh (fun h2=>.w (l7 (aee hO (show DgL p from hp _ iE)) () h2) .rr) fun h2=>.w (l9 (aee hO (show DgL p from hp _ iE)) 0 h2) .rr)) fun h=>.w (l9 (aeg hO (show DgL p from hp _ iE)) 0 h) .rr)
def bC(d:Dg):Int:=if(bn d.aj d.aB != 0)=true then bn d.aj d.aB else if decide ((d.au.length:Int)>6000)=true then 5 else if(!(mO d))=true then 4 else 0
theorem Wp{k:Nat}(h:decide ((k:Int)>6000)=false):k<=ah:=by simp at h;unfold ah;omega
theorem BL{s o}(h:(bn s o != 0)=false):wC s:=(iT.1 (by simpa using h)).1
def abP:gZ aH:=cu 83 (a1 dA) iA (fun p=>bC p) (fun p=>[p.aB.length<=ah,p.aK.length<=ah]) aeh
theorem ar4:Gd abP:=alD.add fun n hO p hp=>aP hO (.o (hp _ iE) (.sh (fun _=>.rr) fun h=>.sh (fun _=>.rr) fun h2=>.o (show DgL p from⟨hp _ iE,Wp h2,hp _ zq,BL h⟩) (.ss .rr .rr)))
open Go Tw Pv bK
abbrev ji(r:Int):Int:=i64.wrap (-1-r)
def kE(d:Dg):Nat->Int->LI0×LI0->LI0×LI0
 | 0,_,x=>x
 |F+1,r,x=>if decide (r<0)=true then(if(!(decide (ji r∈x.2)))=true then(x.1,x.2++[ji r])else x)else if decide (r∈x.1)=true then x
  else((aS (fun k y=>kE d F ((ay d r).aA.getD k 0) y) (ay d r).aA.length 0 x).1++[r],(aS (fun k y=>kE d F ((ay d r).aA.getD k 0) y) (ay d r).aA.length 0 x).2)
def jM(d:Dg)(r:Int)(b:Nat):Prop:=r<b/\(r<0->gG (ji r) d.aK.length)
structure D6(d:Dg):Prop extends DgL d where
 Ah:∀i,i<d.au.length->∀k,k<(fD d i).aA.length->jM d ((fD d i).aA.getD k 0) i
 L9:∀i,i<d.au.length->(fD d i).aA.length<=12
 var:∀i,i<d.au.length->gG (fD d i).var d.aj.length
 ksz:∀i,i<d.au.length->((fD d i).aA.length:Int)=d.aj.getD (fD d i).var.toNat 0
 root:jM d d.root d.au.length
structure La(d:Dg)(x:LI0×LI0):Prop where
 n1:x.1.Nodup
 n2:∀a∈x.1,gG a d.au.length
 e1:x.2.Nodup
 e2:∀a∈x.2,gG a d.aK.length
theorem Ai:∀(N) (l:LI0),l.Nodup->(∀a∈l,gG a N)->l.length<=N
 | 0,[],_,_=>a1l _
 | 0,a::l,_,h=>by obtain⟨h1,h2⟩:=h a (a3K ..);omega
 |N+1,l,hn,h=>by
  have h1:=Ai N (l.erase (N:Int)) (hn.erase _) fun a ha=>by have h2:=(List.Nodup.mem_erase_iff hn).1 ha;have h3:=h a h2.2;exact⟨h3.1,by have:=h3.2;have:=h2.1;omega⟩
  by_cases hm:(N:Int)∈l
  .rw[List.length_erase_of_mem hm]at h1;omega
  rw[List.erase_of_not_mem hm]at h1;omega
theorem La.len{d x}(h:La d x):x.1.length<=d.au.length/\x.2.length<=d.aK.length:=⟨Ai _ _ h.n1 h.n2,Ai _ _ h.e1 h.e2⟩
theorem yc{l:LI0}{a}(h:l.Nodup)(ha:a∉l):(l++[a]).Nodup:=by rw[a9N];exact⟨h,by simp,fun x hx y hy e=>by simp at hy;subst hy;subst e;exact ha hx⟩
theorem a8v{d}:∀(F) (r s) (x),r<s->s∉x.1->0<=s->(∀i,i<d.au.length->∀k,k<(fD d i).aA.length->(fD d i).aA.getD k 0<i)->(0<=r->gG r d.au.length)->s∉(kE d F r x).1
 | 0,_,_,_,_,h,_,_,_=>h
 |F+1,r,s,x,hr,h,h0,hk,hn=>by
  unfold kE;by_cases c:r<0
  .rw[a1e (by simpa using c)];split<;>exact h
  rw[a18 (by simpa using c)];split
  .exact h
  have hi:=hn (by omega);have EO:∀k,k<(ay d r).aA.length->(ay d r).aA.getD k 0<r:=fun k kU=>by obtain⟨i1,i2⟩:=hi;have h9:(ay d r).aA.getD k 0<(r.toNat:Int):=hk r.toNat (by omega) k kU;omega
  have:=dh (g:=fun k y=>kE d F ((ay d r).aA.getD k 0) y) (m:=(ay d r).aA.length) (k:=0) (s:=x) (fun _ y=>s∉y.1) h (fun j y _ hj hy=>by have h4:=EO j (by omega);exact a8v F _ s y (by omega) hy h0 hk fun h5=>⟨h5,by have:=hi.2;omega⟩)
  simp only[a3M,a1D,adl];exact⟨this,by omega⟩
theorem N8{d}(h:D6 d):∀(F) (r) (x),La d x->jM d r d.au.length->La d (kE d F r x)
 | 0,_,_,hx,_=>hx
 |F+1,r,x,hx,hr=>by
  unfold kE;by_cases c:r<0
  .rw[a1e (by simpa using c)];split
   .rename_i c2;have c2:ji r∉x.2:=(by simpa using c2);refine⟨hx.n1,hx.n2,yc hx.e1 c2,fun a ha=>?_⟩;rw[a3M,a1D]at ha;rcases ha with ha|rfl
    .exact hx.e2 a ha
    exact hr.2 c
   exact hx
  rw[a18 (by simpa using c)];split
  .exact hx
  rename_i c2;have c2:r∉x.1:=by simpa using c2
  have hi:gG r d.au.length:=⟨by omega,hr.1⟩;have aQ:r.toNat<d.au.length:=by have:=hr.1;omega
  have h1:=dh (g:=fun k y=>kE d F ((ay d r).aA.getD k 0) y) (m:=(ay d r).aA.length) (k:=0) (s:=x) (fun _ y=>La d y/\r∉y.1) ⟨hx,c2⟩ (fun j y _ hj hy=>by have hk:jM d ((ay d r).aA.getD j 0) r.toNat:=h.Ah r.toNat aQ j (by simpa using hj);obtain⟨k1,k2⟩:=hk;have kU:jM d ((ay d r).aA.getD j 0) d.au.length:=⟨by omega,k2⟩;refine⟨N8 h F _ y hy.1 kU,a8v F _ r y (by omega) hy.2 (by omega) (fun i hi k hk=>(h.Ah i hi k hk).1) fun h5=>⟨h5,kU.1⟩⟩)
  obtain⟨h2,h3⟩:=h1;refine⟨yc h2.n1 h3,fun a ha=>?_,h2.e1,h2.e2⟩;rw[a3M,a1D]at ha;rcases ha with ha|rfl
  .exact h2.n2 a ha
  exact hi
abbrev ls(l:LI0):PB aH:=.list false false 3 l
abbrev wSr(d:Dg)(r:Int)(k:Int)(s:LI0×LI0)(x:List (Nat×PE aH)):bV aH:=⟨[(1,xi r),(2,xo 2),(3,xo 3),(4,.loc 0 0),(10,.loc 1 0),(11,xi k)]++x,[d.ps,(ay d r).ps],[.gone,.gone,ls s.1,ls s.2]⟩
abbrev alE(n:Nat)(d:Dg)(r:Int)(x y:LI0×LI0):Prop:=iW n (.fn 133 [] []) [.agg d.ps,.int .i64 r,.own 0,.own 1] [ls x.1,ls x.2] (.dM [.own 2,.own 3]) [.gone,.gone,ls y.1,ls y.2]
theorem sSr{N}(hO:∀m,N<=m->Ok m abP){d}(h:D6 d):∀(F:Nat) (r:Int) (x),r+1<F->La d x->jM d r d.au.length->1<=F->alE (N+F) d r x (kE d F r x)
 | 0,r,x,_,_,_,h1=>by omega
 |F+1,r,x,hF,hx,hr,_=>by
  have hn:=hx.len.1;have he:=hx.len.2;have m1:=h.au;have m2:=h.aK;have CP:=hO (N+F) (by omega);have mn:x.1.length<=ah:=by omega
  have me:x.2.length<=ah:=by omega
  unfold kE;by_cases c:r<0
  .have t0:decide (r<0)=true:=(by simpa using c);rw[a1e t0];by_cases c2:ji r∈x.2
   .have t1:(!(decide (ji r∈x.2)))=false:=(by simpa using c2);rw[a18 (by rw[t1];simp)];exact dK.gs hX (nS hX CP (first:=[]) (cap:=[]) (v:=.dM [.own 0,.own 1]) (H1:=[ls x.1,ls x.2]) (by kernel_rfl) (.b t0 (.o me (.b t1 .er)))) [.mv 0,.mv 1] rfl
   have t1:(!(decide (ji r∈x.2)))=true:=(by simpa using c2);rw[a1e t1];have e1:=Ai _ _ (yc hx.e1 c2) (fun a ha=>by
    rw[a3M,a1D]at ha;rcases ha with ha|rfl
    .exact hx.e2 a ha
    exact hr.2 c)
   have e2:x.2.length+[ji r].length<=ah:=by rw[<-a1B];omega
   exact dK.gs hX (nS hX CP (first:=[]) (cap:=[]) (v:=.dM [.own 0,.own 3]) (H1:=[ls x.1,.gone,.list true true 3 ([ji r]:LI0),ls (x.2++[ji r])]) (by kernel_rfl) (.b t0 (.o me (.b t1 (.o e2 .er))))) [.mv 0,.gc [4,3]] rfl
  have t0:decide (r<0)=false:=by simpa using c
  rw[a18 (by rw[t0];simp)];by_cases c2:r∈x.1
  .have t1:decide (r∈x.1)=true:=(by simpa using c2);rw[a1e t1];exact dK.gs hX (nS hX CP (first:=[]) (cap:=[]) (v:=.dM [.own 0,.own 1]) (H1:=[ls x.1,ls x.2]) (by kernel_rfl) (.b t0 (.o mn (.b t1 .er)))) [.mv 0,.mv 1] rfl
  have t1:decide (r∈x.1)=false:=by simpa using c2
  rw[a18 (by rw[t1];simp)];have hi:gG r d.au.length:=⟨by omega,hr.1⟩;obtain⟨i1,i2⟩:=id hi;have aQ:r.toNat<d.au.length:=by omega
  have hl:Oi (N+F) 133 0 2 (wSr d r 0 x []) (.exit 0) (wSr d r (ay d r).aA.length (aS (fun k y=>kE d F ((ay d r).aA.getD k 0) y) (ay d r).aA.length 0 x) [(40,xl false)]):=by
   refine wL (σ:=LI0×LI0) (N:=(ay d r).aA.length) (g:=fun k y=>kE d F ((ay d r).aA.getD k 0) y) (s0:=x) (st:=fun k y=>wSr d r k y []) (fin:=fun y=>wSr d r (ay d r).aA.length y [(40,xl false)]) (fun _ y=>La d y) (by kernel_rfl) (YC (h.L9 r.toNat aQ)) hx (fun k y hk hy=>?_) (fun k y hk hy m e p g=>?_) (fun y _=>aN CP (.b (fC (ay d r).aA.length) .ex))
   .have hk:jM d ((ay d r).aA.getD k 0) r.toNat:=h.Ah r.toNat aQ k hk;have k1:(ay d r).aA.getD k 0<(r.toNat:Int):=hk.1;exact N8 h F _ y hy ⟨by omega,hk.2⟩
   have kU:jM d ((ay d r).aA.getD k 0) r.toNat:=h.Ah r.toNat aQ k hk;have k1:=kU.1;have hs:=sSr hO h F ((ay d r).aA.getD k 0) y (by omega) hy ⟨by omega,kU.2⟩ (by omega);exact aN CP (.b (bg hk) (.o (aG hk) (.fr [2,3] hs (.goG [.gc [4,5]] g))))
  generalize hy:aS (fun k y=>kE d F ((ay d r).aA.getD k 0) y) (ay d r).aA.length 0 x=y at hl;have sk:=N8 h (F+1) r x hx hr;unfold kE at sk;rw[a18 (by rw[t0];simp),a18 (by rw[t1];simp),hy]at sk;have sl:(y.1++[r]).length<=d.au.length:=sk.len.1;have ml:y.1.length+[r].length<=ah:=by rw[<-a1B];omega
  exact dK.gs hX (nS hX CP (first:=[]) (cap:=[]) (v:=.dM [.own 5,.own 3]) (H1:=[.gone,.gone,.gone,ls y.2,.list true true 3 ([r]:LI0),ls (y.1++[r])]) (by kernel_rfl) (.b t0 (.o mn (.b t1 (.o hi (.wG [.mv 0,.mv 1] hl (.o ml .er))))))) [.gc [5,3]] rfl
def nlA:Arg Unit where
 put _:=.nil .aO
 get v:=match v with
  |.nil .aO=>some ()
  |_=>none
 ok:=by
  intro v a hg A m h x hv;split at hg
  .exact hv
  .cases hg
abbrev wSn(d:Dg)(r:Int)(k:Int)(s:LI0×LI0)(x:List (Nat×PE aH)):bV aH:=⟨[(1,xi r),(2,xo 0),(3,xo 1),(4,.loc 0 0),(10,.loc 1 0),(11,xi k)]++x,[d.ps,(ay d r).ps],[ls s.1,ls s.2]⟩
theorem sr0{d}:La d ([],[]):=⟨a6p,by simp,a6p,by simp⟩
def srN(d:Dg)(r:Int):LI0:=(kE d 6002 r ([],[])).1
def srE(d:Dg)(r:Int):LI0:=(kE d 6002 r ([],[])).2
def a2O:gZ aH:=cu 133 (a4 dA iA nlA nlA) (dQ (a2 qC qC)) (fun p=>(srN p.1 p.2.1,srE p.1 p.2.1)) (fun p=>[D6 p.1,jM p.1 p.2.1 p.1.au.length,p.1.au.length<=6000]) abP
theorem alG:Gd a2O:=ar4.deep 6001 fun n hn hO p hp=>by
 obtain⟨d,r,_,_⟩:=p;have h:D6 d:=hp _ iE;have hr:jM d r d.au.length:=hp _ zq;have hm:d.au.length<=6000:=hp _ hh2;obtain⟨N,rfl⟩:∃N,n=N+6001:=⟨n-6001,by omega⟩;have hO:∀m,N<=m->Ok m abP:=fun m hm=>hO m (by omega);have CP:=hO (N+6001) (by omega);by_cases c:r<0
 .have t0:decide (r<0)=true:=by simpa using c
  have t1:(!(decide (ji r∈([]:LI0))))=true:=by simp
  have e:kE d 6002 r ([],[])=([],[ji r]):=by rw[kE,a1e t0,a1e t1];rfl
  show nI X0 Qp _ _ _ ((dQ (a2 qC qC)).put ((kE d 6002 r ([],[])).1,(kE d 6002 r ([],[])).2)) [];rw[e];exact aP CP (.b t0 (.o le0 (.b t1 (.o le1 (.rn (.dM [.nil .aO,.dD 3 ([ji r]:LI0) false]) rfl)))))
 .have t0:decide (r<0)=false:=by simpa using c
  have t1:decide (r∈([]:LI0))=false:=by simp
  have hi:gG r d.au.length:=⟨by omega,hr.1⟩;obtain⟨i1,i2⟩:=id hi;have aQ:r.toNat<d.au.length:=by omega
  have hl:Oi (N+6001) 133 0 0 (wSn d r 0 ([],[]) []) (.exit 0) (wSn d r (ay d r).aA.length (aS (fun k y=>kE d 6001 ((ay d r).aA.getD k 0) y) (ay d r).aA.length 0 ([],[])) [(40,xl false)]):=by
   refine wL (σ:=LI0×LI0) (N:=(ay d r).aA.length) (g:=fun k y=>kE d 6001 ((ay d r).aA.getD k 0) y) (s0:=(([],[]):LI0×LI0)) (st:=fun k y=>wSn d r k y []) (fin:=fun y=>wSn d r (ay d r).aA.length y [(40,xl false)]) (fun _ y=>La d y) (by kernel_rfl) (YC (h.L9 r.toNat aQ)) sr0 (fun k y hk hy=>?_) (fun k y hk hy m e p g=>?_) (fun y _=>aN CP (.b (fC (ay d r).aA.length) .ex))
   .have hk:jM d ((ay d r).aA.getD k 0) r.toNat:=h.Ah r.toNat aQ k hk;have k1:(ay d r).aA.getD k 0<(r.toNat:Int):=hk.1;exact N8 h 6001 _ y hy ⟨by omega,hk.2⟩
   .have kU:jM d ((ay d r).aA.getD k 0) r.toNat:=h.Ah r.toNat aQ k hk;have k1:(ay d r).aA.getD k 0<(r.toNat:Int):=kU.1;have hs:=sSr hO h 6001 ((ay d r).aA.getD k 0) y (by omega) hy ⟨by omega,kU.2⟩ (by omega);exact aN CP (.b (bg hk) (.o (aG hk) (.fr [0,1] hs (.goG [.gc [2,3]] g))))
  have sk:=N8 h 6002 r ([],[]) sr0 hr;have e:kE d 6002 r ([],[])=((aS (fun k y=>kE d 6001 ((ay d r).aA.getD k 0) y) (ay d r).aA.length 0 ([],[])).1++[r],(aS (fun k y=>kE d 6001 ((ay d r).aA.getD k 0) y) (ay d r).aA.length 0 ([],[])).2):=by rw[kE,a18 (by rw[t0];simp),a18 (by rw[t1];simp)]
  show nI X0 Qp _ _ _ ((dQ (a2 qC qC)).put ((kE d 6002 r ([],[])).1,(kE d 6002 r ([],[])).2)) [];rw[e]at sk ⊢;generalize aS (fun k y=>kE d 6001 ((ay d r).aA.getD k 0) y) (ay d r).aA.length 0 ([],[])=y at hl sk;have sl:(y.1++[r]).length<=d.au.length:=sk.len.1;have m1:=h.au;have ml:y.1.length+[r].length<=ah:=by rw[<-a1B];omega
  exact aP CP (.b t0 (.o le0 (.b t1 (.o hi (.wG [.IQ 2 3,.IQ 3 3] hl (.o ml .rr))))))
open Go Tw Pv bK
abbrev cD1(d:Dg)(i j:Nat):Bool:=decide (d.aK.getD j V0=d.aK.getD i V0)
abbrev cD0(d:Dg)(i:Nat):Bool:=if kC (bH (cD1 d i) i)=true then false else true
abbrev cD3(d:Dg)(i j:Nat):Bool:=if((fD d j).var==(fD d i).var)=true then decide ((fD d j).aA=(fD d i).aA)else false
abbrev cD2(d:Dg)(i:Nat):Bool:=if Es (fD d i)=true then true else if kC (bH (cD3 d i) i)=true then false else true
abbrev wD(d:Dg)(x:List (Nat×PE aH)):bV aH:=⟨[(1,.loc 0 0)]++x,[d.ps],[]⟩
abbrev rD(d:Dg):Ex×bV aH:=(.ret,⟨[(2,xl false)],[d.ps],[]⟩)
def zD1(d:Dg)(i:Nat):Unit⊕Nat->Ex×bV aH
 |.inl _=>(.exit 2,wD d [(3,xi i),(4,xi i),(18,xl false)])
 |.inr _=>rD d
theorem lD1{n gq}(hO:Ok n gq){d}(h:DgL d){i}(hi:i<d.aK.length):Lp n 84 1 (wD d [(3,xi i),(4,xi 0)]) (zD1 d i (bH (cD1 d i) i)).1 (zD1 d i (bH (cD1 d i) i)).2:=
 jo (st:=fun j _=>wD d [(3,xi i),(4,xi j)]) (fun _ _=>True) (by kernel_rfl) (by have:=h.aK;omega) trivial (fun j s m hj _ ih=>aN hO (.b (bg hj) (.o (aG (show j<d.aK.length by omega)) (.o (aG hi) (.q (.bool (cD1 d i j)) (eqV (.tmp 25) (.tmp 30) (d.aK.getD j V0) (d.aK.getD i V0)) (.ls (.ou nofun) (.nx (ih _ trivial)))))))) (fun s _=>aN hO (.b (fC i) (.ou nofun)))
def zD0(d:Dg):Unit⊕Nat->Ex×bV aH
 |.inl _=>(.exit 0,wD d [(3,xi d.aK.length),(13,xl false)])
 |.inr _=>rD d
theorem lD0{n gq}(hO:Ok n gq){d}(h:DgL d):Lp n 84 0 (wD d [(3,xi 0)]) (zD0 d (bH (cD0 d) d.aK.length)).1 (zD0 d (bH (cD0 d) d.aK.length)).2:=
 jo (st:=fun i _=>wD d [(3,xi i)]) (fun _ _=>True) (by kernel_rfl) h.aK trivial (fun i s m hi _ ih=>by
  have hl:=lD1 hO h hi;unfold gS cD0;cases e:kC (bH (cD1 d i) i)
  .exact aN hO (.b (bg hi) (.w (l9 hl 0 e) (.ou nofun)))
  .exact aN hO (.b (bg hi) (.w (l7 hl () e) (.nx (ih _ trivial))))
  ) (fun s _=>aN hO (.b (fC d.aK.length) (.ou nofun)))
def zD3(d:Dg)(i:Nat):Unit⊕Nat->Ex×bV aH
 |.inl _=>(.exit 6,wD d [(5,xi i),(6,xi i),(47,xl false)])
 |.inr _=>rD d
theorem lD3{n}(hO:Ok n a2O){d}(h:D6 d){i}(hi:i<d.au.length):Lp n 84 3 (wD d [(5,xi i),(6,xi 0)]) (zD3 d i (bH (cD3 d i) i)).1 (zD3 d i (bH (cD3 d i) i)).2:=
 jo (st:=fun j _=>wD d [(5,xi i),(6,xi j)]) (fun _ _=>True) (by kernel_rfl) (by have:=h.au;omega) trivial (fun j s m hj _ ih=>by
  have tY:j<d.au.length:=by omega
  unfold gS cD3;cases e:((fD d j).var==(fD d i).var)
  .exact aN hO (.b (bg hj) (.o (aG tY) (.o (aG hi) (.b e (.nx (ih _ trivial))))))
  .exact aN hO (.b (bg hj) (.o (aG tY) (.o (aG hi) (.b e (.o (aG tY) (.o (aG hi) (.o (YC (h.L9 j tY)) (.ls (.ou nofun) (.nx (ih _ trivial))))))))))
  ) (fun s _=>aN hO (.b (fC i) (.ou nofun)))
def zD2(d:Dg):Unit⊕Nat->Ex×bV aH
 |.inl _=>(.exit 4,wD d [(5,xi d.au.length),(36,xl false)])
 |.inr _=>rD d
theorem lD2{n}(hO:Ok n a2O){d}(h:D6 d):Lp n 84 2 (wD d [(5,xi 0)]) (zD2 d (bH (cD2 d) d.au.length)).1 (zD2 d (bH (cD2 d) d.au.length)).2:=
 jo (st:=fun i _=>wD d [(5,xi i)]) (fun _ _=>True) (by kernel_rfl) h.au trivial (fun i s m hi _ ih=>by
  have hl:=lD3 hO h hi;unfold gS cD2;cases e1:Es (fD d i)
  .cases e:kC (bH (cD3 d i) i)
   .exact aN hO (.b (bg hi) (.o (aG hi) (.o (YC (h.L9 i hi)) (.b e1 (.w (l9 hl 0 e) (.ou nofun))))))
   .exact aN hO (.b (bg hi) (.o (aG hi) (.o (YC (h.L9 i hi)) (.b e1 (.w (l7 hl () e) (.nx (ih _ trivial)))))))
  .exact aN hO (.b (bg hi) (.o (aG hi) (.o (YC (h.L9 i hi)) (.b e1 (.ou nofun)))))
  ) (fun s _=>aN hO (.b (fC d.au.length) (.ou nofun)))
def oL(d:Dg):Bool:=if kC (bH (cD0 d) d.aK.length)=true then(if kC (bH (cD2 d) d.au.length)=true then(if Ag (srN d d.root) (d.au.length:Int)=true then Ag (srE d d.root) (d.aK.length:Int)else false)else false)else false
theorem a2P{d}(h:D6 d):(srN d d.root).length<=ah/\(srE d d.root).length<=ah:=by have hl:=(N8 h 6002 d.root ([],[]) sr0 h.root).len;exact⟨a5Y hl.1 h.au,a5Y hl.2 h.aK⟩
def alH:gZ aH:=cu 84 (a1 dA) tA (fun p=>oL p) (fun p=>[D6 p,p.au.length<=6000]) a2O
theorem ar5:Gd alH:=alG.add fun n hO p hp=>aP hO (.zh (fun h=>.w (l7 (lD0 hO (show D6 p from hp _ iE).toDgL) () h) (.zh (fun h2=>.w (l7 (lD2 hO (show D6 p from hp _ iE)) () h2) (.o (hp _ iE) (.o (show D6 p from hp _ iE).root (.o (hp _ zq) (.o (a2P (hp _ iE)).1 (.ss (.o (a2P (hp _ iE)).2 .rr) .rr)))))) fun h2=>.w (l9 (lD2 hO (show D6 p from hp _ iE)) 0 h2) .rr)) fun h=>.w (l9 (lD0 hO (show D6 p from hp _ iE).toDgL) 0 h) .rr)
theorem YI{d}(hm:d.aK.length<=ah){r}{b:Nat}(h:jd d r b=true):jM d r b:=by
 unfold jd at h;by_cases c:0<=r
 .rw[a1e (by simpa using c)]at h;exact⟨by simpa using h,fun h2=>by omega⟩
 rw[a18 (by simpa using c),wR]at h;have e:i64.wrap ((d.aK.length:Int)-1)=(d.aK.length:Int)-1:=by unfold ah at hm;exact fV (by omega) (by omega)
 rw[e]at h;obtain⟨h1,h2⟩:=h;exact⟨by omega,fun _=>⟨h1,show ji r<_ by show i64.wrap (-1-r)<_;omega⟩⟩
theorem a8w{d}(h:DgL d)(hl:mO d=true):D6 d:=by
 unfold mO at hl;split at hl
 rotate_left
 .cases hl
 split at hl
 rotate_left
 .cases hl
 rename_i h1 h2;have h2:=dL.1 h2;have key:∀i,i<d.au.length->nU (fD d i).var 0 (xw d.aj)=true/\(((fD d i).aA.length:Int) != d.aj.getD (fD d i).var.toNat 0)=false/\kC (bH (cLk d i) (fD d i).aA.length)=true:=fun i hi=>by
  have:=h2 i hi;unfold cLn at this;split at this
  .cases this
  split at this
  .cases this
  split at this
  .rename_i a b c;exact⟨by simpa using a,by simpa using b,c⟩
  cases this
 refine⟨h,fun i hi k hk=>?_,fun i hi=>?_,fun i hi=>?_,fun i hi=>?_,YI h.aK hl⟩
 .have:=dL.1 (key i hi).2.2 k hk;unfold cLk at this;split at this
  .cases this
  rename_i a;exact YI h.aK (by simpa using a)
 .exact YH h.bQ (L8 h.bQ (key i hi).1) (key i hi).2.1
 .exact L8 h.bQ (key i hi).1
 simpa using(key i hi).2.1
theorem jq{d}(ho:d.aB.length<=ah)(he:d.aK.length<=ah)(h:(bC d != 0)=false):D6 d/\d.au.length<=6000:=by
 unfold bC at h;split at h
 .rename_i h1;simp at h h1;exact absurd h h1
 split at h
 .cases h
 split at h
 .cases h
 rename_i h1 h2 h3;have h2:decide ((d.au.length:Int)>6000)=false:=by simpa using h2
 exact⟨a8w ⟨ho,Wp h2,he,BL (by simpa using h1)⟩ (by simpa using h3),by simp at h2;omega⟩
def iD(d:Dg):Int:=if(bC d != 0)=true then bC d else if(!(oL d))=true then 4 else 0
def alJ:gZ aH:=cu 22 (a1 dA) iA (fun p=>iD p) (fun p=>[p.aB.length<=ah,p.aK.length<=ah]) alH
theorem ar6:Gd alJ:=ar5.add fun n hO p hp=>aP hO (.o (hp _ iE) (.o (hp _ zq) (.sh (fun _=>.rr) fun h=>.o (jq (hp _ iE) (hp _ zq) h).1 (.o (jq (hp _ iE) (hp _ zq) h).2 (.ss .rr .rr)))))
open Go Tw Pv bK
def gAt(d:Dg)(p:LI0)(r:Int):Int⊕Int:=if decide (r>=0)=true then .inl ((ay d r).aA.getD (p.getD (ay d r).var.toNat 0).toNat 0)else .inr r
def Wq(d:Dg)(p:LI0):Nat->Int->Int
 | 0,r=>r
 |F+1,r=>if r<0 then r else Wq d p F ((ay d r).aA.getD (p.getD (ay d r).var.toNat 0).toNat 0)
theorem aej{d p}:∀(F) (r),Wq d p F r<0->itF (gAt d p) (F+1) r=some (Wq d p F r)
 | 0,r,h=>by
  have h:r<0:=h;have e:gAt d p r=.inr r:=by unfold gAt;rw[a18 (by simpa using h)]
  rw[itF,e];rfl
 |F+1,r,h=>by
  by_cases c:r<0
  .have e:gAt d p r=.inr r:=by unfold gAt;rw[a18 (by simpa using c)]
   rw[itF,e,Wq,a1e c]
  have e:gAt d p r=.inl ((ay d r).aA.getD (p.getD (ay d r).var.toNat 0).toNat 0):=by unfold gAt;rw[a1e (by simp;omega)]
  rw[Wq,a18 c]at h;rw[itF,e,Wq,a18 c];exact aej F _ h
theorem QG{d}(h:D6 d){p}(hp:jR d.aj p=true){r}(hr:gG r d.au.length):gG (ay d r).var p.length/\gG (p.getD (ay d r).var.toNat 0) (ay d r).aA.length/\jM d ((ay d r).aA.getD (p.getD (ay d r).var.toNat 0).toNat 0) r.toNat:=by
 obtain⟨r1,r2⟩:=hr;have hl:r.toNat<d.au.length:=by omega
 have hv:=h.var r.toNat hl;have hk:=h.ksz r.toNat hl;obtain⟨v1,v2⟩:=hv;obtain⟨p1,p2⟩:=qA.1 hp;have p3:=p2 (ay d r).var.toNat (by show(fD d r.toNat).var.toNat<_;omega);have k1:gG (p.getD (ay d r).var.toNat 0) (ay d r).aA.length:=⟨p3.1,by show _<((fD d r.toNat).aA.length:Int);rw[hk];exact p3.2⟩;refine⟨⟨v1,by rw[p1];exact v2⟩,k1,h.Ah r.toNat hl _ ?_⟩;obtain⟨k2,k3⟩:=k1;show _<(ay d r).aA.length;omega
theorem Ws{d}(h:D6 d){p}(hp:jR d.aj p=true):∀(F:Nat) (r:Int),r<F->jM d r d.au.length->jM d (Wq d p F r) 0
 | 0,r,hr,hk=>⟨by show r<((0:Nat):Int);omega,hk.2⟩
 |F+1,r,hr,hk=>by
  unfold Wq;split
  .rename_i c;exact⟨by show r<((0:Nat):Int);omega,hk.2⟩
  rename_i c;have:=(QG h hp (r:=r) ⟨by omega,hk.1⟩).2.2;obtain⟨a1,a2⟩:=this;have a3:r<(d.au.length:Int):=hk.1;exact Ws h hp F _ (by omega) ⟨by omega,a2⟩
abbrev atR(d:Dg)(p:LI0):Int:=Wq d p 6001 d.root
def kF(d:Dg)(p:LI0):V:=d.aK.getD (ji (atR d p)).toNat V0
abbrev wAt(d:Dg)(p:LI0)(r:Int)(x:List (Nat×PE aH)):bV aH:=⟨[(1,xL 3 p),(2,.loc 0 0),(4,.loc 1 0),(5,xi r)]++x,[d.ps,V0.ps],[]⟩
theorem lAt{n gq}(hO:Ok n gq){d}(h:D6 d)(hm:d.au.length<=6000){p}(hp:jR d.aj p=true):Lp n 98 0 (wAt d p d.root []) (.exit 0) (wAt d p (atR d p) [(9,xl false)]):=by
 have h0:d.root<(d.au.length:Int):=h.root.1;have ha:=Ws h hp 6001 d.root (by omega) h.root;have RZ:=aej 6001 d.root ha.1;refine a0P (st:=fun r=>wAt d p r []) (g:=gAt d p) (out:=fun r=>(.exit 0,wAt d p r [(9,xl false)])) (fun r=>jM d r d.au.length) RZ (by kernel_rfl) (by decide) h.root ?_ ?_
 .intro r r1 hr e;unfold gAt at e;split at e
  .rename_i c;have c:0<=r:=(by simpa using c);cases e;have:=(QG h hp (r:=r) ⟨c,hr.1⟩).2.2;have a3:r<(d.au.length:Int):=hr.1;obtain⟨a1,a2⟩:=this;exact⟨by omega,a2⟩
  cases e
 intro r m r' hr ih;by_cases c:0<=r
 .have hk:=QG h hp (r:=r) ⟨c,hr.1⟩;have t1:decide (r>=0)=true:=by simpa using c
  have e:gAt d p r=.inl ((ay d r).aA.getD (p.getD (ay d r).var.toNat 0).toNat 0):=by unfold gAt;rw[a1e t1]
  have g:=ih _ e;rw[e];have xK:gG r d.au.length:=⟨c,hr.1⟩;exact aN hO (.b t1 (.o xK (.o xK (.o hk.1 (.o hk.2.1 (.go g))))))
 have t1:decide (r>=0)=false:=by simpa using c
 have e:gAt d p r=.inr r:=by unfold gAt;rw[a18 (by rw[t1];simp)]
 rw[e];dsimp only[Eb];exact aN hO (.b t1 .ex)
theorem abT{d}(h:D6 d)(hm:d.au.length<=6000){p}(hp:jR d.aj p=true):gG (ji (atR d p)) d.aK.length:=by have h0:d.root<(d.au.length:Int):=h.root.1;have ha:=Ws h hp 6001 d.root (by omega) h.root;exact ha.2 ha.1
def alK:gZ aH:=cu 98 (a2 dA qC) vA (fun p=>kF p.1 p.2) (fun p=>[D6 p.1,p.1.au.length<=6000,jR p.1.aj p.2=true]) alJ
theorem ar7:Gd alK:=ar6.add fun n hO p hp=>aP hO (.w (lAt hO (hp _ iE) (hp _ zq) (hp _ hh2)) (.o (abT (hp _ iE) (hp _ zq) (hp _ hh2)) .rr))
open Go Tw Pv bK
theorem abU{A m h}{l:LI0}{cs}(hr:eG X0 Qp A m h 3 l cs 0 1)(hc:cs.length=l.length):cs=l.map fun n=>TV.int .i64 n:=by
 apply aaw (by simp[hc]);intro j h1 h2;have hj:j<l.length:=by omega
 have:=hr.2.2 j l[j] 0 (.int .i64 l[j]) cs[j] (a0Q hj) rfl (by rw[a0x];exact⟨by omega,by simp⟩);rw[this.a2y];simp
theorem Uw:∀l,MW (l.map fun n=>TV.int .i64 n)=some l
 | []=>rfl
 |a::l=>by simp[MW,Uw l]
theorem Ux{A m h}(l:LI0):eG X0 Qp A m h 3 l (l.map fun n=>TV.int .i64 n) 0 1:=by
 refine⟨fun j a _=>rfl,by simp only[a4X,aiy,a3L];exact a1l _,fun j a i c v hj hi hv=>?_⟩;have tY:=(a0x.1 hj).1;cases i with
 |zero=>
  have hi:some (PV.int .i64 a)=some c:=hi;cases hi;have hj:(l:LI0)[j]? = some a:=hj;rw[a3L,aiy,adi,a4V,hj]at hv;have hv:some (TV.int .i64 a)=some v:=hv;cases hv;exact .int _ _
 |succ i=>have hi:([]:List (PV aH))[i]? = some c:=hi;simp at hi
theorem N9:dI Qp 3=some 1:=by kernel_rfl
theorem a8x(n x h):kW Qp T LL (n+1) (.fn 137 [] []) [x] h=Qm 137 (.fn 137 [] []) [x] h:=rfl
theorem abV{f c h kk Ci cs l e}(hb:h[c]? = some (.cells kk cs))(hk:AL kk true=some Ci)(JW:cs=l.map fun n=>TV.int .i64 n)(h0:0<l.length)(h1:l.length<=2^20) :Qm f (.fn f [] []) [.aO c 0 l.length l.length 1 e] h=some (.dM [],h.set c (.cells Ci ((gu l).map fun n=>TV.int .i64 n)),[c]):=by
 have nP:cs.length=l.length:=by rw[JW,a4X]
 have him:MW cs=some l:=by rw[JW];exact Uw l
 generalize l.length=n at *;obtain⟨j,rfl⟩:∃j,n=j+1:=⟨n-1,by omega⟩;simp only[Qm,a7W,a2p,hb,hk,him,nP,h0,h1,adw]
theorem aek{n k ex}(l:LI0)(hl:l.length<=2^20):iW (n+1) (.fn 137 [] []) [.own 0] [.list k ex 3 l] (.dM []) [.list k ex 3 (gu l)]:=by
 intro A m h tf rH hr hf hx;obtain⟨x,r,rfl,h1,h2⟩:=hx.inv;have:=h2.inv0;subst this;obtain⟨g1,g2⟩:=abt hr (i:=0) (k:=k) (ex:=ex) (t:=3) (l:=l) rfl h1;have htf:=hf.Qd;subst htf;show ∃w h1 ws m1,kW Qp T LL (n+1) _ _ h=_/\_;rw[a8x];have ar8:gu ([]:LI0)=[]:=by simp[gu]
 have hE:∀h0:(l:LI0)=[],gu l=l:=fun h0=>by rw[h0];exact ar8
 rcases agy g2 with⟨h0,rfl⟩|⟨h0,b,off,sz,cs,rfl,p0,p1,p2,p3,p4⟩|⟨p1,c,sz,e,kk,cs,rfl,p2,p3,p4,p5,p6,p7,p8,p9⟩
 .rw[hE h0];exact⟨.dM [],h,[],m,rfl,hr,.dM rfl (fun i x y hx=>by simp at hx),.refl,.refl,fun b hb=>by cases hb⟩
 .rw[hE h0];exact⟨.dM [],h,[],m,rfl,hr,.dM rfl (fun i x y hx=>by simp at hx),.refl,.refl,fun b hb=>by cases hb⟩
 rw[N9]at p2;cases p2;have p8:cs.length=(l:LI0).length*1:=p8;have nP:cs.length=l.length:=by omega
 have JW:=abU p9 nP;have Xt:0<l.length:=by cases l with|nil=>exact absurd rfl p1|cons=>simp
 obtain⟨Ci,yL,afZ,hko⟩:=KC p5;have aQ:=(a0x.1 p4).1;have ru:(MB.dD (TV.aO c 0 l.length l.length 1 e)).own=some c:=by simp only[MB.own];rw[a18 (by omega)]
 have hsl:(gu l).length=l.length:=by unfold gu;rw[ab6]
 have iI:gu l≠[]:=fun e0=>by rw[e0]at hsl;simp at hsl;omega
 obtain⟨q1,q2⟩:=hr.set (i:=0) (c:=c) (pb:=.list k ex 3 (gu l)) (hb:=.cells Ci ((gu l).map fun n=>TV.int .i64 n)) g1 ru
  (fun F8 MG=>⟨_,by simp only[aU];rw[a2w aQ],by
   simp only[aU,p4,a09]at MG;subst MG;rw[a4X,hsl,nP];exact a1l _⟩)
  (fun hF=>by have r:=LR.some (X:=X0) (P:=Qp) (A:=AA A m) (m:=m) (k:=k) (ex:=ex) (e:=e) (t:=3) (b:=c) (kk:=Ci) iI N9 (by decide) (by rw[a2w aQ]) afZ (fun e0=>hko (p6 e0)) p7 (by rw[a4X,aiy];rfl) (Ux (gu l));have ar9:@List.length (X0.Γ 3) (gu l)=l.length:=hsl;rw[ar9]at r;exact r)
 refine⟨.dM [],_,[c],m,?_,q1,.dM rfl (fun i x y hx=>by simp at hx),q2,.refl,fun d hd=>?_⟩
 .exact abV p4 yL JW Xt hl
 simp at hd;subst hd;exact aY g1 ru
end Go.Proofs.YtmobpoiejckagaaGreat
namespace Pv
open Go Tw
variable{X:mV}{P:LI1}
theorem nI.a8y(hX:bT X P){call f xs vs v v' ext ext'}(hc:nI X P call f vs v ext)(hv:views [] ([]++xs++[])=some vs)(hs:rZ X 0 ext=some ext')(e:shift 0 v=v') (he:(if yE v||ext.any (hasB X)then aX (lN.kX ([]++xs++[])) []else [])=([]:List (PB X.Γ))):dK X P call (.fn f [] []) xs [] v' ext':=by
 subst e;intro A m h tf rH hr hf hx;have htf:=hf.Qd;subst htf;obtain⟨w,h',m1,c1,c2,c3,c4,c5⟩:=J6 hX hc hr hv hs (t1:=[]) (t3:=[]) .nil hx .nil;rw[he]at c2;exact⟨w,h',[],m1,c1,c2,c3,c4,c5,fun b hb=>by cases hb⟩
end Pv
namespace Go.Proofs.YtmobpoiejckagaaGreat
open Go Tw Pv bK
abbrev lsI(l:LI0):List (PB aH):=[.list false false 3 l]
theorem a4Y(n h):Nr Qp T (iw n) LL 125 [.nil .aO] h=some (.nil .aO,h,[]):=by kernel_rfl
theorem a4Z(n b off cap ex h):Nr Qp T (iw n) LL 125 [.aO b off 0 cap 1 ex] h=some (.aO h.length 0 0 0 1 true,h++[.cells .own []],[]):=by kernel_rfl
theorem ah3{n}:nI X0 Qp (iw (n+1)) 125 [.dD 3 ([]:LI0) false] (.own 0) (lsI []):=by
 intro A h first args cap Gl hv
 obtain⟨x,r,e,h1,h2⟩:=hv.inv;have:=h2.inv0;subst this;have hun:kW Qp T LL (n+1) (.fn 125 first cap) args h=Nr Qp T (iw n) LL 125 [x] h:=by rw[<-e];show kW Qp T LL (n+1) _ _ _=_;rw[kW,a18 (by decide),a18 (by decide)]
 rcases Yg h1 with rfl|⟨b,off,cap',sz,ex,cs,rfl,a1,a2,a3,a4,a5⟩
 .exact⟨.nil .aO,h,[.dD (.nil .aO)],by rw[<-a4Y n h,<-hun],Jc Gl .nil rfl,.own rfl rfl,⟨a1l _,fun _ _ _=>rfl,fun b hb=>by simp[aZ,MB.own]at hb,fun b cs hc=>⟨cs,hc,a1l _⟩⟩⟩
 rw[N9]at a3;cases a3;have hc:aU (h++[HB.cells .own []]) h.length=some []:=by unfold aU;rw[a1r (a1l _),afz];rfl
 refine⟨.aO h.length 0 0 0 1 true,h++[.cells .own []],[.dD (.aO h.length 0 0 0 1 true)],by rw[<-a4Z n b off cap' ex h,<-hun],Jc (fun b hb=>Gl b (by simp at hb;omega)) (.emp ⟨Gl _ (a1l _),by simp[aZ,MB.own]⟩ hc (a1l _) N9 (by decide)) (by simp[MB.own]),.own rfl rfl,⟨by simp,fun b hb _=>by rw[a0U hb],fun b hb=>by simp[aZ,MB.own]at hb,fun b cs hc=>⟨cs,?_,a1l _⟩⟩⟩;rw[fE (a0U (fH hc)),hc]
def ael:gZ aH:=Yd 125 (a1 qC) (fun _=>.own 0) (fun p=>lsI p) (fun p=>[p.length<=ah]) alK
theorem alM:Gd ael:=ar7.Uc 0 fun n _ hO p hp=>by
 have hl:p.length<=ah:=hp _ iE;by_cases h:p=[]
 .subst h;exact ah3
 .have h2:([]:LI0).length+p.length<=ah:=by simpa using hl
  exact nI.gs hX (Ad hX (hO n (by omega)) (v:=.own 1) (H:=[.gone,.list true false 3 p]) (by kernel_rfl) (.o h (.b aiC (.o h2 .er)))) [.gc [1],.flag 0] rfl
abbrev abX(m:Nat)(i:Int)(l:LI0)(x:List (Nat×PE aH)):bV aH:=⟨[(3,xo 0),(7,xi m),(8,xi i)]++x,[],[.list true true 3 l]⟩
theorem a8z(m):aS (fun k (l:LI0)=>l.set k (k:Int)) m 0 (List.replicate m 0)=dU m:=by
 have:=dh (g:=fun k (l:LI0)=>l.set k (k:Int)) (m:=m) (k:=0) (s:=List.replicate m 0) (fun k l=>l.length=m/\∀j,j<k->l.getD j 0=(j:Int)) ⟨by simp,by simp⟩ (fun j l _ hj h=>⟨by simp[h.1],fun i hi=>by
  rw[bK.zT (by omega)];split
  .rename_i e;rw[e]
  exact h.2 i (by omega)⟩)
 rw[pz (d:=0) (by rw[this.1,mM])];intro j hj;have tY:j<m:=by have:=this.1;omega
 rw[this.2 j (by omega)];simp[dU,List.getD,a4V,aak,tY]
theorem ara{n gq}(hO:Ok n gq)(m)(hm:m<=ah):Lp n 159 0 (abX m 0 (List.replicate m 0) []) (.exit 0) (abX m m (dU m) [(9,xl false)]):=by rw[<-a8z];exact wL (σ:=LI0) (N:=m) (g:=fun k (l:LI0)=>l.set k (k:Int)) (s0:=List.replicate m 0) (st:=fun i (l:LI0)=>abX m i l []) (fin:=fun(l:LI0)=>abX m m l [(9,xl false)]) (fun _ (l:LI0)=>l.length=m) (by kernel_rfl) hm (by simp) (fun k l _ h=>by simp[h]) (fun k l hk hl j e p g=>aN hO (.b (bg hk) (.o (aG (show k<l.length by omega)) (.go g)))) (fun l _=>aN hO (.b (fC m) .ex))
def aem:gZ aH:=cu 159 (a1 iA) qC (fun p=>dU p.toNat) (fun p=>[0<=p,p<=(ah:Int)]) ael
theorem alN:Gd aem:=alM.add fun n hO p hp=>by have h0:0<=p:=hp _ iE;have h1:p<=(ah:Int):=hp _ zq;obtain⟨m,rfl⟩:∃m:Nat,p=(m:Int):=⟨p.toNat,by omega⟩;exact aP hO (.o (rfl:(m:Int)=(m:Int)) (.o h0 (.o h1 (.w (ara hO m (by omega)) .rr))))
abbrev ah5(a b:LI0)(i:Int)(x:List (Nat×PE aH)):bV aH:=⟨[(0,xL 3 a),(1,xL 3 b),(12,xi a.length),(13,xi i)]++x,[],[]⟩
def alO(a b:LI0):Unit⊕Nat->Ex×bV aH
 |.inl _=>(.exit 0,ah5 a b a.length [(14,xl false)])
 |.inr _=>(.ret,⟨[(4,xl false)],[],[]⟩)
theorem alP{n gq}(hO:Ok n gq)(a b)(hl:a.length<=ah)(h:a.length=b.length):Lp n 158 0 (ah5 a b 0 []) (alO a b (bH (MZ a b) a.length)).1 (alO a b (bH (MZ a b) a.length)).2:=
 jo (st:=fun i _=>ah5 a b i []) (fun _ _=>True) (by kernel_rfl) hl trivial (fun k s m hk _ ih=>aN hO (.b (bg hk) (.o (aG hk) (.o (aG (h▸hk)) (.ls (.ou nofun) (.nx (ih _ trivial))))))) (fun s _=>aN hO (.b (fC a.length) (.ou nofun)))
def aen:gZ aH:=cu 158 (a2 qC qC) tA (fun p=>decide (p.1=p.2)) (fun p=>[p.1.length<=ah]) aem
theorem alQ:Gd aen:=alN.add fun n hO p hp=>aP hO (.s (fun h=>.v false (a8m h).symm) fun h=>.z (c:=kC (bH (MZ p.1 p.2) p.1.length)) (fun h2=>.w (l7 (alP hO p.1 p.2 (hp _ iE) (mJ h)) () h2) (.v true (by rw[<-Fq (mJ h),h2]))) fun h2=>.w (l9 (alP hO p.1 p.2 (hp _ iE) (mJ h)) 0 h2) (.v false (by rw[<-Fq (mJ h),h2])))
def a8A:gZ aH:=cu 157 (a3 iA iA qC) tA (fun p=>nK p.2.2 p.1 p.2.1) (fun p=>[p.2.2.length<=ah]) aen
theorem alR:Gd a8A:=alQ.deep 3 fun n hn hO p hp=>by have h1:∀x,dK X0 Qp (iw (n-3+1)) (.fn 188 [] [.ptr 0 0 1,.ptr 1 0 1]) [.int .i64 x] [.cells [.int .i64 p.1],.cells [.int .i64 p.2.1]] (tA.put (wX x p.1 p.2.1)) [.cells [.int .i64 p.1],.cells [.int .i64 p.2.1]]:=fun x=>jI gU (first:=[]) (.ssh (fun _=>.sr) (fun _=>.sr));obtain⟨n,rfl⟩:∃k,n=k+3:=⟨n-3,by omega⟩;rw[show n+3-3+1=n+1 by omega]at h1;have h2:=akH (n:=n+2) (by omega) (g:=fun x=>wX x p.1 p.2.1) h1 p.2.2 (hp _ iE);exact aP (hO _ (by omega)) (.k h2 (.v (!(nJ (fun x=>wX x p.1 p.2.1) p.2.2)) (by rw[Fj];rfl)))
def a2Q(s:LI0):Int:=aS (fun k n=>i64.wrap (n*s.getD k 0)) s.length 0 1
theorem YJ:∀{s},nZ s->bF s<=12^s.length
 | [],_=>by decide
 |a::t,h=>by have h1:=YJ h.tail;have h2:=jG h.tail;have h3:=h a (.head _);have h4:a*bF t<=12*bF t:=ab8 h3.2 (by omega);show a*bF t<=12^(t.length+1);rw[Int.pow_succ];omega
theorem alS:∀{n},n<=6->(12:Int)^n<=2985984:=by decide
theorem a8B{s}(h:nZ s)(hl:s.length<=6):a2Q s=bF s:=by
 have:=dh (g:=fun k n=>i64.wrap (n*s.getD k 0)) (m:=s.length) (k:=0) (s:=1) (fun k n=>n=bF (s.take k)) (by simp[bF]) (fun j n _ hj e=>by
  have tY:j<s.length:=by omega
  have e2:bF (s.take (j+1))=n*s.getD j 0:=by rw[a7B tY,Fg,e];simp[bF,List.getD,a0Q tY]
  have h1:=Sz h (j+1);have h2:1<=bF (s.take (j+1)):=jG fun a ha=>h a (aaf ha);have h3:=YJ h;have h4:=alS hl;show i64.wrap (n*s.getD j 0)=_;rw[e2]at h1 h2 ⊢;exact fV (by omega) (by omega))
 rw[a2Q,this];simp
abbrev abY(a b:LI0)(p i:Int)(x:List (Nat×PE aH)):bV aH:=⟨[(0,xL 3 a),(1,xL 3 b),(5,xi p),(17,xL 3 a),(18,xi a.length),(19,xi i)]++x,[],[]⟩
theorem arb{n gq}(hO:Ok n gq)(a b)(hl:a.length<=ah):Lp n 105 0 (abY a b 1 0 []) (.exit 1) (abY a b (a2Q a) a.length [(20,xl false)]):=
 Qi (st:=fun i n=>abY a b n i []) (fin:=fun n=>abY a b n a.length [(20,xl false)]) (fun _ _=>True) (by kernel_rfl) hl SB trivial (fun _ _ _ _=>trivial) (fun k s hk _ n e p h=>aN hO (.b (bg hk) (.o (aG hk) (.go h)))) (fun s _=>aN hO (.b (fC a.length) .ex))
theorem ah6{n}(hO:Ok n a8A)(l:LI0)(hl:l.length<=ah):iW n (.fn 125 [] []) [.dD 3 l false] [] (.own 0) (lsI l):=
 nI.a8y hX (hO 125 [.dD 3 l false] (.own 0) (lsI l) [l.length<=ah] (by kernel_rfl) (aft.2 hl)) rfl rfl rfl rfl
theorem a8C(n):(dU n).Pairwise fun a b=>decide (a<=b)=true:=by unfold dU;rw[adb];exact List.pairwise_lt_range.imp fun h=>by simp;omega
theorem a5a{n o}:decide (gu o=dU n)=kD n o:=by
 rw[a5S,a1x];have h2:=Us n;have hp:(gu o).Perm o:=aer _ _;constructor
 .intro h;rw[h]at hp;unfold kD at h2 ⊢;rw[a1x]at h2 ⊢;exact⟨by rw[<-hp.length_eq,h2.1],fun a ha=>h2.2.1 a (hp.mem_iff.2 ha),hp.nodup_iff.1 h2.2.2⟩
 intro h;unfold kD at h h2;rw[a1x]at h h2;have e:o.Perm (dU n):=(a7x h.2.2 h2.2.2).2 fun a=>by
  have hm:∀x,0<=x/\x<(n:Int)->x∈dU n:=fun x hx=>by unfold dU;rw[a1w];exact⟨x.toNat,by rw[a5m];omega,by omega⟩
  constructor
  .exact fun ha=>hm a (h.2.1 a ha)
  intro ha;by_cases hc:a∈o
  .exact hc
  have:=aeV (l₁:=a::o) (l₂:=dU n) (a5I.2 ⟨hc,h.2.2⟩) (fun x hx=>by
   rcases a1E.1 hx with rfl|hx
   .exact ha
   exact hm x (h.2.1 x hx))
  rw[mM]at this;simp at this;omega
 refine List.Perm.eq_of_pairwise (le:=fun a b=>decide (a<=b)=true) (fun a b _ _ h1 h2=>by simp at h1 h2;omega) ?_ (a8C n) (hp.trans e);exact afY (fun a b c h1 h2=>by simp at h1 h2 ⊢;omega) (fun a b=>by simp;omega) o
def YK(s o:LI0):Int:=if decide ((s.length:Int)>6)=true then 5 else if(!(nK s 1 12))=true then 3 else if decide (a2Q s>2000)=true then 5 else if(!(decide (gu o=dU s.length)))=true then 4 else 0
theorem YL(s o):YK s o=bn s o:=by
 rw[QD];unfold YK;rw[a5a];by_cases h1:6<s.length
 .rw[a1e (by simp;omega),a1e h1]
 rw[a18 (by simp;omega),a18 h1];have hw:nK s 1 12=decide (nZ s):=by
  unfold nK;rw[a5S,a6A,List.any_eq_false,a1x];refine acJ fun a=>acJ fun _=>?_;unfold wX;split
  .rename_i h;simp at h ⊢;omega
  rename_i h;simp at h ⊢;omega
 rw[hw];by_cases h2:nZ s
 .rw[a18 (by simp[h2]),a1e h2,a8B h2 (by omega)];simp only[a1x,Int.not_lt,gt_iff_lt];split
  .rfl
  cases kD s.length o<;>simp
 rw[a1e (by simp[h2]),a18 h2]
def aeo:gZ aH:=cu 105 (a2 qC qC) iA (fun p=>bn p.1 p.2) (fun p=>[p.1.length<=ah,p.2.length<=2^20]) a8A
theorem alT:Gd aeo:=alR.deep 1 fun n hn hO p hp=>by
 obtain⟨n,rfl⟩:∃k,n=k+1:=⟨n-1,by omega⟩;have hO:=hO (n+1) (by omega);have h1:p.1.length<=ah:=hp _ iE;have h2:p.2.length<=2^20:=hp _ zq;have h3:p.2.length<=ah:=by unfold ah;omega
 have h4:(dU p.1.length).length<=ah:=by rw[mM];exact h1
 have h5:(gu p.2).length<=ah:=by unfold gu;rw[ab6];exact h3
 show nI X0 Qp _ _ _ (iA.put (bn p.1 p.2)) _;rw[<-YL];exact aP hO (.ss .rr (.o h1 (.ss .rr (.w (arb hO p.1 p.2 h1) (.ss .rr (.fr [] (ah6 hO p.2 h3) (.fr [0] (aek (n:=n) (k:=false) (ex:=false) p.2 h2) (.o (show(0:Int)<=(p.1.length:Int) by omega) (.o (show(p.1.length:Int)<=(ah:Int) by omega) (.o h5 (.ss .rr .rr)))))))))))
open Go Tw Pv bK
theorem YM{α:Type}(x:α):[x].length<=ah:=by unfold ah;simp
def qX(v:V):Bool:=if decide (v.f>0)=true then(if decide (v.f<=4)=true then v.n==0 else false)else nK [v.n] (-9999) 9999
def aep:gZ aH:=cu 190 (a1 vA) tA (fun p=>qX p) np aeo
theorem alU:Gd aep:=alT.add fun n hO p hp=>aP hO (.ss (.ss .rr .rr) (.o (YM p.n) .rr))
abbrev frA:ArL X0 Qp (LI0×LI0):=a2 qC qC
abbrev cIx(l:LI0)(v:Int)(k:Nat):Bool:=v==l.getD k 0
abbrev ah7(l:LI0)(v:Int)(i:Int)(x:List (Nat×PE aH)):bV aH:=⟨[(0,xL 3 l),(1,xi v),(7,xi l.length),(8,xi i)]++x,[],[]⟩
def z234(l:LI0)(v:Int):Unit⊕Nat->Ex×bV aH
 |.inl _=>(.exit 0,ah7 l v l.length [(9,xl false)])
 |.inr k=>(.ret,⟨[(4,xi k)],[],[]⟩)
theorem alV{n gq}(hO:Ok n gq)(l v)(hl:l.length<=ah):Lp n 234 0 (ah7 l v 0 []) (z234 l v (bH (cIx l v) l.length)).1 (z234 l v (bH (cIx l v) l.length)).2:=
 jo (st:=fun i _=>ah7 l v i []) (fun _ _=>True) (by kernel_rfl) hl trivial (fun k s m hk _ ih=>aN hO (.b (bg hk) (.o (aG hk) (.ls (.ou nofun) (.nx (ih _ trivial)))))) (fun s _=>aN hO (.b (fC l.length) (.ou nofun)))
def nV(l:LI0)(v:Int):Int:=if kC (bH (cIx l v) l.length)=true then -1 else((Ea 0 (bH (cIx l v) l.length):Nat):Int)
def aes:gZ aH:=cu 234 (a2 qC iA) iA (fun p=>nV p.1 p.2) (fun p=>[p.1.length<=ah]) aep
theorem alW:Gd aes:=alU.add fun n hO p hp=>aP hO (.zh (fun h=>.w (l7 (alV hO p.1 p.2 (hp _ iE)) () h) .rr) fun h=>.w (l9 (alV hO p.1 p.2 (hp _ iE)) 0 h) .rr)
def aeu:gZ aH:=cu 223 (a2 (a7Q (a2 qC qC)) iA) iA (fun p=>nV p.1.2 p.2) (fun p=>[p.1.2.length<=ah]) aes
theorem alX:Gd aeu:=alW.add fun n hO p hp=>aP hO (.o (hp _ iE) .rr)
def aev:gZ aH:=cu 197 (a1 iA) iA (fun p=>i64.wrap (-1-p)) np aeu
theorem alY:Gd aev:=alX.add fun n hO p hp=>aP hO .rr
structure Lo where
 s:LI0
 o:LI0
 d:Dg
abbrev Lo.ps(l:Lo):List (PV aH):=[.dD 3 l.s false,.dD 3 l.o false]++l.d.ps
def loA:Arg Lo:=agu (a7Q (Nw qC (Nw qC (Nw qC (a4 qC vsA abD iA))))) (fun p=>⟨p.1,p.2.1,⟨p.2.2.1,p.2.2.2.1,p.2.2.2.2.1,p.2.2.2.2.2.1,p.2.2.2.2.2.2⟩⟩) (fun l=>(l.s,l.o,l.d.aj,l.d.aB,l.d.aK,l.d.au,l.d.root)) fun _=>rfl
def qI(l:Lo)(Ah below Nz:Int):Bool:=if decide (Ah<0)=true then decide (i64.wrap (-1-Ah)<(l.d.aK.length:Int))else if decide (Ah<below)=true then decide (nV l.o (l.d.au.getD Ah.toNat lH).var>Nz)else false
def YN:gZ aH:=cu 193 (a4 loA iA iA iA) tA (fun p=>qI p.1 p.2.1 p.2.2.1 p.2.2.2) (fun p=>[p.1.o.length<=ah,0<=p.2.1->p.2.1<p.2.2.1->gG p.2.1 p.1.d.au.length]) aev
theorem alZ:Gd YN:=alY.add fun n hO p hp=>aP hO (.sh (fun _=>.rr) fun h=>.sh (fun h2=>.o (hp (0<=p.2.1->p.2.1<p.2.2.1->gG p.2.1 p.1.d.au.length) (.tail _ (.head _)) (by simpa using h) (by simpa using h2)) (.o (hp _ iE) .rr)) fun _=>.rr)
abbrev Hb(l:Lo)(i:Int)(b:Br):List (PB aH):=[.cells l.ps,.cells [.int .i64 i],.cells b.ps]
theorem ard{n f:Nat}{a c:List (PV aH)}{H:List (PB aH)}{g}(l:LI0)(hf:∀x∈l,iW n (.fn f a c) [.int .i64 x] H (.bool (g x)) H)(hl:l.length<=ah):iW (n+1) (.fn 218 [] []) [.dD 3 l false,.fn f a c] H (iA.put (sS g l)) H:=by
 have lp:Oi n 218 0 H.length (a8l f a c H l 0 []) (z218 f a c H l (nG (qB g) l 0 ())).1 (z218 f a c H l (nG (qB g) l 0 ())).2:=
  Yb (st:=fun i _=>a8l f a c H l i []) (0:Int) (fun _ _=>True) (by kernel_rfl) hl SB trivial (fun k s n hk _ ih=>aN gU (.b (bg hk) (.o (aG hk) (.k (hf (l.getD k (0:Int)) (dG hk)) (.ls (.ou nofun) (.nx (ih _ trivial))))))) (fun s _=>aN gU (.b (fC l.length) (.ou nofun)))
 exact jI gU (first:=[]) (cap:=[]) (.szh (fun h=>.w (l7 lp () h) .sr) (fun h=>.w (l9 lp (0,0,()) h) .sr))
theorem am0{n f:Nat}{a c:List (PV aH)}{H:List (PB aH)}{g}(l:LI0)(hf:∀x∈l,iW n (.fn f a c) [.int .i64 x] H (.bool (g x)) H)(hl:l.length<=ah):iW (n+2) (.fn 181 [] []) [.dD 3 l false,.fn f a c] H (tA.put (l.any g)) H:=by have h1:=ard l hf hl;have h2:=Fj g l;rw[<-h2];exact jI gU (first:=[]) (cap:=[]) (.k h1 .sr)
theorem Fz{α:Type}(l:List α)(g):(!(l.any fun x=>!(g x)))=l.all g:=by
 induction l with
 |nil=>rfl
 |cons a l ih=>simp only[aeM,acp,Bool.not_or,Bool.not_not,ih]
abbrev pB:List (PV aH):=[.ptr 0 0 7,.ptr 1 0 1,.ptr 2 0 2]
theorem arf{n f:Nat}{l i b g}(ks:LI0)(hf:∀x∈ks,iW n (.fn f [] pB) [.int .i64 x] (Hb l i b) (tA.put (g x)) (Hb l i b))(hl:ks.length<=ah):iW (n+4) (.fn 191 [] []) [.dD 3 ks false,.fn f [] pB] (Hb l i b) (tA.put (ks.all g)) (Hb l i b):=by
 have h1:∀x∈ks,iW (n+1) (.fn 221 [] [.ptr 3 0 1]) [.int .i64 x] (Hb l i b++[.cells [.fn f [] pB]]) (tA.put (!(g x))) (Hb l i b++[.cells [.fn f [] pB]]):=fun x hx=>
  jI gU (first:=[]) (.fr [0,1,2] (hf x hx) .sr)
 have h2:=am0 ks h1 hl;rw[<-Fz ks g];exact dK.drop hX (E8 hX gU (first:=[]) (cap:=[]) (H1:=Hb l i b++[.cells [.fn f [] pB]]) (by kernel_rfl) (.k h2 .sr)) rfl rfl
theorem a2R{x a b}:nK [x] a b=decide (a<=x/\x<=b):=by
 unfold nK wX;simp only[aeM,List.any_nil,Bool.or_false];by_cases h:x<a
 .rw[a1e (by simpa using h),aah,eq_comm,a3G];omega
 rw[a18 (by simpa using h),a5S,a6A,a3G,a1x];omega
theorem YO{l:List Br}{k}(h:k<l.length):l.getD k lH∈l:=by simp[List.getD,a0Q h]
abbrev yg(l:Lo)(i:Int):Br:=l.d.au.getD i.toNat lH
def Hw(l:Lo)(i:Int):Bool:=if(!(nK [(yg l i).var] 0 (xw l.s)))=true then false else if(((yg l i).aA.length:Int) != l.s.getD (yg l i).var.toNat 0)=true then false else(yg l i).aA.all fun x=>qI l x i (nV l.o (yg l i).var)
theorem am1{n}(hO:∀m,n<=m->Ok m YN){l i}(ho:l.o.length<=ah)(hf:wC l.s)(hi:gG i l.d.au.length):iW (n+6) (.fn 192 [.agg l.ps] []) [.int .i64 i] [] (tA.put (Hw l i)) []:=by
 have h1:∀x∈(yg l i).aA,iW (n+1) (.fn 222 [] pB) [.int .i64 x] (Hb l i (yg l i)) (tA.put (qI l x i (nV l.o (yg l i).var))) (Hb l i (yg l i)):=fun x _=>
  jI (hO n (a1l _)) (first:=[]) (.o ho (.o ho (.o (show 0<=x->x<i->gG x l.d.au.length from fun h0 h1=>⟨h0,by have:=hi.1;have:=hi.2;omega⟩) .sr)))
 have hv:(!(nK [(yg l i).var] 0 (xw l.s)))=false->gG (yg l i).var l.s.length:=fun h=>by rw[a2R,abQ,a1x,a8n hf.akp]at h;exact⟨h.1,by omega⟩
 have hk:(!(nK [(yg l i).var] 0 (xw l.s)))=false->(((yg l i).aA.length:Int) != l.s.getD (yg l i).var.toNat 0)=false->(yg l i).aA.length<=ah:=fun h h2=>by
  have h3:=hv h;have h4:=hf.sz _ (dG (s:=l.s) (k:=(yg l i).var.toNat) (by have:=h3.2;have:=h3.1;omega));have h2:((yg l i).aA.length:Int)=l.s.getD (yg l i).var.toNat 0:=by simpa using h2
  exact YC (by omega)
 exact dK.drop hX (E8 hX (hO (n+5) (by omega)) (first:=[.agg l.ps]) (cap:=[]) (H1:=Hb l i (yg l i)++[.list true true 3 [(yg l i).var]]) (by kernel_rfl) (.o hi (.o (YM (yg l i).var) (.ssh (fun _=>.sr) fun h5=>.o (hv h5) (.ssh (fun _=>.sr) fun h6=>.fr [0,1,2] (arf (yg l i).aA h1 (hk h5 h6)) .sr))))) rfl rfl
abbrev a5b(f:Nat)(a:List (PV aH)):List (PB aH):=[.cells [.fn f a []]]
theorem am2{n}{l:Lo}{g}(ks:LI0)(hf:∀x∈ks,iW n (.fn 192 [.agg l.ps] []) [.int .i64 x] [] (tA.put (g x)) [])(hl:ks.length<=ah):iW (n+4) (.fn 191 [] []) [.dD 3 ks false,.fn 192 [.agg l.ps] []] [] (tA.put (ks.all g)) []:=by
 have h1:∀x∈ks,iW (n+1) (.fn 221 [] [.ptr 0 0 1]) [.int .i64 x] (a5b 192 [.agg l.ps]) (tA.put (!(g x))) (a5b 192 [.agg l.ps]):=fun x hx=>
  jI gU (first:=[]) (.fr [] (hf x hx) .sr)
 have h2:=am0 ks h1 hl;rw[<-Fz ks g];exact dK.drop hX (E8 hX gU (first:=[]) (cap:=[]) (H1:=a5b 192 [.agg l.ps]) (by kernel_rfl) (.k h2 .sr)) rfl rfl
theorem arh{n}(hO:Ok n YN)(l:List V)(hl:l.length<=ah):iW (n+4) (.fn 189 [] []) [.dD 39 l false,.fn 190 [] []] [] (tA.put (l.all qX)) []:=by
 have h1:∀x:V,iW (n+1) (.fn 220 [] [.ptr 0 0 1]) [.agg x.ps] (a5b 190 []) (tA.put (!(qX x))) (a5b 190 []):=fun x=>
  jI hO (first:=[]) .sr
 have h2:=agU (n:=n+2) (by omega) (g:=fun x=>!(qX x)) h1 l hl;rw[<-Fz l,<-KU];exact dK.drop hX (E8 hX gU (first:=[]) (cap:=[]) (H1:=a5b 190 []) (by kernel_rfl) (.k h2 .sr)) rfl rfl
theorem ari{n}(hO:Ok n YN)(m)(hm:m<=ah):iW n (.fn 159 [] []) [.int .i64 m] [] (qC.put (dU m)) []:=
 nI.a8y hX (hO 159 [.int .i64 m] (qC.put (dU m)) [] [0<=(m:Int),(m:Int)<=(ah:Int)] (by kernel_rfl) (by
  intro q hq;rcases a1E.1 hq with rfl|hq
  .omega
  .rw[a1D.1 hq];omega)) rfl rfl rfl rfl
theorem a2S{x m}(h:x∈dU m):gG x m:=by simp only[dU,a1w,a5m]at h;obtain⟨k,hk,rfl⟩:=h;exact aG hk
abbrev zH(d:Dg):Lo:=⟨d.aj,d.aB,d⟩
abbrev lo0:Lo:=⟨[],[],⟨[],[],[],[],0⟩⟩
def bI(d:Dg):Lo×Int:=if(bn d.aj d.aB != 0)=true then(lo0,bn d.aj d.aB)else if decide ((d.au.length:Int)>6000)=true then(zH d,5)else if(!(d.aK.all qX))=true then(zH d,4)else if(!((dU d.au.length).all (Hw (zH d))))=true then(zH d,4)else if(!(qI (zH d) d.root d.au.length (-1)))=true then(zH d,4)else(zH d,0)
def Et:gZ aH:=cu 160 (a1 dA) (dQ (a2 loA iA)) (fun p=>bI p) (fun p=>[p.aj.length<=ah,p.aB.length<=2^20,p.aK.length<=ah]) YN
theorem aew:Gd Et:=alZ.deep 11 fun n hn hO d hp=>by
 obtain⟨n,rfl⟩:∃k,n=k+10:=⟨n-10,by omega⟩;have h1:d.aj.length<=ah:=hp _ iE;have h2:d.aB.length<=2^20:=hp _ zq;have h3:d.aK.length<=ah:=hp _ hh2;have ho:d.aB.length<=ah:=by unfold ah;omega
 have hO:∀m,n<=m->Ok m _:=fun m hm=>hO m (by omega);have hI:(bn d.aj d.aB != 0)=false->∀x∈dU d.au.length,iW (n+6) (.fn 192 [.agg (zH d).ps] []) [.int .i64 x] [] (tA.put (Hw (zH d) x)) []:=fun h x hx=>am1 hO (l:=zH d) ho (BL h) (a2S hx);have hR:0<=d.root->d.root<(d.au.length:Int)->gG d.root d.au.length:=fun a b=>⟨a,by omega⟩;have hL:decide ((d.au.length:Int)>6000)=false->(dU d.au.length).length<=ah:=fun h=>by rw[mM];exact Wp h
 exact aP (hO (n+10) (by omega)) (.o h1 (.o h2 (.sh (fun _=>.rn (.dM [.agg [.nil .aO,.nil .aO,.nil .aO,.nil .aO,.nil .aO,.nil .aO,.int .i64 0],.int .i64 (bn d.aj d.aB)]) rfl) fun h=>.sh (fun _=>.rr) fun h4=>.fr [] (arh (n:=n+6) (hO (n+6) (by omega)) d.aK h3) (.ss .rr (.fr [] (ari (hO (n+10) (by omega)) d.au.length (Wp h4)) (.fr [] (am2 (l:=zH d) (n:=n+6) (dU d.au.length) (hI h) (hL h4)) (.ss .rr (.o ho (.o hR (.ss .rr .rr))))))))))
open Go Tw Pv bK
def Hy(x:Int):Prop:=-(2^63)<=x/\x<2^63
structure Dh(d:Dg):Prop where
 Ah:∀i,i<d.au.length->∀k,k<(fD d i).aA.length->Hy ((fD d i).aA.getD k 0)
 root:Hy d.root
 fault:∀v∈d.aK,0<=v.f
theorem mP{n o}(h:kD n o=true){v}(hv:gG v n):v∈o:=by
 unfold kD at h;rw[a1x]at h;obtain⟨h0,h1⟩:=hv;by_cases hc:v∈o
 .exact hc
 have:=aeV (l₁:=v::o) (l₂:=dU n) (a5I.2 ⟨hc,h.2.2⟩) (fun x hx=>by
  have:0<=x/\x<(n:Int):=by
   rcases a1E.1 hx with rfl|hx
   .exact⟨h0,by omega⟩
   exact h.2.1 x hx
  unfold dU;rw[a1w];exact⟨x.toNat,by rw[a5m];omega,by omega⟩)
 rw[mM]at this;simp at this;omega
theorem tH{l:LI0}{k}(h):l.getD k 0=l[k]:=by simp[List.getD,a0Q h]
theorem a2T{l v}(h:v∈l):kC (bH (cIx l v) l.length)=false:=by
 cases e:kC (bH (cIx l v) l.length)
 .rfl
 obtain⟨j,hj,e2⟩:=a5T.1 h;have:=dL.1 e j hj;simp[cIx,List.getD,a0Q hj,e2]at this
theorem a8D{d r}:QE d r=cIx d.aB (ay d r).var:=by funext k;exact BEq.comm
theorem Wu{d r}(h0:0<=r)(h:(ay d r).var∈d.aB):uV d r=nV d.aB (ay d r).var:=by unfold uV nV;rw[a18 (by rw[a1x];omega),a8D,a2T h,a18 (by decide),a18 (by decide)]
theorem am3{l v}(h:v∈l):nV l v<(l.length:Int):=by unfold nV;rw[a2T h,a18 (by simp)];obtain⟨j,h1,_,_,h2⟩:=BD (a2T h);rw[h2];show(j:Int)<_;omega
theorem QH{x a b}:nK [x] a b=nU x a b:=by rw[a2R,a5S,wR,a1x]
theorem a8E{v}(h:0<=v.f):qX v=vOk v:=by rw[agX h];unfold qX vIs;rw[QH]
theorem ah8{z}(h:Hy z):i64.wrap z=z:=by
 obtain⟨h0,h1⟩:=h;simp only[IntKind.wrap,IntKind.bits,IntKind.signed];rcases Int.lt_or_le z 0 with h|h
 .have:z%(2^64:Int)=z+2^64:=by have:=acv z (2^64) 1;rw[adh]at this;rw[<-this];exact a8U (by omega) (by omega)
  simp only[this];rw[a1e (by simp;omega)];omega
 have:z%(2^64:Int)=z:=a8U h (by omega);simp only[this];rw[a18 (by simp;omega)]
theorem Oj{x}(h:Hy x)(h0:x<0):i64.wrap (-1-x)=-1-x:=by have h1:=h.1;exact ah8 ⟨by omega,by omega⟩
theorem abZ{d x}(below)(h:Hy x)(h0:x<0)(he:d.aK.length<=ah):jd d x below=decide (i64.wrap (-1-x)<(d.aK.length:Int)):=by
 have he:d.aK.length<=2^60:=by unfold ah at he;omega
 unfold jd;rw[a18 (by simp;omega),Oj h h0,a5S,wR,a1x];by_cases h1:d.aK.length=0
 .rw[h1,show i64.wrap (((0:Nat):Int)-1)=-1 by decide];omega
 rw[fV (by omega) (by omega)];omega
theorem am4{l v}(h:v∈l):0<=nV l v:=by unfold nV;rw[a2T h,a18 (by simp)];omega
theorem ah9{d x below Nz}(h0:0<=x)(hv:x<below->(ay d x).var∈d.aB):qI (zH d) x below Nz=(jd d x below&&decide (Nz<uV d x)):=by
 unfold qI jd;rw[a18 (show ¬(decide (x<0)=true) by rw[a1x];omega),a1e (show decide (x>=0)=true by rw[a1x];omega)];by_cases h1:x<below
 .rw[a1e (show decide (x<below)=true by rw[a1x];exact h1),Wu h0 (hv h1),decide_eq_true h1,aeL]
 rw[a18 (show ¬(decide (x<below)=true) by rw[a1x];exact h1),afr h1,Bool.false_and]
theorem aha{d x below Nz}(h:Hy x)(h0:x<0)(he:d.aK.length<=ah)(hr:Nz<(d.aB.length:Int)):qI (zH d) x below Nz=(jd d x below&&decide (Nz<uV d x)):=by rw[abZ _ h h0 he];unfold qI uV;rw[a1e (by rw[a1x];exact h0),a1e (by rw[a1x];exact h0),decide_eq_true hr,aiB]
theorem a8F{d x below Nz}(h:Hy x)(he:d.aK.length<=ah)(hr:Nz<(d.aB.length:Int))(hv:0<=x->x<below->(ay d x).var∈d.aB):qI (zH d) x below Nz=(jd d x below&&decide (Nz<uV d x)):=by
 by_cases h0:0<=x
 .exact ah9 h0 (hv h0)
 exact aha h (by omega) he hr
theorem a8G{d}(h:Dh d)(he:d.aK.length<=ah)(hv:∀r,gG r d.au.length->(ay d r).var∈d.aB):qI (zH d) d.root d.au.length (-1)=jd d d.root d.au.length:=by
 rw[a8F h.root he (by omega) (fun a b=>hv _ ⟨a,by omega⟩)];cases e:jd d d.root d.au.length
 .rfl
 rw[aeL,a1x];by_cases h0:0<=d.root
 .have:=YG e h0 (a1l _);rw[Wu h0 (hv _ this)];have:=am4 (hv _ this);omega
 unfold uV;rw[a1e (by rw[a1x];omega)];omega
theorem aex{d}(h:Dh d)(he:d.aK.length<=ah){i}(hi:i<d.au.length)(hf:wC d.aj)(ho:kD d.aj.length d.aB=true)(hv:∀j,j<i->(fD d j).var∈d.aB):Hw (zH d) i=!(cLn d i):=by
 have e0:yg (zH d) i=fD d i:=rfl;unfold Hw cLn;rw[e0];show(if(!(nK [(fD d i).var] 0 (xw d.aj)))=true then false else if(((fD d i).aA.length:Int) != d.aj.getD (fD d i).var.toNat 0)=true then false else _)=_;rw[QH];cases e1:nU (fD d i).var 0 (xw d.aj)
 .rfl
 have hvi:(fD d i).var∈d.aB:=mP ho (L8 hf e1);have arj:(ay d (i:Int)).var∈d.aB:=hvi;simp only[aah,a2K,a3U];split
 .rfl
 have AY:((fD d i).aA.all fun x=>qI (zH d) x i (nV (zH d).o (fD d i).var))=kC (bH (cLk d i) (fD d i).aA.length):=by
  rw[a5S,a5L,dL];have hk:∀k,k<(fD d i).aA.length->(qI (zH d) ((fD d i).aA.getD k 0) i (nV d.aB (fD d i).var)=true↔cLk d i k=false):=fun k hk=>by
   rw[a8F (h.Ah i hi k hk) he (am3 hvi) (fun a b=>hv _ (by omega)),a2n,a1x];unfold cLk;rw[show uV d (i:Int)=nV d.aB (fD d i).var from Wu (by omega) arj];cases jd d ((fD d i).aA.getD k 0) i
   .simp
   simp<;>omega
  constructor
  .intro a k MF;exact(hk k MF).1 (a _ (dG MF))
  intro a x hx;obtain⟨k,MF,rfl⟩:=a5T.1 hx;have:=(hk k MF).2 (a k MF);rw[tH MF]at this;exact this
 rw[AY];cases kC (bH (cLk d i) (fD d i).aA.length)<;>rfl
theorem ahb{d}(h:Dh d)(he:d.aK.length<=ah)(hf:wC d.aj)(ho:kD d.aj.length d.aB=true):(dU d.au.length).all (Hw (zH d))=kC (bH (cLn d) d.au.length):=by
 have am5:∀i,cLn d i=false->(fD d i).var∈d.aB:=fun i hc=>by
  unfold cLn at hc;split at hc
  .cases hc
  rename_i e;exact mP ho (L8 hf (by simpa using e))
 have key:∀i,i<=d.au.length->((∀j,j<i->Hw (zH d) j=true)↔∀j,j<i->cLn d j=false):=by
  intro i
  induction i with
  |zero=>intro _;exact⟨fun _ j hj=>absurd hj (by omega),fun _ j hj=>absurd hj (by omega)⟩
  |succ i ih=>
   intro hi;have ih:=ih (by omega);constructor
   .intro a;have b:=ih.1 fun j hj=>a j (by omega);intro j hj;by_cases hji:j<i
    .exact b j hji
    have:j=i:=(by omega);subst this;have:=a j (by omega);rw[aex h he (by omega) hf ho (fun k hk=>am5 k (b k hk))]at this;simpa using this
   intro b j hj;by_cases hji:j<i
   .exact ih.2 (fun k hk=>b k (by omega)) j hji
   have:j=i:=(by omega);subst this;rw[aex h he (by omega) hf ho (fun k hk=>am5 k (b k (by omega))),b j (by omega)];rfl
 rw[a5S,a5L,dL,<-key _ (a1l _)];constructor
 .intro a j hj;exact a _ (by unfold dU;rw[a1w];exact⟨j,a5m.2 hj,rfl⟩)
 intro a x hx;simp only[dU,a1w,a5m]at hx;obtain⟨k,hk,rfl⟩:=hx;exact a k hk
theorem ac0{d}(h:∀v∈d.aK,0<=v.f):d.aK.all qX=kC (bH (cLe d) d.aK.length):=by
 rw[a5S,a5L,dL];have hg:∀k,(hk:k<d.aK.length)->d.aK.getD k V0=d.aK[k]:=fun k hk=>by simp[List.getD,a0Q hk]
 constructor
 .intro a k hk;unfold cLe;rw[hg k hk,<-a8E (h _ (a5K hk)),a _ (a5K hk)];rfl
 intro a x hx;obtain⟨k,hk,rfl⟩:=a5T.1 hx;have:=a k hk;unfold cLe at this;rw[hg k hk,<-a8E (h _ hx)]at this;simpa using this
theorem Le{d}(h:Dh d)(he:d.aK.length<=ah):bI d=(if(bn d.aj d.aB != 0)=true then lo0 else zH d,bC d):=by
 unfold bI bC;split
 .rfl
 rename_i h1;have RG:=iT.1 (show bn d.aj d.aB=0 by simpa using h1);split
 .rfl
 unfold mO;rw[ac0 h.fault,ahb h he RG.1 RG.2];cases e1:kC (bH (cLe d) d.aK.length)
 .rfl
 cases e2:kC (bH (cLn d) d.au.length)
 .rfl
 have hv:∀r,gG r d.au.length->(ay d r).var∈d.aB:=fun r hr=>by
  have:=dL.1 e2 r.toNat (by have:=hr.1;have:=hr.2;omega);unfold cLn at this;split at this
  .cases this
  rename_i e;exact mP RG.2 (L8 RG.1 (by simpa using e))
 rw[a8G h he hv];simp only[aah,a2K,a3U,a2p];cases jd d d.root d.au.length<;>rfl
open Go Tw Pv bK
def kV:pF X0 Qp 39 V where
 pv x:=.agg x.ps
 tv x:=x.tv
 v x:=.agg #[.int .u8 x.f,.int .i64 x.n]
 hp _:=rfl
 ht _:=rfl
 hc em x:=by kernel_rfl
 hf x l:=a2A agY (fun a b=>a2L 9998 a b) x l
 hk:=a2C agY fun a b=>a2L 9998 a b
def kI:pF X0 Qp 3 Int where
 pv x:=.int .i64 x
 tv x:=.int .i64 x
 v x:=.int .i64 x
 hp _:=rfl
 ht _:=rfl
 hc em x:=by kernel_rfl
 hf x l:=agI a4S x l
 hk:=agJ a4S
abbrev Aj(E:List V):List (V×PV X0.Γ):=E.zipIdx.map fun e=>(e.1,.int .i64 (e.2:Nat))
abbrev mkC(a b:LI0)(e n:Nat)(r:Int):PB aH:=.cells [.dD 3 a false,.dD 3 b false,.own 0,.own 1,.own e,.own n,.int .i64 r,.map 2,.map 3]
abbrev RI(l:List V):PB aH:=.list false false 39 l
abbrev RJ(l:List Br):PB aH:=.list false false 105 l
abbrev MK(a b:LI0)(E:List V)(nd:List Br)(r:Int)(nm:List (PV aH×PV aH)):List (PB aH):=[.list false false 3 a,.list false false 3 b,.map (kV.es (Aj E)),.map nm,mkC a b 5 6 r,RI E,RJ nd]
abbrev MK'(a b:LI0)(E:List V)(nd:List Br)(r:Int)(nm:List (PV aH×PV aH)):List (PB aH):=[.list false false 3 a,.list false false 3 b,.map (kV.es (Aj E)),.map nm,mkC a b 7 8 r,.gone,.gone,RI E,RJ nd]
theorem Uy(E):(Aj E).map (·.1)=E:=by unfold Aj;rw[a6q];show E.zipIdx.map (·.1)=E;simp
theorem a8H(E v):Aj (E++[v])=Aj E++[(v,.int .i64 (E.length:Nat))]:=by unfold Aj;rw[List.zipIdx_append,a4Q];simp
theorem a8I{E v}(h:v∈E):(v,(.int .i64 (E.idxOf v:Nat):PV X0.Γ))∈Aj E:=by unfold Aj;rw[a1w];have hl:=a5Q.2 h;exact⟨(v,E.idxOf v),by rw[aaB];simp[a0Q hl],rfl⟩
def gK(E:List V)(v:V):List V:=if v∈E then E else E++[v]
theorem Wv{E v}(h:E.Nodup):(gK E v).Nodup:=by
 unfold gK;split
 .exact h
 rename_i hn;rw[a9N];exact⟨h,by simp,fun x hx y hy=>by rw[a1D]at hy;subst hy;intro e;subst e;exact hn hx⟩
theorem ark{n}(hO:Ok n Et){a b E nd r nm}(v)(hE:E.Nodup)(hl:E.length+1<=ah):iW (n+1) (.fn 196 [] []) [.ptr 4 0 9,.agg v.ps] (MK a b E nd r nm) (.int .i64 (i64.wrap (-1-(E.idxOf v:Nat)))) (MK' a b (gK E v) nd r nm):=by
 by_cases h:v∈E
 .rw[show gK E v=E from a1e h];have hf:qJ X0 Qp 39 (kV.es (Aj E)) v.tv (.int .i64 (E.idxOf v:Nat)):=kV.found (by rw[Uy];exact hE) (a8I h);exact dK.gs hX (nS hX hO (first:=[]) (cap:=[]) (v:=.int .i64 (i64.wrap (-1-(E.idxOf v:Nat)))) (H1:=MK a b E nd r nm) (by kernel_rfl) (.c (.int .i64 (E.idxOf v:Nat)) [] hf (.b aiJ .er))) [.mv 5,.mv 6] rfl
 rw[show gK E v=E++[v]from a18 h,a9g h];have hf:oz X0 Qp 39 (kV.es (Aj E)) v.tv:=kV.fresh (by rw[Uy];exact h);have em:kV.es (Aj (E++[v]))=kV.es (Aj E)++[(.agg v.ps,.int .i64 (E.length:Nat))]:=by rw[a8H];exact a4Q ..
 show dK X0 Qp _ _ _ _ _ [_,_,.map (kV.es (Aj (E++[v]))),_,_,_,_,_,_];rw[em];exact dK.gs hX (nS hX hO (first:=[]) (cap:=[]) (v:=.int .i64 (i64.wrap (-1-(E.length:Nat)))) (H1:=[.list false false 3 a,.list false false 3 b,.map (kV.es (Aj E)++[(.agg v.ps,.int .i64 (E.length:Nat))]),.map nm,mkC a b 8 6 r,.gone,RJ nd,.list true true 39 [v],RI (E++[v])]) (by kernel_rfl) (.a .calm (.o hf (.b aiK (.a .calm (.o (kV.ck v) (.o hf (.o (show E.length+[v].length<=ah by simpa using hl) .er)))))))) [.mv 6,.gc [8,9]] rfl
open Go Tw Pv bK
abbrev oI(k ex:Bool)(l:LI0):PB aH:=.list k ex 3 l
abbrev wOI(f:Nat)(a c:List (PV aH))(k ex:Bool)(R:List (PB aH))(l:LI0)(i:Int)(x:List (Nat×PE aH)):bV aH:=⟨[(0,.val (.own 0)),(1,.val (.fn f a c)),(7,xi l.length),(8,xi i)]++x,[],oI k ex l::R⟩
def zOI(f:Nat)(a c:List (PV aH))(k ex:Bool)(R:List (PB aH))(l:LI0):Unit⊕(Nat×Int×Unit)->Ex×bV aH
 |.inl _=>(.exit 0,wOI f a c k ex R l l.length [(9,xl false)])
 |.inr r=>(.ret,⟨[(4,xi r.1)],[],oI k ex l::R⟩)
theorem qoI{n f:Nat}{a c:List (PV aH)}{ko ex}{R:List (PB aH)}{g}(l)(hf:∀x∈l,iW n (.fn f a c) [.int .i64 x] (oI ko ex l::R) (.bool (g x)) (oI ko ex l::R))(hl:l.length<=ah):iW (n+1) (.fn 218 [] []) [.own 0,.fn f a c] (oI ko ex l::R) (iA.put (sS g l)) (oI ko ex l::R):=by
 have lp:Oi n 218 0 (R.length+1) (wOI f a c ko ex R l 0 []) (zOI f a c ko ex R l (nG (qB g) l 0 ())).1 (zOI f a c ko ex R l (nG (qB g) l 0 ())).2:=
  Yb (st:=fun i _=>wOI f a c ko ex R l i []) (0:Int) (fun _ _=>True) (by kernel_rfl) hl SB trivial (fun k s n hk _ ih=>aN gU (.b (bg hk) (.o (aG hk) (.k (hf (l.getD k (0:Int)) (dG hk)) (.ls (.ou nofun) (.nx (ih _ trivial))))))) (fun s _=>aN gU (.b (fC l.length) (.ou nofun)))
 exact jI gU (first:=[]) (cap:=[]) (.szh (fun h=>.w (l7 lp () h) .sr) (fun h=>.w (l9 lp (0,0,()) h) .sr))
theorem qoC{n f:Nat}{a c:List (PV aH)}{ko ex}{R:List (PB aH)}{g}(l)(hf:∀x∈l,iW n (.fn f a c) [.int .i64 x] (oI ko ex l::R) (.bool (g x)) (oI ko ex l::R))(hl:l.length<=ah):iW (n+2) (.fn 181 [] []) [.own 0,.fn f a c] (oI ko ex l::R) (tA.put (l.any g)) (oI ko ex l::R):=by have h1:=qoI l hf hl;have h2:=Fj g l;rw[<-h2];exact jI gU (first:=[]) (cap:=[]) (.k h1 .sr)
abbrev Hk(k ex:Bool)(l:LI0):List (PB aH):=[oI k ex l,.cells [.own 0]]
theorem qoA{n f:Nat}{ko ex g}(l)(hf:∀x∈l,iW n (.fn f [] [.ptr 1 0 1]) [.int .i64 x] (Hk ko ex l) (tA.put (g x)) (Hk ko ex l))(hl:l.length<=ah):iW (n+4) (.fn 191 [] []) [.own 0,.fn f [] [.ptr 1 0 1]] (Hk ko ex l) (tA.put (l.all g)) (Hk ko ex l):=by
 have h1:∀x∈l,iW (n+1) (.fn 221 [] [.ptr 2 0 1]) [.int .i64 x] (Hk ko ex l++[.cells [.fn f [] [.ptr 1 0 1]]]) (tA.put (!(g x))) (Hk ko ex l++[.cells [.fn f [] [.ptr 1 0 1]]]):=fun x hx=>
  jI gU (first:=[]) (.fr [0,1] (hf x hx) .sr)
 have h2:=qoC (R:=[.cells [.own 0],.cells [.fn f [] [.ptr 1 0 1]]]) l h1 hl;rw[<-Fz l g];exact dK.drop hX (E8 hX gU (first:=[]) (cap:=[]) (H1:=Hk ko ex l++[.cells [.fn f [] [.ptr 1 0 1]]]) (by kernel_rfl) (.k h2 .sr)) rfl rfl
theorem a8J{n ko ex}(l)(hl:l.length<=ah):iW (n+5) (.fn 191 [] []) [.own 0,.fn 224 [] [.ptr 1 0 1]] (Hk ko ex l) (tA.put (l.all fun x=>x==l.getD 0 0)) (Hk ko ex l):=
 qoA (n:=n+1) l (fun x hx=>jI gU (first:=[]) (.o (show gG 0 l.length from⟨by omega,by have:=ag2 hx;omega⟩) .sr)) hl
theorem a8K:∀l:LI0,l.length=12->∃a0 a1 a2 a3 a4 a5 a6 a7 a8 a9 a10 a11,l=[a0,a1,a2,a3,a4,a5,a6,a7,a8,a9,a10,a11]
 | [a0,a1,a2,a3,a4,a5,a6,a7,a8,a9,a10,a11],_=>⟨a0,a1,a2,a3,a4,a5,a6,a7,a8,a9,a10,a11,rfl⟩
 | [],h=>by simp at h
 | [_],h=>by simp at h
 | [_,_],h=>by simp at h
 | [_,_,_],h=>by simp at h
 | [_,_,_,_],h=>by simp at h
 | [_,_,_,_,_],h=>by simp at h
 | [_,_,_,_,_,_],h=>by simp at h
 | [_,_,_,_,_,_,_],h=>by simp at h
 | [_,_,_,_,_,_,_,_],h=>by simp at h
 | [_,_,_,_,_,_,_,_,_],h=>by simp at h
 | [_,_,_,_,_,_,_,_,_,_],h=>by simp at h
 | [_,_,_,_,_,_,_,_,_,_,_],h=>by simp at h
 |_::_::_::_::_::_::_::_::_::_::_::_::_::_,h=>by simp at h
abbrev Ky:=Int×{l:LI0 // l.length=12}
abbrev Ky.l(x:Ky):LI0:=x.1::x.2.val
theorem QI:∀l:LI0,iZ (Γ:=aH) (l.map fun x=>PV.int .i64 x)=some (l.map fun x=>TV.int .i64 x)
 | []=>rfl
 |a::l=>by simp only[a4U,iZ,rY,QI l]
theorem Uz:∀l:LI0,TV.UR (l.map fun x=>TV.int .i64 x)=some (l.map fun x=>Value.int .i64 x)
 | []=>rfl
 |a::l=>by simp only[a4U,TV.UR,TV.toC,Uz l]
theorem ahc : Tryz.prog.underlying 223 = some (.struct #[⟨"choice", 3, 0, false, "", "mist/node", 0⟩, ⟨"kids", 221, 1, false, "", "mist/node", 8⟩]) := by kernel_rfl
theorem aez(d)(a b:Ky):aC Qp (Op.equalIn (d+3) 223 (.agg (Ef .i64 a.l)) (.agg (Ef .i64 b.l)))=some (decide (a=b)):=by
 obtain⟨a1,a2,ha⟩:=a;obtain⟨b1,b2,hb⟩:=b;rw[yS (d+2) 223 _ _ _ ahc (by kernel_rfl)];have gI:aC Qp (isAgg 3)=some false:=by kernel_rfl
 have gA:aC Qp (isAgg 221)=some true:=by kernel_rfl
 have sA:aC Qp (sizeOf 221)=some 12:=by kernel_rfl
 have sI:aC Qp (sizeOf 3)=some 1:=by kernel_rfl
 have p0:∀x l,aC Qp (part 3 (Ef .i64 (x::l)) 0)=some (.int .i64 x):=fun x l=>Ee gI (Qo (l:=x::l) (by simp));have p1:∀x l,l.length=12->aC Qp (part 221 (Ef .i64 (x::l)) 1)=some (.agg (Ef .i64 l)):=fun x l h=>by
  obtain⟨a0,a1,a2,a3,a4,a5,a6,a7,a8,a9,a10,a11,rfl⟩:=a8K l h
  kernel_rfl
 have q1 := oZ (f := ⟨"choice", 3, 0, false, "", "mist/node", 0⟩) (fs := [⟨"kids", 221, 1, false, "", "mist/node", 8⟩]) (by decide) (p0 a1 a2) (p0 b1 b2) (su (d + 1) _ .i64 _ a1 b1 a4S);have q2 := oZ (f := ⟨"kids", 221, 1, false, "", "mist/node", 8⟩) (fs := []) (by decide) (p1 a1 a2 ha) (p1 b1 b2 hb) (CJ d (k := .i64) (t := 221) (by kernel_rfl) sI a4S gI ha hb);rw[q1,q2];rw[show aC Qp (Op.eqFields (d+2) (Ef .i64 (a1::a2)) (Ef .i64 (b1::b2)) [])=some true from rfl];by_cases h1:a1=b1<;>by_cases h2:a2=b2<;>simp[h1,h2]
def kK:pF X0 Qp 223 Ky where
 pv x:=.agg (x.l.map fun i=>.int .i64 i)
 tv x:=.agg (x.l.map fun i=>.int .i64 i)
 v x:=.agg (Ef .i64 x.l)
 hp x:=congrArg (Option.map TV.agg) (QI x.l)
 ht x:=congrArg (Option.map fun vs:List LI3=>Value.agg vs.toArray) (Uz x.l)
 hc em x:=by
  obtain⟨c,l,h⟩:=x;obtain⟨a0,a1,a2,a3,a4,a5,a6,a7,a8,a9,a10,a11,rfl⟩:=a8K l h
  kernel_rfl
 hf x l:=a2A ahc (fun a b=>aez 9997 a b) x l
 hk:=a2C ahc (fun a b=>aez 9997 a b)
open Go Tw Pv bK
def Jk(l:LI0):LI0:=(l++[0,0,0,0,0,0,0,0,0,0,0,0]).take 12
theorem a8L(l):(Jk l).length=12:=by unfold Jk;simp
def uX(c:Int)(ks:LI0):Ky:=(c,⟨Jk ks,a8L ks⟩)
abbrev Di(b:Br):Ky:=uX b.var b.aA
abbrev zF(nd:List Br):List (Ky×PV X0.Γ):=nd.zipIdx.map fun e=>(Di e.1,.int .i64 (e.2:Nat))
theorem UA(nd):(zF nd).map (·.1)=nd.map Di:=by unfold zF;rw[a6q];show nd.zipIdx.map (Di∘fun e=>e.1)=_;rw[<-a6q];simp
theorem a8M(nd b):zF (nd++[b])=zF nd++[(Di b,.int .i64 (nd.length:Nat))]:=by unfold zF;rw[List.zipIdx_append,a4Q];simp
theorem a8N{nd k}(h:k∈nd.map Di):(k,(.int .i64 ((nd.map Di).idxOf k:Nat):PV X0.Γ))∈zF nd:=by
 have hl:=a5Q.2 h;have Td:(nd.map Di).idxOf k<nd.length:=by simpa using hl
 unfold zF;rw[a1w];refine⟨(nd[(nd.map Di).idxOf k],(nd.map Di).idxOf k),by rw[aaB];simp[a0Q Td],?_⟩;have:=a9s hl;rw[aag]at this;show(Di _,_)=_;rw[this]
def dH(nd:List Br)(c:Int)(ks:LI0):List Br:=if(ks.all fun x=>x==ks.getD 0 0)=true then nd else if uX c ks∈nd.map Di then nd else nd++[⟨c,ks⟩]
def eH(nd:List Br)(c:Int)(ks:LI0):Int:=if(ks.all fun x=>x==ks.getD 0 0)=true then ks.getD 0 0 else((nd.map Di).idxOf (uX c ks):Nat)
abbrev MN(a b:LI0)(E:List V)(nd:List Br)(r:Int):List (PB aH):=MK a b E nd r (kK.es (zF nd))
abbrev MNg(a b:LI0)(E:List V)(nd:List Br)(r:Int)(nm:List (PV aH×PV aH)):List (PB aH):=[.list false false 3 a,.list false false 3 b,.map (kV.es (Aj E)),.map nm,mkC a b 8 9 r,.gone,.gone,.gone,RI E,RJ nd]
abbrev MN'(a b:LI0)(E:List V)(nd:List Br)(r:Int):List (PB aH):=MNg a b E nd r (kK.es (zF nd))
theorem ahd{n}(hO:Ok (n+5) Et){a b E nd r}(c ks)(hk:1<=ks.length/\ks.length<=12)(hf:(ks.all fun x=>x==ks.getD 0 0)=true):iW (n+6) (.fn 198 [] []) [.ptr 4 0 9,.int .i64 c,.own 7] (MN a b E nd r++[oI true true ks]) (.int .i64 (ks.getD 0 0)) (MN' a b E nd r):=by have h1:=nS hX hO (first:=[]) (cap:=[]) (xs:=[.ptr 4 0 9,.int .i64 c,.own 7]) (H:=MN a b E nd r++[oI true true ks]) (v:=.int .i64 (ks.getD 0 0)) (H1:=MN a b E nd r++[oI true true ks,.cells [.own 7]]) (f:=198) (by kernel_rfl) (.fr [7,8] (a8J (n:=n) (ko:=true) (ex:=true) ks (YC hk.2)) (.b hf (.o (show gG 0 ks.length from⟨by omega,by omega⟩) .er)));exact dK.forget (dK.gs hX h1 [.mv 5,.mv 6,.gc [9,10]] rfl) 7
abbrev a8O(c:Int)(ks:LI0):PB aH:=.cells ((Ky.l (uX c ks)).map fun i=>.int .i64 i)
theorem ahe{n}(hO:Ok (n+5) Et){a b E nd r}(c ks)(hk:1<=ks.length/\ks.length<=12)(hf:(ks.all fun x=>x==ks.getD 0 0)=false)(hN:(nd.map Di).Nodup)(hm:uX c ks∈nd.map Di):iW (n+6) (.fn 198 [] []) [.ptr 4 0 9,.int .i64 c,.own 7] (MN a b E nd r++[oI true true ks]) (.int .i64 ((nd.map Di).idxOf (uX c ks):Nat)) (MN' a b E nd r):=by
 have hF:qJ X0 Qp 223 (kK.es (zF nd)) (kK.tv (uX c ks)) (.int .i64 ((nd.map Di).idxOf (uX c ks):Nat)):=kK.found (by rw[UA];exact hN) (a8N hm);have h1:iW (n+6) (.fn 198 [] []) [.ptr 4 0 9,.int .i64 c,.own 7] (MN a b E nd r++[oI true true ks]) (.int .i64 ((nd.map Di).idxOf (uX c ks):Nat)) (MN a b E nd r++[oI true true ks,.cells [.own 7],a8O c ks]):=by generalize (nd.map Di).idxOf (uX c ks)=j at hF ⊢;generalize zF nd=nm at hF ⊢;obtain⟨k1,k2⟩:=hk;rcases ks with _|⟨x0,_|⟨x1,_|⟨x2,_|⟨x3,_|⟨x4,_|⟨x5,_|⟨x6,_|⟨x7,_|⟨x8,_|⟨x9,_|⟨x10,_|⟨x11,_|⟨x12,_⟩⟩⟩⟩⟩⟩⟩⟩⟩⟩⟩⟩⟩<;>first|(exfalso;simp at k1;done)|(exfalso;simp at k2;omega)|(exact fK hO (first:=[]) (cap:=[]) (.fr [7,8] (a8J (n:=n) (ko:=true) (ex:=true) _ (YC k2)) (.b hf (.c (.int .i64 (j:Nat)) [] hF (.b aiJ .er)))))
 exact dK.forget (dK.gs hX (dK.forget h1 9) [.mv 5,.mv 6,.gc [10,11]] rfl) 7
theorem ahf{n}(hO:Ok (n+5) Et){a b E nd r}(c ks)(hk:1<=ks.length/\ks.length<=12)(hf:(ks.all fun x=>x==ks.getD 0 0)=false)(hm:uX c ks∉nd.map Di)(hl:nd.length+1<=ah):iW (n+6) (.fn 198 [] []) [.ptr 4 0 9,.int .i64 c,.own 7] (MN a b E nd r++[oI true true ks]) (.int .i64 (nd.length:Nat)) (MN' a b E (nd++[⟨c,ks⟩]) r):=by
 have hF:oz X0 Qp 223 (kK.es (zF nd)) (kK.tv (uX c ks)):=kK.fresh (by rw[UA];exact hm);have hC:=kK.ck (uX c ks);have hL:nd.length+([⟨c,ks⟩]:List Br).length<=ah:=by simpa using hl
 have em:kK.es (zF (nd++[⟨c,ks⟩]))=kK.es (zF nd)++[(kK.pv (uX c ks),.int .i64 (nd.length:Nat))]:=by rw[a8M];exact a4Q ..
 show dK X0 Qp _ _ _ _ _ (MNg a b E (nd++[⟨c,ks⟩]) r (kK.es (zF (nd++[⟨c,ks⟩]))));rw[em];have h1:iW (n+6) (.fn 198 [] []) [.ptr 4 0 9,.int .i64 c,.own 7] (MN a b E nd r++[oI true true ks]) (.int .i64 (nd.length:Nat)) [.list false false 3 a,.list false false 3 b,.map (kV.es (Aj E)),.map (kK.es (zF nd)++[(kK.pv (uX c ks),.int .i64 (nd.length:Nat))]),mkC a b 5 11 r,RI E,.gone,.gone,.cells [.own 7],a8O c ks,.list true true 105 [⟨c,ks⟩],RJ (nd++[⟨c,ks⟩])]:=by generalize zF nd=nm at hF ⊢;obtain⟨k1,k2⟩:=hk;rcases ks with _|⟨x0,_|⟨x1,_|⟨x2,_|⟨x3,_|⟨x4,_|⟨x5,_|⟨x6,_|⟨x7,_|⟨x8,_|⟨x9,_|⟨x10,_|⟨x11,_|⟨x12,_⟩⟩⟩⟩⟩⟩⟩⟩⟩⟩⟩⟩⟩<;>first|(exfalso;simp at k1;done)|(exfalso;simp at k2;omega)|(exact fK hO (first:=[]) (cap:=[]) (.fr [7,8] (a8J (n:=n) (ko:=true) (ex:=true) _ (YC k2)) (.b hf (.q (.bool false) hF (.b aiK (.q (.bool false) hC (.o hF (.o hL .er))))))))
 exact dK.gs hX (dK.forget (dK.forget h1 9) 10) [.mv 5,.gc [12,11]] rfl
theorem am8{n}(hO:Ok (n+5) Et){a b E nd r}(c ks)(hk:1<=ks.length/\ks.length<=12)(hN:(nd.map Di).Nodup)(hl:nd.length+1<=ah):iW (n+6) (.fn 198 [] []) [.ptr 4 0 9,.int .i64 c,.own 7] (MN a b E nd r++[oI true true ks]) (.int .i64 (eH nd c ks)) (MN' a b E (dH nd c ks) r):=by
 unfold eH dH;cases hf:ks.all fun x=>x==ks.getD 0 0
 .rw[a18 (by simp),a18 (by simp)];by_cases hm:uX c ks∈nd.map Di
  .rw[a1e hm];exact ahe hO c ks hk hf hN hm
  rw[a18 hm,a9g hm,a4X];exact ahf hO c ks hk hf hm hl
 rw[a1e rfl,a1e rfl];exact ahd hO c ks hk hf
theorem SC{nd c ks}(h:(nd.map Di).Nodup):((dH nd c ks).map Di).Nodup:=by
 unfold dH;split
 .exact h
 split
 .exact h
 rename_i hn;rw[a4Q,a9N];exact⟨h,by simp,fun x hx y hy=>by simp at hy;subst hy;intro e;subst e;exact hn hx⟩
open Go Tw Pv bK
theorem arn{n}(hO:Ok n Et)(a b:LI0)(ha:a.length<=ah)(hb:b.length<=ah):iW (n+1) (.fn 194 [] []) [.agg [.dD 3 a false,.dD 3 b false]] [] (.ptr 4 0 9) (MN a b [] [] 0):=
 dK.gs hX (nS hX hO (first:=[]) (cap:=[]) (v:=.ptr 4 0 9) (H1:=[.list false false 3 a,.list false false 3 b,.map [],.map [],.cells [.dD 3 a false,.dD 3 b false,.own 0,.own 1,.nil .aO,.nil .aO,.int .i64 0,.map 2,.map 3]]) (by kernel_rfl) (.o ha (.o hb .er))) [.VD 4 4 39,.VD 4 5 105] rfl
structure Cs where
 e:List V
 n:List Br
 k:List (Int×Int)
abbrev NC(k:List (Int×Int)):List (Int×PV X0.Γ):=k.map fun p=>(p.1,.int .i64 p.2)
abbrev pC:List (PV aH):=[.ptr 8 0 1,.ptr 7 0 7,.ptr 10 0 1,.ptr 11 0 1]
abbrev aeA(l:Lo)(k:List (Int×Int)):List (PB aH):=[.aF l.ps,.aF [.ptr 4 0 9],.map (kI.es (NC k)),.aF [.map 9],.aF [.fn 195 [] pC]]
abbrev HC(l:Lo)(x:Cs):List (PB aH):=MN l.s l.o x.e x.n 0++aeA l x.k
abbrev HC'(l:Lo)(x:Cs):List (PB aH):=[.list false false 3 l.s,.list false false 3 l.o,.map (kV.es (Aj x.e)),.map (kK.es (zF x.n)),mkC l.s l.o 12 13 0,.gone,.gone]++aeA l x.k++[RI x.e,RJ x.n]
def oM(d:Dg)(r:Int):V:=d.aK.getD (i64.wrap (-1-r)).toNat V0
def Wx(k:List (Int×Int))(r:Int):Int:=((k.find? fun p=>p.1==r).getD (0,0)).2
def bY(d:Dg):Nat->Int->Cs->Int×Cs
 | 0,_,x=>(0,x)
 |F+1,r,x=>if decide (r<0)=true then(i64.wrap (-1-(x.e.idxOf (oM d r):Nat)),⟨gK x.e (oM d r),x.n,x.k⟩)else if decide (r∈x.k.map (·.1))=true then(Wx x.k r,x)
  else
   let y:=aS (fun j (y:LI0×Cs)=>(y.1.set j (bY d F ((ay d r).aA.getD j 0) y.2).1,(bY d F ((ay d r).aA.getD j 0) y.2).2)) (ay d r).aA.length 0 (List.replicate (ay d r).aA.length 0,x)
   (eH y.2.n (ay d r).var y.1,⟨y.2.e,dH y.2.n (ay d r).var y.1,y.2.k++[(r,eH y.2.n (ay d r).var y.1)]⟩)
structure Eu(d:Dg)(x:Cs):Prop where
 e1:x.e.Nodup
 e2:∀v∈x.e,v∈d.aK
 n1:(x.n.map Di).Nodup
 n2:x.n.length<=x.k.length
 k1:(x.k.map (·.1)).Nodup
 k2:∀a∈x.k.map (·.1),gG a d.au.length
theorem Eu.L9{d x}(h:Eu d x):x.k.length<=d.au.length:=by have:=Ai _ _ h.k1 h.k2;simpa using this
theorem Eu.am9{d x}(h:Eu d x):x.e.length<=d.aK.length:=aeV h.e1 h.e2
theorem YP(nd c ks):(dH nd c ks).length<=nd.length+1:=by
 unfold dH;split
 .omega
 split
 .omega
 simp
theorem a2U{k r}(h:r∈k.map (·.1)):(r,Wx k r)∈k:=by
 rw[a1w]at h;obtain⟨p,hp,rfl⟩:=h;unfold Wx;cases e:k.find? fun q=>q.1==p.1 with
 |none=>have:=aeW.1 e p hp;simp at this
 |some q=>
  have h1:=afu e;have h2:=List.find?_some e;simp at h2;rw[<-h2];exact h1
theorem a8P{d r}(h:gG (i64.wrap (-1-r)) d.aK.length):oM d r∈d.aK:=by
 have h1:(i64.wrap (-1-r)).toNat<d.aK.length:=by have:=h.1;have:=h.2;omega
 unfold oM;simp[List.getD,a0Q h1]
theorem Jl{d}(P:Cs->Prop){F r x}(h:P x)(hs:∀j y,j<(ay d r).aA.length->P y->P (bY d F ((ay d r).aA.getD j 0) y).2) :(aS (fun j (y:LI0×Cs)=>(y.1.set j (bY d F ((ay d r).aA.getD j 0) y.2).1,(bY d F ((ay d r).aA.getD j 0) y.2).2)) (ay d r).aA.length 0 (List.replicate (ay d r).aA.length 0,x)).1.length=(ay d r).aA.length/\P (aS (fun j (y:LI0×Cs)=>(y.1.set j (bY d F ((ay d r).aA.getD j 0) y.2).1,(bY d F ((ay d r).aA.getD j 0) y.2).2)) (ay d r).aA.length 0 (List.replicate (ay d r).aA.length 0,x)).2:=
 dh (g:=fun j (y:LI0×Cs)=>(y.1.set j (bY d F ((ay d r).aA.getD j 0) y.2).1,(bY d F ((ay d r).aA.getD j 0) y.2).2)) (m:=(ay d r).aA.length) (k:=0) (s:=(List.replicate (ay d r).aA.length 0,x)) (fun _ y=>y.1.length=(ay d r).aA.length/\P y.2) ⟨by simp,h⟩ (fun j y _ hj hy=>⟨by simp[hy.1],hs j y.2 (by omega) hy.2⟩)
theorem YQ{d}:∀(F) (r s) (x),r<s->s∉x.k.map (·.1)->0<=s->(∀i,i<d.au.length->∀k,k<(fD d i).aA.length->(fD d i).aA.getD k 0<i)->(0<=r->gG r d.au.length)->s∉(bY d F r x).2.k.map (·.1)
 | 0,_,_,_,_,h,_,_,_=>h
 |F+1,r,s,x,hr,h,h0,hk,hn=>by
  unfold bY;by_cases c:r<0
  .rw[a1e (by simpa using c)];exact h
  rw[a18 (by simpa using c)];split
  .exact h
  have hi:=hn (by omega);have EO:∀k,k<(ay d r).aA.length->(ay d r).aA.getD k 0<r:=fun k kU=>by obtain⟨i1,i2⟩:=hi;have h9:(ay d r).aA.getD k 0<(r.toNat:Int):=hk r.toNat (by omega) k kU;omega
  have:=(Jl (d:=d) (fun y=>s∉y.k.map (·.1)) (F:=F) (r:=r) h (fun j y hj hy=>YQ F _ s y (by have:=EO j hj;omega) hy h0 hk fun h5=>⟨h5,by have:=hi.2;have:=EO j hj;omega⟩)).2;simp only[a4Q,a3M,adl];exact⟨this,by simp;omega⟩
theorem QJ{d}(h:D6 d):∀(F) (r) (x),Eu d x->jM d r d.au.length->Eu d (bY d F r x).2
 | 0,_,_,hx,_=>hx
 |F+1,r,x,hx,hr=>by
  unfold bY;by_cases c:r<0
  .rw[a1e (by simpa using c)];refine⟨Wv hx.e1,fun v hv=>?_,hx.n1,hx.n2,hx.k1,hx.k2⟩;have hv:v∈gK x.e (oM d r):=hv;unfold gK at hv;split at hv
   .exact hx.e2 v hv
   rcases a3M.1 hv with hv|hv
   .exact hx.e2 v hv
   rw[a1D.1 hv];exact a8P (hr.2 c)
  rw[a18 (by simpa using c)];split
  .exact hx
  rename_i c2;have aQ:r.toNat<d.au.length:=by have:=hr.1;omega
  have D7:∀k,k<(ay d r).aA.length->(ay d r).aA.getD k 0<r:=fun k kU=>by have h9:=(h.Ah r.toNat aQ k kU).1;have h9:(ay d r).aA.getD k 0<(r.toNat:Int):=h9;omega
  have hb:=(Jl (d:=d) (fun y=>Eu d y/\r∉y.k.map (·.1)) (F:=F) (r:=r) ⟨hx,by simpa using c2⟩ (fun j y hj hy=>by have Na:jM d ((ay d r).aA.getD j 0) d.au.length:=⟨by have:=D7 j hj;have:=hr.1;omega,(h.Ah r.toNat aQ j hj).2⟩;refine⟨QJ h F _ y hy.1 Na,YQ F _ r y (D7 j hj) hy.2 (by omega) (fun i hi k hk=>(h.Ah i hi k hk).1) (fun h5=>⟨h5,by have:=Na.1;omega⟩)⟩)).2
  obtain⟨hb,yN⟩:=hb;refine⟨hb.e1,hb.e2,SC hb.n1,?_,?_,?_⟩
  .have:=YP (aS (fun j (y:LI0×Cs)=>(y.1.set j (bY d F ((ay d r).aA.getD j 0) y.2).1,(bY d F ((ay d r).aA.getD j 0) y.2).2)) (ay d r).aA.length 0 (List.replicate (ay d r).aA.length 0,x)).2.n (ay d r).var (aS (fun j (y:LI0×Cs)=>(y.1.set j (bY d F ((ay d r).aA.getD j 0) y.2).1,(bY d F ((ay d r).aA.getD j 0) y.2).2)) (ay d r).aA.length 0 (List.replicate (ay d r).aA.length 0,x)).1;have:=hb.n2;simp only[a1B,a4v];omega
  .simp only[a4Q,a4U,abr];exact yc hb.k1 yN
  intro a ha;simp only[a4Q,a3M,a4U,abr,a1D]at ha;rcases ha with ha|rfl
  .exact hb.k2 a ha
  exact⟨by omega,by omega⟩
open Go Tw Pv bK
abbrev hCl(l:Lo)(x:Cs)(ks:LI0):List (PB aH):=HC' l x++[oI true true ks]
abbrev wCl(l:Lo)(r:Int)(i:Int)(y:LI0×Cs)(x:List (Nat×PE aH)):bV aH:=⟨[(0,xi r),(1,.val (.ptr 8 0 1)),(3,.val (.ptr 10 0 1)),(4,.val (.ptr 11 0 1)),(9,.loc 0 0),(10,xo 14),(43,xL 3 (ay l.d r).aA),(44,xi (ay l.d r).aA.length),(45,xi i)]++x,[(ay l.d r).ps],hCl l y.2 y.1⟩
theorem lCl{M}(hO:Ok M Et){d F r}(hk:(ay d r).aA.length<=12)(Q:Cs->Prop){x}(hx:Q x)(hq:∀j y,j<(ay d r).aA.length->Q y->Q (bY d F ((ay d r).aA.getD j 0) y).2)(hs:∀j y,j<(ay d r).aA.length->Q y->dK X0 Qp (iw M) (.fn 195 [] pC) [.int .i64 ((ay d r).aA.getD j 0)] (HC (zH d) y) (.int .i64 (bY d F ((ay d r).aA.getD j 0) y).1) (HC' (zH d) (bY d F ((ay d r).aA.getD j 0) y).2)) :Oi M 195 0 12 (wCl (zH d) r 0 (List.replicate (ay d r).aA.length 0,x) []) (.exit 0) (wCl (zH d) r (ay d r).aA.length (aS (fun j (y:LI0×Cs)=>(y.1.set j (bY d F ((ay d r).aA.getD j 0) y.2).1,(bY d F ((ay d r).aA.getD j 0) y.2).2)) (ay d r).aA.length 0 (List.replicate (ay d r).aA.length 0,x)) [(46,xl false)]):=by
 refine wL (σ:=LI0×Cs) (N:=(ay d r).aA.length) (g:=fun j (y:LI0×Cs)=>(y.1.set j (bY d F ((ay d r).aA.getD j 0) y.2).1,(bY d F ((ay d r).aA.getD j 0) y.2).2)) (s0:=(List.replicate (ay d r).aA.length 0,x)) (st:=fun k y=>wCl (zH d) r k y []) (fin:=fun y=>wCl (zH d) r (ay d r).aA.length y [(46,xl false)]) (fun _ y=>y.1.length=(ay d r).aA.length/\Q y.2) (by kernel_rfl) (YC hk) ⟨by simp,hx⟩ (fun j y hj hy=>⟨by simp[hy.1],hq j y.2 hj hy.2⟩) (fun j y hj hy m e p g=>?_) (fun y _=>aN hO (.b (fC (ay d r).aA.length) .ex));have h1:=hs j y.2 hj hy.2;have h2:gG j y.1.length:=aG (by rw[hy.1];exact hj);generalize bY d F ((ay d r).aA.getD j 0) y.2=z at h1 g;obtain⟨v,z⟩:=z;exact aN hO (.b (bg hj) (.o (aG hj) (.fr [0,1,2,3,4,12,13,7,8,9,10,11] h1 (.o h2 (.goG [.gc [15,16,14]] g)))))
theorem FB(k):(NC k).map (·.1)=k.map (·.1):=by unfold NC;rw[a6q];rfl
theorem aro{n}(hO:Ok n Et)(k):iW n (.fn 197 [] []) [.int .i64 k] [] (iA.put (i64.wrap (-1-k))) []:=
 nI.a8y hX (hO 197 [.int .i64 k] (iA.put (i64.wrap (-1-k))) [] [] (by kernel_rfl) (fun q hq=>by cases hq)) rfl rfl rfl rfl
theorem sCl{N}(hO:∀m,N<=m->Ok m Et){d}(h:D6 d)(he:d.aK.length+1<=ah)(hn:d.au.length+1<=ah)(h1k:∀i,i<d.au.length->1<=(fD d i).aA.length):∀(F:Nat) (r:Int) (x),r+1<F->Eu d x->jM d r d.au.length->1<=F->dK X0 Qp (iw (N+F+6)) (.fn 195 [] pC) [.int .i64 r] (HC (zH d) x) (.int .i64 (bY d F r x).1) (HC' (zH d) (bY d F r x).2)
 | 0,r,x,_,_,_,h1=>by omega
 |F+1,r,x,hF,hx,hr,_=>by
  rw[show N+(F+1)+6=N+F+6+1 by omega];have CP:=hO (N+F+6) (by omega);have Gx:=hO (N+F+5) (by omega);unfold bY;by_cases c:r<0
  .have t0:decide (r<0)=true:=(by simpa using c);rw[a1e t0];have hi:gG (i64.wrap (-1-r)) d.aK.length:=hr.2 c;have hs:=ark Gx (a:=d.aj) (b:=d.aB) (E:=x.e) (nd:=x.n) (r:=0) (nm:=kK.es (zF x.n)) (oM d r) hx.e1 (by have:=hx.am9;omega);exact fK CP (first:=[]) (.b t0 (.fr [] (aro CP r) (.o hi (.fr [0,1,2,3,4,5,6] hs .er))))
  have t0:decide (r<0)=false:=by simpa using c
  rw[a18 (by rw[t0];simp)];have aQ:r.toNat<d.au.length:=by have:=hr.1;omega
  by_cases c2:r∈x.k.map (·.1)
  .rw[a1e (by simpa using c2)];have hf:qJ X0 Qp 3 (kI.es (NC x.k)) (kI.tv r) (.int .i64 (Wx x.k r)):=kI.found (by rw[FB];exact hx.k1) (a1w.2 ⟨(r,Wx x.k r),a2U c2,rfl⟩);generalize Wx x.k r=v at hf ⊢;exact dK.gs hX (nS hX CP (first:=[]) (H1:=HC (zH d) x) (v:=.int .i64 v) (by kernel_rfl) (.b t0 (.c (.int .i64 v) [] hf (.b aiH .er)))) [.mv 5,.mv 6] rfl
  rw[a18 (by simpa using c2)];have D7:∀k,k<(ay d r).aA.length->(ay d r).aA.getD k 0<r:=fun k kU=>by have h9:=(h.Ah r.toNat aQ k kU).1;have h9:(ay d r).aA.getD k 0<(r.toNat:Int):=h9;omega
  have Na:∀j,j<(ay d r).aA.length->jM d ((ay d r).aA.getD j 0) d.au.length:=fun j hj=>⟨by have:=D7 j hj;have:=hr.1;omega,(h.Ah r.toNat aQ j hj).2⟩;have MF:(ay d r).aA.length<=12:=h.L9 r.toNat aQ;have hq:∀j y,j<(ay d r).aA.length->(Eu d y/\r∉y.k.map (·.1))->Eu d (bY d F ((ay d r).aA.getD j 0) y).2/\r∉(bY d F ((ay d r).aA.getD j 0) y).2.k.map (·.1):=fun j y hj hy=>
   ⟨QJ h F _ y hy.1 (Na j hj),YQ F _ r y (D7 j hj) hy.2 (by omega) (fun i hi k hk=>(h.Ah i hi k hk).1) (fun h5=>⟨h5,by have:=(Na j hj).1;omega⟩)⟩
  have hl:=lCl CP (d:=d) (F:=F) (r:=r) MF (fun y=>Eu d y/\r∉y.k.map (·.1)) (x:=x) ⟨hx,c2⟩ hq (fun j y hj hy=>sCl hO h he hn h1k F _ y (by have:=D7 j hj;omega) hy.1 (Na j hj) (by omega));obtain⟨g1,g2,g3⟩:=Jl (d:=d) (fun y=>Eu d y/\r∉y.k.map (·.1)) (F:=F) (r:=r) (x:=x) ⟨hx,c2⟩ hq;generalize aS (fun j (y:LI0×Cs)=>(y.1.set j (bY d F ((ay d r).aA.getD j 0) y.2).1,(bY d F ((ay d r).aA.getD j 0) y.2).2)) (ay d r).aA.length 0 (List.replicate (ay d r).aA.length 0,x)=y at hl g1 g2 g3;obtain⟨ks,e,nd,kn⟩:=y;have g1:ks.length=(ay d r).aA.length:=g1;have Gj:1<=ks.length/\ks.length<=12:=by rw[g1];exact⟨h1k r.toNat aQ,MF⟩
  have hN:nd.length+1<=ah:=by have:=g2.L9;have:=g2.n2;simp at *;omega
  have hs:=am8 (n:=N+F) Gx (a:=d.aj) (b:=d.aB) (E:=e) (nd:=nd) (r:=0) (ay d r).var ks Gj g2.n1 hN;have f0:oz X0 Qp 3 (kI.es (NC x.k)) (kI.tv r):=kI.fresh (by rw[FB];exact c2);have f1:oz X0 Qp 3 (kI.es (NC kn)) (kI.tv r):=kI.fresh (by rw[FB];exact g3);have f2:=kI.ck r;show dK X0 Qp _ _ _ _ (.int .i64 (eH nd (ay d r).var ks)) (HC' (zH d) ⟨e,dH nd (ay d r).var ks,kn++[(r,eH nd (ay d r).var ks)]⟩);generalize eH nd (ay d r).var ks=v at hs ⊢;generalize dH nd (ay d r).var ks=nd' at hs ⊢;have em:kI.es (NC (kn++[(r,v)]))=kI.es (NC kn)++[(kI.pv r,.int .i64 v)]:=by show List.map _ (List.map _ (kn++[(r,v)]))=_;rw[a4Q,a4Q];rfl
  have f3:qJ X0 Qp 3 (kI.es (NC kn)++[(kI.pv r,.int .i64 v)]) (kI.tv r) (.int .i64 v):=by rw[<-em];exact kI.found (by rw[FB,a4Q];exact yc g2.k1 g3) (a1w.2 ⟨(r,v),by simp,rfl⟩)
  have hi:gG r d.au.length:=⟨by omega,hr.1⟩;have hm:((ay d r).aA.length:Int)<=(ah:Int):=by have:=YC MF;omega
  show dK X0 Qp _ _ _ _ _ ([_,_,_,_,_,_,_]++[_,_,.map (kI.es (NC (kn++[(r,v)]))),_,_]++[_,_]);rw[em];exact dK.gs hX (nS hX CP (first:=[]) (v:=.int .i64 v) (H1:=[.list false false 3 d.aj,.list false false 3 d.aB,.map (kV.es (Aj e)),.map (kK.es (zF nd')),mkC d.aj d.aB 15 16 0,.gone,.gone,.aF (zH d).ps,.aF [.ptr 4 0 9],.map (kI.es (NC kn)++[(kI.pv r,.int .i64 v)]),.aF [.map 9],.aF [.fn 195 [] pC],.gone,.gone,.gone,RI e,RJ nd']) (by kernel_rfl) (.b t0 (.q (.bool false) f0 (.b aiC (.o hi (.o (show((ay d r).aA.length:Int)=((ay d r).aA.length:Int)from rfl) (.o (show(0:Int)<=((ay d r).aA.length:Int) by omega) (.o hm (.wG [.mv 5,.mv 6,.gc [13,14,12]] hl (.fr [0,1,2,3,4,12,13,14] hs (.q (.bool false) f2 (.o f1 (.c (.int .i64 v) [] f3 .er))))))))))))) [.gc [15,16]] rfl
open Go Tw Pv bK
abbrev QK(a b:List V)(k:Nat):Bool:=!(decide (a.getD k V0=b.getD k V0))
abbrev ahg(a b:List V)(i:Int)(x:List (Nat×PE aH)):bV aH:=⟨[(0,xL 39 a),(1,xL 39 b),(12,xi a.length),(13,xi i)]++x,[],[]⟩
def z227(a b:List V):Unit⊕Nat->Ex×bV aH
 |.inl _=>(.exit 0,ahg a b a.length [(14,xl false)])
 |.inr _=>(.ret,⟨[(4,xl false)],[],[]⟩)
theorem ama{n gq}(hO:Ok n gq)(a b)(hl:a.length<=ah)(h:a.length=b.length):Lp n 227 0 (ahg a b 0 []) (z227 a b (bH (QK a b) a.length)).1 (z227 a b (bH (QK a b) a.length)).2:=
 jo (st:=fun i _=>ahg a b i []) (fun _ _=>True) (by kernel_rfl) hl trivial (fun k s m hk _ ih=>aN hO (.b (bg hk) (.o (aG hk) (.o (aG (h▸hk)) (.q (.bool (!(decide (a.getD k V0=b.getD k V0)))) (neV (.tmp 19) (.tmp 23) (a.getD k V0) (b.getD k V0)) (.ls (.ou nofun) (.nx (ih _ trivial)))))))) (fun s _=>aN hO (.b (fC a.length) (.ou nofun)))
theorem ac1{a b:List V}(h:a.length=b.length):a=b↔∀j,j<a.length->a.getD j V0=b.getD j V0:=by
 constructor
 .rintro rfl j _;rfl
 intro h2;apply aaw h;intro j h3 h4;have:=h2 j h3;simpa[List.getD,a0Q h3,a0Q h4]using this
theorem QL{a b}(h:a.length=b.length):kC (bH (QK a b) a.length)=decide (a=b):=by rw[a5S,dL,a1x,ac1 h];simp[QK]
theorem ac2{α:Type}[DecidableEq α]{a b:List α}(h:((a.length:Int) != (b.length:Int))=true):decide (a=b)=false:=by rw[a3G];rintro rfl;simp at h
def aeB:gZ aH:=cu 227 (a2 vsA vsA) tA (fun p=>decide (p.1=p.2)) (fun p=>[p.1.length<=ah]) Et
theorem amb:Gd aeB:=aew.add fun n hO p hp=>aP hO (.s (fun h=>.v false (ac2 h).symm) fun h=>.z (c:=kC (bH (QK p.1 p.2) p.1.length)) (fun h2=>.w (l7 (ama hO p.1 p.2 (hp _ iE) (mJ h)) () h2) (.v true (by rw[<-QL (mJ h),h2]))) fun h2=>.w (l9 (ama hO p.1 p.2 (hp _ iE) (mJ h)) 0 h2) (.v false (by rw[<-QL (mJ h),h2])))
def Wy(x y:Br):Bool:=if(x.var==y.var)=true then decide (x.aA=y.aA)else false
def a8Q:gZ aH:=cu 226 (a2 brA brA) tA (fun p=>Wy p.1 p.2) (fun p=>[p.1.aA.length<=ah]) aeB
theorem amc:Gd a8Q:=amb.add fun n hO p hp=>aP hO (.ss (.o (hp _ iE) .rr) .rr)
abbrev wEB(a b:List Br)(i:Int)(x:List (Nat×PE aH)):bV aH:=⟨[(1,xL 105 b),(2,.val (.fn 226 [] [])),(15,xL 105 a),(16,xi a.length),(17,xi i)]++x,[],[]⟩
abbrev cEB(a b:List Br)(k:Nat):Bool:=!(Wy (a.getD k lH) (b.getD k lH))
def zEB(a b:List Br):Unit⊕Nat->Ex×bV aH
 |.inl _=>(.exit 0,wEB a b a.length [(18,xl false)])
 |.inr k=>(.ret,⟨[(6,xl false)],[(a.getD k lH).ps,(b.getD k lH).ps],[]⟩)
theorem lEB{n}(hO:Ok n a8Q)(a b)(hl:a.length<=ah)(h:a.length=b.length)(hk:∀k,k<a.length->(a.getD k lH).aA.length<=ah):Lp n 228 0 (wEB a b 0 []) (zEB a b (bH (cEB a b) a.length)).1 (zEB a b (bH (cEB a b) a.length)).2:=
 jo (st:=fun i _=>wEB a b i []) (fun _ _=>True) (by kernel_rfl) hl trivial (fun k s m kU _ ih=>aN hO (.b (bg kU) (.o (aG kU) (.o (aG (h▸kU)) (.o (hk k kU) (.ls (.ou nofun) (.nx (ih _ trivial)))))))) (fun s _=>aN hO (.b (fC a.length) (.ou nofun)))
def Jm(a b:List Br):Bool:=if((a.length:Int) != (b.length:Int))=true then false else if kC (bH (cEB a b) a.length)=true then true else false
def aeC:gZ aH:=cu 228 (a3 abD abD (fnA 226)) tA (fun p=>Jm p.1 p.2.1) (fun p=>[p.1.length<=ah,∀k,k<p.1.length->(p.1.getD k lH).aA.length<=ah]) a8Q
theorem amd:Gd aeC:=amc.add fun n hO p hp=>aP hO (.sh (fun _=>.rr) fun h=>.zh (fun h2=>.w (l7 (lEB hO p.1 p.2.1 (hp _ iE) (mJ h) (hp (∀k,k<p.1.length->(p.1.getD k lH).aA.length<=ah) (.tail _ (.head _)))) () h2) .rr) fun h2=>.w (l9 (lEB hO p.1 p.2.1 (hp _ iE) (mJ h) (hp (∀k,k<p.1.length->(p.1.getD k lH).aA.length<=ah) (.tail _ (.head _)))) 0 h2) .rr)
def Jo(a b:Dg):Bool:=if decide (a.aj=b.aj)=true then(if decide (a.aB=b.aB)=true then(if decide (a.aK=b.aK)=true then(if Jm a.au b.au=true then a.root==b.root else false)else false)else false)else false
def aeD:gZ aH:=cu 203 (a2 dA dA) tA (fun p=>Jo p.1 p.2) (fun p=>[p.1.aj.length<=ah,p.1.aB.length<=ah,p.1.aK.length<=ah,p.1.au.length<=ah,∀k,k<p.1.au.length->(p.1.au.getD k lH).aA.length<=ah]) aeC
theorem ame:Gd aeD:=amd.add fun n hO p hp=>aP hO (.o (hp _ iE) (.ss (.o (hp _ zq) (.ss (.o (hp _ hh2) (.ss (.o (hp _ (.tail _ (.tail _ (.tail _ (.head _))))) (.o (hp (∀k,k<p.1.au.length->(p.1.au.getD k lH).aA.length<=ah) (.tail _ (.tail _ (.tail _ (.tail _ (.head _)))))) (.ss .rr .rr))) .rr)) .rr)) .rr))
theorem YR{x y}:Wy x y=true↔x=y:=by obtain⟨a,b⟩:=x;obtain⟨c,e⟩:=y;unfold Wy;simp only[Br.mk.injEq];by_cases h:a=c<;>simp[h]
theorem a5c{a b}:Jm a b=true↔a=b:=by
 unfold Jm;by_cases h:a.length=b.length
 .rw[a18 (by simp;omega)];have e:kC (bH (cEB a b) a.length)=true↔a=b:=by
   rw[dL];constructor
   .intro h1;apply aaw h;intro j h3 h4;have:=h1 j h3;simp only[cEB,abQ]at this;have:=YR.1 this;simpa[List.getD,a0Q h3,a0Q h4]using this
   rintro rfl j _;simp only[cEB,abQ];exact YR.2 rfl
  rw[<-e];cases kC (bH (cEB a b) a.length)<;>simp
 rw[a1e (by simp;omega)];constructor
 .intro h1;cases h1
 rintro rfl;exact absurd rfl h
theorem a2V{a b}:Jo a b=true↔a=b:=by
 obtain⟨a1,a2,a3,a4,a5⟩:=a;obtain⟨b1,b2,b3,b4,b5⟩:=b;unfold Jo;simp only[Dg.mk.injEq];by_cases h1:a1=b1
 .by_cases h2:a2=b2
  .by_cases h3:a3=b3
   .have h4:=a5c (a:=a4) (b:=b4);cases e:Jm a4 b4
    .rw[e]at h4;simp[h1,h2,h3];intro h5;exact absurd h5 (by simpa using h4)
    rw[e]at h4;simp at h4;simp[h1,h2,h3,h4]
   simp[h3]
  simp[h2]
 simp[h1]
open Go Tw Pv bK
def yx(s:LI0×LI0)(x:Int):Int:=if x<0 then i64.wrap (-1-(s.2.idxOf (ji x):Nat))else(s.1.idxOf x:Nat)
def Xg(s:LI0×LI0)(x:Int):Prop:=(x<0->ji x∈s.2)/\(0<=x->x∈s.1)
def KS(d:Dg)(s:LI0×LI0):Cs:=⟨s.2.map fun e=>d.aK.getD e.toNat V0,s.1.map fun o=>⟨(ay d o).var,(ay d o).aA.map (yx s)⟩,s.1.map fun o=>(o,yx s o)⟩
def Lh(d:Dg)(s:LI0×LI0):Prop:=∀o∈s.1,∀k∈(ay d o).aA,Xg s k
theorem WA{s x}(l)(h:Xg s x):yx (s.1,s.2++l) x=yx s x:=by
 unfold yx;split
 .rename_i c;rw[aaP,a1e (h.1 c)]
 rfl
theorem Jp{s x}(l)(h:Xg s x):yx (s.1++l,s.2) x=yx s x:=by
 unfold yx;split
 .rfl
 rename_i c;rw[aaP,a1e (h.2 (by omega))]
theorem ahi{d s}(hk:Lh d s)(hn:∀o∈s.1,0<=o)(e):KS d (s.1,s.2++[e])=⟨(KS d s).e++[d.aK.getD e.toNat V0],(KS d s).n,(KS d s).k⟩:=by
 unfold KS;simp only[a4Q,a4U,abr,Cs.mk.injEq,true_and];constructor
 .apply a5M;intro o ho;congr 1;apply a5M;intro k kU;exact WA [e] (hk o ho k kU)
 apply a5M;intro o ho;rw[WA [e] ⟨fun c=>absurd (hn o ho) (by omega),fun _=>ho⟩]
theorem ac3{d s}(hk:Lh d s)(hn:∀o∈s.1,0<=o){r}(h0:0<=r)(hr:r∉s.1)(Na:∀k∈(ay d r).aA,Xg s k):KS d (s.1++[r],s.2)=⟨(KS d s).e,(KS d s).n++[⟨(ay d r).var,(ay d r).aA.map (yx s)⟩],(KS d s).k++[(r,(s.1.length:Int))]⟩:=by
 unfold KS;simp only[a4Q,a4U,abr,Cs.mk.injEq,true_and];refine⟨?_,?_⟩
 .congr 1
  .apply a5M;intro o ho;congr 1;exact a5M fun k kU=>Jp [r] (hk o ho k kU)
  congr 2;exact a5M fun k kU=>Jp [r] (Na k kU)
 congr 1
 .apply a5M;intro o ho;rw[Jp [r] ⟨fun c=>absurd (hn o ho) (by omega),fun _=>ho⟩]
 congr 2;unfold yx;rw[a18 (by omega)];simp[aaP,hr]
theorem amf{a b:Nat}(ha:a<=2^61)(hb:b<=2^61)(h:i64.wrap (-1-(a:Int))=i64.wrap (-1-(b:Int))):a=b:=by rw[fV (by omega) (by omega),fV (by omega) (by omega)]at h;omega
theorem a2W{l:LI0}{a b}(ha:a∈l)(hb:b∈l)(h:l.idxOf a=l.idxOf b):a=b:=by have h1:=a9s (a5Q.2 ha);have h2:=a9s (a5Q.2 hb);rw[<-h1,<-h2];congr 1
theorem a8R{x y}(hx:Hy x)(hy:Hy y)(cx:x<0)(cy:y<0)(h:ji x=ji y):x=y:=by unfold ji at h;rw[Oj hx cx,Oj hy cy]at h;omega
theorem a2X{s}(hs:s.2.length<=2^61){x y}(hx:Xg s x)(hy:Xg s y)(wx:Hy x)(wy:Hy y)(h:yx s x=yx s y):x=y:=by
 have lt:∀z,z∈s.2->s.2.idxOf z<=2^61:=fun z hz=>a5Y (aas (a5Q.2 hz)) hs;unfold yx at h;by_cases cx:x<0
 .rw[a1e cx]at h;by_cases cy:y<0
  .rw[a1e cy]at h;exact a8R wx wy cx cy (a2W (hx.1 cx) (hy.1 cy) (amf (lt _ (hx.1 cx)) (lt _ (hy.1 cy)) h))
  rw[a18 cy]at h;have:=lt _ (hx.1 cx);rw[fV (by omega) (by omega)]at h;omega
 rw[a18 cx]at h;by_cases cy:y<0
 .rw[a1e cy]at h;have:=lt _ (hy.1 cy);rw[fV (by omega) (by omega)]at h;omega
 rw[a18 cy]at h;exact a2W (hx.2 (by omega)) (hy.2 (by omega)) (by omega)
open Go Tw Pv bK
def Ext(s t:LI0×LI0):Prop:=∃a b,t=(s.1++a,s.2++b)
theorem Ext.refl(s):Ext s s:=⟨[],[],by simp⟩
theorem Ext.trans{s t u}(h:Ext s t)(h2:Ext t u):Ext s u:=by obtain⟨a,b,rfl⟩:=h;obtain⟨c,e,rfl⟩:=h2;exact⟨a++c,b++e,by simp⟩
theorem Xg.ext{s t x}(h:Xg s x)(he:Ext s t):Xg t x:=by obtain⟨a,b,rfl⟩:=he;exact⟨fun c=>a6l _ (h.1 c),fun c=>a6l _ (h.2 c)⟩
theorem ac4{s t x}(h:Xg s x)(he:Ext s t):yx t x=yx s x:=by have hc:=h;obtain⟨a,b,rfl⟩:=he;have h2:Xg (s.1,s.2++b) x:=⟨fun c=>a6l _ (h.1 c),h.2⟩;rw[<-WA b h,<-Jp a h2]
theorem UC{α β g1 g2}(R:Nat->α->β->Prop):∀(m k) (a) (b),R k a b->(∀j a b,k<=j->j<k+m->R j a b->R (j+1) (g1 j a) (g2 j b))->R (k+m) (aS g1 m k a) (aS g2 m k b)
 | 0,_,_,_,h,_=>h
 |m+1,k,a,b,h,hs=>by have:=UC R m (k+1) (g1 k a) (g2 k b) (hs k a b (a1l _) (by omega) h) (fun j a b h1 h2=>hs j a b (by omega) (by omega));rw[show k+(m+1)=k+1+m by omega];exact this
theorem a2Y{α β:Type}[BEq α][LawfulBEq α][BEq β][LawfulBEq β]{f:α->β}{a}:∀{l:List α},(∀b∈l,f b=f a->b=a)->(l.map f).idxOf (f a)=l.idxOf a
 | [],_=>rfl
 |c::l,h=>by
  rw[a4U,aeS,aeS,a2Y fun b hb=>h b (a3I _ hb)];by_cases hc:c=a
  .subst hc;simp
  have:¬(f c=f a):=fun e=>hc (h c (.head _) e);rw[show(c==a)=false by simpa using hc,show(f c==f a)=false by simpa using this]
structure DgD(d:Dg):Prop where
 aK:d.aK.Nodup
 au:∀i j,i<d.au.length->j<d.au.length->(fD d i).var=(fD d j).var->(fD d i).aA=(fD d j).aA->i=j
 flat:∀i,i<d.au.length->((fD d i).aA.all fun x=>x==(fD d i).aA.getD 0 0)=false
theorem YS{d:Dg}(h:d.aK.Nodup){a b}(ha:gG a d.aK.length)(hb:gG b d.aK.length)(e:d.aK.getD a.toNat V0=d.aK.getD b.toNat V0):a=b:=by
 have h1:a.toNat<d.aK.length:=by have:=ha.1;have:=ha.2;omega
 have h2:b.toNat<d.aK.length:=by have:=hb.1;have:=hb.2;omega
 simp only[List.getD,a0Q h1,a0Q h2,a5V]at e;have:=(aaZ h).1 e;have:=ha.1;have:=hb.1;omega
theorem ahj{d}(hd:DgD d){s}(hs:La d s){r}(hr:gG (ji r) d.aK.length):(KS d s).e.idxOf (oM d r)=s.2.idxOf (ji r)/\(oM d r∈(KS d s).e↔ji r∈s.2):=by
 have hi:∀b∈s.2,(fun e:Int=>d.aK.getD e.toNat V0) b=(fun e:Int=>d.aK.getD e.toNat V0) (ji r)->b=ji r:=fun b hb e=>YS hd.aK (hs.e2 b hb) hr e;refine⟨a2Y (f:=fun e:Int=>d.aK.getD e.toNat V0) (a:=ji r) hi,?_⟩;constructor
 .intro h;obtain⟨b,hb,e⟩:=a1w.1 h;rw[<-hi b hb e];exact hb
 intro h;exact a1w.2 ⟨ji r,h,rfl⟩
theorem ahk{d s r}(h:r∈s.1):Wx (KS d s).k r=yx s r:=by
 have h1:r∈(KS d s).k.map (·.1):=by unfold KS;rw[a6q];exact a1w.2 ⟨r,h,rfl⟩
 have h2:=a2U h1;obtain⟨o,_,e⟩:=a1w.1 h2;have e1:o=r:=congrArg Prod.fst e;have e2:yx s o=Wx (KS d s).k r:=congrArg Prod.snd e;rw[<-e2,e1]
theorem ac5{a b}(h:a.length=b.length)(ha:a.length<=12)(e:Jk a=Jk b):a=b:=by unfold Jk at e;have:=congrArg (List.take a.length) e;rw[afB,afB,a7z ha,List.take_append_of_le_length (a1l _),List.take_append_of_le_length (by omega),adB,h,adB]at this;exact this
theorem map_inj{α β:Type}{f:α->β}:∀{a b:List α},(∀x∈a,∀y∈b,f x=f y->x=y)->a.map f=b.map f->a=b
 | [],[],_,_=>rfl
 | [],_::_,_,h=>by simp at h
 |_::_,[],_,h=>by simp at h
 |x::a,y::b,hi,h=>by simp only[a4U,afq]at h;rw[hi x (.head _) y (.head _) h.1,map_inj (fun u hu v hv=>hi u (a3I _ hu) v (a3I _ hv)) h.2]
open Go Tw Pv bK
structure Alk(d:Dg)(F:Nat)(r:Int)(s:LI0×LI0):Prop where
 eq:bY d F r (KS d s)=(yx (kE d F r s) r,KS d (kE d F r s))
 aA:Lh d (kE d F r s)
 cov:Xg (kE d F r s) r
 ext:Ext s (kE d F r s)
theorem aeF{d}(h:D6 d)(hw:Dh d)(hd:DgD d)(he:d.aK.length<=2^61):∀(F:Nat) (r:Int) (s),r+1<F->La d s->Lh d s->jM d r d.au.length->1<=F->Alk d F r s
 | 0,r,s,_,_,_,_,h1=>by omega
 |F+1,r,s,hF,hs,hk,hr,_=>by
  have hn:∀o∈s.1,0<=o:=fun o ho=>(hs.n2 o ho).1;by_cases c:r<0
  .have t0:decide (r<0)=true:=(by simpa using c);obtain⟨q1,q2⟩:=ahj hd hs (hr.2 c);have e1:bY d (F+1) r (KS d s)=(i64.wrap (-1-((KS d s).e.idxOf (oM d r):Nat)),⟨gK (KS d s).e (oM d r),(KS d s).n,(KS d s).k⟩):=by unfold bY;rw[a1e t0]
   by_cases c2:ji r∈s.2
   .have e2:kE d (F+1) r s=s:=by unfold kE;rw[a1e t0,a18 (by simpa using c2)]
    refine⟨?_,by rw[e2];exact hk,by rw[e2];exact⟨fun _=>c2,fun h0=>by omega⟩,by rw[e2];exact .refl s⟩;rw[e1,e2,q1,show gK (KS d s).e (oM d r)=(KS d s).e from a1e (q2.2 c2)];unfold yx;rw[a1e c]
   have e2:kE d (F+1) r s=(s.1,s.2++[ji r]):=by unfold kE;rw[a1e t0,a1e (by simpa using c2)]
   have hc:Xg (s.1,s.2++[ji r]) r:=⟨fun _=>by simp,fun h0=>by omega⟩;have hx:Ext s (s.1,s.2++[ji r]):=⟨[],[ji r],by simp⟩;refine⟨?_,by rw[e2];exact fun o ho k kU=>(hk o ho k kU).ext hx,by rw[e2];exact hc,by rw[e2];exact hx⟩;rw[e1,e2,q1,ahi hk hn,show gK (KS d s).e (oM d r)=(KS d s).e++[oM d r]from a18 (fun e=>c2 (q2.1 e))];unfold yx;rw[a1e c];simp[aaP,c2,a9g c2,oM]
  have t0:¬(decide (r<0)=true):=by simpa using c
  have yL:(KS d s).k.map (·.1)=s.1:=by unfold KS;rw[a6q];exact List.map_id _
  by_cases c2:r∈s.1
  .have e2:kE d (F+1) r s=s:=by unfold kE;rw[a18 t0,a1e (by simpa using c2)]
   have e1:bY d (F+1) r (KS d s)=(Wx (KS d s).k r,KS d s):=by unfold bY;rw[a18 t0,a1e (by rw[yL];simpa using c2)]
   refine⟨?_,by rw[e2];exact hk,by rw[e2];exact⟨fun h0=>absurd h0 c,fun _=>c2⟩,by rw[e2];exact .refl s⟩;rw[e1,e2,ahk c2]
  have aQ:r.toNat<d.au.length:=by have:=hr.1;omega
  have D7:∀k,k<(ay d r).aA.length->(ay d r).aA.getD k 0<r:=fun k kU=>by have h9:=(h.Ah r.toNat aQ k kU).1;have h9:(ay d r).aA.getD k 0<(r.toNat:Int):=h9;omega
  have Na:∀j,j<(ay d r).aA.length->jM d ((ay d r).aA.getD j 0) d.au.length:=fun j hj=>⟨by have:=D7 j hj;have:=hr.1;omega,(h.Ah r.toNat aQ j hj).2⟩;have VZ:=UC (g1:=fun j (y:LI0×Cs)=>(y.1.set j (bY d F ((ay d r).aA.getD j 0) y.2).1,(bY d F ((ay d r).aA.getD j 0) y.2).2)) (g2:=fun k y=>kE d F ((ay d r).aA.getD k 0) y)
   (fun j (y:LI0×Cs) (t:LI0×LI0)=>y=(((ay d r).aA.take j).map (yx t)++List.replicate ((ay d r).aA.length-j) 0,KS d t)/\La d t/\Lh d t/\Ext s t/\r∉t.1/\∀i,i<j->Xg t ((ay d r).aA.getD i 0)) (ay d r).aA.length 0 (List.replicate (ay d r).aA.length 0,KS d s) s ⟨by simp,hs,hk,.refl s,c2,fun i hi=>by omega⟩ (fun j y t _ hj hy=>by
    obtain⟨rfl,y1,y2,y3,y4,y5⟩:=hy;have hj:j<(ay d r).aA.length:=(by omega);have ih:=aeF h hw hd he F _ t (by have:=D7 j hj;omega) y1 y2 (Na j hj) (by omega);have Zx:=a8v F ((ay d r).aA.getD j 0) r t (D7 j hj) y4 (by omega) (fun i hi k hk=>(h.Ah i hi k hk).1) (fun h5=>⟨h5,by have:=(Na j hj).1;omega⟩);have RF:=N8 h F ((ay d r).aA.getD j 0) t y1 (Na j hj);obtain⟨i1,i2,i3,i4⟩:=ih;simp only[i1];generalize kE d F ((ay d r).aA.getD j 0) t=u at i2 i3 i4 Zx RF ⊢;refine⟨?_,RF,i2,y3.trans i4,Zx,fun i hi=>?_⟩
    .simp only[a1k,and_true];have hl:(List.map (yx t) (List.take j (ay d r).aA)).length=j:=by rw[a4X,a4t];omega
     rw[show(ay d r).aA.length-j=((ay d r).aA.length-(j+1))+1 by omega,afn,List.set_append_right _ _ (by rw[hl];exact a1l j)];rw[hl,afz,List.set_cons_zero,a7B hj,a4Q,a6c];congr 1
     .apply a5M;intro x hx;obtain⟨i,hi,rfl⟩:=a5T.1 hx;have AZ:i<j:=by simp at hi;omega
      have:=y5 i AZ;rw[tH (l:=(ay d r).aA) (show i<(ay d r).aA.length by omega)]at this;rw[List.getElem_take];exact(ac4 this i4).symm
     .rw[tH hj];rfl
    .by_cases AZ:i<j
     .exact(y5 i AZ).ext i4
     .rw[show i=j by omega];exact i3)
  have e1:bY d (F+1) r (KS d s)=(eH (aS (fun j (y:LI0×Cs)=>(y.1.set j (bY d F ((ay d r).aA.getD j 0) y.2).1,(bY d F ((ay d r).aA.getD j 0) y.2).2)) (ay d r).aA.length 0 (List.replicate (ay d r).aA.length 0,KS d s)).2.n (ay d r).var (aS (fun j (y:LI0×Cs)=>(y.1.set j (bY d F ((ay d r).aA.getD j 0) y.2).1,(bY d F ((ay d r).aA.getD j 0) y.2).2)) (ay d r).aA.length 0 (List.replicate (ay d r).aA.length 0,KS d s)).1,⟨(aS (fun j (y:LI0×Cs)=>(y.1.set j (bY d F ((ay d r).aA.getD j 0) y.2).1,(bY d F ((ay d r).aA.getD j 0) y.2).2)) (ay d r).aA.length 0 (List.replicate (ay d r).aA.length 0,KS d s)).2.e,dH (aS (fun j (y:LI0×Cs)=>(y.1.set j (bY d F ((ay d r).aA.getD j 0) y.2).1,(bY d F ((ay d r).aA.getD j 0) y.2).2)) (ay d r).aA.length 0 (List.replicate (ay d r).aA.length 0,KS d s)).2.n (ay d r).var (aS (fun j (y:LI0×Cs)=>(y.1.set j (bY d F ((ay d r).aA.getD j 0) y.2).1,(bY d F ((ay d r).aA.getD j 0) y.2).2)) (ay d r).aA.length 0 (List.replicate (ay d r).aA.length 0,KS d s)).1,(aS (fun j (y:LI0×Cs)=>(y.1.set j (bY d F ((ay d r).aA.getD j 0) y.2).1,(bY d F ((ay d r).aA.getD j 0) y.2).2)) (ay d r).aA.length 0 (List.replicate (ay d r).aA.length 0,KS d s)).2.k++[(r,eH (aS (fun j (y:LI0×Cs)=>(y.1.set j (bY d F ((ay d r).aA.getD j 0) y.2).1,(bY d F ((ay d r).aA.getD j 0) y.2).2)) (ay d r).aA.length 0 (List.replicate (ay d r).aA.length 0,KS d s)).2.n (ay d r).var (aS (fun j (y:LI0×Cs)=>(y.1.set j (bY d F ((ay d r).aA.getD j 0) y.2).1,(bY d F ((ay d r).aA.getD j 0) y.2).2)) (ay d r).aA.length 0 (List.replicate (ay d r).aA.length 0,KS d s)).1)]⟩):=by rw[bY,a18 t0,a18 (by rw[yL];simpa using c2)]
  have e2:kE d (F+1) r s=((aS (fun k y=>kE d F ((ay d r).aA.getD k 0) y) (ay d r).aA.length 0 s).1++[r],(aS (fun k y=>kE d F ((ay d r).aA.getD k 0) y) (ay d r).aA.length 0 s).2):=by rw[kE,a18 t0,a18 (by simpa using c2)]
  generalize aS (fun j (y:LI0×Cs)=>(y.1.set j (bY d F ((ay d r).aA.getD j 0) y.2).1,(bY d F ((ay d r).aA.getD j 0) y.2).2)) (ay d r).aA.length 0 (List.replicate (ay d r).aA.length 0,KS d s)=y at VZ e1;generalize aS (fun k y=>kE d F ((ay d r).aA.getD k 0) y) (ay d r).aA.length 0 s=t at VZ e2;obtain⟨rfl,f2,f3,f4,f5,f6⟩:=VZ;rw[a3L]at f6;simp only[a3L,adB,afz,List.replicate_zero,a6g]at e1;have a8S:∀k∈(ay d r).aA,Xg t k:=fun k kU=>by
   obtain⟨i,hi,rfl⟩:=a5T.1 kU;have:=f6 i hi
   rwa [tH hi]at this
  have hW:∀o,0<=o->gG o d.au.length->∀k∈(ay d o).aA,Hy k:=fun o _ ho k kU=>by
   obtain⟨i,hi,rfl⟩:=a5T.1 kU;have:=hw.Ah o.toNat (by have:=ho.1;have:=ho.2;omega) i hi
   rwa [tH hi]at this
  have hrI:gG r d.au.length:=⟨by omega,hr.1⟩;have hel:t.2.length<=2^61:=a5Y f2.len.2 he;have aeG:((ay d r).aA.map (yx t)).all (fun x=>x==((ay d r).aA.map (yx t)).getD 0 0)=false:=by
   cases e:((ay d r).aA.map (yx t)).all (fun x=>x==((ay d r).aA.map (yx t)).getD 0 0)
   .rfl
   exfalso;have hf:=hd.flat r.toNat aQ;rw[List.all_eq_false]at hf;obtain⟨x,hx,hx2⟩:=hf;have hx:x∈(ay d r).aA:=hx;have h0:0<(ay d r).aA.length:=ag2 hx;rw[a5L]at e;have:=e (yx t x) (a1w.2 ⟨x,hx,rfl⟩);rw[tH (by simpa using h0),aag]at this;have h00:(ay d r).aA[0]∈(ay d r).aA:=a5K h0;have:=a2X hel (a8S x hx) (a8S _ h00) (hW r (by omega) hrI x hx) (hW r (by omega) hrI _ h00) (by simpa using this);apply hx2;have h9:(fD d r.toNat).aA.getD 0 0=(ay d r).aA[0]:=tH h0;rw[h9,this];simp
  have agc:uX (ay d r).var ((ay d r).aA.map (yx t))∉(KS d t).n.map Di:=by
   intro hm;unfold KS at hm;rw[a6q]at hm;obtain⟨o,ho,e⟩:=a1w.1 hm;have ho2:=f2.n2 o ho;have RX:o.toNat<d.au.length:=by have:=ho2.1;have:=ho2.2;omega
   have ev:(fD d o.toNat).var=(fD d r.toNat).var:=congrArg Prod.fst e;have ep:Jk ((ay d o).aA.map (yx t))=Jk ((ay d r).aA.map (yx t)):=congrArg (fun z:Ky=>z.2.val) e;have hlen:((fD d o.toNat).aA.length:Int)=((fD d r.toNat).aA.length:Int):=(by rw[h.ksz _ RX,h.ksz _ aQ,ev]);have hlen:(ay d o).aA.length=(ay d r).aA.length:=by exact_mod_cast hlen
   have em:=ac5 (by simpa using hlen) (by rw[a4X];exact h.L9 _ RX) ep;have ek:=map_inj (fun x hx y hy e=>a2X hel (f3 o ho x hx) (a8S y hy) (hW o ho2.1 ho2 x hx) (hW r (by omega) hrI y hy) e) em;have:=hd.au _ _ RX aQ ev ek;have:o=r:=by have:=ho2.1;omega
   exact f5 (this▸ho)
  have hnl:(KS d t).n.length=t.1.length:=by unfold KS;simp
  have hR:eH (KS d t).n (ay d r).var ((ay d r).aA.map (yx t))=(t.1.length:Int):=by unfold eH;rw[aeG,a18 (by simp),a9g agc,a4X,hnl]
  have hS:dH (KS d t).n (ay d r).var ((ay d r).aA.map (yx t))=(KS d t).n++[⟨(ay d r).var,(ay d r).aA.map (yx t)⟩]:=by unfold dH;rw[aeG,a18 (by simp),a18 agc]
  have hx:Ext t (t.1++[r],t.2):=⟨[r],[],by simp⟩;have hc:Xg (t.1++[r],t.2) r:=⟨fun h0=>absurd h0 c,fun _=>by simp⟩;refine⟨?_,?_,by rw[e2];exact hc,by rw[e2];exact f4.trans hx⟩
  .rw[e1,e2,hR,hS,ac3 f3 (fun o ho=>(f2.n2 o ho).1) (by omega) f5 a8S];unfold yx;rw[a18 c];simp[aaP,f5]
  rw[e2];intro o ho k kU;rcases a3M.1 ho with ho|ho
  .exact(f3 o ho k kU).ext hx
  rw[a1D.1 ho]at kU;exact(a8S k kU).ext hx
open Go Tw Pv bK
theorem YT(b):Es b=b.aA.all fun x=>x==b.aA.getD 0 0:=by
 have e:kC (Ue (QF b) 1 (max 1 b.aA.length))=true↔∀k,1<=k->k<b.aA.length->b.aA.getD k 0=b.aA.getD 0 0:=by
  unfold Ue gS;rw[Jd (r:=fun k=>k)];constructor
  .intro h k h1 h2;simpa[QF]using h k h1 (by omega)
  intro h k h1 h2;simpa[QF]using h k h1 (by omega)
 have e2:(b.aA.all fun x=>x==b.aA.getD 0 0)=true↔∀k,1<=k->k<b.aA.length->b.aA.getD k 0=b.aA.getD 0 0:=by
  rw[a5L];constructor
  .intro h k _ h2;have:=h _ (dG h2);simpa using this
  intro h x hx;obtain⟨k,hk,rfl⟩:=a5T.1 hx;by_cases h0:k=0
  .subst h0;rw[tH hk];simp
  have:=h k (by omega) hk;rw[tH hk]at this;rw[this];simp
 have:Es b=true↔(b.aA.all fun x=>x==b.aA.getD 0 0)=true:=by rw[e2,<-e];unfold Es;cases kC (Ue (QF b) 1 (max 1 b.aA.length))<;>simp
 rw[a5S];exact this
theorem ahl{d}:kC (bH (cD0 d) d.aK.length)=true↔d.aK.Nodup:=by
 rw[dL];have h1:∀i,cD0 d i=false↔∀j,j<i->d.aK.getD j V0≠d.aK.getD i V0:=fun i=>by
  have:kC (bH (cD1 d i) i)=true↔∀j,j<i->d.aK.getD j V0≠d.aK.getD i V0:=by rw[dL];simp[cD1]
  rw[<-this];unfold cD0;cases kC (bH (cD1 d i) i)<;>simp
 have hg:∀j,(hj:j<d.aK.length)->d.aK.getD j V0=d.aK[j]:=fun j hj=>by simp[List.getD,a0Q hj]
 constructor
 .intro h;rw[ad6,aao];intro i j hi hj AZ;have:=(h1 j).1 (h j hj) i AZ
  rwa [hg i hi,hg j hj]at this
 intro h i hi;rw[h1];intro j hj;rw[ad6,aao]at h;have:=h j i (by omega) hi hj
 rwa [hg i hi,hg j (by omega)]
theorem ahm{d}:kC (bH (cD2 d) d.au.length)=true↔(∀i j,i<d.au.length->j<d.au.length->(fD d i).var=(fD d j).var->(fD d i).aA=(fD d j).aA->i=j)/\∀i,i<d.au.length->((fD d i).aA.all fun x=>x==(fD d i).aA.getD 0 0)=false:=by
 rw[dL];have h1:∀i,cD2 d i=false↔Es (fD d i)=false/\∀j,j<i->¬((fD d j).var=(fD d i).var/\(fD d j).aA=(fD d i).aA):=fun i=>by
  have h3:∀j,cD3 d i j=false↔¬((fD d j).var=(fD d i).var/\(fD d j).aA=(fD d i).aA):=fun j=>by
   unfold cD3;by_cases hv:(fD d j).var=(fD d i).var
   .rw[a1e (by rw[a6x];exact hv),a3G];exact⟨fun a b=>a b.2,fun a b=>a ⟨hv,b⟩⟩
   rw[a18 (by rw[a6x];exact hv)];exact⟨fun _ a=>hv a.1,fun _=>rfl⟩
  have:kC (bH (cD3 d i) i)=true↔∀j,j<i->¬((fD d j).var=(fD d i).var/\(fD d j).aA=(fD d i).aA):=by rw[dL];exact acJ fun j=>acJ fun _=>h3 j
  rw[<-this];unfold cD2;cases Es (fD d i)
  .cases kC (bH (cD3 d i) i)<;>simp
  simp
 constructor
 .intro h;refine⟨fun i j hi hj hv hk=>?_,fun i hi=>by rw[<-YT];exact((h1 i).1 (h i hi)).1⟩;rcases Nat.lt_trichotomy i j with AZ|AZ|AZ
  .exact absurd ⟨hv,hk⟩ (((h1 j).1 (h j hj)).2 i AZ)
  .exact AZ
  exact absurd ⟨hv.symm,hk.symm⟩ (((h1 i).1 (h i hi)).2 j AZ)
 intro h i hi;rw[h1];refine⟨by rw[YT];exact h.2 i hi,fun j hj hc=>?_⟩;have:=h.1 j i (by omega) hi hc.1 hc.2;omega
theorem ac6{d}:(kC (bH (cD0 d) d.aK.length)=true/\kC (bH (cD2 d) d.au.length)=true)↔DgD d:=by rw[ahl,ahm];exact⟨fun h=>⟨h.1,h.2.1,h.2.2⟩,fun h=>⟨h.aK,h.au,h.flat⟩⟩
theorem QM{l}{m:Nat}:Ag l m=true↔l=dU m:=by
 unfold Ag;have e:kC (bH (a8q l) l.length)=true↔∀j,j<l.length->l.getD j 0=(j:Int):=by rw[dL];simp[a8q]
 constructor
 .intro h;split at h
  .rename_i h1;have hl:(l.length:Int)=(m:Int):=(by simpa using h);have hl:l.length=m:=(by omega);rw[pz (d:=0) (by rw[mM,hl])];intro j hj;rw[e.1 h1 j hj];have:j<m:=(by omega);simp[dU,List.getD,this]
  cases h
 rintro rfl;rw[a1e (e.2 fun j hj=>by rw[mM]at hj;simp[dU,List.getD,hj]),mM];simp
theorem YU{d}:oL d=true↔DgD d/\srN d d.root=dU d.au.length/\srE d d.root=dU d.aK.length:=by
 rw[<-ac6,<-QM,<-QM];unfold oL;cases kC (bH (cD0 d) d.aK.length)
 .simp
 cases kC (bH (cD2 d) d.au.length)
 .simp
 cases Ag (srN d d.root) (d.au.length:Int)<;>simp
open Go Tw Pv bK
abbrev ZE:Cs:=⟨[],[],[]⟩
def eP(d:Dg):Dg:=⟨d.aj,d.aB,(bY d 6002 d.root ZE).2.e,(bY d 6002 d.root ZE).2.n,(bY d 6002 d.root ZE).1⟩
theorem WB{d}:Eu d ZE:=⟨a6p,by simp,a6p,by simp,a6p,by simp⟩
abbrev a8T(b:Br):Bool:=b.aA.all fun x=>x==b.aA.getD 0 0
theorem a2Z{d}:∀(F) (r) (x),(∀b∈x.n,a8T b=false)->∀b∈(bY d F r x).2.n,a8T b=false
 | 0,_,_,h=>h
 |F+1,r,x,h=>by
  unfold bY;split
  .exact h
  split
  .exact h
  have hb:=(Jl (d:=d) (fun y=>∀b∈y.n,a8T b=false) (F:=F) (r:=r) h (fun j y _ hy=>a2Z F _ y hy)).2;intro b SE;simp only[dH]at SE;split at SE
  .exact hb b SE
  rename_i hf;split at SE
  .exact hb b SE
  rcases a3M.1 SE with SE|SE
  .exact hb b SE
  rw[a1D.1 SE];simpa using hf
theorem a5d{d}(h:D6 d)(e:eP d=d):DgD d:=by
 have hc:=QJ h 6002 d.root ZE WB h.root;have hf:=a2Z (d:=d) 6002 d.root ZE (by simp);have ee:(bY d 6002 d.root ZE).2.e=d.aK:=congrArg Dg.aK e;have en:(bY d 6002 d.root ZE).2.n=d.au:=congrArg Dg.au e;rw[en]at hf;have hg:∀j,(hj:j<d.au.length)->fD d j=d.au[j]:=fun j hj=>by simp[List.getD,a0Q hj]
 refine⟨ee▸hc.e1,fun i j hi hj hv hk=>?_,fun i hi=>?_⟩
 .have hn:(d.au.map Di).Nodup:=en▸hc.n1;have:=(aaZ (i:=i) (j:=j) (h₀:=by simpa using hi) (h₁:=by simpa using hj) hn).1 (by rw[aag,aag,<-hg i hi,<-hg j hj];show uX _ _=uX _ _;rw[hv,hk])
  exact this
 have:=hf (fD d i) (by rw[hg i hi];exact a5K hi);exact this
theorem QN{d:Dg}{n m x}(hm:m<=2^61)(hx:Hy x)(hc:Xg (dU n,dU m) x):yx (dU n,dU m) x=x:=by
 have hid:∀(n:Nat) (y:Int),y∈dU n->(((dU n).idxOf y:Nat):Int)=y:=fun n y hy=>by have hl:=a5Q.2 hy;have h1:=a9s hl;rw[mM]at hl;simp only[dU,aag,afv]at h1;exact h1
 unfold yx;by_cases c:x<0
 .rw[a1e c];have h1:=hid m _ (hc.1 c);have h2:ji x=-1-x:=Oj hx c;have h3:=a2S (hc.1 c);have h4:=h3.2;rw[show((((dU n,dU m):LI0×LI0).2.idxOf (ji x):Nat):Int)=ji x from h1,h2,fV (by omega) (by omega)];omega
 rw[a18 c];exact hid n _ (hc.2 (by omega))
theorem YV{α:Type}(l:List α)(f)(h:∀j,(hj:j<l.length)->f j=l[j]):(dU l.length).map f=l:=by apply aaw (by simp[dU]);intro j h1 h2;simp[dU,h j h2]
theorem a3a{d:Dg}{j}(hj):d.aK.getD ((j:Nat):Int).toNat V0=d.aK[j]:=by simp[List.getD,a0Q hj]
theorem a3b{l:LI0}{m}(hl:l.length=m)(h:∀j,(hj:j<l.length)->l[j]=(j:Int)):l=dU m:=by apply aaw (by rw[mM,hl]);intro j h1 h2;rw[h j h1];simp[dU]
theorem ahn{d}(h:D6 d)(hw:Dh d)(hd:DgD d)(he:d.aK.length<=2^61){t}(ht:La d t)(hk:Lh d t)(hc:Xg t d.root):((KS d t).e=d.aK/\(KS d t).n=d.au/\yx t d.root=d.root)↔(t.1=dU d.au.length/\t.2=dU d.aK.length):=by
 have hW:∀o,gG o d.au.length->∀k∈(ay d o).aA,Hy k:=fun o ho k kU=>by
  obtain⟨i,hi,rfl⟩:=a5T.1 kU;have:=hw.Ah o.toNat (by have:=ho.1;have:=ho.2;omega) i hi
  rwa [tH hi]at this
 have hg:∀j,(hj:j<d.au.length)->ay d (j:Nat)=d.au[j]:=fun j hj=>by simp[List.getD,a0Q hj]
 constructor
 .rintro⟨h1,h2,h3⟩;have l1:t.2.length=d.aK.length:=by have:=congrArg List.length h1;simpa[KS]using this
  have l2:t.1.length=d.au.length:=by have:=congrArg List.length h2;simpa[KS]using this
  have e2:t.2=dU d.aK.length:=a3b l1 fun j hj=>by have tY:j<d.aK.length:=(by omega);have:(KS d t).e[j]'(by rw[h1];exact tY)=d.aK[j]:=(by simp only[h1]);unfold KS at this;simp only[aag]at this;rw[<-a3a tY]at this;exact YS hd.aK (ht.e2 _ (a5K hj)) (aG tY) this
  have key:∀(N:Nat) (o:Int),o∈t.1->o.toNat<N->yx t o=o:=by
   intro N
   induction N with
   |zero=>intro o _ hN;omega
   |succ N ih=>
    intro o ho hN;have ho2:=ht.n2 o ho;have aQ:=a5Q.2 ho;have tY:t.1.idxOf o<d.au.length:=(by omega);have hel:=a9s aQ;have:(KS d t).n[t.1.idxOf o]'(by rw[h2];exact tY)=d.au[t.1.idxOf o]:=(by simp only[h2]);unfold KS at this;simp only[aag,hel]at this;have hkm:(ay d o).aA.map (yx t)=(ay d o).aA:=by
     conv=>rhs;rw[<-List.map_id (ay d o).aA]
     apply a5M;intro k kU;show yx t k=k;have hcv:=hk o ho k kU;by_cases c:k<0
     .have:=QN (d:=d) (n:=0) (m:=d.aK.length) he (hW o ho2 k kU) ⟨fun c=>by have:=hcv.1 c;rwa [e2]at this,fun h0=>by omega⟩;unfold yx at this ⊢;rw[a1e c]at this ⊢;rw[e2];exact this
     obtain⟨i,hi,rfl⟩:=a5T.1 kU;have ars:o.toNat<d.au.length:=by have:=ho2.1;have:=ho2.2;omega
     have h9:=(h.Ah o.toNat ars i hi).1;have h9:(ay d o).aA.getD i 0<(o.toNat:Int):=h9;rw[tH hi]at h9;exact ih _ (hcv.2 (by omega)) (by omega)
    rw[hkm]at this;have hv:(fD d (t.1.idxOf o)).var=(fD d o.toNat).var:=(by rw[show fD d (t.1.idxOf o)=d.au[t.1.idxOf o]from hg _ tY,<-this]);have yL:(fD d (t.1.idxOf o)).aA=(fD d o.toNat).aA:=(by rw[show fD d (t.1.idxOf o)=d.au[t.1.idxOf o]from hg _ tY,<-this]);have h8:=hd.au _ _ tY (by have:=ho2.1;have:=ho2.2;omega) hv yL;unfold yx;rw[a18 (by have:=ho2.1;omega),h8];have:=ho2.1;omega
  refine⟨a3b l2 fun j hj=>?_,e2⟩;have hm:=a5K hj;have:=key ((t.1[j]).toNat+1) _ hm (by omega);unfold yx at this;rw[a18 (by have:=(ht.n2 _ hm).1;omega)]at this;rw[<-this];have:t.1.idxOf t.1[j]=j:=by have h5:=a5Q.2 hm;exact(aaZ (i:=t.1.idxOf t.1[j]) (j:=j) (h₀:=h5) (h₁:=hj) ht.n1).1 (a9s h5)
  rw[this]
 rintro⟨h1,h2⟩;obtain⟨t1,t2⟩:=t;simp only at h1 h2;subst h1 h2;refine⟨?_,?_,QN (d:=d) he hw.root hc⟩
 .exact YV d.aK (fun e=>d.aK.getD e.toNat V0) fun j hj=>a3a hj
 refine YV d.au _ fun j hj=>?_;have hkm:(ay d (j:Nat)).aA.map (yx (dU d.au.length,dU d.aK.length))=(ay d (j:Nat)).aA:=by
  conv=>rhs;rw[<-List.map_id (ay d (j:Nat)).aA]
  apply a5M;intro k kU;exact QN (d:=d) he (hW _ (aG hj) k kU) (hk _ (by show(j:Int)∈dU _;unfold dU;rw[a1w];exact⟨j,a5m.2 hj,rfl⟩) k kU)
 rw[hkm,hg j hj]
theorem Lj{d}(h:D6 d)(hw:Dh d)(he:d.aK.length<=2^61)(hn:d.au.length<=6000):eP d=d↔oL d=true:=by
 have main:DgD d->(eP d=d↔(srN d d.root=dU d.au.length/\srE d d.root=dU d.aK.length)):=fun hd=>by
  have hr:d.root+1<6002:=by have:=h.root.1;omega
  have ha:=aeF h hw hd he 6002 d.root ([],[]) hr sr0 (fun o ho=>by cases ho) h.root (by omega);have hs:=N8 h 6002 d.root ([],[]) sr0 h.root;have hi:=ahn h hw hd he hs ha.aA ha.cov;have e0:KS d ([],[])=ZE:=rfl;have e1:=ha.eq;rw[e0]at e1;unfold srN srE;rw[<-hi];unfold eP;rw[e1];obtain⟨d1,d2,d3,d4,d5⟩:=d;simp
 rw[YU];constructor
 .intro e;have hd:=a5d h e;exact⟨hd,(main hd).1 e⟩
 rintro⟨hd,h2⟩;exact(main hd).2 h2
open Go Tw Pv bK
abbrev HCw(l:Lo)(x:Cs):List (PB aH):=[.list false false 3 l.s,.list false false 3 l.o,.map (kV.es (Aj x.e)),.map (kK.es (zF x.n)),mkC l.s l.o 12 13 0,.gone,.gone,.cells l.ps,.cells [.ptr 4 0 9],.map (kI.es (NC x.k)),.cells [.map 9],.cells [.fn 195 [] pC],RI x.e,RJ x.n]
structure ClP(l:Lo):Prop where
 s:l.s=l.d.aj
 o:l.o=l.d.aB
 t:D6 l.d
 e:l.d.aK.length+1<=ah
 n:l.d.au.length<=6000
 k:∀i,i<l.d.au.length->1<=(fD l.d i).aA.length
 sl:l.d.aj.length<=ah
 ol:l.d.aB.length<=ah
def aeH:gZ aH:=cu 161 (a1 loA) dA (fun l=>eP l.d) (fun l=>[ClP l]) aeD
theorem amg:Gd aeH:=ame.Ye 6010 aew fun n hn hO hOl l hp=>by obtain⟨n,rfl⟩:∃k,n=k+6009:=⟨n-6009,by omega⟩;have h:ClP l:=hp _ iE;obtain⟨s,o,d⟩:=l;obtain⟨e1,e2,ht,he,hn6,hk,hsl,RX⟩:=h;obtain rfl:s=d.aj:=e1;obtain rfl:o=d.aB:=e2;have hO':∀m,n+1<=m->Ok m _:=fun m hm=>hOl m (by omega);have he:d.aK.length+1<=ah:=he;have hn6:d.au.length<=6000:=hn6;have hr:=ht.root.1;have hr:d.root<(d.au.length:Int):=hr;have nP:=sCl (N:=n+1) hO' ht he (by unfold ah;omega) hk 6002 d.root ZE (by omega) WB ht.root (by omega);have fZ:=arn (n:=n+6008) (hO' _ (by omega)) d.aj d.aB hsl RX;show nI _ _ _ _ _ (dA.put (eP d)) _;unfold eP;generalize bY d 6002 d.root ZE=z at nP ⊢;obtain⟨v,e,nd,k⟩:=z;exact aP (hO (n+6009) (by omega)) (.fr [] fZ (.RH (H2:=HCw (zH d) ⟨e,nd,k⟩) [1,2,3,4,5,6,7,0,8,9,10,11] [7,8,10,11] nP .rr))
open Go Tw Pv bK
theorem a3c{d}(h:D6 d):∀(F) (r) (x),(∀b∈x.n,b.aA.length<=12)->jM d r d.au.length->∀b∈(bY d F r x).2.n,b.aA.length<=12
 | 0,_,_,hx,_=>hx
 |F+1,r,x,hx,hr=>by
  unfold bY;by_cases c:r<0
  .rw[a1e (by simpa using c)];exact hx
  rw[a18 (by simpa using c)];split
  .exact hx
  have aQ:r.toNat<d.au.length:=by have:=hr.1;omega
  have hb:=Jl (d:=d) (fun y=>∀b∈y.n,b.aA.length<=12) (F:=F) (r:=r) hx (fun j y hj hy=>a3c h F _ y hy (by have h9:=h.Ah r.toNat aQ j hj;have h8:=h9.1;have h8:(ay d r).aA.getD j 0<(r.toNat:Int):=h8;exact⟨by have:=hr.1;omega,h9.2⟩))
  intro b SE;simp only[dH]at SE;split at SE
  .exact hb.2 b SE
  split at SE
  .exact hb.2 b SE
  rcases a3M.1 SE with SE|SE
  .exact hb.2 b SE
  rw[a1D.1 SE];show List.length _<=12;rw[hb.1];exact h.L9 r.toNat aQ
theorem yh{d}(h:Dh d)(he:d.aK.length+1<=ah)(hs:d.aj.length<=ah)(ho:d.aB.length<=ah)(h0:(bI d).2=0):(bI d).1=zH d/\ClP (zH d):=by
 rw[Le h (by omega)]at h0 ⊢;have h0:bC d=0:=h0;have hc:=jq ho (show d.aK.length<=ah by omega) (by simp[h0]);have hf:(bn d.aj d.aB != 0)=false:=by
  cases e:bn d.aj d.aB != 0
  .rfl
  unfold bC at h0;rw[a1e e]at h0;simp[h0]at e
 refine⟨by rw[a18 (by rw[hf];simp)],rfl,rfl,hc.1,he,hc.2,fun i hi=>?_,hs,ho⟩;have h1:=hc.1.ksz i hi;have h2:=hc.1.var i hi;have h3:=(BL hf).sz _ (dG (s:=d.aj) (k:=(fD d i).var.toNat) (by have:=h2.2;have:=h2.1;omega));have h1:((fD d i).aA.length:Int)=d.aj.getD (fD d i).var.toNat 0:=h1;show 1<=(fD d i).aA.length;omega
def vC(d:Dg):Lo×Int:=if(bI d).2==0 then(if(!(Jo (eP (bI d).1.d) d))=true then((bI d).1,4)else bI d)else bI d
theorem a0R{d}(h:D6 d)(hn:d.au.length<=6000):(eP d).aK.length<=d.aK.length/\(eP d).au.length<=6000/\∀b∈(eP d).au,b.aA.length<=12:=by have hc:=QJ h 6002 d.root ZE WB h.root;refine⟨hc.am9,?_,a3c h 6002 d.root ZE (by simp) h.root⟩;have h1:=hc.L9;have h2:=hc.n2;show(bY d 6002 d.root ZE).2.n.length<=6000;omega
theorem a5e{d}(h:Dh d)(hs:d.aj.length<=ah)(ho:d.aB.length<=2^20)(he:d.aK.length+1<=ah)(h0:((bI d).2==0)=true):ClP (bI d).1/\(eP (bI d).1.d).aj.length<=ah/\(eP (bI d).1.d).aB.length<=ah/\(eP (bI d).1.d).aK.length<=ah/\(eP (bI d).1.d).au.length<=ah/\∀k,k<(eP (bI d).1.d).au.length->((eP (bI d).1.d).au.getD k lH).aA.length<=ah:=by
 have ho:d.aB.length<=ah:=by unfold ah;omega
 obtain⟨h1,h2⟩:=yh h he hs ho (by simpa using h0);rw[h1];obtain⟨a,b,c⟩:=a0R h2.t h2.n;refine⟨h2,hs,ho,?_,?_,fun k hk=>?_⟩
 .have a:(eP d).aK.length<=d.aK.length:=a;show(eP d).aK.length<=ah;omega
 .have b:(eP d).au.length<=6000:=b;show(eP d).au.length<=ah;unfold ah;omega
 exact YC (c _ (YO hk))
def aeI:gZ aH:=cu 172 (a1 dA) (dQ (a2 loA iA)) (fun p=>vC p) (fun p=>[Dh p,p.aj.length<=ah,p.aB.length<=2^20,p.aK.length+1<=ah]) aeH
theorem amh:Gd aeI:=amg.add fun n hO p hp=>aP hO (.o (hp _ zq) (.o (hp _ hh2) (.o (by have h9:p.aK.length+1<=ah:=hp _ (.tail _ (.tail _ (.tail _ (.head _))));show p.aK.length<=ah;omega) (.sh (fun h=>have q:=a5e (hp _ iE) (hp _ zq) (hp _ hh2) (hp _ (.tail _ (.tail _ (.tail _ (.head _))))) h;.o q.1 (.o q.2.1 (.o q.2.2.1 (.o q.2.2.2.1 (.o q.2.2.2.2.1 (.o q.2.2.2.2.2 (.ss .rr .rr))))))) fun _=>.rr))))
theorem Ew{d}(h:Dh d)(hs:d.aj.length<=ah)(ho:d.aB.length<=ah)(he:d.aK.length+1<=ah):vC d=(if(bn d.aj d.aB != 0)=true then lo0 else zH d,iD d):=by
 have h9:=Le h (show d.aK.length<=ah by omega);unfold vC iD;by_cases h0:(bI d).2=0
 .obtain⟨h1,h2⟩:=yh h he hs ho h0;have h3:=Lj h2.t h (show d.aK.length<=2^61 by unfold ah at he;omega) h2.n;have h4:bC d=0:=by rw[h9]at h0;exact h0
  rw[a1e (show((bI d).2==0)=true by simpa using h0),h1,h4,a18 (show ¬(((0:Int) != 0)=true) by simp)];rw[h9]at h1;show(if(!(Jo (eP d) d))=true then(zH d,4)else bI d)=_;have h1:(if(bn d.aj d.aB != 0)=true then lo0 else zH d)=zH d:=h1;rw[h9,h1];by_cases h5:eP d=d
  .rw[a18 (show ¬((!(Jo (eP d) d))=true) by rw[a2V.2 h5];simp),a18 (show ¬((!(oL d))=true) by rw[h3.1 h5];simp),h4]
  have h6:Jo (eP d) d=false:=by
   cases e:Jo (eP d) d
   .rfl
   exact absurd (a2V.1 e) h5
  have h7:oL d=false:=by
   cases e:oL d
   .rfl
   exact absurd (h3.2 e) h5
  rw[a1e (show(!(Jo (eP d) d))=true by rw[h6];rfl),a1e (show(!(oL d))=true by rw[h7];rfl)]
 have h4:¬bC d=0:=by rw[h9]at h0;exact h0
 rw[a18 (show ¬(((bI d).2==0)=true) by simpa using h0),h9,a1e (show(bC d != 0)=true by simpa using h4)]
open Go Tw Pv bK
def cellsD(d:Dg):List V:=(List.range (uP d.aj)).map fun(k:Nat)=>kF d (fP d.aj k)
open Go Tw Pv bK
def Hz(N:List Br)(c:Int)(ks:LI0):Int:=if(ks.all fun x=>x==ks.getD 0 0)=true then ks.getD 0 0 else(N.idxOf (⟨c,ks⟩:Br):Nat)
def qL(N:List Br)(c:Int)(ks:LI0):List Br:=if(ks.all fun x=>x==ks.getD 0 0)=true then N else if(⟨c,ks⟩:Br)∈N then N else N++[⟨c,ks⟩]
abbrev EN:Type:=List V×List Br
def D8(f:LI0->EN->Int×EN)(c:Int)(p:LI0)(j:Nat)(y:LI0×EN):LI0×EN:=(y.1++[(f (p.set c.toNat j) y.2).1],(f (p.set c.toNat j) y.2).2)
def jh(s:LI0)(l:List V):LI0->LI0->EN->Int×EN
 | [],p,x=>(i64.wrap (-1-(x.1.idxOf (l.getD (jB s p).toNat V0):Nat)),(gK x.1 (l.getD (jB s p).toNat V0),x.2))
 |c::r,p,x=>
  let y:=aS (D8 (jh s l r) c p) (s.getD c.toNat 0).toNat 0 ([],x)
  (Hz y.2.2 c y.1,(y.2.1,qL y.2.2 c y.1))
def wO(s:LI0):LI0->Nat
 | []=>1
 |c::r=>(s.getD c.toNat 0).toNat*wO s r
theorem WC{s}(hs:nZ s):∀{o},(∀c∈o,gG c s.length)->1<=wO s o
 | [],_=>a1l _
 |c::r,h=>by have h1:=WC hs (o:=r) fun c hc=>h c (by simp[hc]);obtain⟨h2,h3⟩:=h c (by simp);have h4:=hs _ (dG (s:=s) (k:=c.toNat) (by omega));have h5:1*1<=(s.getD c.toNat 0).toNat*wO s r:=aiw (by omega) h1;simpa[wO]using h5
theorem a0S(E v):(gK E v).length<=E.length+1:=by unfold gK;split<;>simp
theorem a8V(N c ks):(qL N c ks).length<=N.length+1:=by
 unfold qL;split
 .omega
 split<;>simp
theorem ac7{f c p n w}(h:∀q x,(f q x).2.1.length<=x.1.length+w/\(f q x).2.2.length+1<=x.2.length+w)(x):(aS (D8 f c p) n 0 ([],x)).1.length=n/\(aS (D8 f c p) n 0 ([],x)).2.1.length<=x.1.length+n*w/\(aS (D8 f c p) n 0 ([],x)).2.2.length+n<=x.2.length+n*w:=by
 have:=dh (g:=D8 f c p) (m:=n) (k:=0) (s:=([],x)) (fun k y=>y.1.length=k/\y.2.1.length<=x.1.length+k*w/\y.2.2.length+k<=x.2.length+k*w) ⟨rfl,by simp,by simp⟩ (fun j y _ _ hy=>by
  obtain⟨h1,h2,h3⟩:=hy;have:=h (p.set c.toNat j) y.2;refine⟨by simp[D8,h1],?_,?_⟩
  .simp only[D8,a3W,abn];omega
  simp only[D8,a3W,abn];omega)
 rw[a3L]at this;exact this
theorem a0T{s l}(hs:nZ s):∀(o p) (x),(∀c∈o,gG c s.length)->(jh s l o p x).2.1.length<=x.1.length+wO s o/\(jh s l o p x).2.2.length+1<=x.2.length+wO s o
 | [],p,x,_=>by have:=a0S x.1 (l.getD (jB s p).toNat V0);exact⟨this,by simp[jh,wO]⟩
 |c::r,p,x,h=>by
  obtain⟨h1,h2,h3⟩:=ac7 (f:=jh s l r) (c:=c) (p:=p) (n:=(s.getD c.toNat 0).toNat) (w:=wO s r) (fun q x=>a0T hs r q x fun c hc=>h c (by simp[hc])) x;obtain⟨i1,i2⟩:=h c (by simp);have h4:=hs _ (dG (s:=s) (k:=c.toNat) (by omega));simp only[jh,wO];generalize aS (D8 (jh s l r) c p) (s.getD c.toNat 0).toNat 0 ([],x)=y at h1 h2 h3;refine⟨h2,?_⟩;by_cases hn:(s.getD c.toNat 0).toNat=1
  .have e:qL y.2.2 c y.1=y.2.2:=by
    unfold qL;rw[a1e];rw[hn]at h1
    match hy:y.1,h1 with
    | [a],_=>simp
   rw[e];omega
  have:=a8V y.2.2 c y.1;omega
theorem a8W{α:Type}[DecidableEq α]{l:List α}{d a c}(hc:∀k,k<l.length->c k=decide (l.getD k d=a)):(a∈l->bH c l.length=.inr (l.idxOf a))/\(a∉l->kC (bH c l.length)=true):=by
 constructor
 .intro h;have hi:=a5Q.2 h;have h1:c (l.idxOf a)=true:=by rw[hc _ hi,a1x,List.getD,a0Q hi,a5V,a9s]
  cases e:kC (bH c l.length)
  .obtain⟨j,hj,cj,hb,e2⟩:=BD e;rw[e2];congr 1;rcases Nat.lt_trichotomy j (l.idxOf a)with g|g|g
   .exfalso;rw[hc j hj,a1x,List.getD,a0Q hj,a5V]at cj;have:=List.not_of_lt_findIdx (p:=(·==a)) g;rw[cj]at this;simp at this
   .exact g
   rw[hb _ g]at h1;cases h1
  rw[dL.1 e _ hi]at h1;cases h1
 intro h;refine dL.2 fun j hj=>?_;rw[hc j hj,a3G,List.getD,a0Q hj,a5V];rintro rfl;exact h (a5K hj)
structure PtP(s o:LI0)(l:List V):Prop where
 bQ:wC s
 ord:∀c∈o,gG c s.length
 len:(l.length:Int)=bF s
 aho:o.length<=ah
 slen:s.length<=ah
end Go.Proofs.YtmobpoiejckagaaGreat
