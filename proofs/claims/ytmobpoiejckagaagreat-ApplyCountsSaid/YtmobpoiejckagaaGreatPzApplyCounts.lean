/- At how many places a diagram has a cell, and the first one, are the document's, or the errors are; for all diagrams and cells. -/
import Derived.ProofKit
import Derived.Test.YtmobpoiejckagaaGreatRows
import Derived.Test.YtmobpoiejckagaaGreatP05
set_option linter.constructorNameAsVariable false
set_option linter.unusedVariables false
set_option linter.unusedSimpArgs false
set_option linter.unusedSectionVars false
open Go.IntKind (i64)
noncomputable section
namespace Go.Proofs.YtmobpoiejckagaaGreat
open Go Tw Pv cO
theorem ake{n:Nat}(hO:Ok n qx){k:Int}(hk:0<=k∧k<=6):aV X0 Qp (bP (n+1)) (.fn 124 [] []) [.own 0,.int .i64 k] [.list true true 3 ([-1]:List Int)] (.own 1) [.list true true 3 ([-1]:List Int),.list true true 3 (List.replicate k.toNat (-1):List Int)]:=by
 rcases a6T hk with rfl|rfl|rfl|rfl|rfl|rfl|rfl
 .exact fM hO (first:=[]) (cap:=[]) (.b (rfl:decide ((0:Int)<0)=false) (.o (rfl:(1:Int)=1) (.o (⟨by decide,by decide⟩:(0:Int)<=0∧(0:Int)<=6) (.b (rfl:decide ((0:Int)>0)=false) (.b (rfl:decide ((0:Int)>9223372036854775807)=false) (.o (rfl:(0:Int)=0) (.o (show(0:Int)<=0 by decide) (.o (show(0:Int)<=(ah:Int) by decide) (.m 8 le8 (.b (rfl:decide ((0:Int)<0)=false) .er))))))))))
 .exact fM hO (first:=[]) (cap:=[]) (.b (rfl:decide ((1:Int)<0)=false) (.o (rfl:(1:Int)=1) (.o (⟨by decide,by decide⟩:(0:Int)<=1∧(1:Int)<=6) (.b (rfl:decide ((0:Int)>0)=false) (.b (rfl:decide ((1:Int)>9223372036854775807)=false) (.o (rfl:(1:Int)=1) (.o (show(0:Int)<=1 by decide) (.o (show(1:Int)<=(ah:Int) by decide) (.m 8 le8 (.b (rfl:decide ((1:Int)<1)=false) .er))))))))))
 .exact fM hO (first:=[]) (cap:=[]) (.b (rfl:decide ((2:Int)<0)=false) (.o (rfl:(1:Int)=1) (.o (⟨by decide,by decide⟩:(0:Int)<=2∧(2:Int)<=6) (.b (rfl:decide ((0:Int)>0)=false) (.b (rfl:decide ((2:Int)>9223372036854775807)=false) (.o (rfl:(2:Int)=2) (.o (show(0:Int)<=2 by decide) (.o (show(2:Int)<=(ah:Int) by decide) (.m 8 le8 (.b (rfl:decide ((1:Int)<2)=true) (.o (show(0:Int)<=1 by decide) (.o (show(1:Int)<=2 by decide) (.o (show(2:Int)<=2 by decide) (.o (show(0:Int)<=0 by decide) (.o (show(0:Int)<=1 by decide) (.o (show(1:Int)<=2 by decide) (.b (rfl:decide ((2:Int)<2)=false) .er)))))))))))))))))
 .exact fM hO (first:=[]) (cap:=[]) (.b (rfl:decide ((3:Int)<0)=false) (.o (rfl:(1:Int)=1) (.o (⟨by decide,by decide⟩:(0:Int)<=3∧(3:Int)<=6) (.b (rfl:decide ((0:Int)>0)=false) (.b (rfl:decide ((3:Int)>9223372036854775807)=false) (.o (rfl:(3:Int)=3) (.o (show(0:Int)<=3 by decide) (.o (show(3:Int)<=(ah:Int) by decide) (.m 8 le8 (.b (rfl:decide ((1:Int)<3)=true) (.o (show(0:Int)<=1 by decide) (.o (show(1:Int)<=3 by decide) (.o (show(3:Int)<=3 by decide) (.o (show(0:Int)<=0 by decide) (.o (show(0:Int)<=1 by decide) (.o (show(1:Int)<=3 by decide) (.b (rfl:decide ((2:Int)<3)=true) (.o (show(0:Int)<=2 by decide) (.o (show(2:Int)<=3 by decide) (.o (show(3:Int)<=3 by decide) (.o (show(0:Int)<=0 by decide) (.o (show(0:Int)<=2 by decide) (.o (show(2:Int)<=3 by decide) (.b (rfl:decide ((3:Int)<3)=false) .er))))))))))))))))))))))))
 .exact fM hO (first:=[]) (cap:=[]) (.b (rfl:decide ((4:Int)<0)=false) (.o (rfl:(1:Int)=1) (.o (⟨by decide,by decide⟩:(0:Int)<=4∧(4:Int)<=6) (.b (rfl:decide ((0:Int)>0)=false) (.b (rfl:decide ((4:Int)>9223372036854775807)=false) (.o (rfl:(4:Int)=4) (.o (show(0:Int)<=4 by decide) (.o (show(4:Int)<=(ah:Int) by decide) (.m 8 le8 (.b (rfl:decide ((1:Int)<4)=true) (.o (show(0:Int)<=1 by decide) (.o (show(1:Int)<=4 by decide) (.o (show(4:Int)<=4 by decide) (.o (show(0:Int)<=0 by decide) (.o (show(0:Int)<=1 by decide) (.o (show(1:Int)<=4 by decide) (.b (rfl:decide ((2:Int)<4)=true) (.o (show(0:Int)<=2 by decide) (.o (show(2:Int)<=4 by decide) (.o (show(4:Int)<=4 by decide) (.o (show(0:Int)<=0 by decide) (.o (show(0:Int)<=2 by decide) (.o (show(2:Int)<=4 by decide) (.b (rfl:decide ((4:Int)<4)=false) .er))))))))))))))))))))))))
 .exact fM hO (first:=[]) (cap:=[]) (.b (rfl:decide ((5:Int)<0)=false) (.o (rfl:(1:Int)=1) (.o (⟨by decide,by decide⟩:(0:Int)<=5∧(5:Int)<=6) (.b (rfl:decide ((0:Int)>0)=false) (.b (rfl:decide ((5:Int)>9223372036854775807)=false) (.o (rfl:(5:Int)=5) (.o (show(0:Int)<=5 by decide) (.o (show(5:Int)<=(ah:Int) by decide) (.m 8 le8 (.b (rfl:decide ((1:Int)<5)=true) (.o (show(0:Int)<=1 by decide) (.o (show(1:Int)<=5 by decide) (.o (show(5:Int)<=5 by decide) (.o (show(0:Int)<=0 by decide) (.o (show(0:Int)<=1 by decide) (.o (show(1:Int)<=5 by decide) (.b (rfl:decide ((2:Int)<5)=true) (.o (show(0:Int)<=2 by decide) (.o (show(2:Int)<=5 by decide) (.o (show(5:Int)<=5 by decide) (.o (show(0:Int)<=0 by decide) (.o (show(0:Int)<=2 by decide) (.o (show(2:Int)<=5 by decide) (.b (rfl:decide ((4:Int)<5)=true) (.o (show(0:Int)<=4 by decide) (.o (show(4:Int)<=5 by decide) (.o (show(5:Int)<=5 by decide) (.o (show(0:Int)<=0 by decide) (.o (show(0:Int)<=4 by decide) (.o (show(4:Int)<=5 by decide) (.b (rfl:decide ((5:Int)<5)=false) .er)))))))))))))))))))))))))))))))
 exact fM hO (first:=[]) (cap:=[]) (.b (rfl:decide ((6:Int)<0)=false) (.o (rfl:(1:Int)=1) (.o (⟨by decide,by decide⟩:(0:Int)<=6∧(6:Int)<=6) (.b (rfl:decide ((0:Int)>0)=false) (.b (rfl:decide ((6:Int)>9223372036854775807)=false) (.o (rfl:(6:Int)=6) (.o (show(0:Int)<=6 by decide) (.o (show(6:Int)<=(ah:Int) by decide) (.m 8 le8 (.b (rfl:decide ((1:Int)<6)=true) (.o (show(0:Int)<=1 by decide) (.o (show(1:Int)<=6 by decide) (.o (show(6:Int)<=6 by decide) (.o (show(0:Int)<=0 by decide) (.o (show(0:Int)<=1 by decide) (.o (show(1:Int)<=6 by decide) (.b (rfl:decide ((2:Int)<6)=true) (.o (show(0:Int)<=2 by decide) (.o (show(2:Int)<=6 by decide) (.o (show(6:Int)<=6 by decide) (.o (show(0:Int)<=0 by decide) (.o (show(0:Int)<=2 by decide) (.o (show(2:Int)<=6 by decide) (.b (rfl:decide ((4:Int)<6)=true) (.o (show(0:Int)<=4 by decide) (.o (show(4:Int)<=6 by decide) (.o (show(6:Int)<=6 by decide) (.o (show(0:Int)<=0 by decide) (.o (show(0:Int)<=4 by decide) (.o (show(4:Int)<=6 by decide) (.b (rfl:decide ((6:Int)<6)=false) .er)))))))))))))))))))))))))))))))
def dH(D:List Dg):Jb:=⟨(D.getD 0 oH).ay,(D.getD 0 oH).aG,D,List.replicate (D.getD 0 oH).ay.length (-1)⟩
theorem akf{n f:Nat}(hO:Ok (n+1) qx)(Ai:Ok n qx){D:List Dg}(h0:0<D.length)(h6:(D.getD 0 oH).ay.length<=6){k ex:Bool}:aV X0 Qp (bP (n+2)) (.fn 78 [] []) [.fn f [] [],.own 0] [.list k ex 26 D] (.agg [lI (dH D).s,lI (dH D).o,.own 0,.own 1,.fn f [] []]) [.list k ex 26 D,.list true true 3 (dH D).g]:=by
 have i0:gW 0 D.length:=aH h0;have hs:=ake Ai (k:=((D.getD 0 oH).ay.length:Int)) ⟨by omega,by omega⟩;rw[a5m]at hs;have h:aV X0 Qp (bP (n+2)) (.fn 78 [] []) [.fn f [] [],.own 0] [.list k ex 26 D] (.agg [lI (dH D).s,lI (dH D).o,.own 0,.own 2,.fn f [] []]) [.list k ex 26 D,.list true true 3 ([-1]:List Int),.list true true 3 (dH D).g]:=fM hO (first:=[]) (cap:=[]) (.o i0 (.o i0 (.o i0 (.fr [1] hs .er))));exact aV.gs hX h [.gc [2]] rfl
theorem akg{n f:Nat}(u:Int)(hO:Ok (n+1) qx)(Ai:Ok n qx){D:List Dg}(h0:0<D.length)(h6:(D.getD 0 oH).ay.length<=6){k ex:Bool}:aV X0 Qp (bP (n+2)) (.fn 78 [] []) [.fn f [] [.ptr 1 0 1],.own 0] [.list k ex 26 D,.aC [.int .u8 u]] (.agg [lI (dH D).s,lI (dH D).o,.own 0,.own 2,.fn f [] [.ptr 1 0 1]]) [.list k ex 26 D,.aC [.int .u8 u],.list true true 3 (dH D).g]:=by
 have i0:gW 0 D.length:=aH h0;have hs:=ake Ai (k:=((D.getD 0 oH).ay.length:Int)) ⟨by omega,by omega⟩;rw[a5m]at hs;have h:aV X0 Qp (bP (n+2)) (.fn 78 [] []) [.fn f [] [.ptr 1 0 1],.own 0] [.list k ex 26 D,.aC [.int .u8 u]] (.agg [lI (dH D).s,lI (dH D).o,.own 0,.own 3,.fn f [] [.ptr 1 0 1]]) [.list k ex 26 D,.aC [.int .u8 u],.list true true 3 ([-1]:List Int),.list true true 3 (dH D).g]:=fM hO (first:=[]) (cap:=[]) (.o i0 (.o i0 (.o i0 (.fr [2] hs .er))));exact aV.gs hX h [.gc [3]] rfl
theorem apf{n f:Nat}{J:Jb}{d:Dg}{k ex k2 KL:Bool}(h:aV X0 Qp (bP n) (.fn 80 [] []) [.agg (J.ps (.fn f [] []))] [] (dA.put d) []):aV X0 Qp (bP n) (.fn 80 [] []) [.agg [lI J.s,lI J.o,.own 0,.own 1,.fn f [] []]] [.list k ex 26 J.D,.list k2 KL 3 J.g] (dA.put d) [.gone,.gone]:=by
 have h1:=aV.frame hX (ks:=[]) (H':=[.gone,.gone]) (Hp:=[]) (Py:=[]) (v':=dA.put d) (fv':=.fn 80 [] []) (xs':=[.agg (J.ps (.fn f [] []))]) h (by decide) rfl rfl rfl rfl rfl rfl rfl;exact aV.fz hX (H:=[.list k ex 26 J.D,.list k2 KL 3 J.g]) (cs:=[lI J.s,lI J.o,.own 0,.own 1]) (rest:=[.fn f [] []]) [0,1] h1 rfl (fun i hi=>by simpa[kF.jR,kF]using hi)
theorem apg{n f:Nat}{u:Int}{J:Jb}{d:Dg}{k ex k2 KL:Bool}(h:aV X0 Qp (bP n) (.fn 80 [] []) [.agg (J.ps (.fn f [] [.ptr 0 0 1]))] [.aC [.int .u8 u]] (dA.put d) [.aC [.int .u8 u]]):aV X0 Qp (bP n) (.fn 80 [] []) [.agg [lI J.s,lI J.o,.own 0,.own 2,.fn f [] [.ptr 1 0 1]]] [.list k ex 26 J.D,.aC [.int .u8 u],.list k2 KL 3 J.g] (dA.put d) [.gone,.aC [.int .u8 u],.gone]:=by
 have h1:=aV.frame hX (ks:=[1]) (H':=[.gone,.aC [.int .u8 u],.gone]) (Hp:=[.aC [.int .u8 u]]) (Py:=[.aC [.int .u8 u]]) (v':=dA.put d) (fv':=.fn 80 [] []) (xs':=[.agg (J.ps (.fn f [] [.ptr 1 0 1]))]) h (by decide) rfl rfl rfl rfl rfl rfl rfl;exact aV.fz hX (H:=[.list k ex 26 J.D,.aC [.int .u8 u],.list k2 KL 3 J.g]) (cs:=[lI J.s,lI J.o,.own 0,.own 2]) (rest:=[.fn f [] [.ptr 1 0 1]]) [0,2] h1 rfl (fun i hi=>by simpa[kF.jR,kF]using hi)
open Go Tw Pv cO
structure DgG(d:Dg):Prop where
 t:Bq d
 n:d.au.length<=6000
 ord:jX d.ay.length d.aG=true
 rk:∀i,i<d.au.length->∀k,k<(fA d i).aA.length->d.aG.idxOf (fA d i).var+1<=FM d.aG d.au ((fA d i).aA.getD k 0)
 two:∀i,i<d.au.length->2<=(fA d i).aA.length
 c:∀v∈d.aO,PG v
 dd:DgD d
 l0:bF d=0
theorem afq{d:Dg}(hp:rP d)(h:lF d=0):DgG d:=by
 have h0:bF d=0∧pz d=true:=by
  unfold lF at h;split at h
  .rename_i c;rw[h]at c;cases c
  rename_i c;split at h
  .cases h
  rename_i c2;exact⟨by simpa using c,by simpa using c2⟩
 have ho:d.aG.length<=ah:=by have:=hp.o;unfold ah;omega
 have he:d.aO.length<=ah:=by have:=hp.e;omega
 obtain⟨t,n⟩:=mG ho he (by rw[h0.1];rfl);obtain⟨D,_⟩:=Xd.1 h0.2;have hf:cZ d.ay d.aG=0∧kZ d=true:=by
  have hl:=h0.1;unfold bF at hl;split at hl
  .rename_i c;rw[hl]at c;cases c
  rename_i c;split at hl
  .cases hl
  split at hl
  .cases hl
  rename_i _ c2;exact⟨by simpa using c,by simpa using c2⟩
 obtain⟨eu,ord⟩:=lU.1 hf.1;refine⟨t,n,ord,Xl h0.1,fun i hi=>?_,fun v hv=>?_,D,h0.1⟩
 .have:=D.flat i hi;rcases hk:(fA d i).aA with _|⟨a,_|⟨b,r⟩⟩
  .rw[hk]at this;simp at this
  .rw[hk]at this;simp at this
  simp
 refine⟨?_,hp.r.fault v hv⟩;have hl:=hf.2;unfold kZ at hl;obtain⟨k,hk,e⟩:=aaZ hv;have hs:jU (bG (cLe d) d.aO.length)=true:=by
  revert hl;cases jU (bG (cLe d) d.aO.length)<;>simp
 have:=dQ.1 hs k hk;unfold cLe at this;rw[a3d,a0E hk]at this;simpa[e]using this
theorem Zw{l:List Dg}(hp:∀d∈l,rP d)(h:bT l=0):∀d∈l,DgG d∧d.ay=(l.getD 0 oH).ay∧d.aG=(l.getD 0 oH).aG:=by
 intro d hd;unfold bT at h;split at h
 .rename_i c;split at h
  .cases h
  rename_i c2;simp only[aga,ad4,a4f]at c2;have e:=c2 d hd;unfold H9 at e;split at e
  .rename_i e1;refine⟨afq (hp d hd) ?_,by simpa using e1,by simpa using e⟩;obtain⟨k,hk,e9⟩:=aaZ hd;have:=dQ.1 c k hk;unfold cCk at this;rw[a3d,a0E hk,a4s,e9]at this;have h9:=hp d hd;rw[Xf h9.r h9.s (by have:=h9.o;unfold ah;omega) h9.e]at this;simpa using this
  cases e
 rename_i c;obtain⟨j,_,e,_,e2⟩:=GX (by simpa using c);rw[e2]at h;unfold cCk at e;have h':(vC (l.getD j oH)).2=0:=h;rw[h']at e;cases e
theorem acS{D:List Dg}(h3:D.length<=3)(h0:0<D.length)(h1:∀d∈D,DgG d∧d.ay=(D.getD 0 oH).ay∧d.aG=(D.getD 0 oH).aG):jL (dH D):=by
 have Qs:D.getD 0 oH∈D:=gG h0;obtain⟨g0,_,_⟩:=h1 _ Qs;refine⟨h3,g0.t.eu,g0.ord,fun k hk=>?_,a8D,fun c hc hg=>?_⟩
 .obtain⟨g,e1,e2⟩:=h1 (kM D k) (gG hk);exact⟨g.t,g.n,e1,e2,g.rk,g.two⟩
 exfalso;revert hg;show ¬(0<=(List.replicate (D.getD 0 oH).ay.length (-1:Int)).getD c.toNat 0);have:=hc.1;have:=hc.2;rw[a3d,acQ,a0V (show c.toNat<(D.getD 0 oH).ay.length by have:c<((D.getD 0 oH).ay.length:Int):=hc.2;omega)];decide
theorem yF{D:List Dg}(h3:D.length<=3)(h0:0<D.length)(hp:∀d∈D,rP d)(h:bT D=0):jL (dH D):=acS h3 h0 (Zw hp h)
open Go Tw Pv cO
theorem Pm{J:Jb}(hJ:jL J)(hc:∀k,k<J.D.length->∀v∈(kM J.D k).aO,PG v){op:List V->V}(h:∀l:List V,l.length=J.D.length->(∀v∈l,PG v)->PG (op l)):wQ J op:=fun t hd=>h _ (by simp[aT]) fun v hv=>by
 unfold aT at hv;obtain⟨k,hk,rfl⟩:=a1L.1 hv;have hk:=a3R.1 hk;have h3:(jw (t.get k)).toNat<(kM J.D k).aO.length:=by
  obtain⟨h1,h2⟩:=(J8 hJ hd hk).2;omega
 exact hc k hk _ (gG h3)
theorem Jb.inD{D:List Dg}(hp:∀d∈D,rP d)(h:bT D=0):∀k,k<D.length->∀v∈(kM D k).aO,PG v:=fun k hk=>(Zw hp h _ (gG hk)).1.c
theorem Jl{n f:Nat}(h2:2<=n)(hO:∀m,n-2<=m->Ok m qx){D:List Dg}(h0:0<D.length)(h6:(D.getD 0 oH).ay.length<=6){k ex:Bool}:aV X0 Qp (bP n) (.fn 78 [] []) [.fn f [] [],.own 0] [.list k ex 26 D] (.agg [lI (dH D).s,lI (dH D).o,.own 0,.own 1,.fn f [] []]) [.list k ex 26 D,.list true true 3 (dH D).g]:=by
 have h:=akf (n:=n-2) (f:=f) (hO _ (by omega)) (hO _ (by omega)) h0 h6 (k:=k) (ex:=ex)
 rwa [show n-2+2=n by omega]at h
theorem afr{n f:Nat}(u:Int)(h2:2<=n)(hO:∀m,n-2<=m->Ok m qx){D:List Dg}(h0:0<D.length)(h6:(D.getD 0 oH).ay.length<=6){k ex:Bool}:aV X0 Qp (bP n) (.fn 78 [] []) [.fn f [] [.ptr 1 0 1],.own 0] [.list k ex 26 D,.aC [.int .u8 u]] (.agg [lI (dH D).s,lI (dH D).o,.own 0,.own 2,.fn f [] [.ptr 1 0 1]]) [.list k ex 26 D,.aC [.int .u8 u],.list true true 3 (dH D).g]:=by
 have h:=akg (n:=n-2) (f:=f) u (hO _ (by omega)) (hO _ (by omega)) h0 h6 (k:=k) (ex:=ex)
 rwa [show n-2+2=n by omega]at h
theorem a7D{n f:Nat}{J:Jb}(hJ:jL J){op:List V->V}(ku:wQ J op)(h2:20<=n)(hO:∀m,n-20<=m->Ok m He)(hs:∀m,n-20<=m->∀l:List V,l.length=J.D.length->aV X0 Qp (bP m) (.fn f [] []) [lV l] [] (.agg (op l).ps) []){k ex k2 KL:Bool}:aV X0 Qp (bP n) (.fn 80 [] []) [.agg [lI J.s,lI J.o,.own 0,.own 1,.fn f [] []]] [.list k ex 26 J.D,.list k2 KL 3 J.g] (dA.put (Ja J op)) [.gone,.gone]:=by
 have h6:=(jL.o2 hJ).2.1;have h7:=hJ.eu.len;have h:=afe (N:=n-20) hJ ku hs hO (m:=n-1) (by omega);rw[show n-1+1=n by omega]at h;exact apf h
theorem aki{n f:Nat}(u:Int){J:Jb}(hJ:jL J){op:List V->V}(ku:wQ J op)(h2:20<=n)(hO:∀m,n-20<=m->Ok m He)(hs:∀m,n-20<=m->∀l:List V,l.length=J.D.length->aV X0 Qp (bP m) (.fn f [] [.ptr 0 0 1]) [lV l] [.aC [.int .u8 u]] (.agg (op l).ps) [.aC [.int .u8 u]]){k ex k2 KL:Bool}:aV X0 Qp (bP n) (.fn 80 [] []) [.agg [lI J.s,lI J.o,.own 0,.own 2,.fn f [] [.ptr 1 0 1]]] [.list k ex 26 J.D,.aC [.int .u8 u],.list k2 KL 3 J.g] (dA.put (Ja J op)) [.gone,.aC [.int .u8 u],.gone]:=by
 have h6:=(jL.o2 hJ).2.1;have h7:=hJ.eu.len;have h:=aff (N:=n-20) u hJ ku hs hO (m:=n-1) (by omega);rw[show n-1+1=n by omega]at h;exact apg h
abbrev LZ(a b x:Int):Bool:=if decide (x>=a)=true then decide (x<=b)else false
theorem a7E{k:Nat}{x:Int}(h:(!(LZ 0 (i64.wrap ((k:Int)-1)) x))=false)(hk:k<=ah):gW x k:=by
 rw[wrap_small (by unfold ah at hk;omega) (by unfold ah at hk;omega)]at h;unfold LZ at h;by_cases h1:x>=0
 .simp[h1]at h;exact⟨h1,by omega⟩
 simp[h1]at h
theorem aat{z x:Int}(h:(!(LZ 0 (i64.wrap (z-1)) x))=false)(h0:0<=z)(h1:z<=12):0<=x∧x<z:=by
 rw[wrap_small (by omega) (by omega)]at h;unfold LZ at h;by_cases h1:x>=0
 .simp[h1]at h;exact⟨h1,by omega⟩
 simp[h1]at h
def akj(d:Dg)(c g:Int):Jb:=⟨d.ay,d.aG,[d],(dH [d]).g.set c.toNat g⟩
abbrev op0(l:List V):V:=l.getD 0 V0
theorem aau{d:Dg}(hp:rP d)(h:bT [d]=0){c g:Int}(hc:gW c d.ay.length)(hg:0<=g∧g<d.ay.getD c.toNat 0):jL (akj d c g):=by
 have hJ:=yF (D:=[d]) (by simp) (by simp) (fun x hx=>by rw[a2J.1 hx];exact hp) h;refine⟨hJ.d3,hJ.eu,hJ.ord,fun k hk=>have h:=hJ.dg k hk;⟨h.t,h.n,h.s,h.o,h.rk,h.two⟩,?_,fun c2 I4 h2=>?_⟩
 .show((dH [d]).g.set c.toNat g).length=_;rw[a3W];exact hJ.gl
 have hl:(dH [d]).g.length=d.ay.length:=hJ.gl;have a0:=hc.1;have a1:=hc.2;have b0:=I4.1;have b1:c2<(d.ay.length:Int):=I4.2
 change 0<=((dH [d]).g.set c.toNat g).getD c2.toNat 0 at h2
 show((dH [d]).g.set c.toNat g).getD c2.toNat 0<d.ay.getD c2.toNat 0;by_cases e:c.toNat=c2.toNat
 .rw[<-e,a3d,a1V (by omega)];exact hg.2
 rw[a3d,a1M e,<-a3d]at h2 ⊢;exact hJ.gv c2 I4 h2
theorem akk{m:Nat}(hO:Ok m qx){l:List V}(h:0<l.length):aV X0 Qp (bP m) (.fn 79 [] []) [lV l] [] (.agg (op0 l).ps) []:=nR.Zk hX (first:=[]) (cap:=[]) (hO 79 [lV l] (vA.put (op0 l)) [] [0<l.length] (by kernel_rfl) (fun p h9=>by rw[a2J.1 h9];exact h)) rfl rfl rfl rfl
def JX(p:Dg×Int×Int):Dg×Int:=if(bT [p.1] != 0)=true then(oH,bT [p.1])else if(!(LZ 0 (i64.wrap ((p.1.ay.length:Int)-1)) p.2.1))=true then(oH,3)else if(!(LZ 0 (i64.wrap (p.1.ay.getD p.2.1.toNat 0-1)) p.2.2))=true then(oH,3)else(Ja (akj p.1 p.2.1 p.2.2) op0,0)
def akl:eU aF:=bZ 20 (a3 dA iA iA) (dK (a2 dA iA)) JX (fun p=>[rP p.1]) qx
theorem a3r:(1:Nat)<=ah:=by unfold ah;omega
theorem apk:Gd akl:=Good.WC 24 JV Xo fun n hn hO FK p hp=>by
 have h1:rP p.1:=hp _ (.head _);have h2:∀d∈[p.1],rP d:=fun x hx=>by rw[a2J.1 hx];exact h1
 have h3:0<[p.1].length∧[p.1].length<=ah:=⟨by simp,a3r⟩;obtain⟨d,c,g⟩:=p;show nR X0 Qp _ _ _ ((dK (a2 dA iA)).put (JX (d,c,g))) _;unfold JX;have hJ:(bT [d] != 0)=false->jL (dH [d]):=fun e1=>yF (D:=[d]) (by simp) (by simp) h2 (by simpa using e1);have hc:(bT [d] != 0)=false->(!(LZ 0 (i64.wrap ((d.ay.length:Int)-1)) c))=false->gW c d.ay.length:=fun _ e2=>a7E e2 h1.s;have s1:=fun(e1:(bT [d] != 0)=false)=>Jl (n:=n) (f:=79) (by omega) (fun m hm=>hO m (by omega)) (D:=[d]) (by simp) (hJ e1).eu.len (k:=true) (ex:=true);have s2:=fun(e1:(bT [d] != 0)=false) (e2:(!(LZ 0 (i64.wrap ((d.ay.length:Int)-1)) c))=false) (e3:(!(LZ 0 (i64.wrap (d.ay.getD c.toNat 0-1)) g))=false)=>
  have hz:=(hJ e1).eu.sz (d.ay.getD c.toNat 0) (dZ (show c.toNat<d.ay.length by obtain⟨a,b⟩:=hc e1 e2;omega));have hR:=aau h1 (by simpa using e1) (hc e1 e2) (aat e3 (Int.le_trans (by decide) hz.1) hz.2)
  a7D (n:=n) (f:=79) hR (Pm hR (Jb.inD h2 (show bT [d]=0 by simpa using e1)) fun l hl hv=>hv _ (gG (by rw[hl];exact Nat.zero_lt_one))) (by omega) (fun m hm=>FK m (by omega)) (fun m hm l hl=>akk (hO m (by omega)) (by rw[hl];exact Nat.zero_lt_one)) (k:=true) (ex:=true) (k2:=true) (KL:=true)
 have i2:=fun(e1:(bT [d] != 0)=false) (e2:(!(LZ 0 (i64.wrap ((d.ay.length:Int)-1)) c))=false)=>show gW c (dH [d]).g.length by rw[(hJ e1).gl];exact hc e1 e2
 exact aK (hO n (by omega)) (.o h2 (.o h3 (.sh (fun _=>.rn (.dG [.agg [.nil .slc,.nil .slc,.nil .slc,.nil .slc,.int .i64 0],.int .i64 (bT [d])]) rfl) fun e1=>.sh (fun _=>.rn (.dG [.agg [.nil .slc,.nil .slc,.nil .slc,.nil .slc,.int .i64 0],.int .i64 3]) rfl) fun e2=>.o (hc e1 e2) (.sh (fun _=>.rn (.dG [.agg [.nil .slc,.nil .slc,.nil .slc,.nil .slc,.int .i64 0],.int .i64 3]) rfl) fun e3=>.fr [1] (s1 e1) (.o (i2 e1 e2) (.fr [1,2] (s2 e1 e2 e3) .rr))))))
end Go.Proofs.YtmobpoiejckagaaGreat
namespace Pv
open Go Tw
theorem Good.a7F{X:kC}{P:Program}{T:qy}{L:Nat}{α β:Type}{f:FuncId}{a:Uh X P α}{r:Ar X P β}{S:α->β}{pre:α->List Prop}{fH WE a6I akm:eU X.Γ}(d:Nat)(hg:Good X P T L fH)(hg2:Good X P T L WE)(hg3:Good X P T L a6I)(hg4:Good X P T L akm)
  (hf:∀n,d<=n->(∀m,n-d<=m->jo X P (kJ P T L m) fH)->(∀m,n-d<=m->jo X P (kJ P T L m) WE)->(∀m,n-d<=m->jo X P (kJ P T L m) a6I)->(∀m,n-d<=m->jo X P (kJ P T L m) akm)->∀x,(∀p∈pre x,p)->nR X P (kJ P T L (n+1)) f (a.put x) (r.put (S x)) []):Good X P T L (bZ f a r S pre fH):=by
 obtain⟨N2,hN2⟩:=hg2;obtain⟨N3,hN3⟩:=hg3;obtain⟨N4,hN4⟩:=hg4;obtain⟨M,hM⟩:=hg;refine⟨M+N2+N3+N4+d+1,fun n hn=>?_⟩;obtain⟨k,rfl⟩:∃k,n=k+1:=⟨n-1,by omega⟩;intro g vs v ext ps ho hp;unfold bZ at ho;split at ho
 .rename_i e;have e:=a8p e;subst e;split at ho
  .rename_i x hx;cases ho;intro A h first args cap I5 hv
   exact hf k (by omega) (fun m hm=>hM m (by omega)) (fun m hm=>hN2 m (by omega)) (fun m hm=>hN3 m (by omega)) (fun m hm=>hN4 m (by omega)) x hp A h first args cap I5 (a.ok hx hv)
  .exact hM (k+1) (by omega) g vs v ext ps ho hp
 .exact hM (k+1) (by omega) g vs v ext ps ho hp
end Pv
namespace Go.Proofs.YtmobpoiejckagaaGreat
open Go Tw Pv cO
def ED(k:Int):Bool:=decide (7<=k∧k<=16)
def oU(k:Int)(a b:V):V×Int:=if ED k=true then GV k a b else(V0,2)
theorem bne{a b:Int}(h:a≠b):(a==b)=false:=by simpa using h
def a7G:eU aF:=Z8 101 (a1 uA) (fun _=>.nil .fn) (fun _=>[]) (fun p=>[ED p=false]) akl
theorem afs:Gd a7G:=apk.WB 0 fun n _ hO p hp=>by
 have h:¬(7<=p∧p<=16):=by simpa[ED]using hp _ (.head _)
 exact Bd hX (hO n (by omega)) (by kernel_rfl) (.b (bne (show p≠7 by omega)) (.b (bne (show p≠8 by omega)) (.b (bne (show p≠9 by omega)) (.b (bne (show p≠10 by omega)) (.b (bne (show p≠11 by omega)) (.b (bne (show p≠12 by omega)) (.b (bne (show p≠13 by omega)) (.b (bne (show p≠14 by omega)) .er))))))))
def XO:eU aF:=bZ 45 (a3 uA vA vA) (dK (a2 vA iA)) (fun p=>oU p.1 p.2.1 p.2.2) np a7G
theorem a1w:Gd XO:=afs.deep 1 fun n hn hO p hp=>by
 obtain⟨k,a,b⟩:=p;cases h:ED k
 .have h9:¬(7<=k∧k<=16):=by simpa[ED]using h
  show nR X0 Qp _ _ _ ((dK (a2 vA iA)).put (oU k a b)) _;unfold oU;rw[h];exact aK (hO n (by omega)) (.b (bne (show k≠15 by omega)) (.b (bne (show k≠16 by omega)) (.o h (.b (rfl:true=true) .rr))))
 .show nR X0 Qp _ _ _ ((dK (a2 vA iA)).put (oU k a b)) _;unfold oU;rw[a0V h];exact hO (n+1) (by omega) 45 ((a3 uA vA vA).put (k,a,b)) ((dK (a2 vA iA)).put (GV k a b)) [] [7<=k∧k<=16] (by kernel_rfl) (fun q hq=>by rw[a2J.1 hq];simpa[ED]using h)
open Go Tw Pv cO
theorem yj{v:V}:PG v↔kD v:=by
 unfold PG vOk mQ;constructor
 .rintro⟨h,h0⟩;split at h
  .rename_i e;split at h
   .rename_i e2;simp at e e2 h;exact⟨h0,by omega,fun _=>⟨e2,h⟩,fun hz=>absurd e hz⟩
   cases h
  split at h
  .rename_i e e2;simp at e e2 h;exact⟨h0,e2,fun hz=>absurd hz e,fun _=>h⟩
  cases h
 intro h;refine⟨?_,h.f0⟩;by_cases e:v.f=0
 .rw[a0V (by simpa using e),a0V (by simpa using(h.n e).1)];simpa using(h.n e).2
 rw[a0S (by simpa using e),a0V (by simpa using h.f1)];simpa using h.z e
theorem aav{k:Int}{a b:V}:(GV k a b).1=fZ k a b:=by
 unfold GV fZ
 repeat' split
 all_goals rfl
theorem aaw{k:Int}(h:ED k=true){a b:V}(ha:PG a)(hb:PG b):PG (oU k a b).1∧(oU k a b).1=bH k a b:=by
 have:=aee (by simpa[ED]using h) (yj.1 ha) (yj.1 hb);unfold oU;rw[a0V h,aav,this.1];exact⟨yj.2 this.2,rfl⟩
theorem aax{k:Int}{a b:V}(h:((oU k a b).2 != 0)=false):ED k=true:=by
 unfold oU at h;cases e:ED k
 .rw[e]at h;simp at h
 rfl
theorem aay:PG l7:=⟨by decide,by decide⟩
theorem aft:PG V0:=⟨by decide,by decide⟩
abbrev aaz(u:Int)(l:List V):V:=(oU u (l.getD 0 V0) (l.getD 1 V0)).1
abbrev aaA(l:List V):V:=(jr (l.getD 0 V0) (l.getD 1 V0) (l.getD 2 V0)).1
theorem akn{m:Nat}{u:Int}(h1:1<=m)(hO:Ok (m-1) XO){l:List V}(h:l.length=2):aV X0 Qp (bP m) (.fn 112 [] [.ptr 0 0 1]) [lV l] [.aC [.int .u8 u]] (.agg (aaz u l).ps) [.aC [.int .u8 u]]:=by
 obtain⟨m,rfl⟩:∃k,m=k+1:=⟨m-1,by omega⟩;exact fM hO (first:=[]) (cap:=[.ptr 0 0 1]) (.o (aH (by omega:0<l.length)) (.o (aH (by omega:1<l.length)) .er))
theorem apl{m:Nat}(h1:1<=m)(hO:Ok (m-1) XO){l:List V}(h:l.length=3):aV X0 Qp (bP m) (.fn 113 [] []) [lV l] [] (.agg (aaA l).ps) []:=by
 obtain⟨m,rfl⟩:∃k,m=k+1:=⟨m-1,by omega⟩;exact fM hO (first:=[]) (cap:=[]) (.o (aH (by omega:0<l.length)) (.o (aH (by omega:1<l.length)) (.o (aH (by omega:2<l.length)) .er)))
theorem ako{m:Nat}(hO:Ok m XO){l:List V}(h:l.length<=ah):aV X0 Qp (bP m) (.fn 117 [] []) [lV l] [] (.agg (nN l).ps) []:=nR.Zk hX (first:=[]) (cap:=[]) (hO 117 [lV l] (vA.put (nN l)) [] [l.length<=ah] (by kernel_rfl) (fun p h9=>by rw[a2J.1 h9];exact h)) rfl rfl rfl rfl
theorem aaB(l:List V):PG (nN l):=by unfold nN;split;exact aay;exact aft
theorem Zx{a b c:V}(ha:PG a)(hb:PG b)(hc:PG c):PG (jr a b c).1:=by
 have:=a2w (yj.1 ha) (yj.1 hb) (yj.1 hc);rw[this.1];exact yj.2 this.2
def wS(p:Int×Dg×Dg):Dg×Int:=if(bT [p.2.1,p.2.2] != 0)=true then(oH,bT [p.2.1,p.2.2])else if((oU p.1 l7 l7).2 != 0)=true then(oH,(oU p.1 l7 l7).2)else(Ja (dH [p.2.1,p.2.2]) (aaz p.1),0)
def XP(p:Dg×Dg×Dg):Dg×Int:=if(bT [p.1,p.2.1,p.2.2] != 0)=true then(oH,bT [p.1,p.2.1,p.2.2])else(Ja (dH [p.1,p.2.1,p.2.2]) aaA,0)
def zF(p:Dg):Dg×Int:=if(bT [p] != 0)=true then(oH,bT [p])else(Ja (dH [p]) nN,0)
theorem aaC{P:Dg->Prop}{a b:Dg}(ha:P a)(hb:P b):∀d∈[a,b],P d:=fun x hx=>by
 rcases a2t.1 hx with rfl|hx
 .exact ha
 .rw[a2J.1 hx];exact hb
theorem apm{P:Dg->Prop}{a b c:Dg}(ha:P a)(hb:P b)(hc:P c):∀d∈[a,b,c],P d:=fun x hx=>by
 rcases a2t.1 hx with rfl|hx
 .exact ha
 .exact aaC hb hc x hx
abbrev rnE(e:Int):PV aF:=.dG [.agg [.nil .slc,.nil .slc,.nil .slc,.nil .slc,.int .i64 0],.int .i64 e]
abbrev HcA(D:List Dg)(u:Int)(g:List Int):List (PB aF):=[.list true true 26 D,.cells [.int .u8 u],.list true true 3 g]
abbrev HcB(u:Int):List (PB aF):=[.gone,.cells [.int .u8 u],.gone]
theorem rE(e:Int):Fp (Γ:=X0.Γ) (Is (X:=X0) (P:=Qp) (dK (a2 dA iA)) (oH,e)) .n (.ret (some (rnE e))):=by
 have h:(dK (a2 dA iA)).get (rnE e)=some (oH,e):=rfl;exact Fp.rn (X:=X0) (P:=Qp) (rnE e) h
def akp:eU aF:=bZ 62 (a3 uA dA dA) (dK (a2 dA iA)) wS (fun p=>[rP p.2.1,rP p.2.2]) XO
theorem aaD:(2:Nat)<=ah:=by unfold ah;omega
theorem afu:(3:Nat)<=ah:=by unfold ah;omega
theorem apo:Gd akp:=Good.a7F 24 a1w Xo JV a1w fun n hn hO FK hO3 hO4 p hp=>by
 obtain⟨u,d,e⟩:=p;have h1:∀x∈[d,e],rP x:=aaC (hp _ (.head _)) (hp _ (.tail _ (.head _)));have h3:0<[d,e].length∧[d,e].length<=ah:=⟨by simp,aaD⟩;have hJ:(bT [d,e] != 0)=false->jL (dH [d,e]):=fun e1=>yF (D:=[d,e]) (by simp) (by simp) h1 (by simpa using e1);have s1:=fun(e1:(bT [d,e] != 0)=false)=>afr (n:=n) (f:=112) u (by omega) (fun m hm=>hO3 m (by omega)) (D:=[d,e]) (by simp) (hJ e1).eu.len (k:=true) (ex:=true);have s2:=fun(e1:(bT [d,e] != 0)=false) (e2:((oU u l7 l7).2 != 0)=false)=>aki (n:=n) (f:=112) u (hJ e1) (op:=aaz u) (Pm (hJ e1) (Jb.inD h1 (show bT [d,e]=0 by simpa using e1)) fun l hl hv=>(aaw (aax e2) (hv _ (gG (show 0<l.length by rw[hl];exact Nat.zero_lt_two))) (hv _ (gG (show 1<l.length by rw[hl];exact Nat.one_lt_two)))).1) (by omega) (fun m hm=>FK m (by omega)) (fun m hm l hl=>akn (by omega) (hO4 _ (by omega)) hl) (k:=true) (ex:=true) (k2:=true) (KL:=true);show nR X0 Qp _ _ _ ((dK (a2 dA iA)).put (if(bT [d,e] != 0)=true then(oH,bT [d,e])else if((oU u l7 l7).2 != 0)=true then(oH,(oU u l7 l7).2)else(Ja (dH [d,e]) (aaz u),0))) _;exact aK (hO n (by omega)) (.o h1 (.o h3 (.sh (fun _=>rE _) fun e1=>.sh (fun _=>rE _) fun e2=>.PZ (H2:=HcA [d,e] u (dH [d,e]).g) [2,0] [1] (s1 e1) (.PZ (H2:=HcB u) [2,0,3] [1] (s2 e1 e2) .rr))))
def akr:eU aF:=bZ 63 (a3 dA dA dA) (dK (a2 dA iA)) XP (fun p=>[rP p.1,rP p.2.1,rP p.2.2]) akp
theorem apq:Gd akr:=Good.a7F 24 apo Xo JV a1w fun n hn hO FK hO3 hO4 p hp=>by
 obtain⟨a,b,c⟩:=p;have h1:∀x∈[a,b,c],rP x:=apm (hp _ (.head _)) (hp _ (.tail _ (.head _))) (hp _ (.tail _ (.tail _ (.head _))));have h3:0<[a,b,c].length∧[a,b,c].length<=ah:=⟨by simp,afu⟩;have hJ:(bT [a,b,c] != 0)=false->jL (dH [a,b,c]):=fun e1=>yF (D:=[a,b,c]) (by simp) (by simp) h1 (by simpa using e1);have s1:=fun(e1:(bT [a,b,c] != 0)=false)=>Jl (n:=n) (f:=113) (by omega) (fun m hm=>hO3 m (by omega)) (D:=[a,b,c]) (by simp) (hJ e1).eu.len (k:=true) (ex:=true);have s2:=fun(e1:(bT [a,b,c] != 0)=false)=>a7D (n:=n) (f:=113) (hJ e1) (op:=aaA) (Pm (hJ e1) (Jb.inD h1 (show bT [a,b,c]=0 by simpa using e1)) fun l hl hv=>Zx (hv _ (gG (show 0<l.length by rw[hl];exact Nat.succ_pos 2))) (hv _ (gG (show 1<l.length by rw[hl];exact Nat.succ_lt_succ (Nat.succ_pos 1)))) (hv _ (gG (show 2<l.length by rw[hl];exact Nat.lt_succ_self 2)))) (by omega) (fun m hm=>FK m (by omega)) (fun m hm l hl=>apl (by omega) (hO4 _ (by omega)) hl) (k:=true) (ex:=true) (k2:=true) (KL:=true);show nR X0 Qp _ _ _ ((dK (a2 dA iA)).put (if(bT [a,b,c] != 0)=true then(oH,bT [a,b,c])else(Ja (dH [a,b,c]) aaA,0))) _;exact aK (hO n (by omega)) (.o h1 (.o h3 (.sh (fun _=>rE _) fun e1=>.fr [1] (s1 e1) (.fr [1,2] (s2 e1) .rr))))
def aks:eU aF:=bZ 67 (a1 dA) (dK (a2 dA iA)) zF (fun p=>[rP p]) akr
theorem apr:Gd aks:=Good.a7F 24 apq Xo JV a1w fun n hn hO FK hO3 hO4 d hp=>by
 have h1:∀x∈[d],rP x:=fun x hx=>by rw[a2J.1 hx];exact hp _ (.head _)
 have h3:0<[d].length∧[d].length<=ah:=⟨by simp,a3r⟩;have hJ:(bT [d] != 0)=false->jL (dH [d]):=fun e1=>yF (D:=[d]) (by simp) (by simp) h1 (by simpa using e1);have s1:=fun(e1:(bT [d] != 0)=false)=>Jl (n:=n) (f:=117) (by omega) (fun m hm=>hO3 m (by omega)) (D:=[d]) (by simp) (hJ e1).eu.len (k:=true) (ex:=true);have s2:=fun(e1:(bT [d] != 0)=false)=>a7D (n:=n) (f:=117) (hJ e1) (op:=nN) (fun t hd=>aaB _) (by omega) (fun m hm=>FK m (by omega)) (fun m hm l hl=>ako (hO4 m (by omega)) (by rw[hl];exact a3r)) (k:=true) (ex:=true) (k2:=true) (KL:=true);show nR X0 Qp _ _ _ ((dK (a2 dA iA)).put (if(bT [d] != 0)=true then(oH,bT [d])else(Ja (dH [d]) nN,0))) _;exact aK (hO n (by omega)) (.o h1 (.o h3 (.sh (fun _=>rE _) fun e1=>.fr [1] (s1 e1) (.fr [1,2] (s2 e1) .rr))))
open Go Tw Pv cO
def iV(v:V):Int:=if(!(wF v))=true then 2 else 0
def XQ:eU aF:=bZ 106 (a1 vA) iA (fun p=>iV p) np aks
theorem acT:Gd XQ:=apr.add fun n hO p hp=>aK hO (.ss .rr .rr)
theorem a7I{n f:Nat}{J:Jb}{k ex k2 KL:Bool}(h:aV X0 Qp (bP n) (.fn 87 [] []) [.agg (J.ps (.fn f [] []))] [] (.map 0) [.map (kV.im (dF J))]):aV X0 Qp (bP n) (.fn 87 [] []) [.agg [lI J.s,lI J.o,.own 0,.own 1,.fn f [] []]] [.list k ex 26 J.D,.list k2 KL 3 J.g] (.map 2) [.gone,.gone,.map (kV.im (dF J))]:=by
 have h1:=aV.frame hX (ks:=[]) (H':=[.gone,.gone]) (Hp:=[]) (Py:=[.map (kV.im (dF J))]) (v':=.map 2) (fv':=.fn 87 [] []) (xs':=[.agg (J.ps (.fn f [] []))]) h (by decide) rfl rfl rfl rfl rfl rfl rfl;exact aV.fz hX (H:=[.list k ex 26 J.D,.list k2 KL 3 J.g]) (cs:=[lI J.s,lI J.o,.own 0,.own 1]) (rest:=[.fn f [] []]) [0,1] h1 rfl (fun i hi=>by simpa[kF.jR,kF]using hi)
open Go Tw Pv cO
def look(t:List (V×Int))(v:V):Int:=((t.find? fun e=>decide (e.1=v)).map (·.2)).getD 0
theorem Hy{t:List (V×Int)}(hn:(t.map (·.1)).Nodup)(v:V):(qc X0 Qp 39 (kV.im t) (kV.tv v) (.int .i64 (look t v)))∨(look t v=0∧ny X0 Qp 39 (kV.im t) (kV.tv v)):=by
 by_cases h:v∈t.map (·.1)
 .obtain⟨e,he,hv⟩:=a1L.1 h;obtain⟨e2,h2⟩:=a4q.1 (List.find?_isSome (p:=fun e:V×Int=>decide (e.1=v)) |>.2 ⟨e,he,show decide (e.1=v)=true by simpa using hv⟩);have h3:e2.1=v:=by simpa using List.find?_some h2
  refine .inl (kV.found (by rw[zC];exact hn) (a1L.2 ⟨e2,afg h2,?_⟩));unfold look;rw[h2,h3];rfl
 refine .inr ⟨?_,kV.fresh (by rw[zC];exact h)⟩;unfold look;rw[ad6.2 fun e he=>by
  simp only[a1T];intro hv;exact h (a1L.2 ⟨e,he,hv⟩)]
 rfl
abbrev akt:PV aF:=.agg [.nil .slc,.nil .slc,.nil .slc,.nil .slc,.nil .fn]
abbrev a7J(J:Jb)(f:Nat)(a b:Nat):PV aF:=.agg [lI J.s,lI J.o,.own a,.own b,.fn f [] []]
abbrev HO(D:List Dg)(g:List Int):List (PB aF):=[.list true true 26 D,.list true true 3 g]
theorem a3s{P:Dg->Prop}{d:Dg}(h:P d):∀x∈[d],P x:=fun x hx=>by rw[a2J.1 hx];exact h
theorem aku{n:Nat}(hO:Ok n XQ){d:Dg}{v:V}(hp:rP d)(e1:(bT [d] != 0)=true):aV X0 Qp (bP (n+1)) (.fn 86 [] []) [.agg d.ps,.agg v.ps] [] (.dG [akt,.int .i64 (bT [d])]) []:=by
 have h1:∀x∈[d],rP x:=a3s hp;have h3:0<[d].length∧[d].length<=ah:=⟨by simp,a3r⟩;exact aV.drop hX (qU hX hO (first:=[]) (cap:=[]) (H1:=[.list true true 26 [d]]) (by kernel_rfl) (.o h1 (.o h3 (.b e1 .er)))) rfl rfl
theorem akv{n:Nat}(hO:Ok n XQ){d:Dg}{v:V}(hp:rP d)(e1:(bT [d] != 0)=false)(e2:(iV v != 0)=true):aV X0 Qp (bP (n+1)) (.fn 86 [] []) [.agg d.ps,.agg v.ps] [] (.dG [akt,.int .i64 4]) []:=by
 have h1:∀x∈[d],rP x:=a3s hp;have h3:0<[d].length∧[d].length<=ah:=⟨by simp,a3r⟩;exact aV.drop hX (qU hX hO (first:=[]) (cap:=[]) (H1:=[.list true true 26 [d]]) (by kernel_rfl) (.o h1 (.o h3 (.b e1 (.b e2 .er))))) rfl rfl
theorem akw{n:Nat}(h2:2<=n)(Ai:Ok n XQ)(hO:∀m,n-2<=m->Ok m qx){d:Dg}{v:V}(hp:rP d)(e1:(bT [d] != 0)=false)(e2:(iV v != 0)=false):aV X0 Qp (bP (n+1)) (.fn 86 [] []) [.agg d.ps,.agg v.ps] [] (.dG [a7J (dH [d]) 79 0 1,.int .i64 0]) (HO [d] (dH [d]).g):=by
 have h1:∀x∈[d],rP x:=a3s hp;have h3:0<[d].length∧[d].length<=ah:=⟨by simp,a3r⟩;have hJ:jL (dH [d]):=yF (D:=[d]) (by simp) (by simp) h1 (by simpa using e1);have s1:=Jl (n:=n) (f:=79) h2 hO (D:=[d]) (by simp) hJ.eu.len (k:=true) (ex:=true);have h:aV X0 Qp (bP (n+1)) (.fn 86 [] []) [.agg d.ps,.agg v.ps] [] (.dG [a7J (dH [d]) 79 1 2,.int .i64 0]) [.list true true 26 [d],.list true true 26 [d],.list true true 3 (dH [d]).g]:=fM Ai (first:=[]) (cap:=[]) (.o h1 (.o h3 (.b e1 (.b e2 (.fr [1] s1 .er)))));exact aV.gs hX h [.gc [1,2]] rfl
theorem wU(J:Jb):((dF J).map (·.1)).Nodup:=(((pW XJ (Au (nO J))).map (·.1)).nodup_iff).2 (Fj (nO J)).1
theorem JY(φ:V->Int)(J:Jb):dB φ (dF J)=dS φ (nO J):=by
 unfold dF;rw[a3a φ (pW XJ (Au (nO J))),Sr]
theorem XR{α:Type}:∀l:List α,dS (fun _=>1) l=(l.length:Int)
 | []=>rfl
 |a::l=>by
  have:=XR l;simp only[dS,a3J];omega
theorem SH{J:Jb}(hJ:jL J):Jj (dF J):=by
 refine⟨fun e he=>(Fj (nO J)).2 e ((pW XJ (Au (nO J))).mem_iff.1 he),?_⟩;rw[JY,XR];have h1:(nO J).length<=(Eb J).length:=by
  unfold nO UR;rw[a3Q];exact a4p (a8E _ _) (by rw[a3Q];exact a1J _)
 have h2:(Eb J).length<=Fb J.s:=a4p (a8E _ _) (by rw[a3Q,a8r];exact a1J _);have h3:=hJ.eu.aei;have h4:=hJ.eu.many;omega
def uM(p:Dg×V):Int×Int:=if(bT [p.1] != 0)=true then(0,bT [p.1])else if(iV p.2 != 0)=true then(0,4)else(look (dF (dH [p.1])) p.2,0)
def afv:eU aF:=bZ 27 (a2 dA vA) (dK (a2 iA iA)) uM (fun p=>[rP p.1]) XQ
theorem aps:Gd afv:=Good.WC 24 acT JV fun n hn hO FK p hp=>by
 obtain⟨d,v⟩:=p;have h1:rP d:=hp _ (.head _);obtain⟨n,rfl⟩:∃k,n=k+1:=⟨n-1,by omega⟩;have Ai:=hO (n+1) (by omega);cases e1:(bT [d] != 0)
 .cases e2:(iV v != 0)
  .have s1:=akw (n:=n) (by omega) (hO n (by omega)) (fun m hm=>FK m (by omega)) h1 e1 e2;have hJ:jL (dH [d]):=yF (D:=[d]) (by simp) (by simp) (a3s h1) (by simpa using e1);have s2:=a7I (k:=true) (ex:=true) (k2:=true) (KL:=true) (P9 hJ (n:=n-1) (f:=79) (FK _ (by omega)) (show 0<[d].length by simp));rw[show n-1+2=n+1 by omega]at s2;show nR X0 Qp _ _ _ ((dK (a2 iA iA)).put (if(bT [d] != 0)=true then(0,bT [d])else if(iV v != 0)=true then(0,4)else(look (dF (dH [d])) v,0))) _;rw[e1,e2];rcases Hy (wU (dH [d])) v with hf|⟨hz,hf⟩
   .exact aK Ai (.fr [] s1 (.b (rfl:((0:Int) != 0)=false) (.fr [0,1] s2 (.c (.int .i64 (look (dF (dH [d])) v)) [] hf .rr))))
   .rw[hz];exact aK Ai (.fr [] s1 (.b (rfl:((0:Int) != 0)=false) (.fr [0,1] s2 (.a .calm (.o hf .rr)))))
  .have s1:=akv (n:=n) (hO n (by omega)) h1 e1 e2;show nR X0 Qp _ _ _ ((dK (a2 iA iA)).put (if(bT [d] != 0)=true then(0,bT [d])else if(iV v != 0)=true then(0,4)else(look (dF (dH [d])) v,0))) _;rw[e1,e2];exact aK Ai (.fr [] s1 (.b (rfl:((4:Int) != 0)=true) .rr))
 .have s1:=aku (n:=n) (v:=v) (hO n (by omega)) h1 e1;show nR X0 Qp _ _ _ ((dK (a2 iA iA)).put (if(bT [d] != 0)=true then(0,bT [d])else if(iV v != 0)=true then(0,4)else(look (dF (dH [d])) v,0))) _;rw[a0V e1];exact aK Ai (.fr [] s1 (.b e1 .rr))
open Go Tw Pv cO
structure An where
 q:Int
 none:Bool
 yes:Bool
 n:Int
 lo:Int
 hi:Int
 fault:Bool
 set:List Int
deriving DecidableEq
abbrev An0:An:=⟨0,false,false,0,0,0,false,[]⟩
def akx:Ar X0 Qp Unit where
 put _:=.nil .slc
 get v:=match v with
  |.nil .slc=>some ()
  |_=>none
 ok:=by
  intro v a hg A m h x hv;split at hg
  .exact hv
  .cases hg
def V9:Arg An:=ae7 (a5H (KA uA (KA tA (KA tA (KA iA (KA iA (a4 iA tA qB akx)))))))
 (fun p=>⟨p.1,p.2.1,p.2.2.1,p.2.2.2.1,p.2.2.2.2.1,p.2.2.2.2.2.1,p.2.2.2.2.2.2.1,p.2.2.2.2.2.2.2.1⟩) (fun a=>(a.q,a.none,a.yes,a.n,a.lo,a.hi,a.fault,a.set,())) fun _=>rfl
abbrev anW(a:An)(s:PV aF):PV aF:=.agg [.int .u8 a.q,.bool a.none,.bool a.yes,.int .i64 a.n,.int .i64 a.lo,.int .i64 a.hi,.bool a.fault,s,.nil .slc]
theorem rA(a:An)(h:a.set=[])(e:Int):Fp (Γ:=X0.Γ) (Is (X:=X0) (P:=Qp) (dK (a2 V9 iA)) (a,e)) .n (.ret (some (.dG [anW a (.nil .slc),.int .i64 e]))):=by
 obtain⟨q,no,y,n,l,hi,f,s⟩:=a;cases h;have h:(dK (a2 V9 iA)).get (.dG [anW ⟨q,no,y,n,l,hi,f,[]⟩ (.nil .slc),.int .i64 e])=some (⟨q,no,y,n,l,hi,f,[]⟩,e):=rfl;exact Fp.rn (X:=X0) (P:=Qp) _ h
def a7K(q:Int)(t:List (V×Int)):An×Int:=
 if(q==1)=true then(⟨q,false,look t l7==dB (fun _=>1) t,0,0,0,false,[]⟩,0)
 else if(q==2)=true then(⟨q,false,decide (look t l7>0),0,0,0,false,[]⟩,0)
 else if(q==3)=true then(⟨q,false,false,look t l7,0,0,false,[]⟩,0)
 else if(q==4)=true then(if lC t=[]then(⟨q,true,false,0,0,0,uz t,[]⟩,0)else(⟨q,((lC t).length:Int)==0,false,0,(lC t).getD 0 0,(lC t).getD (i64.wrap ((lC t).length-1)).toNat 0,uz t,[]⟩,0))
 else(⟨q,false,false,0,0,0,uz t,lC t⟩,0)
def Fz(q:Int)(t:List (V×Int)):An×Int:=if t=[]then(⟨q,true,false,0,0,0,false,[]⟩,0)else a7K q t
def a1x(p:Int×Dg×Dg):An×Int:=if(bT [p.2.1,p.2.2] != 0)=true then(An0,bT [p.2.1,p.2.2])else if decide (p.1<1)=true then(An0,2)else if decide (p.1>5)=true then(An0,2)else Fz p.1 (dF (dH [p.2.1,p.2.2]))
def a7L:eU aF:=bZ 33 (a3 uA dA dA) (dK (a2 V9 iA)) a1x (fun p=>[rP p.2.1,rP p.2.2]) afv
theorem afw{t:List (V×Int)}(h:Jj t):(lC t).length<=2000:=by
 unfold lC;rw[show ∀l:List Int,(gy l).length=l.length from fun l=>(aez l _).length_eq,a3Q];exact a4p (a8E _ _) h.len
abbrev HMt(t:List (V×Int)):List (PB aF):=[.map (kV.im t)]
abbrev HMn(t:List (V×Int)):List (PB aF):=[.map (kV.im t),.list false false 3 (lC t)]
section
variable {n:Nat} {q:Int} {d e:Dg} (hO:Ok n afv) (h1:∀ x∈[d,e],rP x) (e1:(bT [d,e] != 0)=false) (e2:decide (q<1)=false) (e3:decide (q>5)=false) {t:List (V×Int)} (ht:Jj t)
 (s1:aV X0 Tryz.prog (bP n) (.fn 78 [] []) [.fn 79 [] [],.own 0] [.list true true 26 [d,e]] (a7J (dH [d,e]) 79 0 1) (HO [d,e] (dH [d,e]).g))
 (s2:aV X0 Tryz.prog (bP n) (.fn 87 [] []) [a7J (dH [d,e]) 79 0 1] (HO [d,e] (dH [d,e]).g) (.map 2) [.gone,.gone,.map (kV.im t)])
 (s3:aV X0 Tryz.prog (bP n) (.fn 90 [] []) [.map 0] [.iy (kV.im t)] (.int .i64 (dB (fun _=>1) t)) [.iy (kV.im t)])
 (s4:lC t=[]->aV X0 Tryz.prog (bP n) (.fn 88 [] []) [.map 0] [.iy (kV.im t)] (.dG [.nil .slc,.bool (uz t)]) [.iy (kV.im t)])
 (s5:lC t≠[]->aV X0 Tryz.prog (bP n) (.fn 88 [] []) [.map 0] [.iy (kV.im t)] (.dG [.own 1,.bool (uz t)]) [.iy (kV.im t),.list false false 3 (lC t)])
include hO h1 e1 e2 e3 s1 s2
theorem aaE(h:t=[]):nR X0 Qp (bP (n+1)) 33 ((a3 uA dA dA).put (q,d,e)) ((dK (a2 V9 iA)).put (⟨q,true,false,0,0,0,false,[]⟩,0)) []:=by
 subst h;have h3:0<[d,e].length∧[d,e].length<=ah:=⟨by simp,aaD⟩;exact aK hO (.o h1 (.o h3 (.b e1 (.b e2 (.b e3 (.fr [1] s1 (.fr [1,2] s2 (.b (show(((kV.im ([]:List (V×Int))).length:Int)==0)=true from rfl) (rA _ rfl _)))))))))
variable (hd:(t.map (·.1)).Nodup)
include ht s3 s4 s5 hd
theorem a7M(h:t≠[]):nR X0 Qp (bP (n+1)) 33 ((a3 uA dA dA).put (q,d,e)) ((dK (a2 V9 iA)).put (a7K q t)) []:=by
 have h3:0<[d,e].length∧[d,e].length<=ah:=⟨by simp,aaD⟩;have hl:(((kV.im t).length:Int)==0)=false:=by
  rw[kV.oQ];cases t with
  |nil=>exact absurd rfl h
  |cons a r=>exact bne (by simp only[a3J];omega)
 have Tn:=afw ht;have s0:aV X0 Qp (bP n) (.fn 89 [] []) [] [] (.agg l7.ps) []:=nR.Zk hX (first:=[]) (cap:=[]) (hO 89 [] (vA.put l7) [] [] (by kernel_rfl) (fun p h=>by cases h)) rfl rfl rfl rfl;unfold a7K;by_cases hn:lC t=[]
 .rw[a0V hn];rcases Hy hd l7 with hf|⟨hz,hf⟩
  .exact aK hO (.o h1 (.o h3 (.b e1 (.b e2 (.b e3 (.fr [1] s1 (.fr [1,2] s2 (.b hl (.PZ (H2:=HMt t) [3] [0] (s4 hn) (.ss (.fr [] s0 (.c (.int .i64 (look t l7)) [] hf (.PZ (H2:=HMt t) [3] [0] s3 (rA _ rfl _)))) (.ss (.fr [] s0 (.c (.int .i64 (look t l7)) [] hf (rA _ rfl _))) (.ss (.fr [] s0 (.c (.int .i64 (look t l7)) [] hf (rA _ rfl _))) (.ss (.b (c:=!((0:Int)==0)) (t:=false) rfl (rA _ rfl _)) (rA ⟨q,false,false,0,0,0,uz t,lC t⟩ hn _))))))))))))))
  rw[hz];exact aK hO (.o h1 (.o h3 (.b e1 (.b e2 (.b e3 (.fr [1] s1 (.fr [1,2] s2 (.b hl (.PZ (H2:=HMt t) [3] [0] (s4 hn) (.ss (.a .calm (.o hf (.PZ (H2:=HMt t) [3] [0] s3 (rA _ rfl _)))) (.ss (.a .calm (.o hf (rA _ rfl _))) (.ss (.a .calm (.o hf (rA _ rfl _))) (.ss (.b (c:=!((0:Int)==0)) (t:=false) rfl (rA _ rfl _)) (rA ⟨q,false,false,0,0,0,uz t,lC t⟩ hn _))))))))))))))
 rw[a0S hn];have hp:0<(lC t).length:=aaY.2 hn;have hb:(!(((lC t).length:Int)==0))=true:=by rw[bne (by omega)];rfl
 have i0:gW 0 (lC t).length:=aH hp;have i1:gW (i64.wrap ((lC t).length-1)) (lC t).length:=by
  rw[wrap_small (by omega) (by omega)];exact⟨by omega,by omega⟩
 rcases Hy hd l7 with hf|⟨hz,hf⟩
 .exact aK hO (.o h1 (.o h3 (.b e1 (.b e2 (.b e3 (.fr [1] s1 (.fr [1,2] s2 (.b hl (.PZ (H2:=HMn t) [3] [0] (s5 hn) (.ss (.fr [] s0 (.c (.int .i64 (look t l7)) [] hf (.PZ (H2:=HMt t) [3] [0] s3 (rA _ rfl _)))) (.ss (.fr [] s0 (.c (.int .i64 (look t l7)) [] hf (rA _ rfl _))) (.ss (.fr [] s0 (.c (.int .i64 (look t l7)) [] hf (rA _ rfl _))) (.ss (.b hb (.o i0 (.o i1 (rA _ rfl _)))) .rr)))))))))))))
 rw[hz];exact aK hO (.o h1 (.o h3 (.b e1 (.b e2 (.b e3 (.fr [1] s1 (.fr [1,2] s2 (.b hl (.PZ (H2:=HMn t) [3] [0] (s5 hn) (.ss (.a .calm (.o hf (.PZ (H2:=HMt t) [3] [0] s3 (rA _ rfl _)))) (.ss (.a .calm (.o hf (rA _ rfl _))) (.ss (.a .calm (.o hf (rA _ rfl _))) (.ss (.b hb (.o i0 (.o i1 (rA _ rfl _)))) .rr)))))))))))))
end
theorem aky:Gd a7L:=Good.WC 24 aps JV fun n hn hO FK p hp=>by
 obtain⟨q,d,e⟩:=p;have h1:∀x∈[d,e],rP x:=aaC (hp _ (.head _)) (hp _ (.tail _ (.head _)));have h3:0<[d,e].length∧[d,e].length<=ah:=⟨by simp,aaD⟩;have Ai:=hO n (by omega);show nR X0 Qp _ _ _ ((dK (a2 V9 iA)).put (if(bT [d,e] != 0)=true then(An0,bT [d,e])else if decide (q<1)=true then(An0,2)else if decide (q>5)=true then(An0,2)else Fz q (dF (dH [d,e])))) _;cases e1:(bT [d,e] != 0)
 .cases e2:decide (q<1)
  .cases e3:decide (q>5)
   .have hJ:=yF (D:=[d,e]) (by simp) (by simp) h1 (by simpa using e1);have ht:=SH hJ;have s1:=Jl (n:=n) (f:=79) (by omega) (fun m hm=>FK m (by omega)) (D:=[d,e]) (by simp) hJ.eu.len (k:=true) (ex:=true);have s2:=a7I (k:=true) (ex:=true) (k2:=true) (KL:=true) (P9 hJ (n:=n-2) (f:=79) (FK _ (by omega)) (show 0<[d,e].length by simp));have s3:=ap8 (n:=n-1) ht;have s4:=(acR (n:=n-2) ht).1;have s5:=(acR (n:=n-2) ht).2;rw[show n-2+2=n by omega]at s2 s4 s5;rw[show n-1+1=n by omega]at s3;show nR X0 Qp _ _ _ ((dK (a2 V9 iA)).put (Fz q (dF (dH [d,e])))) _;unfold Fz;by_cases h:dF (dH [d,e])=[]
    .rw[a0V h];exact aaE Ai h1 e1 e2 e3 s1 s2 h
    .rw[a0S h];exact a7M Ai h1 e1 e2 e3 ht s1 s2 s3 s4 s5 (wU _) h
   .exact aK Ai (.o h1 (.o h3 (.b e1 (.b e2 (.b e3 (rA _ rfl _))))))
  .exact aK Ai (.o h1 (.o h3 (.b e1 (.b e2 (rA _ rfl _)))))
 .exact aK Ai (.o h1 (.o h3 (.b e1 (rA _ rfl _))))
open Go Tw Pv cO
section
variable {n:Nat} {t:List (V×Int)} (h:Jj t) (ht:t≠[])
theorem akz{k:Bool}:aV X0 Qp (bP (n+1)) (.fn 96 [] []) [.map 0] [.map (kV.im t)] vF [.map (kV.im t),.cells [.map 0]]:=
 fM fQ (first:=[]) (cap:=[]) .er
include h ht
theorem akA:aV X0 Qp (bP (n+3)) (.fn 95 [] []) [vF] [.iy (kV.im t),.aC [.map 0]] (.slc 2 0 t.length t.length 1 false) [.iy (kV.im t),.aC [.map 0],.mg ((rH t).map KJ)]:=by
 have h1:=aar (n:=n) h ht;exact fM fQ (first:=[]) (cap:=[]) (.k h1 .er)
omit ht in
theorem a7N:(rH t).length=t.length:=by
 unfold rH;rw[(pW _ _).length_eq,a3Q]
theorem akB:aV X0 Qp (bP (n+1)) (.fn 94 [] []) [.slc 0 0 t.length t.length 1 false] [.mg ((rH t).map KJ)] (.int .i64 (Pj (rH t))) [.mg ((rH t).map KJ)]:=by
 have hl:=a7N h;have h0:rH t≠[]:=fun e=>ht (a7O.1 (by rw[<-hl,e];rfl));have:=akc (n:=n) h0 (by rw[hl];exact h.len)
 rwa [hl]at this
end
end Go.Proofs.YtmobpoiejckagaaGreat
namespace Pv
open Go Tw
section
variable {X:kC} {P:Program}
theorem aV.lend(hX:bK X P){call:aY}{f:FuncId}{cs ws rest xs:List (PV X.Γ)}{H:List (PB X.Γ)}{es:List (PV X.Γ×PV X.Γ)}(is:List Nat)(hs:aV X P call (.fn f [] []) (.agg (ws++rest)::xs) (aX is H) (.map H.length) (aX is H++[.map es]))
  (hv:views H cs=some ws) (ho:∀i,i∈kF.jR cs->i∈is) (hg:aX is H=List.replicate H.length .gone):aV X P call (.fn f [] []) (.agg (cs++rest)::xs) H (.map H.length) (H++[.map es]):=by
 intro A m h tf rO hr hf hx;obtain⟨x0,r,rfl,v0,vr⟩:=hx.inv;cases v0 with
 |gone hi _ _=>simp[bg]at hi
 |agg a1 a2=>
  rename_i cs';have ha:bU X P (AA A m) m h (cs++rest) cs':=⟨a1,a2⟩;obtain⟨c1,c2,rfl,b1,b2⟩:=DT ha;have hF:=gY (h:=h) is m;have w1:=(kU (m':=bQ is m) hX hr b1 hv ho).mono fun b hb=>FA.gone hr hb;have w2:=b2.step hF.1 hF.2;have w3:=w1.app w2;have YS:=hr.aX is;obtain⟨w,h',Tj,m1,k1,k2,k3,k4,k5,k6⟩:=hs A (bQ is m) h tf (.agg (c1++c2)::r) YS (hf.step hF.1 hF.2) (.cons (.agg w3.1 w3.2) (vr.step hF.1 hF.2));have e0:∀b,b∉bn (bQ is m):=fun b hb=>by
   unfold bn at hb;obtain⟨mb,h1,h2⟩:=a6M.1 hb;obtain⟨i,hi,e⟩:=aaZ h1;have Kq:i<H.length:=by have:=YS.len;rw[nC]at this;omega
   obtain⟨mb2,g1,g2⟩:=YS.at_ i .gone (by rw[hg,acQ,a0V Kq]);rw[a0E hi,e]at g1;cases g1;cases mb with
   |gone=>cases h2
   |_=>exact g2.elim
  obtain⟨mb,g1,g2⟩:=k2.at_ H.length (.map es) (by rw[a1H (by rw[nC];exact a1J _),nC];simp);cases mb with
  |fP c=>
   have hc:c∈bn m1:=a6M.2 ⟨_,a4b g1,rfl⟩;have I4:h.length<=c:=(k4.new c hc).resolve_left (e0 c);have xM:bn (m++[.fP c])=bn m++[c]:=by unfold bn;rw[List.filterMap_append];rfl
   have hF2:Fr m h (m++[.fP c]) h':=⟨k4.len,fun b hb _=>k4.same b hb (e0 b),fun b hb=>by
    rw[xM]at hb;rcases a3y.1 hb with hb|hb
    .exact .inl hb
    .rw[a2J.1 hb];exact .inr I4,k4.grow⟩
   have hU2:Up m (m++[.fP c]):=fun i mb hi=>.inl (by rw[a0N (a02.1 hi).1];exact hi);have hm:(m++[MB.fP c])[H.length]? = some (.fP c):=by rw[<-hr.len];simp
   refine⟨w,h',Tj,m++[.fP c],k1,⟨by simp[hr.len],fun i b hi=>?_,?_,k2.up,fun b hb=>?_⟩,?_,hF2,hU2,fun b hb=>absurd (k6 b hb) (e0 b)⟩
   .by_cases aQ:i<H.length
    .rw[a0N aQ]at hi;obtain⟨mb,q1,q2⟩:=hr.at_ i b hi;exact⟨mb,by rw[a0N (by rw[hr.len];exact aQ)];exact q1,q2.step hF2 hU2 fun d hd=>k4.same d (BR.has q2 hd) (e0 d)⟩
    .have Kq:i=H.length:=by
      have:=(a02.1 hi).1;rw[a2m,a3G]at this;omega
     subst Kq;rw[a1H (a1J _)]at hi;simp at hi;subst hi;exact⟨_,hm,g2⟩
   .rw[xM];refine a8l.2 ⟨hr.nodup,by simp,fun a ha b hb=>?_⟩;rw[a2J.1 hb];have:=hr.inb ha;omega
   .rw[xM]at hb;rcases a3y.1 hb with hb|hb
    .exact hr.Cm b hb
    .rw[a2J.1 hb];exact k2.Cm c hc
   .cases k3 with
    |map e=>rw[g1]at e;cases e;exact .map hm
    |gone hi e o=>simp only[bg,a01]at hi;subst hi;rw[g1]at e;cases e
  |_=>exact g2.elim
variable {A:Nat->Prop} {m m':List MB} {H:List (PB X.Γ)} {h:List HB}
theorem aaF(hX:bK X P){k:Bool}{t i:Nat}{l:List (X.Γ t)}{x:TV}(hl:LR X P (AA A m) m h k true t l x)(hi:m[i]? = some (.dn x)){is:List Nat}(hs:i∈is):VR X P (FA A m is) m' h (.dn t l true) x:=by
 cases hl with
 |nil=>exact .o7
 |emp h0 h1 h2 h3 h4=>exact .dn (.inl h0) h1 (fun e=>absurd rfl e) h3 h4 (by simpa using h2) (a1J _) (fun _=>⟨rfl,rfl⟩) (fun j a hj=>by simp at hj) (fun j a i c v hj=>by simp at hj)
 |some h1 h2 h3 h4 h5 h6 h7 h8 h9=>
  refine .dn (cs:=_) (.inr ⟨i,_,hs,hi,?_⟩) (by unfold aU;rw[h4]) (fun _=>wu h4 (by omega)) h2 h3 (by omega) (a1J _) (fun _=>⟨h7 rfl,rfl⟩) h9.1 ?_
  .simp only[MB.own];rw[a0S (by simpa using h1)]
  intro j a q c v e1 e2 e3;exact((h9.2.2 j a q c v e1 e2 e3).mono fun b hb=>.inl hb).iY hX (eX (hX.iY _ _) e2)
theorem aV.full(hX:bK X P){call:aY}{fv v:PV X.Γ}{xs:List (PV X.Γ)}{H H1:List (PB X.Γ)}{i t:Nat}{k:Bool}{l:List (X.Γ t)}(hk:H[i]? = some (.list k true t l))(hs:aV X P call fv (.dn t l true::xs) (aX [i] H) v H1):aV X P call fv (.own i::xs) H v H1:=by
 intro A m h tf rO hr hf hx;obtain⟨x0,r,rfl,v0,vr⟩:=hx.inv;obtain⟨mb,g1,g2⟩:=hr.at_ i _ hk;cases mb with
 |dn y=>
  have hy:x0=y:=by
   cases v0 with
   |own e _=>rw[g1]at e;cases e;rfl
   |gone hi e _=>simp only[bg,a01]at hi;subst hi;rw[g1]at e;cases e
  subst hy;have hF:=gY (h:=h) [i] m;have w1:VR X P (AA A (bQ [i] m)) (bQ [i] m) h (.dn t l true) x0:=(aaF (m':=bQ [i] m) hX g2 g1 (is:=[i]) (by simp)).mono fun b hb=>FA.gone hr hb;obtain⟨w,h',Tj,m1,k1,k2,k3,k4,k5,k6⟩:=hs A (bQ [i] m) h tf (x0::r) (hr.aX [i]) (hf.step hF.1 hF.2) (.cons w1 (vr.step hF.1 hF.2));refine⟨w,h',Tj,m1,k1,k2,k3,hF.1.trans k4,hF.2.trans k5,fun b hb=>?_⟩;rcases hF.1.new b (k6 b hb)with g|g
  .exact g
  have:=(hr.aX [i]).inb (k6 b hb);omega
 |_=>exact g2.elim
end
end Pv
namespace Go.Proofs.YtmobpoiejckagaaGreat
open Go Tw Pv cO
abbrev lkC(no:Bool)(n:Int)(s:PV aF):List (PV aF):=[.int .u8 8,.bool no,.bool false,.int .i64 n,.int .i64 0,.int .i64 0,.bool false,s,.nil .slc]
abbrev wLk(l:List Dg)(d:Dg)(n:Int)(s:PV aF)(H:List (PB aF))(i:Int)(x:List (Nat×PE aF)):aS aF:=⟨[(3,.loc 0 0),(4,.loc 1 0),(31,.val (.dn 26 l true)),(32,xi l.length),(33,xi i)]++x,[d.ps,lkC false n s],H⟩
abbrev hLk(b:Int):List (PB aF):=[.list true true 3 ([b]:List Int)]
def akC(l:List Dg)(d:Dg)(i:Int)(x:List (Nat×PE aF)):Option (Int×Int)->aS aF
 |none=>wLk l d 0 (.nil .slc) [] i x
 |some (b,z)=>wLk l d z (.own 0) (hLk b) i x
def tLk(l:List Dg)(d:Dg)(k:Nat):List (V×Int):=dF (dH [l.getD k oH,d])
def mLk(l:List Dg)(d:Dg)(k:Nat):Int:=Pj (rH (tLk l d k))
def gLk(l:List Dg)(d:Dg)(k:Nat)(s:Option (Int×Int)):Option (Int×Int)⊕(Option (Int×Int)×Nat):=
 if tLk l d k=[]then .inr (s,k)else match s with
  |none=>.inl (some ((k:Int),mLk l d k))
  |some (b,z)=>if decide (mLk l d k<z)=true then .inl (some ((k:Int),mLk l d k))else .inl (some (b,z))
def zLk(l:List Dg)(d:Dg):Option (Int×Int)⊕(Option (Int×Int)×Nat)->Ex×aS aF
 |.inl s=>(.exit 1,akC l d l.length [(34,xl false)] s)
 |.inr (none,k)=>(.ret,⟨[(4,.loc 1 0),(5,xi 0)],[d.ps,lkC true 0 (.nil .slc),(l.getD k oH).ps],[]⟩)
 |.inr (some (b,z),k)=>(.ret,⟨[(4,.loc 1 0),(5,xi 0)],[d.ps,lkC true z (.own 0),(l.getD k oH).ps],hLk b⟩)
structure LkP(l:List Dg)(d:Dg):Prop where
 p:∀x∈l++[d],rP x
 g:∀x∈l++[d],DgG x∧x.ay=((l++[d]).getD 0 oH).ay∧x.aG=((l++[d]).getD 0 oH).aG
theorem LkP.j{l:List Dg}{d:Dg}(h:LkP l d){k:Nat}(hk:k<l.length):jL (dH [l.getD k oH,d]):=by
 have h1:=h.g (l.getD k oH) (a5u _ (gG hk));have h2:=h.g d (abj _ (a2J.2 rfl));exact acS (D:=[l.getD k oH,d]) (by simp) (by simp) (aaC (P:=fun x=>DgG x∧x.ay=(l.getD k oH).ay∧x.aG=(l.getD k oH).aG) ⟨h1.1,rfl,rfl⟩ ⟨h2.1,h2.2.1.trans h1.2.1.symm,h2.2.2.trans h1.2.2.symm⟩)
theorem lLk{n:Nat}(hn:24<=n)(hO:∀m,n-24<=m->Ok m qx){l:List Dg}{d:Dg}(h:LkP l d)(hl:l.length<=ah):Lp n 39 0 (wLk l d 0 (.nil .slc) [] 0 []) (zLk l d (lq (gLk l d) l.length 0 none)).1 (zLk l d (lq (gLk l d) l.length 0 none)).2:=by
 refine iR (st:=fun i s=>akC l d i [] s) (g:=gLk l d) (out:=zLk l d) (s0:=none) (fun k s=>k=0↔s=none) (by kernel_rfl) hl (by simp) (fun k s m hk hi ih=>?_) (fun s _=>?_)
 .have hJ:=h.j hk;have ht:Jj (tLk l d k):=SH hJ;have s1:=Jl (n:=n) (f:=79) (by omega) (fun m hm=>hO m (by omega)) (D:=[l.getD k oH,d]) (by simp) hJ.eu.len (k:=true) (ex:=true);have s2:=a7I (k:=true) (ex:=true) (k2:=true) (KL:=true) (P9 hJ (n:=n-2) (f:=79) (hO _ (by omega)) (show 0<[l.getD k oH,d].length by simp));rw[show n-2+2=n by omega]at s2
  change aV _ _ _ _ _ _ _ [.gone,.gone,.map (kV.im (tLk l d k))]at s2
  unfold gLk;by_cases h0:tLk l d k=[]
  .rw[a0V h0];rw[h0]at s2;have hz:(((kV.im ([]:List (V×Int))).length:Int)==0)=true:=rfl;rcases s with _|⟨b,z⟩
   .exact aN fQ (.b (bC hk) (.o (aH hk) (.fr [0] s1 (.fr [0,1] s2 (.b hz (.ouG [.gc []] nofun))))))
   exact aN fQ (.b (bC hk) (.o (aH hk) (.fr [1] s1 (.fr [1,2] s2 (.b hz (.ouG [.gc [0]] nofun))))))
  rw[a0S h0];have hz:(((kV.im (tLk l d k)).length:Int)==0)=false:=by
   rw[kV.oQ];exact bne (by have:=aaY.2 h0;omega)
  have s3:=akz (n:=n-1) (t:=tLk l d k) (k:=true);have s4:=akA (n:=n-3) ht h0;have s5:=akB (n:=n-1) ht h0;rw[show n-1+1=n by omega]at s3 s5;rw[show n-3+3=n by omega]at s4;rcases s with _|⟨b,z⟩
  .have hk0:k=0:=hi.2 rfl;have hb:((k:Int)==0)=true:=by rw[hk0];rfl
   exact aN fQ (.b (bC hk) (.o (aH hk) (.fr [0] s1 (.fr [0,1] s2 (.b hz (.fr [2] s3 (.PZ (H2:=[.map (kV.im (tLk l d k)),.cells [.map 0],.mg ((rH (tLk l d k)).map KJ)]) [2,3] [0,1] s4 (.fr [4] s5 (.b hb (.nxG [.gc [5]] (ih _ (by simp))))))))))))
  have hk0:k≠0:=fun e=>by cases hi.1 e
  have hb:((k:Int)==0)=false:=bne (by omega);exact aN fQ (.b (bC hk) (.o (aH hk) (.fr [1] s1 (.fr [1,2] s2 (.b hz (.fr [3] s3 (.PZ (H2:=[.map (kV.im (tLk l d k)),.cells [.map 0],.mg ((rH (tLk l d k)).map KJ)]) [3,4] [0,1] s4 (.fr [5] s5 (.b hb (.ls (.nxG [.gc [6]] (ih _ (by simp))) (.nxG [.gc [0]] (ih _ (by simp)))))))))))))
 rcases s with _|⟨b,z⟩
 .exact aN fQ (.b (fD l.length) (.ou nofun))
 exact aN fQ (.b (fD l.length) (.ou nofun))
theorem afy{n:Nat}{l:List Dg}:aV X0 Qp (bP (n+1)) (.fn 93 [] []) [.dn 26 l true] [] (.dn 26 l true) []:=fM fQ (first:=[]) (cap:=[]) (.o (rfl:((0:Nat):Int)=0) (.o (rfl:(l.length:Int)=(l.length:Int)) (.o (rfl:(l.length:Int)=(l.length:Int)) .er)))
def akD:Option (Int×Int)⊕(Option (Int×Int)×Nat)->An
 |.inl none=>⟨8,false,false,0,0,0,false,[]⟩
 |.inl (some (b,z))=>⟨8,false,false,z,0,0,false,[b]⟩
 |.inr (none,_)=>⟨8,true,false,0,0,0,false,[]⟩
 |.inr (some (b,z),_)=>⟨8,true,false,z,0,0,false,[b]⟩
def Mc(p:List Dg×Dg):An×Int:=if decide ((p.1.length:Int)>4)=true then(An0,5)else if(bT (p.1++[p.2]) != 0)=true then(An0,bT (p.1++[p.2]))else if((p.1.length:Int)==0)=true then(An0,7)else(akD (lq (gLk p.1 p.2) p.1.length 0 none),0)
theorem aaG{n:Nat}(hn:24<=n)(Ai:Ok n a7L)(FK:∀m,n-24<=m->Ok m qx){l:List Dg}{d:Dg}(h1:∀x∈l++[d],rP x)(h2:l.length<=1000):nR X0 Qp (bP (n+1)) 39 [.dn 26 l true,.agg d.ps] ((dK (a2 V9 iA)).put (Mc (l,d))) []:=by
 have hl:l.length<=ah:=by unfold ah;omega
 have h3:0<(l++[d]).length∧(l++[d]).length<=ah:=by rw[a2m,a3G];unfold ah;omega
 have h4:l.length+[d].length<=ah:=by rw[a3G];unfold ah;omega
 have h5:l=[]∨[d]≠[]:=.inr (by simp);have s0:=afy (n:=n-1) (l:=l);rw[show n-1+1=n by omega]at s0;show nR X0 Qp _ _ _ ((dK (a2 V9 iA)).put (if decide ((l.length:Int)>4)=true then(An0,5)else if(bT (l++[d]) != 0)=true then(An0,bT (l++[d]))else if((l.length:Int)==0)=true then(An0,7)else(akD (lq (gLk l d) l.length 0 none),0))) _;cases e1:decide ((l.length:Int)>4)
 .cases e2:(bT (l++[d]) != 0)
  .cases e3:((l.length:Int)==0)
   .have hk:LkP l d:=⟨h1,Zw h1 (by simpa using e2)⟩;have lp:=lLk (n:=n) hn FK hk hl;revert lp;rcases lq (gLk l d) l.length 0 none with(_|⟨b,z⟩)|⟨_|⟨b,z⟩,k⟩
    .intro lp;exact aK Ai (.b e1 (.fr [] s0 (.o h4 (.o h5 (.o h1 (.o h3 (.b e2 (.b e3 (.wG [.gc []] lp (rA ⟨8,false,false,0,0,0,false,[]⟩ rfl _))))))))))
    .intro lp;exact aK Ai (.b e1 (.fr [] s0 (.o h4 (.o h5 (.o h1 (.o h3 (.b e2 (.b e3 (.wG [.gc []] lp .rr)))))))))
    .intro lp;exact aK Ai (.b e1 (.fr [] s0 (.o h4 (.o h5 (.o h1 (.o h3 (.b e2 (.b e3 (.wG [.gc []] lp (rA ⟨8,true,false,0,0,0,false,[]⟩ rfl _))))))))))
    intro lp;exact aK Ai (.b e1 (.fr [] s0 (.o h4 (.o h5 (.o h1 (.o h3 (.b e2 (.b e3 (.wG [.gc []] lp .rr)))))))))
   exact aK Ai (.b e1 (.fr [] s0 (.o h4 (.o h5 (.o h1 (.o h3 (.b e2 (.b e3 (rA _ rfl _)))))))))
  exact aK Ai (.b e1 (.fr [] s0 (.o h4 (.o h5 (.o h1 (.o h3 (.b e2 (rA _ rfl _))))))))
 exact aK Ai (.b e1 (rA _ rfl _))
theorem akE{n:Nat}(hn:24<=n)(Ai:Ok n a7L)(FK:∀m,n-24<=m->Ok m qx){k:Bool}{l:List Dg}{d:Dg}(h1:∀x∈l++[d],rP x)(h2:l.length<=1000):aV X0 Qp (bP (n+1)) (.fn 39 [] []) [.own 0,.agg d.ps] [.list k true 26 l] ((dK (a2 V9 iA)).put (Mc (l,d))) [.gone]:=by
 have h:=nR.Zk hX (first:=[]) (cap:=[]) (xs:=[.dn 26 l true,.agg d.ps]) (aaG hn Ai FK h1 h2) rfl rfl rfl rfl;have h2:=aV.frame hX (ks:=[]) (H':=[.gone]) (Hp:=[]) (Py:=[]) (v':=(dK (a2 V9 iA)).put (Mc (l,d))) (fv':=.fn 39 [] []) (xs':=[.dn 26 l true,.agg d.ps]) h (by decide) rfl rfl rfl rfl rfl rfl rfl;exact aV.full hX (i:=0) (k:=k) (t:=26) (l:=l) rfl h2
open Go Tw Pv cO
def jg(d:Dg)(g:List Int):Jb:=⟨d.ay,d.aG,[d],g⟩
structure Zy(d:Dg)(g:List Int):Prop where
 len:g.length=d.ay.length
 v:∀c,gW c d.ay.length->0<=g.getD c.toNat 0->g.getD c.toNat 0<d.ay.getD c.toNat 0
theorem acU{d:Dg}(hJ:jL (dH [d])){g:List Int}(h:Zy d g):jL (jg d g):=⟨hJ.d3,hJ.eu,hJ.ord,fun k hk=>have h:=hJ.dg k hk;⟨h.t,h.n,h.s,h.o,h.rk,h.two⟩,h.len,h.v⟩
theorem Zy.set{d:Dg}{g:List Int}(h:Zy d g){c k:Nat}(hk:(k:Int)<d.ay.getD (c:Int).toNat 0):Zy d (g.set (c:Int).toNat (k:Int)):=by
 refine⟨by rw[a3W];exact h.len,fun c2 I4 h2=>?_⟩;by_cases e:(c:Int).toNat=c2.toNat
 .obtain⟨q0,q1⟩:=I4;rw[<-e,a3d,a1V (by rw[h.len];omega)];exact hk
 rw[a3d,a1M e,<-a3d]at h2 ⊢;exact h.v c2 I4 h2
theorem apx{d:Dg}(hJ:jL (dH [d])):Zy d (dH [d]).g:=⟨hJ.gl,hJ.gv⟩
abbrev jcF(d:Dg):List (PV aF):=[lI d.ay,lI d.aG,.own 0,.own 1,.fn 79 [] []]
abbrev hF(d:Dg)(g:List Int):List (PB aF):=[.list true true 26 [d],.list true true 3 g]
abbrev wFo(d:Dg)(v:V)(g:List Int)(c:Int)(x:List (Nat×PE aF)):aS aF:=⟨[(3,.loc 1 0),(6,.loc 2 0),(29,xL 3 d.ay),(30,xi d.ay.length),(31,xi c)]++x,[d.ps,v.ps,jcF d],hF d g⟩
abbrev wFi(d:Dg)(v:V)(g:List Int)(c:Int)(i:Int)(x:List (Nat×PE aF)):aS aF:=⟨[(3,.loc 1 0),(6,.loc 2 0),(8,xi c),(29,xL 3 d.ay),(30,xi d.ay.length),(31,xi c),(36,xi (d.ay.getD c.toNat 0)),(37,xi i)]++x,[d.ps,v.ps,jcF d],hF d g⟩
theorem acV{n f:Nat}{J:Jb}{k ex k2 KL:Bool}(h:aV X0 Qp (bP n) (.fn 87 [] []) [.agg (J.ps (.fn f [] []))] [] (.map 0) [.map (kV.im (dF J))]):aV X0 Qp (bP n) (.fn 87 [] []) [a7J J f 0 1] [.list k ex 26 J.D,.list k2 KL 3 J.g] (.map 2) [.list k ex 26 J.D,.list k2 KL 3 J.g,.map (kV.im (dF J))]:=by
 have h1:=aV.frame hX (ks:=[]) (H':=[.gone,.gone]) (Hp:=[]) (Py:=[.map (kV.im (dF J))]) (v':=.map 2) (fv':=.fn 87 [] []) (xs':=[.agg (J.ps (.fn f [] []))]) h (by decide) rfl rfl rfl rfl rfl rfl rfl;exact aV.lend hX (H:=[.list k ex 26 J.D,.list k2 KL 3 J.g]) (cs:=[lI J.s,lI J.o,.own 0,.own 1]) (rest:=[.fn f [] []]) [0,1] h1 rfl (fun i hi=>by simpa[kF.jR,kF]using hi) rfl
def lkF(d:Dg)(v:V)(g:List Int):Int:=look (dF (jg d g)) v
def gIn(d:Dg)(v:V)(c:Nat)(k:Nat)(g:List Int):List Int⊕(List Int×Nat):=if decide (lkF d v (g.set (c:Int).toNat (k:Int))>0)=true then .inr (g.set (c:Int).toNat (k:Int),k)else .inl (g.set (c:Int).toNat (k:Int))
def oIn:List Int⊕(List Int×Nat)->List Int
 |.inl g=>g
 |.inr r=>r.1
def nIn(d:Dg)(c:Nat):Nat:=(d.ay.getD (c:Int).toNat 0).toNat
def Pn(d:Dg)(v:V)(c:Nat)(g:List Int):List Int:=oIn (lq (gIn d v c) (nIn d c) 0 g)
def zFi(d:Dg)(v:V)(c:Nat):List Int⊕(List Int×Nat)->Ex×aS aF
 |.inl g=>(.exit 3,wFi d v g (c:Int) (nIn d c) [(38,xl false)])
 |.inr (g,k)=>(.exit 2,wFi d v g (c:Int) k [(49,xl true)])
theorem a7P{d:Dg}{v:V}{c:Nat}:∀(m k:Nat) (g:List Int),k+m<=nIn d c->Zy d g->Zy d (oIn (lq (gIn d v c) m k g))
 | 0,_,g,_,h=>h
 |m+1,k,g,hk,h=>by
  have h1:Zy d (g.set (c:Int).toNat (k:Int)):=h.set (by unfold nIn at hk;omega);simp only[lq,gIn];by_cases e:decide (lkF d v (g.set (c:Int).toNat (k:Int))>0)=true
  .rw[a0V e];exact h1
  rw[a0S e];exact a7P m (k+1) _ (by omega) h1
section
variable {n:Nat} (hn:24<=n) (hO:∀ m,n-24<=m->Ok m qx) {d:Dg} (hJ:jL (dH [d])) {v:V}
include hn hO hJ
theorem lFi{c:Nat}(hc:c<d.ay.length){g:List Int}(hg:Zy d g):Lp n 28 1 (wFi d v g (c:Int) 0 []) (zFi d v c (lq (gIn d v c) (nIn d c) 0 g)).1 (zFi d v c (lq (gIn d v c) (nIn d c) 0 g)).2:=by
 have hz:=hJ.eu.sz (d.ay.getD (c:Int).toNat 0) (dZ (show(c:Int).toNat<d.ay.length by simpa using hc));have hN:((nIn d c:Nat):Int)=d.ay.getD (c:Int).toNat 0:=by unfold nIn;omega
 refine iR (st:=fun i g=>wFi d v g (c:Int) i []) (g:=gIn d v c) (out:=zFi d v c) (s0:=g) (fun k g=>Zy d g) (by kernel_rfl) (by unfold ah;omega) hg (fun k g m hk hi ih=>?_) (fun g _=>?_)
 .have t1:decide ((k:Int)<d.ay.getD (c:Int).toNat 0)=true:=by rw[<-hN,a1T];omega
  have hg2:Zy d (g.set (c:Int).toNat (k:Int)):=hi.set (by rw[<-hN];omega);have i1:gW (c:Int) g.length:=by rw[hi.len];exact aH hc
  have s2:=acV (k:=true) (ex:=true) (k2:=true) (KL:=true) (P9 (acU hJ hg2) (n:=n-2) (f:=79) (hO _ (by omega)) (show 0<[d].length by simp));rw[show n-2+2=n by omega]at s2;unfold gIn lkF;rcases Hy (wU (jg d (g.set (c:Int).toNat (k:Int)))) v with hf|⟨hz2,hf⟩
  .exact aN fQ (.b t1 (.o i1 (.fr [0,1] s2 (.c (.int .i64 (look (dF (jg d (g.set (c:Int).toNat (k:Int)))) v)) [] hf (.ls (.ouG [.gc [0,1]] nofun) (.nxG [.gc [0,1]] (ih _ hg2)))))))
  rw[hz2];exact aN fQ (.b t1 (.o i1 (.fr [0,1] s2 (.a .calm (.o hf (.ls (.ouG [.gc [0,1]] nofun) (.nxG [.gc [0,1]] (ih _ hg2))))))))
 have t1:decide (((nIn d c:Nat):Int)<d.ay.getD (c:Int).toNat 0)=false:=by rw[<-hN];exact fD _
 exact aN fQ (.b t1 (.ou nofun))
set_option maxRecDepth 20000 in
theorem lFo:Lp n 28 0 (wFo d v (dH [d]).g 0 []) (.exit 1) (wFo d v (aW (Pn d v) d.ay.length 0 (dH [d]).g) d.ay.length [(32,xl false)]):=by
 have hl:d.ay.length<=ah:=by have:d.ay.length<=6:=hJ.eu.len;unfold ah;omega
 refine JJ (X:=X0) (N:=d.ay.length) (g:=Pn d v) (s0:=(dH [d]).g) (st:=fun c g=>wFo d v g c []) (fin:=fun g=>wFo d v g d.ay.length [(32,xl false)]) (fun _ g=>Zy d g) (by kernel_rfl) hl Qb (apx hJ) (fun c g hc hg=>a7P (nIn d c) 0 g (by omega) hg) (fun c g hc hg m e p g9=>?_) (fun g _=>?_)
 .have lp:=lFi hn hO hJ (v:=v) hc hg;unfold Pn at g9;revert lp g9;rcases lq (gIn d v c) (nIn d c) 0 g with g1|⟨g1,k⟩
  .intro g9 lp;exact aN fQ (.b (bC hc) (.o (aH hc) (.w lp (.go g9))))
  intro g9 lp;exact aN fQ (.b (bC hc) (.o (aH hc) (.w lp (.go g9))))
 exact aN fQ (.b (fD d.ay.length) .ex)
end
open Go Tw Pv cO
def jI(p:Dg×V):List Int×Int:=if(bT [p.1] != 0)=true then([],bT [p.1])else if(iV p.2 != 0)=true then([],4)else if(look (dF (dH [p.1])) p.2==0)=true then([],7)else(aW (Pn p.1 p.2) p.1.ay.length 0 (dH [p.1]).g,0)
def akF:eU aF:=bZ 28 (a2 dA vA) (dK (a2 qB iA)) jI (fun p=>[rP p.1]) a7L
theorem rF(e:Int):Fp (Γ:=X0.Γ) (Is (X:=X0) (P:=Qp) (dK (a2 qB iA)) (([]:List Int),e)) .n (.ret (some (.dG [.nil .slc,.int .i64 e]))):=by
 have h:(dK (a2 qB iA)).get (.dG [.nil .slc,.int .i64 e])=some (([]:List Int),e):=rfl;exact Fp.rn (X:=X0) (P:=Qp) _ h
theorem apz:Gd akF:=Good.acF 30 aky JV acT fun n hn hO FK hO3 p hp=>by
 obtain⟨d,v⟩:=p;have h1:rP d:=hp _ (.head _);obtain⟨n,rfl⟩:∃k,n=k+1:=⟨n-1,by omega⟩;have Ai:=hO (n+1) (by omega);show nR X0 Qp _ _ _ ((dK (a2 qB iA)).put (if(bT [d] != 0)=true then([],bT [d])else if(iV v != 0)=true then([],4)else if(look (dF (dH [d])) v==0)=true then([],7)else(aW (Pn d v) d.ay.length 0 (dH [d]).g,0))) _;cases e1:(bT [d] != 0)
 .cases e2:(iV v != 0)
  .have s1:=akw (n:=n) (by omega) (hO3 n (by omega)) (fun m hm=>FK m (by omega)) h1 e1 e2;have hJ:jL (dH [d]):=yF (D:=[d]) (by simp) (by simp) (a3s h1) (by simpa using e1);have s2:=acV (k:=true) (ex:=true) (k2:=true) (KL:=true) (P9 hJ (n:=n-1) (f:=79) (FK _ (by omega)) (show 0<[d].length by simp));rw[show n-1+2=n+1 by omega]at s2;have lp:=lFo (n:=n+1) (by omega) (fun m hm=>FK m (by omega)) hJ (v:=v);show nR X0 Qp _ _ _ ((dK (a2 qB iA)).put (if(look (dF (dH [d])) v==0)=true then([],7)else(aW (Pn d v) d.ay.length 0 (dH [d]).g,0))) _;rcases Hy (wU (dH [d])) v with hf|⟨hz,hf⟩
   .exact aK Ai (.fr [] s1 (.b (rfl:((0:Int) != 0)=false) (.fr [0,1] s2 (.c (.int .i64 (look (dF (dH [d])) v)) [] hf (.ss (rF _) (.wG [.gc [0,1]] lp .rr))))))
   .rw[hz];exact aK Ai (.fr [] s1 (.b (rfl:((0:Int) != 0)=false) (.fr [0,1] s2 (.a .calm (.o hf (.ss (rF _) (.wG [.gc [0,1]] lp .rr)))))))
  .have s1:=akv (n:=n) (v:=v) (hO3 n (by omega)) h1 e1 e2;exact aK Ai (.fr [] s1 (.b (rfl:((4:Int) != 0)=true) (rF _)))
 .have s1:=aku (n:=n) (v:=v) (hO3 n (by omega)) h1 e1;exact aK Ai (.fr [] s1 (.b e1 (rF _)))
end Go.Proofs.YtmobpoiejckagaaGreat
namespace Pv
open Go Tw
section
variable {X:kC} {P:Program}
theorem aV.cell1(hX:bK X P){call:aY}{fv v:PV X.Γ}{Rk ws1 cs VX ws2:List (PV X.Γ)}{H H1:List (PB X.Γ)}{i e sz:Nat}{row:X.Γ e}(is:List Nat)(hi:H[i]? = some (.cells cs))(hz:dw P e=some sz)(h0:0<sz)(hl:cs.length=sz)(YS:(X.enc e row).length=sz)
  (hs:aV X P call fv [.agg (ws1++(.dn e [row] false::ws2))] (aX (i::is) H) v H1) (v1:views H Rk=some ws1) (v2:views H cs=some (X.enc e row)) (v3:views H VX=some ws2)
  (o1:∀j,j∈kF.jR Rk->j∈i::is) (o2:∀j,j∈kF.jR cs->j∈i::is) (o3:∀j,j∈kF.jR VX->j∈i::is):aV X P call fv [.agg (Rk++(.slc i 0 1 1 sz true::VX))] H v H1:=by
 intro A m h tf rO hr hf hx;obtain⟨x0,r,rfl,v0,vr⟩:=hx.inv;cases v0 with
 |gone hi _ _=>simp[bg]at hi
 |agg a1 a2=>
  rename_i cs';have ha:bU X P (AA A m) m h (Rk++(.slc i 0 1 1 sz true::VX)) cs':=⟨a1,a2⟩;obtain⟨c1,c2,rfl,b1,b2⟩:=DT ha;obtain⟨y,c3,rfl,b3,b4⟩:=b2.inv;obtain⟨mb,g1,g2⟩:=hr.at_ i _ hi;cases mb with
  |fP b=>
   obtain⟨ts,g3,g4⟩:=g2;have hy:y=.slc b 0 1 1 sz true:=by
    cases b3 with
    |slc q=>rw[g1]at q;cases q;rfl
    |gone hi q _=>simp only[bg,a01]at hi;subst hi;rw[g1]at q;cases q
   subst hy;have hF:=gY (h:=h) (i::is) m;have w1:=(kU (m':=bQ (i::is) m) hX hr b1 v1 o1).mono fun b hb=>FA.gone hr hb;have w3:=(kU (m':=bQ (i::is) m) hX hr b4 v3 o3).mono fun b hb=>FA.gone hr hb;have w2:=kU (m':=bQ (i::is) m) hX hr g4 v2 o2;have hb:FA A m (i::is) b:=.inr ⟨i,_,a3u,g1,rfl⟩;have q2:VR X P (FA A m (i::is)) (bQ (i::is) m) h (.dn e [row] false) (.slc b 0 [row].length 1 sz true):=.dn (cs:=ts) hb (by unfold aU;rw[g3]) (fun _=>wz g3 (by simp)) hz h0 (by rw[<-g4.1,hl];simp) (a1J _) (fun e=>by cases e)
    (fun j a hj=>by
     cases j with
     |zero=>simp only[a2I,a01]at hj;subst hj;exact YS
     |succ j=>simp at hj) (fun j a q c w hj hq hw=>by
     cases j with
     |zero=>simp only[a2I,a01]at hj;subst hj;exact w2.2 q c w hq (by simpa using hw)
     |succ j=>simp at hj)
   have w4:=w1.app (.cons (q2.mono fun b hb=>FA.gone hr hb) w3);obtain⟨w,h',Tj,m1,k1,k2,k3,k4,k5,k6⟩:=hs A (bQ (i::is) m) h tf (.agg (c1++(.slc b 0 1 1 sz true::c3))::r) (hr.aX (i::is)) (hf.step hF.1 hF.2) (.cons (.agg w4.1 w4.2) (vr.step hF.1 hF.2));refine⟨w,h',Tj,m1,k1,k2,k3,hF.1.trans k4,hF.2.trans k5,fun b hb=>?_⟩;rcases hF.1.new b (k6 b hb)with g|g
   .exact g
   .have:=(hr.aX (i::is)).inb (k6 b hb);omega
  |_=>exact g2.elim
end
end Pv
namespace Go.Proofs.YtmobpoiejckagaaGreat
open Go Tw Pv cO
abbrev dz:List (PV aF):=[.nil .slc,.nil .slc,.nil .slc,.nil .slc,.int .i64 0]
abbrev cCh(s o:List Int):List (PV aF):=[lI s,lI o,.own 1,.slc 0 0 1 1 2 true,.int .i64 0]
abbrev hCh(c:Int)(x:List V×List Int):List (PB aF):=[.cells [.int .i64 c,.own 2],.list false false 39 x.1,.list false false 3 x.2]
abbrev wCh(s o:List Int)(c w n:Int)(y:List V×List Int)(i:Int)(x:List (Nat×PE aF)):aS aF:=⟨[(3,xi w),(8,.loc 0 0),(11,.loc 1 0),(47,xi n),(48,xi i)]++x,[dz,cCh s o],hCh c y⟩
def gCh(w:Int)(i:Nat)(y:List V×List Int):List V×List Int:=(y.1++[⟨0,i64.wrap (w+(i:Int))⟩],y.2++[i64.wrap (-1-(i:Int))])
def chE(w:Int)(n:Nat):List V:=(List.range n).map fun(i:Nat)=>(⟨0,i64.wrap (w+(i:Int))⟩:V)
def chK(n:Nat):List Int:=(List.range n).map fun(i:Nat)=>i64.wrap (-1-(i:Int))
theorem XT(w:Int):∀n,aW (gCh w) n 0 ([],[])=(chE w n,chK n)
 | 0=>rfl
 |n+1=>by
  rw[sW,XT w n,a3E];unfold gCh chE chK;rw[ad3,a3H,a3H];rfl
theorem lCh{n:Nat}{s o:List Int}{c w:Int}{z:Nat}(hz:z<=12)(h0:s.getD c.toNat 0=(z:Int)):Lp n 57 0 (wCh s o c w (s.getD c.toNat 0) ([],[]) 0 []) (.exit 0) (wCh s o c w (s.getD c.toNat 0) (chE w z,chK z) z [(49,xl false)]):=by
 rw[<-XT w z,h0];refine JJ (X:=X0) (N:=z) (g:=gCh w) (s0:=([],[])) (st:=fun i y=>wCh s o c w (z:Int) y i []) (fin:=fun y=>wCh s o c w (z:Int) y z [(49,xl false)]) (fun k y=>y.1.length=k∧y.2.length=k) (by kernel_rfl) (by unfold ah;omega) Qb ⟨rfl,rfl⟩ (fun k y hk hi=>?_) (fun k y hk hi m e p g9=>?_) (fun y _=>?_)
 .unfold gCh;simp[hi.1,hi.2]
 .obtain⟨E,K⟩:=y;have a1:E.length+[(⟨0,i64.wrap (w+(k:Int))⟩:V)].length<=ah:=by rw[a3G];have:E.length=k:=hi.1;unfold ah;omega
  have a2:K.length+[i64.wrap (-1-(k:Int))].length<=ah:=by rw[a3G];have:K.length=k:=hi.2;unfold ah;omega
  exact aN fQ (.b (bC hk) (.o a1 (.o a2 (.goG [.gc [0,4,6]] g9))))
 exact aN fQ (.b (fD z) .ex)
def chD(s o:List Int)(c w:Int)(z:Nat):Dg:=⟨s,o,chE w z,[⟨c,chK z⟩],0⟩
theorem aaH{n:Nat}(hO:Ok n a6Q){s o:List Int}{c:Int}{y:List V×List Int}(hd:let d:Dg:=⟨s,o,y.1,[⟨c,y.2⟩],0⟩;KF d∧d.ay.length<=ah∧d.aG.length<=2^20∧d.aO.length<=ah∧(((bD d).2 != 0)=false->ClP (bD d).1)) :
  aV X0 Qp (bP n) (.fn 108 [] []) [.agg (cCh s o)] (hCh c y) ((dK (a2 dA iA)).put (zq ⟨s,o,y.1,[⟨c,y.2⟩],0⟩)) [.gone,.gone,.gone]:=by
 obtain⟨h1,h2,h3,h4,h5⟩:=hd;have k0:aV X0 Qp (bP n) (.fn 108 [] []) [.agg (⟨s,o,y.1,[⟨c,y.2⟩],0⟩:Dg).ps] [] ((dK (a2 dA iA)).put (zq ⟨s,o,y.1,[⟨c,y.2⟩],0⟩)) []:=nR.Zk hX (first:=[]) (cap:=[]) (hO 108 [.agg (⟨s,o,y.1,[⟨c,y.2⟩],0⟩:Dg).ps] ((dK (a2 dA iA)).put (zq ⟨s,o,y.1,[⟨c,y.2⟩],0⟩)) [] _ (by kernel_rfl) (fun p h=>by
  rcases a2t.1 h with rfl|h
  .exact h1
  rcases a2t.1 h with rfl|h
  .exact h2
  rcases a2t.1 h with rfl|h
  .exact h3
  rcases a2t.1 h with rfl|h
  .exact h4
  rw[a2J.1 h];exact h5)) rfl rfl rfl rfl
 have k1:=aV.frame hX (ks:=[]) (H':=[.gone,.gone,.gone]) (Hp:=[]) (Py:=[]) (v':=(dK (a2 dA iA)).put (zq ⟨s,o,y.1,[⟨c,y.2⟩],0⟩)) (fv':=.fn 108 [] []) (xs':=[.agg (⟨s,o,y.1,[⟨c,y.2⟩],0⟩:Dg).ps]) k0 (by decide) rfl rfl rfl rfl rfl rfl rfl;exact aV.cell1 hX (H:=hCh c y) (Rk:=[lI s,lI o,.own 1]) (ws1:=[lI s,lI o,lV y.1]) (cs:=[.int .i64 c,.own 2]) (VX:=[.int .i64 0]) (ws2:=[.int .i64 0]) (i:=0) (e:=105) (sz:=2) (row:=(⟨c,y.2⟩:Br)) [1,2] rfl (by kernel_rfl) (by decide) rfl rfl k1 rfl rfl rfl (fun j hj=>by simp[kF.jR,kF]at hj ⊢;omega) (fun j hj=>by simp[kF.jR,kF]at hj ⊢;omega) (fun j hj=>by simp[kF.jR,kF]at hj)
open Go Tw Pv cO
theorem aaI(w:Int)(z:Nat):(chE w z).length=z:=by simp[chE]
theorem aaJ(z:Nat):(chK z).length=z:=by simp[chK]
structure ChP(s o:List Int)(c w:Int)(z:Nat):Prop where
 f:cZ s o=0
 ic:gW c s.length
 ez:s.getD c.toNat 0=(z:Int)
 z12:z<=12
 w0:-9999<=w
 w1:w+z<=10000
section
variable {s o:List Int} {c w:Int} {z:Nat} (h:ChP s o c w z)
include h
theorem aaK{v:V}(hv:v∈chE w z):∃j,j<z∧v=⟨0,w+(j:Int)⟩:=by
 unfold chE at hv;obtain⟨j,hj,rfl⟩:=a1L.1 hv;have:=a3R.1 hj;have:=h.w0;have:=h.w1;have:=h.z12;exact⟨j,by omega,by rw[wrap_small (by omega) (by omega)]⟩
theorem aaL{k:Nat}(hk:k<z):(chK z).getD k 0=-1-(k:Int):=by
 have:=h.z12;unfold chK;rw[a3d,a3V,agr hk];show i64.wrap (-1-(k:Int))=_;rw[wrap_small (by omega) (by omega)]
theorem afz:∀v∈chE w z,PG v:=fun v hv=>by
 obtain⟨j,hj,rfl⟩:=aaK h hv;have:=h.w0;have:=h.w1;exact yj.2 ⟨by show(0:Int)<=0;omega,by show(0:Int)<=4;omega,fun _=>⟨by show -9999<=w+(j:Int);omega,by show w+(j:Int)<=9999;omega⟩,fun hz=>absurd rfl hz⟩
theorem akG:KF (chD s o c w z):=⟨fun i hi k hk=>by
 have:i=0:=by have:i<1:=hi;omega
 subst this;have hk3:k<z:=by rw[<-aaJ z];exact hk
 show KE ((chK z).getD k 0);rw[aaL h hk3,<-wrap_small (z:=-1-(k:Int)) (by have:=h.z12;omega) (by omega)];exact Xn _,by show KE 0;rw[<-wrap_small (z:=0) (by omega) (by omega)];exact Xn _,fun v hv=>(afz h v hv).2⟩
theorem aaM:KF (chD s o c w z)∧(chD s o c w z).ay.length<=ah∧(chD s o c w z).aG.length<=2^20∧(chD s o c w z).aO.length<=ah∧(((bD (chD s o c w z)).2 != 0)=false->ClP (bD (chD s o c w z)).1):=by
 obtain⟨eu,ord⟩:=lU.1 h.f;have hr:=akG h;have h6:s.length<=6:=eu.len;have QC:o.length=s.length:=by unfold jX at ord;rw[a1T]at ord;exact ord.1
 have hl:=aaI w z;have hz:=h.z12;have e1:(chD s o c w z).aO.length+1<=ah:=by show(chE w z).length+1<=ah;rw[hl];unfold ah;omega
 have e2:(chD s o c w z).ay.length<=ah:=by show s.length<=ah;unfold ah;omega
 refine⟨hr,e2,by show o.length<=2^20;omega,by omega,fun h0=>?_⟩;obtain⟨q1,q2⟩:=wM hr e1 e2 (by show o.length<=ah;unfold ah;omega) (by simpa using h0);rw[q1];exact q2
end
def Po(p:List Int×List Int×Int×Int):Dg×Int:=if(cZ p.1 p.2.1 != 0)=true then(oH,cZ p.1 p.2.1)else if(!(LZ 0 (i64.wrap ((p.1.length:Int)-1)) p.2.2.1))=true then(oH,3)else if(!(LZ (-9999) (i64.wrap (i64.wrap (9999-p.1.getD p.2.2.1.toNat 0)+1)) p.2.2.2))=true then(oH,3)else zq (chD p.1 p.2.1 p.2.2.1 p.2.2.2 (p.1.getD p.2.2.1.toNat 0).toNat)
theorem afA{a b x:Int}(h:(!(LZ a b x))=false):a<=x∧x<=b:=by
 unfold LZ at h;by_cases h1:x>=a
 .simp[h1]at h;exact⟨h1,h⟩
 simp[h1]at h
theorem afB{s o:List Int}{c w:Int}(e1:(cZ s o != 0)=false)(hc:gW c s.length)(e3:(!(LZ (-9999) (i64.wrap (i64.wrap (9999-s.getD c.toNat 0)+1)) w))=false):ChP s o c w (s.getD c.toNat 0).toNat:=by
 have f:cZ s o=0:=by simpa using e1
 obtain⟨eu,ord⟩:=lU.1 f;have hz:=eu.sz (s.getD c.toNat 0) (dZ (show c.toNat<s.length by obtain⟨a,b⟩:=hc;omega));obtain⟨z0,z1⟩:=hz;obtain⟨w0,w1⟩:=afA e3;rw[wrap_small (z:=9999-s.getD c.toNat 0) (by omega) (by omega),wrap_small (by omega) (by omega)]at w1;exact⟨f,hc,by omega,by omega,w0,by omega⟩
def afC:eU aF:=bZ 57 (a4 qB qB iA iA) (dK (a2 dA iA)) Po (fun p=>[p.1.length<=ah,p.2.1.length<=2^20]) akF
theorem apC:Gd afC:=Good.WC 0 apz acI fun n hn hO FK p hp=>by
 obtain⟨s,o,c,w⟩:=p;have h1:s.length<=ah:=hp _ (.head _);have h2:o.length<=2^20:=hp _ (.tail _ (.head _));have hc:(!(LZ 0 (i64.wrap ((s.length:Int)-1)) c))=false->gW c s.length:=fun e2=>a7E e2 h1;have hP:=fun(e1:(cZ s o != 0)=false) (e2:(!(LZ 0 (i64.wrap ((s.length:Int)-1)) c))=false) (e3:(!(LZ (-9999) (i64.wrap (i64.wrap (9999-s.getD c.toNat 0)+1)) w))=false)=>afB e1 (hc e2) e3;have lp:=fun(e1:(cZ s o != 0)=false) (e2:(!(LZ 0 (i64.wrap ((s.length:Int)-1)) c))=false) (e3:(!(LZ (-9999) (i64.wrap (i64.wrap (9999-s.getD c.toNat 0)+1)) w))=false)=>lCh (n:=n) (s:=s) (o:=o) (c:=c) (w:=w) (hP e1 e2 e3).z12 (hP e1 e2 e3).ez;have s1:=fun(e1:(cZ s o != 0)=false) (e2:(!(LZ 0 (i64.wrap ((s.length:Int)-1)) c))=false) (e3:(!(LZ (-9999) (i64.wrap (i64.wrap (9999-s.getD c.toNat 0)+1)) w))=false)=>aaH (n:=n) (FK n (by omega)) (s:=s) (o:=o) (c:=c) (y:=(chE w (s.getD c.toNat 0).toNat,chK (s.getD c.toNat 0).toNat)) (aaM (hP e1 e2 e3));show nR X0 Qp _ _ _ ((dK (a2 dA iA)).put (if(cZ s o != 0)=true then(oH,cZ s o)else if(!(LZ 0 (i64.wrap ((s.length:Int)-1)) c))=true then(oH,3)else if(!(LZ (-9999) (i64.wrap (i64.wrap (9999-s.getD c.toNat 0)+1)) w))=true then(oH,3)else zq (chD s o c w (s.getD c.toNat 0).toNat))) _;exact aK (hO n (by omega)) (.o h1 (.o h2 (.sh (fun _=>rE _) fun e1=>.sh (fun _=>rE _) fun e2=>.o (hc e2) (.sh (fun _=>rE _) fun e3=>.a (.PZ [] [] (.nil .slc) []) (.o (hc e2) (.wG [.a2i 1 2 39,.U2 0 1 3] (lp e1 e2 e3) (.fr [0,1,2] (s1 e1 e2 e3) .rr)))))))
open Go Tw Pv cO
structure Zz(d:Dg):Prop where
 t:Bq d
 n:d.au.length<=6000
 l:bF d=0
 f:wH d.ay
 o:d.aG.length<=ah
 e:d.aO.length<=ah
def gLs(d:Dg)(k:Nat)(l:List V):List V:=l++[wK d (lu d.ay k)]
theorem afD(d:Dg):aW (gLs d) (Fb d.ay) 0 []=cellsD d:=by
 have:=dW (g:=gLs d) (m:=Fb d.ay) (k:=0) (s:=[]) (fun k l=>l=(List.range k).map fun(k:Nat)=>wK d (lu d.ay k)) rfl (fun j l _ _ e=>by rw[gLs,e,ad3,a3H];rfl);rw[a3E]at this;exact this
abbrev wLs(d:Dg)(y:List V)(i:Int)(x:List (Nat×PE aF)):aS aF:=⟨[(1,.loc 0 0),(3,.val (.own 0)),(4,xi i)]++x,[d.ps],[.list false false 39 y]⟩
theorem lLs{n:Nat}(hO:Ok n afC)(d:Dg)(h:Zz d):Ov n 44 0 0 (wLs d [] 0 []) (.exit 0) (wLs d (cellsD d) (Fb d.ay) [(12,xl false)]):=by
 have hs:d.ay.length<=ah:=by have:=h.f.len;unfold ah;omega
 have hc:Fb d.ay<=ah:=by have:=h.f.Fb;have:=h.f.a5S;have:=h.f.many;unfold ah;omega
 rw[<-afD d];refine y9 (σ:=List V) (N:=Fb d.ay) (g:=gLs d) (s0:=[]) (st:=fun i y=>wLs d y i []) (fin:=fun y=>wLs d y (Fb d.ay) [(12,xl false)]) (fun k y=>y.length=k) (by kernel_rfl) hc rfl (fun j y hj hy=>by simp[gLs,hy]) (fun j y hj hy m e p g9=>?_) (fun y _=>?_)
 .have h2:y.length+[wK d (lu d.ay j)].length<=ah:=by rw[hy,a3G];omega
  exact aN hO (.o hs (.b (h.f.lt hj) (.o hs (.o h.f.sz (.o (show(0:Int)<=(j:Int) by omega) (.o (show(j:Int)<2^62 by unfold ah at hc;omega) (.o h.t (.o h.n (.o (DK (j:Int) h.f.sz) (.o h2 (.goG [.gc [2]] g9)))))))))))
 exact aN hO (.o hs (.b h.f.no .ex))
def akI:eU aF:=bZ 44 (a1 dA) vsA cellsD (fun d=>[Zz d]) afC
theorem apD:Gd akI:=apC.add fun n hO p hp=>by
 have h:Zz p:=hp _ (.head _);have hb:(bF p != 0)=false:=by rw[h.l];rfl
 exact aK hO (.o h.o (.o h.e (.b hb (.wG [.Iq 3 39] (lLs (n:=n) hO p h) .rr))))
def akJ:eU aF:=bZ 81 (a1 qB) qB (fun p=>p) (fun p=>[p.length<=ah]) akI
theorem apE:Gd akJ:=apD.add fun n hO p hp=>aK hO (.o (hp _ (.head _)) .rr)
def akK:eU aF:=bZ 82 (a1 vsA) vsA (fun p=>p) (fun p=>[p.length<=ah]) akJ
theorem apF:Gd akK:=apE.add fun n hO p hp=>aK hO (.o (hp _ (.head _)) .rr)
def afE:eU aF:=bZ 48 (a1 iA) vA (fun p=>(⟨0,p⟩:V)) np akK
theorem apG:Gd afE:=apF.add fun n hO p hp=>aK hO .rr
open Go Tw Pv cO
structure ZA(d:Dg):Prop where
 s:d.ay.length<=ah
 o:d.aG.length<=ah
 e:d.aO.length<=ah
 n:d.au.length<=ah
 k:∀b∈d.au,b.aA.length<=ah
abbrev afF(a b:Dg)(i:Int)(x:List (Nat×PE aF)):aS aF:=⟨[(2,.loc 0 0),(3,.loc 1 0),(5,xi i)]++x,[a.ps,b.ps],[]⟩
def a7S(a b:Dg)(k:Nat):Bool:=if((a.au.getD k mP).var != (b.au.getD k mP).var)=true then true else !(decide ((a.au.getD k mP).aA=(b.au.getD k mP).aA))
def afG(a b:Dg):Unit⊕Nat->Ex×aS aF
 |.inl _=>(.exit 0,afF a b a.au.length [(48,xl false)])
 |.inr _=>(.ret,⟨[(4,xl false)],[a.ps,b.ps],[]⟩)
theorem akL{n:Nat}(hO:Ok n afE){a b:Dg}(h:ZA a)(hl:a.au.length=b.au.length):Lp n 72 0 (afF a b 0 []) (afG a b (bG (a7S a b) a.au.length)).1 (afG a b (bG (a7S a b) a.au.length)).2:=by
 refine iR (st:=fun i _=>afF a b i []) (g:=gS (a7S a b)) (out:=afG a b) (fun _ _=>True) (by kernel_rfl) h.n trivial (fun k u m hk _ ih=>?_) (fun _ _=>?_)
 .have i1:gW (k:Int) a.au.length:=aH hk;have i2:gW (k:Int) b.au.length:=aH (by omega);have h9:=h.k _ (gG (d:=mP) hk);unfold gS a7S;cases e1:((a.au.getD k mP).var != (b.au.getD k mP).var)
  .exact aN hO (.b (bC hk) (.o i1 (.o i2 (.b e1 (.o i1 (.o i2 (.o h9 (.ls (.ou nofun) (.nx (ih _ trivial))))))))))
  exact aN hO (.b (bC hk) (.o i1 (.o i2 (.b e1 (.ou nofun)))))
 exact aN hO (.b (fD a.au.length) (.ou nofun))
def akM(a b:Dg):Bool:=if(!(decide (a.ay=b.ay)))=true then false else if(!(decide (a.aG=b.aG)))=true then false else if(!(decide (a.aO=b.aO)))=true then false else if((a.au.length:Int) != (b.au.length:Int))=true then false else if(a.root != b.root)=true then false else if jU (bG (a7S a b) a.au.length)=true then true else false
def akN:eU aF:=bZ 72 (a2 dA dA) tA (fun p=>akM p.1 p.2) (fun p=>[ZA p.1]) afE
theorem apH:Gd akN:=apG.add fun n hO p hp=>aK hO (.o (show ZA p.1 from hp _ (.head _)).s (.ss .rr (.o (show ZA p.1 from hp _ (.head _)).o (.ss .rr (.o (show ZA p.1 from hp _ (.head _)).e (.ss .rr (.sh (fun _=>.rr) fun h4=>.ss .rr (.zh (fun h=>.w (jV (akL hO (show ZA p.1 from hp _ (.head _)) (show p.1.au.length=p.2.au.length by simp at h4;omega)) () h) .rr) fun h=>.w (jW (akL hO (show ZA p.1 from hp _ (.head _)) (show p.1.au.length=p.2.au.length by simp at h4;omega)) 0 h) .rr))))))))
def akO:eU aF:=bZ 25 (a3 dA iA dA) tA (fun p=>(if(p.2.1==0)=true then akM p.1 p.2.2 else false)) (fun p=>[ZA p.1]) akN
theorem apI:Gd akO:=apH.add fun n hO p hp=>aK hO (.ss (.o (hp _ (.head _)) .rr) .rr)
def UY(s o:List Int):Bool:=if decide ((s.length:Int)>8)=true then false else if decide ((o.length:Int)>8)=true then false else if(cZ s o != 0)=true then true else decide (Ez s<=200)
def afH:eU aF:=bZ 54 (a2 qB qB) tA (fun p=>UY p.1 p.2) np akO
theorem apJ:Gd afH:=apI.add fun n hO p hp=>aK hO (.sh (fun _=>.rr) fun h1=>.sh (fun _=>.rr) fun h2=>.o (show p.2.length<=ah by simp at h2;unfold ah;omega) (.ss .rr (.o (show p.1.length<=ah by simp at h1;unfold ah;omega) .rr)))
open Go Tw Pv cO
abbrev wCp(d:Dg)(acc:List Br)(i:Int)(x:List (Nat×PE aF)):aS aF:=⟨[(1,.loc 0 0),(2,.loc 1 0),(3,.loc 2 0),(4,xi i)]++x,[d.ps,[.nil .slc,.nil .slc,.nil .slc,.nil .slc,.int .i64 0],[lI d.ay,lI d.aG,lV d.aO,.own 0,.int .i64 d.root]],[.list false false 105 acc]⟩
theorem lCp{n:Nat}{d:Dg}(hO:Ok n afH)(h:ZA d):Lp n 21 0 (wCp d [] 0 []) (.exit 0) (wCp d d.au d.au.length [(21,xl false)]):=by
 have e:aW (fun k (a:List Br)=>a++[d.au.getD k mP]) d.au.length 0 []=d.au:=by
  rw[WO,RP d.au mP fun r=>r,List.map_id']
 rw[show wCp d d.au d.au.length [(21,xl false)]=wCp d (aW (fun k (a:List Br)=>a++[d.au.getD k mP]) d.au.length 0 []) d.au.length [(21,xl false)] by rw[e]];refine y9 (σ:=List Br) (N:=d.au.length) (g:=fun k (a:List Br)=>a++[d.au.getD k mP]) (s0:=([]:List Br)) (st:=fun i a=>wCp d a i []) (fin:=fun a=>wCp d a d.au.length [(21,xl false)]) (fun k a=>a.length=k) (by kernel_rfl) h.n rfl (fun k a _ h=>by simp[h]) (fun k a hk ha m e p g9=>?_) (fun a _=>?_)
 .have hm:=h.k (d.au.getD k mP) (gG hk);have hn:=h.n;have hal:a.length+[d.au.getD k mP].length<=ah:=by have:a.length=k:=ha;rw[a3G];omega
  exact aN hO (.b (bC hk) (.o (aH hk) (.o (aH hk) (.o hm (.o hal (.goG [.gc [2]] g9))))))
 exact aN hO (.b (fD d.au.length) .ex)
def afI:eU aF:=bZ 21 (a1 dA) dA (fun p=>p) (fun p=>[ZA p]) afH
theorem apL:Gd afI:=apJ.add fun n hO p hp=>aK hO (.o (show ZA p from hp _ (.head _)).s (.o (show ZA p from hp _ (.head _)).o (.o (show ZA p from hp _ (.head _)).e (.wG [.a2i 2 3 105] (lCp hO (hp _ (.head _))) .rr))))
abbrev wTh(d:Dg)(i:Int)(x:List (Nat×PE aF)):aS aF:=⟨[(1,.loc 0 0),(3,xi i)]++x,[d.ps],[]⟩
def cTh(d:Dg)(k:Nat):Bool:=decide (((d.au.getD k mP).aA.length:Int)>14)
def zTh(d:Dg):Unit⊕Nat->Ex×aS aF
 |.inl _=>(.exit 0,wTh d d.au.length [(26,xl false)])
 |.inr _=>(.ret,⟨[(2,xl false)],[d.ps],[]⟩)
theorem lTh{n:Nat}(hO:Ok n afI){d:Dg}(h:d.au.length<=ah):Lp n 18 0 (wTh d 0 []) (zTh d (bG (cTh d) d.au.length)).1 (zTh d (bG (cTh d) d.au.length)).2:=by
 refine iR (st:=fun i _=>wTh d i []) (g:=gS (cTh d)) (out:=zTh d) (fun _ _=>True) (by kernel_rfl) h trivial (fun k u m hk _ ih=>?_) (fun _ _=>?_)
 .unfold gS cTh;exact aN hO (.b (bC hk) (.o (aH hk) (.ls (.ou nofun) (.nx (ih _ trivial)))))
 exact aN hO (.b (fD d.au.length) (.ou nofun))
def Jm(d:Dg):Bool:=if(!(UY d.ay d.aG))=true then false else if decide ((d.aO.length:Int)>40)=true then false else if decide ((d.au.length:Int)>60)=true then false else if jU (bG (cTh d) d.au.length)=true then true else false
def akP:eU aF:=bZ 18 (a1 dA) tA (fun p=>Jm p) np afI
theorem apP:Gd akP:=apL.add fun n hO p hp=>aK hO (.ss .rr (.ss .rr (.sh (fun _=>.rr) fun h3=>.zh (fun h=>.w (jV (lTh hO (show p.au.length<=ah by simp at h3;unfold ah;omega)) () h) .rr) fun h=>.w (jW (lTh hO (show p.au.length<=ah by simp at h3;unfold ah;omega)) 0 h) .rr)))
theorem XU{d:Dg}(h:Jm d=true):ZA d∧d.ay.length<=8∧d.aG.length<=8∧d.aO.length<=40∧d.au.length<=60:=by
 unfold Jm at h;split at h
 .cases h
 rename_i h1;split at h
 .cases h
 rename_i h2;split at h
 .cases h
 rename_i h3;split at h
 .rename_i h4;have h1:UY d.ay d.aG=true:=by simpa using h1
  unfold UY at h1;split at h1
  .cases h1
  rename_i q1;split at h1
  .cases h1
  rename_i q2;simp at h2 h3 q1 q2;refine⟨⟨by unfold ah;omega,by unfold ah;omega,by unfold ah;omega,by unfold ah;omega,fun b hb=>?_⟩,by omega,by omega,by omega,by omega⟩;obtain⟨k,hk,e⟩:=aaZ hb;have:=dQ.1 h4 k hk;unfold cTh at this;rw[a3d,a0E hk,a4s,e]at this;simp at this;unfold ah;omega
 cases h
open Go Tw Pv cO
def dX:Dg:=⟨[2,3],[0,1],[⟨0,1⟩,⟨0,2⟩],[⟨0,[-1,-2]⟩],0⟩
def dY:Dg:=⟨[2,3],[0,1],[⟨0,0⟩,⟨0,1⟩,⟨0,2⟩],[⟨1,[-1,-2,-3]⟩],0⟩
def cL(l:List Int):List V:=l.map fun n=>⟨0,n⟩
theorem a3v:Po ([2,3],[0,1],0,1)=(dX,0):=by kernel_rfl
def dIf:Dg:=(XP (dY,dX,dY)).1
theorem akQ:(XP (dY,dX,dY)).2=0∧lF dIf=0∧cellsD dIf=cL [0,1,1,0,2,2]:=⟨by kernel_rfl,by kernel_rfl,by kernel_rfl⟩
def dRs:Dg:=(JX (dY,1,2)).1
theorem afK:(JX (dY,1,2)).2=0∧lF dRs=0∧cellsD dRs=cL [2,2,2,2,2,2]:=⟨by kernel_rfl,by kernel_rfl,by kernel_rfl⟩
def dWh:Dg:=(zF dY).1
theorem a7T:(zF dY).2=0∧lF dWh=0∧cellsD dWh=cL [0,1,0,0,1,0]:=⟨by kernel_rfl,by kernel_rfl,by kernel_rfl⟩
theorem aaN:uM (dY,⟨0,2⟩)=(2,0):=by kernel_rfl
theorem a7U:jI (dX,⟨0,2⟩)=([1,0],0):=by kernel_rfl
def FB:Dg:=(wS (10,dX,dY)).1
theorem afL:(wS (10,dX,dY)).2=0:=by kernel_rfl
def dLe:Dg:=(wS (14,dX,dY)).1
theorem akR:(wS (14,dX,dY)).2=0:=by kernel_rfl
theorem aaO:Mc ([dX,dY],dLe)=(⟨8,false,false,2,0,0,false,[0]⟩,0):=by kernel_rfl
def UZ:List (V×Int):=dF (dH [FB,dX])
theorem akS:lC UZ=[0,1]:=by
 have e:((UZ.filter fun e=>!decide (e.1.f>0)).map fun e=>e.1.n)=[0,1]:=by kernel_rfl
 unfold lC;rw[e];unfold gy;exact List.mergeSort_of_pairwise (by simp)
theorem afN:a1x (4,FB,dX)=(⟨4,false,false,0,0,1,true,[]⟩,0):=by
 have e1:bT [FB,dX]=0:=by kernel_rfl
 have e2:uz UZ=true:=by kernel_rfl
 have e3:UZ≠[]:=by
  intro h;have h2:UZ.length=0:=by rw[h];rfl
  have h3:UZ.length=3:=by kernel_rfl
  omega
 show(if(bT [FB,dX] != 0)=true then(An0,bT [FB,dX])else Fz 4 UZ)=_;rw[e1];show Fz 4 UZ=_;unfold Fz;rw[a0S e3];show(if lC UZ=[]then _ else _)=_;rw[akS,e2];rfl
open Go Tw Pv cO
def afO:eU aF:=bZ 73 ae6 (dK (a2 dA dA)) (fun p=>(dX,dY)) np akP
theorem apQ:Gd afO:=apP.add fun n hO p hp=>aK hO .rr
abbrev anP(a:An):List (PV aF):=[.int .u8 a.q,.bool a.none,.bool a.yes,.int .i64 a.n,.int .i64 a.lo,.int .i64 a.hi,.bool a.fault,lI a.set,.nil .slc]
abbrev wSa(a b:An)(i:Int)(x:List (Nat×PE aF)):aS aF:=⟨[(2,.loc 0 0),(3,.loc 1 0),(5,xi i)]++x,[anP a,anP b],[]⟩
theorem lSa{n:Nat}(hO:Ok n afO){a b:An}:Lp n 35 0 (wSa a b 0 []) (.exit 0) (wSa a b 0 [(74,xl false)]):=by
 have:=JJ (X:=X0) (P:=Qp) (T:=T) (L:=LL) (call:=bP n) (f:=35) (gJ:=false) (nt:=Bz Qp 35) (B:=0) (b:=Ry Qp 35 0) (σ:=Unit) (N:=0) (g:=fun _ s=>s) (s0:=()) (st:=fun i _=>wSa a b i []) (fin:=fun _=>wSa a b 0 [(74,xl false)]) (w:=wSa a b 0 []) (e:=.exit 0) (fun _ _=>True) (by kernel_rfl) (a4A _) Qb trivial (fun _ _ _ _=>trivial) (fun k s hk=>absurd hk (Nat.not_lt_zero _)) (fun s _=>aN hO (.b (rfl:decide ((0:Int)<0)=false) .ex));exact this
def aaP(a b:An):Bool:=if(a.q != b.q)=true then false else if(!(a.none==b.none))=true then false else if(!(a.yes==b.yes))=true then false else if(a.n != b.n)=true then false else if(a.lo != b.lo)=true then false else if(a.hi != b.hi)=true then false else if(!(a.fault==b.fault))=true then false else if(!(decide (a.set=b.set)))=true then false else true
def afP:eU aF:=bZ 35 (a2 V9 V9) tA (fun p=>aaP p.1 p.2) (fun p=>[p.1.set.length<=ah]) afO
theorem apR:Gd afP:=apQ.add fun n hO p hp=>aK hO (.ss .rr (.ss .rr (.ss .rr (.ss .rr (.ss .rr (.ss .rr (.ss .rr (.o (hp _ (.head _)) (.ss .rr (.b (rfl:((0:Int) != 0)=false) (.w (lSa (a:=p.1) (b:=p.2) hO) .rr)))))))))))
open Go Tw Pv cO
theorem a1y{d:Dg}(ho:d.aG.length<=ah)(he:d.aO.length<=ah)(h:(lF d==0)=true):Zz d:=by
 have h:lF d=0:=by simpa using h
 have h0:bF d=0:=by
  unfold lF at h;split at h
  .rename_i c;rw[h]at c;cases c
  rename_i c;simpa using c
 obtain⟨t,n⟩:=mG ho he (by rw[h0];rfl);exact⟨t,n,h0,t.eu,ho,he⟩
abbrev wLz(d:Dg)(e:Int)(l:List Int)(acc:List V)(i:Int)(x:List (Nat×PE aF)):aS aF:=⟨[(1,xi e),(2,xL 3 l),(3,.loc 0 0),(7,.val (.own 0)),(8,xi i)]++x,[d.ps],[.list false false 39 acc]⟩
theorem lLz{n:Nat}(hO:Ok n afP)(d:Dg)(e:Int){l:List Int}(hl:l.length<=1000):Lp n 74 0 (wLz d e l [] 0 []) (.exit 0) (wLz d e l (cL l) l.length [(12,xl false)]):=by
 have e1:aW (fun k (a:List V)=>a++[(⟨0,l.getD k 0⟩:V)]) l.length 0 []=cL l:=by
  rw[WO,RP l 0 fun r=>(⟨0,r⟩:V)];rfl
 rw[<-e1];refine y9 (σ:=List V) (N:=l.length) (g:=fun k (a:List V)=>a++[(⟨0,l.getD k 0⟩:V)]) (s0:=([]:List V)) (st:=fun i a=>wLz d e l a i []) (fin:=fun a=>wLz d e l a l.length [(12,xl false)]) (fun k a=>a.length=k) (by kernel_rfl) (by unfold ah;omega) rfl (fun k a _ h=>by simp[h]) (fun k a hk ha m e p g9=>?_) (fun a _=>?_)
 .have hal:a.length+[(⟨0,l.getD k 0⟩:V)].length<=ah:=by have:a.length=k:=ha;rw[a3G];unfold ah;omega
  exact aN hO (.b (bC hk) (.o (aH hk) (.o hal (.goG [.gc [2]] g9))))
 exact aN hO (.b (fD l.length) .ex)
def akU(p:Dg×Int×List Int):Bool:=if(p.2.1==0)=true then(if(lF p.1==0)=true then decide (cellsD p.1=cL p.2.2)else false)else false
def aaQ:eU aF:=bZ 74 (a3 dA iA qB) tA (fun p=>akU p) (fun p=>[p.1.aG.length<=ah,p.1.aO.length<=ah,p.2.2.length<=1000,(cellsD p.1).length<=ah]) afP
theorem apS:Gd aaQ:=apR.add fun n hO p hp=>aK hO (.wG [.Iq 7 39] (lLz hO p.1 p.2.1 (hp _ (.tail _ (.tail _ (.head _))))) (.ss (.o (hp _ (.head _)) (.o (hp _ (.tail _ (.head _))) (.sh (fun h=>.o (a1y (hp _ (.head _)) (hp _ (.tail _ (.head _))) h) (.o (hp _ (.tail _ (.tail _ (.tail _ (.head _))))) .rr)) (fun _=>.rr)))) .rr))
open Go Tw Pv cO
theorem V3{d:Dg}(h:((d.au.all fun n=>n.aA.all fun k=>decide (-1000<=k)&&decide (k<=1000))&&(decide (-1000<=d.root)&&decide (d.root<=1000))&&(d.aO.all fun v=>decide (0<=v.f))&&(decide (d.ay.length<=100)&&decide (d.aG.length<=100)&&decide (d.aO.length<=100)))=true):rP d:=by
 simp only[a2r,a1T,a4f]at h;obtain⟨⟨⟨h1,h2⟩,h3⟩,⟨h4,h5⟩,h6⟩:=h;refine⟨⟨fun i hi k hk=>?_,?_,h3⟩,by unfold ah;omega,by omega,by unfold ah;omega⟩
 .have h7:=h1 _ (gG (d:=(⟨0,[]⟩:Br)) hi) _ (gG (d:=(0:Int)) hk);show KE ((fA d i).aA.getD k 0);unfold KE;have h8:((d.au.getD i ⟨0,[]⟩).aA.getD k 0)=(fA d i).aA.getD k 0:=rfl;rw[h8]at h7;omega
 unfold KE;omega
theorem pX:rP dX:=V3 (by kernel_rfl)
theorem pY:rP dY:=V3 (by kernel_rfl)
theorem a7V:rP FB:=V3 (by kernel_rfl)
theorem pLe:rP dLe:=V3 (by kernel_rfl)
abbrev dvA(d:Dg):PV aF:=(dK (a2 dA iA)).put (d,0)
theorem afQ:(dRs,(0:Int))=JX (dY,1,2):=acL rfl afK.1.symm
theorem a7W:(dWh,(0:Int))=zF dY:=acL rfl a7T.1.symm
theorem afR:(FB,(0:Int))=wS (10,dX,dY):=acL rfl afL.symm
theorem akW:(dLe,(0:Int))=wS (14,dX,dY):=acL rfl akR.symm
section
variable {n:Nat} (hO:Ok n aaQ)
include hO
theorem akX:aV X0 Qp (bP n) (.fn 73 [] []) [] [] ((dK (a2 dA dA)).put (dX,dY)) []:=
 qV hX hO (f:=73) (first:=[]) (xs:=[]) (cap:=[]) (vs:=[]) (v:=(dK (a2 dA dA)).put (dX,dY)) (H:=[]) (ps:=[]) rfl (by kernel_rfl) (fun _ h=>by cases h) rfl
theorem aaR{j k:Bool}:aV X0 Qp (bP n) (.fn 57 [] []) [.own 0,.own 1,.int .i64 0,.int .i64 1] [.list j k 3 ([2,3]:List Int),.list j k 3 ([0,1]:List Int)] (dvA dX) [.gone,.gone]:=by
 unfold dvA;rw[<-a3v];exact qV hX hO (f:=57) (first:=[]) (xs:=[.own 0,.own 1,.int .i64 0,.int .i64 1]) (cap:=[]) (vs:=[.dn 3 ([2,3]:List Int) false,.dn 3 ([0,1]:List Int) false,.int .i64 0,.int .i64 1]) (v:=(dK (a2 dA iA)).put (Po ([2,3],[0,1],0,1))) (H:=[.list j k 3 ([2,3]:List Int),.list j k 3 ([0,1]:List Int)]) (ps:=[([2,3]:List Int).length<=ah,([0,1]:List Int).length<=2^20]) rfl (by kernel_rfl) (by simp[ah]) rfl
theorem aIf:aV X0 Qp (bP n) (.fn 63 [] []) [.agg dY.ps,.agg dX.ps,.agg dY.ps] [] (dvA dIf) []:=by
 have e:(dIf,(0:Int))=XP (dY,dX,dY):=acL rfl akQ.1.symm;unfold dvA;rw[e];exact qV hX hO (f:=63) (first:=[]) (cap:=[]) (vs:=[.agg dY.ps,.agg dX.ps,.agg dY.ps]) (v:=(dK (a2 dA iA)).put (XP (dY,dX,dY))) (H:=[]) (ps:=[rP dY,rP dX,rP dY]) rfl (by kernel_rfl) (by simp[pX,pY]) rfl
theorem apT:aV X0 Qp (bP n) (.fn 20 [] []) [.agg dY.ps,.int .i64 1,.int .i64 2] [] (dvA dRs) []:=by
 rw[show(dvA dRs:PV aF)=((dK (a2 dA iA)).put (JX (dY,1,2)))from by rw[<-afQ]];exact qV hX hO (f:=20) (first:=[]) (xs:=[.agg dY.ps,.int .i64 1,.int .i64 2]) (cap:=[]) (vs:=[.agg dY.ps,.int .i64 1,.int .i64 2]) (v:=((dK (a2 dA iA)).put (JX (dY,1,2)))) (H:=[]) (ps:=[rP dY]) rfl (by kernel_rfl) (by simp[pX,pY,a7V,pLe]) rfl
theorem afS:aV X0 Qp (bP n) (.fn 67 [] []) [.agg dY.ps] [] (dvA dWh) []:=by
 rw[show(dvA dWh:PV aF)=((dK (a2 dA iA)).put (zF dY))from by rw[<-a7W]];exact qV hX hO (f:=67) (first:=[]) (xs:=[.agg dY.ps]) (cap:=[]) (vs:=[.agg dY.ps]) (v:=((dK (a2 dA iA)).put (zF dY))) (H:=[]) (ps:=[rP dY]) rfl (by kernel_rfl) (by simp[pX,pY,a7V,pLe]) rfl
theorem akY:aV X0 Qp (bP n) (.fn 27 [] []) [.agg dY.ps,.agg (⟨0,2⟩:V).ps] [] ((dK (a2 iA iA)).put (2,0)) []:=by
 rw[show((dK (a2 iA iA)).put (2,0):PV aF)=((dK (a2 iA iA)).put (uM (dY,⟨0,2⟩)))from by rw[aaN]];exact LD hX hO (f:=27) (first:=[]) (xs:=[.agg dY.ps,.agg (⟨0,2⟩:V).ps]) (cap:=[]) (vs:=[.agg dY.ps,.agg (⟨0,2⟩:V).ps]) (v:=((dK (a2 iA iA)).put (uM (dY,⟨0,2⟩)))) (H:=[]) (ps:=[rP dY]) rfl (by kernel_rfl) (by simp[pY]) rfl
theorem afT:aV X0 Qp (bP n) (.fn 28 [] []) [.agg dX.ps,.agg (⟨0,2⟩:V).ps] [] ((dK (a2 qB iA)).put ([1,0],0)) []:=by
 rw[show((dK (a2 qB iA)).put ([1,0],0):PV aF)=((dK (a2 qB iA)).put (jI (dX,⟨0,2⟩)))from by rw[a7U]];exact qV hX hO (f:=28) (first:=[]) (xs:=[.agg dX.ps,.agg (⟨0,2⟩:V).ps]) (cap:=[]) (vs:=[.agg dX.ps,.agg (⟨0,2⟩:V).ps]) (v:=((dK (a2 qB iA)).put (jI (dX,⟨0,2⟩)))) (H:=[]) (ps:=[rP dX]) rfl (by kernel_rfl) (by simp[pX]) rfl
theorem apU:aV X0 Qp (bP n) (.fn 62 [] []) [.int .u8 10,.agg dX.ps,.agg dY.ps] [] (dvA FB) []:=by
 rw[show(dvA FB:PV aF)=((dK (a2 dA iA)).put (wS (10,dX,dY)))from by rw[<-afR]];exact qV hX hO (f:=62) (first:=[]) (xs:=[.int .u8 10,.agg dX.ps,.agg dY.ps]) (cap:=[]) (vs:=[.int .u8 10,.agg dX.ps,.agg dY.ps]) (v:=((dK (a2 dA iA)).put (wS (10,dX,dY)))) (H:=[]) (ps:=[rP dX,rP dY]) rfl (by kernel_rfl) (by simp[pX,pY,a7V,pLe]) rfl
theorem aLe:aV X0 Qp (bP n) (.fn 62 [] []) [.int .u8 14,.agg dX.ps,.agg dY.ps] [] (dvA dLe) []:=by
 rw[show(dvA dLe:PV aF)=((dK (a2 dA iA)).put (wS (14,dX,dY)))from by rw[<-akW]];exact qV hX hO (f:=62) (first:=[]) (xs:=[.int .u8 14,.agg dX.ps,.agg dY.ps]) (cap:=[]) (vs:=[.int .u8 14,.agg dX.ps,.agg dY.ps]) (v:=((dK (a2 dA iA)).put (wS (14,dX,dY)))) (H:=[]) (ps:=[rP dX,rP dY]) rfl (by kernel_rfl) (by simp[pX,pY,a7V,pLe]) rfl
abbrev a7X:An:=⟨4,false,false,0,0,1,true,[]⟩
abbrev acZ:An:=⟨8,false,false,2,0,0,false,[0]⟩
theorem apV:aV X0 Qp (bP n) (.fn 33 [] []) [.int .u8 4,.agg FB.ps,.agg dX.ps] [] ((dK (a2 V9 iA)).put (a7X,0)) []:=by
 rw[show((dK (a2 V9 iA)).put (a7X,0):PV aF)=((dK (a2 V9 iA)).put (a1x (4,FB,dX)))from by rw[afN]];exact qV hX hO (f:=33) (first:=[]) (xs:=[.int .u8 4,.agg FB.ps,.agg dX.ps]) (cap:=[]) (vs:=[.int .u8 4,.agg FB.ps,.agg dX.ps]) (v:=((dK (a2 V9 iA)).put (a1x (4,FB,dX)))) (H:=[]) (ps:=[rP FB,rP dX]) rfl (by kernel_rfl) (by simp[a7V,pX]) rfl
end
open Go Tw Pv cO
theorem akZ{n:Nat}(hn:24<=n)(Ai:Ok n a7L)(FK:∀m,n-24<=m->Ok m qx){k:Bool}:aV X0 Qp (bP (n+1)) (.fn 39 [] []) [.own 0,.agg dLe.ps] [.list k true 26 [dX,dY]] ((dK (a2 V9 iA)).put (acZ,0)) [.gone]:=by
 rw[<-aaO];exact akE (l:=[dX,dY]) (d:=dLe) hn Ai FK (fun x h=>by
  rcases a2t.1 h with rfl|h
  .exact pX
  rcases a2t.1 h with rfl|h
  .exact pY
  rw[a2J.1 h];exact pLe) (by show 2<=1000;omega)
theorem al0{n:Nat}(hO:Ok n aaQ):aV X0 Qp (bP n) (.fn 48 [] []) [.int .i64 2] [] (.agg (⟨0,2⟩:V).ps) []:=
 LD hX hO (f:=48) (first:=[]) (xs:=[.int .i64 2]) (cap:=[]) (vs:=[.int .i64 2]) (v:=.agg (⟨0,2⟩:V).ps) (H:=[]) (ps:=[]) rfl (by kernel_rfl) (fun _ h=>by cases h) rfl
theorem SI{a b:Nat}(h:Nat.ble a b=true):a<=b:=agd h
theorem apW:ZA dX:=⟨SI (by kernel_rfl),SI (by kernel_rfl),SI (by kernel_rfl),SI (by kernel_rfl),fun b h=>by rw[a2J.1 h];exact SI (by kernel_rfl)⟩
def afU:eU aF:=bZ 19 ae6 tA (fun _=>true) np aaQ
theorem apX:Gd afU:=Good.acF 25 apS aky JV fun n hn hO FK hO3 p hp=>by
 obtain⟨m,rfl⟩:∃m,n=m+1:=⟨n-1,by omega⟩;have Fe:=hO (m+1) (by omega);exact aK Fe (.fr [] (akX Fe) (.fr [0,1] (aaR Fe (j:=true) (k:=true)) (.fr [] (aIf Fe) (.fr [] (apT Fe) (.fr [] (afS Fe) (.fr [] (al0 Fe) (.fr [] (akY Fe) (.fr [] (al0 Fe) (.fr [] (afT Fe) (.fr [] (apU Fe) (.fr [] (apV Fe) (.fr [] (aLe Fe) (.fr [2] (akZ (k:=true) (by omega) (FK m (by omega)) (fun k hk=>hO3 k (by omega))) (.o apW (.b (c:=true) (t:=true) rfl (.o (SI (by kernel_rfl):dIf.aG.length<=ah) (.o (SI (by kernel_rfl):dIf.aO.length<=ah) (.o (SI (by kernel_rfl):([0,0,0,0,0,0]:List Int).length<=1000) (.o (SI (by kernel_rfl):(cellsD dIf).length<=ah) (.b (c:=true) (t:=true) rfl (.o (SI (by kernel_rfl):dRs.aG.length<=ah) (.o (SI (by kernel_rfl):dRs.aO.length<=ah) (.o (SI (by kernel_rfl):([0,0,0,0,0,0]:List Int).length<=1000) (.o (SI (by kernel_rfl):(cellsD dRs).length<=ah) (.b (c:=true) (t:=true) rfl (.o (SI (by kernel_rfl):dWh.aG.length<=ah) (.o (SI (by kernel_rfl):dWh.aO.length<=ah) (.o (SI (by kernel_rfl):([0,0,0,0,0,0]:List Int).length<=1000) (.o (SI (by kernel_rfl):(cellsD dWh).length<=ah) (.b (c:=true) (t:=true) rfl (.b (c:=true) (t:=true) rfl (.b (c:=true) (t:=true) rfl (.b (c:=true) (t:=true) rfl (.o (SI (by kernel_rfl):([1,0]:List Int).length<=ah) (.b (c:=true) (t:=true) rfl (.b (c:=true) (t:=true) rfl (.b (c:=true) (t:=true) rfl (.o (SI (by kernel_rfl):a7X.set.length<=ah) (.b (c:=true) (t:=true) rfl (.b (c:=true) (t:=true) rfl (.b (c:=true) (t:=true) rfl (.o (SI (by kernel_rfl):acZ.set.length<=ah) .rr))))))))))))))))))))))))))))))))))))))))))
open Go Tw Pv cO
theorem Pq(d:Dg):(cellsD d).length=Fb d.ay:=by simp[cellsD]
theorem aaS{d:Dg}(h:rP d):bT [d]=lF d:=by
 have e:(vC d).2=lF d:=by rw[Xf h.r h.s (by have:=h.o;unfold ah;omega) h.e]
 have f:([d].all (H9 (([d].getD 0 oH).ay,([d].getD 0 oH).aG)))=true:=by simp[H9]
 unfold bT;rw[f];split
 .rename_i c;have:=dQ.1 c 0 (by simp);have h0:lF d=0:=by unfold cCk at this;rw[<-e];simpa using this
  rw[h0];rfl
 rename_i c;obtain⟨j,hj,_,_,e2⟩:=GX (by simpa using c);have e2:bG (cCk [d]) [d].length=.inr j:=e2;rw[e2];have:j=0:=by have:j<1:=hj;omega
 subst this;exact e
theorem afV{d:Dg}(h:Jm d=true)(r:KF d):rP d:=by
 obtain⟨f,h1,h2,h3,_⟩:=XU h;exact⟨r,f.s,by omega,by unfold ah;omega⟩
open Go Tw Pv cO
abbrev wMy(d:Dg)(v:V)(l:List V)(m i:Int)(x:List (Nat×PE aF)):aS aF:=⟨[(3,.loc 1 0),(5,xi m),(6,xL 39 l),(7,xi i)]++x,[d.ps,v.ps],[]⟩
theorem lMy{n:Nat}(hO:Ok n afU)(d:Dg)(v:V){l:List V}(hl:l.length<=ah):Lp n 31 0 (wMy d v l 0 0 []) (.exit 0) (wMy d v l (IV l v) l.length [(13,xl false)]):=
 JJ (st:=fun i m=>wMy d v l m i []) (fin:=fun m=>wMy d v l m l.length [(13,xl false)]) (fun _ _=>True) (by kernel_rfl) hl Qb trivial (fun _ _ _ _=>trivial) (fun k s hk _ n e p h=>by
  unfold a0R at h;cases h2:decide (l.getD k V0=v)
  .rw[h2,a0S (by simp)]at h;exact aN hO (.b (bC hk) (.o (aH hk) (.q (.bool (decide (l.getD k V0=v))) (eqV (.tmp 19) (.tmp 20) (l.getD k V0) v) (.b h2 (.go h)))))
  .rw[h2,a0V rfl]at h;exact aN hO (.b (bC hk) (.o (aH hk) (.q (.bool (decide (l.getD k V0=v))) (eqV (.tmp 19) (.tmp 20) (l.getD k V0) v) (.b h2 (.go h)))))
  ) (fun s _=>aN hO (.b (fD l.length) .ex))
def afW:eU aF:=bZ 31 (a2 dA vA) iA (fun p=>IV (cellsD p.1) p.2) (fun p=>[Zz p.1,(cellsD p.1).length<=ah]) afU
theorem apY:Gd afW:=apX.add fun n hO p hp=>aK hO (.o (hp _ (.head _)) (.w (lMy hO p.1 p.2 (hp _ (.tail _ (.head _)))) .rr))
abbrev wFt(d:Dg)(v:V)(l:List V)(i:Int)(x:List (Nat×PE aF)):aS aF:=⟨[(2,.loc 0 0),(3,.loc 1 0),(6,xL 39 l),(7,xi i)]++x,[d.ps,v.ps],[]⟩
def cFt(l:List V)(v:V)(k:Nat):Bool:=decide (l.getD k V0=v)
def zFt(d:Dg)(v:V)(l:List V):Unit⊕Nat->Ex×aS aF
 |.inl _=>(.exit 0,wFt d v l l.length [(13,xl false)])
 |.inr k=>(.ret,⟨[(4,xL 3 (lu d.ay k)),(5,xl true)],[d.ps,v.ps],[]⟩)
theorem lFt{n:Nat}(hO:Ok n afW)(d:Dg)(v:V){l:List V}(hl:l.length<=ah)(hs:d.ay.length<=ah)(hz:oG d.ay):Lp n 30 0 (wFt d v l 0 []) (zFt d v l (bG (cFt l v) l.length)).1 (zFt d v l (bG (cFt l v) l.length)).2:=by
 refine iR (st:=fun i _=>wFt d v l i []) (g:=gS (cFt l v)) (out:=zFt d v l) (fun _ _=>True) (by kernel_rfl) hl trivial (fun k u m hk _ ih=>?_) (fun _ _=>?_)
 .unfold gS cFt;exact aN hO (.b (bC hk) (.o (aH hk) (.q (.bool (decide (l.getD k V0=v))) (eqV (.tmp 19) (.tmp 20) (l.getD k V0) v) (.ls (.o hs (.o hz (.o (show(0:Int)<=(k:Int) by omega) (.o (show(k:Int)<2^62 by unfold ah at hl;omega) (.ou nofun))))) (.nx (ih _ trivial))))))
 exact aN hO (.b (fD l.length) (.ou nofun))
def nP(p:Dg×V):List Int×Bool:=match bG (cFt (cellsD p.1) p.2) (cellsD p.1).length with
 |.inl _=>([],false)
 |.inr k=>(lu p.1.ay k,true)
def al1:eU aF:=bZ 30 (a2 dA vA) (dK (a2 qB tA)) nP (fun p=>[Zz p.1,(cellsD p.1).length<=ah]) afW
theorem aq1:Gd al1:=apY.add fun n hO p hp=>by
 obtain⟨d,v⟩:=p;have h:Zz d:=hp _ (.head _);have lp:=lFt hO d v (hp _ (.tail _ (.head _))) (by have:=h.f.len;unfold ah;omega) h.f.sz;show nR X0 Qp _ _ _ ((dK (a2 qB tA)).put (match bG (cFt (cellsD d) v) (cellsD d).length with
  |.inl _=>([],false)
  |.inr k=>(lu d.ay k,true))) _
 revert lp;rcases bG (cFt (cellsD d) v) (cellsD d).length with _|k
 .intro lp;exact aK hO (.o h (.w lp (.rn (.dG [.nil .slc,.bool false]) rfl)))
 .intro lp;exact aK hO (.o h (.w lp .rr))
open Go Tw Pv cO
theorem ZB{l:List V}{v:V}(h:l.length<=ah):IV l v=(l.count v:Int):=by
 have:=dW (g:=a0R v l) (m:=l.length) (k:=0) (s:=(0:Int)) (fun k m=>m=((l.take k).count v:Int)) (by simp) (fun j m _ hj e=>by
  have hj:j<l.length:=by omega
  have hc:(l.take j).count v<=j:=a4p List.count_le_length (by rw[a3B];omega);rw[a6Y hj,List.count_append,List.count_singleton];unfold a0R;have e2:l.getD j V0=l[j]:=by rw[a3d,a0E hj,a4s]
  rw[e2];by_cases c:l[j]=v
  .rw[a0V (by simpa using c),wrap_small (by omega) (by unfold ah at h;omega),e,a0V (by simpa using c)];omega
  rw[a0S (by simpa using c),e,a0S (by simpa using c)];omega)
 rw[a3E,ab5]at this;exact this
theorem a7Y{t:List (V×Int)}(hn:(t.map (·.1)).Nodup)(v:V):look t v=dB (ind v) t:=by
 unfold look;by_cases h:v∈t.map (·.1)
 .obtain⟨e,he,hv⟩:=a1L.1 h;obtain⟨e2,h2⟩:=a4q.1 (List.find?_isSome (p:=fun e:V×Int=>decide (e.1=v)) |>.2 ⟨e,he,show decide (e.1=v)=true by simpa using hv⟩);have h3:e2.1=v:=by simpa using List.find?_some h2
  have:=DV hn (afg h2);rw[h3]at this;rw[h2,this];rfl
 rw[LQ h,ad6.2 fun e he=>by
  simp only[a1T];intro hv;exact h (a1L.2 ⟨e,he,hv⟩)]
 rfl
theorem AQ(J:Jb)(v:V):look (dF J) v=((nO J).count v:Int):=by
 rw[a7Y (wU J),JY,Xw]
theorem SK{d:Dg}{g:List Int}:nO (jg d g)=(Eb (jg d g)).map (wK d):=by
 unfold nO UR;rw[ags.2 (fun l hl=>by
  obtain⟨q,_,rfl⟩:=a1L.1 hl;rfl),a6Z]
 rfl
theorem afX{d:Dg}(hJ:jL (dH [d])):Eb (dH [d])=(List.range (Fb d.ay)).map fun(k:Nat)=>lu d.ay k:=by
 unfold Eb;refine ags.2 fun q hq=>?_;have hp:=(Ht hJ).1 hq;rw[a1T,Hq hJ (pq hp)];intro k hk h0;exfalso;revert h0;show ¬0<=(List.replicate d.ay.length (-1:Int)).getD k 0;rw[a3d,acQ,a0V (show k<d.ay.length from hk)];decide
theorem Jo{d:Dg}(hJ:jL (dH [d])):nO (dH [d])=cellsD d:=by
 have h:nO (dH [d])=(Eb (dH [d])).map (wK d):=SK;rw[h,afX hJ,a6Z];rfl
theorem a7Z{d:Dg}(hJ:jL (dH [d]))(v:V)(hl:(cellsD d).length<=ah):look (dF (dH [d])) v=IV (cellsD d) v:=by
 rw[AQ,Jo hJ,ZB hl]
open Go Tw Pv cO
theorem ZC{v:V}:wF v=vOk v:=by
 unfold wF vOk mQ;by_cases c:(v.f==0)=true
 .rw[a0V c,a0V c];rw[a4g];simp[vM,sQ]
 rw[a0S c,a0S c]
theorem a1A:∀{s p q:List Int},oG s->jF s p=true->jF s q=true->kG s p<=kG s q->∀c,c<s.length->(∀k,k<c->p.getD k 0=q.getD k 0)->p.getD c 0<=q.getD c 0
 | [],_,_,_,_,_,_,c,hc,_=>absurd hc (Nat.not_lt_zero _)
 |z::t,a::p,b::q,hs,hp,hq,hn,c,hc,he=>by
  simp only[jF,a2r,a1T]at hp hq;have r1:=wI hp.2 hs.tail;have r2:=wI hq.2 hs.tail;simp only[kG]at hn;cases c with
  |zero=>
   show a<=b;by_cases h:a<=b
   .exact h
   exfalso;have h2:(b+1)*bf t<=a*bf t:=a8A (by omega) (by omega);rw[ag6,Int.one_mul]at h2;omega
  |succ c=>
   have h0:a=b:=he 0 (by omega);subst h0;exact a1A hs.tail hp.2 hq.2 (by omega) c (by simpa using hc) fun k hk=>he (k+1) (by omega)
 |_::_,[],_,_,hp,_,_,_,_,_=>by simp[jF]at hp
 |_::_,_::_,[],_,_,hq,_,_,_,_=>by simp[jF]at hq
section
variable {d:Dg} (hJ:jL (dH [d])) {v:V}
include hJ
theorem a81{g:List Int}(hg:Zy d g):0<lkF d v g↔∃q,jF d.ay q=true∧(∀k,k<d.ay.length->0<=g.getD k 0->g.getD k 0=q.getD k 0)∧wK d q=v:=by
 have hj:=acU hJ hg;have hm:∀q,q∈Eb (jg d g)↔jF d.ay q=true∧∀k,k<d.ay.length->0<=g.getD k 0->g.getD k 0=q.getD k 0:=fun q=>by
  unfold Eb;rw[a8e,Ht hj,a1T];constructor
  .exact fun h=>⟨h.1,(Hq hj (pq h.1)).1 h.2⟩
  exact fun h=>⟨h.1,(Hq hj (pq h.1)).2 h.2⟩
 unfold lkF;rw[AQ,SK];constructor
 .intro h;have h:0<((Eb (jg d g)).map (wK d)).count v:=by omega
  obtain⟨q,hq,e⟩:=a1L.1 (agx.1 h);obtain⟨h1,h2⟩:=(hm q).1 hq;exact⟨q,h1,h2,e⟩
 rintro⟨q,h1,h2,e⟩;have:0<((Eb (jg d g)).map (wK d)).count v:=agx.2 (a1L.2 ⟨q,(hm q).2 ⟨h1,h2⟩,e⟩);omega
variable {h:List Int} (h1:jF d.ay h=true) (h2:wK d h=v) (h3:∀ q,jF d.ay q=true->wK d q=v->kG d.ay h<=kG d.ay q)
def GA(d:Dg)(h:List Int)(c:Nat)(g:List Int):Prop:=g.length=d.ay.length∧∀k,k<d.ay.length->g.getD k 0=if k<c then h.getD k 0 else -1
omit hJ in
include h1 in
theorem GA.ok{c:Nat}{g:List Int}(hg:GA d h c g):Zy d g:=by
 refine⟨hg.1,fun c2 I4 h0=>?_⟩;have hc3:c2.toNat<d.ay.length:=by obtain⟨a,b⟩:=I4;omega
 rw[hg.2 _ hc3]at h0 ⊢;split at h0
 .rename_i e;rw[a0V e];exact((nK.1 h1).2 _ hc3).2
 omega
include h1 h2 h3
theorem a88{c:Nat}(hc:c<d.ay.length){g:List Int}(hg:GA d h c g):∀(m k:Nat) (g2:List Int),(∀j:Int,g2.set c j=g.set c j)->(k:Int)<=h.getD c 0->h.getD c 0<(k:Int)+(m:Int)->oIn (lq (gIn d v c) m k g2)=g.set c (h.getD c 0)
 | 0,k,g2,_,a,b=>by omega
 |m+1,k,g2,he,a,b=>by
  have hr:=(nK.1 h1).2 c hc;have gk:Zy d (g.set c (k:Int)):=(GA.ok h1 hg).set (c:=c) (k:=k) (by show(k:Int)<d.ay.getD c 0;omega);have gt:∀(j:Int) (i:Nat),i<d.ay.length->(g.set c j).getD i 0=if i=c then j else g.getD i 0:=fun j i hi=>by
   by_cases e:c=i
   .subst e;rw[a0V rfl,a3d,a1V (by rw[hg.1];exact hc),a4s]
   rw[a0S (fun x=>e x.symm),a3d,a1M e,<-a3d]
  have e0:gIn d v c k g2=if decide (lkF d v (g.set c (k:Int))>0)=true then .inr (g.set c (k:Int),k)else .inl (g.set c (k:Int)):=by
   unfold gIn;simp only[a5m,he]
  simp only[lq];rw[e0];by_cases e:(k:Int)=h.getD c 0
  .have:0<lkF d v (g.set c (k:Int)):=(a81 hJ gk).2 ⟨h,h1,fun i hi h0=>by
    rw[gt _ i hi]at h0 ⊢;by_cases e2:i=c
    .rw[a0V e2,e2];exact e
    rw[a0S e2]at h0 ⊢;rw[hg.2 i hi]at h0 ⊢;split at h0
    .rename_i c2;rw[a0V c2]
    omega,h2⟩
   rw[a0V (by simpa using this)];show g.set c (k:Int)=_;rw[e]
  have:¬0<lkF d v (g.set c (k:Int)):=fun hp=>by
   obtain⟨q,q1,q2,q3⟩:=(a81 hJ gk).1 hp;have:=a1A hJ.eu.sz h1 q1 (h3 q q1 q3) c hc fun i hi=>by
    have:=q2 i (by omega);rw[gt _ i (by omega),a0S (by omega),hg.2 i (by omega),a0V hi]at this;exact this ((nK.1 h1).2 i (by omega)).1
   have e2:=q2 c hc;rw[gt _ c hc,a0V rfl]at e2;have e2:=e2 (by omega);omega
  rw[a0S (by simpa using this)];show oIn (lq (gIn d v c) m (k+1) (g.set c (k:Int)))=_;exact a88 hc hg m (k+1) _ (fun j=>by rw[List.set_set]) (by omega) (by omega)
theorem aaT:aW (Pn d v) d.ay.length 0 (dH [d]).g=h:=by
 have h0:GA d h 0 (dH [d]).g:=⟨hJ.gl,fun k hk=>by
  rw[a0S (by omega)];show(List.replicate d.ay.length (-1:Int)).getD k 0=-1;rw[a3d,acQ,a0V hk];rfl⟩
 have:=dW (g:=Pn d v) (m:=d.ay.length) (k:=0) (s:=(dH [d]).g) (GA d h) h0 (fun c g _ hc hg=>by
  have hc:c<d.ay.length:=by omega
  have hr:=(nK.1 h1).2 c hc;have e:Pn d v c g=g.set c (h.getD c 0):=by
   unfold Pn;exact a88 hJ h1 h2 h3 hc hg (nIn d c) 0 g (fun _=>rfl) (by omega) (by unfold nIn;rw[a5m];omega)
  rw[e];refine⟨by rw[a3W];exact hg.1,fun k hk=>?_⟩;by_cases e2:c=k
  .subst e2;rw[a0V (by omega),a3d,a1V (by rw[hg.1];exact hc),a4s]
  rw[a3d,a1M e2,<-a3d,hg.2 k hk];by_cases e3:k<c
  .rw[a0V e3,a0V (by omega)]
  rw[a0S e3,a0S (by omega)])
 rw[a3E]at this;refine(rC (d:=(0:Int)) (by rw[this.1,pq h1])).2 fun k hk=>?_;rw[this.1]at hk;rw[this.2 k hk,a0V hk]
end
open Go Tw Pv cO
theorem ZE{d:Dg}{v:V}(h:(!(nP (d,v)).2)=true):(cellsD d).count v=0:=by
 unfold nP at h;split at h
 .rename_i x e;have h2:=dQ.1 (show jU (bG (cFt (cellsD d) v) (cellsD d).length)=true by rw[show bG (cFt (cellsD d) v) (cellsD d).length=.inl x from e];rfl);refine List.count_eq_zero.2 fun hm=>?_;obtain⟨k,hk,e2⟩:=aaZ hm;have:=h2 k hk;unfold cFt at this;rw[a3d,a0E hk,a4s,e2]at this;simp at this
 cases h
theorem ZF{d:Dg}{v:V}(hz:oG d.ay)(h:(!(nP (d,v)).2)=false):jF d.ay (nP (d,v)).1=true∧wK d (nP (d,v)).1=v∧∀q,jF d.ay q=true->wK d q=v->kG d.ay (nP (d,v)).1<=kG d.ay q:=by
 have hc:(Fb d.ay:Int)=bf d.ay:=by
  have:=iL hz;unfold Fb;omega
 unfold nP at h ⊢;split at h
 .cases h
 rename_i k e;have e:bG (cFt (cellsD d) v) (cellsD d).length=.inr k:=e;obtain⟨j,hj,h1,h2,h3⟩:=GX (show jU (bG (cFt (cellsD d) v) (cellsD d).length)=false by rw[e];rfl);rw[e]at h3;have:k=j:=by injection h3
 subst this;rw[Pq]at hj;have g:∀i,i<Fb d.ay->(cellsD d).getD i V0=wK d (lu d.ay (i:Int)):=fun i hi=>by
  unfold cellsD;rw[a3d,a3V,agr hi];rfl
 refine⟨DK _ hz,?_,fun q q1 q2=>?_⟩
 .rw[<-g k hj];simpa[cFt]using h1
 have r:=wI q1 hz;show kG d.ay (lu d.ay (k:Int))<=_;rw[LG hz (by omega) (by omega)];by_cases c:(k:Int)<=kG d.ay q
 .exact c
 exfalso;have h4:=h2 (kG d.ay q).toNat (by omega);unfold cFt at h4;rw[g _ (by omega),show(((kG d.ay q).toNat:Nat):Int)=kG d.ay q by omega,LH q1 hz,q2]at h4;simp at h4
def oc4:eU aF:=bZ 4 (a2 dA vA) tA (fun _=>true) (fun p=>[KF p.1]) al1
theorem gc4:Gd oc4:=aq1.add fun n hO p hp=>by
 obtain⟨d,v⟩:=p;have hr:KF d:=hp _ (.head _);cases ht:(!(Jm d))
 .have ht:Jm d=true:=by simpa using ht
  obtain⟨hf,h1,h2,h3,h4⟩:=XU ht;have hP:=afV ht hr;have ec:=aaS hP;have ho:d.aG.length<=ah:=hf.o;have he:d.aO.length<=ah:=hf.e;have ev:iV v=if(!(vOk v))=true then 2 else 0:=by unfold iV;rw[ZC]
  have qm:uM (d,v)=if(lF d != 0)=true then(0,lF d)else if(iV v != 0)=true then(0,4)else(look (dF (dH [d])) v,0):=by unfold uM;rw[ec]
  have qa:jI (d,v)=if(lF d != 0)=true then([],lF d)else if(iV v != 0)=true then([],4)else if(look (dF (dH [d])) v==0)=true then([],7)else(aW (Pn d v) d.ay.length 0 (dH [d]).g,0):=by unfold jI;rw[ec]
  cases e1:(lF d==0)
  .have e2:(lF d != 0)=true:=by show(!(lF d==0))=true;rw[e1];rfl
   rw[a0V e2]at qm qa;have t1:((uM (d,v)).2==lF d)=true:=by rw[qm];exact beq_self_eq_true _
   have t2:((jI (d,v)).2==lF d)=true:=by rw[qa];exact beq_self_eq_true _
   have t3:((uM (d,v)).1==0)=true:=by rw[qm];rfl
   have t4:(((jI (d,v)).1.length:Int)==0)=true:=by rw[qa];rfl
   exact aK hO (.b (congrArg Bool.not ht) (.o hf (.o hP (.o hf (.o hP (.o ho (.o he (.b e1 (.b e2 (.b t1 (.b t2 (.b t3 (.b t4 .rr)))))))))))))
  .have h0:lF d=0:=(by simpa using e1);have e2:(lF d != 0)=false:=by rw[h0];rfl
   have hL:=a1y ho he e1;have hl:(cellsD d).length<=ah:=by rw[Pq];have:=hL.f.Fb;have:=hL.f.a5S;have:=hL.f.many;unfold ah;omega
   rw[a0S (by rw[e2];simp)]at qm qa;cases e3:(!(vOk v))
   .have e4:iV v=0:=(by rw[ev,a0S (by rw[e3];simp)]);rw[e4]at qm qa;have hJ:jL (dH [d]):=yF (D:=[d]) (by simp) (by simp) (a3s hP) (by rw[ec];exact h0);have el:=a7Z hJ v hl;rw[a0S (by simp)]at qm qa;have t1:((uM (d,v)).2 != 0)=false:=by rw[qm];rfl
    have t2:((uM (d,v)).1 != IV (cellsD d) v)=false:=by rw[qm];show(look (dF (dH [d])) v != IV (cellsD d) v)=false;rw[el];simp
    cases e5:(!(nP (d,v)).2)
    .obtain⟨f1,f2,f3⟩:=ZF hL.f.sz e5;have e6:(look (dF (dH [d])) v==0)=false:=by
      rw[AQ,Jo hJ];have:0<(cellsD d).count v:=by
       refine agx.2 ?_;have hm:=(Ht hJ).2 f1;obtain⟨k,hk,e⟩:=a1L.1 hm;exact a1L.2 ⟨k,hk,by have e:lu d.ay (k:Int)=_:=e;show wK d (lu d.ay (k:Int))=v;rw[e,f2]⟩
      simp;omega
     rw[a0S (by rw[e6];simp),aaT hJ f1 f2 f3]at qa;have t3:((jI (d,v)).2==0)=true:=by rw[qa];rfl
     have t4:(jI (d,v)).1.length<=ah:=by rw[qa];show(nP (d,v)).1.length<=ah;rw[pq f1];exact hf.s
     have t5:decide ((jI (d,v)).1=(nP (d,v)).1)=true:=by rw[qa];simp
     exact aK hO (.b (congrArg Bool.not ht) (.o hf (.o hP (.o hf (.o hP (.o ho (.o he (.b e1 (.b e3 (.b e2 (.o hL (.o hl (.b t1 (.o hL (.o hl (.b t2 (.b e5 (.b t3 (.o t4 (.b t5 .rr))))))))))))))))))))
    .have e6:(look (dF (dH [d])) v==0)=true:=by rw[AQ,Jo hJ,ZE e5];rfl
     rw[a0V e6]at qa;have t3:((jI (d,v)).2==7)=true:=by rw[qa];rfl
     have t4:(((jI (d,v)).1.length:Int)==0)=true:=by rw[qa];rfl
     exact aK hO (.b (congrArg Bool.not ht) (.o hf (.o hP (.o hf (.o hP (.o ho (.o he (.b e1 (.b e3 (.b e2 (.o hL (.o hl (.b t1 (.o hL (.o hl (.b t2 (.b e5 (.b t3 (.b t4 .rr)))))))))))))))))))
   .have e4:(iV v != 0)=true:=by rw[ev,a0V e3];rfl
    rw[a0V e4]at qm qa;have t1:((uM (d,v)).2==4)=true:=by rw[qm];rfl
    have t2:((jI (d,v)).2==4)=true:=by rw[qa];rfl
    have t3:((uM (d,v)).1==0)=true:=by rw[qm];rfl
    have t4:(((jI (d,v)).1.length:Int)==0)=true:=by rw[qa];rfl
    exact aK hO (.b (congrArg Bool.not ht) (.o hf (.o hP (.o hf (.o hP (.o ho (.o he (.b e1 (.b e3 (.b (rfl:((4:Int) != 0)=true) (.b t1 (.b t2 (.b t3 (.b t4 .rr))))))))))))))
 .exact aK hO (.b ht .rr)
end Go.Proofs.YtmobpoiejckagaaGreat
namespace Tw
open Go Go.ChangeShapes Go.WideShapes Go.RowKit
theorem SL{H:Type}{enc:TypeId×Value->H}{P:Program}{w:World}{t:TypeId}{ts:List TypeId}{vs:List Value}{ds:List (DataW H)}{ps:List MemPlace}(h:DataW.TrodAll enc P w 0 (fun _=>true) true (t::ts) vs ds ps):∃d e,ds=d::e∧Rd enc P w t d∧∃vs ps,DataW.TrodAll enc P w 0 (fun _=>true) true ts vs e ps:=by
 obtain⟨v,vs',d,ds',p,q,rfl,rfl,rfl,⟨fuel,hd⟩,N8⟩:=trodAll_cons h;exact⟨d,ds',rfl,⟨_,fuel,p,hd⟩,_,_,N8⟩
section
variable {H:Type} {P:Program} {g:Nat} {t:TypeId} {ts:List TypeId} {d:DataW H} {ds:List (DataW H)} {h h1 h2:List HB} {xs:List TV}
theorem a8a{cs:List TV}(ha:vO P t=some true)(he:E8 P g t d h=some (cs,h1))(hr:TQ P g ts ds h1=some (xs,h2)):TQ P g (t::ts) (d::ds) h=some (.agg cs::xs,h2):=by
 simp only[TQ,he,ha,hr]
theorem afY:TQ (H:=H) P g [] [] h=some ([],h):=rfl
end
end Tw
namespace Pv
open Go Tw
section
variable {X:kC} {P:Program} {H:Type} {mO:TypeId×Value->H} {w:World}
abbrev AT:Nat->Prop:=fun _=>True
def RdP(mO:TypeId×Value->H)(X:kC)(P:Program)(w:World)(g t:Nat){α:Type}(ps:α->List (PV X.Γ))(Q:α->Prop):Prop:=
 ∀d,Rd mO P w t d->∃a,Q a∧∀h,∃xs ext,E8 P g t d h=some (xs,h++ext)∧∀e,bU X P AT [] (h++ext++e) (ps a) xs
theorem a1B{t g:Nat}{k:IntKind}(ht:P.underlying t=some (.int k)):RdP mO X P w (g+1) t (fun n:Int=>[.int k n]) (fun n=>(Lit.int k n).wf=true):=fun d hd=>by
 obtain⟨n,rfl,hn⟩:=aen ht hd;exact⟨n,hn,fun h=>⟨[.int k n],[],by simp[E8,ht],fun e=>.cons (.int _ _) .nil⟩⟩
theorem SN{e g sz:Nat}{Q:X.Γ e->Prop}(hlen:∀a,(X.enc e a).length=sz)(hr:RdP mO X P w g e (X.enc e) Q):∀(ds:List (DataW H)),(∀y∈ds,Rd mO P w e y) ->
  ∃l:List (X.Γ e),l.length=ds.length∧(∀a∈l,Q a)∧∀h,∃cs ext,VJ (E8 P g e) sz ds h=some (cs,h++ext)∧cs.length=l.length*sz∧∀e2 (j:Nat) a (i:Nat) c v,l[j]? = some a->(X.enc e a)[i]? = some c->cs[j*sz+i]? = some v->VR X P AT [] (h++ext++e2) c v
 | [],_=>⟨[],rfl,by simp,fun h=>⟨[],[],by simp[VJ],by simp,fun e2 j a i c v h1=>by simp at h1⟩⟩
 |d::ds,hd=>by
  obtain⟨a,qa,ha⟩:=hr d (hd d (a3u ..));obtain⟨l,l1,l2,l3⟩:=SN hlen hr ds fun y hy=>hd y (a3w _ hy);refine⟨a::l,by simp[l1],fun b hb=>(a2t.1 hb).elim (fun e=>e▸qa) (l2 b),fun h=>?_⟩;obtain⟨xs,e1,h1,v1⟩:=ha h;obtain⟨cs,e2,h2,c2,v2⟩:=l3 (h++e1);have hx:xs.length=sz:=by rw[<-(v1 []).1];exact hlen a
  refine⟨xs++cs,e1++e2,?_,by simp only[a2m,a3J,hx,c2,a3A];omega,fun e3 j b i c v hj hi hv=>?_⟩
  .simp only[VJ,h1,hx,a2D,h2,a5I]
  .cases j with
   |zero=>
    simp only[a2I,a01]at hj;subst hj;have Kq:i<sz:=by rw[<-hlen a];exact(a02.1 hi).1
    rw[acr,a3E,a0N (by omega)]at hv;have:=(v1 (e2++e3)).2 i c v hi hv;simp only[a5I]at this ⊢;exact this
   |succ j=>
    rw[a9b]at hj;rw[a1H (by rw[hx,a3A];omega),hx,show(j+1)*sz+i-sz=j*sz+i by rw[a3A];omega]at hv;have:=v2 e3 j b i c v hj hi hv;simp only[a5I]at this ⊢;exact this
theorem Px{t e g sz:Nat}{Q:X.Γ e->Prop}(ht:P.underlying t=some (.slice e))(uN:P.cellsOf e=sz)(hz:dw P e=some sz)(h0:0<sz)(hlen:∀a,(X.enc e a).length=sz)(hr:RdP mO X P w g e (X.enc e) Q):RdP mO X P w (g+1) t (fun l:List (X.Γ e)=>[.dn e l false]) (fun l=>∀a∈l,Q a):=fun d hd=>by
 rcases a5V ht hd with rfl|⟨xs,ys,rfl,hy⟩
 .exact⟨[],by simp,fun h=>⟨[.nil .slc],[],by simp[E8,ht],fun e=>.cons .o7 .nil⟩⟩
 .obtain⟨l,l1,l2,l3⟩:=SN hlen hr (xs++ys) hy;have hl:xs.length<=l.length:=by rw[l1,a2m];omega
  refine⟨l.take xs.length,fun a ha=>l2 a (a8Z ha),fun h=>?_⟩;obtain⟨cs,e1,h1,c1,v1⟩:=l3 h;refine⟨[.slc (h++e1).length 0 xs.length (xs.length+ys.length) sz true],e1++[.cells .ro cs],?_,fun e2=>.cons ?_ .nil⟩
  .have iq:¬sz=0:=(by omega);simp only[E8,ht,uN,h1,iq,a3x,a5I]
  .have hln:(l.take xs.length).length=xs.length:=(by rw[a3B,a8d hl]);have hb:(h++(e1++[HB.cells .ro cs])++e2)[(h++e1).length]? = some (.cells .ro cs):=by
    rw[show h++(e1++[HB.cells .ro cs])++e2=(h++e1)++(HB.cells .ro cs::e2) by simp,a1H (a1J _),agh];rfl
   have vV:(l.take xs.length).length<=xs.length+ys.length:=(by omega);have rM:∀(j:Nat) a,(l.take xs.length)[j]? = some a->l[j]? = some a:=fun j a hj=>by
    rw[a3O]at hj;split at hj
    .exact hj
    .cases hj
   have hle:(l.take xs.length).length*sz<=cs.length:=by rw[c1,hln];exact a3z sz hl
   generalize xs.length+ys.length=cp at vV ⊢;generalize l.take xs.length=l' at vV rM hle hln ⊢;rw[<-hln];exact VR.dn (X:=X) (P:=P) (A:=AT) (m:=[]) (t:=e) (l:=l') (fu:=false) (b:=(h++e1).length) (off:=0) (cap:=cp) (sz:=sz) (ex:=true) (cs:=cs) trivial (by unfold aU;rw[hb]) (fun _=>by unfold lH;rw[hb];simp) hz h0 (by omega) vV (by simp) (fun j a _=>hlen a) (fun j a i c v hj hi hv=>by
    rw[a3E]at hv;have:=v1 ([HB.cells .ro cs]++e2) j a i c v (rM j a hj) hi hv;simp only[a5I]at this ⊢;exact this)
def RdF(mO:TypeId×Value->H)(X:kC)(P:Program)(w:World)(g o:Nat)(fs:List Field){α:Type}(ps:α->List (PV X.Γ))(Q:α->Prop):Prop:=
 ∀ds:List (DataW H),ds.length=fs.length->(∀(i:Nat) f d,fs[i]? = some f->ds[i]? = some d->Rd mO P w f.type d)->∃a,Q a∧∀h,∃xs ext,NH P (E8 P g) o fs ds h=some (xs,h++ext)∧∀e,bU X P AT [] (h++ext++e) (ps a) xs
theorem V4{g o:Nat}:RdF mO X P w g o [] (fun _:Unit=>[]) (fun _=>True):=fun ds hl _=>by
 have:=a3F hl;subst this;exact⟨(),trivial,fun h=>⟨[],[],by simp[NH],fun e=>.nil⟩⟩
theorem rJ{g o n:Nat}{f:Field}{fs:List Field}{α β:Type}{p1:α->List (PV X.Γ)}{p2:β->List (PV X.Γ)}{Q1:α->Prop}{Q2:β->Prop}(ho:f.offset=o)(hc:P.cellsOf f.type=n)(hn:∀a,(p1 a).length=n)(h1:RdP mO X P w g f.type p1 Q1)(h2:RdF mO X P w g (o+n) fs p2 Q2):RdF mO X P w g o (f::fs) (fun x:α×β=>p1 x.1++p2 x.2) (fun x=>Q1 x.1∧Q2 x.2):=fun ds hl hd=>by
 cases ds with
 |nil=>cases hl
 |cons d ds=>
  obtain⟨a,qa,ha⟩:=h1 d (hd 0 f d rfl rfl);obtain⟨b,qb,hb⟩:=h2 ds (by simpa using hl) fun i f' d' e1 e2=>hd (i+1) f' d' e1 e2;refine⟨(a,b),⟨qa,qb⟩,fun h=>?_⟩;obtain⟨xs,e1,g1,v1⟩:=ha h;obtain⟨ys,e2,g2,v2⟩:=hb (h++e1);have hx:xs.length=n:=by rw[<-(v1 []).1];exact hn a
  refine⟨xs++ys,e1++e2,?_,fun e=>?_⟩
  .simp only[NH,g1,ho,hx,hc,acG,a2D,g2,a5I]
  .have w1:=v1 (e2++e);have w2:=v2 e;simp only[a5I]at w1 w2 ⊢;exact w1.app w2
theorem FC{t g n:Nat}{fs:Array Field}{α:Type}{ps:α->List (PV X.Γ)}{Q:α->Prop}(ht:P.underlying t=some (.struct fs))(hc:P.cellsOf t=n)(hn:∀a,(ps a).length=n)(hf:RdF mO X P w g 0 fs.toList ps Q):RdP mO X P w (g+1) t ps Q:=fun d hd=>by
 obtain⟨ds,rfl,hl,Jv⟩:=a2B ht hd;obtain⟨a,qa,ha⟩:=hf ds (by simpa using hl) fun i f d e1 e2=>Jv i f d (by simpa using e1) e2;refine⟨a,qa,fun h=>?_⟩;obtain⟨xs,e1,g1,v1⟩:=ha h;have hx:xs.length=n:=by rw[<-(v1 []).1];exact hn a
 refine⟨xs,e1,?_,v1⟩;rw[WT ht,g1];simp[hx,hc]
theorem RdP.iso{t g:Nat}{α β:Type}{ps:α->List (PV X.Γ)}{Q:α->Prop}(h:RdP mO X P w g t ps Q)(f:α->β){p2:β->List (PV X.Γ)}{Q2:β->Prop}(hp:∀a,p2 (f a)=ps a)(hq:∀a,Q a->Q2 (f a)):RdP mO X P w g t p2 Q2:=fun d hd=>by
 obtain⟨a,qa,ha⟩:=h d hd;exact⟨f a,hq a qa,fun h=>by rw[hp];exact ha h⟩
theorem afZ{T:qy}{L n f:Nat}{vs:List (PV X.Γ)}{xs:List TV}{h:List HB}(hc:nR X P (kJ P T L (n+1)) f vs (PV.bool true) [])(hv:bU X P AT [] h vs xs):∃h',kJ P T L (n+1) (TV.fn f [] []) xs h=some (TV.bool true,h',[]):=by
 obtain⟨x,h',m',c1,_,c3,_⟩:=hc AT h [] xs [] (fun _ _=>trivial) (by simpa using hv);have:x=TV.bool true:=by
  cases c3 with
  |bool=>rfl
  |gone hi _ _=>simp[bg]at hi
 subst this;exact⟨h',c1⟩
end
end Pv
namespace Go.Proofs.YtmobpoiejckagaaGreat
open Go Tw Pv
section
variable {H:Type} {mO:TypeId×Value->H} {w:World}
abbrev RdX(mO:TypeId×Value->H)(w:World)(g t:Nat){α:Type}(ps:α->List (PV aF))(Q:α->Prop):Prop:=RdP mO X0 Tryz.prog w g t ps Q
theorem a1C:Tryz.prog.cellsOf 3=1:=by kernel_rfl
theorem aq3:Tryz.prog.cellsOf 5=1:=by kernel_rfl
theorem ad2:Tryz.prog.cellsOf 39=2:=by kernel_rfl
theorem zI0:dw Tryz.prog 3=some 1:=by kernel_rfl
theorem aaU{g:Nat}:RdX mO w (g+1) 3 (fun n:Int=>[.int .i64 n]) (fun n=>(Lit.int .i64 n).wf=true):=a1B Tryz.underlying3
theorem rU8{g:Nat}:RdX mO w (g+1) 5 (fun n:Int=>[.int .u8 n]) (fun n=>0<=n∧n<=255):=(a1B Tryz.underlying5).iso id (fun _=>rfl) fun n h=>by
 simp only[Lit.wf,a2r,a1T]at h;exact h
theorem a8b{g:Nat}:RdX mO w (g+2) 22 (fun l:List Int=>[lI l]) (fun l=>∀a∈l,(Lit.int .i64 a).wf=true):=Px (e:=3) Tryz.underlying22 a1C zI0 (by decide) (fun _=>rfl) aaU
theorem al2{g:Nat}:RdX mO w (g+2) 39 V.ps (fun v=>0<=v.f∧v.f<=255):=
 (FC Tryz.underlying39 ad2 (fun _=>rfl) (rJ rfl aq3 (fun _=>rfl) rU8 (rJ rfl a1C (fun _=>rfl) aaU V4))).iso (fun x=>⟨x.1,x.2.1⟩) (fun _=>rfl) fun _ h=>h.1
theorem al3:dw Tryz.prog 39=some 2:=by kernel_rfl
theorem al4{g:Nat}:RdX mO w (g+3) 23 (fun l:List V=>[lV l]) (fun l=>∀v∈l,0<=v.f∧v.f<=255):=Px (e:=39) Tryz.underlying23 ad2 al3 (by decide) (fun _=>rfl) al2
theorem ag0:Tryz.prog.cellsOf 22=1:=by kernel_rfl
end
open Go Tw Pv cO
section
variable {H:Type} {mO:TypeId×Value->H} {w:World}
theorem al5:Tryz.prog.cellsOf 105=2:=by kernel_rfl
theorem aq4:dw Tryz.prog 105=some 2:=by kernel_rfl
theorem al6:Tryz.prog.cellsOf 24=1:=by kernel_rfl
theorem aq5:Tryz.prog.cellsOf 23=1:=by kernel_rfl
theorem aq6:Tryz.prog.cellsOf 26=5:=by kernel_rfl
theorem rBr{g:Nat}:RdX mO w (g+3) 105 Br.ps (fun b=>∀a∈b.aA,(Lit.int .i64 a).wf=true):=
 (FC Tryz.underlying105 al5 (fun _=>rfl) (rJ rfl a1C (fun _=>rfl) aaU (rJ rfl ag0 (fun _=>rfl) a8b V4))).iso (fun x=>⟨x.1,x.2.1⟩) (fun _=>rfl) fun _ h=>h.2.1
theorem aq7{g:Nat}:RdX mO w (g+4) 24 (fun l:List Br=>[lBr l]) (fun l=>∀b∈l,∀a∈b.aA,(Lit.int .i64 a).wf=true):=Px (e:=105) Tryz.underlying24 al5 aq4 (by decide) (fun _=>rfl) rBr
theorem a8c{a:Int}(h:(Lit.int .i64 a).wf=true):KE a:=by
 simp only[Lit.wf,a2r,a1T]at h;obtain⟨h1,h2⟩:=h;have e1:i64.min=-(2^63):=by decide
 have e2:i64.max=2^63-1:=by decide
 exact⟨by omega,by omega⟩
theorem rDg{g:Nat}:RdX mO w (g+5) 26 Dg.ps KF:=
 (FC Tryz.underlying26 aq6 (fun _=>rfl) (rJ rfl ag0 (fun _=>rfl) a8b (rJ rfl ag0 (fun _=>rfl) a8b (rJ rfl aq5 (fun _=>rfl) al4 (rJ rfl al6 (fun _=>rfl) aq7 (rJ rfl a1C (fun _=>rfl) aaU V4)))))).iso (fun x=>⟨x.1,x.2.1,x.2.2.1,x.2.2.2.1,x.2.2.2.2.1⟩) (fun _=>rfl) fun x h=>by
  obtain⟨_,_,h3,h4,h5,_⟩:=h;refine⟨fun i hi k hk=>?_,a8c h5,fun v hv=>(h3 v hv).1⟩;have hb:fA ⟨x.1,x.2.1,x.2.2.1,x.2.2.2.1,x.2.2.2.2.1⟩ i∈x.2.2.2.1:=by
   show(x.2.2.2.1).getD i mP∈_;rw[List.getD,a0E hi];exact a4d _
  refine a8c (h4 _ hb _ ?_);rw[List.getD,a0E hk];exact a4d _
end
open Go.ChangeShapes Go.WideShapes Go.ChangeAt Go.RowKit
theorem Tryz.own:ownKnob Tryz.prog.godebug=none:=by kernel_rfl
theorem Tryz.laidOut:laidOutB Tryz.prog=true:=by kernel_rfl
theorem Tryz.mixed:Tryz.prog.follows .mixedOrders=true:=by kernel_rfl
theorem ag2:iw Tryz.prog T.ext:=by
 show iw Tryz.prog aem;intro fv args h v h' ws hc;unfold aem at hc;split at hc
 .split at hc
  .exact a9u (YA (T:=Tm) Tryz.mixed (fun _ _ _ _ _ _ h=>by cases h) 2) _ _ _ _ _ _ hc
  exact WQ abv _ _ _ _ _ _ hc
 exact WQ abv _ _ _ _ _ _ hc
theorem Tryz.tys4:Tryz.f4.params.toList=[26,39]:=by kernel_rfl
set_option maxRecDepth 100000 in
theorem FD(os:Os)(started:os.Started)(H:Type)(enc:TypeId×Value->H) :
  ReturnsInHanded {} Tryz.checked os 4 .any (Rows.applyCountsSpec.pre6 enc Tryz.prog Tryz.f4 Rows.applyCountsRow.domain false) (Rows.applyCountsSpec.post enc Tryz.prog Tryz.f4 false true false false):=by
 refine returnsInHanded_of_change (C:=Tryz.checked) Tryz.own started (by kernel_rfl) Tryz.func4
  (ChangeSpec.witness6 (enc:=enc) (C:=Tryz.checked) false ⟨#[],#[.agg #[.slice none 0 0,.slice none 0 0,.slice none 0 0,.slice none 0 0,.int .i64 0],.agg #[.int .u8 0,.int .i64 0]],[]⟩ 8 (by kernel_rfl) (by kernel_rfl) (by kernel_rfl) (by kernel_rfl)) ?_
 intro W base args ds gs before al7 hW auy _;have adu:∀(j:Nat) t v,Tryz.f4.params[j]? = some t->args[j]? = some v->Value.okWide Tryz.prog W .any base t v:=al7;have hW':=hW;obtain⟨p,q,aq8,hV,rfl,hfz,jk⟩:=hW;have hTA:DataW.TrodAll enc Tryz.prog W 0 (fun _=>true) true Tryz.f4.params.toList args.toList ds p:=aq8;obtain⟨rfl,rfl⟩:=trodVars_none hV;rw[Tryz.tys4]at hTA;obtain⟨d0,_,rfl,r0,_,_,hTA⟩:=SL hTA;obtain⟨d1,_,rfl,r1,_,_,hTA⟩:=SL hTA;obtain⟨_,rfl,_⟩:=trodAll_nil hTA;obtain⟨a0,q0,h0⟩:=rDg (g:=2) d0 r0;obtain⟨a1,q1,h1⟩:=al2 (g:=5) d1 r1;obtain⟨x0,e0,g0,v0⟩:=h0 ([]);obtain⟨x1,e1,g1,v1⟩:=h1 ([]++e0);have w0:=v0 (e1);simp only[a5I,abk,a6h]at w0;have w1:=v1 ([]);simp only[a5I,abk,a6h]at w1;obtain⟨N,hN⟩:=gc4;have aq9:=hN (N+1) (by omega) 4 ((Pv.a2 dA vA).put (a0,a1)) (tA.put true) [] [KF a0] rfl (by
  intro p hp;simp only[a2t,List.not_mem_nil,or_false]at hp;subst hp;exact q0)
 obtain⟨h',hr⟩:=afZ (h:=[]++e0++e1) aq9 (by simp only[a5I,abk,a6h];exact .cons (.agg w0.1 w0.2) (.cons (.agg w1.1 w1.2) .nil));exact YB (P:=Tryz.prog) (T:=T) (L:=LL) (n:=N) (g:=7) Tryz.mixed Tryz.laidOut rfl rfl (by kernel_rfl) Tryz.underlying4 (by kernel_rfl) hW' adu
  (by rw[Tryz.tys4];exact(a8a (by kernel_rfl) g0 (a8a (by kernel_rfl) g1 afY))) ag2 (by kernel_rfl) (by kernel_rfl) hr
theorem FH:joinedFacts Tryz.pinned.checked.prog 4 Tryz.f4 Rows.applyCountsSpec Rows.applyCountsRow=true:=by kernel_rfl
theorem ApplyCounts_holds:Rows.ApplyCountsSaid:=
 OpenClaim.holds_of_wide 4 Tryz.f4 rfl rfl rfl rfl rfl rfl rfl ⟨rfl,rfl,rfl,rfl,rfl⟩ rfl rfl rfl rfl rfl (by kernel_rfl) Tryz.func4 FH
  (a7Q (by kernel_rfl)) (by unfold Func.isWrapper;first|(rw[a0V (by decide +kernel)];kernel_rfl)|(rw[a0S (by decide +kernel)];exact⟨rfl,rfl⟩))
  (fun os started H enc _=>FD os started H enc)
end Go.Proofs.YtmobpoiejckagaaGreat
