/- The answer to any query about any diagram, where any condition is met, is the document's, or the error is; for all queries and diagrams. -/
import Derived.ProofKit
import Derived.Test.YtmobpoiejckagaaGreatRows
import Derived.Test.YtmobpoiejckagaaGreatP05
set_option linter.constructorNameAsVariable false
set_option linter.unusedVariables false
set_option linter.unusedSimpArgs false
set_option linter.unusedSectionVars false
open Go.IntKind (i64)
noncomputable section
namespace Go.Proofs.YtmobpoiejckagaaGreat
open Go Tw Pv bW
theorem akz{n:Nat}(hO:Ok n qo){k:Int}(hk:0<=k∧k<=6):aX X0 Qp (bQ (n+1)) (.fn 124 [] []) [.own 0,.int .i64 k] [.list true true 3 ([-1]:List Int)] (.own 1) [.list true true 3 ([-1]:List Int),.list true true 3 (List.replicate k.toNat (-1):List Int)]:=by
 rcases a7g hk with rfl|rfl|rfl|rfl|rfl|rfl|rfl
 .exact fP hO (first:=[]) (cap:=[]) (.b (rfl:decide ((0:Int)<0)=false) (.o (rfl:(1:Int)=1) (.o (⟨by decide,by decide⟩:(0:Int)<=0∧(0:Int)<=6) (.b (rfl:decide ((0:Int)>0)=false) (.b (rfl:decide ((0:Int)>9223372036854775807)=false) (.o (rfl:(0:Int)=0) (.o (show(0:Int)<=0 by decide) (.o (show(0:Int)<=(ah:Int) by decide) (.m 8 le8 (.b (rfl:decide ((0:Int)<0)=false) .er))))))))))
 .exact fP hO (first:=[]) (cap:=[]) (.b (rfl:decide ((1:Int)<0)=false) (.o (rfl:(1:Int)=1) (.o (⟨by decide,by decide⟩:(0:Int)<=1∧(1:Int)<=6) (.b (rfl:decide ((0:Int)>0)=false) (.b (rfl:decide ((1:Int)>9223372036854775807)=false) (.o (rfl:(1:Int)=1) (.o (show(0:Int)<=1 by decide) (.o (show(1:Int)<=(ah:Int) by decide) (.m 8 le8 (.b (rfl:decide ((1:Int)<1)=false) .er))))))))))
 .exact fP hO (first:=[]) (cap:=[]) (.b (rfl:decide ((2:Int)<0)=false) (.o (rfl:(1:Int)=1) (.o (⟨by decide,by decide⟩:(0:Int)<=2∧(2:Int)<=6) (.b (rfl:decide ((0:Int)>0)=false) (.b (rfl:decide ((2:Int)>9223372036854775807)=false) (.o (rfl:(2:Int)=2) (.o (show(0:Int)<=2 by decide) (.o (show(2:Int)<=(ah:Int) by decide) (.m 8 le8 (.b (rfl:decide ((1:Int)<2)=true) (.o (show(0:Int)<=1 by decide) (.o (show(1:Int)<=2 by decide) (.o (show(2:Int)<=2 by decide) (.o (show(0:Int)<=0 by decide) (.o (show(0:Int)<=1 by decide) (.o (show(1:Int)<=2 by decide) (.b (rfl:decide ((2:Int)<2)=false) .er)))))))))))))))))
 .exact fP hO (first:=[]) (cap:=[]) (.b (rfl:decide ((3:Int)<0)=false) (.o (rfl:(1:Int)=1) (.o (⟨by decide,by decide⟩:(0:Int)<=3∧(3:Int)<=6) (.b (rfl:decide ((0:Int)>0)=false) (.b (rfl:decide ((3:Int)>9223372036854775807)=false) (.o (rfl:(3:Int)=3) (.o (show(0:Int)<=3 by decide) (.o (show(3:Int)<=(ah:Int) by decide) (.m 8 le8 (.b (rfl:decide ((1:Int)<3)=true) (.o (show(0:Int)<=1 by decide) (.o (show(1:Int)<=3 by decide) (.o (show(3:Int)<=3 by decide) (.o (show(0:Int)<=0 by decide) (.o (show(0:Int)<=1 by decide) (.o (show(1:Int)<=3 by decide) (.b (rfl:decide ((2:Int)<3)=true) (.o (show(0:Int)<=2 by decide) (.o (show(2:Int)<=3 by decide) (.o (show(3:Int)<=3 by decide) (.o (show(0:Int)<=0 by decide) (.o (show(0:Int)<=2 by decide) (.o (show(2:Int)<=3 by decide) (.b (rfl:decide ((3:Int)<3)=false) .er))))))))))))))))))))))))
 .exact fP hO (first:=[]) (cap:=[]) (.b (rfl:decide ((4:Int)<0)=false) (.o (rfl:(1:Int)=1) (.o (⟨by decide,by decide⟩:(0:Int)<=4∧(4:Int)<=6) (.b (rfl:decide ((0:Int)>0)=false) (.b (rfl:decide ((4:Int)>9223372036854775807)=false) (.o (rfl:(4:Int)=4) (.o (show(0:Int)<=4 by decide) (.o (show(4:Int)<=(ah:Int) by decide) (.m 8 le8 (.b (rfl:decide ((1:Int)<4)=true) (.o (show(0:Int)<=1 by decide) (.o (show(1:Int)<=4 by decide) (.o (show(4:Int)<=4 by decide) (.o (show(0:Int)<=0 by decide) (.o (show(0:Int)<=1 by decide) (.o (show(1:Int)<=4 by decide) (.b (rfl:decide ((2:Int)<4)=true) (.o (show(0:Int)<=2 by decide) (.o (show(2:Int)<=4 by decide) (.o (show(4:Int)<=4 by decide) (.o (show(0:Int)<=0 by decide) (.o (show(0:Int)<=2 by decide) (.o (show(2:Int)<=4 by decide) (.b (rfl:decide ((4:Int)<4)=false) .er))))))))))))))))))))))))
 .exact fP hO (first:=[]) (cap:=[]) (.b (rfl:decide ((5:Int)<0)=false) (.o (rfl:(1:Int)=1) (.o (⟨by decide,by decide⟩:(0:Int)<=5∧(5:Int)<=6) (.b (rfl:decide ((0:Int)>0)=false) (.b (rfl:decide ((5:Int)>9223372036854775807)=false) (.o (rfl:(5:Int)=5) (.o (show(0:Int)<=5 by decide) (.o (show(5:Int)<=(ah:Int) by decide) (.m 8 le8 (.b (rfl:decide ((1:Int)<5)=true) (.o (show(0:Int)<=1 by decide) (.o (show(1:Int)<=5 by decide) (.o (show(5:Int)<=5 by decide) (.o (show(0:Int)<=0 by decide) (.o (show(0:Int)<=1 by decide) (.o (show(1:Int)<=5 by decide) (.b (rfl:decide ((2:Int)<5)=true) (.o (show(0:Int)<=2 by decide) (.o (show(2:Int)<=5 by decide) (.o (show(5:Int)<=5 by decide) (.o (show(0:Int)<=0 by decide) (.o (show(0:Int)<=2 by decide) (.o (show(2:Int)<=5 by decide) (.b (rfl:decide ((4:Int)<5)=true) (.o (show(0:Int)<=4 by decide) (.o (show(4:Int)<=5 by decide) (.o (show(5:Int)<=5 by decide) (.o (show(0:Int)<=0 by decide) (.o (show(0:Int)<=4 by decide) (.o (show(4:Int)<=5 by decide) (.b (rfl:decide ((5:Int)<5)=false) .er)))))))))))))))))))))))))))))))
 exact fP hO (first:=[]) (cap:=[]) (.b (rfl:decide ((6:Int)<0)=false) (.o (rfl:(1:Int)=1) (.o (⟨by decide,by decide⟩:(0:Int)<=6∧(6:Int)<=6) (.b (rfl:decide ((0:Int)>0)=false) (.b (rfl:decide ((6:Int)>9223372036854775807)=false) (.o (rfl:(6:Int)=6) (.o (show(0:Int)<=6 by decide) (.o (show(6:Int)<=(ah:Int) by decide) (.m 8 le8 (.b (rfl:decide ((1:Int)<6)=true) (.o (show(0:Int)<=1 by decide) (.o (show(1:Int)<=6 by decide) (.o (show(6:Int)<=6 by decide) (.o (show(0:Int)<=0 by decide) (.o (show(0:Int)<=1 by decide) (.o (show(1:Int)<=6 by decide) (.b (rfl:decide ((2:Int)<6)=true) (.o (show(0:Int)<=2 by decide) (.o (show(2:Int)<=6 by decide) (.o (show(6:Int)<=6 by decide) (.o (show(0:Int)<=0 by decide) (.o (show(0:Int)<=2 by decide) (.o (show(2:Int)<=6 by decide) (.b (rfl:decide ((4:Int)<6)=true) (.o (show(0:Int)<=4 by decide) (.o (show(4:Int)<=6 by decide) (.o (show(6:Int)<=6 by decide) (.o (show(0:Int)<=0 by decide) (.o (show(0:Int)<=4 by decide) (.o (show(4:Int)<=6 by decide) (.b (rfl:decide ((6:Int)<6)=false) .er)))))))))))))))))))))))))))))))
def eu(D:List Dg):Jb:=⟨(D.getD 0 kJ).aA,(D.getD 0 kJ).aH,D,List.replicate (D.getD 0 kJ).aA.length (-1)⟩
theorem akA{n f:Nat}(hO:Ok (n+1) qo)(Am:Ok n qo){D:List Dg}(h0:0<D.length)(h6:(D.getD 0 kJ).aA.length<=6){k ex:Bool}:aX X0 Qp (bQ (n+2)) (.fn 78 [] []) [.fn f [] [],.own 0] [.list k ex 26 D] (.agg [lI (eu D).s,lI (eu D).o,.own 0,.own 1,.fn f [] []]) [.list k ex 26 D,.list true true 3 (eu D).g]:=by
 have i0:gQ 0 D.length:=aG h0;have hs:=akz Am (k:=((D.getD 0 kJ).aA.length:Int)) ⟨by omega,by omega⟩;rw[a7m]at hs;have h:aX X0 Qp (bQ (n+2)) (.fn 78 [] []) [.fn f [] [],.own 0] [.list k ex 26 D] (.agg [lI (eu D).s,lI (eu D).o,.own 0,.own 2,.fn f [] []]) [.list k ex 26 D,.list true true 3 ([-1]:List Int),.list true true 3 (eu D).g]:=fP hO (first:=[]) (cap:=[]) (.o i0 (.o i0 (.o i0 (.fr [1] hs .er))));exact aX.gs hX h [.gc [2]] rfl
theorem akB{n f:Nat}(u:Int)(hO:Ok (n+1) qo)(Am:Ok n qo){D:List Dg}(h0:0<D.length)(h6:(D.getD 0 kJ).aA.length<=6){k ex:Bool}:aX X0 Qp (bQ (n+2)) (.fn 78 [] []) [.fn f [] [.ptr 1 0 1],.own 0] [.list k ex 26 D,.aC [.int .u8 u]] (.agg [lI (eu D).s,lI (eu D).o,.own 0,.own 2,.fn f [] [.ptr 1 0 1]]) [.list k ex 26 D,.aC [.int .u8 u],.list true true 3 (eu D).g]:=by
 have i0:gQ 0 D.length:=aG h0;have hs:=akz Am (k:=((D.getD 0 kJ).aA.length:Int)) ⟨by omega,by omega⟩;rw[a7m]at hs;have h:aX X0 Qp (bQ (n+2)) (.fn 78 [] []) [.fn f [] [.ptr 1 0 1],.own 0] [.list k ex 26 D,.aC [.int .u8 u]] (.agg [lI (eu D).s,lI (eu D).o,.own 0,.own 3,.fn f [] [.ptr 1 0 1]]) [.list k ex 26 D,.aC [.int .u8 u],.list true true 3 ([-1]:List Int),.list true true 3 (eu D).g]:=fP hO (first:=[]) (cap:=[]) (.o i0 (.o i0 (.o i0 (.fr [2] hs .er))));exact aX.gs hX h [.gc [3]] rfl
theorem apJ{n f:Nat}{J:Jb}{d:Dg}{k ex k2 KW:Bool}(h:aX X0 Qp (bQ n) (.fn 80 [] []) [.agg (J.ps (.fn f [] []))] [] (dA.put d) []):aX X0 Qp (bQ n) (.fn 80 [] []) [.agg [lI J.s,lI J.o,.own 0,.own 1,.fn f [] []]] [.list k ex 26 J.D,.list k2 KW 3 J.g] (dA.put d) [.gone,.gone]:=by
 have h1:=aX.frame hX (ks:=[]) (H':=[.gone,.gone]) (Hp:=[]) (PW:=[]) (v':=dA.put d) (fv':=.fn 80 [] []) (xs':=[.agg (J.ps (.fn f [] []))]) h (by decide) rfl rfl rfl rfl rfl rfl rfl;exact aX.fz hX (H:=[.list k ex 26 J.D,.list k2 KW 3 J.g]) (cs:=[lI J.s,lI J.o,.own 0,.own 1]) (rest:=[.fn f [] []]) [0,1] h1 rfl (fun i hi=>by simpa[kH.jS,kH]using hi)
theorem apK{n f:Nat}{u:Int}{J:Jb}{d:Dg}{k ex k2 KW:Bool}(h:aX X0 Qp (bQ n) (.fn 80 [] []) [.agg (J.ps (.fn f [] [.ptr 0 0 1]))] [.aC [.int .u8 u]] (dA.put d) [.aC [.int .u8 u]]):aX X0 Qp (bQ n) (.fn 80 [] []) [.agg [lI J.s,lI J.o,.own 0,.own 2,.fn f [] [.ptr 1 0 1]]] [.list k ex 26 J.D,.aC [.int .u8 u],.list k2 KW 3 J.g] (dA.put d) [.gone,.aC [.int .u8 u],.gone]:=by
 have h1:=aX.frame hX (ks:=[1]) (H':=[.gone,.aC [.int .u8 u],.gone]) (Hp:=[.aC [.int .u8 u]]) (PW:=[.aC [.int .u8 u]]) (v':=dA.put d) (fv':=.fn 80 [] []) (xs':=[.agg (J.ps (.fn f [] [.ptr 1 0 1]))]) h (by decide) rfl rfl rfl rfl rfl rfl rfl;exact aX.fz hX (H:=[.list k ex 26 J.D,.aC [.int .u8 u],.list k2 KW 3 J.g]) (cs:=[lI J.s,lI J.o,.own 0,.own 2]) (rest:=[.fn f [] [.ptr 1 0 1]]) [0,2] h1 rfl (fun i hi=>by simpa[kH.jS,kH]using hi)
open Go Tw Pv bW
structure DgG(d:Dg):Prop where
 t:BD d
 n:d.au.length<=6000
 ord:jY d.aA.length d.aH=true
 rk:∀i,i<d.au.length->∀k,k<(fC d i).ay.length->d.aH.idxOf (fC d i).var+1<=FV d.aH d.au ((fC d i).ay.getD k 0)
 two:∀i,i<d.au.length->2<=(fC d i).ay.length
 c:∀v∈d.aO,Hy v
 dd:DgD d
 l0:bG d=0
theorem afG{d:Dg}(hp:rG d)(h:ru d=0):DgG d:=by
 have h0:bG d=0∧oV d=true:=by
  unfold ru at h;split at h
  .rename_i c;rw[h]at c;cases c
  rename_i c;split at h
  .cases h
  rename_i c2;exact⟨by simpa using c,by simpa using c2⟩
 have ho:d.aH.length<=ah:=by have:=hp.o;unfold ah;omega
 have he:d.aO.length<=ah:=by have:=hp.e;omega
 obtain⟨t,n⟩:=mD ho he (by rw[h0.1];rfl);obtain⟨D,_⟩:=Xx.1 h0.2;have hf:dh d.aA d.aH=0∧lq d=true:=by
  have hl:=h0.1;unfold bG at hl;split at hl
  .rename_i c;rw[hl]at c;cases c
  rename_i c;split at hl
  .cases hl
  split at hl
  .cases hl
  rename_i _ c2;exact⟨by simpa using c,by simpa using c2⟩
 obtain⟨eF,ord⟩:=lT.1 hf.1;refine⟨t,n,ord,XF h0.1,fun i hi=>?_,fun v hv=>?_,D,h0.1⟩
 .have:=D.flat i hi;rcases hk:(fC d i).ay with _|⟨a,_|⟨b,r⟩⟩
  .rw[hk]at this;simp at this
  .rw[hk]at this;simp at this
  simp
 refine⟨?_,hp.r.fault v hv⟩;have hl:=hf.2;unfold lq at hl;obtain⟨k,hk,e⟩:=a9F hv;have hs:jK (bF (cLe d) d.aO.length)=true:=by
  revert hl;cases jK (bF (cLe d) d.aO.length)<;>simp
 have:=dI.1 hs k hk;unfold cLe at this;rw[a2X,a0a hk]at this;simpa[e]using this
theorem Vj{l:List Dg}(hp:∀d∈l,rG d)(h:bT l=0):∀d∈l,DgG d∧d.aA=(l.getD 0 kJ).aA∧d.aH=(l.getD 0 kJ).aH:=by
 intro d hd;unfold bT at h;split at h
 .rename_i c;split at h
  .cases h
  rename_i c2;simp only[adY,abB,a4s]at c2;have e:=c2 d hd;unfold Dk at e;split at e
  .rename_i e1;refine⟨afG (hp d hd) ?_,by simpa using e1,by simpa using e⟩;obtain⟨k,hk,e9⟩:=a9F hd;have:=dI.1 c k hk;unfold cCk at this;rw[a2X,a0a hk,a4H,e9]at this;have h9:=hp d hd;rw[Xz h9.r h9.s (by have:=h9.o;unfold ah;omega) h9.e]at this;simpa using this
  cases e
 rename_i c;obtain⟨j,_,e,_,e2⟩:=DY (by simpa using c);rw[e2]at h;unfold cCk at e;have h':(vC (l.getD j kJ)).2=0:=h;rw[h']at e;cases e
theorem ada{D:List Dg}(h3:D.length<=3)(h0:0<D.length)(h1:∀d∈D,DgG d∧d.aA=(D.getD 0 kJ).aA∧d.aH=(D.getD 0 kJ).aH):jP (eu D):=by
 have QE:D.getD 0 kJ∈D:=dZ h0;obtain⟨g0,_,_⟩:=h1 _ QE;refine⟨h3,g0.t.eF,g0.ord,fun k hk=>?_,a8v,fun c hc hg=>?_⟩
 .obtain⟨g,e1,e2⟩:=h1 (kP D k) (dZ hk);exact⟨g.t,g.n,e1,e2,g.rk,g.two⟩
 exfalso;revert hg;show ¬(0<=(List.replicate (D.getD 0 kJ).aA.length (-1:Int)).getD c.toNat 0);have:=hc.1;have:=hc.2;rw[a2X,agx,a0h (show c.toNat<(D.getD 0 kJ).aA.length by have:c<((D.getD 0 kJ).aA.length:Int):=hc.2;omega)];decide
theorem yD{D:List Dg}(h3:D.length<=3)(h0:0<D.length)(hp:∀d∈D,rG d)(h:bT D=0):jP (eu D):=ada h3 h0 (Vj hp h)
open Go Tw Pv bW
theorem Pz{J:Jb}(hJ:jP J)(hc:∀k,k<J.D.length->∀v∈(kP J.D k).aO,Hy v){op:List V->V}(h:∀l:List V,l.length=J.D.length->(∀v∈l,Hy v)->Hy (op l)):wL J op:=fun t hd=>h _ (by simp[aU]) fun v hv=>by
 unfold aU at hv;obtain⟨k,hk,rfl⟩:=a1f.1 hv;have hk:=a4f.1 hk;have h3:(jA (t.get k)).toNat<(kP J.D k).aO.length:=by
  obtain⟨h1,h2⟩:=(Jg hJ hd hk).2;omega
 exact hc k hk _ (dZ h3)
theorem Jb.inD{D:List Dg}(hp:∀d∈D,rG d)(h:bT D=0):∀k,k<D.length->∀v∈(kP D k).aO,Hy v:=fun k hk=>(Vj hp h _ (dZ hk)).1.c
theorem Jt{n f:Nat}(h2:2<=n)(hO:∀m,n-2<=m->Ok m qo){D:List Dg}(h0:0<D.length)(h6:(D.getD 0 kJ).aA.length<=6){k ex:Bool}:aX X0 Qp (bQ n) (.fn 78 [] []) [.fn f [] [],.own 0] [.list k ex 26 D] (.agg [lI (eu D).s,lI (eu D).o,.own 0,.own 1,.fn f [] []]) [.list k ex 26 D,.list true true 3 (eu D).g]:=by
 have h:=akA (n:=n-2) (f:=f) (hO _ (by omega)) (hO _ (by omega)) h0 h6 (k:=k) (ex:=ex)
 rwa [show n-2+2=n by omega]at h
theorem afH{n f:Nat}(u:Int)(h2:2<=n)(hO:∀m,n-2<=m->Ok m qo){D:List Dg}(h0:0<D.length)(h6:(D.getD 0 kJ).aA.length<=6){k ex:Bool}:aX X0 Qp (bQ n) (.fn 78 [] []) [.fn f [] [.ptr 1 0 1],.own 0] [.list k ex 26 D,.aC [.int .u8 u]] (.agg [lI (eu D).s,lI (eu D).o,.own 0,.own 2,.fn f [] [.ptr 1 0 1]]) [.list k ex 26 D,.aC [.int .u8 u],.list true true 3 (eu D).g]:=by
 have h:=akB (n:=n-2) (f:=f) u (hO _ (by omega)) (hO _ (by omega)) h0 h6 (k:=k) (ex:=ex)
 rwa [show n-2+2=n by omega]at h
theorem a7Q{n f:Nat}{J:Jb}(hJ:jP J){op:List V->V}(kD:wL J op)(h2:20<=n)(hO:∀m,n-20<=m->Ok m Ht)(hs:∀m,n-20<=m->∀l:List V,l.length=J.D.length->aX X0 Qp (bQ m) (.fn f [] []) [lV l] [] (.agg (op l).ps) []){k ex k2 KW:Bool}:aX X0 Qp (bQ n) (.fn 80 [] []) [.agg [lI J.s,lI J.o,.own 0,.own 1,.fn f [] []]] [.list k ex 26 J.D,.list k2 KW 3 J.g] (dA.put (Ji J op)) [.gone,.gone]:=by
 have h6:=(jP.o2 hJ).2.1;have h7:=hJ.eF.len;have h:=afu (N:=n-20) hJ kD hs hO (m:=n-1) (by omega);rw[show n-1+1=n by omega]at h;exact apJ h
theorem akD{n f:Nat}(u:Int){J:Jb}(hJ:jP J){op:List V->V}(kD:wL J op)(h2:20<=n)(hO:∀m,n-20<=m->Ok m Ht)(hs:∀m,n-20<=m->∀l:List V,l.length=J.D.length->aX X0 Qp (bQ m) (.fn f [] [.ptr 0 0 1]) [lV l] [.aC [.int .u8 u]] (.agg (op l).ps) [.aC [.int .u8 u]]){k ex k2 KW:Bool}:aX X0 Qp (bQ n) (.fn 80 [] []) [.agg [lI J.s,lI J.o,.own 0,.own 2,.fn f [] [.ptr 1 0 1]]] [.list k ex 26 J.D,.aC [.int .u8 u],.list k2 KW 3 J.g] (dA.put (Ji J op)) [.gone,.aC [.int .u8 u],.gone]:=by
 have h6:=(jP.o2 hJ).2.1;have h7:=hJ.eF.len;have h:=afv (N:=n-20) u hJ kD hs hO (m:=n-1) (by omega);rw[show n-1+1=n by omega]at h;exact apK h
abbrev MF(a b x:Int):Bool:=if decide (x>=a)=true then decide (x<=b)else false
theorem a7R{k:Nat}{x:Int}(h:(!(MF 0 (i64.wrap ((k:Int)-1)) x))=false)(hk:k<=ah):gQ x k:=by
 rw[wrap_small (by unfold ah at hk;omega) (by unfold ah at hk;omega)]at h;unfold MF at h;by_cases h1:x>=0
 .simp[h1]at h;exact⟨h1,by omega⟩
 simp[h1]at h
theorem aaI{z x:Int}(h:(!(MF 0 (i64.wrap (z-1)) x))=false)(h0:0<=z)(h1:z<=12):0<=x∧x<z:=by
 rw[wrap_small (by omega) (by omega)]at h;unfold MF at h;by_cases h1:x>=0
 .simp[h1]at h;exact⟨h1,by omega⟩
 simp[h1]at h
def akE(d:Dg)(c g:Int):Jb:=⟨d.aA,d.aH,[d],(eu [d]).g.set c.toNat g⟩
abbrev op0(l:List V):V:=l.getD 0 V0
theorem aaJ{d:Dg}(hp:rG d)(h:bT [d]=0){c g:Int}(hc:gQ c d.aA.length)(hg:0<=g∧g<d.aA.getD c.toNat 0):jP (akE d c g):=by
 have hJ:=yD (D:=[d]) (by simp) (by simp) (fun x hx=>by rw[a2I.1 hx];exact hp) h;refine⟨hJ.d3,hJ.eF,hJ.ord,fun k hk=>have h:=hJ.dg k hk;⟨h.t,h.n,h.s,h.o,h.rk,h.two⟩,?_,fun c2 JH h2=>?_⟩
 .show((eu [d]).g.set c.toNat g).length=_;rw[a4q];exact hJ.gl
 have hl:(eu [d]).g.length=d.aA.length:=hJ.gl;have a0:=hc.1;have a1:=hc.2;have b0:=JH.1;have b1:c2<(d.aA.length:Int):=JH.2
 change 0<=((eu [d]).g.set c.toNat g).getD c2.toNat 0 at h2
 show((eu [d]).g.set c.toNat g).getD c2.toNat 0<d.aA.getD c2.toNat 0;by_cases e:c.toNat=c2.toNat
 .rw[<-e,a2X,a2k (by omega)];exact hg.2
 rw[a2X,a1D e,<-a2X]at h2 ⊢;exact hJ.gv c2 JH h2
theorem akF{m:Nat}(hO:Ok m qo){l:List V}(h:0<l.length):aX X0 Qp (bQ m) (.fn 79 [] []) [lV l] [] (.agg (op0 l).ps) []:=mY.ZH hX (first:=[]) (cap:=[]) (hO 79 [lV l] (vA.put (op0 l)) [] [0<l.length] (by kernel_rfl) (fun p h9=>by rw[a2I.1 h9];exact h)) rfl rfl rfl rfl
def Kw(p:Dg×Int×Int):Dg×Int:=if(bT [p.1] != 0)=true then(kJ,bT [p.1])else if(!(MF 0 (i64.wrap ((p.1.aA.length:Int)-1)) p.2.1))=true then(kJ,3)else if(!(MF 0 (i64.wrap (p.1.aA.getD p.2.1.toNat 0-1)) p.2.2))=true then(kJ,3)else(Ji (akE p.1 p.2.1 p.2.2) op0,0)
def akG:eY aF:=bZ 20 (a3 dA iA iA) (dP (a2 dA iA)) Kw (fun p=>[rG p.1]) qo
theorem a3G:(1:Nat)<=ah:=by unfold ah;omega
theorem apO:Gd akG:=Good.WZ 24 Ku XI fun n hn hO FU p hp=>by
 have h1:rG p.1:=hp _ (.head _);have h2:∀d∈[p.1],rG d:=fun x hx=>by rw[a2I.1 hx];exact h1
 have h3:0<[p.1].length∧[p.1].length<=ah:=⟨by simp,a3G⟩;obtain⟨d,c,g⟩:=p;show mY X0 Qp _ _ _ ((dP (a2 dA iA)).put (Kw (d,c,g))) _;unfold Kw;have hJ:(bT [d] != 0)=false->jP (eu [d]):=fun e1=>yD (D:=[d]) (by simp) (by simp) h2 (by simpa using e1);have hc:(bT [d] != 0)=false->(!(MF 0 (i64.wrap ((d.aA.length:Int)-1)) c))=false->gQ c d.aA.length:=fun _ e2=>a7R e2 h1.s;have s1:=fun(e1:(bT [d] != 0)=false)=>Jt (n:=n) (f:=79) (by omega) (fun m hm=>hO m (by omega)) (D:=[d]) (by simp) (hJ e1).eF.len (k:=true) (ex:=true);have s2:=fun(e1:(bT [d] != 0)=false) (e2:(!(MF 0 (i64.wrap ((d.aA.length:Int)-1)) c))=false) (e3:(!(MF 0 (i64.wrap (d.aA.getD c.toNat 0-1)) g))=false)=>
  have hz:=(hJ e1).eF.sz (d.aA.getD c.toNat 0) (dW (show c.toNat<d.aA.length by obtain⟨a,b⟩:=hc e1 e2;omega));have hR:=aaJ h1 (by simpa using e1) (hc e1 e2) (aaI e3 (Int.le_trans (by decide) hz.1) hz.2)
  a7Q (n:=n) (f:=79) hR (Pz hR (Jb.inD h2 (show bT [d]=0 by simpa using e1)) fun l hl hv=>hv _ (dZ (by rw[hl];exact Nat.zero_lt_one))) (by omega) (fun m hm=>FU m (by omega)) (fun m hm l hl=>akF (hO m (by omega)) (by rw[hl];exact Nat.zero_lt_one)) (k:=true) (ex:=true) (k2:=true) (KW:=true)
 have i2:=fun(e1:(bT [d] != 0)=false) (e2:(!(MF 0 (i64.wrap ((d.aA.length:Int)-1)) c))=false)=>show gQ c (eu [d]).g.length by rw[(hJ e1).gl];exact hc e1 e2
 exact aN (hO n (by omega)) (.o h2 (.o h3 (.sh (fun _=>.rn (.dG [.agg [.nil .slc,.nil .slc,.nil .slc,.nil .slc,.int .i64 0],.int .i64 (bT [d])]) rfl) fun e1=>.sh (fun _=>.rn (.dG [.agg [.nil .slc,.nil .slc,.nil .slc,.nil .slc,.int .i64 0],.int .i64 3]) rfl) fun e2=>.o (hc e1 e2) (.sh (fun _=>.rn (.dG [.agg [.nil .slc,.nil .slc,.nil .slc,.nil .slc,.int .i64 0],.int .i64 3]) rfl) fun e3=>.fr [1] (s1 e1) (.o (i2 e1 e2) (.fr [1,2] (s2 e1 e2 e3) .rr))))))
end Go.Proofs.YtmobpoiejckagaaGreat
namespace Pv
open Go Tw
theorem Good.a7S{X:kE}{P:Program}{T:qp}{L:Nat}{α β:Type}{f:FuncId}{a:Ux X P α}{r:Ar X P β}{S:α->β}{pre:α->List Prop}{fK X3 a6U akH:eY X.Γ}(d:Nat)(hg:Good X P T L fK)(hg2:Good X P T L X3)(hg3:Good X P T L a6U)(hg4:Good X P T L akH)
  (hf:∀n,d<=n->(∀m,n-d<=m->jr X P (kM P T L m) fK)->(∀m,n-d<=m->jr X P (kM P T L m) X3)->(∀m,n-d<=m->jr X P (kM P T L m) a6U)->(∀m,n-d<=m->jr X P (kM P T L m) akH)->∀x,(∀p∈pre x,p)->mY X P (kM P T L (n+1)) f (a.put x) (r.put (S x)) []):Good X P T L (bZ f a r S pre fK):=by
 obtain⟨N2,hN2⟩:=hg2;obtain⟨N3,hN3⟩:=hg3;obtain⟨N4,hN4⟩:=hg4;obtain⟨M,hM⟩:=hg;refine⟨M+N2+N3+N4+d+1,fun n hn=>?_⟩;obtain⟨k,rfl⟩:∃k,n=k+1:=⟨n-1,by omega⟩;intro g vs v ext ps ho hp;unfold bZ at ho;split at ho
 .rename_i e;have e:=a8G e;subst e;split at ho
  .rename_i x hx;cases ho;intro A h first args cap Ie hv
   exact hf k (by omega) (fun m hm=>hM m (by omega)) (fun m hm=>hN2 m (by omega)) (fun m hm=>hN3 m (by omega)) (fun m hm=>hN4 m (by omega)) x hp A h first args cap Ie (a.ok hx hv)
  .exact hM (k+1) (by omega) g vs v ext ps ho hp
 .exact hM (k+1) (by omega) g vs v ext ps ho hp
end Pv
namespace Go.Proofs.YtmobpoiejckagaaGreat
open Go Tw Pv bW
def EP(k:Int):Bool:=decide (7<=k∧k<=16)
def oO(k:Int)(a b:V):V×Int:=if EP k=true then H8 k a b else(V0,2)
theorem bne{a b:Int}(h:a≠b):(a==b)=false:=by simpa using h
def a7T:eY aF:=Zt 101 (a1 uA) (fun _=>.nil .fn) (fun _=>[]) (fun p=>[EP p=false]) akG
theorem afI:Gd a7T:=apO.WY 0 fun n _ hO p hp=>by
 have h:¬(7<=p∧p<=16):=by simpa[EP]using hp _ (.head _)
 exact Bh hX (hO n (by omega)) (by kernel_rfl) (.b (bne (show p≠7 by omega)) (.b (bne (show p≠8 by omega)) (.b (bne (show p≠9 by omega)) (.b (bne (show p≠10 by omega)) (.b (bne (show p≠11 by omega)) (.b (bne (show p≠12 by omega)) (.b (bne (show p≠13 by omega)) (.b (bne (show p≠14 by omega)) .er))))))))
def Y8:eY aF:=bZ 45 (a3 uA vA vA) (dP (a2 vA iA)) (fun p=>oO p.1 p.2.1 p.2.2) np a7T
theorem a1M:Gd Y8:=afI.deep 1 fun n hn hO p hp=>by
 obtain⟨k,a,b⟩:=p;cases h:EP k
 .have h9:¬(7<=k∧k<=16):=by simpa[EP]using h
  show mY X0 Qp _ _ _ ((dP (a2 vA iA)).put (oO k a b)) _;unfold oO;rw[h];exact aN (hO n (by omega)) (.b (bne (show k≠15 by omega)) (.b (bne (show k≠16 by omega)) (.o h (.b (rfl:true=true) .rr))))
 .show mY X0 Qp _ _ _ ((dP (a2 vA iA)).put (oO k a b)) _;unfold oO;rw[a0h h];exact hO (n+1) (by omega) 45 ((a3 uA vA vA).put (k,a,b)) ((dP (a2 vA iA)).put (H8 k a b)) [] [7<=k∧k<=16] (by kernel_rfl) (fun q hq=>by rw[a2I.1 hq];simpa[EP]using h)
open Go Tw Pv bW
theorem yc{v:V}:Hy v↔kF v:=by
 unfold Hy vOk kY;constructor
 .rintro⟨h,h0⟩;split at h
  .rename_i e;split at h
   .rename_i e2;simp at e e2 h;exact⟨h0,by omega,fun _=>⟨e2,h⟩,fun hz=>absurd e hz⟩
   cases h
  split at h
  .rename_i e e2;simp at e e2 h;exact⟨h0,e2,fun hz=>absurd hz e,fun _=>h⟩
  cases h
 intro h;refine⟨?_,h.f0⟩;by_cases e:v.f=0
 .rw[a0h (by simpa using e),a0h (by simpa using(h.n e).1)];simpa using(h.n e).2
 rw[a0g (by simpa using e),a0h (by simpa using h.f1)];simpa using h.z e
theorem aaK{k:Int}{a b:V}:(H8 k a b).1=gG k a b:=by
 unfold H8 gG
 repeat' split
 all_goals rfl
theorem aaL{k:Int}(h:EP k=true){a b:V}(ha:Hy a)(hb:Hy b):Hy (oO k a b).1∧(oO k a b).1=bH k a b:=by
 have:=aex (by simpa[EP]using h) (yc.1 ha) (yc.1 hb);unfold oO;rw[a0h h,aaK,this.1];exact⟨yc.2 this.2,rfl⟩
theorem aaM{k:Int}{a b:V}(h:((oO k a b).2 != 0)=false):EP k=true:=by
 unfold oO at h;cases e:EP k
 .rw[e]at h;simp at h
 rfl
theorem aaN:Hy iG:=⟨by decide,by decide⟩
theorem afJ:Hy V0:=⟨by decide,by decide⟩
abbrev aaO(u:Int)(l:List V):V:=(oO u (l.getD 0 V0) (l.getD 1 V0)).1
abbrev aaP(l:List V):V:=(jy (l.getD 0 V0) (l.getD 1 V0) (l.getD 2 V0)).1
theorem akI{m:Nat}{u:Int}(h1:1<=m)(hO:Ok (m-1) Y8){l:List V}(h:l.length=2):aX X0 Qp (bQ m) (.fn 112 [] [.ptr 0 0 1]) [lV l] [.aC [.int .u8 u]] (.agg (aaO u l).ps) [.aC [.int .u8 u]]:=by
 obtain⟨m,rfl⟩:∃k,m=k+1:=⟨m-1,by omega⟩;exact fP hO (first:=[]) (cap:=[.ptr 0 0 1]) (.o (aG (by omega:0<l.length)) (.o (aG (by omega:1<l.length)) .er))
theorem apP{m:Nat}(h1:1<=m)(hO:Ok (m-1) Y8){l:List V}(h:l.length=3):aX X0 Qp (bQ m) (.fn 113 [] []) [lV l] [] (.agg (aaP l).ps) []:=by
 obtain⟨m,rfl⟩:∃k,m=k+1:=⟨m-1,by omega⟩;exact fP hO (first:=[]) (cap:=[]) (.o (aG (by omega:0<l.length)) (.o (aG (by omega:1<l.length)) (.o (aG (by omega:2<l.length)) .er)))
theorem akJ{m:Nat}(hO:Ok m Y8){l:List V}(h:l.length<=ah):aX X0 Qp (bQ m) (.fn 117 [] []) [lV l] [] (.agg (nO l).ps) []:=mY.ZH hX (first:=[]) (cap:=[]) (hO 117 [lV l] (vA.put (nO l)) [] [l.length<=ah] (by kernel_rfl) (fun p h9=>by rw[a2I.1 h9];exact h)) rfl rfl rfl rfl
theorem aaQ(l:List V):Hy (nO l):=by unfold nO;split;exact aaN;exact afJ
theorem ZT{a b c:V}(ha:Hy a)(hb:Hy b)(hc:Hy c):Hy (jy a b c).1:=by
 have:=a2M (yc.1 ha) (yc.1 hb) (yc.1 hc);rw[this.1];exact yc.2 this.2
def wP(p:Int×Dg×Dg):Dg×Int:=if(bT [p.2.1,p.2.2] != 0)=true then(kJ,bT [p.2.1,p.2.2])else if((oO p.1 iG iG).2 != 0)=true then(kJ,(oO p.1 iG iG).2)else(Ji (eu [p.2.1,p.2.2]) (aaO p.1),0)
def Y9(p:Dg×Dg×Dg):Dg×Int:=if(bT [p.1,p.2.1,p.2.2] != 0)=true then(kJ,bT [p.1,p.2.1,p.2.2])else(Ji (eu [p.1,p.2.1,p.2.2]) aaP,0)
def zH(p:Dg):Dg×Int:=if(bT [p] != 0)=true then(kJ,bT [p])else(Ji (eu [p]) nO,0)
theorem Ya{P:Dg->Prop}{a b:Dg}(ha:P a)(hb:P b):∀d∈[a,b],P d:=fun x hx=>by
 rcases a1Y.1 hx with rfl|hx
 .exact ha
 .rw[a2I.1 hx];exact hb
theorem apQ{P:Dg->Prop}{a b c:Dg}(ha:P a)(hb:P b)(hc:P c):∀d∈[a,b,c],P d:=fun x hx=>by
 rcases a1Y.1 hx with rfl|hx
 .exact ha
 .exact Ya hb hc x hx
abbrev rnE(e:Int):PV aF:=.dG [.agg [.nil .slc,.nil .slc,.nil .slc,.nil .slc,.int .i64 0],.int .i64 e]
abbrev HcA(D:List Dg)(u:Int)(g:List Int):List (PB aF):=[.list true true 26 D,.cells [.int .u8 u],.list true true 3 g]
abbrev HcB(u:Int):List (PB aF):=[.gone,.cells [.int .u8 u],.gone]
theorem rE(e:Int):Fp (Γ:=X0.Γ) (Is (X:=X0) (P:=Qp) (dP (a2 dA iA)) (kJ,e)) .n (.ret (some (rnE e))):=by
 have h:(dP (a2 dA iA)).get (rnE e)=some (kJ,e):=rfl;exact Fp.rn (X:=X0) (P:=Qp) (rnE e) h
def akK:eY aF:=bZ 62 (a3 uA dA dA) (dP (a2 dA iA)) wP (fun p=>[rG p.2.1,rG p.2.2]) Y8
theorem aaR:(2:Nat)<=ah:=by unfold ah;omega
theorem afK:(3:Nat)<=ah:=by unfold ah;omega
theorem apS:Gd akK:=Good.a7S 24 a1M XI Ku a1M fun n hn hO FU hO3 hO4 p hp=>by
 obtain⟨u,d,e⟩:=p;have h1:∀x∈[d,e],rG x:=Ya (hp _ (.head _)) (hp _ (.tail _ (.head _)));have h3:0<[d,e].length∧[d,e].length<=ah:=⟨by simp,aaR⟩;have hJ:(bT [d,e] != 0)=false->jP (eu [d,e]):=fun e1=>yD (D:=[d,e]) (by simp) (by simp) h1 (by simpa using e1);have s1:=fun(e1:(bT [d,e] != 0)=false)=>afH (n:=n) (f:=112) u (by omega) (fun m hm=>hO3 m (by omega)) (D:=[d,e]) (by simp) (hJ e1).eF.len (k:=true) (ex:=true);have s2:=fun(e1:(bT [d,e] != 0)=false) (e2:((oO u iG iG).2 != 0)=false)=>akD (n:=n) (f:=112) u (hJ e1) (op:=aaO u) (Pz (hJ e1) (Jb.inD h1 (show bT [d,e]=0 by simpa using e1)) fun l hl hv=>(aaL (aaM e2) (hv _ (dZ (show 0<l.length by rw[hl];exact Nat.zero_lt_two))) (hv _ (dZ (show 1<l.length by rw[hl];exact Nat.one_lt_two)))).1) (by omega) (fun m hm=>FU m (by omega)) (fun m hm l hl=>akI (by omega) (hO4 _ (by omega)) hl) (k:=true) (ex:=true) (k2:=true) (KW:=true);show mY X0 Qp _ _ _ ((dP (a2 dA iA)).put (if(bT [d,e] != 0)=true then(kJ,bT [d,e])else if((oO u iG iG).2 != 0)=true then(kJ,(oO u iG iG).2)else(Ji (eu [d,e]) (aaO u),0))) _;exact aN (hO n (by omega)) (.o h1 (.o h3 (.sh (fun _=>rE _) fun e1=>.sh (fun _=>rE _) fun e2=>.Qh (H2:=HcA [d,e] u (eu [d,e]).g) [2,0] [1] (s1 e1) (.Qh (H2:=HcB u) [2,0,3] [1] (s2 e1 e2) .rr))))
def akM:eY aF:=bZ 63 (a3 dA dA dA) (dP (a2 dA iA)) Y9 (fun p=>[rG p.1,rG p.2.1,rG p.2.2]) akK
theorem apT:Gd akM:=Good.a7S 24 apS XI Ku a1M fun n hn hO FU hO3 hO4 p hp=>by
 obtain⟨a,b,c⟩:=p;have h1:∀x∈[a,b,c],rG x:=apQ (hp _ (.head _)) (hp _ (.tail _ (.head _))) (hp _ (.tail _ (.tail _ (.head _))));have h3:0<[a,b,c].length∧[a,b,c].length<=ah:=⟨by simp,afK⟩;have hJ:(bT [a,b,c] != 0)=false->jP (eu [a,b,c]):=fun e1=>yD (D:=[a,b,c]) (by simp) (by simp) h1 (by simpa using e1);have s1:=fun(e1:(bT [a,b,c] != 0)=false)=>Jt (n:=n) (f:=113) (by omega) (fun m hm=>hO3 m (by omega)) (D:=[a,b,c]) (by simp) (hJ e1).eF.len (k:=true) (ex:=true);have s2:=fun(e1:(bT [a,b,c] != 0)=false)=>a7Q (n:=n) (f:=113) (hJ e1) (op:=aaP) (Pz (hJ e1) (Jb.inD h1 (show bT [a,b,c]=0 by simpa using e1)) fun l hl hv=>ZT (hv _ (dZ (show 0<l.length by rw[hl];exact Nat.succ_pos 2))) (hv _ (dZ (show 1<l.length by rw[hl];exact Nat.succ_lt_succ (Nat.succ_pos 1)))) (hv _ (dZ (show 2<l.length by rw[hl];exact Nat.lt_succ_self 2)))) (by omega) (fun m hm=>FU m (by omega)) (fun m hm l hl=>apP (by omega) (hO4 _ (by omega)) hl) (k:=true) (ex:=true) (k2:=true) (KW:=true);show mY X0 Qp _ _ _ ((dP (a2 dA iA)).put (if(bT [a,b,c] != 0)=true then(kJ,bT [a,b,c])else(Ji (eu [a,b,c]) aaP,0))) _;exact aN (hO n (by omega)) (.o h1 (.o h3 (.sh (fun _=>rE _) fun e1=>.fr [1] (s1 e1) (.fr [1,2] (s2 e1) .rr))))
def akN:eY aF:=bZ 67 (a1 dA) (dP (a2 dA iA)) zH (fun p=>[rG p]) akM
theorem apU:Gd akN:=Good.a7S 24 apT XI Ku a1M fun n hn hO FU hO3 hO4 d hp=>by
 have h1:∀x∈[d],rG x:=fun x hx=>by rw[a2I.1 hx];exact hp _ (.head _)
 have h3:0<[d].length∧[d].length<=ah:=⟨by simp,a3G⟩;have hJ:(bT [d] != 0)=false->jP (eu [d]):=fun e1=>yD (D:=[d]) (by simp) (by simp) h1 (by simpa using e1);have s1:=fun(e1:(bT [d] != 0)=false)=>Jt (n:=n) (f:=117) (by omega) (fun m hm=>hO3 m (by omega)) (D:=[d]) (by simp) (hJ e1).eF.len (k:=true) (ex:=true);have s2:=fun(e1:(bT [d] != 0)=false)=>a7Q (n:=n) (f:=117) (hJ e1) (op:=nO) (fun t hd=>aaQ _) (by omega) (fun m hm=>FU m (by omega)) (fun m hm l hl=>akJ (hO4 m (by omega)) (by rw[hl];exact a3G)) (k:=true) (ex:=true) (k2:=true) (KW:=true);show mY X0 Qp _ _ _ ((dP (a2 dA iA)).put (if(bT [d] != 0)=true then(kJ,bT [d])else(Ji (eu [d]) nO,0))) _;exact aN (hO n (by omega)) (.o h1 (.o h3 (.sh (fun _=>rE _) fun e1=>.fr [1] (s1 e1) (.fr [1,2] (s2 e1) .rr))))
open Go Tw Pv bW
def nP(v:V):Int:=if(!(CY v))=true then 2 else 0
def Yb:eY aF:=bZ 106 (a1 vA) iA (fun p=>nP p) np akN
theorem adb:Gd Yb:=apU.add fun n hO p hp=>aN hO (.ss .rr .rr)
theorem a7V{n f:Nat}{J:Jb}{k ex k2 KW:Bool}(h:aX X0 Qp (bQ n) (.fn 87 [] []) [.agg (J.ps (.fn f [] []))] [] (.map 0) [.map (kV.im (bK J))]):aX X0 Qp (bQ n) (.fn 87 [] []) [.agg [lI J.s,lI J.o,.own 0,.own 1,.fn f [] []]] [.list k ex 26 J.D,.list k2 KW 3 J.g] (.map 2) [.gone,.gone,.map (kV.im (bK J))]:=by
 have h1:=aX.frame hX (ks:=[]) (H':=[.gone,.gone]) (Hp:=[]) (PW:=[.map (kV.im (bK J))]) (v':=.map 2) (fv':=.fn 87 [] []) (xs':=[.agg (J.ps (.fn f [] []))]) h (by decide) rfl rfl rfl rfl rfl rfl rfl;exact aX.fz hX (H:=[.list k ex 26 J.D,.list k2 KW 3 J.g]) (cs:=[lI J.s,lI J.o,.own 0,.own 1]) (rest:=[.fn f [] []]) [0,1] h1 rfl (fun i hi=>by simpa[kH.jS,kH]using hi)
open Go Tw Pv bW
def look(t:List (V×Int))(v:V):Int:=((t.find? fun e=>decide (e.1=v)).map (·.2)).getD 0
theorem I8{t:List (V×Int)}(hn:(t.map (·.1)).Nodup)(v:V):(pO X0 Qp 39 (kV.im t) (kV.tv v) (.int .i64 (look t v)))∨(look t v=0∧nD X0 Qp 39 (kV.im t) (kV.tv v)):=by
 by_cases h:v∈t.map (·.1)
 .obtain⟨e,he,hv⟩:=a1f.1 h;obtain⟨e2,h2⟩:=a5j.1 (List.find?_isSome (p:=fun e:V×Int=>decide (e.1=v)) |>.2 ⟨e,he,show decide (e.1=v)=true by simpa using hv⟩);have h3:e2.1=v:=by simpa using List.find?_some h2
  refine .inl (kV.found (by rw[zF];exact hn) (a1f.2 ⟨e2,ag3 h2,?_⟩));unfold look;rw[h2,h3];rfl
 refine .inr ⟨?_,kV.fresh (by rw[zF];exact h)⟩;unfold look;rw[ads.2 fun e he=>by
  simp only[a1X];intro hv;exact h (a1f.2 ⟨e,he,hv⟩)]
 rfl
abbrev akO:PV aF:=.agg [.nil .slc,.nil .slc,.nil .slc,.nil .slc,.nil .fn]
abbrev a7W(J:Jb)(f:Nat)(a b:Nat):PV aF:=.agg [lI J.s,lI J.o,.own a,.own b,.fn f [] []]
abbrev HO(D:List Dg)(g:List Int):List (PB aF):=[.list true true 26 D,.list true true 3 g]
theorem a7X{P:Dg->Prop}{d:Dg}(h:P d):∀x∈[d],P x:=fun x hx=>by rw[a2I.1 hx];exact h
theorem akP{n:Nat}(hO:Ok n Yb){d:Dg}{v:V}(hp:rG d)(e1:(bT [d] != 0)=true):aX X0 Qp (bQ (n+1)) (.fn 86 [] []) [.agg d.ps,.agg v.ps] [] (.dG [akO,.int .i64 (bT [d])]) []:=by
 have h1:∀x∈[d],rG x:=a7X hp;have h3:0<[d].length∧[d].length<=ah:=⟨by simp,a3G⟩;exact aX.drop hX (qP hX hO (first:=[]) (cap:=[]) (H1:=[.list true true 26 [d]]) (by kernel_rfl) (.o h1 (.o h3 (.b e1 .er)))) rfl rfl
theorem akQ{n:Nat}(hO:Ok n Yb){d:Dg}{v:V}(hp:rG d)(e1:(bT [d] != 0)=false)(e2:(nP v != 0)=true):aX X0 Qp (bQ (n+1)) (.fn 86 [] []) [.agg d.ps,.agg v.ps] [] (.dG [akO,.int .i64 4]) []:=by
 have h1:∀x∈[d],rG x:=a7X hp;have h3:0<[d].length∧[d].length<=ah:=⟨by simp,a3G⟩;exact aX.drop hX (qP hX hO (first:=[]) (cap:=[]) (H1:=[.list true true 26 [d]]) (by kernel_rfl) (.o h1 (.o h3 (.b e1 (.b e2 .er))))) rfl rfl
theorem akR{n:Nat}(h2:2<=n)(Am:Ok n Yb)(hO:∀m,n-2<=m->Ok m qo){d:Dg}{v:V}(hp:rG d)(e1:(bT [d] != 0)=false)(e2:(nP v != 0)=false):aX X0 Qp (bQ (n+1)) (.fn 86 [] []) [.agg d.ps,.agg v.ps] [] (.dG [a7W (eu [d]) 79 0 1,.int .i64 0]) (HO [d] (eu [d]).g):=by
 have h1:∀x∈[d],rG x:=a7X hp;have h3:0<[d].length∧[d].length<=ah:=⟨by simp,a3G⟩;have hJ:jP (eu [d]):=yD (D:=[d]) (by simp) (by simp) h1 (by simpa using e1);have s1:=Jt (n:=n) (f:=79) h2 hO (D:=[d]) (by simp) hJ.eF.len (k:=true) (ex:=true);have h:aX X0 Qp (bQ (n+1)) (.fn 86 [] []) [.agg d.ps,.agg v.ps] [] (.dG [a7W (eu [d]) 79 1 2,.int .i64 0]) [.list true true 26 [d],.list true true 26 [d],.list true true 3 (eu [d]).g]:=fP Am (first:=[]) (cap:=[]) (.o h1 (.o h3 (.b e1 (.b e2 (.fr [1] s1 .er)))));exact aX.gs hX h [.gc [1,2]] rfl
theorem pV(J:Jb):((bK J).map (·.1)).Nodup:=(((ny Vf (yC (fD J))).map (·.1)).nodup_iff).2 (AL (fD J)).1
theorem Dx(φ:V->Int)(J:Jb):dD φ (bK J)=dS φ (fD J):=by
 unfold bK;rw[a3p φ (ny Vf (yC (fD J))),SQ]
theorem PD{α:Type}:∀l:List α,dS (fun _=>1) l=(l.length:Int)
 | []=>rfl
 |a::l=>by
  have:=PD l;simp only[dS,a3V];omega
theorem Ti{J:Jb}(hJ:jP J):Jr (bK J):=by
 refine⟨fun e he=>(AL (fD J)).2 e ((ny Vf (yC (fD J))).mem_iff.1 he),?_⟩;rw[Dx,PD];have h1:(fD J).length<=(Qr J).length:=by
  unfold fD Ve;rw[a4e];exact a4A (a8H _ _) (by rw[a4e];exact a15 _)
 have h2:(Qr J).length<=EM J.s:=a4A (a8H _ _) (by rw[a4e,a8C];exact a15 _);have h3:=hJ.eF.a9J;have h4:=hJ.eF.many;omega
def Vk(p:Dg×V):Int×Int:=if(bT [p.1] != 0)=true then(0,bT [p.1])else if(nP p.2 != 0)=true then(0,4)else(look (bK (eu [p.1])) p.2,0)
def afL:eY aF:=bZ 27 (a2 dA vA) (dP (a2 iA iA)) Vk (fun p=>[rG p.1]) Yb
theorem apV:Gd afL:=Good.WZ 24 adb Ku fun n hn hO FU p hp=>by
 obtain⟨d,v⟩:=p;have h1:rG d:=hp _ (.head _);obtain⟨n,rfl⟩:∃k,n=k+1:=⟨n-1,by omega⟩;have Am:=hO (n+1) (by omega);cases e1:(bT [d] != 0)
 .cases e2:(nP v != 0)
  .have s1:=akR (n:=n) (by omega) (hO n (by omega)) (fun m hm=>FU m (by omega)) h1 e1 e2;have hJ:jP (eu [d]):=yD (D:=[d]) (by simp) (by simp) (a7X h1) (by simpa using e1);have s2:=a7V (k:=true) (ex:=true) (k2:=true) (KW:=true) (Po hJ (n:=n-1) (f:=79) (FU _ (by omega)) (show 0<[d].length by simp));rw[show n-1+2=n+1 by omega]at s2;show mY X0 Qp _ _ _ ((dP (a2 iA iA)).put (if(bT [d] != 0)=true then(0,bT [d])else if(nP v != 0)=true then(0,4)else(look (bK (eu [d])) v,0))) _;rw[e1,e2];rcases I8 (pV (eu [d])) v with hf|⟨hz,hf⟩
   .exact aN Am (.fr [] s1 (.b (rfl:((0:Int) != 0)=false) (.fr [0,1] s2 (.c (.int .i64 (look (bK (eu [d])) v)) [] hf .rr))))
   .rw[hz];exact aN Am (.fr [] s1 (.b (rfl:((0:Int) != 0)=false) (.fr [0,1] s2 (.a .calm (.o hf .rr)))))
  .have s1:=akQ (n:=n) (hO n (by omega)) h1 e1 e2;show mY X0 Qp _ _ _ ((dP (a2 iA iA)).put (if(bT [d] != 0)=true then(0,bT [d])else if(nP v != 0)=true then(0,4)else(look (bK (eu [d])) v,0))) _;rw[e1,e2];exact aN Am (.fr [] s1 (.b (rfl:((4:Int) != 0)=true) .rr))
 .have s1:=akP (n:=n) (v:=v) (hO n (by omega)) h1 e1;show mY X0 Qp _ _ _ ((dP (a2 iA iA)).put (if(bT [d] != 0)=true then(0,bT [d])else if(nP v != 0)=true then(0,4)else(look (bK (eu [d])) v,0))) _;rw[a0h e1];exact aN Am (.fr [] s1 (.b e1 .rr))
open Go Tw Pv bW
structure An where
 q:Int
 none:Bool
 yes:Bool
 n:Int
 lo:Int
 hi:Int
 fault:Bool
 set:List Int
deriving DecidableEq
abbrev Tj:An:=⟨0,false,false,0,0,0,false,[]⟩
def akS:Ar X0 Qp Unit where
 put _:=.nil .slc
 get v:=match v with
  |.nil .slc=>some ()
  |_=>none
 ok:=by
  intro v a hg A m h x hv;split at hg
  .exact hv
  .cases hg
def PZ:Arg An:=aeo (a5W (KL uA (KL tA (KL tA (KL iA (KL iA (a4 iA tA ql akS)))))))
 (fun p=>⟨p.1,p.2.1,p.2.2.1,p.2.2.2.1,p.2.2.2.2.1,p.2.2.2.2.2.1,p.2.2.2.2.2.2.1,p.2.2.2.2.2.2.2.1⟩) (fun a=>(a.q,a.none,a.yes,a.n,a.lo,a.hi,a.fault,a.set,())) fun _=>rfl
abbrev anW(a:An)(s:PV aF):PV aF:=.agg [.int .u8 a.q,.bool a.none,.bool a.yes,.int .i64 a.n,.int .i64 a.lo,.int .i64 a.hi,.bool a.fault,s,.nil .slc]
theorem rA(a:An)(h:a.set=[])(e:Int):Fp (Γ:=X0.Γ) (Is (X:=X0) (P:=Qp) (dP (a2 PZ iA)) (a,e)) .n (.ret (some (.dG [anW a (.nil .slc),.int .i64 e]))):=by
 obtain⟨q,no,y,n,l,hi,f,s⟩:=a;cases h;have h:(dP (a2 PZ iA)).get (.dG [anW ⟨q,no,y,n,l,hi,f,[]⟩ (.nil .slc),.int .i64 e])=some (⟨q,no,y,n,l,hi,f,[]⟩,e):=rfl;exact Fp.rn (X:=X0) (P:=Qp) _ h
def a1N(q:Int)(t:List (V×Int)):An×Int:=
 if(q==1)=true then(⟨q,false,look t iG==dD (fun _=>1) t,0,0,0,false,[]⟩,0)
 else if(q==2)=true then(⟨q,false,decide (look t iG>0),0,0,0,false,[]⟩,0)
 else if(q==3)=true then(⟨q,false,false,look t iG,0,0,false,[]⟩,0)
 else if(q==4)=true then(if jZ t=[]then(⟨q,true,false,0,0,0,rH t,[]⟩,0)else(⟨q,((jZ t).length:Int)==0,false,0,(jZ t).getD 0 0,(jZ t).getD (i64.wrap ((jZ t).length-1)).toNat 0,rH t,[]⟩,0))
 else(⟨q,false,false,0,0,0,rH t,jZ t⟩,0)
def yE(q:Int)(t:List (V×Int)):An×Int:=if t=[]then(⟨q,true,false,0,0,0,false,[]⟩,0)else a1N q t
def uz(p:Int×Dg×Dg):An×Int:=if(bT [p.2.1,p.2.2] != 0)=true then(Tj,bT [p.2.1,p.2.2])else if decide (p.1<1)=true then(Tj,2)else if decide (p.1>5)=true then(Tj,2)else yE p.1 (bK (eu [p.2.1,p.2.2]))
def a7Y:eY aF:=bZ 33 (a3 uA dA dA) (dP (a2 PZ iA)) uz (fun p=>[rG p.2.1,rG p.2.2]) afL
theorem afM{t:List (V×Int)}(h:Jr t):(jZ t).length<=2000:=by
 unfold jZ;rw[show ∀l:List Int,(fU l).length=l.length from fun l=>(adh l _).length_eq,a4e];exact a4A (a8H _ _) h.len
abbrev HMt(t:List (V×Int)):List (PB aF):=[.map (kV.im t)]
abbrev HMn(t:List (V×Int)):List (PB aF):=[.map (kV.im t),.list false false 3 (jZ t)]
section
variable {n:Nat} {q:Int} {d e:Dg} (hO:Ok n afL) (h1:∀ x∈[d,e],rG x) (e1:(bT [d,e] != 0)=false) (e2:decide (q<1)=false) (e3:decide (q>5)=false) {t:List (V×Int)} (ht:Jr t)
 (s1:aX X0 Tryz.prog (bQ n) (.fn 78 [] []) [.fn 79 [] [],.own 0] [.list true true 26 [d,e]] (a7W (eu [d,e]) 79 0 1) (HO [d,e] (eu [d,e]).g))
 (s2:aX X0 Tryz.prog (bQ n) (.fn 87 [] []) [a7W (eu [d,e]) 79 0 1] (HO [d,e] (eu [d,e]).g) (.map 2) [.gone,.gone,.map (kV.im t)])
 (s3:aX X0 Tryz.prog (bQ n) (.fn 90 [] []) [.map 0] [.iD (kV.im t)] (.int .i64 (dD (fun _=>1) t)) [.iD (kV.im t)])
 (s4:jZ t=[]->aX X0 Tryz.prog (bQ n) (.fn 88 [] []) [.map 0] [.iD (kV.im t)] (.dG [.nil .slc,.bool (rH t)]) [.iD (kV.im t)])
 (s5:jZ t≠[]->aX X0 Tryz.prog (bQ n) (.fn 88 [] []) [.map 0] [.iD (kV.im t)] (.dG [.own 1,.bool (rH t)]) [.iD (kV.im t),.list false false 3 (jZ t)])
include hO h1 e1 e2 e3 s1 s2
theorem aaS(h:t=[]):mY X0 Qp (bQ (n+1)) 33 ((a3 uA dA dA).put (q,d,e)) ((dP (a2 PZ iA)).put (⟨q,true,false,0,0,0,false,[]⟩,0)) []:=by
 subst h;have h3:0<[d,e].length∧[d,e].length<=ah:=⟨by simp,aaR⟩;exact aN hO (.o h1 (.o h3 (.b e1 (.b e2 (.b e3 (.fr [1] s1 (.fr [1,2] s2 (.b (show(((kV.im ([]:List (V×Int))).length:Int)==0)=true from rfl) (rA _ rfl _)))))))))
variable (hd:(t.map (·.1)).Nodup)
include ht s3 s4 s5 hd
theorem a7Z(h:t≠[]):mY X0 Qp (bQ (n+1)) 33 ((a3 uA dA dA).put (q,d,e)) ((dP (a2 PZ iA)).put (a1N q t)) []:=by
 have h3:0<[d,e].length∧[d,e].length<=ah:=⟨by simp,aaR⟩;have hl:(((kV.im t).length:Int)==0)=false:=by
  rw[kV.oN];cases t with
  |nil=>exact absurd rfl h
  |cons a r=>exact bne (by simp only[a3V];omega)
 have TM:=afM ht;have s0:aX X0 Qp (bQ n) (.fn 89 [] []) [] [] (.agg iG.ps) []:=mY.ZH hX (first:=[]) (cap:=[]) (hO 89 [] (vA.put iG) [] [] (by kernel_rfl) (fun p h=>by cases h)) rfl rfl rfl rfl;unfold a1N;by_cases hn:jZ t=[]
 .rw[a0h hn];rcases I8 hd iG with hf|⟨hz,hf⟩
  .exact aN hO (.o h1 (.o h3 (.b e1 (.b e2 (.b e3 (.fr [1] s1 (.fr [1,2] s2 (.b hl (.Qh (H2:=HMt t) [3] [0] (s4 hn) (.ss (.fr [] s0 (.c (.int .i64 (look t iG)) [] hf (.Qh (H2:=HMt t) [3] [0] s3 (rA _ rfl _)))) (.ss (.fr [] s0 (.c (.int .i64 (look t iG)) [] hf (rA _ rfl _))) (.ss (.fr [] s0 (.c (.int .i64 (look t iG)) [] hf (rA _ rfl _))) (.ss (.b (c:=!((0:Int)==0)) (t:=false) rfl (rA _ rfl _)) (rA ⟨q,false,false,0,0,0,rH t,jZ t⟩ hn _))))))))))))))
  rw[hz];exact aN hO (.o h1 (.o h3 (.b e1 (.b e2 (.b e3 (.fr [1] s1 (.fr [1,2] s2 (.b hl (.Qh (H2:=HMt t) [3] [0] (s4 hn) (.ss (.a .calm (.o hf (.Qh (H2:=HMt t) [3] [0] s3 (rA _ rfl _)))) (.ss (.a .calm (.o hf (rA _ rfl _))) (.ss (.a .calm (.o hf (rA _ rfl _))) (.ss (.b (c:=!((0:Int)==0)) (t:=false) rfl (rA _ rfl _)) (rA ⟨q,false,false,0,0,0,rH t,jZ t⟩ hn _))))))))))))))
 rw[a0g hn];have hp:0<(jZ t).length:=a9D.2 hn;have hb:(!(((jZ t).length:Int)==0))=true:=by rw[bne (by omega)];rfl
 have i0:gQ 0 (jZ t).length:=aG hp;have i1:gQ (i64.wrap ((jZ t).length-1)) (jZ t).length:=by
  rw[wrap_small (by omega) (by omega)];exact⟨by omega,by omega⟩
 rcases I8 hd iG with hf|⟨hz,hf⟩
 .exact aN hO (.o h1 (.o h3 (.b e1 (.b e2 (.b e3 (.fr [1] s1 (.fr [1,2] s2 (.b hl (.Qh (H2:=HMn t) [3] [0] (s5 hn) (.ss (.fr [] s0 (.c (.int .i64 (look t iG)) [] hf (.Qh (H2:=HMt t) [3] [0] s3 (rA _ rfl _)))) (.ss (.fr [] s0 (.c (.int .i64 (look t iG)) [] hf (rA _ rfl _))) (.ss (.fr [] s0 (.c (.int .i64 (look t iG)) [] hf (rA _ rfl _))) (.ss (.b hb (.o i0 (.o i1 (rA _ rfl _)))) .rr)))))))))))))
 rw[hz];exact aN hO (.o h1 (.o h3 (.b e1 (.b e2 (.b e3 (.fr [1] s1 (.fr [1,2] s2 (.b hl (.Qh (H2:=HMn t) [3] [0] (s5 hn) (.ss (.a .calm (.o hf (.Qh (H2:=HMt t) [3] [0] s3 (rA _ rfl _)))) (.ss (.a .calm (.o hf (rA _ rfl _))) (.ss (.a .calm (.o hf (rA _ rfl _))) (.ss (.b hb (.o i0 (.o i1 (rA _ rfl _)))) .rr)))))))))))))
end
theorem akT:Gd a7Y:=Good.WZ 24 apV Ku fun n hn hO FU p hp=>by
 obtain⟨q,d,e⟩:=p;have h1:∀x∈[d,e],rG x:=Ya (hp _ (.head _)) (hp _ (.tail _ (.head _)));have h3:0<[d,e].length∧[d,e].length<=ah:=⟨by simp,aaR⟩;have Am:=hO n (by omega);show mY X0 Qp _ _ _ ((dP (a2 PZ iA)).put (if(bT [d,e] != 0)=true then(Tj,bT [d,e])else if decide (q<1)=true then(Tj,2)else if decide (q>5)=true then(Tj,2)else yE q (bK (eu [d,e])))) _;cases e1:(bT [d,e] != 0)
 .cases e2:decide (q<1)
  .cases e3:decide (q>5)
   .have hJ:=yD (D:=[d,e]) (by simp) (by simp) h1 (by simpa using e1);have ht:=Ti hJ;have s1:=Jt (n:=n) (f:=79) (by omega) (fun m hm=>FU m (by omega)) (D:=[d,e]) (by simp) hJ.eF.len (k:=true) (ex:=true);have s2:=a7V (k:=true) (ex:=true) (k2:=true) (KW:=true) (Po hJ (n:=n-2) (f:=79) (FU _ (by omega)) (show 0<[d,e].length by simp));have s3:=apC (n:=n-1) ht;have s4:=(ad9 (n:=n-2) ht).1;have s5:=(ad9 (n:=n-2) ht).2;rw[show n-2+2=n by omega]at s2 s4 s5;rw[show n-1+1=n by omega]at s3;show mY X0 Qp _ _ _ ((dP (a2 PZ iA)).put (yE q (bK (eu [d,e])))) _;unfold yE;by_cases h:bK (eu [d,e])=[]
    .rw[a0h h];exact aaS Am h1 e1 e2 e3 s1 s2 h
    .rw[a0g h];exact a7Z Am h1 e1 e2 e3 ht s1 s2 s3 s4 s5 (pV _) h
   .exact aN Am (.o h1 (.o h3 (.b e1 (.b e2 (.b e3 (rA _ rfl _))))))
  .exact aN Am (.o h1 (.o h3 (.b e1 (.b e2 (rA _ rfl _)))))
 .exact aN Am (.o h1 (.o h3 (.b e1 (rA _ rfl _))))
open Go Tw Pv bW
section
variable {n:Nat} {t:List (V×Int)} (h:Jr t) (ht:t≠[])
theorem akU{k:Bool}:aX X0 Qp (bQ (n+1)) (.fn 96 [] []) [.map 0] [.map (kV.im t)] vF [.map (kV.im t),.cells [.map 0]]:=
 fP fZ (first:=[]) (cap:=[]) .er
include h ht
theorem akV:aX X0 Qp (bQ (n+3)) (.fn 95 [] []) [vF] [.iD (kV.im t),.aC [.map 0]] (.slc 2 0 t.length t.length 1 false) [.iD (kV.im t),.aC [.map 0],.lZ ((rJ t).map KU)]:=by
 have h1:=aaG (n:=n) h ht;exact fP fZ (first:=[]) (cap:=[]) (.k h1 .er)
omit ht in
theorem a81:(rJ t).length=t.length:=by
 unfold rJ;rw[(ny _ _).length_eq,a4e]
theorem akW:aX X0 Qp (bQ (n+1)) (.fn 94 [] []) [.slc 0 0 t.length t.length 1 false] [.lZ ((rJ t).map KU)] (.int .i64 (Py (rJ t))) [.lZ ((rJ t).map KU)]:=by
 have hl:=a81 h;have h0:rJ t≠[]:=fun e=>ht (a6Y.1 (by rw[<-hl,e];rfl));have:=akx (n:=n) h0 (by rw[hl];exact h.len)
 rwa [hl]at this
end
end Go.Proofs.YtmobpoiejckagaaGreat
namespace Pv
open Go Tw
section
variable {X:kE} {P:Program}
theorem aX.lend(hX:bM X P){call:aZ}{f:FuncId}{cs ws rest xs:List (PV X.Γ)}{H:List (PB X.Γ)}{es:List (PV X.Γ×PV X.Γ)}(is:List Nat)(hs:aX X P call (.fn f [] []) (.agg (ws++rest)::xs) (aY is H) (.map H.length) (aY is H++[.map es]))
  (hv:views H cs=some ws) (ho:∀i,i∈kH.jS cs->i∈is) (hg:aY is H=List.replicate H.length .gone):aX X P call (.fn f [] []) (.agg (cs++rest)::xs) H (.map H.length) (H++[.map es]):=by
 intro A m h tf rP hr hf hx;obtain⟨x0,r,rfl,v0,vr⟩:=hx.inv;cases v0 with
 |gone hi _ _=>simp[bg]at hi
 |agg a1 a2=>
  rename_i cs';have ha:bV X P (AA A m) m h (cs++rest) cs':=⟨a1,a2⟩;obtain⟨c1,c2,rfl,b1,b2⟩:=Eb ha;have hF:=iq (h:=h) is m;have w1:=(kX (m':=bU is m) hX hr b1 hv ho).mono fun b hb=>FA.gone hr hb;have w2:=b2.step hF.1 hF.2;have w3:=w1.app w2;have Zh:=hr.aY is;obtain⟨w,h',TL,m1,k1,k2,k3,k4,k5,k6⟩:=hs A (bU is m) h tf (.agg (c1++c2)::r) Zh (hf.step hF.1 hF.2) (.cons (.agg w3.1 w3.2) (vr.step hF.1 hF.2));have e0:∀b,b∉bn (bU is m):=fun b hb=>by
   unfold bn at hb;obtain⟨mb,h1,h2⟩:=a7x.1 hb;obtain⟨i,hi,e⟩:=a9F h1;have JE:i<H.length:=by have:=Zh.len;rw[nG]at this;omega
   obtain⟨mb2,g1,g2⟩:=Zh.at_ i .gone (by rw[hg,agx,a0h JE]);rw[a0a hi,e]at g1;cases g1;cases mb with
   |gone=>cases h2
   |_=>exact g2.elim
  obtain⟨mb,g1,g2⟩:=k2.at_ H.length (.map es) (by rw[a1c (by rw[nG];exact a15 _),nG];simp);cases mb with
  |fV c=>
   have hc:c∈bn m1:=a7x.2 ⟨_,a4l g1,rfl⟩;have JH:h.length<=c:=(k4.new c hc).resolve_left (e0 c);have xJ:bn (m++[.fV c])=bn m++[c]:=by unfold bn;rw[List.filterMap_append];rfl
   have hF2:Fr m h (m++[.fV c]) h':=⟨k4.len,fun b hb _=>k4.same b hb (e0 b),fun b hb=>by
    rw[xJ]at hb;rcases a3K.1 hb with hb|hb
    .exact .inl hb
    .rw[a2I.1 hb];exact .inr JH,k4.grow⟩
   have hU2:Up m (m++[.fV c]):=fun i mb hi=>.inl (by rw[a0e (a04.1 hi).1];exact hi);have hm:(m++[MB.fV c])[H.length]? = some (.fV c):=by rw[<-hr.len];simp
   refine⟨w,h',TL,m++[.fV c],k1,⟨by simp[hr.len],fun i b hi=>?_,?_,k2.up,fun b hb=>?_⟩,?_,hF2,hU2,fun b hb=>absurd (k6 b hb) (e0 b)⟩
   .by_cases aS:i<H.length
    .rw[a0e aS]at hi;obtain⟨mb,q1,q2⟩:=hr.at_ i b hi;exact⟨mb,by rw[a0e (by rw[hr.len];exact aS)];exact q1,q2.step hF2 hU2 fun d hd=>k4.same d (BR.has q2 hd) (e0 d)⟩
    .have JE:i=H.length:=by
      have:=(a04.1 hi).1;rw[a2a,a3s]at this;omega
     subst JE;rw[a1c (a15 _)]at hi;simp at hi;subst hi;exact⟨_,hm,g2⟩
   .rw[xJ];refine a8B.2 ⟨hr.nodup,by simp,fun a ha b hb=>?_⟩;rw[a2I.1 hb];have:=hr.inb ha;omega
   .rw[xJ]at hb;rcases a3K.1 hb with hb|hb
    .exact hr.CP b hb
    .rw[a2I.1 hb];exact k2.CP c hc
   .cases k3 with
    |map e=>rw[g1]at e;cases e;exact .map hm
    |gone hi e o=>simp only[bg,a00]at hi;subst hi;rw[g1]at e;cases e
  |_=>exact g2.elim
variable {A:Nat->Prop} {m m':List MB} {H:List (PB X.Γ)} {h:List HB}
theorem aaT(hX:bM X P){k:Bool}{t i:Nat}{l:List (X.Γ t)}{x:TV}(hl:LR X P (AA A m) m h k true t l x)(hi:m[i]? = some (.dw x)){is:List Nat}(hs:i∈is):VR X P (FA A m is) m' h (.dw t l true) x:=by
 cases hl with
 |nil=>exact .nZ
 |emp h0 h1 h2 h3 h4=>exact .dw (.inl h0) h1 (fun e=>absurd rfl e) h3 h4 (by simpa using h2) (a15 _) (fun _=>⟨rfl,rfl⟩) (fun j a hj=>by simp at hj) (fun j a i c v hj=>by simp at hj)
 |some h1 h2 h3 h4 h5 h6 h7 h8 h9=>
  refine .dw (cs:=_) (.inr ⟨i,_,hs,hi,?_⟩) (by unfold aV;rw[h4]) (fun _=>vZ h4 (by omega)) h2 h3 (by omega) (a15 _) (fun _=>⟨h7 rfl,rfl⟩) h9.1 ?_
  .simp only[MB.own];rw[a0g (by simpa using h1)]
  intro j a q c v e1 e2 e3;exact((h9.2.2 j a q c v e1 e2 e3).mono fun b hb=>.inl hb).jc hX (fA (hX.jc _ _) e2)
theorem aX.full(hX:bM X P){call:aZ}{fv v:PV X.Γ}{xs:List (PV X.Γ)}{H H1:List (PB X.Γ)}{i t:Nat}{k:Bool}{l:List (X.Γ t)}(hk:H[i]? = some (.list k true t l))(hs:aX X P call fv (.dw t l true::xs) (aY [i] H) v H1):aX X P call fv (.own i::xs) H v H1:=by
 intro A m h tf rP hr hf hx;obtain⟨x0,r,rfl,v0,vr⟩:=hx.inv;obtain⟨mb,g1,g2⟩:=hr.at_ i _ hk;cases mb with
 |dw y=>
  have hy:x0=y:=by
   cases v0 with
   |own e _=>rw[g1]at e;cases e;rfl
   |gone hi e _=>simp only[bg,a00]at hi;subst hi;rw[g1]at e;cases e
  subst hy;have hF:=iq (h:=h) [i] m;have w1:VR X P (AA A (bU [i] m)) (bU [i] m) h (.dw t l true) x0:=(aaT (m':=bU [i] m) hX g2 g1 (is:=[i]) (by simp)).mono fun b hb=>FA.gone hr hb;obtain⟨w,h',TL,m1,k1,k2,k3,k4,k5,k6⟩:=hs A (bU [i] m) h tf (x0::r) (hr.aY [i]) (hf.step hF.1 hF.2) (.cons w1 (vr.step hF.1 hF.2));refine⟨w,h',TL,m1,k1,k2,k3,hF.1.trans k4,hF.2.trans k5,fun b hb=>?_⟩;rcases hF.1.new b (k6 b hb)with g|g
  .exact g
  have:=(hr.aY [i]).inb (k6 b hb);omega
 |_=>exact g2.elim
end
end Pv
namespace Go.Proofs.YtmobpoiejckagaaGreat
open Go Tw Pv bW
abbrev lkC(no:Bool)(n:Int)(s:PV aF):List (PV aF):=[.int .u8 8,.bool no,.bool false,.int .i64 n,.int .i64 0,.int .i64 0,.bool false,s,.nil .slc]
abbrev wLk(l:List Dg)(d:Dg)(n:Int)(s:PV aF)(H:List (PB aF))(i:Int)(x:List (Nat×PE aF)):aQ aF:=⟨[(3,.loc 0 0),(4,.loc 1 0),(31,.val (.dw 26 l true)),(32,xi l.length),(33,xi i)]++x,[d.ps,lkC false n s],H⟩
abbrev hLk(b:Int):List (PB aF):=[.list true true 3 ([b]:List Int)]
def akX(l:List Dg)(d:Dg)(i:Int)(x:List (Nat×PE aF)):Option (Int×Int)->aQ aF
 |none=>wLk l d 0 (.nil .slc) [] i x
 |some (b,z)=>wLk l d z (.own 0) (hLk b) i x
def tLk(l:List Dg)(d:Dg)(k:Nat):List (V×Int):=bK (eu [l.getD k kJ,d])
def mLk(l:List Dg)(d:Dg)(k:Nat):Int:=Py (rJ (tLk l d k))
def gLk(l:List Dg)(d:Dg)(k:Nat)(s:Option (Int×Int)):Option (Int×Int)⊕(Option (Int×Int)×Nat):=
 if tLk l d k=[]then .inr (s,k)else match s with
  |none=>.inl (some ((k:Int),mLk l d k))
  |some (b,z)=>if decide (mLk l d k<z)=true then .inl (some ((k:Int),mLk l d k))else .inl (some (b,z))
def zLk(l:List Dg)(d:Dg):Option (Int×Int)⊕(Option (Int×Int)×Nat)->Ex×aQ aF
 |.inl s=>(.exit 1,akX l d l.length [(34,xl false)] s)
 |.inr (none,k)=>(.ret,⟨[(4,.loc 1 0),(5,xi 0)],[d.ps,lkC true 0 (.nil .slc),(l.getD k kJ).ps],[]⟩)
 |.inr (some (b,z),k)=>(.ret,⟨[(4,.loc 1 0),(5,xi 0)],[d.ps,lkC true z (.own 0),(l.getD k kJ).ps],hLk b⟩)
structure LkP(l:List Dg)(d:Dg):Prop where
 p:∀x∈l++[d],rG x
 g:∀x∈l++[d],DgG x∧x.aA=((l++[d]).getD 0 kJ).aA∧x.aH=((l++[d]).getD 0 kJ).aH
theorem LkP.j{l:List Dg}{d:Dg}(h:LkP l d){k:Nat}(hk:k<l.length):jP (eu [l.getD k kJ,d]):=by
 have h1:=h.g (l.getD k kJ) (a5d _ (dZ hk));have h2:=h.g d (abg _ (a2I.2 rfl));exact ada (D:=[l.getD k kJ,d]) (by simp) (by simp) (Ya (P:=fun x=>DgG x∧x.aA=(l.getD k kJ).aA∧x.aH=(l.getD k kJ).aH) ⟨h1.1,rfl,rfl⟩ ⟨h2.1,h2.2.1.trans h1.2.1.symm,h2.2.2.trans h1.2.2.symm⟩)
theorem lLk{n:Nat}(hn:24<=n)(hO:∀m,n-24<=m->Ok m qo){l:List Dg}{d:Dg}(h:LkP l d)(hl:l.length<=ah):Lp n 39 0 (wLk l d 0 (.nil .slc) [] 0 []) (zLk l d (jX (gLk l d) l.length 0 none)).1 (zLk l d (jX (gLk l d) l.length 0 none)).2:=by
 refine iU (st:=fun i s=>akX l d i [] s) (g:=gLk l d) (out:=zLk l d) (s0:=none) (fun k s=>k=0↔s=none) (by kernel_rfl) hl (by simp) (fun k s m hk hi ih=>?_) (fun s _=>?_)
 .have hJ:=h.j hk;have ht:Jr (tLk l d k):=Ti hJ;have s1:=Jt (n:=n) (f:=79) (by omega) (fun m hm=>hO m (by omega)) (D:=[l.getD k kJ,d]) (by simp) hJ.eF.len (k:=true) (ex:=true);have s2:=a7V (k:=true) (ex:=true) (k2:=true) (KW:=true) (Po hJ (n:=n-2) (f:=79) (hO _ (by omega)) (show 0<[l.getD k kJ,d].length by simp));rw[show n-2+2=n by omega]at s2
  change aX _ _ _ _ _ _ _ [.gone,.gone,.map (kV.im (tLk l d k))]at s2
  unfold gLk;by_cases h0:tLk l d k=[]
  .rw[a0h h0];rw[h0]at s2;have hz:(((kV.im ([]:List (V×Int))).length:Int)==0)=true:=rfl;rcases s with _|⟨b,z⟩
   .exact aK fZ (.b (aW hk) (.o (aG hk) (.fr [0] s1 (.fr [0,1] s2 (.b hz (.ouG [.gc []] nofun))))))
   exact aK fZ (.b (aW hk) (.o (aG hk) (.fr [1] s1 (.fr [1,2] s2 (.b hz (.ouG [.gc [0]] nofun))))))
  rw[a0g h0];have hz:(((kV.im (tLk l d k)).length:Int)==0)=false:=by
   rw[kV.oN];exact bne (by have:=a9D.2 h0;omega)
  have s3:=akU (n:=n-1) (t:=tLk l d k) (k:=true);have s4:=akV (n:=n-3) ht h0;have s5:=akW (n:=n-1) ht h0;rw[show n-1+1=n by omega]at s3 s5;rw[show n-3+3=n by omega]at s4;rcases s with _|⟨b,z⟩
  .have hk0:k=0:=hi.2 rfl;have hb:((k:Int)==0)=true:=by rw[hk0];rfl
   exact aK fZ (.b (aW hk) (.o (aG hk) (.fr [0] s1 (.fr [0,1] s2 (.b hz (.fr [2] s3 (.Qh (H2:=[.map (kV.im (tLk l d k)),.cells [.map 0],.lZ ((rJ (tLk l d k)).map KU)]) [2,3] [0,1] s4 (.fr [4] s5 (.b hb (.nxG [.gc [5]] (ih _ (by simp))))))))))))
  have hk0:k≠0:=fun e=>by cases hi.1 e
  have hb:((k:Int)==0)=false:=bne (by omega);exact aK fZ (.b (aW hk) (.o (aG hk) (.fr [1] s1 (.fr [1,2] s2 (.b hz (.fr [3] s3 (.Qh (H2:=[.map (kV.im (tLk l d k)),.cells [.map 0],.lZ ((rJ (tLk l d k)).map KU)]) [3,4] [0,1] s4 (.fr [5] s5 (.b hb (.ls (.nxG [.gc [6]] (ih _ (by simp))) (.nxG [.gc [0]] (ih _ (by simp)))))))))))))
 rcases s with _|⟨b,z⟩
 .exact aK fZ (.b (eX l.length) (.ou nofun))
 exact aK fZ (.b (eX l.length) (.ou nofun))
theorem afO{n:Nat}{l:List Dg}:aX X0 Qp (bQ (n+1)) (.fn 93 [] []) [.dw 26 l true] [] (.dw 26 l true) []:=fP fZ (first:=[]) (cap:=[]) (.o (rfl:((0:Nat):Int)=0) (.o (rfl:(l.length:Int)=(l.length:Int)) (.o (rfl:(l.length:Int)=(l.length:Int)) .er)))
def akY:Option (Int×Int)⊕(Option (Int×Int)×Nat)->An
 |.inl none=>⟨8,false,false,0,0,0,false,[]⟩
 |.inl (some (b,z))=>⟨8,false,false,z,0,0,false,[b]⟩
 |.inr (none,_)=>⟨8,true,false,0,0,0,false,[]⟩
 |.inr (some (b,z),_)=>⟨8,true,false,z,0,0,false,[b]⟩
def MG(p:List Dg×Dg):An×Int:=if decide ((p.1.length:Int)>4)=true then(Tj,5)else if(bT (p.1++[p.2]) != 0)=true then(Tj,bT (p.1++[p.2]))else if((p.1.length:Int)==0)=true then(Tj,7)else(akY (jX (gLk p.1 p.2) p.1.length 0 none),0)
theorem aaU{n:Nat}(hn:24<=n)(Am:Ok n a7Y)(FU:∀m,n-24<=m->Ok m qo){l:List Dg}{d:Dg}(h1:∀x∈l++[d],rG x)(h2:l.length<=1000):mY X0 Qp (bQ (n+1)) 39 [.dw 26 l true,.agg d.ps] ((dP (a2 PZ iA)).put (MG (l,d))) []:=by
 have hl:l.length<=ah:=by unfold ah;omega
 have h3:0<(l++[d]).length∧(l++[d]).length<=ah:=by rw[a2a,a3s];unfold ah;omega
 have h4:l.length+[d].length<=ah:=by rw[a3s];unfold ah;omega
 have h5:l=[]∨[d]≠[]:=.inr (by simp);have s0:=afO (n:=n-1) (l:=l);rw[show n-1+1=n by omega]at s0;show mY X0 Qp _ _ _ ((dP (a2 PZ iA)).put (if decide ((l.length:Int)>4)=true then(Tj,5)else if(bT (l++[d]) != 0)=true then(Tj,bT (l++[d]))else if((l.length:Int)==0)=true then(Tj,7)else(akY (jX (gLk l d) l.length 0 none),0))) _;cases e1:decide ((l.length:Int)>4)
 .cases e2:(bT (l++[d]) != 0)
  .cases e3:((l.length:Int)==0)
   .have hk:LkP l d:=⟨h1,Vj h1 (by simpa using e2)⟩;have lp:=lLk (n:=n) hn FU hk hl;revert lp;rcases jX (gLk l d) l.length 0 none with(_|⟨b,z⟩)|⟨_|⟨b,z⟩,k⟩
    .intro lp;exact aN Am (.b e1 (.fr [] s0 (.o h4 (.o h5 (.o h1 (.o h3 (.b e2 (.b e3 (.wG [.gc []] lp (rA ⟨8,false,false,0,0,0,false,[]⟩ rfl _))))))))))
    .intro lp;exact aN Am (.b e1 (.fr [] s0 (.o h4 (.o h5 (.o h1 (.o h3 (.b e2 (.b e3 (.wG [.gc []] lp .rr)))))))))
    .intro lp;exact aN Am (.b e1 (.fr [] s0 (.o h4 (.o h5 (.o h1 (.o h3 (.b e2 (.b e3 (.wG [.gc []] lp (rA ⟨8,true,false,0,0,0,false,[]⟩ rfl _))))))))))
    intro lp;exact aN Am (.b e1 (.fr [] s0 (.o h4 (.o h5 (.o h1 (.o h3 (.b e2 (.b e3 (.wG [.gc []] lp .rr)))))))))
   exact aN Am (.b e1 (.fr [] s0 (.o h4 (.o h5 (.o h1 (.o h3 (.b e2 (.b e3 (rA _ rfl _)))))))))
  exact aN Am (.b e1 (.fr [] s0 (.o h4 (.o h5 (.o h1 (.o h3 (.b e2 (rA _ rfl _))))))))
 exact aN Am (.b e1 (rA _ rfl _))
theorem akZ{n:Nat}(hn:24<=n)(Am:Ok n a7Y)(FU:∀m,n-24<=m->Ok m qo){k:Bool}{l:List Dg}{d:Dg}(h1:∀x∈l++[d],rG x)(h2:l.length<=1000):aX X0 Qp (bQ (n+1)) (.fn 39 [] []) [.own 0,.agg d.ps] [.list k true 26 l] ((dP (a2 PZ iA)).put (MG (l,d))) [.gone]:=by
 have h:=mY.ZH hX (first:=[]) (cap:=[]) (xs:=[.dw 26 l true,.agg d.ps]) (aaU hn Am FU h1 h2) rfl rfl rfl rfl;have h2:=aX.frame hX (ks:=[]) (H':=[.gone]) (Hp:=[]) (PW:=[]) (v':=(dP (a2 PZ iA)).put (MG (l,d))) (fv':=.fn 39 [] []) (xs':=[.dw 26 l true,.agg d.ps]) h (by decide) rfl rfl rfl rfl rfl rfl rfl;exact aX.full hX (i:=0) (k:=k) (t:=26) (l:=l) rfl h2
open Go Tw Pv bW
def jg(d:Dg)(g:List Int):Jb:=⟨d.aA,d.aH,[d],g⟩
structure GOk(d:Dg)(g:List Int):Prop where
 len:g.length=d.aA.length
 v:∀c,gQ c d.aA.length->0<=g.getD c.toNat 0->g.getD c.toNat 0<d.aA.getD c.toNat 0
theorem al0{d:Dg}(hJ:jP (eu [d])){g:List Int}(h:GOk d g):jP (jg d g):=⟨hJ.d3,hJ.eF,hJ.ord,fun k hk=>have h:=hJ.dg k hk;⟨h.t,h.n,h.s,h.o,h.rk,h.two⟩,h.len,h.v⟩
theorem GOk.set{d:Dg}{g:List Int}(h:GOk d g){c k:Nat}(hk:(k:Int)<d.aA.getD (c:Int).toNat 0):GOk d (g.set (c:Int).toNat (k:Int)):=by
 refine⟨by rw[a4q];exact h.len,fun c2 JH h2=>?_⟩;by_cases e:(c:Int).toNat=c2.toNat
 .obtain⟨q0,q1⟩:=JH;rw[<-e,a2X,a2k (by rw[h.len];omega)];exact hk
 rw[a2X,a1D e,<-a2X]at h2 ⊢;exact h.v c2 JH h2
theorem aq0{d:Dg}(hJ:jP (eu [d])):GOk d (eu [d]).g:=⟨hJ.gl,hJ.gv⟩
abbrev jcF(d:Dg):List (PV aF):=[lI d.aA,lI d.aH,.own 0,.own 1,.fn 79 [] []]
abbrev hF(d:Dg)(g:List Int):List (PB aF):=[.list true true 26 [d],.list true true 3 g]
abbrev wFo(d:Dg)(v:V)(g:List Int)(c:Int)(x:List (Nat×PE aF)):aQ aF:=⟨[(3,.loc 1 0),(6,.loc 2 0),(29,xL 3 d.aA),(30,xi d.aA.length),(31,xi c)]++x,[d.ps,v.ps,jcF d],hF d g⟩
abbrev wFi(d:Dg)(v:V)(g:List Int)(c:Int)(i:Int)(x:List (Nat×PE aF)):aQ aF:=⟨[(3,.loc 1 0),(6,.loc 2 0),(8,xi c),(29,xL 3 d.aA),(30,xi d.aA.length),(31,xi c),(36,xi (d.aA.getD c.toNat 0)),(37,xi i)]++x,[d.ps,v.ps,jcF d],hF d g⟩
theorem ade{n f:Nat}{J:Jb}{k ex k2 KW:Bool}(h:aX X0 Qp (bQ n) (.fn 87 [] []) [.agg (J.ps (.fn f [] []))] [] (.map 0) [.map (kV.im (bK J))]):aX X0 Qp (bQ n) (.fn 87 [] []) [a7W J f 0 1] [.list k ex 26 J.D,.list k2 KW 3 J.g] (.map 2) [.list k ex 26 J.D,.list k2 KW 3 J.g,.map (kV.im (bK J))]:=by
 have h1:=aX.frame hX (ks:=[]) (H':=[.gone,.gone]) (Hp:=[]) (PW:=[.map (kV.im (bK J))]) (v':=.map 2) (fv':=.fn 87 [] []) (xs':=[.agg (J.ps (.fn f [] []))]) h (by decide) rfl rfl rfl rfl rfl rfl rfl;exact aX.lend hX (H:=[.list k ex 26 J.D,.list k2 KW 3 J.g]) (cs:=[lI J.s,lI J.o,.own 0,.own 1]) (rest:=[.fn f [] []]) [0,1] h1 rfl (fun i hi=>by simpa[kH.jS,kH]using hi) rfl
def lkF(d:Dg)(v:V)(g:List Int):Int:=look (bK (jg d g)) v
def gIn(d:Dg)(v:V)(c:Nat)(k:Nat)(g:List Int):List Int⊕(List Int×Nat):=if decide (lkF d v (g.set (c:Int).toNat (k:Int))>0)=true then .inr (g.set (c:Int).toNat (k:Int),k)else .inl (g.set (c:Int).toNat (k:Int))
def oIn:List Int⊕(List Int×Nat)->List Int
 |.inl g=>g
 |.inr r=>r.1
def nIn(d:Dg)(c:Nat):Nat:=(d.aA.getD (c:Int).toNat 0).toNat
def a3H(d:Dg)(v:V)(c:Nat)(g:List Int):List Int:=oIn (jX (gIn d v c) (nIn d c) 0 g)
def zFi(d:Dg)(v:V)(c:Nat):List Int⊕(List Int×Nat)->Ex×aQ aF
 |.inl g=>(.exit 3,wFi d v g (c:Int) (nIn d c) [(38,xl false)])
 |.inr (g,k)=>(.exit 2,wFi d v g (c:Int) k [(49,xl true)])
theorem a8b{d:Dg}{v:V}{c:Nat}:∀(m k:Nat) (g:List Int),k+m<=nIn d c->GOk d g->GOk d (oIn (jX (gIn d v c) m k g))
 | 0,_,g,_,h=>h
 |m+1,k,g,hk,h=>by
  have h1:GOk d (g.set (c:Int).toNat (k:Int)):=h.set (by unfold nIn at hk;omega);simp only[jX,gIn];by_cases e:decide (lkF d v (g.set (c:Int).toNat (k:Int))>0)=true
  .rw[a0h e];exact h1
  rw[a0g e];exact a8b m (k+1) _ (by omega) h1
section
variable {n:Nat} (hn:24<=n) (hO:∀ m,n-24<=m->Ok m qo) {d:Dg} (hJ:jP (eu [d])) {v:V}
include hn hO hJ
theorem lFi{c:Nat}(hc:c<d.aA.length){g:List Int}(hg:GOk d g):Lp n 28 1 (wFi d v g (c:Int) 0 []) (zFi d v c (jX (gIn d v c) (nIn d c) 0 g)).1 (zFi d v c (jX (gIn d v c) (nIn d c) 0 g)).2:=by
 have hz:=hJ.eF.sz (d.aA.getD (c:Int).toNat 0) (dW (show(c:Int).toNat<d.aA.length by simpa using hc));have hN:((nIn d c:Nat):Int)=d.aA.getD (c:Int).toNat 0:=by unfold nIn;omega
 refine iU (st:=fun i g=>wFi d v g (c:Int) i []) (g:=gIn d v c) (out:=zFi d v c) (s0:=g) (fun k g=>GOk d g) (by kernel_rfl) (by unfold ah;omega) hg (fun k g m hk hi ih=>?_) (fun g _=>?_)
 .have t1:decide ((k:Int)<d.aA.getD (c:Int).toNat 0)=true:=by rw[<-hN,a1X];omega
  have hg2:GOk d (g.set (c:Int).toNat (k:Int)):=hi.set (by rw[<-hN];omega);have i1:gQ (c:Int) g.length:=by rw[hi.len];exact aG hc
  have s2:=ade (k:=true) (ex:=true) (k2:=true) (KW:=true) (Po (al0 hJ hg2) (n:=n-2) (f:=79) (hO _ (by omega)) (show 0<[d].length by simp));rw[show n-2+2=n by omega]at s2;unfold gIn lkF;rcases I8 (pV (jg d (g.set (c:Int).toNat (k:Int)))) v with hf|⟨hz2,hf⟩
  .exact aK fZ (.b t1 (.o i1 (.fr [0,1] s2 (.c (.int .i64 (look (bK (jg d (g.set (c:Int).toNat (k:Int)))) v)) [] hf (.ls (.ouG [.gc [0,1]] nofun) (.nxG [.gc [0,1]] (ih _ hg2)))))))
  rw[hz2];exact aK fZ (.b t1 (.o i1 (.fr [0,1] s2 (.a .calm (.o hf (.ls (.ouG [.gc [0,1]] nofun) (.nxG [.gc [0,1]] (ih _ hg2))))))))
 have t1:decide (((nIn d c:Nat):Int)<d.aA.getD (c:Int).toNat 0)=false:=by rw[<-hN];exact eX _
 exact aK fZ (.b t1 (.ou nofun))
set_option maxRecDepth 20000 in
theorem lFo:Lp n 28 0 (wFo d v (eu [d]).g 0 []) (.exit 1) (wFo d v (aT (a3H d v) d.aA.length 0 (eu [d]).g) d.aA.length [(32,xl false)]):=by
 have hl:d.aA.length<=ah:=by have:d.aA.length<=6:=hJ.eF.len;unfold ah;omega
 refine Ov (X:=X0) (N:=d.aA.length) (g:=a3H d v) (s0:=(eu [d]).g) (st:=fun c g=>wFo d v g c []) (fin:=fun g=>wFo d v g d.aA.length [(32,xl false)]) (fun _ g=>GOk d g) (by kernel_rfl) hl Sl (aq0 hJ) (fun c g hc hg=>a8b (nIn d c) 0 g (by omega) hg) (fun c g hc hg m e p g9=>?_) (fun g _=>?_)
 .have lp:=lFi hn hO hJ (v:=v) hc hg;unfold a3H at g9;revert lp g9;rcases jX (gIn d v c) (nIn d c) 0 g with g1|⟨g1,k⟩
  .intro g9 lp;exact aK fZ (.b (aW hc) (.o (aG hc) (.w lp (.go g9))))
  intro g9 lp;exact aK fZ (.b (aW hc) (.o (aG hc) (.w lp (.go g9))))
 exact aK fZ (.b (eX d.aA.length) .ex)
end
open Go Tw Pv bW
def I9(p:Dg×V):List Int×Int:=if(bT [p.1] != 0)=true then([],bT [p.1])else if(nP p.2 != 0)=true then([],4)else if(look (bK (eu [p.1])) p.2==0)=true then([],7)else(aT (a3H p.1 p.2) p.1.aA.length 0 (eu [p.1]).g,0)
def al1:eY aF:=bZ 28 (a2 dA vA) (dP (a2 ql iA)) I9 (fun p=>[rG p.1]) a7Y
theorem rF(e:Int):Fp (Γ:=X0.Γ) (Is (X:=X0) (P:=Qp) (dP (a2 ql iA)) (([]:List Int),e)) .n (.ret (some (.dG [.nil .slc,.int .i64 e]))):=by
 have h:(dP (a2 ql iA)).get (.dG [.nil .slc,.int .i64 e])=some (([]:List Int),e):=rfl;exact Fp.rn (X:=X0) (P:=Qp) _ h
theorem aq3:Gd al1:=Good.acW 30 akT Ku adb fun n hn hO FU hO3 p hp=>by
 obtain⟨d,v⟩:=p;have h1:rG d:=hp _ (.head _);obtain⟨n,rfl⟩:∃k,n=k+1:=⟨n-1,by omega⟩;have Am:=hO (n+1) (by omega);show mY X0 Qp _ _ _ ((dP (a2 ql iA)).put (if(bT [d] != 0)=true then([],bT [d])else if(nP v != 0)=true then([],4)else if(look (bK (eu [d])) v==0)=true then([],7)else(aT (a3H d v) d.aA.length 0 (eu [d]).g,0))) _;cases e1:(bT [d] != 0)
 .cases e2:(nP v != 0)
  .have s1:=akR (n:=n) (by omega) (hO3 n (by omega)) (fun m hm=>FU m (by omega)) h1 e1 e2;have hJ:jP (eu [d]):=yD (D:=[d]) (by simp) (by simp) (a7X h1) (by simpa using e1);have s2:=ade (k:=true) (ex:=true) (k2:=true) (KW:=true) (Po hJ (n:=n-1) (f:=79) (FU _ (by omega)) (show 0<[d].length by simp));rw[show n-1+2=n+1 by omega]at s2;have lp:=lFo (n:=n+1) (by omega) (fun m hm=>FU m (by omega)) hJ (v:=v);show mY X0 Qp _ _ _ ((dP (a2 ql iA)).put (if(look (bK (eu [d])) v==0)=true then([],7)else(aT (a3H d v) d.aA.length 0 (eu [d]).g,0))) _;rcases I8 (pV (eu [d])) v with hf|⟨hz,hf⟩
   .exact aN Am (.fr [] s1 (.b (rfl:((0:Int) != 0)=false) (.fr [0,1] s2 (.c (.int .i64 (look (bK (eu [d])) v)) [] hf (.ss (rF _) (.wG [.gc [0,1]] lp .rr))))))
   .rw[hz];exact aN Am (.fr [] s1 (.b (rfl:((0:Int) != 0)=false) (.fr [0,1] s2 (.a .calm (.o hf (.ss (rF _) (.wG [.gc [0,1]] lp .rr)))))))
  .have s1:=akQ (n:=n) (v:=v) (hO3 n (by omega)) h1 e1 e2;exact aN Am (.fr [] s1 (.b (rfl:((4:Int) != 0)=true) (rF _)))
 .have s1:=akP (n:=n) (v:=v) (hO3 n (by omega)) h1 e1;exact aN Am (.fr [] s1 (.b e1 (rF _)))
end Go.Proofs.YtmobpoiejckagaaGreat
namespace Pv
open Go Tw
section
variable {X:kE} {P:Program}
theorem aX.cell1(hX:bM X P){call:aZ}{fv v:PV X.Γ}{RG ws1 cs WE ws2:List (PV X.Γ)}{H H1:List (PB X.Γ)}{i e sz:Nat}{row:X.Γ e}(is:List Nat)(hi:H[i]? = some (.cells cs))(hz:dB P e=some sz)(h0:0<sz)(hl:cs.length=sz)(Zh:(X.enc e row).length=sz)
  (hs:aX X P call fv [.agg (ws1++(.dw e [row] false::ws2))] (aY (i::is) H) v H1) (v1:views H RG=some ws1) (v2:views H cs=some (X.enc e row)) (v3:views H WE=some ws2)
  (o1:∀j,j∈kH.jS RG->j∈i::is) (o2:∀j,j∈kH.jS cs->j∈i::is) (o3:∀j,j∈kH.jS WE->j∈i::is):aX X P call fv [.agg (RG++(.slc i 0 1 1 sz true::WE))] H v H1:=by
 intro A m h tf rP hr hf hx;obtain⟨x0,r,rfl,v0,vr⟩:=hx.inv;cases v0 with
 |gone hi _ _=>simp[bg]at hi
 |agg a1 a2=>
  rename_i cs';have ha:bV X P (AA A m) m h (RG++(.slc i 0 1 1 sz true::WE)) cs':=⟨a1,a2⟩;obtain⟨c1,c2,rfl,b1,b2⟩:=Eb ha;obtain⟨y,c3,rfl,b3,b4⟩:=b2.inv;obtain⟨mb,g1,g2⟩:=hr.at_ i _ hi;cases mb with
  |fV b=>
   obtain⟨ts,g3,g4⟩:=g2;have hy:y=.slc b 0 1 1 sz true:=by
    cases b3 with
    |slc q=>rw[g1]at q;cases q;rfl
    |gone hi q _=>simp only[bg,a00]at hi;subst hi;rw[g1]at q;cases q
   subst hy;have hF:=iq (h:=h) (i::is) m;have w1:=(kX (m':=bU (i::is) m) hX hr b1 v1 o1).mono fun b hb=>FA.gone hr hb;have w3:=(kX (m':=bU (i::is) m) hX hr b4 v3 o3).mono fun b hb=>FA.gone hr hb;have w2:=kX (m':=bU (i::is) m) hX hr g4 v2 o2;have hb:FA A m (i::is) b:=.inr ⟨i,_,a3N,g1,rfl⟩;have q2:VR X P (FA A m (i::is)) (bU (i::is) m) h (.dw e [row] false) (.slc b 0 [row].length 1 sz true):=.dw (cs:=ts) hb (by unfold aV;rw[g3]) (fun _=>wo g3 (by simp)) hz h0 (by rw[<-g4.1,hl];simp) (a15 _) (fun e=>by cases e)
    (fun j a hj=>by
     cases j with
     |zero=>simp only[a2J,a00]at hj;subst hj;exact Zh
     |succ j=>simp at hj) (fun j a q c w hj hq hw=>by
     cases j with
     |zero=>simp only[a2J,a00]at hj;subst hj;exact w2.2 q c w hq (by simpa using hw)
     |succ j=>simp at hj)
   have w4:=w1.app (.cons (q2.mono fun b hb=>FA.gone hr hb) w3);obtain⟨w,h',TL,m1,k1,k2,k3,k4,k5,k6⟩:=hs A (bU (i::is) m) h tf (.agg (c1++(.slc b 0 1 1 sz true::c3))::r) (hr.aY (i::is)) (hf.step hF.1 hF.2) (.cons (.agg w4.1 w4.2) (vr.step hF.1 hF.2));refine⟨w,h',TL,m1,k1,k2,k3,hF.1.trans k4,hF.2.trans k5,fun b hb=>?_⟩;rcases hF.1.new b (k6 b hb)with g|g
   .exact g
   .have:=(hr.aY (i::is)).inb (k6 b hb);omega
  |_=>exact g2.elim
end
end Pv
namespace Go.Proofs.YtmobpoiejckagaaGreat
open Go Tw Pv bW
abbrev dz:List (PV aF):=[.nil .slc,.nil .slc,.nil .slc,.nil .slc,.int .i64 0]
abbrev cCh(s o:List Int):List (PV aF):=[lI s,lI o,.own 1,.slc 0 0 1 1 2 true,.int .i64 0]
abbrev hCh(c:Int)(x:List V×List Int):List (PB aF):=[.cells [.int .i64 c,.own 2],.list false false 39 x.1,.list false false 3 x.2]
abbrev wCh(s o:List Int)(c w n:Int)(y:List V×List Int)(i:Int)(x:List (Nat×PE aF)):aQ aF:=⟨[(3,xi w),(8,.loc 0 0),(11,.loc 1 0),(47,xi n),(48,xi i)]++x,[dz,cCh s o],hCh c y⟩
def gCh(w:Int)(i:Nat)(y:List V×List Int):List V×List Int:=(y.1++[⟨0,i64.wrap (w+(i:Int))⟩],y.2++[i64.wrap (-1-(i:Int))])
def chE(w:Int)(n:Nat):List V:=(List.range n).map fun(i:Nat)=>(⟨0,i64.wrap (w+(i:Int))⟩:V)
def chK(n:Nat):List Int:=(List.range n).map fun(i:Nat)=>i64.wrap (-1-(i:Int))
theorem Yc(w:Int):∀n,aT (gCh w) n 0 ([],[])=(chE w n,chK n)
 | 0=>rfl
 |n+1=>by
  rw[sV,Yc w n,a3U];unfold gCh chE chK;rw[abI,a3Y,a3Y];rfl
theorem lCh{n:Nat}{s o:List Int}{c w:Int}{z:Nat}(hz:z<=12)(h0:s.getD c.toNat 0=(z:Int)):Lp n 57 0 (wCh s o c w (s.getD c.toNat 0) ([],[]) 0 []) (.exit 0) (wCh s o c w (s.getD c.toNat 0) (chE w z,chK z) z [(49,xl false)]):=by
 rw[<-Yc w z,h0];refine Ov (X:=X0) (N:=z) (g:=gCh w) (s0:=([],[])) (st:=fun i y=>wCh s o c w (z:Int) y i []) (fin:=fun y=>wCh s o c w (z:Int) y z [(49,xl false)]) (fun k y=>y.1.length=k∧y.2.length=k) (by kernel_rfl) (by unfold ah;omega) Sl ⟨rfl,rfl⟩ (fun k y hk hi=>?_) (fun k y hk hi m e p g9=>?_) (fun y _=>?_)
 .unfold gCh;simp[hi.1,hi.2]
 .obtain⟨E,K⟩:=y;have a1:E.length+[(⟨0,i64.wrap (w+(k:Int))⟩:V)].length<=ah:=by rw[a3s];have:E.length=k:=hi.1;unfold ah;omega
  have a2:K.length+[i64.wrap (-1-(k:Int))].length<=ah:=by rw[a3s];have:K.length=k:=hi.2;unfold ah;omega
  exact aK fZ (.b (aW hk) (.o a1 (.o a2 (.RU [.gc [0,4,6]] g9))))
 exact aK fZ (.b (eX z) .ex)
def chD(s o:List Int)(c w:Int)(z:Nat):Dg:=⟨s,o,chE w z,[⟨c,chK z⟩],0⟩
theorem aaV{n:Nat}(hO:Ok n a7c){s o:List Int}{c:Int}{y:List V×List Int}(hd:let d:Dg:=⟨s,o,y.1,[⟨c,y.2⟩],0⟩;Ih d∧d.aA.length<=ah∧d.aH.length<=2^20∧d.aO.length<=ah∧(((bD d).2 != 0)=false->ClP (bD d).1)) :
  aX X0 Qp (bQ n) (.fn 108 [] []) [.agg (cCh s o)] (hCh c y) ((dP (a2 dA iA)).put (zy ⟨s,o,y.1,[⟨c,y.2⟩],0⟩)) [.gone,.gone,.gone]:=by
 obtain⟨h1,h2,h3,h4,h5⟩:=hd;have k0:aX X0 Qp (bQ n) (.fn 108 [] []) [.agg (⟨s,o,y.1,[⟨c,y.2⟩],0⟩:Dg).ps] [] ((dP (a2 dA iA)).put (zy ⟨s,o,y.1,[⟨c,y.2⟩],0⟩)) []:=mY.ZH hX (first:=[]) (cap:=[]) (hO 108 [.agg (⟨s,o,y.1,[⟨c,y.2⟩],0⟩:Dg).ps] ((dP (a2 dA iA)).put (zy ⟨s,o,y.1,[⟨c,y.2⟩],0⟩)) [] _ (by kernel_rfl) (fun p h=>by
  rcases a1Y.1 h with rfl|h
  .exact h1
  rcases a1Y.1 h with rfl|h
  .exact h2
  rcases a1Y.1 h with rfl|h
  .exact h3
  rcases a1Y.1 h with rfl|h
  .exact h4
  rw[a2I.1 h];exact h5)) rfl rfl rfl rfl
 have k1:=aX.frame hX (ks:=[]) (H':=[.gone,.gone,.gone]) (Hp:=[]) (PW:=[]) (v':=(dP (a2 dA iA)).put (zy ⟨s,o,y.1,[⟨c,y.2⟩],0⟩)) (fv':=.fn 108 [] []) (xs':=[.agg (⟨s,o,y.1,[⟨c,y.2⟩],0⟩:Dg).ps]) k0 (by decide) rfl rfl rfl rfl rfl rfl rfl;exact aX.cell1 hX (H:=hCh c y) (RG:=[lI s,lI o,.own 1]) (ws1:=[lI s,lI o,lV y.1]) (cs:=[.int .i64 c,.own 2]) (WE:=[.int .i64 0]) (ws2:=[.int .i64 0]) (i:=0) (e:=105) (sz:=2) (row:=(⟨c,y.2⟩:Br)) [1,2] rfl (by kernel_rfl) (by decide) rfl rfl k1 rfl rfl rfl (fun j hj=>by simp[kH.jS,kH]at hj ⊢;omega) (fun j hj=>by simp[kH.jS,kH]at hj ⊢;omega) (fun j hj=>by simp[kH.jS,kH]at hj)
open Go Tw Pv bW
theorem aaW(w:Int)(z:Nat):(chE w z).length=z:=by simp[chE]
theorem aaX(z:Nat):(chK z).length=z:=by simp[chK]
structure ChP(s o:List Int)(c w:Int)(z:Nat):Prop where
 f:dh s o=0
 ic:gQ c s.length
 ez:s.getD c.toNat 0=(z:Int)
 z12:z<=12
 w0:-9999<=w
 w1:w+z<=10000
section
variable {s o:List Int} {c w:Int} {z:Nat} (h:ChP s o c w z)
include h
theorem aaY{v:V}(hv:v∈chE w z):∃j,j<z∧v=⟨0,w+(j:Int)⟩:=by
 unfold chE at hv;obtain⟨j,hj,rfl⟩:=a1f.1 hv;have:=a4f.1 hj;have:=h.w0;have:=h.w1;have:=h.z12;exact⟨j,by omega,by rw[wrap_small (by omega) (by omega)]⟩
theorem aaZ{k:Nat}(hk:k<z):(chK z).getD k 0=-1-(k:Int):=by
 have:=h.z12;unfold chK;rw[a2X,a4h,afw hk];show i64.wrap (-1-(k:Int))=_;rw[wrap_small (by omega) (by omega)]
theorem afP:∀v∈chE w z,Hy v:=fun v hv=>by
 obtain⟨j,hj,rfl⟩:=aaY h hv;have:=h.w0;have:=h.w1;exact yc.2 ⟨by show(0:Int)<=0;omega,by show(0:Int)<=4;omega,fun _=>⟨by show -9999<=w+(j:Int);omega,by show w+(j:Int)<=9999;omega⟩,fun hz=>absurd rfl hz⟩
theorem al2:Ih (chD s o c w z):=⟨fun i hi k hk=>by
 have:i=0:=by have:i<1:=hi;omega
 subst this;have hk3:k<z:=by rw[<-aaX z];exact hk
 show KP ((chK z).getD k 0);rw[aaZ h hk3,<-wrap_small (z:=-1-(k:Int)) (by have:=h.z12;omega) (by omega)];exact XH _,by show KP 0;rw[<-wrap_small (z:=0) (by omega) (by omega)];exact XH _,fun v hv=>(afP h v hv).2⟩
theorem ab1:Ih (chD s o c w z)∧(chD s o c w z).aA.length<=ah∧(chD s o c w z).aH.length<=2^20∧(chD s o c w z).aO.length<=ah∧(((bD (chD s o c w z)).2 != 0)=false->ClP (bD (chD s o c w z)).1):=by
 obtain⟨eF,ord⟩:=lT.1 h.f;have hr:=al2 h;have h6:s.length<=6:=eF.len;have QN:o.length=s.length:=by unfold jY at ord;rw[a1X]at ord;exact ord.1
 have hl:=aaW w z;have hz:=h.z12;have e1:(chD s o c w z).aO.length+1<=ah:=by show(chE w z).length+1<=ah;rw[hl];unfold ah;omega
 have e2:(chD s o c w z).aA.length<=ah:=by show s.length<=ah;unfold ah;omega
 refine⟨hr,e2,by show o.length<=2^20;omega,by omega,fun h0=>?_⟩;obtain⟨q1,q2⟩:=wJ hr e1 e2 (by show o.length<=ah;unfold ah;omega) (by simpa using h0);rw[q1];exact q2
end
def PG(p:List Int×List Int×Int×Int):Dg×Int:=if(dh p.1 p.2.1 != 0)=true then(kJ,dh p.1 p.2.1)else if(!(MF 0 (i64.wrap ((p.1.length:Int)-1)) p.2.2.1))=true then(kJ,3)else if(!(MF (-9999) (i64.wrap (i64.wrap (9999-p.1.getD p.2.2.1.toNat 0)+1)) p.2.2.2))=true then(kJ,3)else zy (chD p.1 p.2.1 p.2.2.1 p.2.2.2 (p.1.getD p.2.2.1.toNat 0).toNat)
theorem afQ{a b x:Int}(h:(!(MF a b x))=false):a<=x∧x<=b:=by
 unfold MF at h;by_cases h1:x>=a
 .simp[h1]at h;exact⟨h1,h⟩
 simp[h1]at h
theorem afR{s o:List Int}{c w:Int}(e1:(dh s o != 0)=false)(hc:gQ c s.length)(e3:(!(MF (-9999) (i64.wrap (i64.wrap (9999-s.getD c.toNat 0)+1)) w))=false):ChP s o c w (s.getD c.toNat 0).toNat:=by
 have f:dh s o=0:=by simpa using e1
 obtain⟨eF,ord⟩:=lT.1 f;have hz:=eF.sz (s.getD c.toNat 0) (dW (show c.toNat<s.length by obtain⟨a,b⟩:=hc;omega));obtain⟨z0,z1⟩:=hz;obtain⟨w0,w1⟩:=afQ e3;rw[wrap_small (z:=9999-s.getD c.toNat 0) (by omega) (by omega),wrap_small (by omega) (by omega)]at w1;exact⟨f,hc,by omega,by omega,w0,by omega⟩
def afS:eY aF:=bZ 57 (a4 ql ql iA iA) (dP (a2 dA iA)) PG (fun p=>[p.1.length<=ah,p.2.1.length<=2^20]) al1
theorem aq6:Gd afS:=Good.WZ 0 aq3 acZ fun n hn hO FU p hp=>by
 obtain⟨s,o,c,w⟩:=p;have h1:s.length<=ah:=hp _ (.head _);have h2:o.length<=2^20:=hp _ (.tail _ (.head _));have hc:(!(MF 0 (i64.wrap ((s.length:Int)-1)) c))=false->gQ c s.length:=fun e2=>a7R e2 h1;have hP:=fun(e1:(dh s o != 0)=false) (e2:(!(MF 0 (i64.wrap ((s.length:Int)-1)) c))=false) (e3:(!(MF (-9999) (i64.wrap (i64.wrap (9999-s.getD c.toNat 0)+1)) w))=false)=>afR e1 (hc e2) e3;have lp:=fun(e1:(dh s o != 0)=false) (e2:(!(MF 0 (i64.wrap ((s.length:Int)-1)) c))=false) (e3:(!(MF (-9999) (i64.wrap (i64.wrap (9999-s.getD c.toNat 0)+1)) w))=false)=>lCh (n:=n) (s:=s) (o:=o) (c:=c) (w:=w) (hP e1 e2 e3).z12 (hP e1 e2 e3).ez;have s1:=fun(e1:(dh s o != 0)=false) (e2:(!(MF 0 (i64.wrap ((s.length:Int)-1)) c))=false) (e3:(!(MF (-9999) (i64.wrap (i64.wrap (9999-s.getD c.toNat 0)+1)) w))=false)=>aaV (n:=n) (FU n (by omega)) (s:=s) (o:=o) (c:=c) (y:=(chE w (s.getD c.toNat 0).toNat,chK (s.getD c.toNat 0).toNat)) (ab1 (hP e1 e2 e3));show mY X0 Qp _ _ _ ((dP (a2 dA iA)).put (if(dh s o != 0)=true then(kJ,dh s o)else if(!(MF 0 (i64.wrap ((s.length:Int)-1)) c))=true then(kJ,3)else if(!(MF (-9999) (i64.wrap (i64.wrap (9999-s.getD c.toNat 0)+1)) w))=true then(kJ,3)else zy (chD s o c w (s.getD c.toNat 0).toNat))) _;exact aN (hO n (by omega)) (.o h1 (.o h2 (.sh (fun _=>rE _) fun e1=>.sh (fun _=>rE _) fun e2=>.o (hc e2) (.sh (fun _=>rE _) fun e3=>.a (.Qh [] [] (.nil .slc) []) (.o (hc e2) (.wG [.a2z 1 2 39,.Uf 0 1 3] (lp e1 e2 e3) (.fr [0,1,2] (s1 e1 e2 e3) .rr)))))))
open Go Tw Pv bW
structure a3I(d:Dg):Prop where
 t:BD d
 n:d.au.length<=6000
 l:bG d=0
 f:wE d.aA
 o:d.aH.length<=ah
 e:d.aO.length<=ah
def gLs(d:Dg)(k:Nat)(l:List V):List V:=l++[En d (mM d.aA k)]
theorem afT(d:Dg):aT (gLs d) (EM d.aA) 0 []=cellsD d:=by
 have:=dO (g:=gLs d) (m:=EM d.aA) (k:=0) (s:=[]) (fun k l=>l=(List.range k).map fun(k:Nat)=>En d (mM d.aA k)) rfl (fun j l _ _ e=>by rw[gLs,e,abI,a3Y];rfl);rw[a3U]at this;exact this
abbrev wLs(d:Dg)(y:List V)(i:Int)(x:List (Nat×PE aF)):aQ aF:=⟨[(1,.loc 0 0),(3,.val (.own 0)),(4,xi i)]++x,[d.ps],[.list false false 39 y]⟩
theorem lLs{n:Nat}(hO:Ok n afS)(d:Dg)(h:a3I d):OB n 44 0 0 (wLs d [] 0 []) (.exit 0) (wLs d (cellsD d) (EM d.aA) [(12,xl false)]):=by
 have hs:d.aA.length<=ah:=by have:=h.f.len;unfold ah;omega
 have hc:EM d.aA<=ah:=by have:=h.f.EM;have:=h.f.abL;have:=h.f.many;unfold ah;omega
 rw[<-afT d];refine uy (σ:=List V) (N:=EM d.aA) (g:=gLs d) (s0:=[]) (st:=fun i y=>wLs d y i []) (fin:=fun y=>wLs d y (EM d.aA) [(12,xl false)]) (fun k y=>y.length=k) (by kernel_rfl) hc rfl (fun j y hj hy=>by simp[gLs,hy]) (fun j y hj hy m e p g9=>?_) (fun y _=>?_)
 .have h2:y.length+[En d (mM d.aA j)].length<=ah:=by rw[hy,a3s];omega
  exact aK hO (.o hs (.b (h.f.lt hj) (.o hs (.o h.f.sz (.o (show(0:Int)<=(j:Int) by omega) (.o (show(j:Int)<2^62 by unfold ah at hc;omega) (.o h.t (.o h.n (.o (J5 (j:Int) h.f.sz) (.o h2 (.RU [.gc [2]] g9)))))))))))
 exact aK hO (.o hs (.b h.f.no .ex))
def al4:eY aF:=bZ 44 (a1 dA) Zv cellsD (fun d=>[a3I d]) afS
theorem aq7:Gd al4:=aq6.add fun n hO p hp=>by
 have h:a3I p:=hp _ (.head _);have hb:(bG p != 0)=false:=by rw[h.l];rfl
 exact aN hO (.o h.o (.o h.e (.b hb (.wG [.BA 3 39] (lLs (n:=n) hO p h) .rr))))
def al5:eY aF:=bZ 81 (a1 ql) ql (fun p=>p) (fun p=>[p.length<=ah]) al4
theorem aq8:Gd al5:=aq7.add fun n hO p hp=>aN hO (.o (hp _ (.head _)) .rr)
def al6:eY aF:=bZ 82 (a1 Zv) Zv (fun p=>p) (fun p=>[p.length<=ah]) al5
theorem aq9:Gd al6:=aq8.add fun n hO p hp=>aN hO (.o (hp _ (.head _)) .rr)
def afU:eY aF:=bZ 48 (a1 iA) vA (fun p=>(⟨0,p⟩:V)) np al6
theorem aqa:Gd afU:=aq9.add fun n hO p hp=>aN hO .rr
open Go Tw Pv bW
structure Tn(d:Dg):Prop where
 s:d.aA.length<=ah
 o:d.aH.length<=ah
 e:d.aO.length<=ah
 n:d.au.length<=ah
 k:∀b∈d.au,b.ay.length<=ah
abbrev afV(a b:Dg)(i:Int)(x:List (Nat×PE aF)):aQ aF:=⟨[(2,.loc 0 0),(3,.loc 1 0),(5,xi i)]++x,[a.ps,b.ps],[]⟩
def a8e(a b:Dg)(k:Nat):Bool:=if((a.au.getD k mQ).var != (b.au.getD k mQ).var)=true then true else !(decide ((a.au.getD k mQ).ay=(b.au.getD k mQ).ay))
def afW(a b:Dg):Unit⊕Nat->Ex×aQ aF
 |.inl _=>(.exit 0,afV a b a.au.length [(48,xl false)])
 |.inr _=>(.ret,⟨[(4,xl false)],[a.ps,b.ps],[]⟩)
theorem al7{n:Nat}(hO:Ok n afU){a b:Dg}(h:Tn a)(hl:a.au.length=b.au.length):Lp n 72 0 (afV a b 0 []) (afW a b (bF (a8e a b) a.au.length)).1 (afW a b (bF (a8e a b) a.au.length)).2:=by
 refine iU (st:=fun i _=>afV a b i []) (g:=gS (a8e a b)) (out:=afW a b) (fun _ _=>True) (by kernel_rfl) h.n trivial (fun k u m hk _ ih=>?_) (fun _ _=>?_)
 .have i1:gQ (k:Int) a.au.length:=aG hk;have i2:gQ (k:Int) b.au.length:=aG (by omega);have h9:=h.k _ (dZ (d:=mQ) hk);unfold gS a8e;cases e1:((a.au.getD k mQ).var != (b.au.getD k mQ).var)
  .exact aK hO (.b (aW hk) (.o i1 (.o i2 (.b e1 (.o i1 (.o i2 (.o h9 (.ls (.ou nofun) (.nx (ih _ trivial))))))))))
  exact aK hO (.b (aW hk) (.o i1 (.o i2 (.b e1 (.ou nofun)))))
 exact aK hO (.b (eX a.au.length) (.ou nofun))
def al8(a b:Dg):Bool:=if(!(decide (a.aA=b.aA)))=true then false else if(!(decide (a.aH=b.aH)))=true then false else if(!(decide (a.aO=b.aO)))=true then false else if((a.au.length:Int) != (b.au.length:Int))=true then false else if(a.root != b.root)=true then false else if jK (bF (a8e a b) a.au.length)=true then true else false
def al9:eY aF:=bZ 72 (a2 dA dA) tA (fun p=>al8 p.1 p.2) (fun p=>[Tn p.1]) afU
theorem aqb:Gd al9:=aqa.add fun n hO p hp=>aN hO (.o (show Tn p.1 from hp _ (.head _)).s (.ss .rr (.o (show Tn p.1 from hp _ (.head _)).o (.ss .rr (.o (show Tn p.1 from hp _ (.head _)).e (.ss .rr (.sh (fun _=>.rr) fun h4=>.ss .rr (.zh (fun h=>.w (jV (al7 hO (show Tn p.1 from hp _ (.head _)) (show p.1.au.length=p.2.au.length by simp at h4;omega)) () h) .rr) fun h=>.w (jW (al7 hO (show Tn p.1 from hp _ (.head _)) (show p.1.au.length=p.2.au.length by simp at h4;omega)) 0 h) .rr))))))))
def ala:eY aF:=bZ 25 (a3 dA iA dA) tA (fun p=>(if(p.2.1==0)=true then al8 p.1 p.2.2 else false)) (fun p=>[Tn p.1]) al9
theorem aqc:Gd ala:=aqb.add fun n hO p hp=>aN hO (.ss (.o (hp _ (.head _)) .rr) .rr)
def Vl(s o:List Int):Bool:=if decide ((s.length:Int)>8)=true then false else if decide ((o.length:Int)>8)=true then false else if(dh s o != 0)=true then true else decide (EL s<=200)
def afX:eY aF:=bZ 54 (a2 ql ql) tA (fun p=>Vl p.1 p.2) np ala
theorem aqd:Gd afX:=aqc.add fun n hO p hp=>aN hO (.sh (fun _=>.rr) fun h1=>.sh (fun _=>.rr) fun h2=>.o (show p.2.length<=ah by simp at h2;unfold ah;omega) (.ss .rr (.o (show p.1.length<=ah by simp at h1;unfold ah;omega) .rr)))
open Go Tw Pv bW
abbrev wCp(d:Dg)(acc:List Br)(i:Int)(x:List (Nat×PE aF)):aQ aF:=⟨[(1,.loc 0 0),(2,.loc 1 0),(3,.loc 2 0),(4,xi i)]++x,[d.ps,[.nil .slc,.nil .slc,.nil .slc,.nil .slc,.int .i64 0],[lI d.aA,lI d.aH,lV d.aO,.own 0,.int .i64 d.root]],[.list false false 105 acc]⟩
theorem lCp{n:Nat}{d:Dg}(hO:Ok n afX)(h:Tn d):Lp n 21 0 (wCp d [] 0 []) (.exit 0) (wCp d d.au d.au.length [(21,xl false)]):=by
 have e:aT (fun k (a:List Br)=>a++[d.au.getD k mQ]) d.au.length 0 []=d.au:=by
  rw[Xb,Sr d.au mQ fun r=>r,List.map_id']
 rw[show wCp d d.au d.au.length [(21,xl false)]=wCp d (aT (fun k (a:List Br)=>a++[d.au.getD k mQ]) d.au.length 0 []) d.au.length [(21,xl false)] by rw[e]];refine uy (σ:=List Br) (N:=d.au.length) (g:=fun k (a:List Br)=>a++[d.au.getD k mQ]) (s0:=([]:List Br)) (st:=fun i a=>wCp d a i []) (fin:=fun a=>wCp d a d.au.length [(21,xl false)]) (fun k a=>a.length=k) (by kernel_rfl) h.n rfl (fun k a _ h=>by simp[h]) (fun k a hk ha m e p g9=>?_) (fun a _=>?_)
 .have hm:=h.k (d.au.getD k mQ) (dZ hk);have hn:=h.n;have hal:a.length+[d.au.getD k mQ].length<=ah:=by have:a.length=k:=ha;rw[a3s];omega
  exact aK hO (.b (aW hk) (.o (aG hk) (.o (aG hk) (.o hm (.o hal (.RU [.gc [2]] g9))))))
 exact aK hO (.b (eX d.au.length) .ex)
def afY:eY aF:=bZ 21 (a1 dA) dA (fun p=>p) (fun p=>[Tn p]) afX
theorem aqe:Gd afY:=aqd.add fun n hO p hp=>aN hO (.o (show Tn p from hp _ (.head _)).s (.o (show Tn p from hp _ (.head _)).o (.o (show Tn p from hp _ (.head _)).e (.wG [.a2z 2 3 105] (lCp hO (hp _ (.head _))) .rr))))
abbrev wTh(d:Dg)(i:Int)(x:List (Nat×PE aF)):aQ aF:=⟨[(1,.loc 0 0),(3,xi i)]++x,[d.ps],[]⟩
def cTh(d:Dg)(k:Nat):Bool:=decide (((d.au.getD k mQ).ay.length:Int)>14)
def zTh(d:Dg):Unit⊕Nat->Ex×aQ aF
 |.inl _=>(.exit 0,wTh d d.au.length [(26,xl false)])
 |.inr _=>(.ret,⟨[(2,xl false)],[d.ps],[]⟩)
theorem lTh{n:Nat}(hO:Ok n afY){d:Dg}(h:d.au.length<=ah):Lp n 18 0 (wTh d 0 []) (zTh d (bF (cTh d) d.au.length)).1 (zTh d (bF (cTh d) d.au.length)).2:=by
 refine iU (st:=fun i _=>wTh d i []) (g:=gS (cTh d)) (out:=zTh d) (fun _ _=>True) (by kernel_rfl) h trivial (fun k u m hk _ ih=>?_) (fun _ _=>?_)
 .unfold gS cTh;exact aK hO (.b (aW hk) (.o (aG hk) (.ls (.ou nofun) (.nx (ih _ trivial)))))
 exact aK hO (.b (eX d.au.length) (.ou nofun))
def Dy(d:Dg):Bool:=if(!(Vl d.aA d.aH))=true then false else if decide ((d.aO.length:Int)>40)=true then false else if decide ((d.au.length:Int)>60)=true then false else if jK (bF (cTh d) d.au.length)=true then true else false
def alc:eY aF:=bZ 18 (a1 dA) tA (fun p=>Dy p) np afY
theorem aqh:Gd alc:=aqe.add fun n hO p hp=>aN hO (.ss .rr (.ss .rr (.sh (fun _=>.rr) fun h3=>.zh (fun h=>.w (jV (lTh hO (show p.au.length<=ah by simp at h3;unfold ah;omega)) () h) .rr) fun h=>.w (jW (lTh hO (show p.au.length<=ah by simp at h3;unfold ah;omega)) 0 h) .rr)))
theorem PK{d:Dg}(h:Dy d=true):Tn d∧d.aA.length<=8∧d.aH.length<=8∧d.aO.length<=40∧d.au.length<=60:=by
 unfold Dy at h;split at h
 .cases h
 rename_i h1;split at h
 .cases h
 rename_i h2;split at h
 .cases h
 rename_i h3;split at h
 .rename_i h4;have h1:Vl d.aA d.aH=true:=by simpa using h1
  unfold Vl at h1;split at h1
  .cases h1
  rename_i q1;split at h1
  .cases h1
  rename_i q2;simp at h2 h3 q1 q2;refine⟨⟨by unfold ah;omega,by unfold ah;omega,by unfold ah;omega,by unfold ah;omega,fun b hb=>?_⟩,by omega,by omega,by omega,by omega⟩;obtain⟨k,hk,e⟩:=a9F hb;have:=dI.1 h4 k hk;unfold cTh at this;rw[a2X,a0a hk,a4H,e]at this;simp at this;unfold ah;omega
 cases h
open Go Tw Pv bW
def dX:Dg:=⟨[2,3],[0,1],[⟨0,1⟩,⟨0,2⟩],[⟨0,[-1,-2]⟩],0⟩
def dY:Dg:=⟨[2,3],[0,1],[⟨0,0⟩,⟨0,1⟩,⟨0,2⟩],[⟨1,[-1,-2,-3]⟩],0⟩
def cL(l:List Int):List V:=l.map fun n=>⟨0,n⟩
theorem a3J:PG ([2,3],[0,1],0,1)=(dX,0):=by kernel_rfl
def dIf:Dg:=(Y9 (dY,dX,dY)).1
theorem ald:(Y9 (dY,dX,dY)).2=0∧ru dIf=0∧cellsD dIf=cL [0,1,1,0,2,2]:=⟨by kernel_rfl,by kernel_rfl,by kernel_rfl⟩
def dRs:Dg:=(Kw (dY,1,2)).1
theorem ag0:(Kw (dY,1,2)).2=0∧ru dRs=0∧cellsD dRs=cL [2,2,2,2,2,2]:=⟨by kernel_rfl,by kernel_rfl,by kernel_rfl⟩
def dWh:Dg:=(zH dY).1
theorem a8f:(zH dY).2=0∧ru dWh=0∧cellsD dWh=cL [0,1,0,0,1,0]:=⟨by kernel_rfl,by kernel_rfl,by kernel_rfl⟩
theorem ab2:Vk (dY,⟨0,2⟩)=(2,0):=by kernel_rfl
theorem a8g:I9 (dX,⟨0,2⟩)=([1,0],0):=by kernel_rfl
def FM:Dg:=(wP (10,dX,dY)).1
theorem ag2:(wP (10,dX,dY)).2=0:=by kernel_rfl
def dLe:Dg:=(wP (14,dX,dY)).1
theorem ale:(wP (14,dX,dY)).2=0:=by kernel_rfl
theorem ab3:MG ([dX,dY],dLe)=(⟨8,false,false,2,0,0,false,[0]⟩,0):=by kernel_rfl
def Vm:List (V×Int):=bK (eu [FM,dX])
theorem alf:jZ Vm=[0,1]:=by
 have e:((Vm.filter fun e=>!decide (e.1.f>0)).map fun e=>e.1.n)=[0,1]:=by kernel_rfl
 unfold jZ;rw[e];unfold fU;exact List.mergeSort_of_pairwise (by simp)
theorem ag4:uz (4,FM,dX)=(⟨4,false,false,0,0,1,true,[]⟩,0):=by
 have e1:bT [FM,dX]=0:=by kernel_rfl
 have e2:rH Vm=true:=by kernel_rfl
 have e3:Vm≠[]:=by
  intro h;have h2:Vm.length=0:=by rw[h];rfl
  have h3:Vm.length=3:=by kernel_rfl
  omega
 show(if(bT [FM,dX] != 0)=true then(Tj,bT [FM,dX])else yE 4 Vm)=_;rw[e1];show yE 4 Vm=_;unfold yE;rw[a0g e3];show(if jZ Vm=[]then _ else _)=_;rw[alf,e2];rfl
open Go Tw Pv bW
def ag5:eY aF:=bZ 73 aen (dP (a2 dA dA)) (fun p=>(dX,dY)) np alc
theorem aqi:Gd ag5:=aqh.add fun n hO p hp=>aN hO .rr
abbrev anP(a:An):List (PV aF):=[.int .u8 a.q,.bool a.none,.bool a.yes,.int .i64 a.n,.int .i64 a.lo,.int .i64 a.hi,.bool a.fault,lI a.set,.nil .slc]
abbrev wSa(a b:An)(i:Int)(x:List (Nat×PE aF)):aQ aF:=⟨[(2,.loc 0 0),(3,.loc 1 0),(5,xi i)]++x,[anP a,anP b],[]⟩
theorem lSa{n:Nat}(hO:Ok n ag5){a b:An}:Lp n 35 0 (wSa a b 0 []) (.exit 0) (wSa a b 0 [(74,xl false)]):=by
 have:=Ov (X:=X0) (P:=Qp) (T:=T) (L:=LL) (call:=bQ n) (f:=35) (gU:=false) (nt:=BG Qp 35) (B:=0) (b:=RS Qp 35 0) (σ:=Unit) (N:=0) (g:=fun _ s=>s) (s0:=()) (st:=fun i _=>wSa a b i []) (fin:=fun _=>wSa a b 0 [(74,xl false)]) (w:=wSa a b 0 []) (e:=.exit 0) (fun _ _=>True) (by kernel_rfl) (a4v _) Sl trivial (fun _ _ _ _=>trivial) (fun k s hk=>absurd hk (Nat.not_lt_zero _)) (fun s _=>aK hO (.b (rfl:decide ((0:Int)<0)=false) .ex));exact this
def Ef(a b:An):Bool:=if(a.q != b.q)=true then false else if(!(a.none==b.none))=true then false else if(!(a.yes==b.yes))=true then false else if(a.n != b.n)=true then false else if(a.lo != b.lo)=true then false else if(a.hi != b.hi)=true then false else if(!(a.fault==b.fault))=true then false else if(!(decide (a.set=b.set)))=true then false else true
def ag6:eY aF:=bZ 35 (a2 PZ PZ) tA (fun p=>Ef p.1 p.2) (fun p=>[p.1.set.length<=ah]) ag5
theorem aqj:Gd ag6:=aqi.add fun n hO p hp=>aN hO (.ss .rr (.ss .rr (.ss .rr (.ss .rr (.ss .rr (.ss .rr (.ss .rr (.o (hp _ (.head _)) (.ss .rr (.b (rfl:((0:Int) != 0)=false) (.w (lSa (a:=p.1) (b:=p.2) hO) .rr)))))))))))
open Go Tw Pv bW
theorem Vo{d:Dg}(ho:d.aH.length<=ah)(he:d.aO.length<=ah)(h:(ru d==0)=true):a3I d:=by
 have h:ru d=0:=by simpa using h
 have h0:bG d=0:=by
  unfold ru at h;split at h
  .rename_i c;rw[h]at c;cases c
  rename_i c;simpa using c
 obtain⟨t,n⟩:=mD ho he (by rw[h0];rfl);exact⟨t,n,h0,t.eF,ho,he⟩
abbrev wLz(d:Dg)(e:Int)(l:List Int)(acc:List V)(i:Int)(x:List (Nat×PE aF)):aQ aF:=⟨[(1,xi e),(2,xL 3 l),(3,.loc 0 0),(7,.val (.own 0)),(8,xi i)]++x,[d.ps],[.list false false 39 acc]⟩
theorem lLz{n:Nat}(hO:Ok n ag6)(d:Dg)(e:Int){l:List Int}(hl:l.length<=1000):Lp n 74 0 (wLz d e l [] 0 []) (.exit 0) (wLz d e l (cL l) l.length [(12,xl false)]):=by
 have e1:aT (fun k (a:List V)=>a++[(⟨0,l.getD k 0⟩:V)]) l.length 0 []=cL l:=by
  rw[Xb,Sr l 0 fun r=>(⟨0,r⟩:V)];rfl
 rw[<-e1];refine uy (σ:=List V) (N:=l.length) (g:=fun k (a:List V)=>a++[(⟨0,l.getD k 0⟩:V)]) (s0:=([]:List V)) (st:=fun i a=>wLz d e l a i []) (fin:=fun a=>wLz d e l a l.length [(12,xl false)]) (fun k a=>a.length=k) (by kernel_rfl) (by unfold ah;omega) rfl (fun k a _ h=>by simp[h]) (fun k a hk ha m e p g9=>?_) (fun a _=>?_)
 .have hal:a.length+[(⟨0,l.getD k 0⟩:V)].length<=ah:=by have:a.length=k:=ha;rw[a3s];unfold ah;omega
  exact aK hO (.b (aW hk) (.o (aG hk) (.o hal (.RU [.gc [2]] g9))))
 exact aK hO (.b (eX l.length) .ex)
def alh(p:Dg×Int×List Int):Bool:=if(p.2.1==0)=true then(if(ru p.1==0)=true then decide (cellsD p.1=cL p.2.2)else false)else false
def ab4:eY aF:=bZ 74 (a3 dA iA ql) tA (fun p=>alh p) (fun p=>[p.1.aH.length<=ah,p.1.aO.length<=ah,p.2.2.length<=1000,(cellsD p.1).length<=ah]) ag6
theorem aqk:Gd ab4:=aqj.add fun n hO p hp=>aN hO (.wG [.BA 7 39] (lLz hO p.1 p.2.1 (hp _ (.tail _ (.tail _ (.head _))))) (.ss (.o (hp _ (.head _)) (.o (hp _ (.tail _ (.head _))) (.sh (fun h=>.o (Vo (hp _ (.head _)) (hp _ (.tail _ (.head _))) h) (.o (hp _ (.tail _ (.tail _ (.tail _ (.head _))))) .rr)) (fun _=>.rr)))) .rr))
open Go Tw Pv bW
theorem Vp{d:Dg}(h:((d.au.all fun n=>n.ay.all fun k=>decide (-1000<=k)&&decide (k<=1000))&&(decide (-1000<=d.root)&&decide (d.root<=1000))&&(d.aO.all fun v=>decide (0<=v.f))&&(decide (d.aA.length<=100)&&decide (d.aH.length<=100)&&decide (d.aO.length<=100)))=true):rG d:=by
 simp only[a2m,a1X,a4s]at h;obtain⟨⟨⟨h1,h2⟩,h3⟩,⟨h4,h5⟩,h6⟩:=h;refine⟨⟨fun i hi k hk=>?_,?_,h3⟩,by unfold ah;omega,by omega,by unfold ah;omega⟩
 .have h7:=h1 _ (dZ (d:=(⟨0,[]⟩:Br)) hi) _ (dZ (d:=(0:Int)) hk);show KP ((fC d i).ay.getD k 0);unfold KP;have h8:((d.au.getD i ⟨0,[]⟩).ay.getD k 0)=(fC d i).ay.getD k 0:=rfl;rw[h8]at h7;omega
 unfold KP;omega
theorem pX:rG dX:=Vp (by kernel_rfl)
theorem pY:rG dY:=Vp (by kernel_rfl)
theorem a8h:rG FM:=Vp (by kernel_rfl)
theorem pLe:rG dLe:=Vp (by kernel_rfl)
abbrev dvA(d:Dg):PV aF:=(dP (a2 dA iA)).put (d,0)
theorem ag7:(dRs,(0:Int))=Kw (dY,1,2):=adg rfl ag0.1.symm
theorem a8i:(dWh,(0:Int))=zH dY:=adg rfl a8f.1.symm
theorem ag8:(FM,(0:Int))=wP (10,dX,dY):=adg rfl ag2.symm
theorem alj:(dLe,(0:Int))=wP (14,dX,dY):=adg rfl ale.symm
section
variable {n:Nat} (hO:Ok n ab4)
include hO
theorem alk:aX X0 Qp (bQ n) (.fn 73 [] []) [] [] ((dP (a2 dA dA)).put (dX,dY)) []:=
 qQ hX hO (f:=73) (first:=[]) (xs:=[]) (cap:=[]) (vs:=[]) (v:=(dP (a2 dA dA)).put (dX,dY)) (H:=[]) (ps:=[]) rfl (by kernel_rfl) (fun _ h=>by cases h) rfl
theorem ab5{j k:Bool}:aX X0 Qp (bQ n) (.fn 57 [] []) [.own 0,.own 1,.int .i64 0,.int .i64 1] [.list j k 3 ([2,3]:List Int),.list j k 3 ([0,1]:List Int)] (dvA dX) [.gone,.gone]:=by
 unfold dvA;rw[<-a3J];exact qQ hX hO (f:=57) (first:=[]) (xs:=[.own 0,.own 1,.int .i64 0,.int .i64 1]) (cap:=[]) (vs:=[.dw 3 ([2,3]:List Int) false,.dw 3 ([0,1]:List Int) false,.int .i64 0,.int .i64 1]) (v:=(dP (a2 dA iA)).put (PG ([2,3],[0,1],0,1))) (H:=[.list j k 3 ([2,3]:List Int),.list j k 3 ([0,1]:List Int)]) (ps:=[([2,3]:List Int).length<=ah,([0,1]:List Int).length<=2^20]) rfl (by kernel_rfl) (by simp[ah]) rfl
theorem aIf:aX X0 Qp (bQ n) (.fn 63 [] []) [.agg dY.ps,.agg dX.ps,.agg dY.ps] [] (dvA dIf) []:=by
 have e:(dIf,(0:Int))=Y9 (dY,dX,dY):=adg rfl ald.1.symm;unfold dvA;rw[e];exact qQ hX hO (f:=63) (first:=[]) (cap:=[]) (vs:=[.agg dY.ps,.agg dX.ps,.agg dY.ps]) (v:=(dP (a2 dA iA)).put (Y9 (dY,dX,dY))) (H:=[]) (ps:=[rG dY,rG dX,rG dY]) rfl (by kernel_rfl) (by simp[pX,pY]) rfl
theorem aql:aX X0 Qp (bQ n) (.fn 20 [] []) [.agg dY.ps,.int .i64 1,.int .i64 2] [] (dvA dRs) []:=by
 rw[show(dvA dRs:PV aF)=((dP (a2 dA iA)).put (Kw (dY,1,2)))from by rw[<-ag7]];exact qQ hX hO (f:=20) (first:=[]) (xs:=[.agg dY.ps,.int .i64 1,.int .i64 2]) (cap:=[]) (vs:=[.agg dY.ps,.int .i64 1,.int .i64 2]) (v:=((dP (a2 dA iA)).put (Kw (dY,1,2)))) (H:=[]) (ps:=[rG dY]) rfl (by kernel_rfl) (by simp[pX,pY,a8h,pLe]) rfl
theorem ag9:aX X0 Qp (bQ n) (.fn 67 [] []) [.agg dY.ps] [] (dvA dWh) []:=by
 rw[show(dvA dWh:PV aF)=((dP (a2 dA iA)).put (zH dY))from by rw[<-a8i]];exact qQ hX hO (f:=67) (first:=[]) (xs:=[.agg dY.ps]) (cap:=[]) (vs:=[.agg dY.ps]) (v:=((dP (a2 dA iA)).put (zH dY))) (H:=[]) (ps:=[rG dY]) rfl (by kernel_rfl) (by simp[pX,pY,a8h,pLe]) rfl
theorem alm:aX X0 Qp (bQ n) (.fn 27 [] []) [.agg dY.ps,.agg (⟨0,2⟩:V).ps] [] ((dP (a2 iA iA)).put (2,0)) []:=by
 rw[show((dP (a2 iA iA)).put (2,0):PV aF)=((dP (a2 iA iA)).put (Vk (dY,⟨0,2⟩)))from by rw[ab2]];exact LU hX hO (f:=27) (first:=[]) (xs:=[.agg dY.ps,.agg (⟨0,2⟩:V).ps]) (cap:=[]) (vs:=[.agg dY.ps,.agg (⟨0,2⟩:V).ps]) (v:=((dP (a2 iA iA)).put (Vk (dY,⟨0,2⟩)))) (H:=[]) (ps:=[rG dY]) rfl (by kernel_rfl) (by simp[pY]) rfl
theorem aga:aX X0 Qp (bQ n) (.fn 28 [] []) [.agg dX.ps,.agg (⟨0,2⟩:V).ps] [] ((dP (a2 ql iA)).put ([1,0],0)) []:=by
 rw[show((dP (a2 ql iA)).put ([1,0],0):PV aF)=((dP (a2 ql iA)).put (I9 (dX,⟨0,2⟩)))from by rw[a8g]];exact qQ hX hO (f:=28) (first:=[]) (xs:=[.agg dX.ps,.agg (⟨0,2⟩:V).ps]) (cap:=[]) (vs:=[.agg dX.ps,.agg (⟨0,2⟩:V).ps]) (v:=((dP (a2 ql iA)).put (I9 (dX,⟨0,2⟩)))) (H:=[]) (ps:=[rG dX]) rfl (by kernel_rfl) (by simp[pX]) rfl
theorem aqm:aX X0 Qp (bQ n) (.fn 62 [] []) [.int .u8 10,.agg dX.ps,.agg dY.ps] [] (dvA FM) []:=by
 rw[show(dvA FM:PV aF)=((dP (a2 dA iA)).put (wP (10,dX,dY)))from by rw[<-ag8]];exact qQ hX hO (f:=62) (first:=[]) (xs:=[.int .u8 10,.agg dX.ps,.agg dY.ps]) (cap:=[]) (vs:=[.int .u8 10,.agg dX.ps,.agg dY.ps]) (v:=((dP (a2 dA iA)).put (wP (10,dX,dY)))) (H:=[]) (ps:=[rG dX,rG dY]) rfl (by kernel_rfl) (by simp[pX,pY,a8h,pLe]) rfl
theorem aLe:aX X0 Qp (bQ n) (.fn 62 [] []) [.int .u8 14,.agg dX.ps,.agg dY.ps] [] (dvA dLe) []:=by
 rw[show(dvA dLe:PV aF)=((dP (a2 dA iA)).put (wP (14,dX,dY)))from by rw[<-alj]];exact qQ hX hO (f:=62) (first:=[]) (xs:=[.int .u8 14,.agg dX.ps,.agg dY.ps]) (cap:=[]) (vs:=[.int .u8 14,.agg dX.ps,.agg dY.ps]) (v:=((dP (a2 dA iA)).put (wP (14,dX,dY)))) (H:=[]) (ps:=[rG dX,rG dY]) rfl (by kernel_rfl) (by simp[pX,pY,a8h,pLe]) rfl
abbrev a8j:An:=⟨4,false,false,0,0,1,true,[]⟩
abbrev adi:An:=⟨8,false,false,2,0,0,false,[0]⟩
theorem aqn:aX X0 Qp (bQ n) (.fn 33 [] []) [.int .u8 4,.agg FM.ps,.agg dX.ps] [] ((dP (a2 PZ iA)).put (a8j,0)) []:=by
 rw[show((dP (a2 PZ iA)).put (a8j,0):PV aF)=((dP (a2 PZ iA)).put (uz (4,FM,dX)))from by rw[ag4]];exact qQ hX hO (f:=33) (first:=[]) (xs:=[.int .u8 4,.agg FM.ps,.agg dX.ps]) (cap:=[]) (vs:=[.int .u8 4,.agg FM.ps,.agg dX.ps]) (v:=((dP (a2 PZ iA)).put (uz (4,FM,dX)))) (H:=[]) (ps:=[rG FM,rG dX]) rfl (by kernel_rfl) (by simp[a8h,pX]) rfl
end
open Go Tw Pv bW
theorem aln{n:Nat}(hn:24<=n)(Am:Ok n a7Y)(FU:∀m,n-24<=m->Ok m qo){k:Bool}:aX X0 Qp (bQ (n+1)) (.fn 39 [] []) [.own 0,.agg dLe.ps] [.list k true 26 [dX,dY]] ((dP (a2 PZ iA)).put (adi,0)) [.gone]:=by
 rw[<-ab3];exact akZ (l:=[dX,dY]) (d:=dLe) hn Am FU (fun x h=>by
  rcases a1Y.1 h with rfl|h
  .exact pX
  rcases a1Y.1 h with rfl|h
  .exact pY
  rw[a2I.1 h];exact pLe) (by show 2<=1000;omega)
theorem alo{n:Nat}(hO:Ok n ab4):aX X0 Qp (bQ n) (.fn 48 [] []) [.int .i64 2] [] (.agg (⟨0,2⟩:V).ps) []:=
 LU hX hO (f:=48) (first:=[]) (xs:=[.int .i64 2]) (cap:=[]) (vs:=[.int .i64 2]) (v:=.agg (⟨0,2⟩:V).ps) (H:=[]) (ps:=[]) rfl (by kernel_rfl) (fun _ h=>by cases h) rfl
theorem Tq{a b:Nat}(h:Nat.ble a b=true):a<=b:=agB h
theorem aqo:Tn dX:=⟨Tq (by kernel_rfl),Tq (by kernel_rfl),Tq (by kernel_rfl),Tq (by kernel_rfl),fun b h=>by rw[a2I.1 h];exact Tq (by kernel_rfl)⟩
def alp:eY aF:=bZ 19 aen tA (fun _=>true) np ab4
theorem aqp:Gd alp:=Good.acW 25 aqk akT Ku fun n hn hO FU hO3 p hp=>by
 obtain⟨m,rfl⟩:∃m,n=m+1:=⟨n-1,by omega⟩;have FD:=hO (m+1) (by omega);exact aN FD (.fr [] (alk FD) (.fr [0,1] (ab5 FD (j:=true) (k:=true)) (.fr [] (aIf FD) (.fr [] (aql FD) (.fr [] (ag9 FD) (.fr [] (alo FD) (.fr [] (alm FD) (.fr [] (alo FD) (.fr [] (aga FD) (.fr [] (aqm FD) (.fr [] (aqn FD) (.fr [] (aLe FD) (.fr [2] (aln (k:=true) (by omega) (FU m (by omega)) (fun k hk=>hO3 k (by omega))) (.o aqo (.b (c:=true) (t:=true) rfl (.o (Tq (by kernel_rfl):dIf.aH.length<=ah) (.o (Tq (by kernel_rfl):dIf.aO.length<=ah) (.o (Tq (by kernel_rfl):([0,0,0,0,0,0]:List Int).length<=1000) (.o (Tq (by kernel_rfl):(cellsD dIf).length<=ah) (.b (c:=true) (t:=true) rfl (.o (Tq (by kernel_rfl):dRs.aH.length<=ah) (.o (Tq (by kernel_rfl):dRs.aO.length<=ah) (.o (Tq (by kernel_rfl):([0,0,0,0,0,0]:List Int).length<=1000) (.o (Tq (by kernel_rfl):(cellsD dRs).length<=ah) (.b (c:=true) (t:=true) rfl (.o (Tq (by kernel_rfl):dWh.aH.length<=ah) (.o (Tq (by kernel_rfl):dWh.aO.length<=ah) (.o (Tq (by kernel_rfl):([0,0,0,0,0,0]:List Int).length<=1000) (.o (Tq (by kernel_rfl):(cellsD dWh).length<=ah) (.b (c:=true) (t:=true) rfl (.b (c:=true) (t:=true) rfl (.b (c:=true) (t:=true) rfl (.b (c:=true) (t:=true) rfl (.o (Tq (by kernel_rfl):([1,0]:List Int).length<=ah) (.b (c:=true) (t:=true) rfl (.b (c:=true) (t:=true) rfl (.b (c:=true) (t:=true) rfl (.o (Tq (by kernel_rfl):a8j.set.length<=ah) (.b (c:=true) (t:=true) rfl (.b (c:=true) (t:=true) rfl (.b (c:=true) (t:=true) rfl (.o (Tq (by kernel_rfl):adi.set.length<=ah) .rr))))))))))))))))))))))))))))))))))))))))))
open Go Tw Pv bW
theorem aqr:Hy V0:=⟨by decide,by decide⟩
theorem a1O{l:List V}(h:∀v∈l,Hy v)(i:Nat):Hy (l.getD i V0):=by
 by_cases c:i<l.length
 .exact h _ (dZ c)
 rw[a2X,a3X (by omega)];exact aqr
theorem a8k{d:Dg}(h:∀v∈d.aO,Hy v):∀v∈cellsD d,Hy v:=fun v hv=>by
 obtain⟨k,_,rfl⟩:=a1f.1 hv;exact a1O h _
theorem wQ(d:Dg):(cellsD d).length=EM d.aA:=by simp[cellsD]
theorem a8l{d:Dg}(h:Dy d=true)(r:Ih d):rG d:=by
 obtain⟨f,h1,h2,h3,_⟩:=PK h;exact⟨r,f.s,by omega,by unfold ah;omega⟩
open Go Tw Pv bW
theorem agb{k lo hi:Int}:(!(kY k lo hi))=true↔¬(lo<=k∧k<=hi):=by
 rw[<-qZ];cases kY k lo hi<;>simp
open Go Tw Pv bW
theorem Yd{t:List (V×Int)}(hn:(t.map (·.1)).Nodup)(v:V):look t v=dD (ind v) t:=by
 unfold look;by_cases h:v∈t.map (·.1)
 .obtain⟨e,he,hv⟩:=a1f.1 h;obtain⟨e2,h2⟩:=a5j.1 (List.find?_isSome (p:=fun e:V×Int=>decide (e.1=v)) |>.2 ⟨e,he,show decide (e.1=v)=true by simpa using hv⟩);have h3:e2.1=v:=by simpa using List.find?_some h2
  have:=AB hn (ag3 h2);rw[h3]at this;rw[h2,this];rfl
 rw[Hz h,ads.2 fun e he=>by
  simp only[a1X];intro hv;exact h (a1f.2 ⟨e,he,hv⟩)]
 rfl
theorem PL(J:Jb)(v:V):look (bK J) v=((fD J).count v:Int):=by
 rw[Yd (pV J),Dx,XQ]
open Go Tw Pv bW
def a1P(p:Dg×Dg):Bool:=if decide (p.1.aA=p.2.aA)=true then decide (p.1.aH=p.2.aH)else false
def ab6:eY aF:=bZ 70 (a2 dA dA) tA (fun p=>a1P p) (fun p=>[p.1.aA.length<=ah,p.1.aH.length<=ah]) alp
theorem aqs:Gd ab6:=aqp.add fun n hO p hp=>aN hO (.o (hp _ (.head _)) (.ss (.o (hp _ (.tail _ (.head _))) .rr) .rr))
theorem a8m(a b:Dg):a1P (a,b)=Dk (a.aA,a.aH) b:=by
 unfold a1P Dk;rw[a4u];by_cases h:a.aA=b.aA
 .by_cases h2:a.aH=b.aH
  .simp[h,h2]
  simp only[h,decide_true,a2d,a1X];exact⟨fun e=>absurd e h2,fun e=>absurd e.symm h2⟩
 have h3:¬b.aA=a.aA:=fun e=>h e.symm;simp[h,h3]
abbrev wCa(l:List Dg)(i:Int)(x:List (Nat×PE aF)):aQ aF:=⟨[(0,xL 26 l),(3,xi i)]++x,[],[]⟩
abbrev wCb(l:List Dg)(i:Int)(x:List (Nat×PE aF)):aQ aF:=⟨[(0,xL 26 l),(5,xi i)]++x,[],[]⟩
def Ye(l:List Dg)(k:Nat):Bool:=ru (l.getD k kJ) != 0
def cA2(l:List Dg)(k:Nat):Bool:=!(a1P (l.getD 0 kJ,l.getD k kJ))
def zA1(l:List Dg):Unit⊕Nat->Ex×aQ aF
 |.inl _=>(.exit 0,wCa l l.length [(9,xl false)])
 |.inr k=>(.ret,⟨[(2,xi (ru (l.getD k kJ)))],[],[]⟩)
def zA2(l:List Dg):Unit⊕Nat->Ex×aQ aF
 |.inl _=>(.exit 2,wCb l l.length [(23,xl false)])
 |.inr _=>(.ret,⟨[(2,xi 2)],[],[]⟩)
theorem lA1{n:Nat}(hO:Ok n ab6){l:List Dg}(hf:∀d∈l,Tn d)(hl:l.length<=ah):Lp n 34 0 (wCa l 0 []) (zA1 l (bF (Ye l) l.length)).1 (zA1 l (bF (Ye l) l.length)).2:=by
 refine iU (st:=fun i _=>wCa l i []) (g:=gS (Ye l)) (out:=zA1 l) (fun _ _=>True) (by kernel_rfl) hl trivial (fun k u m hk _ ih=>?_) (fun _ _=>?_)
 .have h:=hf _ (dZ (d:=kJ) hk);unfold gS Ye;exact aK hO (.b (aW hk) (.o (aG hk) (.o h.o (.o h.e (.ls (.ou nofun) (.nx (ih _ trivial)))))))
 exact aK hO (.b (eX l.length) (.ou nofun))
theorem lA2{n:Nat}(hO:Ok n ab6){l:List Dg}(hf:∀d∈l,Tn d)(h0:0<l.length)(hl:l.length<=ah):Lp n 34 1 (wCb l 1 []) (zA2 l (jX (gS (cA2 l)) (l.length-1) 1 ())).1 (zA2 l (jX (gS (cA2 l)) (l.length-1) 1 ())).2:=by
 refine a1b (a:=1) (st:=fun i _=>wCb l i []) (g:=gS (cA2 l)) (out:=zA2 l) (fun _ _=>True) (by kernel_rfl) h0 hl trivial (fun k u m hk0 hk _ ih=>?_) (fun _ _=>?_)
 .have h:=hf _ (dZ (d:=kJ) h0);unfold gS cA2;exact aK hO (.b (aW hk) (.o (aG h0) (.o (aG hk) (.o h.s (.o h.o (.ls (.ou nofun) (.nx (ih _ trivial))))))))
 exact aK hO (.b (eX l.length) (.ou nofun))
def pW(l:List Dg):Int:=match bF (Ye l) l.length with
 |.inr k=>ru (l.getD k kJ)
 |.inl _=>match jX (gS (cA2 l)) (l.length-1) 1 ()with
  |.inr _=>2
  |.inl _=>0
def alq:eY aF:=bZ 34 (a1 aik) iA pW (fun l=>[∀d∈l,Tn d,0<l.length∧l.length<=ah]) ab6
theorem aqx:Gd alq:=aqs.add fun n hO l hp=>by
 have hf:∀d∈l,Tn d:=hp _ (.head _);obtain⟨h0,hl⟩:0<l.length∧l.length<=ah:=hp _ (.tail _ (.head _));have lp:=lA1 hO hf hl;have lp2:=lA2 hO hf h0 hl;show mY X0 Qp _ _ _ (iA.put (match bF (Ye l) l.length with
  |.inr k=>ru (l.getD k kJ)
  |.inl _=>match jX (gS (cA2 l)) (l.length-1) 1 ()with
   |.inr _=>2
   |.inl _=>0)) _
 revert lp lp2;rcases bF (Ye l) l.length with _|k
 .rcases jX (gS (cA2 l)) (l.length-1) 1 ()with _|j
  .intro lp lp2;exact aN hO (.w lp (.w lp2 .rr))
  .intro lp lp2;exact aN hO (.w lp (.w lp2 .rr))
 .intro lp lp2;exact aN hO (.w lp .rr)
theorem ab7{l:List Dg}(hp:∀d∈l,rG d)(h0:0<l.length):pW l=bT l:=by
 have hd:l.getD 0 kJ∈l:=dZ h0;have ec:∀k,k<l.length->(vC (l.getD k kJ)).2=ru (l.getD k kJ):=fun k hk=>by
  have h:=hp _ (dZ (d:=kJ) hk);rw[Xz h.r h.s (by have:=h.o;unfold ah;omega) h.e]
 have eb:∀k,k<l.length->cCk l k=Ye l k:=fun k hk=>by unfold cCk Ye;rw[ec k hk]
 unfold pW bT;cases e1:jK (bF (cCk l) l.length)
 .obtain⟨j,hj,h1,h2,h3⟩:=DY e1;have e2:jK (bF (Ye l) l.length)=false:=by
   cases e:jK (bF (Ye l) l.length)
   .rfl
   have:=dI.1 e j hj;rw[<-eb j hj,h1]at this;cases this
  obtain⟨i,hi,g1,g2,g3⟩:=DY e2;have:i=j:=by
   by_cases c:i<j
   .have:=h2 i c;rw[eb i hi,g1]at this;cases this
   by_cases c2:j<i
   .have:=g2 j c2;rw[<-eb j hj,h1]at this;cases this
   omega
  subst this;rw[g3,h3,a0g (by simp)];exact(ec i hi).symm
 have h1:=dI.1 e1;have e2:jK (bF (Ye l) l.length)=true:=dI.2 fun j hj=>by rw[<-eb j hj];exact h1 j hj
 rw[a0h rfl];rcases e3:bF (Ye l) l.length with u|k
 rotate_left
 .rw[e3]at e2;cases e2
 show(match jX (gS (cA2 l)) (l.length-1) 1 ()with
  |.inr _=>(2:Int)
  |.inl _=>0)=_
 have hs:Dk ((l.getD 0 kJ).aA,(l.getD 0 kJ).aH) (l.getD 0 kJ)=true:=by simp[Dk]
 rcases e4:jX (gS (cA2 l)) (l.length-1) 1 ()with u|j
 .have h2:=(H9 (r:=fun k=>k) (c:=cA2 l) (m:=l.length-1) (k:=1)).1 (by unfold gS at e4;rw[e4];rfl);rw[a0g];rw[adY,abB,a4s];intro d Zk;obtain⟨k,hk,rfl⟩:=a9F Zk;have ek:l[k]=l.getD k kJ:=by rw[a2X,a0a hk,a4H]
  rw[ek];by_cases c:k=0
  .subst c;exact hs
  have:=h2 k (by omega) (by omega);unfold cA2 at this;rw[a8m]at this;simpa using this
 have h2:=X8 (r:=fun k=>k) (c:=cA2 l) (m:=l.length-1) (k:=1) (by unfold gS at e4;rw[e4];rfl);obtain⟨i,hi1,JE,h3,_⟩:=h2;rw[a0h];rw[a8x,List.all_eq_false];unfold cA2 at h3;rw[a8m]at h3;exact⟨l.getD i kJ,dZ (by omega),by simpa using h3⟩
open Go Tw Pv bW
theorem ab8(a b:Dg):0<[a,b].length∧[a,b].length<=ah:=⟨by simp,by show 2<=ah;unfold ah;omega⟩
open Go Tw Pv bW
theorem ab9{s q:List Int}(hq:mO s q=true):ov (List.replicate s.length (-1)) q=q:=by
 have hl:=zn hq;refine(qY (d:=(0:Int)) (by simp[ov,agM,hl])).2 fun k hk=>?_;have lN:k<s.length:=by simp[ov,agM,hl]at hk;exact hk
 rw[P7 (by rw[a8v,hl]),a0h (by rw[a8v];exact lN),a0g];rw[a2X,agx,a0h lN];decide
open Go Tw Pv bW
theorem a3L{l:List Dg}(h:pW l=0):∀d∈l,ru d=0:=by
 have e:jK (bF (Ye l) l.length)=true:=by
  cases e:jK (bF (Ye l) l.length)
  .obtain⟨j,hj,h1,_,h3⟩:=DY e;unfold pW at h;rw[h3]at h;have h:ru (l.getD j kJ)=0:=h;unfold Ye at h1;rw[h]at h1;cases h1
  rfl
 intro d hd;obtain⟨k,hk,rfl⟩:=a9F hd;have:=dI.1 e k hk;unfold Ye at this;rw[a2X,a0a hk,a4H]at this;simpa using this
open Go Tw Pv bW
def agc:eY aF:=bZ 91 (a1 vA) tA (fun p=>decide (p=iG)) np alq
theorem aqy:Gd agc:=aqx.add fun n hO p hp=>aN hO (.q (.bool (decide (p=iG))) (eqV (.tmp 3) (.tmp 4) p iG) .rr)
abbrev wCx(x y acc:List V)(i:Int)(e:List (Nat×PE aF))(loc:List (List (PV aF))):aQ aF:=⟨[(5,.val (.own 0)),(6,xL 39 x),(7,xL 39 y),(8,xi i)]++e,loc,[.list false false 39 acc]⟩
def gCx(x y:List V)(k:Nat)(acc:List V):List V:=if decide (y.getD k V0=iG)=true then acc++[x.getD k V0]else acc
def Ia(x y:List V):List V:=aT (gCx x y) x.length 0 []
theorem lCx{n:Nat}(hO:Ok n agc){d c:Dg}{x y:List V}(hl:x.length<=5000)(hy:y.length=x.length):Lp n 37 0 (wCx x y [] 0 [] [d.ps,c.ps]) (.exit 0) (wCx x y (Ia x y) x.length [(22,xl false)] []):=by
 refine uy (σ:=List V) (N:=x.length) (g:=gCx x y) (s0:=[]) (st:=fun i a=>wCx x y a i [] []) (fin:=fun a=>wCx x y a x.length [(22,xl false)] []) (fun k a=>a.length<=k) (by kernel_rfl) (by unfold ah;omega) (a15 _) (fun k a hk h=>by
  unfold gCx;split
  .rw[a2a,a3s];omega
  omega) (fun k a hk ha m e p g9=>?_) (fun a _=>?_)
 .have i2:gQ (k:Int) y.length:=aG (by omega);have t2:decide ((k:Int)<(y.length:Int))=true:=aW (by omega);unfold gCx at g9;cases e1:decide (y.getD k V0=iG)
  .rw[e1,a0g (by simp)]at g9;exact aK hO (.b (aW hk) (.b t2 (.o i2 (.b e1 (.go g9)))))
  rw[e1,a0h rfl]at g9;have hal:a.length+[x.getD k V0].length<=ah:=by rw[a3s];unfold ah;omega
  exact aK hO (.b (aW hk) (.b t2 (.o i2 (.b e1 (.o (aG hk) (.o hal (.RU [.gc [2]] g9)))))))
 exact aK hO (.b (eX x.length) .ex)
def agd:eY aF:=bZ 37 (a2 dA dA) Zv (fun p=>Ia (cellsD p.1) (cellsD p.2)) (fun p=>[a3I p.1,a3I p.2,(cellsD p.1).length<=5000,(cellsD p.2).length=(cellsD p.1).length]) agc
theorem aqz:Gd agd:=aqy.add fun n hO p hp=>aN hO (.o (hp _ (.head _)) (.o (hp _ (.tail _ (.head _))) (.wG [.BA 5 39] (lCx hO (d:=p.1) (c:=p.2) (hp _ (.tail _ (.tail _ (.head _)))) (hp _ (.tail _ (.tail _ (.tail _ (.head _)))))) .rr)))
abbrev wWi(l:List Int)(n:Int)(acc:List Int)(b:Bool)(i:Int)(e:List (Nat×PE aF)):aQ aF:=⟨[(0,xL 3 l),(1,xi n),(5,.val (.own 0)),(6,xt b),(7,xi i)]++e,[],[.list false false 3 acc]⟩
def Q5(l:List Int)(n:Int)(k:Nat)(s:List Int×Bool):List Int×Bool:=if(decide (n<l.getD k 0)&&!s.2)=true then(s.1++[n]++[l.getD k 0],true)else(s.1++[l.getD k 0],s.2||n==l.getD k 0)
theorem lWi{m:Nat}(hO:Ok m agd){l:List Int}{n:Int}(hl:l.length<=5000):Lp m 92 0 (wWi l n [] false 0 []) (.exit 0) (wWi l n (aT (Q5 l n) l.length 0 ([],false)).1 (aT (Q5 l n) l.length 0 ([],false)).2 l.length [(11,xl false)]):=by
 refine uy (σ:=List Int×Bool) (N:=l.length) (g:=Q5 l n) (s0:=([],false)) (st:=fun i s=>wWi l n s.1 s.2 i []) (fin:=fun s=>wWi l n s.1 s.2 l.length [(11,xl false)]) (fun k s=>s.1.length<=2*k) (by kernel_rfl) (by unfold ah;omega) (a4v _) (fun k s hk h=>by unfold Q5;split<;>simp<;>omega) (fun k s hk ha m e p g9=>?_) (fun s _=>?_)
 rotate_left
 .exact aK hO (.b (eX l.length) .ex)
 obtain⟨acc,b⟩:=s;have ha:acc.length<=2*k:=ha;have i1:gQ (k:Int) l.length:=aG hk;have a1:acc.length+[n].length<=ah:=by rw[a3s];unfold ah;omega
 have a2:(acc++[n]).length+[l.getD k 0].length<=ah:=by rw[a2a,a3s,a3s];unfold ah;omega
 have a3:acc.length+[l.getD k 0].length<=ah:=by rw[a3s];unfold ah;omega
 unfold Q5 at g9;cases e1:decide (n<l.getD k 0)
 .cases b
  .simp only[e1,agt,a2c,a2Y,aeQ]at g9;exact aK hO (.b (aW hk) (.o i1 (.b e1 (.b (rfl:false=false) (.o i1 (.o i1 (.o a3 (.RU [.lit,.gc [2]] g9))))))))
  simp only[e1,agt,a2c,a2Y,Bool.true_or]at g9;exact aK hO (.b (aW hk) (.o i1 (.b e1 (.b (rfl:true=true) (.o i1 (.o a3 (.RU [.lit,.gc [2]] g9)))))))
 cases b
 .simp only[e1,abq,aaB,a2d]at g9;exact aK hO (.b (aW hk) (.o i1 (.b e1 (.b (rfl:(!false)=true) (.o a1 (.o i1 (.o a2 (.RU [.lit,.gc [4]] g9))))))))
 simp only[e1,abq,a8D,a2c,a2Y,Bool.true_or]at g9;exact aK hO (.b (aW hk) (.o i1 (.b e1 (.b (rfl:(!true)=false) (.b (rfl:true=true) (.o i1 (.o a3 (.RU [.lit,.gc [2]] g9))))))))
def yF(n:Int):List Int->List Int
 | []=>[n]
 |x::t=>if n<x then n::x::t else if n=x then x::t else x::yF n t
theorem ZU(l:List Int)(n:Int):∀(t:List Int) (k:Nat) (acc:List Int),l.drop k=t->(aT (Q5 l n) t.length k (acc,true))=(acc++t,true)
 | [],k,acc,_=>by simp[aT]
 |x::t,k,acc,h=>by
  have hk:k<l.length:=by
   have:=congrArg List.length h;rw[a3S,a3V]at this;omega
  have e:l.getD k 0=x:=by
   rw[a4P hk]at h;rw[a2X,a0a hk,a4H];exact(afa h).1
  have h2:l.drop (k+1)=t:=by
   rw[a4P hk]at h;exact(afa h).2
  rw[a3V];show aT (Q5 l n) t.length (k+1) (Q5 l n k (acc,true))=_;have:Q5 l n k (acc,true)=(acc++[x],true):=by unfold Q5;rw[e];simp
  rw[this,ZU l n t (k+1) _ h2];simp
theorem a8n(l:List Int)(n:Int):∀(t:List Int) (k:Nat) (acc:List Int),l.drop k=t->(let s:=aT (Q5 l n) t.length k (acc,false);if(!s.2)=true then s.1++[n]else s.1)=acc++yF n t
 | [],k,acc,_=>by simp[aT,yF]
 |x::t,k,acc,h=>by
  have hk:k<l.length:=by
   have:=congrArg List.length h;rw[a3S,a3V]at this;omega
  have e:l.getD k 0=x:=by
   rw[a4P hk]at h;rw[a2X,a0a hk,a4H];exact(afa h).1
  have h2:l.drop (k+1)=t:=by
   rw[a4P hk]at h;exact(afa h).2
  rw[a3V];show(let s:=aT (Q5 l n) t.length (k+1) (Q5 l n k (acc,false));if(!s.2)=true then s.1++[n]else s.1)=_;unfold yF;by_cases c:n<x
  .have:Q5 l n k (acc,false)=(acc++[n]++[x],true):=by unfold Q5;rw[e];simp[c]
   rw[this,ZU l n t (k+1) _ h2,a0h c];simp
  rw[a0g c];by_cases c2:n=x
  .have:Q5 l n k (acc,false)=(acc++[x],true):=by unfold Q5;rw[e];simp[c,c2]
   rw[this,ZU l n t (k+1) _ h2,a0h c2];simp
  have:Q5 l n k (acc,false)=(acc++[x],false):=by unfold Q5;rw[e];simp[c,c2]
  rw[this,a8n l n t (k+1) _ h2,a0g c2];simp
def agf:eY aF:=bZ 92 (a2 ql iA) ql (fun p=>yF p.2 p.1) (fun p=>[p.1.length<=5000]) agd
theorem aqA:Gd agf:=aqz.add fun m hO p hp=>by
 obtain⟨l,n⟩:=p;have hl:l.length<=5000:=hp _ (.head _);have lp:=lWi hO (n:=n) hl;have e:=a8n l n l 0 [] rfl;have hq:=dO (g:=Q5 l n) (m:=l.length) (k:=0) (s:=([],false)) (fun k s=>s.1.length<=2*k) (a4v _) (fun k s _ _ h=>by unfold Q5;split<;>simp<;>omega);revert lp e hq;rcases aT (Q5 l n) l.length 0 ([],false)with⟨acc,b⟩;intro lp e hq;have hq:acc.length<=2*(0+l.length):=hq;have a1:acc.length+[n].length<=ah:=by rw[a3s];unfold ah;omega
 show mY X0 Qp _ _ _ (ql.put (yF n l)) _;cases b
 .have e:acc++[n]=yF n l:=by simpa using e
  rw[<-e];exact aN hO (.wG [.lit,.BA 5 3] lp (.b (rfl:(!false)=true) (.o a1 .rr)))
 .have e:acc=yF n l:=by simpa using e
  rw[<-e];exact aN hO (.wG [.lit,.BA 5 3] lp (.b (rfl:(!true)=false) .rr))
open Go Tw Pv bW
theorem rB(a:An)(h:a.set=[]):Fp (Γ:=X0.Γ) (Is (X:=X0) (P:=Qp) PZ a) .n (.ret (some (anW a (.nil .slc)))):=by
 obtain⟨q,no,y,n,l,hi,f,s⟩:=a;cases h;have h:PZ.get (anW ⟨q,no,y,n,l,hi,f,[]⟩ (.nil .slc))=some ⟨q,no,y,n,l,hi,f,[]⟩:=rfl;exact Fp.rn (X:=X0) (P:=Qp) _ h
abbrev cAk(q:Int):List (PV aF):=[.int .u8 q,.bool false,.bool false,.int .i64 0,.int .i64 0,.int .i64 0,.bool false,.nil .slc,.nil .slc]
abbrev wAk(q:Int)(l:List V)(r:Int×Bool×List Int)(i:Int)(e:List (Nat×PE aF)):aQ aF:=⟨[(0,xu q),(1,xL 39 l),(4,.loc 0 0),(5,.loc 1 0),(6,xi r.1),(7,xt r.2.1),(8,xL 3 r.2.2),(9,xi i)]++e,[cAk 0,cAk q],[]⟩
def gAk(l:List V)(k:Nat)(r:Int×Bool×List Int):Int×Bool×List Int:=(if decide (l.getD k V0=iG)=true then i64.wrap (r.1+1)else r.1,if decide ((l.getD k V0).f>0)=true then true else r.2.1,if decide ((l.getD k V0).f>0)=true then r.2.2 else yF (l.getD k V0).n r.2.2)
theorem PN(n:Int):∀l:List Int,(yF n l).length<=l.length+1
 | []=>a15 _
 |x::t=>by
  unfold yF;split
  .simp
  split
  .simp
  have:=PN n t;simp;omega
def uU(l:List V):Int×Bool×List Int:=aT (gAk l) l.length 0 (0,false,[])
theorem lAk{n:Nat}(hO:Ok n agf){q:Int}{l:List V}(hl:l.length<=4000):Lp n 36 0 (wAk q l (0,false,[]) 0 []) (.exit 0) (wAk q l (uU l) l.length [(20,xl false)]):=by
 refine uy (σ:=Int×Bool×List Int) (N:=l.length) (g:=gAk l) (s0:=(0,false,[])) (st:=fun i r=>wAk q l r i []) (fin:=fun r=>wAk q l r l.length [(20,xl false)]) (fun k r=>r.2.2.length<=k) (by kernel_rfl) (by unfold ah;omega) (a15 _) (fun k r hk h=>?_) (fun k r hk ha m e p g9=>?_) (fun a _=>?_)
 .obtain⟨m,f,s⟩:=r;have h:s.length<=k:=h;show(if decide ((l.getD k V0).f>0)=true then s else yF (l.getD k V0).n s).length<=k+1;have:=PN (l.getD k V0).n s;split<;>omega
 .obtain⟨mm,f,s⟩:=r;have ha:s.length<=k:=ha;have i1:gQ (k:Int) l.length:=aG hk;have h5:s.length<=5000:=by omega
  unfold gAk at g9;cases e1:decide (l.getD k V0=iG)
  .cases e2:decide ((l.getD k V0).f>0)
   .simp only[e1,e2,a2c,a2Y]at g9;exact aK hO (.b (aW hk) (.o i1 (.b e1 (.o i1 (.b e2 (.o i1 (.o h5 (.RU [.lit] g9))))))))
   simp only[e1,e2,a2c,a2Y,a2d]at g9;exact aK hO (.b (aW hk) (.o i1 (.b e1 (.o i1 (.b e2 (.RU [.lit] g9))))))
  cases e2:decide ((l.getD k V0).f>0)
  .simp only[e1,e2,a2c,a2Y,a2d]at g9;exact aK hO (.b (aW hk) (.o i1 (.b e1 (.o i1 (.b e2 (.o i1 (.o h5 (.RU [.lit] g9))))))))
  simp only[e1,e2,a2d]at g9;exact aK hO (.b (aW hk) (.o i1 (.b e1 (.o i1 (.b e2 (.RU [.lit] g9))))))
 exact aK hO (.b (eX l.length) .ex)
def PO(q:Int)(n:Int)(r:Int×Bool×List Int):An:=if(q==1)=true then⟨q,false,r.1==n,0,0,0,false,[]⟩else if(q==2)=true then⟨q,false,decide (r.1>0),0,0,0,false,[]⟩else if(q==3)=true then⟨q,false,false,r.1,0,0,false,[]⟩else if(q==4)=true then(if decide ((r.2.2.length:Int)>0)=true then⟨q,(r.2.2.length:Int)==0,false,0,r.2.2.getD 0 0,r.2.2.getD (i64.wrap ((r.2.2.length:Int)-1)).toNat 0,r.2.1,[]⟩else⟨q,(r.2.2.length:Int)==0,false,0,0,0,r.2.1,[]⟩)else⟨q,false,false,0,0,0,r.2.1,r.2.2⟩
def FN(p:Int×List V):An:=if((p.2.length:Int)==0)=true then⟨p.1,true,false,0,0,0,false,[]⟩else PO p.1 p.2.length (uU p.2)
theorem a1Q(l:List V):(uU l).2.2.length<=l.length:=by
 have:=dO (g:=gAk l) (m:=l.length) (k:=0) (s:=(0,false,[])) (fun k r=>r.2.2.length<=k) (a15 _) (fun k r _ _ h=>by
  show(if decide ((l.getD k V0).f>0)=true then r.2.2 else yF (l.getD k V0).n r.2.2).length<=k+1;have:=PN (l.getD k V0).n r.2.2;split<;>omega)
 rw[a3U]at this;exact this
def alr:eY aF:=bZ 36 (a2 uA Zv) PZ FN (fun p=>[p.2.length<=4000,1<=p.1∧p.1<=5]) agf
theorem aqB:Gd alr:=aqA.add fun n hO p hp=>by
 obtain⟨q,l⟩:=p;have hl:l.length<=4000:=hp _ (.head _);obtain⟨q1,q2⟩:1<=q∧q<=5:=hp _ (.tail _ (.head _));have lp:=lAk hO (q:=q) hl;have hs:=a1Q l;show mY X0 Qp _ _ _ (PZ.put (if((l.length:Int)==0)=true then⟨q,true,false,0,0,0,false,[]⟩else PO q l.length (uU l))) _;revert lp hs;generalize uU l=r;obtain⟨m,f,s⟩:=r;intro lp hs;have hs:s.length<=l.length:=hs;cases e0:((l.length:Int)==0)
 .rw[a0g (by simp)];unfold PO;cases e4:decide ((s.length:Int)>0)
  .exact aN hO (.b e0 (.wG [.lit,.BA 8 3,.fz 0,.gc []] lp (.sh (fun _=>rB _ rfl) fun e1=>.sh (fun _=>rB _ rfl) fun e2=>.sh (fun _=>rB _ rfl) fun e3=>.sh (fun _=>.b e4 (rB _ rfl)) fun e5=>.b (show(q==5)=true by simp at e1 e2 e3 e5 ⊢;omega) .rr)))
  .have h0:0<s.length:=(by simpa using e4);have i2:gQ (i64.wrap ((s.length:Int)-1)) s.length:=by rw[wrap_small (by omega) (by omega)];exact⟨by omega,by omega⟩
   exact aN hO (.b e0 (.wG [.lit,.BA 8 3,.fz 0,.gc []] lp (.sh (fun _=>rB _ rfl) fun e1=>.sh (fun _=>rB _ rfl) fun e2=>.sh (fun _=>rB _ rfl) fun e3=>.sh (fun _=>.b e4 (.o (aG h0) (.o i2 (rB _ rfl)))) fun e5=>.b (show(q==5)=true by simp at e1 e2 e3 e5 ⊢;omega) .rr)))
 .rw[a0h rfl];exact aN hO (.b e0 (rB _ rfl))
open Go Tw Pv bW
theorem Tt:∀{l l':List Int},l.Pairwise (·<·)->l'.Pairwise (·<·)->(∀x,x∈l↔x∈l')->l=l'
 | [],[],_,_,_=>rfl
 | [],b::t,_,_,h=>absurd ((h b).2 (by simp)) (by simp)
 |a::t,[],_,_,h=>absurd ((h a).1 (by simp)) (by simp)
 |a::t,b::u,h1,h2,h=>by
  have p1:=abh.1 h1;have p2:=abh.1 h2;have e:a=b:=by
   have ha:=(h a).1 (by simp);have hb:=(h b).2 (by simp);rcases a1Y.1 ha with e|ha
   .exact e
   rcases a1Y.1 hb with e|hb
   .exact e.symm
   have:=p1.1 b hb;have:=p2.1 a ha;omega
  subst e;rw[Tt p1.2 p2.2 fun x=>?_];constructor
  .intro hx;rcases a1Y.1 ((h x).1 (by simp[hx]))with e|m
   .subst e;have:=p1.1 x hx;omega
   exact m
  intro hx;rcases a1Y.1 ((h x).2 (by simp[hx]))with e|m
  .subst e;have:=p2.1 x hx;omega
  exact m
theorem PS(n x:Int):∀l:List Int,x∈yF n l↔x=n∨x∈l
 | []=>by simp[yF]
 |y::t=>by
  unfold yF;split
  .simp
  split
  .rename_i e;subst e;simp
  rw[a1Y,PS n x t,a1Y];constructor
  .rintro (h|h|h)
   .exact .inr (.inl h)
   .exact .inl h
   exact .inr (.inr h)
  rintro (h|h|h)
  .exact .inr (.inl h)
  .exact .inl h
  exact .inr (.inr h)
theorem Kz(n:Int):∀{l:List Int},l.Pairwise (·<·)->(yF n l).Pairwise (·<·)
 | [],_=>by simp[yF]
 |y::t,h=>by
  have p:=abh.1 h;unfold yF;split
  .rename_i c;exact abh.2 ⟨fun z hz=>by
    rcases a1Y.1 hz with e|m
    .omega
    have:=p.1 z m;omega,h⟩
  split
  .exact h
  rename_i c c2;exact abh.2 ⟨fun z hz=>by
   rcases(PS n z t).1 hz with e|m
   .omega
   exact p.1 z m,Kz n p.2⟩
theorem agh{l:List V}(hl:l.length<=4000):(uU l).1=(l.count iG:Int)∧(uU l).2.1=l.any (fun v=>decide (v.f>0))∧(uU l).2.2.Pairwise (·<·)∧∀x,x∈(uU l).2.2↔∃v∈l,¬v.f>0∧v.n=x:=by
 have:=dO (g:=gAk l) (m:=l.length) (k:=0) (s:=(0,false,[])) (fun k r=>r.1=((l.take k).count iG:Int)∧r.2.1=(l.take k).any (fun v=>decide (v.f>0))∧r.2.2.Pairwise (·<·)∧∀x,x∈r.2.2↔∃v∈l.take k,¬v.f>0∧v.n=x) ⟨by simp,by simp,List.Pairwise.nil,by simp⟩ (fun j r _ hj h=>by
  obtain⟨m,f,s⟩:=r;obtain⟨h1,h2,h3,h4⟩:=h;have h1:m=((l.take j).count iG:Int):=h1;have h2:f=(l.take j).any (fun v=>decide (v.f>0)):=h2;have h3:s.Pairwise (·<·):=h3;have h4:∀x,x∈s↔∃v∈l.take j,¬v.f>0∧v.n=x:=h4;have hj:j<l.length:=by omega
  have e:l.getD j V0=l[j]:=by rw[a2X,a0a hj,a4H]
  have hc:(l.take j).count iG<=j:=a4A List.count_le_length (by rw[a3R];omega);rw[a7I hj];unfold gAk;rw[e];refine⟨?_,?_,?_,?_⟩
  .show(if decide (l[j]=iG)=true then i64.wrap (m+1)else m)=_;rw[List.count_append,List.count_singleton];by_cases c:l[j]=iG
   .rw[a0h (by simpa using c),wrap_small (by omega) (by omega),h1,a0h (by simpa using c)];omega
   rw[a0g (by simpa using c),h1,a0g (by simpa using c)];omega
  .show(if decide (l[j].f>0)=true then true else f)=_;rw[List.any_append,<-h2];by_cases c:l[j].f>0
   .rw[a0h (by simpa using c)];simp[c]
   rw[a0g (by simpa using c)];simp[c]
  .show(if decide (l[j].f>0)=true then s else yF l[j].n s).Pairwise (·<·);by_cases c:l[j].f>0
   .rw[a0h (by simpa using c)];exact h3
   rw[a0g (by simpa using c)];exact Kz _ h3
  intro x;show x∈(if decide (l[j].f>0)=true then s else yF l[j].n s)↔_;by_cases c:l[j].f>0
  .rw[a0h (by simpa using c)];rw[h4 x];constructor
   .rintro⟨v,hv,q⟩;exact⟨v,a5d _ hv,q⟩
   rintro⟨v,hv,q⟩;rcases a3K.1 hv with hv|hv
   .exact⟨v,hv,q⟩
   rw[a2I.1 hv]at q;exact absurd c q.1
  rw[a0g (by simpa using c)];rw[PS,h4 x];constructor
  .rintro (h|⟨v,hv,q⟩)
   .exact⟨l[j],abg _ (by simp),c,h.symm⟩
   exact⟨v,a5d _ hv,q⟩
  rintro⟨v,hv,q⟩;rcases a3K.1 hv with hv|hv
  .exact .inr ⟨v,hv,q⟩
  rw[a2I.1 hv]at q;exact .inl q.2.symm)
 rw[a3U,abu]at this;exact this
theorem ZV(x y:List V):Ia x y=((List.range x.length).filter fun k=>decide (y.getD k V0=iG)).map fun k=>x.getD k V0:=by
 have:=dO (g:=gCx x y) (m:=x.length) (k:=0) (s:=[]) (fun k a=>a=((List.range k).filter fun k=>decide (y.getD k V0=iG)).map fun k=>x.getD k V0) rfl (fun j a _ _ e=>by
  rw[abI,List.filter_append,a3Y,<-e];unfold gCx;by_cases c:decide (y.getD j V0=iG)=true
  .rw[a0h c,(agN (l:=[j])).2 fun k hk=>by rw[a2I.1 hk];exact c];rfl
  rw[a0g c,(List.filter_eq_nil_iff (l:=[j])).2 fun k hk=>by rw[a2I.1 hk];exact c];simp)
 rw[a3U]at this;exact this
open Go Tw Pv bW
theorem a3M{a b:Dg}(hJ:jP (eu [a,b]))(es:a.aA=b.aA):fD (eu [a,b])=Ia (cellsD a) (cellsD b):=by
 have hp:Qr (eu [a,b])=(List.range (EM a.aA)).map fun(k:Nat)=>mM a.aA k:=by
  unfold Qr;refine agN.2 fun q hq=>?_;have hp:=(V3 hJ).1 hq;rw[a1X];exact ab9 (s:=a.aA) hp
 have gx:∀k,k<EM a.aA->(cellsD a).getD k V0=En a (mM a.aA (k:Int)):=fun k hk=>by
  unfold cellsD;rw[a2X,a4h,afw hk];rfl
 have gy:∀k,k<EM a.aA->(cellsD b).getD k V0=En b (mM a.aA (k:Int)):=fun k hk=>by
  unfold cellsD;rw[a2X,a4h,afw (by rw[<-es];exact hk),<-es];rfl
 rw[ZV,wQ];unfold fD Ve;rw[hp,a7U,List.filter_map,a7U];have e:(List.range (EM a.aA)).filter ((fun l:List V=>mJ (l.drop 1))∘((fun q=>(eu [a,b]).D.map fun d=>En d q)∘fun(k:Nat)=>mM a.aA (k:Int)))=(List.range (EM a.aA)).filter fun k=>decide ((cellsD b).getD k V0=iG):=by
  refine List.filter_congr fun k hk=>?_;rw[gy k (a4f.1 hk)];show mJ [En b (mM a.aA (k:Int))]=_;simp[mJ]
 rw[e];refine a6m fun k hk=>?_;rw[gx k (a4f.1 (a6t.1 hk).1)];rfl
section
variable {J:Jb} (hJ:jP J) (hc:∀ v∈fD J,Hy v)
theorem zI{J:Jb}(v:V):(∃e∈bK J,e.1=v)↔v∈fD J:=by
 have hn:=pV J;have hs:=Yd hn v;rw[PL]at hs;constructor
 .rintro⟨e,he,rfl⟩;have h1:=AB hn he;have h2:=(AL (fD J)).2 e ((ny Vf (yC (fD J))).mem_iff.1 he);exact List.count_pos_iff.1 (by omega)
 intro hv;have h1:=List.count_pos_iff.2 hv;by_cases h:v∈(bK J).map (·.1)
 .obtain⟨e,he,h2⟩:=a1f.1 h;exact⟨e,he,h2⟩
 rw[Hz h]at hs;omega
theorem als{J:Jb}:rH (bK J)=(fD J).any fun v=>decide (v.f>0):=by
 unfold rH;rw[a4u,ad8,ad8];constructor
 .rintro⟨e,he,h⟩;exact⟨e.1,(zI e.1).1 ⟨e,he,rfl⟩,h⟩
 rintro⟨v,hv,h⟩;obtain⟨e,he,rfl⟩:=(zI v).2 hv;exact⟨e,he,h⟩
include hc
theorem alu:(jZ (bK J)).Pairwise (·<·)∧∀x,x∈jZ (bK J)↔∃v∈fD J,¬v.f>0∧v.n=x:=by
 have hn:=pV J;unfold jZ fU;refine⟨?_,fun x=>?_⟩
 .have je:((((bK J).filter fun e=>!decide (e.1.f>0)).map fun e=>e.1.n)).Nodup:=by
   rw[List.Nodup,acK];have h1:(bK J).Pairwise fun a b=>a.1≠b.1:=acK.1 hn;refine List.Pairwise.imp_of_mem (fun{a b} ha hb h e=>h ?_) (h1.filter _);obtain⟨a1,a2⟩:=a6t.1 ha;obtain⟨b1,b2⟩:=a6t.1 hb;have fa:=(hc a.1 ((zI a.1).1 ⟨a,a1,rfl⟩)).2;have fb:=(hc b.1 ((zI b.1).1 ⟨b,b1,rfl⟩)).2;have a2:¬a.1.f>0:=(by simpa using a2);have b2:¬b.1.f>0:=(by simpa using b2);have ef:a.1.f=b.1.f:=(by omega);obtain⟨⟨f1,n1⟩,_⟩:=a;obtain⟨⟨f2,n2⟩,_⟩:=b;have e:n1=n2:=e;have ef:f1=f2:=ef;rw[e,ef]
  have hsr:((((bK J).filter fun e=>!decide (e.1.f>0)).map fun e=>e.1.n).mergeSort fun x y=>decide (x<=y)).Pairwise (fun x y=>decide (x<=y)=true):=agw (fun a b c h1 h2=>by simp at h1 h2 ⊢;omega) (fun a b=>by simp;omega) _;have Dv:=((adh (((bK J).filter fun e=>!decide (e.1.f>0)).map fun e=>e.1.n) fun x y=>decide (x<=y)).nodup_iff).2 je;refine List.Pairwise.imp₂ (fun a b h1 h2=>?_) hsr Dv;simp at h1;have h2:a≠b:=h2;omega
 rw[List.mem_mergeSort,a1f];constructor
 .rintro⟨e,he,rfl⟩;obtain⟨h1,h2⟩:=a6t.1 he;exact⟨e.1,(zI e.1).1 ⟨e,h1,rfl⟩,by simpa using h2,rfl⟩
 rintro⟨v,hv,h1,rfl⟩;obtain⟨e,he,rfl⟩:=(zI v).2 hv;exact⟨e,a6t.2 ⟨he,by simpa using h1⟩,rfl⟩
theorem agi{q:Int}(h1:1<=q)(h2:q<=5)(hl:(fD J).length<=4000):yE q (bK J)=(FN (q,fD J),0):=by
 obtain⟨r1,r2,r3,r4⟩:=agh hl;obtain⟨n1,n2⟩:=alu hc;have es:jZ (bK J)=(uU (fD J)).2.2:=Tt n1 r3 fun x=>by rw[n2,r4]
 have ef:rH (bK J)=(uU (fD J)).2.1:=by rw[als,r2]
 have el:look (bK J) iG=(uU (fD J)).1:=by rw[PL,r1]
 have et:dD (fun _=>1) (bK J)=((fD J).length:Int):=by rw[Dx,PD]
 unfold yE;by_cases e0:bK J=[]
 .rw[a0h e0];have:fD J=[]:=by
   rw[e0]at et;have et:(0:Int)=((fD J).length:Int):=et;exact a6Y.1 (by omega)
  rw[this];rfl
 rw[a0g e0];have iy:((fD J).length:Int)≠0:=fun h=>by
  have:fD J=[]:=a6Y.1 (by omega);refine e0 ?_;unfold bK;rw[this];rfl
 unfold a1N FN PO;rw[es,ef,el,et,a0g (show ¬(((q,fD J).2.length:Int)==0)=true by simpa using iy)];have hq:q=1∨q=2∨q=3∨q=4∨q=5:=by omega
 rcases hq with rfl|rfl|rfl|rfl|rfl
 .rfl
 .rfl
 .rfl
 .show(if(uU (fD J)).2.2=[]then _ else _)=((if decide (((uU (fD J)).2.2.length:Int)>0)=true then _ else _:An),(0:Int));by_cases c:(uU (fD J)).2.2=[]
  .rw[a0h c,c];rfl
  have:0<(uU (fD J)).2.2.length:=a9D.2 c;rw[a0g c,a0h (by simpa using this)]
 rfl
end
open Go Tw Pv bW
theorem FP(a:An):Ef a a=true:=by unfold Ef;simp
theorem abb(x y:List V):(Ia x y).length<=x.length:=by
 rw[ZV,a4e];exact a4A (a8H _ _) (by rw[a8C];exact a15 _)
theorem a8o(q:Int)(l:List V):(FN (q,l)).set.length<=l.length:=by
 have:=a1Q l;unfold FN PO
 repeat' split
 all_goals first|exact a4v _|exact this
def oc5:eY aF:=bZ 5 (a3 uA dA dA) tA (fun _=>true) (fun p=>[Ih p.2.1∧Ih p.2.2,0<=p.1∧p.1<=255]) alr
theorem gc5:Gd oc5:=aqB.add fun n hO p hp=>by
 obtain⟨q,a,b⟩:=p;obtain⟨ra,rb⟩:Ih a∧Ih b:=hp _ (.head _);obtain⟨q0,q9⟩:0<=q∧q<=255:=hp _ (.tail _ (.head _));cases ta:(!(Dy a))
 .cases tb:(!(Dy b))
  .have ha:Dy a=true:=(by simpa using ta);have hb:Dy b=true:=(by simpa using tb);have fa:=(PK ha).1;have fb:=(PK hb).1;have pa:=a8l ha ra;have pb:=a8l hb rb;have hm:=Ya (P:=Tn) fa fb;have h2:=ab8 a b;have ec:pW [a,b]=bT [a,b]:=ab7 (Ya pa pb) (by simp);have ew:i64.wrap q=q:=wrap_small (by omega) (by omega);have qs:uz (q,a,b)=if(pW [a,b] != 0)=true then(Tj,pW [a,b])else if decide (q<1)=true then(Tj,2)else if decide (q>5)=true then(Tj,2)else yE q (bK (eu [a,b])):=by
    rw[ec];rfl
   cases e1:(pW [a,b]==0)
   .have e2:(pW [a,b] != 0)=true:=by show(!(pW [a,b]==0))=true;rw[e1];rfl
    have qv:uz (q,a,b)=(Tj,pW [a,b]):=(by rw[qs,a0h e2]);have t1:((uz (q,a,b)).2==pW [a,b])=true:=by rw[qv];exact beq_self_eq_true _
    have t2:(uz (q,a,b)).1.set.length<=ah:=by rw[qv];exact a4v _
    have t3:Ef (uz (q,a,b)).1 Tj=true:=by rw[qv];exact FP _
    exact aN hO (.b ta (.b tb (.o fa (.o fb (.o pa (.o pb (.o hm (.o h2 (.b e1 (.b e2 (.b t1 (.o t2 (.b t3 .rr)))))))))))))
   .have h0:pW [a,b]=0:=(by simpa using e1);have e2:(pW [a,b] != 0)=false:=by rw[h0];rfl
    rw[a0g (by rw[e2];simp)]at qs;have hz:=a3L h0;cases e3:(!(kY (i64.wrap q) 1 5))
    .have hq:1<=q∧q<=5:=by
      have:=qZ.1 (show kY (i64.wrap q) 1 5=true by simpa using e3);rw[ew]at this;exact this
     rw[a0g (by simp;omega),a0g (by simp;omega)]at qs;have hk:bT [a,b]=0:=by rw[<-ec];exact h0
     have hJ:jP (eu [a,b]):=yD (D:=[a,b]) (by simp) (by simp) (Ya pa pb) hk;have hg:=Vj (Ya (P:=rG) pa pb) hk;obtain⟨ga,_,_⟩:=hg a (by simp);obtain⟨gb,es,_⟩:=hg b (by simp);have es:a.aA=b.aA:=es.symm;have la:=Vo fa.o fa.e (by rw[hz a (by simp)];rfl);have lb:=Vo fb.o fb.e (by rw[hz b (by simp)];rfl);have eh:=a3M hJ es;have hc:∀v∈fD (eu [a,b]),Hy v:=fun v hv=>by
      rw[eh,ZV]at hv;obtain⟨k,_,rfl⟩:=a1f.1 hv;exact a1O (a8k ga.c) k
     have hcn:EM a.aA<=2000:=by have:=la.f.a9J;have:=la.f.many;omega
     have hl:(Ia (cellsD a) (cellsD b)).length<=2000:=a4A (abb _ _) (by rw[wQ];exact hcn);have qv:uz (q,a,b)=(FN (q,Ia (cellsD a) (cellsD b)),0):=by
      rw[qs,agi hc hq.1 hq.2 (by rw[eh];omega),eh]
     have t1:((uz (q,a,b)).2==0)=true:=by rw[qv];rfl
     have t2:(uz (q,a,b)).1.set.length<=ah:=by rw[qv];exact a4A (a8o _ _) (by unfold ah;omega)
     have t3:Ef (uz (q,a,b)).1 (FN (q,Ia (cellsD a) (cellsD b)))=true:=by rw[qv];exact FP _
     have l1:(cellsD a).length<=5000:=by rw[wQ];omega
     have l2:(cellsD b).length=(cellsD a).length:=(by rw[wQ,wQ,es]);have l3:(Ia (cellsD a) (cellsD b)).length<=4000:=(by omega);exact aN hO (.b ta (.b tb (.o fa (.o fb (.o pa (.o pb (.o hm (.o h2 (.b e1 (.b e3 (.b e2 (.b t1 (.o la (.o lb (.o l1 (.o l2 (.o l3 (.o hq (.o t2 (.b t3 .rr))))))))))))))))))))
    .have hq:¬(1<=q∧q<=5):=by
      have:=agb.1 e3;rw[ew]at this;exact this
     have qv:uz (q,a,b)=(Tj,2):=by
      rw[qs];by_cases c:q<1
      .rw[a0h (by simpa using c)]
      .rw[a0g (by simpa using c),a0h (by simp;omega)]
     have t1:((uz (q,a,b)).2==2)=true:=by rw[qv];rfl
     have t2:(uz (q,a,b)).1.set.length<=ah:=by rw[qv];exact a4v _
     have t3:Ef (uz (q,a,b)).1 Tj=true:=by rw[qv];exact FP _
     exact aN hO (.b ta (.b tb (.o fa (.o fb (.o pa (.o pb (.o hm (.o h2 (.b e1 (.b e3 (.b (rfl:((2:Int) != 0)=true) (.b t1 (.o t2 (.b t3 .rr))))))))))))))
  .exact aN hO (.b ta (.b tb .rr))
 .exact aN hO (.b ta .rr)
end Go.Proofs.YtmobpoiejckagaaGreat
namespace Tw
open Go Go.ChangeShapes Go.WideShapes Go.RowKit
theorem Ju{H:Type}{enc:TypeId×Value->H}{P:Program}{w:World}{t:TypeId}{ts:List TypeId}{vs:List Value}{ds:List (DataW H)}{ps:List MemPlace}(h:DataW.TrodAll enc P w 0 (fun _=>true) true (t::ts) vs ds ps):∃d e,ds=d::e∧Rd enc P w t d∧∃vs ps,DataW.TrodAll enc P w 0 (fun _=>true) true ts vs e ps:=by
 obtain⟨v,vs',d,ds',p,q,rfl,rfl,rfl,⟨fuel,hd⟩,Nh⟩:=trodAll_cons h;exact⟨d,ds',rfl,⟨_,fuel,p,hd⟩,_,_,Nh⟩
section
variable {H:Type} {P:Program} {g:Nat} {t:TypeId} {ts:List TypeId} {d:DataW H} {ds:List (DataW H)} {h h1 h2:List HB} {xs:List TV}
theorem a8p{cs:List TV}(ha:uF P t=some true)(he:Cj P g t d h=some (cs,h1))(hr:KI P g ts ds h1=some (xs,h2)):KI P g (t::ts) (d::ds) h=some (.agg cs::xs,h2):=by
 simp only[KI,he,ha,hr]
theorem agj{x:TV}(ha:uF P t=some false)(he:Cj P g t d h=some ([x],h1))(hr:KI P g ts ds h1=some (xs,h2)):KI P g (t::ts) (d::ds) h=some (x::xs,h2):=by
 simp only[KI,he,ha,hr]
theorem agk:KI (H:=H) P g [] [] h=some ([],h):=rfl
end
end Tw
namespace Pv
open Go Tw
section
variable {X:kE} {P:Program} {H:Type} {mP:TypeId×Value->H} {w:World}
abbrev AT:Nat->Prop:=fun _=>True
def RdP(mP:TypeId×Value->H)(X:kE)(P:Program)(w:World)(g t:Nat){α:Type}(ps:α->List (PV X.Γ))(Q:α->Prop):Prop:=
 ∀d,Rd mP P w t d->∃a,Q a∧∀h,∃xs ext,Cj P g t d h=some (xs,h++ext)∧∀e,bV X P AT [] (h++ext++e) (ps a) xs
theorem a1R{t g:Nat}{k:IntKind}(ht:P.underlying t=some (.int k)):RdP mP X P w (g+1) t (fun n:Int=>[.int k n]) (fun n=>(Lit.int k n).wf=true):=fun d hd=>by
 obtain⟨n,rfl,hn⟩:=aeF ht hd;exact⟨n,hn,fun h=>⟨[.int k n],[],by simp[Cj,ht],fun e=>.cons (.int _ _) .nil⟩⟩
theorem Tv{e g sz:Nat}{Q:X.Γ e->Prop}(hlen:∀a,(X.enc e a).length=sz)(hr:RdP mP X P w g e (X.enc e) Q):∀(ds:List (DataW H)),(∀y∈ds,Rd mP P w e y) ->
  ∃l:List (X.Γ e),l.length=ds.length∧(∀a∈l,Q a)∧∀h,∃cs ext,Wp (Cj P g e) sz ds h=some (cs,h++ext)∧cs.length=l.length*sz∧∀e2 (j:Nat) a (i:Nat) c v,l[j]? = some a->(X.enc e a)[i]? = some c->cs[j*sz+i]? = some v->VR X P AT [] (h++ext++e2) c v
 | [],_=>⟨[],rfl,by simp,fun h=>⟨[],[],by simp[Wp],by simp,fun e2 j a i c v h1=>by simp at h1⟩⟩
 |d::ds,hd=>by
  obtain⟨a,qa,ha⟩:=hr d (hd d (a3N ..));obtain⟨l,l1,l2,l3⟩:=Tv hlen hr ds fun y hy=>hd y (a3O _ hy);refine⟨a::l,by simp[l1],fun b hb=>(a1Y.1 hb).elim (fun e=>e▸qa) (l2 b),fun h=>?_⟩;obtain⟨xs,e1,h1,v1⟩:=ha h;obtain⟨cs,e2,h2,c2,v2⟩:=l3 (h++e1);have hx:xs.length=sz:=by rw[<-(v1 []).1];exact hlen a
  refine⟨xs++cs,e1++e2,?_,by simp only[a2a,a3V,hx,c2,a3Q];omega,fun e3 j b i c v hj hi hv=>?_⟩
  .simp only[Wp,h1,hx,a2d,h2,a5F]
  .cases j with
   |zero=>
    simp only[a2J,a00]at hj;subst hj;have JE:i<sz:=by rw[<-hlen a];exact(a04.1 hi).1
    rw[ad3,a3U,a0e (by omega)]at hv;have:=(v1 (e2++e3)).2 i c v hi hv;simp only[a5F]at this ⊢;exact this
   |succ j=>
    rw[a9o]at hj;rw[a1c (by rw[hx,a3Q];omega),hx,show(j+1)*sz+i-sz=j*sz+i by rw[a3Q];omega]at hv;have:=v2 e3 j b i c v hj hi hv;simp only[a5F]at this ⊢;exact this
theorem PU{t e g sz:Nat}{Q:X.Γ e->Prop}(ht:P.underlying t=some (.slice e))(uN:P.cellsOf e=sz)(hz:dB P e=some sz)(h0:0<sz)(hlen:∀a,(X.enc e a).length=sz)(hr:RdP mP X P w g e (X.enc e) Q):RdP mP X P w (g+1) t (fun l:List (X.Γ e)=>[.dw e l false]) (fun l=>∀a∈l,Q a):=fun d hd=>by
 rcases a6h ht hd with rfl|⟨xs,ys,rfl,hy⟩
 .exact⟨[],by simp,fun h=>⟨[.nil .slc],[],by simp[Cj,ht],fun e=>.cons .nZ .nil⟩⟩
 .obtain⟨l,l1,l2,l3⟩:=Tv hlen hr (xs++ys) hy;have hl:xs.length<=l.length:=by rw[l1,a2a];omega
  refine⟨l.take xs.length,fun a ha=>l2 a (a9f ha),fun h=>?_⟩;obtain⟨cs,e1,h1,c1,v1⟩:=l3 h;refine⟨[.slc (h++e1).length 0 xs.length (xs.length+ys.length) sz true],e1++[.cells .ro cs],?_,fun e2=>.cons ?_ .nil⟩
  .have iy:¬sz=0:=(by omega);simp only[Cj,ht,uN,h1,iy,a2Y,a5F]
  .have hln:(l.take xs.length).length=xs.length:=(by rw[a3R,a8s hl]);have hb:(h++(e1++[HB.cells .ro cs])++e2)[(h++e1).length]? = some (.cells .ro cs):=by
    rw[show h++(e1++[HB.cells .ro cs])++e2=(h++e1)++(HB.cells .ro cs::e2) by simp,a1c (a15 _),agD];rfl
   have vT:(l.take xs.length).length<=xs.length+ys.length:=(by omega);have rO:∀(j:Nat) a,(l.take xs.length)[j]? = some a->l[j]? = some a:=fun j a hj=>by
    rw[a4d]at hj;split at hj
    .exact hj
    .cases hj
   have hle:(l.take xs.length).length*sz<=cs.length:=by rw[c1,hln];exact a3P sz hl
   generalize xs.length+ys.length=cp at vT ⊢;generalize l.take xs.length=l' at vT rO hle hln ⊢;rw[<-hln];exact VR.dw (X:=X) (P:=P) (A:=AT) (m:=[]) (t:=e) (l:=l') (fu:=false) (b:=(h++e1).length) (off:=0) (cap:=cp) (sz:=sz) (ex:=true) (cs:=cs) trivial (by unfold aV;rw[hb]) (fun _=>by unfold lF;rw[hb];simp) hz h0 (by omega) vT (by simp) (fun j a _=>hlen a) (fun j a i c v hj hi hv=>by
    rw[a3U]at hv;have:=v1 ([HB.cells .ro cs]++e2) j a i c v (rO j a hj) hi hv;simp only[a5F]at this ⊢;exact this)
def RdF(mP:TypeId×Value->H)(X:kE)(P:Program)(w:World)(g o:Nat)(fs:List Field){α:Type}(ps:α->List (PV X.Γ))(Q:α->Prop):Prop:=
 ∀ds:List (DataW H),ds.length=fs.length->(∀(i:Nat) f d,fs[i]? = some f->ds[i]? = some d->Rd mP P w f.type d)->∃a,Q a∧∀h,∃xs ext,NR P (Cj P g) o fs ds h=some (xs,h++ext)∧∀e,bV X P AT [] (h++ext++e) (ps a) xs
theorem Vq{g o:Nat}:RdF mP X P w g o [] (fun _:Unit=>[]) (fun _=>True):=fun ds hl _=>by
 have:=a3W hl;subst this;exact⟨(),trivial,fun h=>⟨[],[],by simp[NR],fun e=>.nil⟩⟩
theorem rM{g o n:Nat}{f:Field}{fs:List Field}{α β:Type}{p1:α->List (PV X.Γ)}{p2:β->List (PV X.Γ)}{Q1:α->Prop}{Q2:β->Prop}(ho:f.offset=o)(hc:P.cellsOf f.type=n)(hn:∀a,(p1 a).length=n)(h1:RdP mP X P w g f.type p1 Q1)(h2:RdF mP X P w g (o+n) fs p2 Q2):RdF mP X P w g o (f::fs) (fun x:α×β=>p1 x.1++p2 x.2) (fun x=>Q1 x.1∧Q2 x.2):=fun ds hl hd=>by
 cases ds with
 |nil=>cases hl
 |cons d ds=>
  obtain⟨a,qa,ha⟩:=h1 d (hd 0 f d rfl rfl);obtain⟨b,qb,hb⟩:=h2 ds (by simpa using hl) fun i f' d' e1 e2=>hd (i+1) f' d' e1 e2;refine⟨(a,b),⟨qa,qb⟩,fun h=>?_⟩;obtain⟨xs,e1,g1,v1⟩:=ha h;obtain⟨ys,e2,g2,v2⟩:=hb (h++e1);have hx:xs.length=n:=by rw[<-(v1 []).1];exact hn a
  refine⟨xs++ys,e1++e2,?_,fun e=>?_⟩
  .simp only[NR,g1,ho,hx,hc,adf,a2d,g2,a5F]
  .have w1:=v1 (e2++e);have w2:=v2 e;simp only[a5F]at w1 w2 ⊢;exact w1.app w2
theorem FQ{t g n:Nat}{fs:Array Field}{α:Type}{ps:α->List (PV X.Γ)}{Q:α->Prop}(ht:P.underlying t=some (.struct fs))(hc:P.cellsOf t=n)(hn:∀a,(ps a).length=n)(hf:RdF mP X P w g 0 fs.toList ps Q):RdP mP X P w (g+1) t ps Q:=fun d hd=>by
 obtain⟨ds,rfl,hl,JF⟩:=a2R ht hd;obtain⟨a,qa,ha⟩:=hf ds (by simpa using hl) fun i f d e1 e2=>JF i f d (by simpa using e1) e2;refine⟨a,qa,fun h=>?_⟩;obtain⟨xs,e1,g1,v1⟩:=ha h;have hx:xs.length=n:=by rw[<-(v1 []).1];exact hn a
 refine⟨xs,e1,?_,v1⟩;rw[Xf ht,g1];simp[hx,hc]
theorem RdP.iso{t g:Nat}{α β:Type}{ps:α->List (PV X.Γ)}{Q:α->Prop}(h:RdP mP X P w g t ps Q)(f:α->β){p2:β->List (PV X.Γ)}{Q2:β->Prop}(hp:∀a,p2 (f a)=ps a)(hq:∀a,Q a->Q2 (f a)):RdP mP X P w g t p2 Q2:=fun d hd=>by
 obtain⟨a,qa,ha⟩:=h d hd;exact⟨f a,hq a qa,fun h=>by rw[hp];exact ha h⟩
theorem agl{T:qp}{L n f:Nat}{vs:List (PV X.Γ)}{xs:List TV}{h:List HB}(hc:mY X P (kM P T L (n+1)) f vs (PV.bool true) [])(hv:bV X P AT [] h vs xs):∃h',kM P T L (n+1) (TV.fn f [] []) xs h=some (TV.bool true,h',[]):=by
 obtain⟨x,h',m',c1,_,c3,_⟩:=hc AT h [] xs [] (fun _ _=>trivial) (by simpa using hv);have:x=TV.bool true:=by
  cases c3 with
  |bool=>rfl
  |gone hi _ _=>simp[bg]at hi
 subst this;exact⟨h',c1⟩
end
end Pv
namespace Go.Proofs.YtmobpoiejckagaaGreat
open Go Tw Pv
section
variable {H:Type} {mP:TypeId×Value->H} {w:World}
abbrev RdX(mP:TypeId×Value->H)(w:World)(g t:Nat){α:Type}(ps:α->List (PV aF))(Q:α->Prop):Prop:=RdP mP X0 Tryz.prog w g t ps Q
theorem a1S:Tryz.prog.cellsOf 3=1:=by kernel_rfl
theorem aqD:Tryz.prog.cellsOf 5=1:=by kernel_rfl
theorem adl:Tryz.prog.cellsOf 39=2:=by kernel_rfl
theorem zI0:dB Tryz.prog 3=some 1:=by kernel_rfl
theorem abd{g:Nat}:RdX mP w (g+1) 3 (fun n:Int=>[.int .i64 n]) (fun n=>(Lit.int .i64 n).wf=true):=a1R Tryz.underlying3
theorem rU8{g:Nat}:RdX mP w (g+1) 5 (fun n:Int=>[.int .u8 n]) (fun n=>0<=n∧n<=255):=(a1R Tryz.underlying5).iso id (fun _=>rfl) fun n h=>by
 simp only[Lit.wf,a2m,a1X]at h;exact h
theorem a8q{g:Nat}:RdX mP w (g+2) 22 (fun l:List Int=>[lI l]) (fun l=>∀a∈l,(Lit.int .i64 a).wf=true):=PU (e:=3) Tryz.underlying22 a1S zI0 (by decide) (fun _=>rfl) abd
theorem aqE{g:Nat}:RdX mP w (g+2) 39 V.ps (fun v=>0<=v.f∧v.f<=255):=
 (FQ Tryz.underlying39 adl (fun _=>rfl) (rM rfl aqD (fun _=>rfl) rU8 (rM rfl a1S (fun _=>rfl) abd Vq))).iso (fun x=>⟨x.1,x.2.1⟩) (fun _=>rfl) fun _ h=>h.1
theorem alv:dB Tryz.prog 39=some 2:=by kernel_rfl
theorem alx{g:Nat}:RdX mP w (g+3) 23 (fun l:List V=>[lV l]) (fun l=>∀v∈l,0<=v.f∧v.f<=255):=PU (e:=39) Tryz.underlying23 adl alv (by decide) (fun _=>rfl) aqE
theorem agm:Tryz.prog.cellsOf 22=1:=by kernel_rfl
end
open Go Tw Pv bW
section
variable {H:Type} {mP:TypeId×Value->H} {w:World}
theorem aly:Tryz.prog.cellsOf 105=2:=by kernel_rfl
theorem aqF:dB Tryz.prog 105=some 2:=by kernel_rfl
theorem alz:Tryz.prog.cellsOf 24=1:=by kernel_rfl
theorem aqG:Tryz.prog.cellsOf 23=1:=by kernel_rfl
theorem aqH:Tryz.prog.cellsOf 26=5:=by kernel_rfl
theorem rBr{g:Nat}:RdX mP w (g+3) 105 Br.ps (fun b=>∀a∈b.ay,(Lit.int .i64 a).wf=true):=
 (FQ Tryz.underlying105 aly (fun _=>rfl) (rM rfl a1S (fun _=>rfl) abd (rM rfl agm (fun _=>rfl) a8q Vq))).iso (fun x=>⟨x.1,x.2.1⟩) (fun _=>rfl) fun _ h=>h.2.1
theorem aqI{g:Nat}:RdX mP w (g+4) 24 (fun l:List Br=>[lBr l]) (fun l=>∀b∈l,∀a∈b.ay,(Lit.int .i64 a).wf=true):=PU (e:=105) Tryz.underlying24 aly aqF (by decide) (fun _=>rfl) rBr
theorem a8r{a:Int}(h:(Lit.int .i64 a).wf=true):KP a:=by
 simp only[Lit.wf,a2m,a1X]at h;obtain⟨h1,h2⟩:=h;have e1:i64.min=-(2^63):=by decide
 have e2:i64.max=2^63-1:=by decide
 exact⟨by omega,by omega⟩
theorem rDg{g:Nat}:RdX mP w (g+5) 26 Dg.ps Ih:=
 (FQ Tryz.underlying26 aqH (fun _=>rfl) (rM rfl agm (fun _=>rfl) a8q (rM rfl agm (fun _=>rfl) a8q (rM rfl aqG (fun _=>rfl) alx (rM rfl alz (fun _=>rfl) aqI (rM rfl a1S (fun _=>rfl) abd Vq)))))).iso (fun x=>⟨x.1,x.2.1,x.2.2.1,x.2.2.2.1,x.2.2.2.2.1⟩) (fun _=>rfl) fun x h=>by
  obtain⟨_,_,h3,h4,h5,_⟩:=h;refine⟨fun i hi k hk=>?_,a8r h5,fun v hv=>(h3 v hv).1⟩;have hb:fC ⟨x.1,x.2.1,x.2.2.1,x.2.2.2.1,x.2.2.2.2.1⟩ i∈x.2.2.2.1:=by
   show(x.2.2.2.1).getD i mQ∈_;rw[List.getD,a0a hi];exact a4w _
  refine a8r (h4 _ hb _ ?_);rw[List.getD,a0a hk];exact a4w _
end
open Go.ChangeShapes Go.WideShapes Go.ChangeAt Go.RowKit
theorem Tryz.own:ownKnob Tryz.prog.godebug=none:=by kernel_rfl
theorem Tryz.laidOut:laidOutB Tryz.prog=true:=by kernel_rfl
theorem Tryz.mixed:Tryz.prog.follows .mixedOrders=true:=by kernel_rfl
theorem agn:iC Tryz.prog T.ext:=by
 show iC Tryz.prog aeE;intro fv args h v h' ws hc;unfold aeE at hc;split at hc
 .split at hc
  .exact a9K (YT (T:=Tm) Tryz.mixed (fun _ _ _ _ _ _ h=>by cases h) 2) _ _ _ _ _ _ hc
  exact Xc abM _ _ _ _ _ _ hc
 exact Xc abM _ _ _ _ _ _ hc
theorem Tryz.tys5:Tryz.f5.params.toList=[5,26,26]:=by kernel_rfl
set_option maxRecDepth 100000 in
theorem Jv(os:Os)(started:os.Started)(H:Type)(enc:TypeId×Value->H) :
  ReturnsInHanded {} Tryz.checked os 5 .any (Rows.applyAsksSpec.pre6 enc Tryz.prog Tryz.f5 Rows.applyAsksRow.domain false) (Rows.applyAsksSpec.post enc Tryz.prog Tryz.f5 false true false false):=by
 refine returnsInHanded_of_change (C:=Tryz.checked) Tryz.own started (by kernel_rfl) Tryz.func5
  (ChangeSpec.witness6 (enc:=enc) (C:=Tryz.checked) false ⟨#[],#[.int .u8 0,.agg #[.slice none 0 0,.slice none 0 0,.slice none 0 0,.slice none 0 0,.int .i64 0],.agg #[.slice none 0 0,.slice none 0 0,.slice none 0 0,.slice none 0 0,.int .i64 0]],[]⟩ 8 (by kernel_rfl) (by kernel_rfl) (by kernel_rfl) (by kernel_rfl)) ?_
 intro W base args ds gs before alA hW ave _;have adL:∀(j:Nat) t v,Tryz.f5.params[j]? = some t->args[j]? = some v->Value.okWide Tryz.prog W .any base t v:=alA;have hW':=hW;obtain⟨p,q,aqJ,hV,rfl,hfz,je⟩:=hW;have hTA:DataW.TrodAll enc Tryz.prog W 0 (fun _=>true) true Tryz.f5.params.toList args.toList ds p:=aqJ;obtain⟨rfl,rfl⟩:=trodVars_none hV;rw[Tryz.tys5]at hTA;obtain⟨d0,_,rfl,r0,_,_,hTA⟩:=Ju hTA;obtain⟨d1,_,rfl,r1,_,_,hTA⟩:=Ju hTA;obtain⟨d2,_,rfl,r2,_,_,hTA⟩:=Ju hTA;obtain⟨_,rfl,_⟩:=trodAll_nil hTA;obtain⟨a0,q0,h0⟩:=rU8 (g:=6) d0 r0;obtain⟨a1,q1,h1⟩:=rDg (g:=2) d1 r1;obtain⟨a2,q2,h2⟩:=rDg (g:=2) d2 r2;obtain⟨x0,e0,g0,v0⟩:=h0 ([]);obtain⟨x1,e1,g1,v1⟩:=h1 ([]++e0);obtain⟨x2,e2,g2,v2⟩:=h2 ([]++e0++e1);have w0:=v0 (e1++e2);simp only[a5F,abn,a6S]at w0;obtain⟨y0,_,rfl,u0,z0⟩:=w0.inv;cases z0.inv0;have w1:=v1 (e2);simp only[a5F,abn,a6S]at w1;have w2:=v2 ([]);simp only[a5F,abn,a6S]at w2;obtain⟨N,hN⟩:=gc5;have aqK:=hN (N+1) (by omega) 5 ((Pv.a3 uA dA dA).put (a0,a1,a2)) (tA.put true) [] [Ih a1∧Ih a2,0<=a0∧a0<=255] rfl (by
  intro p hp;simp only[a1Y,List.not_mem_nil,or_false]at hp;rcases hp with rfl|rfl
  .exact⟨q1,q2⟩
  .exact q0)
 obtain⟨h',hr⟩:=agl (h:=[]++e0++e1++e2) aqK (by simp only[a5F,abn,a6S];exact .cons u0 (.cons (.agg w1.1 w1.2) (.cons (.agg w2.1 w2.2) .nil)));exact YU (P:=Tryz.prog) (T:=T) (L:=LL) (n:=N) (g:=7) Tryz.mixed Tryz.laidOut rfl rfl (by kernel_rfl) Tryz.underlying4 (by kernel_rfl) hW' adL
  (by rw[Tryz.tys5];exact(agj (by kernel_rfl) g0 (a8p (by kernel_rfl) g1 (a8p (by kernel_rfl) g2 agk)))) agn (by kernel_rfl) (by kernel_rfl) hr
theorem Jw:joinedFacts Tryz.pinned.checked.prog 5 Tryz.f5 Rows.applyAsksSpec Rows.applyAsksRow=true:=by kernel_rfl
theorem ApplyAsks_holds:Rows.ApplyAsksSaid:=
 OpenClaim.holds_of_wide 5 Tryz.f5 rfl rfl rfl rfl rfl rfl rfl ⟨rfl,rfl,rfl,rfl,rfl⟩ rfl rfl rfl rfl rfl (by kernel_rfl) Tryz.func5 Jw
  (a8d (by kernel_rfl)) (by unfold Func.isWrapper;first|(rw[a0h (by decide +kernel)];kernel_rfl)|(rw[a0g (by decide +kernel)];exact⟨rfl,rfl⟩))
  (fun os started H enc _=>Jv os started H enc)
end Go.Proofs.YtmobpoiejckagaaGreat
