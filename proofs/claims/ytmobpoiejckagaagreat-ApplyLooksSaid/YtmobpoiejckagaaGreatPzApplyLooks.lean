/- ApplyLooks: the best look of any diagrams, where any condition is met, is the document's, or the error is (the Go function of this name returns true for every input). -/
import Derived.ProofKit
import Derived.Test.YtmobpoiejckagaaGreatRows
import Derived.Test.YtmobpoiejckagaaGreatP05
set_option linter.constructorNameAsVariable false
set_option linter.unusedVariables false
set_option linter.unusedSimpArgs false
set_option linter.unusedSectionVars false
open Go.IntKind (i64)
noncomputable section
namespace Go.Proofs.YtmobpoiejckagaaGreat
open Go Tw Pv bQ
abbrev ApM(n:Nat):aY:=kR Qp Tm (2^24) n
theorem okM{n:Nat}:jD X0 Qp (ApM n) a9O:=fun _ _ _ _ _ h _=>by cases h
def gMx(l:LI0)(k:Nat)(m:Int):Int:=if l.getD (i64.wrap ((k:Int)+1)).toNat 0>m then l.getD (i64.wrap ((k:Int)+1)).toNat 0 else m
theorem a1O{x:Int}{r:LI0}(h:r.length<=ah):∀k,k<=r.length->aU (gMx (x::r)) k 0 x=(r.take k).foldl max x
 | 0,_=>rfl
 |k+1,hk=>by
  rw[sU,a1O h k (by omega)];unfold gMx;rw[a3T,xY (by omega),a6t];have e:(x::r).getD (k+1) 0=r[k]'(by omega):=by simp[List.getD,a0a (show k<r.length by omega)]
  rw[e,a5K (by omega),List.foldl_append];simp only[adk,List.foldl_nil];omega
abbrev wMx(l:LI0)(m i:Int)(x:List (Nat×PE aC)):aS aC:=⟨[(0,xL 3 l),(3,xi m),(4,xi (i64.wrap (i+1)))]++x,[],[]⟩
set_option maxRecDepth 20000 in
theorem akN{l:LI0}(h0:l≠[])(hl:l.length<=2000):dD X0 Qp (ApM 2) (.fn 94 [] []) [.dB 3 l false] [] (.int .i64 (JF l)) []:=by
 cases l with
 |nil=>exact absurd rfl h0
 |cons x r=>
  have hr:r.length<=ah:=by have:(x::r).length=r.length+1:=rfl;unfold ah;omega
  have lp:dM X0 Qp Tm (ApM 1) LL 94 false (BJ Qp 94) 0 (.loop (RS Qp 94 0)) ⟨[(0,xL 3 (x::r)),(3,xi x),(4,xi 1)],[],[]⟩ (.exit 0) (wMx (x::r) (aU (gMx (x::r)) r.length 0 x) r.length [(15,xl false)]):=by
   refine Oz (X:=X0) (N:=r.length) (g:=gMx (x::r)) (s0:=x) (st:=fun i m=>wMx (x::r) m i []) (fin:=fun m=>wMx (x::r) m r.length [(15,xl false)]) (fun _ _=>True) (by kernel_rfl) hr SB trivial (fun _ _ _ _=>trivial) (fun k m hk _ n e p g9=>?_) (fun m _=>?_)
   .have e1:i64.wrap ((k:Int)+1)=((k+1:Nat):Int):=xY (by omega);have t1:decide (i64.wrap ((k:Int)+1)<((x::r).length:Int))=true:=by rw[e1,a1o,a4b];omega
    have i1:gW (i64.wrap ((k:Int)+1)) (x::r).length:=by rw[e1];exact aG (by rw[a4b];omega)
    exact round hX okM (by kernel_rfl) (.b t1 (.o i1 (.go g9)))
   have e1:i64.wrap ((r.length:Int)+1)=((r.length+1:Nat):Int):=xY (by omega);have t1:decide (i64.wrap ((r.length:Int)+1)<((x::r).length:Int))=false:=by rw[e1,a2I,a4b];omega
   exact round hX okM (by kernel_rfl) (.b t1 .ex)
  have e:aU (gMx (x::r)) r.length 0 x=JF (x::r):=by rw[a1O hr _ (a0U _),aae];rfl
  rw[e]at lp;have hc:((x::r).length:Int)=r.length+1:=by simp
  have t0:decide (((x::r).length:Int)<1)=false:=by rw[a2I,hc];omega
  have i0:gW 0 (x::r).length:=⟨by decide,by rw[hc];omega⟩;exact mZ hX okM (first:=[]) (cap:=[]) (by kernel_rfl) (.b t0 (.o i0 (.w lp .er)))
theorem aaQ(n:Nat)(x:TV)(h:List HB):kR Qp T LL (n+1) (.fn 94 [] []) [x] h=a2S 94 (ApM 2) (.fn 94 [] []) [x] h:=rfl
theorem akO{n:Nat}{vs:LI0}(h0:vs≠[])(hl:vs.length<=2000):iQ (n+1) (.fn 94 [] []) [.aP 0 0 vs.length vs.length 1 false] [.mP (vs.map L8)] (.int .i64 (JF vs)) [.mP (vs.map L8)]:=by
 intro A m h tf qU hr hf hx;obtain⟨x,r,rfl,h1,h2⟩:=hx.inv;have:=h2.inv0;subst this;have htf:=hf.Uw;subst htf;obtain⟨mb,g1,g2⟩:=hr.at_ 0 _ rfl;cases mb with
 |fV c=>
  obtain⟨ts,g3,g4⟩:=g2;have g5:=g4.symm.trans (JE vs);cases g5;have hx2:x=.aP c 0 vs.length vs.length 1 false:=by
   cases h1 with
   |aP e=>rw[g1]at e;cases e;rfl
   |gone hi e _=>simp only[bn,a00]at hi;subst hi;rw[g1]at e;cases e
  subst hx2;have GU:c∈bg m:=aZ g1 rfl;have aT:=(a01.1 g3).1;show ∃w h1 ws m1,kR Qp T LL (n+1) _ _ h=_∧_;rw[aaQ,a9U (k:=.i64) (n:=JF vs)]
  .exact⟨_,h,[],m,rfl,hr,.int _ _,.refl,.refl,fun b hb=>by cases hb⟩
  .refine⟨⟨_,_,rfl⟩,rfl,fun h' hu=>?_⟩;obtain⟨cs',p1,p2⟩:=hu.2 c _ g3;obtain⟨l,hp,rfl⟩:∃l:LI0,l.Perm vs∧cs'=l.map Qw:=by
    have hq:∀y∈cs',∃i:Int,y=Qw i:=fun y hy=>by obtain⟨i,_,rfl⟩:=a1g.1 (p1.mem_iff.1 hy);exact⟨i,rfl⟩
    have hun:∀L:List TV,(∀y∈L,∃i:Int,y=Qw i)->∃l:LI0,L=l.map Qw:=by
     intro L
     induction L with
     |nil=>exact fun _=>⟨[],rfl⟩
     |cons y L ih=>
      intro hL;obtain⟨i,rfl⟩:=hL y (by simp);obtain⟨l,rfl⟩:=ih fun z hz=>hL z (by simp[hz]);exact⟨i::l,rfl⟩
    obtain⟨l,rfl⟩:=hun cs' hq;refine⟨l,?_,rfl⟩;have:=p1.map fun y=>match y with|.int _ n=>n|_=>0
    rw[a7m,a7m]at this;simpa[Function.comp_def]using this
   have hlen:l.length=vs.length:=hp.length_eq;have qB:l≠[]:=fun e=>by subst e;exact h0 (a3Y hlen.symm)
   have akP:h'.length=h.length:=by
    have e:=fun b=>S9 hu b;refine Nat.le_antisymm (acH fun hb=>?_) (acH fun hb=>?_)
    .have:=e h.length;rw[a0a hb,a4a (a0U _)]at this;cases this
    have:=e h'.length;rw[a0a hb,a4a (a0U _)]at this;cases this
   have hm:=akN qB (by omega);have hvr:Pv.VR X0 Qp (AA A []) [] h' (.dB 3 l false) (.aP c 0 vs.length vs.length 1 false):=by
    rw[<-hlen];refine Pv.VR.dB (cs:=l.map Qw) ⟨hr.CQ c GU,by simp[bg]⟩ (by simp only[aX,p2]) (fun _=>by simp[lQ,p2]) KC (by decide) (by simp;exact a0U _) (a0U _) (by intro h;cases h) ?_ ?_
    .intro j a _;rfl
    have hrw:=SI (A:=AA A []) (m:=[]) (h:=h') l;intro j a i c v a1 a2 a3;exact hrw.2.2 j a i c v a1 a2 a3
   obtain⟨w,h2,ws,m1,c1,c2,c3,c4,c5,c6⟩:=hm A [] h' (.fn 94 [] []) [.aP c 0 vs.length vs.length 1 false] ⟨rfl,fun i b hi=>by simp at hi,by simp[bg],fun b hb=>hr.up b (by rw[<-akP];exact hb),fun b hb=>by simp[bg]at hb⟩ (.fn rfl (fun i x y hi=>by simp at hi) rfl (fun i x y hi=>by simp at hi)) (.cons hvr .nil)
   .have hw:w=.int .i64 (JF vs):=by rw[<-a3N hp qB];exact c3.a15
    subst hw;have Yn:ws=[]:=a4Y.2 fun b hb=>by have:=c6 b hb;simp[bg]at this
    subst Yn;exact⟨h2,c1⟩
  obtain⟨h',hu⟩:∃h',OE h h':=⟨_,X8 h (fun b=>match h[b]? with|some (.mP cs)=>cs|_=>[]) fun b cs e=>by rw[e]⟩;exact⟨h',hu⟩
 |_=>exact g2.elim
open Go Tw Pv bQ
theorem akQ{n:Nat}(hO:Ok n rQ){k:Int}(hk:0<=k∧k<=6):iQ (n+1) (.fn 124 [] []) [.own 0,.int .i64 k] [.list true true 3 ([-1]:LI0)] (.own 1) [.list true true 3 ([-1]:LI0),.list true true 3 (List.replicate k.toNat (-1):LI0)]:=by
 rcases a7z hk with rfl|rfl|rfl|rfl|rfl|rfl|rfl
 .exact fB hO (first:=[]) (cap:=[]) (.b (rfl:decide ((0:Int)<0)=false) (.o (rfl:(1:Int)=1) (.o (⟨by decide,by decide⟩:(0:Int)<=0∧(0:Int)<=6) (.b (rfl:decide ((0:Int)>0)=false) (.b (rfl:decide ((0:Int)>9223372036854775807)=false) (.o (rfl:(0:Int)=0) (.o (show(0:Int)<=0 by decide) (.o (show(0:Int)<=(ah:Int) by decide) (.m 8 le8 (.b (rfl:decide ((0:Int)<0)=false) .er))))))))))
 .exact fB hO (first:=[]) (cap:=[]) (.b (rfl:decide ((1:Int)<0)=false) (.o (rfl:(1:Int)=1) (.o (⟨by decide,by decide⟩:(0:Int)<=1∧(1:Int)<=6) (.b (rfl:decide ((0:Int)>0)=false) (.b (rfl:decide ((1:Int)>9223372036854775807)=false) (.o (rfl:(1:Int)=1) (.o (show(0:Int)<=1 by decide) (.o (show(1:Int)<=(ah:Int) by decide) (.m 8 le8 (.b (rfl:decide ((1:Int)<1)=false) .er))))))))))
 .exact fB hO (first:=[]) (cap:=[]) (.b (rfl:decide ((2:Int)<0)=false) (.o (rfl:(1:Int)=1) (.o (⟨by decide,by decide⟩:(0:Int)<=2∧(2:Int)<=6) (.b (rfl:decide ((0:Int)>0)=false) (.b (rfl:decide ((2:Int)>9223372036854775807)=false) (.o (rfl:(2:Int)=2) (.o (show(0:Int)<=2 by decide) (.o (show(2:Int)<=(ah:Int) by decide) (.m 8 le8 (.b (rfl:decide ((1:Int)<2)=true) (.o (show(0:Int)<=1 by decide) (.o (show(1:Int)<=2 by decide) (.o (show(2:Int)<=2 by decide) (.o (show(0:Int)<=0 by decide) (.o (show(0:Int)<=1 by decide) (.o (show(1:Int)<=2 by decide) (.b (rfl:decide ((2:Int)<2)=false) .er)))))))))))))))))
 .exact fB hO (first:=[]) (cap:=[]) (.b (rfl:decide ((3:Int)<0)=false) (.o (rfl:(1:Int)=1) (.o (⟨by decide,by decide⟩:(0:Int)<=3∧(3:Int)<=6) (.b (rfl:decide ((0:Int)>0)=false) (.b (rfl:decide ((3:Int)>9223372036854775807)=false) (.o (rfl:(3:Int)=3) (.o (show(0:Int)<=3 by decide) (.o (show(3:Int)<=(ah:Int) by decide) (.m 8 le8 (.b (rfl:decide ((1:Int)<3)=true) (.o (show(0:Int)<=1 by decide) (.o (show(1:Int)<=3 by decide) (.o (show(3:Int)<=3 by decide) (.o (show(0:Int)<=0 by decide) (.o (show(0:Int)<=1 by decide) (.o (show(1:Int)<=3 by decide) (.b (rfl:decide ((2:Int)<3)=true) (.o (show(0:Int)<=2 by decide) (.o (show(2:Int)<=3 by decide) (.o (show(3:Int)<=3 by decide) (.o (show(0:Int)<=0 by decide) (.o (show(0:Int)<=2 by decide) (.o (show(2:Int)<=3 by decide) (.b (rfl:decide ((3:Int)<3)=false) .er))))))))))))))))))))))))
 .exact fB hO (first:=[]) (cap:=[]) (.b (rfl:decide ((4:Int)<0)=false) (.o (rfl:(1:Int)=1) (.o (⟨by decide,by decide⟩:(0:Int)<=4∧(4:Int)<=6) (.b (rfl:decide ((0:Int)>0)=false) (.b (rfl:decide ((4:Int)>9223372036854775807)=false) (.o (rfl:(4:Int)=4) (.o (show(0:Int)<=4 by decide) (.o (show(4:Int)<=(ah:Int) by decide) (.m 8 le8 (.b (rfl:decide ((1:Int)<4)=true) (.o (show(0:Int)<=1 by decide) (.o (show(1:Int)<=4 by decide) (.o (show(4:Int)<=4 by decide) (.o (show(0:Int)<=0 by decide) (.o (show(0:Int)<=1 by decide) (.o (show(1:Int)<=4 by decide) (.b (rfl:decide ((2:Int)<4)=true) (.o (show(0:Int)<=2 by decide) (.o (show(2:Int)<=4 by decide) (.o (show(4:Int)<=4 by decide) (.o (show(0:Int)<=0 by decide) (.o (show(0:Int)<=2 by decide) (.o (show(2:Int)<=4 by decide) (.b (rfl:decide ((4:Int)<4)=false) .er))))))))))))))))))))))))
 .exact fB hO (first:=[]) (cap:=[]) (.b (rfl:decide ((5:Int)<0)=false) (.o (rfl:(1:Int)=1) (.o (⟨by decide,by decide⟩:(0:Int)<=5∧(5:Int)<=6) (.b (rfl:decide ((0:Int)>0)=false) (.b (rfl:decide ((5:Int)>9223372036854775807)=false) (.o (rfl:(5:Int)=5) (.o (show(0:Int)<=5 by decide) (.o (show(5:Int)<=(ah:Int) by decide) (.m 8 le8 (.b (rfl:decide ((1:Int)<5)=true) (.o (show(0:Int)<=1 by decide) (.o (show(1:Int)<=5 by decide) (.o (show(5:Int)<=5 by decide) (.o (show(0:Int)<=0 by decide) (.o (show(0:Int)<=1 by decide) (.o (show(1:Int)<=5 by decide) (.b (rfl:decide ((2:Int)<5)=true) (.o (show(0:Int)<=2 by decide) (.o (show(2:Int)<=5 by decide) (.o (show(5:Int)<=5 by decide) (.o (show(0:Int)<=0 by decide) (.o (show(0:Int)<=2 by decide) (.o (show(2:Int)<=5 by decide) (.b (rfl:decide ((4:Int)<5)=true) (.o (show(0:Int)<=4 by decide) (.o (show(4:Int)<=5 by decide) (.o (show(5:Int)<=5 by decide) (.o (show(0:Int)<=0 by decide) (.o (show(0:Int)<=4 by decide) (.o (show(4:Int)<=5 by decide) (.b (rfl:decide ((5:Int)<5)=false) .er)))))))))))))))))))))))))))))))
 exact fB hO (first:=[]) (cap:=[]) (.b (rfl:decide ((6:Int)<0)=false) (.o (rfl:(1:Int)=1) (.o (⟨by decide,by decide⟩:(0:Int)<=6∧(6:Int)<=6) (.b (rfl:decide ((0:Int)>0)=false) (.b (rfl:decide ((6:Int)>9223372036854775807)=false) (.o (rfl:(6:Int)=6) (.o (show(0:Int)<=6 by decide) (.o (show(6:Int)<=(ah:Int) by decide) (.m 8 le8 (.b (rfl:decide ((1:Int)<6)=true) (.o (show(0:Int)<=1 by decide) (.o (show(1:Int)<=6 by decide) (.o (show(6:Int)<=6 by decide) (.o (show(0:Int)<=0 by decide) (.o (show(0:Int)<=1 by decide) (.o (show(1:Int)<=6 by decide) (.b (rfl:decide ((2:Int)<6)=true) (.o (show(0:Int)<=2 by decide) (.o (show(2:Int)<=6 by decide) (.o (show(6:Int)<=6 by decide) (.o (show(0:Int)<=0 by decide) (.o (show(0:Int)<=2 by decide) (.o (show(2:Int)<=6 by decide) (.b (rfl:decide ((4:Int)<6)=true) (.o (show(0:Int)<=4 by decide) (.o (show(4:Int)<=6 by decide) (.o (show(6:Int)<=6 by decide) (.o (show(0:Int)<=0 by decide) (.o (show(0:Int)<=4 by decide) (.o (show(4:Int)<=6 by decide) (.b (rfl:decide ((6:Int)<6)=false) .er)))))))))))))))))))))))))))))))
def eG(D:List Dg):Jb:=⟨(D.getD 0 jf).aA,(D.getD 0 jf).aH,D,List.replicate (D.getD 0 jf).aA.length (-1)⟩
theorem akR{n f:Nat}(hO:Ok (n+1) rQ)(BG:Ok n rQ){D:List Dg}(h0:0<D.length)(h6:(D.getD 0 jf).aA.length<=6){k ex:Bool}:iQ (n+2) (.fn 78 [] []) [.fn f [] [],.own 0] [.list k ex 26 D] (.agg [lI (eG D).s,lI (eG D).o,.own 0,.own 1,.fn f [] []]) [.list k ex 26 D,.list true true 3 (eG D).g]:=by have i0:gW 0 D.length:=aG h0;have hs:=akQ BG (k:=((D.getD 0 jf).aA.length:Int)) ⟨by omega,by omega⟩;rw[a6t]at hs;have h:iQ (n+2) (.fn 78 [] []) [.fn f [] [],.own 0] [.list k ex 26 D] (.agg [lI (eG D).s,lI (eG D).o,.own 0,.own 2,.fn f [] []]) [.list k ex 26 D,.list true true 3 ([-1]:LI0),.list true true 3 (eG D).g]:=fB hO (first:=[]) (cap:=[]) (.o i0 (.o i0 (.o i0 (.fr [1] hs .er))));exact dD.gs hX h [.gc [2]] rfl
theorem akS{n f:Nat}(u:Int)(hO:Ok (n+1) rQ)(BG:Ok n rQ){D:List Dg}(h0:0<D.length)(h6:(D.getD 0 jf).aA.length<=6){k ex:Bool}:iQ (n+2) (.fn 78 [] []) [.fn f [] [.ptr 1 0 1],.own 0] [.list k ex 26 D,.aF [.int .u8 u]] (.agg [lI (eG D).s,lI (eG D).o,.own 0,.own 2,.fn f [] [.ptr 1 0 1]]) [.list k ex 26 D,.aF [.int .u8 u],.list true true 3 (eG D).g]:=by have i0:gW 0 D.length:=aG h0;have hs:=akQ BG (k:=((D.getD 0 jf).aA.length:Int)) ⟨by omega,by omega⟩;rw[a6t]at hs;have h:iQ (n+2) (.fn 78 [] []) [.fn f [] [.ptr 1 0 1],.own 0] [.list k ex 26 D,.aF [.int .u8 u]] (.agg [lI (eG D).s,lI (eG D).o,.own 0,.own 3,.fn f [] [.ptr 1 0 1]]) [.list k ex 26 D,.aF [.int .u8 u],.list true true 3 ([-1]:LI0),.list true true 3 (eG D).g]:=fB hO (first:=[]) (cap:=[]) (.o i0 (.o i0 (.o i0 (.fr [2] hs .er))));exact dD.gs hX h [.gc [3]] rfl
theorem apX{n f:Nat}{J:Jb}{d:Dg}{k ex k2 L9:Bool}(h:iQ n (.fn 80 [] []) [.agg (J.ps (.fn f [] []))] [] (dA.put d) []):iQ n (.fn 80 [] []) [.agg [lI J.s,lI J.o,.own 0,.own 1,.fn f [] []]] [.list k ex 26 J.D,.list k2 L9 3 J.g] (dA.put d) [.gone,.gone]:=by have h1:=dD.frame hX (ks:=[]) (H':=[.gone,.gone]) (Hp:=[]) (Qj:=[]) (v':=dA.put d) (fv':=.fn 80 [] []) (xs':=[.agg (J.ps (.fn f [] []))]) h (by decide) rfl rfl rfl rfl rfl rfl rfl;exact dD.fz hX (H:=[.list k ex 26 J.D,.list k2 L9 3 J.g]) (cs:=[lI J.s,lI J.o,.own 0,.own 1]) (rest:=[.fn f [] []]) [0,1] h1 rfl (fun i hi=>by simpa[kP.jX,kP]using hi)
theorem apY{n f:Nat}{u:Int}{J:Jb}{d:Dg}{k ex k2 L9:Bool}(h:iQ n (.fn 80 [] []) [.agg (J.ps (.fn f [] [.ptr 0 0 1]))] [.aF [.int .u8 u]] (dA.put d) [.aF [.int .u8 u]]):iQ n (.fn 80 [] []) [.agg [lI J.s,lI J.o,.own 0,.own 2,.fn f [] [.ptr 1 0 1]]] [.list k ex 26 J.D,.aF [.int .u8 u],.list k2 L9 3 J.g] (dA.put d) [.gone,.aF [.int .u8 u],.gone]:=by have h1:=dD.frame hX (ks:=[1]) (H':=[.gone,.aF [.int .u8 u],.gone]) (Hp:=[.aF [.int .u8 u]]) (Qj:=[.aF [.int .u8 u]]) (v':=dA.put d) (fv':=.fn 80 [] []) (xs':=[.agg (J.ps (.fn f [] [.ptr 1 0 1]))]) h (by decide) rfl rfl rfl rfl rfl rfl rfl;exact dD.fz hX (H:=[.list k ex 26 J.D,.aF [.int .u8 u],.list k2 L9 3 J.g]) (cs:=[lI J.s,lI J.o,.own 0,.own 2]) (rest:=[.fn f [] [.ptr 1 0 1]]) [0,2] h1 rfl (fun i hi=>by simpa[kP.jX,kP]using hi)
open Go Tw Pv bQ
structure DgG(d:Dg):Prop where
 t:BH d
 n:d.au.length<=6000
 ord:kD d.aA.length d.aH=true
 rk:∀i,i<d.au.length->∀k,k<(fD d i).ay.length->d.aH.idxOf (fD d i).var+1<=FW d.aH d.au ((fD d i).ay.getD k 0)
 two:∀i,i<d.au.length->2<=(fD d i).ay.length
 c:∀v∈d.aO,Pz v
 dd:DgD d
 l0:bG d=0
theorem afW{d:Dg}(hp:qC d)(h:rO d=0):DgG d:=by
 have h0:bG d=0∧pJ d=true:=by
  unfold rO at h;split at h
  .rename_i c;rw[h]at c;cases c
  rename_i c;split at h
  .cases h
  rename_i c2;exact⟨by simpa using c,by simpa using c2⟩
 have ho:d.aH.length<=ah:=by have:=hp.o;unfold ah;omega
 have he:d.aO.length<=ah:=by have:=hp.e;omega
 obtain⟨t,n⟩:=mV ho he (by rw[h0.1];rfl);obtain⟨D,_⟩:=XF.1 h0.2;have hf:dh d.aA d.aH=0∧lG d=true:=by
  have hl:=h0.1;unfold bG at hl;split at hl
  .rename_i c;rw[hl]at c;cases c
  rename_i c;split at hl
  .cases hl
  split at hl
  .cases hl
  rename_i _ c2;exact⟨by simpa using c,by simpa using c2⟩
 obtain⟨eF,ord⟩:=mF.1 hf.1;refine⟨t,n,ord,XO h0.1,fun i hi=>?_,fun v hv=>?_,D,h0.1⟩
 .have:=D.flat i hi;rcases hk:(fD d i).ay with _|⟨a,_|⟨b,r⟩⟩
  .rw[hk]at this;simp at this
  .rw[hk]at this;simp at this
  simp
 refine⟨?_,hp.r.fault v hv⟩;have hl:=hf.2;unfold lG at hl;obtain⟨k,hk,e⟩:=a8k hv;have hs:jP (bC (cLe d) d.aO.length)=true:=by revert hl;cases jP (bC (cLe d) d.aO.length)<;>simp
 have:=dH.1 hs k hk;unfold cLe at this;rw[a2N,a0a hk]at this;simpa[e]using this
theorem Vg{l:List Dg}(hp:∀d∈l,qC d)(h:bK l=0):∀d∈l,DgG d∧d.aA=(l.getD 0 jf).aA∧d.aH=(l.getD 0 jf).aH:=by
 intro d hd;unfold bK at h;split at h
 .rename_i c;split at h
  .cases h
  rename_i c2;simp only[adE,aby,a4o]at c2;have e:=c2 d hd;unfold Dq at e;split at e
  .rename_i e1;refine⟨afW (hp d hd) ?_,by simpa using e1,by simpa using e⟩;obtain⟨k,hk,e9⟩:=a8k hd;have:=dH.1 c k hk;unfold cCk at this;rw[a2N,a0a hk,a4r,e9]at this;have h9:=hp d hd;rw[XH h9.r h9.s (by have:=h9.o;unfold ah;omega) h9.e]at this;simpa using this
  cases e
 rename_i c;obtain⟨j,_,e,_,e2⟩:=DW (by simpa using c);rw[e2]at h;unfold cCk at e;have h':(vI (l.getD j jf)).2=0:=h;rw[h']at e;cases e
theorem ado{D:List Dg}(h3:D.length<=3)(h0:0<D.length)(h1:∀d∈D,DgG d∧d.aA=(D.getD 0 jf).aA∧d.aH=(D.getD 0 jf).aH):kE (eG D):=by
 have QE:D.getD 0 jf∈D:=dK h0;obtain⟨g0,_,_⟩:=h1 _ QE;refine⟨h3,g0.t.eF,g0.ord,fun k hk=>?_,a8A,fun c hc hg=>?_⟩
 .obtain⟨g,e1,e2⟩:=h1 (kU D k) (dK hk);exact⟨g.t,g.n,e1,e2,g.rk,g.two⟩
 exfalso;revert hg;show ¬(0<=(List.replicate (D.getD 0 jf).aA.length (-1:Int)).getD c.toNat 0);have:=hc.1;have:=hc.2;rw[a2N,afM,a0g (show c.toNat<(D.getD 0 jf).aA.length by have:c<((D.getD 0 jf).aA.length:Int):=hc.2;omega)];decide
theorem AX{D:List Dg}(h3:D.length<=3)(h0:0<D.length)(hp:∀d∈D,qC d)(h:bK D=0):kE (eG D):=ado h3 h0 (Vg hp h)
open Go Tw Pv bQ
theorem PS{J:Jb}(hJ:kE J)(hc:∀k,k<J.D.length->∀v∈(kU J.D k).aO,Pz v){op:List V->V}(h:∀l:List V,l.length=J.D.length->(∀v∈l,Pz v)->Pz (op l)):wR J op:=fun t hd=>h _ (by simp[aV]) fun v hv=>by
 unfold aV at hv;obtain⟨k,hk,rfl⟩:=a1g.1 hv;have hk:=a4i.1 hk;have h3:(jG (t.get k)).toNat<(kU J.D k).aO.length:=by obtain⟨h1,h2⟩:=(Ju hJ hd hk).2;omega
 exact hc k hk _ (dK h3)
theorem Jb.inD{D:List Dg}(hp:∀d∈D,qC d)(h:bK D=0):∀k,k<D.length->∀v∈(kU D k).aO,Pz v:=fun k hk=>(Vg hp h _ (dK hk)).1.c
theorem JG{n f:Nat}(h2:2<=n)(hO:∀m,n-2<=m->Ok m rQ){D:List Dg}(h0:0<D.length)(h6:(D.getD 0 jf).aA.length<=6){k ex:Bool}:iQ n (.fn 78 [] []) [.fn f [] [],.own 0] [.list k ex 26 D] (.agg [lI (eG D).s,lI (eG D).o,.own 0,.own 1,.fn f [] []]) [.list k ex 26 D,.list true true 3 (eG D).g]:=by
 have h:=akR (n:=n-2) (f:=f) (hO _ (by omega)) (hO _ (by omega)) h0 h6 (k:=k) (ex:=ex)
 rwa [show n-2+2=n by omega]at h
theorem afX{n f:Nat}(u:Int)(h2:2<=n)(hO:∀m,n-2<=m->Ok m rQ){D:List Dg}(h0:0<D.length)(h6:(D.getD 0 jf).aA.length<=6){k ex:Bool}:iQ n (.fn 78 [] []) [.fn f [] [.ptr 1 0 1],.own 0] [.list k ex 26 D,.aF [.int .u8 u]] (.agg [lI (eG D).s,lI (eG D).o,.own 0,.own 2,.fn f [] [.ptr 1 0 1]]) [.list k ex 26 D,.aF [.int .u8 u],.list true true 3 (eG D).g]:=by
 have h:=akS (n:=n-2) (f:=f) u (hO _ (by omega)) (hO _ (by omega)) h0 h6 (k:=k) (ex:=ex)
 rwa [show n-2+2=n by omega]at h
theorem a81{n f:Nat}{J:Jb}(hJ:kE J){op:List V->V}(kH:wR J op)(h2:20<=n)(hO:∀m,n-20<=m->Ok m I4)(hs:∀m,n-20<=m->∀l:List V,l.length=J.D.length->dD X0 Qp (iy m) (.fn f [] []) [lV l] [] (.agg (op l).ps) []){k ex k2 L9:Bool}:iQ n (.fn 80 [] []) [.agg [lI J.s,lI J.o,.own 0,.own 1,.fn f [] []]] [.list k ex 26 J.D,.list k2 L9 3 J.g] (dA.put (Jw J op)) [.gone,.gone]:=by have h6:=(kE.o2 hJ).2.1;have h7:=hJ.eF.len;have h:=afK (N:=n-20) hJ kH hs hO (m:=n-1) (by omega);rw[show n-1+1=n by omega]at h;exact apX h
theorem akU{n f:Nat}(u:Int){J:Jb}(hJ:kE J){op:List V->V}(kH:wR J op)(h2:20<=n)(hO:∀m,n-20<=m->Ok m I4)(hs:∀m,n-20<=m->∀l:List V,l.length=J.D.length->dD X0 Qp (iy m) (.fn f [] [.ptr 0 0 1]) [lV l] [.aF [.int .u8 u]] (.agg (op l).ps) [.aF [.int .u8 u]]){k ex k2 L9:Bool}:iQ n (.fn 80 [] []) [.agg [lI J.s,lI J.o,.own 0,.own 2,.fn f [] [.ptr 1 0 1]]] [.list k ex 26 J.D,.aF [.int .u8 u],.list k2 L9 3 J.g] (dA.put (Jw J op)) [.gone,.aF [.int .u8 u],.gone]:=by have h6:=(kE.o2 hJ).2.1;have h7:=hJ.eF.len;have h:=afL (N:=n-20) u hJ kH hs hO (m:=n-1) (by omega);rw[show n-1+1=n by omega]at h;exact apY h
abbrev MP(a b x:Int):Bool:=if decide (x>=a)=true then decide (x<=b)else false
theorem a88{k:Nat}{x:Int}(h:(!(MP 0 (i64.wrap ((k:Int)-1)) x))=false)(hk:k<=ah):gW x k:=by
 rw[wrap_small (by unfold ah at hk;omega) (by unfold ah at hk;omega)]at h;unfold MP at h;by_cases h1:x>=0
 .simp[h1]at h;exact⟨h1,by omega⟩
 simp[h1]at h
theorem aaR{z x:Int}(h:(!(MP 0 (i64.wrap (z-1)) x))=false)(h0:0<=z)(h1:z<=12):0<=x∧x<z:=by
 rw[wrap_small (by omega) (by omega)]at h;unfold MP at h;by_cases h1:x>=0
 .simp[h1]at h;exact⟨h1,by omega⟩
 simp[h1]at h
def akV(d:Dg)(c g:Int):Jb:=⟨d.aA,d.aH,[d],(eG [d]).g.set c.toNat g⟩
abbrev op0(l:List V):V:=l.getD 0 V0
theorem aaS{d:Dg}(hp:qC d)(h:bK [d]=0){c g:Int}(hc:gW c d.aA.length)(hg:0<=g∧g<d.aA.getD c.toNat 0):kE (akV d c g):=by
 have hJ:=AX (D:=[d]) (by simp) (by simp) (fun x hx=>by rw[a2p.1 hx];exact hp) h;refine⟨hJ.d3,hJ.eF,hJ.ord,fun k hk=>have h:=hJ.dg k hk;⟨h.t,h.n,h.s,h.o,h.rk,h.two⟩,?_,fun c2 JR h2=>?_⟩
 .show((eG [d]).g.set c.toNat g).length=_;rw[a4n];exact hJ.gl
 have hl:(eG [d]).g.length=d.aA.length:=hJ.gl;have a0:=hc.1;have a1:=hc.2;have b0:=JR.1;have b1:c2<(d.aA.length:Int):=JR.2
 change 0<=((eG [d]).g.set c.toNat g).getD c2.toNat 0 at h2
 show((eG [d]).g.set c.toNat g).getD c2.toNat 0<d.aA.getD c2.toNat 0;by_cases e:c.toNat=c2.toNat
 .rw[<-e,a2N,a2c (by omega)];exact hg.2
 rw[a2N,a1l e,<-a2N]at h2 ⊢;exact hJ.gv c2 JR h2
theorem akW{m:Nat}(hO:Ok m rQ){l:List V}(h:0<l.length):dD X0 Qp (iy m) (.fn 79 [] []) [lV l] [] (.agg (op0 l).ps) []:=nY.ZI hX (first:=[]) (cap:=[]) (hO 79 [lV l] (vA.put (op0 l)) [] [0<l.length] (by kernel_rfl) (fun p h9=>by rw[a2p.1 h9];exact h)) rfl rfl rfl rfl
def KG(p:Dg×Int×Int):Dg×Int:=if(bK [p.1] != 0)=true then(jf,bK [p.1])else if(!(MP 0 (i64.wrap ((p.1.aA.length:Int)-1)) p.2.1))=true then(jf,3)else if(!(MP 0 (i64.wrap (p.1.aA.getD p.2.1.toNat 0-1)) p.2.2))=true then(jf,3)else(Jw (akV p.1 p.2.1 p.2.2) op0,0)
def akX:eY aC:=bT 20 (a3 dA iA iA) (dR (a2 dA iA)) KG (fun p=>[qC p.1]) rQ
theorem a3O:(1:Nat)<=ah:=by unfold ah;omega
theorem aq1:Gd akX:=Good.WY 24 I8 XR fun n hn hO FV p hp=>by
 have h1:qC p.1:=hp _ gZ;have h2:∀d∈[p.1],qC d:=fun x hx=>by rw[a2p.1 hx];exact h1
 have h3:0<[p.1].length∧[p.1].length<=ah:=⟨by simp,a3O⟩;obtain⟨d,c,g⟩:=p;show nY X0 Qp _ _ _ ((dR (a2 dA iA)).put (KG (d,c,g))) _;unfold KG;have hJ:(bK [d] != 0)=false->kE (eG [d]):=fun e1=>AX (D:=[d]) (by simp) (by simp) h2 (by simpa using e1);have hc:(bK [d] != 0)=false->(!(MP 0 (i64.wrap ((d.aA.length:Int)-1)) c))=false->gW c d.aA.length:=fun _ e2=>a88 e2 h1.s;have s1:=fun(e1:(bK [d] != 0)=false)=>JG (n:=n) (f:=79) (by omega) (fun m hm=>hO m (by omega)) (D:=[d]) (by simp) (hJ e1).eF.len (k:=true) (ex:=true);have s2:=fun(e1:(bK [d] != 0)=false) (e2:(!(MP 0 (i64.wrap ((d.aA.length:Int)-1)) c))=false) (e3:(!(MP 0 (i64.wrap (d.aA.getD c.toNat 0-1)) g))=false)=>
  have hz:=(hJ e1).eF.sz (d.aA.getD c.toNat 0) (eu (show c.toNat<d.aA.length by obtain⟨a,b⟩:=hc e1 e2;omega));have hR:=aaS h1 (by simpa using e1) (hc e1 e2) (aaR e3 (Int.le_trans (by decide) hz.1) hz.2)
  a81 (n:=n) (f:=79) hR (PS hR (Jb.inD h2 (show bK [d]=0 by simpa using e1)) fun l hl hv=>hv _ (dK (by rw[hl];exact Nat.zero_lt_one))) (by omega) (fun m hm=>FV m (by omega)) (fun m hm l hl=>akW (hO m (by omega)) (by rw[hl];exact Nat.zero_lt_one)) (k:=true) (ex:=true) (k2:=true) (L9:=true)
 have i2:=fun(e1:(bK [d] != 0)=false) (e2:(!(MP 0 (i64.wrap ((d.aA.length:Int)-1)) c))=false)=>show gW c (eG [d]).g.length by rw[(hJ e1).gl];exact hc e1 e2
 exact aN (hO n (by omega)) (.o h2 (.o h3 (.sh (fun _=>.rn (.dG [.agg [.nil .aP,.nil .aP,.nil .aP,.nil .aP,.int .i64 0],.int .i64 (bK [d])]) rfl) fun e1=>.sh (fun _=>.rn (.dG [.agg [.nil .aP,.nil .aP,.nil .aP,.nil .aP,.int .i64 0],.int .i64 3]) rfl) fun e2=>.o (hc e1 e2) (.sh (fun _=>.rn (.dG [.agg [.nil .aP,.nil .aP,.nil .aP,.nil .aP,.int .i64 0],.int .i64 3]) rfl) fun e3=>.fr [1] (s1 e1) (.o (i2 e1 e2) (.fr [1,2] (s2 e1 e2 e3) .rr))))))
open Go Tw Pv bQ
def EM(k:Int):Bool:=decide (7<=k∧k<=16)
def pq(k:Int)(a b:V):V×Int:=if EM k=true then Ht k a b else(V0,2)
theorem bne{a b:Int}(h:a≠b):(a==b)=false:=by simpa using h
def a8a:eY aC:=Zr 101 (a1 uA) (fun _=>.nil .fn) (fun _=>[]) (fun p=>[EM p=false]) akX
theorem afY:Gd a8a:=aq1.WX 0 fun n _ hO p hp=>by
 have h:¬(7<=p∧p<=16):=by simpa[EM]using hp _ gZ
 exact Bo hX (hO n (by omega)) (by kernel_rfl) (.b (bne (show p≠7 by omega)) (.b (bne (show p≠8 by omega)) (.b (bne (show p≠9 by omega)) (.b (bne (show p≠10 by omega)) (.b (bne (show p≠11 by omega)) (.b (bne (show p≠12 by omega)) (.b (bne (show p≠13 by omega)) (.b (bne (show p≠14 by omega)) .er))))))))
def Y5:eY aC:=bT 45 (a3 uA vA vA) (dR (a2 vA iA)) (fun p=>pq p.1 p.2.1 p.2.2) np a8a
theorem a1P:Gd Y5:=afY.deep 1 fun n hn hO p hp=>by
 obtain⟨k,a,b⟩:=p;cases h:EM k
 .have h9:¬(7<=k∧k<=16):=by simpa[EM]using h
  show nY X0 Qp _ _ _ ((dR (a2 vA iA)).put (pq k a b)) _;unfold pq;rw[h];exact aN (hO n (by omega)) (.b (bne (show k≠15 by omega)) (.b (bne (show k≠16 by omega)) (.o h (.b (rfl:true=true) .rr))))
 .show nY X0 Qp _ _ _ ((dR (a2 vA iA)).put (pq k a b)) _;unfold pq;rw[a0g h];exact hO (n+1) (by omega) 45 ((a3 uA vA vA).put (k,a,b)) ((dR (a2 vA iA)).put (Ht k a b)) [] [7<=k∧k<=16] (by kernel_rfl) (fun q hq=>by rw[a2p.1 hq];simpa[EM]using h)
open Go Tw Pv bQ
theorem yj{v:V}:Pz v↔kL v:=by
 unfold Pz vOk nT;constructor
 .rintro⟨h,h0⟩;split at h
  .rename_i e;split at h
   .rename_i e2;simp at e e2 h;exact⟨h0,by omega,fun _=>⟨e2,h⟩,fun hz=>absurd e hz⟩
   cases h
  split at h
  .rename_i e e2;simp at e e2 h;exact⟨h0,e2,fun hz=>absurd hz e,fun _=>h⟩
  cases h
 intro h;refine⟨?_,h.f0⟩;by_cases e:v.f=0
 .rw[a0g (by simpa using e),a0g (by simpa using(h.n e).1)];simpa using(h.n e).2
 rw[a0c (by simpa using e),a0g (by simpa using h.f1)];simpa using h.z e
theorem aaT{k:Int}{a b:V}:(Ht k a b).1=gG k a b:=by
 unfold Ht gG
 repeat' split
 all_goals rfl
theorem aaU{k:Int}(h:EM k=true){a b:V}(ha:Pz a)(hb:Pz b):Pz (pq k a b).1∧(pq k a b).1=bH k a b:=by have:=aeY (by simpa[EM]using h) (yj.1 ha) (yj.1 hb);unfold pq;rw[a0g h,aaT,this.1];exact⟨yj.2 this.2,rfl⟩
theorem aaV{k:Int}{a b:V}(h:((pq k a b).2 != 0)=false):EM k=true:=by
 unfold pq at h;cases e:EM k
 .rw[e]at h;simp at h
 rfl
theorem aaW:Pz ji:=⟨by decide,by decide⟩
theorem afZ:Pz V0:=⟨by decide,by decide⟩
abbrev aaX(u:Int)(l:List V):V:=(pq u (l.getD 0 V0) (l.getD 1 V0)).1
abbrev aaY(l:List V):V:=(jF (l.getD 0 V0) (l.getD 1 V0) (l.getD 2 V0)).1
theorem akY{m:Nat}{u:Int}(h1:1<=m)(hO:Ok (m-1) Y5){l:List V}(h:l.length=2):dD X0 Qp (iy m) (.fn 112 [] [.ptr 0 0 1]) [lV l] [.aF [.int .u8 u]] (.agg (aaX u l).ps) [.aF [.int .u8 u]]:=by obtain⟨m,rfl⟩:∃k,m=k+1:=⟨m-1,by omega⟩;exact fB hO (first:=[]) (cap:=[.ptr 0 0 1]) (.o (aG (by omega:0<l.length)) (.o (aG (by omega:1<l.length)) .er))
theorem aq2{m:Nat}(h1:1<=m)(hO:Ok (m-1) Y5){l:List V}(h:l.length=3):dD X0 Qp (iy m) (.fn 113 [] []) [lV l] [] (.agg (aaY l).ps) []:=by obtain⟨m,rfl⟩:∃k,m=k+1:=⟨m-1,by omega⟩;exact fB hO (first:=[]) (cap:=[]) (.o (aG (by omega:0<l.length)) (.o (aG (by omega:1<l.length)) (.o (aG (by omega:2<l.length)) .er)))
theorem akZ{m:Nat}(hO:Ok m Y5){l:List V}(h:l.length<=ah):dD X0 Qp (iy m) (.fn 117 [] []) [lV l] [] (.agg (nV l).ps) []:=nY.ZI hX (first:=[]) (cap:=[]) (hO 117 [lV l] (vA.put (nV l)) [] [l.length<=ah] (by kernel_rfl) (fun p h9=>by rw[a2p.1 h9];exact h)) rfl rfl rfl rfl
theorem aaZ(l:List V):Pz (nV l):=by unfold nV;split;exact aaW;exact afZ
theorem ZR{a b c:V}(ha:Pz a)(hb:Pz b)(hc:Pz c):Pz (jF a b c).1:=by have:=a3d (yj.1 ha) (yj.1 hb) (yj.1 hc);rw[this.1];exact yj.2 this.2
def wS(p:Int×Dg×Dg):Dg×Int:=if(bK [p.2.1,p.2.2] != 0)=true then(jf,bK [p.2.1,p.2.2])else if((pq p.1 ji ji).2 != 0)=true then(jf,(pq p.1 ji ji).2)else(Jw (eG [p.2.1,p.2.2]) (aaX p.1),0)
def Y6(p:Dg×Dg×Dg):Dg×Int:=if(bK [p.1,p.2.1,p.2.2] != 0)=true then(jf,bK [p.1,p.2.1,p.2.2])else(Jw (eG [p.1,p.2.1,p.2.2]) aaY,0)
def zK(p:Dg):Dg×Int:=if(bK [p] != 0)=true then(jf,bK [p])else(Jw (eG [p]) nV,0)
theorem ab1{P:Dg->Prop}{a b:Dg}(ha:P a)(hb:P b):∀d∈[a,b],P d:=fun x hx=>by
 rcases a2d.1 hx with rfl|hx
 .exact ha
 .rw[a2p.1 hx];exact hb
theorem aq3{P:Dg->Prop}{a b c:Dg}(ha:P a)(hb:P b)(hc:P c):∀d∈[a,b,c],P d:=fun x hx=>by
 rcases a2d.1 hx with rfl|hx
 .exact ha
 .exact ab1 hb hc x hx
abbrev rnE(e:Int):PV aC:=.dG [.agg [.nil .aP,.nil .aP,.nil .aP,.nil .aP,.int .i64 0],.int .i64 e]
abbrev HcA(D:List Dg)(u:Int)(g:LI0):List (PB aC):=[.list true true 26 D,.cells [.int .u8 u],.list true true 3 g]
abbrev HcB(u:Int):List (PB aC):=[.gone,.cells [.int .u8 u],.gone]
theorem rE(e:Int):Fp (Γ:=X0.Γ) (Is (X:=X0) (P:=Qp) (dR (a2 dA iA)) (jf,e)) .n (.ret (some (rnE e))):=by have h:(dR (a2 dA iA)).get (rnE e)=some (jf,e):=rfl;exact Fp.rn (X:=X0) (P:=Qp) (rnE e) h
def al0:eY aC:=bT 62 (a3 uA dA dA) (dR (a2 dA iA)) wS (fun p=>[qC p.2.1,qC p.2.2]) Y5
theorem ab2:(2:Nat)<=ah:=by unfold ah;omega
theorem ag0:(3:Nat)<=ah:=by unfold ah;omega
theorem aq5:Gd al0:=Good.a1e 24 a1P XR I8 a1P fun n hn hO FV hO3 hO4 p hp=>by obtain⟨u,d,e⟩:=p;have h1:∀x∈[d,e],qC x:=ab1 (hp _ gZ) (hp _ yI);have h3:0<[d,e].length∧[d,e].length<=ah:=⟨by simp,ab2⟩;have hJ:(bK [d,e] != 0)=false->kE (eG [d,e]):=fun e1=>AX (D:=[d,e]) (by simp) (by simp) h1 (by simpa using e1);have s1:=fun(e1:(bK [d,e] != 0)=false)=>afX (n:=n) (f:=112) u (by omega) (fun m hm=>hO3 m (by omega)) (D:=[d,e]) (by simp) (hJ e1).eF.len (k:=true) (ex:=true);have s2:=fun(e1:(bK [d,e] != 0)=false) (e2:((pq u ji ji).2 != 0)=false)=>akU (n:=n) (f:=112) u (hJ e1) (op:=aaX u) (PS (hJ e1) (Jb.inD h1 (show bK [d,e]=0 by simpa using e1)) fun l hl hv=>(aaU (aaV e2) (hv _ (dK (show 0<l.length by rw[hl];exact Nat.zero_lt_two))) (hv _ (dK (show 1<l.length by rw[hl];exact Nat.one_lt_two)))).1) (by omega) (fun m hm=>FV m (by omega)) (fun m hm l hl=>akY (by omega) (hO4 _ (by omega)) hl) (k:=true) (ex:=true) (k2:=true) (L9:=true);show nY X0 Qp _ _ _ ((dR (a2 dA iA)).put (if(bK [d,e] != 0)=true then(jf,bK [d,e])else if((pq u ji ji).2 != 0)=true then(jf,(pq u ji ji).2)else(Jw (eG [d,e]) (aaX u),0))) _;exact aN (hO n (by omega)) (.o h1 (.o h3 (.sh (fun _=>rE _) fun e1=>.sh (fun _=>rE _) fun e2=>.Qe (H2:=HcA [d,e] u (eG [d,e]).g) [2,0] [1] (s1 e1) (.Qe (H2:=HcB u) [2,0,3] [1] (s2 e1 e2) .rr))))
def al1:eY aC:=bT 63 (a3 dA dA dA) (dR (a2 dA iA)) Y6 (fun p=>[qC p.1,qC p.2.1,qC p.2.2]) al0
theorem aq6:Gd al1:=Good.a1e 24 aq5 XR I8 a1P fun n hn hO FV hO3 hO4 p hp=>by obtain⟨a,b,c⟩:=p;have h1:∀x∈[a,b,c],qC x:=aq3 (hp _ gZ) (hp _ yI) (hp _ hh2);have h3:0<[a,b,c].length∧[a,b,c].length<=ah:=⟨by simp,ag0⟩;have hJ:(bK [a,b,c] != 0)=false->kE (eG [a,b,c]):=fun e1=>AX (D:=[a,b,c]) (by simp) (by simp) h1 (by simpa using e1);have s1:=fun(e1:(bK [a,b,c] != 0)=false)=>JG (n:=n) (f:=113) (by omega) (fun m hm=>hO3 m (by omega)) (D:=[a,b,c]) (by simp) (hJ e1).eF.len (k:=true) (ex:=true);have s2:=fun(e1:(bK [a,b,c] != 0)=false)=>a81 (n:=n) (f:=113) (hJ e1) (op:=aaY) (PS (hJ e1) (Jb.inD h1 (show bK [a,b,c]=0 by simpa using e1)) fun l hl hv=>ZR (hv _ (dK (show 0<l.length by rw[hl];exact Nat.succ_pos 2))) (hv _ (dK (show 1<l.length by rw[hl];exact Nat.succ_lt_succ (Nat.succ_pos 1)))) (hv _ (dK (show 2<l.length by rw[hl];exact Nat.lt_succ_self 2)))) (by omega) (fun m hm=>FV m (by omega)) (fun m hm l hl=>aq2 (by omega) (hO4 _ (by omega)) hl) (k:=true) (ex:=true) (k2:=true) (L9:=true);show nY X0 Qp _ _ _ ((dR (a2 dA iA)).put (if(bK [a,b,c] != 0)=true then(jf,bK [a,b,c])else(Jw (eG [a,b,c]) aaY,0))) _;exact aN (hO n (by omega)) (.o h1 (.o h3 (.sh (fun _=>rE _) fun e1=>.fr [1] (s1 e1) (.fr [1,2] (s2 e1) .rr))))
def al2:eY aC:=bT 67 (a1 dA) (dR (a2 dA iA)) zK (fun p=>[qC p]) al1
theorem aq7:Gd al2:=Good.a1e 24 aq6 XR I8 a1P fun n hn hO FV hO3 hO4 d hp=>by
 have h1:∀x∈[d],qC x:=fun x hx=>by rw[a2p.1 hx];exact hp _ gZ
 have h3:0<[d].length∧[d].length<=ah:=⟨by simp,a3O⟩;have hJ:(bK [d] != 0)=false->kE (eG [d]):=fun e1=>AX (D:=[d]) (by simp) (by simp) h1 (by simpa using e1);have s1:=fun(e1:(bK [d] != 0)=false)=>JG (n:=n) (f:=117) (by omega) (fun m hm=>hO3 m (by omega)) (D:=[d]) (by simp) (hJ e1).eF.len (k:=true) (ex:=true);have s2:=fun(e1:(bK [d] != 0)=false)=>a81 (n:=n) (f:=117) (hJ e1) (op:=nV) (fun t hd=>aaZ _) (by omega) (fun m hm=>FV m (by omega)) (fun m hm l hl=>akZ (hO4 m (by omega)) (by rw[hl];exact a3O)) (k:=true) (ex:=true) (k2:=true) (L9:=true);show nY X0 Qp _ _ _ ((dR (a2 dA iA)).put (if(bK [d] != 0)=true then(jf,bK [d])else(Jw (eG [d]) nV,0))) _;exact aN (hO n (by omega)) (.o h1 (.o h3 (.sh (fun _=>rE _) fun e1=>.fr [1] (s1 e1) (.fr [1,2] (s2 e1) .rr))))
open Go Tw Pv bQ
def nX(v:V):Int:=if(!(D9 v))=true then 2 else 0
def Y7:eY aC:=bT 106 (a1 vA) iA (fun p=>nX p) np al2
theorem adp:Gd Y7:=aq7.add fun n hO p hp=>aN hO (.ss .rr .rr)
theorem a8b{n f:Nat}{J:Jb}{k ex k2 L9:Bool}(h:iQ n (.fn 87 [] []) [.agg (J.ps (.fn f [] []))] [] (.map 0) [.map (kV.im (bW J))]):iQ n (.fn 87 [] []) [.agg [lI J.s,lI J.o,.own 0,.own 1,.fn f [] []]] [.list k ex 26 J.D,.list k2 L9 3 J.g] (.map 2) [.gone,.gone,.map (kV.im (bW J))]:=by have h1:=dD.frame hX (ks:=[]) (H':=[.gone,.gone]) (Hp:=[]) (Qj:=[.map (kV.im (bW J))]) (v':=.map 2) (fv':=.fn 87 [] []) (xs':=[.agg (J.ps (.fn f [] []))]) h (by decide) rfl rfl rfl rfl rfl rfl rfl;exact dD.fz hX (H:=[.list k ex 26 J.D,.list k2 L9 3 J.g]) (cs:=[lI J.s,lI J.o,.own 0,.own 1]) (rest:=[.fn f [] []]) [0,1] h1 rfl (fun i hi=>by simpa[kP.jX,kP]using hi)
open Go Tw Pv bQ
def look(t:List (V×Int))(v:V):Int:=((t.find? fun e=>decide (e.1=v)).map (·.2)).getD 0
theorem Ib{t:List (V×Int)}(hn:(t.map (·.1)).Nodup)(v:V):(qg X0 Qp 39 (kV.im t) (kV.tv v) (.int .i64 (look t v)))∨(look t v=0∧nM X0 Qp 39 (kV.im t) (kV.tv v)):=by
 by_cases h:v∈t.map (·.1)
 .obtain⟨e,he,hv⟩:=a1g.1 h;obtain⟨e2,h2⟩:=a4J.1 (List.find?_isSome (p:=fun e:V×Int=>decide (e.1=v)) |>.2 ⟨e,he,show decide (e.1=v)=true by simpa using hv⟩);have h3:e2.1=v:=by simpa using List.find?_some h2
  refine .inl (kV.found (by rw[zJ];exact hn) (a1g.2 ⟨e2,aeb h2,?_⟩));unfold look;rw[h2,h3];rfl
 refine .inr ⟨?_,kV.fresh (by rw[zJ];exact h)⟩;unfold look;rw[adu.2 fun e he=>by simp only[a1o];intro hv;exact h (a1g.2 ⟨e,he,hv⟩)]
 rfl
abbrev al3:PV aC:=.agg [.nil .aP,.nil .aP,.nil .aP,.nil .aP,.nil .fn]
abbrev a8c(J:Jb)(f:Nat)(a b:Nat):PV aC:=.agg [lI J.s,lI J.o,.own a,.own b,.fn f [] []]
abbrev HO(D:List Dg)(g:LI0):List (PB aC):=[.list true true 26 D,.list true true 3 g]
theorem a8d{P:Dg->Prop}{d:Dg}(h:P d):∀x∈[d],P x:=fun x hx=>by rw[a2p.1 hx];exact h
theorem al4{n:Nat}(hO:Ok n Y7){d:Dg}{v:V}(hp:qC d)(e1:(bK [d] != 0)=true):iQ (n+1) (.fn 86 [] []) [.agg d.ps,.agg v.ps] [] (.dG [al3,.int .i64 (bK [d])]) []:=by have h1:∀x∈[d],qC x:=a8d hp;have h3:0<[d].length∧[d].length<=ah:=⟨by simp,a3O⟩;exact dD.drop hX (mZ hX hO (first:=[]) (cap:=[]) (H1:=[.list true true 26 [d]]) (by kernel_rfl) (.o h1 (.o h3 (.b e1 .er)))) rfl rfl
theorem al5{n:Nat}(hO:Ok n Y7){d:Dg}{v:V}(hp:qC d)(e1:(bK [d] != 0)=false)(e2:(nX v != 0)=true):iQ (n+1) (.fn 86 [] []) [.agg d.ps,.agg v.ps] [] (.dG [al3,.int .i64 4]) []:=by have h1:∀x∈[d],qC x:=a8d hp;have h3:0<[d].length∧[d].length<=ah:=⟨by simp,a3O⟩;exact dD.drop hX (mZ hX hO (first:=[]) (cap:=[]) (H1:=[.list true true 26 [d]]) (by kernel_rfl) (.o h1 (.o h3 (.b e1 (.b e2 .er))))) rfl rfl
theorem al6{n:Nat}(h2:2<=n)(BG:Ok n Y7)(hO:∀m,n-2<=m->Ok m rQ){d:Dg}{v:V}(hp:qC d)(e1:(bK [d] != 0)=false)(e2:(nX v != 0)=false):iQ (n+1) (.fn 86 [] []) [.agg d.ps,.agg v.ps] [] (.dG [a8c (eG [d]) 79 0 1,.int .i64 0]) (HO [d] (eG [d]).g):=by have h1:∀x∈[d],qC x:=a8d hp;have h3:0<[d].length∧[d].length<=ah:=⟨by simp,a3O⟩;have hJ:kE (eG [d]):=AX (D:=[d]) (by simp) (by simp) h1 (by simpa using e1);have s1:=JG (n:=n) (f:=79) h2 hO (D:=[d]) (by simp) hJ.eF.len (k:=true) (ex:=true);have h:iQ (n+1) (.fn 86 [] []) [.agg d.ps,.agg v.ps] [] (.dG [a8c (eG [d]) 79 1 2,.int .i64 0]) [.list true true 26 [d],.list true true 26 [d],.list true true 3 (eG [d]).g]:=fB BG (first:=[]) (cap:=[]) (.o h1 (.o h3 (.b e1 (.b e2 (.fr [1] s1 .er)))));exact dD.gs hX h [.gc [1,2]] rfl
theorem ql(J:Jb):((bW J).map (·.1)).Nodup:=(((lY Vd (yG (jC J))).map (·.1)).nodup_iff).2 (Ak (jC J)).1
theorem Dx(φ:V->Int)(J:Jb):dF φ (bW J)=dS φ (jC J):=by unfold bW;rw[a2V φ (lY Vd (yG (jC J))),Sj]
theorem Y8{α:Type}:∀l:List α,dS (fun _=>1) l=(l.length:Int)
 | []=>rfl
 |a::l=>by have:=Y8 l;simp only[dS,a4b];omega
theorem Tf{J:Jb}(hJ:kE J):JD (bW J):=by
 refine⟨fun e he=>(Ak (jC J)).2 e ((lY Vd (yG (jC J))).mem_iff.1 he),?_⟩;rw[Dx,Y8];have h1:(jC J).length<=(Qq J).length:=by unfold jC Vb;rw[a4h];exact a4A (a8L _ _) (by rw[a4h];exact a0U _)
 have h2:(Qq J).length<=FD J.s:=a4A (a8L _ _) (by rw[a4h,a8D];exact a0U _);have h3:=hJ.eF.a6l;have h4:=hJ.eF.many;omega
def Vh(p:Dg×V):Int×Int:=if(bK [p.1] != 0)=true then(0,bK [p.1])else if(nX p.2 != 0)=true then(0,4)else(look (bW (eG [p.1])) p.2,0)
def ag3:eY aC:=bT 27 (a2 dA vA) (dR (a2 iA iA)) Vh (fun p=>[qC p.1]) Y7
theorem aq8:Gd ag3:=Good.WY 24 adp I8 fun n hn hO FV p hp=>by
 obtain⟨d,v⟩:=p;have h1:qC d:=hp _ gZ;obtain⟨n,rfl⟩:∃k,n=k+1:=⟨n-1,by omega⟩;have BG:=hO (n+1) (by omega);cases e1:(bK [d] != 0)
 .cases e2:(nX v != 0)
  .have s1:=al6 (n:=n) (by omega) (hO n (by omega)) (fun m hm=>FV m (by omega)) h1 e1 e2;have hJ:kE (eG [d]):=AX (D:=[d]) (by simp) (by simp) (a8d h1) (by simpa using e1);have s2:=a8b (k:=true) (ex:=true) (k2:=true) (L9:=true) (PK hJ (n:=n-1) (f:=79) (FV _ (by omega)) (show 0<[d].length by simp));rw[show n-1+2=n+1 by omega]at s2;show nY X0 Qp _ _ _ ((dR (a2 iA iA)).put (if(bK [d] != 0)=true then(0,bK [d])else if(nX v != 0)=true then(0,4)else(look (bW (eG [d])) v,0))) _;rw[e1,e2];rcases Ib (ql (eG [d])) v with hf|⟨hz,hf⟩
   .exact aN BG (.fr [] s1 (.b (rfl:((0:Int) != 0)=false) (.fr [0,1] s2 (.c (.int .i64 (look (bW (eG [d])) v)) [] hf .rr))))
   .rw[hz];exact aN BG (.fr [] s1 (.b (rfl:((0:Int) != 0)=false) (.fr [0,1] s2 (.a .calm (.o hf .rr)))))
  .have s1:=al5 (n:=n) (hO n (by omega)) h1 e1 e2;show nY X0 Qp _ _ _ ((dR (a2 iA iA)).put (if(bK [d] != 0)=true then(0,bK [d])else if(nX v != 0)=true then(0,4)else(look (bW (eG [d])) v,0))) _;rw[e1,e2];exact aN BG (.fr [] s1 (.b (rfl:((4:Int) != 0)=true) .rr))
 .have s1:=al4 (n:=n) (v:=v) (hO n (by omega)) h1 e1;show nY X0 Qp _ _ _ ((dR (a2 iA iA)).put (if(bK [d] != 0)=true then(0,bK [d])else if(nX v != 0)=true then(0,4)else(look (bW (eG [d])) v,0))) _;rw[a0g e1];exact aN BG (.fr [] s1 (.b e1 .rr))
open Go Tw Pv bQ
structure An where
 q:Int
 none:Bool
 yes:Bool
 n:Int
 lo:Int
 hi:Int
 fault:Bool
 set:LI0
deriving DecidableEq
abbrev KH:An:=⟨0,false,false,0,0,0,false,[]⟩
def al7:Ar X0 Qp Unit where
 put _:=.nil .aP
 get v:=match v with
  |.nil .aP=>some ()
  |_=>none
 ok:=by
  intro v a hg A m h x hv;split at hg
  .exact hv
  .cases hg
def Ti:Arg An:=aeD (a6f (KT uA (KT tA (KT tA (KT iA (KT iA (a4 iA tA rJ al7)))))))
 (fun p=>⟨p.1,p.2.1,p.2.2.1,p.2.2.2.1,p.2.2.2.2.1,p.2.2.2.2.2.1,p.2.2.2.2.2.2.1,p.2.2.2.2.2.2.2.1⟩) (fun a=>(a.q,a.none,a.yes,a.n,a.lo,a.hi,a.fault,a.set,())) fun _=>rfl
abbrev anW(a:An)(s:PV aC):PV aC:=.agg [.int .u8 a.q,.bool a.none,.bool a.yes,.int .i64 a.n,.int .i64 a.lo,.int .i64 a.hi,.bool a.fault,s,.nil .aP]
theorem rA(a:An)(h:a.set=[])(e:Int):Fp (Γ:=X0.Γ) (Is (X:=X0) (P:=Qp) (dR (a2 Ti iA)) (a,e)) .n (.ret (some (.dG [anW a (.nil .aP),.int .i64 e]))):=by obtain⟨q,no,y,n,l,hi,f,s⟩:=a;cases h;have h:(dR (a2 Ti iA)).get (.dG [anW ⟨q,no,y,n,l,hi,f,[]⟩ (.nil .aP),.int .i64 e])=some (⟨q,no,y,n,l,hi,f,[]⟩,e):=rfl;exact Fp.rn (X:=X0) (P:=Qp) _ h
def a8e(q:Int)(t:List (V×Int)):An×Int:=
 if(q==1)=true then(⟨q,false,look t ji==dF (fun _=>1) t,0,0,0,false,[]⟩,0)
 else if(q==2)=true then(⟨q,false,decide (look t ji>0),0,0,0,false,[]⟩,0)
 else if(q==3)=true then(⟨q,false,false,look t ji,0,0,false,[]⟩,0)
 else if(q==4)=true then(if lK t=[]then(⟨q,true,false,0,0,0,uG t,[]⟩,0)else(⟨q,((lK t).length:Int)==0,false,0,(lK t).getD 0 0,(lK t).getD (i64.wrap ((lK t).length-1)).toNat 0,uG t,[]⟩,0))
 else(⟨q,false,false,0,0,0,uG t,lK t⟩,0)
def FP(q:Int)(t:List (V×Int)):An×Int:=if t=[]then(⟨q,true,false,0,0,0,false,[]⟩,0)else a8e q t
def a1Q(p:Int×Dg×Dg):An×Int:=if(bK [p.2.1,p.2.2] != 0)=true then(KH,bK [p.2.1,p.2.2])else if decide (p.1<1)=true then(KH,2)else if decide (p.1>5)=true then(KH,2)else FP p.1 (bW (eG [p.2.1,p.2.2]))
def ab3:eY aC:=bT 33 (a3 uA dA dA) (dR (a2 Ti iA)) a1Q (fun p=>[qC p.2.1,qC p.2.2]) ag3
theorem ag4{t:List (V×Int)}(h:JD t):(lK t).length<=2000:=by unfold lK;rw[show ∀l:LI0,(gK l).length=l.length from fun l=>(adQ l _).length_eq,a4h];exact a4A (a8L _ _) h.len
abbrev HMt(t:List (V×Int)):List (PB aC):=[.map (kV.im t)]
abbrev HMn(t:List (V×Int)):List (PB aC):=[.map (kV.im t),.list false false 3 (lK t)]
section
variable {n:Nat} {q:Int} {d e:Dg} (hO:Ok n ag3) (h1:∀ x∈[d,e],qC x) (e1:(bK [d,e] != 0)=false) (e2:decide (q<1)=false) (e3:decide (q>5)=false) {t:List (V×Int)} (ht:JD t)
 (s1:dD X0 Tryz.prog (iy n) (.fn 78 [] []) [.fn 79 [] [],.own 0] [.list true true 26 [d,e]] (a8c (eG [d,e]) 79 0 1) (HO [d,e] (eG [d,e]).g))
 (s2:dD X0 Tryz.prog (iy n) (.fn 87 [] []) [a8c (eG [d,e]) 79 0 1] (HO [d,e] (eG [d,e]).g) (.map 2) [.gone,.gone,.map (kV.im t)])
 (s3:dD X0 Tryz.prog (iy n) (.fn 90 [] []) [.map 0] [.iD (kV.im t)] (.int .i64 (dF (fun _=>1) t)) [.iD (kV.im t)])
 (s4:lK t=[]->dD X0 Tryz.prog (iy n) (.fn 88 [] []) [.map 0] [.iD (kV.im t)] (.dG [.nil .aP,.bool (uG t)]) [.iD (kV.im t)])
 (s5:lK t≠[]->dD X0 Tryz.prog (iy n) (.fn 88 [] []) [.map 0] [.iD (kV.im t)] (.dG [.own 1,.bool (uG t)]) [.iD (kV.im t),.list false false 3 (lK t)])
include hO h1 e1 e2 e3 s1 s2
theorem ab4(h:t=[]):nY X0 Qp (iy (n+1)) 33 ((a3 uA dA dA).put (q,d,e)) ((dR (a2 Ti iA)).put (⟨q,true,false,0,0,0,false,[]⟩,0)) []:=by subst h;have h3:0<[d,e].length∧[d,e].length<=ah:=⟨by simp,ab2⟩;exact aN hO (.o h1 (.o h3 (.b e1 (.b e2 (.b e3 (.fr [1] s1 (.fr [1,2] s2 (.b (show(((kV.im ([]:List (V×Int))).length:Int)==0)=true from rfl) (rA _ rfl _)))))))))
variable (hd:(t.map (·.1)).Nodup)
include ht s3 s4 s5 hd
theorem a8f(h:t≠[]):nY X0 Qp (iy (n+1)) 33 ((a3 uA dA dA).put (q,d,e)) ((dR (a2 Ti iA)).put (a8e q t)) []:=by
 have h3:0<[d,e].length∧[d,e].length<=ah:=⟨by simp,ab2⟩;have hl:(((kV.im t).length:Int)==0)=false:=by
  rw[kV.oZ];cases t with
  |nil=>exact absurd rfl h
  |cons a r=>exact bne (by simp only[a4b];omega)
 have TG:=ag4 ht;have s0:iQ n (.fn 89 [] []) [] [] (.agg ji.ps) []:=nY.ZI hX (first:=[]) (cap:=[]) (hO 89 [] (vA.put ji) [] [] (by kernel_rfl) (fun p h=>by cases h)) rfl rfl rfl rfl;unfold a8e;by_cases hn:lK t=[]
 .rw[a0g hn];rcases Ib hd ji with hf|⟨hz,hf⟩
  .exact aN hO (.o h1 (.o h3 (.b e1 (.b e2 (.b e3 (.fr [1] s1 (.fr [1,2] s2 (.b hl (.Qe (H2:=HMt t) [3] [0] (s4 hn) (.ss (.fr [] s0 (.c (.int .i64 (look t ji)) [] hf (.Qe (H2:=HMt t) [3] [0] s3 (rA _ rfl _)))) (.ss (.fr [] s0 (.c (.int .i64 (look t ji)) [] hf (rA _ rfl _))) (.ss (.fr [] s0 (.c (.int .i64 (look t ji)) [] hf (rA _ rfl _))) (.ss (.b (c:=!((0:Int)==0)) (t:=false) rfl (rA _ rfl _)) (rA ⟨q,false,false,0,0,0,uG t,lK t⟩ hn _))))))))))))))
  rw[hz];exact aN hO (.o h1 (.o h3 (.b e1 (.b e2 (.b e3 (.fr [1] s1 (.fr [1,2] s2 (.b hl (.Qe (H2:=HMt t) [3] [0] (s4 hn) (.ss (.a .calm (.o hf (.Qe (H2:=HMt t) [3] [0] s3 (rA _ rfl _)))) (.ss (.a .calm (.o hf (rA _ rfl _))) (.ss (.a .calm (.o hf (rA _ rfl _))) (.ss (.b (c:=!((0:Int)==0)) (t:=false) rfl (rA _ rfl _)) (rA ⟨q,false,false,0,0,0,uG t,lK t⟩ hn _))))))))))))))
 rw[a0c hn];have hp:0<(lK t).length:=a9A.2 hn;have hb:(!(((lK t).length:Int)==0))=true:=by rw[bne (by omega)];rfl
 have i0:gW 0 (lK t).length:=aG hp;have i1:gW (i64.wrap ((lK t).length-1)) (lK t).length:=by rw[wrap_small (by omega) (by omega)];exact⟨by omega,by omega⟩
 rcases Ib hd ji with hf|⟨hz,hf⟩
 .exact aN hO (.o h1 (.o h3 (.b e1 (.b e2 (.b e3 (.fr [1] s1 (.fr [1,2] s2 (.b hl (.Qe (H2:=HMn t) [3] [0] (s5 hn) (.ss (.fr [] s0 (.c (.int .i64 (look t ji)) [] hf (.Qe (H2:=HMt t) [3] [0] s3 (rA _ rfl _)))) (.ss (.fr [] s0 (.c (.int .i64 (look t ji)) [] hf (rA _ rfl _))) (.ss (.fr [] s0 (.c (.int .i64 (look t ji)) [] hf (rA _ rfl _))) (.ss (.b hb (.o i0 (.o i1 (rA _ rfl _)))) .rr)))))))))))))
 rw[hz];exact aN hO (.o h1 (.o h3 (.b e1 (.b e2 (.b e3 (.fr [1] s1 (.fr [1,2] s2 (.b hl (.Qe (H2:=HMn t) [3] [0] (s5 hn) (.ss (.a .calm (.o hf (.Qe (H2:=HMt t) [3] [0] s3 (rA _ rfl _)))) (.ss (.a .calm (.o hf (rA _ rfl _))) (.ss (.a .calm (.o hf (rA _ rfl _))) (.ss (.b hb (.o i0 (.o i1 (rA _ rfl _)))) .rr)))))))))))))
end
theorem ag5:Gd ab3:=Good.WY 24 aq8 I8 fun n hn hO FV p hp=>by
 obtain⟨q,d,e⟩:=p;have h1:∀x∈[d,e],qC x:=ab1 (hp _ gZ) (hp _ yI);have h3:0<[d,e].length∧[d,e].length<=ah:=⟨by simp,ab2⟩;have BG:=hO n (by omega);show nY X0 Qp _ _ _ ((dR (a2 Ti iA)).put (if(bK [d,e] != 0)=true then(KH,bK [d,e])else if decide (q<1)=true then(KH,2)else if decide (q>5)=true then(KH,2)else FP q (bW (eG [d,e])))) _;cases e1:(bK [d,e] != 0)
 .cases e2:decide (q<1)
  .cases e3:decide (q>5)
   .have hJ:=AX (D:=[d,e]) (by simp) (by simp) h1 (by simpa using e1);have ht:=Tf hJ;have s1:=JG (n:=n) (f:=79) (by omega) (fun m hm=>FV m (by omega)) (D:=[d,e]) (by simp) hJ.eF.len (k:=true) (ex:=true);have s2:=a8b (k:=true) (ex:=true) (k2:=true) (L9:=true) (PK hJ (n:=n-2) (f:=79) (FV _ (by omega)) (show 0<[d,e].length by simp));have s3:=apQ (n:=n-1) ht;have s4:=(adn (n:=n-2) ht).1;have s5:=(adn (n:=n-2) ht).2;rw[show n-2+2=n by omega]at s2 s4 s5;rw[show n-1+1=n by omega]at s3;show nY X0 Qp _ _ _ ((dR (a2 Ti iA)).put (FP q (bW (eG [d,e])))) _;unfold FP;by_cases h:bW (eG [d,e])=[]
    .rw[a0g h];exact ab4 BG h1 e1 e2 e3 s1 s2 h
    .rw[a0c h];exact a8f BG h1 e1 e2 e3 ht s1 s2 s3 s4 s5 (ql _) h
   .exact aN BG (.o h1 (.o h3 (.b e1 (.b e2 (.b e3 (rA _ rfl _))))))
  .exact aN BG (.o h1 (.o h3 (.b e1 (.b e2 (rA _ rfl _)))))
 .exact aN BG (.o h1 (.o h3 (.b e1 (rA _ rfl _))))
open Go Tw Pv bQ
section
variable {n:Nat} {t:List (V×Int)} (h:JD t) (ht:t≠[])
theorem al8{k:Bool}:iQ (n+1) (.fn 96 [] []) [.map 0] [.map (kV.im t)] vF [.map (kV.im t),.cells [.map 0]]:=
 fB fZ (first:=[]) (cap:=[]) .er
include h ht
theorem al9:iQ (n+3) (.fn 95 [] []) [vF] [.iD (kV.im t),.aF [.map 0]] (.aP 2 0 t.length t.length 1 false) [.iD (kV.im t),.aF [.map 0],.mP ((lH t).map L8)]:=by have h1:=aaP (n:=n) h ht;exact fB fZ (first:=[]) (cap:=[]) (.k h1 .er)
omit ht in
theorem a8g:(lH t).length=t.length:=by unfold lH;rw[(lY _ _).length_eq,a4h]
theorem ala:iQ (n+1) (.fn 94 [] []) [.aP 0 0 t.length t.length 1 false] [.mP ((lH t).map L8)] (.int .i64 (JF (lH t))) [.mP ((lH t).map L8)]:=by
 have hl:=a8g h;have h0:lH t≠[]:=fun e=>ht (a4F.1 (by rw[<-hl,e];rfl));have:=akO (n:=n) h0 (by rw[hl];exact h.len)
 rwa [hl]at this
end
open Go Tw Pv bQ
abbrev lkC(no:Bool)(n:Int)(s:PV aC):List (PV aC):=[.int .u8 8,.bool no,.bool false,.int .i64 n,.int .i64 0,.int .i64 0,.bool false,s,.nil .aP]
abbrev wLk(f:Bool×Bool)(l:List Dg)(d:Dg)(n:Int)(s:PV aC)(H:List (PB aC))(i:Int)(x:List (Nat×PE aC)):aS aC:=⟨[(3,.loc 0 0),(4,.loc 1 0),(31,.val (.own 0)),(32,xi l.length),(33,xi i)]++x,[d.ps,lkC false n s],.list f.1 f.2 26 l::H⟩
abbrev hLk(b:Int):List (PB aC):=[.list true true 3 ([b]:LI0)]
def alb(f:Bool×Bool)(l:List Dg)(d:Dg)(i:Int)(x:List (Nat×PE aC)):Option (Int×Int)->aS aC
 |none=>wLk f l d 0 (.nil .aP) [] i x
 |some (b,z)=>wLk f l d z (.own 1) (hLk b) i x
def Y9(l:List Dg)(d:Dg)(k:Nat):List (V×Int):=bW (eG [l.getD k jf,d])
def mLk(l:List Dg)(d:Dg)(k:Nat):Int:=JF (lH (Y9 l d k))
def Vt(l:List Dg)(d:Dg)(k:Nat)(s:Option (Int×Int)):Option (Int×Int)⊕(Option (Int×Int)×Nat):=
 if Y9 l d k=[]then .inr (s,k)else match s with
  |none=>.inl (some ((k:Int),mLk l d k))
  |some (b,z)=>if decide (mLk l d k<z)=true then .inl (some ((k:Int),mLk l d k))else .inl (some (b,z))
def zLk(f:Bool×Bool)(l:List Dg)(d:Dg):Option (Int×Int)⊕(Option (Int×Int)×Nat)->Ex×aS aC
 |.inl s=>(.exit 1,alb f l d l.length [(34,xl false)] s)
 |.inr (none,k)=>(.ret,⟨[(4,.loc 1 0),(5,xi 0)],[d.ps,lkC true 0 (.nil .aP),(l.getD k jf).ps],[.list f.1 f.2 26 l]⟩)
 |.inr (some (b,z),k)=>(.ret,⟨[(4,.loc 1 0),(5,xi 0)],[d.ps,lkC true z (.own 1),(l.getD k jf).ps],.list f.1 f.2 26 l::hLk b⟩)
structure LkP(l:List Dg)(d:Dg):Prop where
 p:∀x∈l++[d],qC x
 g:∀x∈l++[d],DgG x∧x.aA=((l++[d]).getD 0 jf).aA∧x.aH=((l++[d]).getD 0 jf).aH
theorem LkP.j{l:List Dg}{d:Dg}(h:LkP l d){k:Nat}(hk:k<l.length):kE (eG [l.getD k jf,d]):=by have h1:=h.g (l.getD k jf) (a4p _ (dK hk));have h2:=h.g d (aaf _ (a2p.2 rfl));exact ado (D:=[l.getD k jf,d]) (by simp) (by simp) (ab1 (P:=fun x=>DgG x∧x.aA=(l.getD k jf).aA∧x.aH=(l.getD k jf).aH) ⟨h1.1,rfl,rfl⟩ ⟨h2.1,h2.2.1.trans h1.2.1.symm,h2.2.2.trans h1.2.2.symm⟩)
theorem lLk{n:Nat}(hn:24<=n)(hO:∀m,n-24<=m->Ok m rQ)(f:Bool×Bool){l:List Dg}{d:Dg}(h:LkP l d)(hl:l.length<=ah):MC n 39 0 1 (wLk f l d 0 (.nil .aP) [] 0 []) (zLk f l d (iZ (Vt l d) l.length 0 none)).1 (zLk f l d (iZ (Vt l d) l.length 0 none)).2:=by
 refine iK (st:=fun i s=>alb f l d i [] s) (g:=Vt l d) (out:=zLk f l d) (s0:=none) (fun k s=>k=0↔s=none) (by kernel_rfl) hl (by simp) (fun k s m hk hi ih=>?_) (fun s _=>?_)
 .have hJ:=h.j hk;have ht:JD (Y9 l d k):=Tf hJ;have s1:=JG (n:=n) (f:=79) (by omega) (fun m hm=>hO m (by omega)) (D:=[l.getD k jf,d]) (by simp) hJ.eF.len (k:=true) (ex:=true);have s2:=a8b (k:=true) (ex:=true) (k2:=true) (L9:=true) (PK hJ (n:=n-2) (f:=79) (hO _ (by omega)) (show 0<[l.getD k jf,d].length by simp));rw[show n-2+2=n by omega]at s2
  change dD _ _ _ _ _ _ _ [.gone,.gone,.map (kV.im (Y9 l d k))]at s2
  unfold Vt;by_cases h0:Y9 l d k=[]
  .rw[a0g h0];rw[h0]at s2;have hz:(((kV.im ([]:List (V×Int))).length:Int)==0)=true:=rfl;rcases s with _|⟨b,z⟩
   .exact aJ fZ (.b (aW hk) (.o (aG hk) (.fr [1] s1 (.fr [1,2] s2 (.b hz (.ouG [.gc []] nofun))))))
   exact aJ fZ (.b (aW hk) (.o (aG hk) (.fr [2] s1 (.fr [2,3] s2 (.b hz (.ouG [.gc [1]] nofun))))))
  rw[a0c h0];have hz:(((kV.im (Y9 l d k)).length:Int)==0)=false:=by rw[kV.oZ];exact bne (by have:=a9A.2 h0;omega)
  have s3:=al8 (n:=n-1) (t:=Y9 l d k) (k:=true);have s4:=al9 (n:=n-3) ht h0;have s5:=ala (n:=n-1) ht h0;rw[show n-1+1=n by omega]at s3 s5;rw[show n-3+3=n by omega]at s4;rcases s with _|⟨b,z⟩
  .have hk0:k=0:=hi.2 rfl;have hb:((k:Int)==0)=true:=by rw[hk0];rfl
   exact aJ fZ (.b (aW hk) (.o (aG hk) (.fr [1] s1 (.fr [1,2] s2 (.b hz (.fr [3] s3 (.Qe (H2:=[.map (kV.im (Y9 l d k)),.cells [.map 0],.mP ((lH (Y9 l d k)).map L8)]) [3,4] [0,1] s4 (.fr [5] s5 (.b hb (.nxG [.gc [6]] (ih _ (by simp))))))))))))
  have hk0:k≠0:=fun e=>by cases hi.1 e
  have hb:((k:Int)==0)=false:=bne (by omega);exact aJ fZ (.b (aW hk) (.o (aG hk) (.fr [2] s1 (.fr [2,3] s2 (.b hz (.fr [4] s3 (.Qe (H2:=[.map (kV.im (Y9 l d k)),.cells [.map 0],.mP ((lH (Y9 l d k)).map L8)]) [4,5] [0,1] s4 (.fr [6] s5 (.b hb (.ls (.nxG [.gc [7]] (ih _ (by simp))) (.nxG [.gc [1]] (ih _ (by simp)))))))))))))
 rcases s with _|⟨b,z⟩
 .exact aJ fZ (.b (eH l.length) (.ou nofun))
 exact aJ fZ (.b (eH l.length) (.ou nofun))
theorem ag7{n:Nat}{k ex:Bool}{l:List Dg}:iQ (n+1) (.fn 93 [] []) [.own 0] [.list k ex 26 l] (.FU 0) [.list k ex 26 l]:=fB fZ (first:=[]) (cap:=[]) (.o (rfl:((0:Nat):Int)=0) (.o (rfl:(l.length:Int)=(l.length:Int)) (.o (rfl:(l.length:Int)=(l.length:Int)) .er)))
def a8h:Option (Int×Int)⊕(Option (Int×Int)×Nat)->An
 |.inl none=>⟨8,false,false,0,0,0,false,[]⟩
 |.inl (some (b,z))=>⟨8,false,false,z,0,0,false,[b]⟩
 |.inr (none,_)=>⟨8,true,false,0,0,0,false,[]⟩
 |.inr (some (b,z),_)=>⟨8,true,false,z,0,0,false,[b]⟩
def Ic(p:List Dg×Dg):An×Int:=if decide ((p.1.length:Int)>4)=true then(KH,5)else if(bK (p.1++[p.2]) != 0)=true then(KH,bK (p.1++[p.2]))else if((p.1.length:Int)==0)=true then(KH,7)else(a8h (iZ (Vt p.1 p.2) p.1.length 0 none),0)
theorem dD.got{call:aY}{fv v:PV aC}{xs:List (PV aC)}{H H1:List (PB aC)}{β:Type}{r:Ar X0 Qp β}{s:β}(hs:dD X0 Qp call fv xs H v H1)(hg:r.get v=some s):dD X0 Qp call fv xs H (r.put s) H1:=by intro A m h tf qU hr hf hx;obtain⟨w,h',ws,m1,c1,c2,c3,c4⟩:=hs A m h tf qU hr hf hx;exact⟨w,h',ws,m1,c1,c2,r.ok hg c3,c4⟩
theorem adq{n:Nat}(hn:24<=n)(BG:Ok n ab3)(FV:∀m,n-24<=m->Ok m rQ){k ex:Bool}{l:List Dg}{d:Dg}(h1:∀x∈l++[d],qC x)(h2:l.length<=1000):iQ (n+1) (.fn 39 [] []) [.own 0,.agg d.ps] [.list k ex 26 l] ((dR (a2 Ti iA)).put (Ic (l,d))) [.list k ex 26 l]:=by
 have hl:l.length<=ah:=by unfold ah;omega
 have h3:0<(l++[d]).length∧(l++[d]).length<=ah:=by rw[a1I,a3P];unfold ah;omega
 have h4:l.length+[d].length<=ah:=by rw[a3P];unfold ah;omega
 have h5:[d]≠[]:=by simp
 have s0:=ag7 (n:=n-1) (k:=k) (ex:=ex) (l:=l);rw[show n-1+1=n by omega]at s0;show dD X0 Qp _ _ _ _ ((dR (a2 Ti iA)).put (if decide ((l.length:Int)>4)=true then(KH,5)else if(bK (l++[d]) != 0)=true then(KH,bK (l++[d]))else if((l.length:Int)==0)=true then(KH,7)else(a8h (iZ (Vt l d) l.length 0 none),0))) _;cases e1:decide ((l.length:Int)>4)
 .cases e2:(bK (l++[d]) != 0)
  .cases e3:((l.length:Int)==0)
   .have hk:LkP l d:=⟨h1,Vg h1 (by simpa using e2)⟩;have lp:=lLk (n:=n) hn FV (k,ex) hk hl;revert lp;rcases iZ (Vt l d) l.length 0 none with(_|⟨b,z⟩)|⟨_|⟨b,z⟩,j⟩
    .intro lp;exact dD.got (v:=.dG [anW ⟨8,false,false,0,0,0,false,[]⟩ (.nil .aP),.int .i64 0]) (fB BG (first:=[]) (cap:=[]) (.b e1 (.fr [0] s0 (.o h4 (.o h5 (.o h1 (.o h3 (.b e2 (.b e3 (.wG [.gc []] lp .er)))))))))) rfl
    .intro lp;exact dD.gs hX (mZ hX BG (first:=[]) (cap:=[]) (v:=.dG [anW ⟨8,false,false,z,0,0,false,[]⟩ (.own 1),.int .i64 0]) (H1:=.list k ex 26 l::hLk b) (by kernel_rfl) (.b e1 (.fr [0] s0 (.o h4 (.o h5 (.o h1 (.o h3 (.b e2 (.b e3 (.wG [.gc []] lp .er)))))))))) [.fz 1,.gc []] rfl
    .intro lp;exact dD.got (v:=.dG [anW ⟨8,true,false,0,0,0,false,[]⟩ (.nil .aP),.int .i64 0]) (fB BG (first:=[]) (cap:=[]) (.b e1 (.fr [0] s0 (.o h4 (.o h5 (.o h1 (.o h3 (.b e2 (.b e3 (.wG [.gc []] lp .er)))))))))) rfl
    intro lp;exact dD.gs hX (mZ hX BG (first:=[]) (cap:=[]) (v:=.dG [anW ⟨8,true,false,z,0,0,false,[]⟩ (.own 1),.int .i64 0]) (H1:=.list k ex 26 l::hLk b) (by kernel_rfl) (.b e1 (.fr [0] s0 (.o h4 (.o h5 (.o h1 (.o h3 (.b e2 (.b e3 (.wG [.gc []] lp .er)))))))))) [.fz 1,.gc []] rfl
   exact dD.got (v:=.dG [anW KH (.nil .aP),.int .i64 7]) (dD.gs hX (mZ hX BG (first:=[]) (cap:=[]) (v:=.dG [anW KH (.nil .aP),.int .i64 7]) (H1:=[.list k ex 26 l,.list true true 26 [d],.list true false 26 (l++[d])]) (by kernel_rfl) (.b e1 (.fr [0] s0 (.o h4 (.o h5 (.o h1 (.o h3 (.b e2 (.b e3 .er))))))))) [.gc []] rfl) rfl
  exact dD.got (v:=.dG [anW KH (.nil .aP),.int .i64 (bK (l++[d]))]) (dD.gs hX (mZ hX BG (first:=[]) (cap:=[]) (v:=.dG [anW KH (.nil .aP),.int .i64 (bK (l++[d]))]) (H1:=[.list k ex 26 l,.list true true 26 [d],.list true false 26 (l++[d])]) (by kernel_rfl) (.b e1 (.fr [0] s0 (.o h4 (.o h5 (.o h1 (.o h3 (.b e2 .er)))))))) [.gc []] rfl) rfl
 exact dD.got (v:=.dG [anW KH (.nil .aP),.int .i64 5]) (fB BG (first:=[]) (cap:=[]) (.b e1 .er)) rfl
open Go Tw Pv bQ
def jg(d:Dg)(g:LI0):Jb:=⟨d.aA,d.aH,[d],g⟩
structure GOk(d:Dg)(g:LI0):Prop where
 len:g.length=d.aA.length
 v:∀c,gW c d.aA.length->0<=g.getD c.toNat 0->g.getD c.toNat 0<d.aA.getD c.toNat 0
theorem ald{d:Dg}(hJ:kE (eG [d])){g:LI0}(h:GOk d g):kE (jg d g):=⟨hJ.d3,hJ.eF,hJ.ord,fun k hk=>have h:=hJ.dg k hk;⟨h.t,h.n,h.s,h.o,h.rk,h.two⟩,h.len,h.v⟩
theorem GOk.set{d:Dg}{g:LI0}(h:GOk d g){c k:Nat}(hk:(k:Int)<d.aA.getD (c:Int).toNat 0):GOk d (g.set (c:Int).toNat (k:Int)):=by
 refine⟨by rw[a4n];exact h.len,fun c2 JR h2=>?_⟩;by_cases e:(c:Int).toNat=c2.toNat
 .obtain⟨q0,q1⟩:=JR;rw[<-e,a2N,a2c (by rw[h.len];omega)];exact hk
 rw[a2N,a1l e,<-a2N]at h2 ⊢;exact h.v c2 JR h2
theorem aqc{d:Dg}(hJ:kE (eG [d])):GOk d (eG [d]).g:=⟨hJ.gl,hJ.gv⟩
abbrev jcF(d:Dg):List (PV aC):=[lI d.aA,lI d.aH,.own 0,.own 1,.fn 79 [] []]
abbrev hF(d:Dg)(g:LI0):List (PB aC):=[.list true true 26 [d],.list true true 3 g]
abbrev wFo(d:Dg)(v:V)(g:LI0)(c:Int)(x:List (Nat×PE aC)):aS aC:=⟨[(3,.loc 1 0),(6,.loc 2 0),(29,xL 3 d.aA),(30,xi d.aA.length),(31,xi c)]++x,[d.ps,v.ps,jcF d],hF d g⟩
abbrev wFi(d:Dg)(v:V)(g:LI0)(c:Int)(i:Int)(x:List (Nat×PE aC)):aS aC:=⟨[(3,.loc 1 0),(6,.loc 2 0),(8,xi c),(29,xL 3 d.aA),(30,xi d.aA.length),(31,xi c),(36,xi (d.aA.getD c.toNat 0)),(37,xi i)]++x,[d.ps,v.ps,jcF d],hF d g⟩
theorem adr{n f:Nat}{J:Jb}{k ex k2 L9:Bool}(h:iQ n (.fn 87 [] []) [.agg (J.ps (.fn f [] []))] [] (.map 0) [.map (kV.im (bW J))]):iQ n (.fn 87 [] []) [a8c J f 0 1] [.list k ex 26 J.D,.list k2 L9 3 J.g] (.map 2) [.list k ex 26 J.D,.list k2 L9 3 J.g,.map (kV.im (bW J))]:=by have h1:=dD.frame hX (ks:=[]) (H':=[.gone,.gone]) (Hp:=[]) (Qj:=[.map (kV.im (bW J))]) (v':=.map 2) (fv':=.fn 87 [] []) (xs':=[.agg (J.ps (.fn f [] []))]) h (by decide) rfl rfl rfl rfl rfl rfl rfl;exact dD.lend hX (H:=[.list k ex 26 J.D,.list k2 L9 3 J.g]) (cs:=[lI J.s,lI J.o,.own 0,.own 1]) (rest:=[.fn f [] []]) [0,1] h1 rfl (fun i hi=>by simpa[kP.jX,kP]using hi) rfl
def lkF(d:Dg)(v:V)(g:LI0):Int:=look (bW (jg d g)) v
def gIn(d:Dg)(v:V)(c:Nat)(k:Nat)(g:LI0):LI0⊕(LI0×Nat):=if decide (lkF d v (g.set (c:Int).toNat (k:Int))>0)=true then .inr (g.set (c:Int).toNat (k:Int),k)else .inl (g.set (c:Int).toNat (k:Int))
def oIn:LI0⊕(LI0×Nat)->LI0
 |.inl g=>g
 |.inr r=>r.1
def nIn(d:Dg)(c:Nat):Nat:=(d.aA.getD (c:Int).toNat 0).toNat
def a3R(d:Dg)(v:V)(c:Nat)(g:LI0):LI0:=oIn (iZ (gIn d v c) (nIn d c) 0 g)
def zFi(d:Dg)(v:V)(c:Nat):LI0⊕(LI0×Nat)->Ex×aS aC
 |.inl g=>(.exit 3,wFi d v g (c:Int) (nIn d c) [(38,xl false)])
 |.inr (g,k)=>(.exit 2,wFi d v g (c:Int) k [(49,xl true)])
theorem a8j{d:Dg}{v:V}{c:Nat}:∀(m k:Nat) (g:LI0),k+m<=nIn d c->GOk d g->GOk d (oIn (iZ (gIn d v c) m k g))
 | 0,_,g,_,h=>h
 |m+1,k,g,hk,h=>by
  have h1:GOk d (g.set (c:Int).toNat (k:Int)):=h.set (by unfold nIn at hk;omega);simp only[iZ,gIn];by_cases e:decide (lkF d v (g.set (c:Int).toNat (k:Int))>0)=true
  .rw[a0g e];exact h1
  rw[a0c e];exact a8j m (k+1) _ (by omega) h1
section
variable {n:Nat} (hn:24<=n) (hO:∀ m,n-24<=m->Ok m rQ) {d:Dg} (hJ:kE (eG [d])) {v:V}
include hn hO hJ
theorem lFi{c:Nat}(hc:c<d.aA.length){g:LI0}(hg:GOk d g):Lp n 28 1 (wFi d v g (c:Int) 0 []) (zFi d v c (iZ (gIn d v c) (nIn d c) 0 g)).1 (zFi d v c (iZ (gIn d v c) (nIn d c) 0 g)).2:=by
 have hz:=hJ.eF.sz (d.aA.getD (c:Int).toNat 0) (eu (show(c:Int).toNat<d.aA.length by simpa using hc));have hN:((nIn d c:Nat):Int)=d.aA.getD (c:Int).toNat 0:=by unfold nIn;omega
 refine iK (st:=fun i g=>wFi d v g (c:Int) i []) (g:=gIn d v c) (out:=zFi d v c) (s0:=g) (fun k g=>GOk d g) (by kernel_rfl) (by unfold ah;omega) hg (fun k g m hk hi ih=>?_) (fun g _=>?_)
 .have t1:decide ((k:Int)<d.aA.getD (c:Int).toNat 0)=true:=by rw[<-hN,a1o];omega
  have hg2:GOk d (g.set (c:Int).toNat (k:Int)):=hi.set (by rw[<-hN];omega);have i1:gW (c:Int) g.length:=by rw[hi.len];exact aG hc
  have s2:=adr (k:=true) (ex:=true) (k2:=true) (L9:=true) (PK (ald hJ hg2) (n:=n-2) (f:=79) (hO _ (by omega)) (show 0<[d].length by simp));rw[show n-2+2=n by omega]at s2;unfold gIn lkF;rcases Ib (ql (jg d (g.set (c:Int).toNat (k:Int)))) v with hf|⟨hz2,hf⟩
  .exact aJ fZ (.b t1 (.o i1 (.fr [0,1] s2 (.c (.int .i64 (look (bW (jg d (g.set (c:Int).toNat (k:Int)))) v)) [] hf (.ls (.ouG [.gc [0,1]] nofun) (.nxG [.gc [0,1]] (ih _ hg2)))))))
  rw[hz2];exact aJ fZ (.b t1 (.o i1 (.fr [0,1] s2 (.a .calm (.o hf (.ls (.ouG [.gc [0,1]] nofun) (.nxG [.gc [0,1]] (ih _ hg2))))))))
 have t1:decide (((nIn d c:Nat):Int)<d.aA.getD (c:Int).toNat 0)=false:=by rw[<-hN];exact eH _
 exact aJ fZ (.b t1 (.ou nofun))
set_option maxRecDepth 20000 in
theorem lFo:Lp n 28 0 (wFo d v (eG [d]).g 0 []) (.exit 1) (wFo d v (aU (a3R d v) d.aA.length 0 (eG [d]).g) d.aA.length [(32,xl false)]):=by
 have hl:d.aA.length<=ah:=by have:d.aA.length<=6:=hJ.eF.len;unfold ah;omega
 refine Oz (X:=X0) (N:=d.aA.length) (g:=a3R d v) (s0:=(eG [d]).g) (st:=fun c g=>wFo d v g c []) (fin:=fun g=>wFo d v g d.aA.length [(32,xl false)]) (fun _ g=>GOk d g) (by kernel_rfl) hl SB (aqc hJ) (fun c g hc hg=>a8j (nIn d c) 0 g (by omega) hg) (fun c g hc hg m e p g9=>?_) (fun g _=>?_)
 .have lp:=lFi hn hO hJ (v:=v) hc hg;unfold a3R at g9;revert lp g9;rcases iZ (gIn d v c) (nIn d c) 0 g with g1|⟨g1,k⟩
  .intro g9 lp;exact aJ fZ (.b (aW hc) (.o (aG hc) (.w lp (.go g9))))
  intro g9 lp;exact aJ fZ (.b (aW hc) (.o (aG hc) (.w lp (.go g9))))
 exact aJ fZ (.b (eH d.aA.length) .ex)
end
open Go Tw Pv bQ
def Ie(p:Dg×V):LI0×Int:=if(bK [p.1] != 0)=true then([],bK [p.1])else if(nX p.2 != 0)=true then([],4)else if(look (bW (eG [p.1])) p.2==0)=true then([],7)else(aU (a3R p.1 p.2) p.1.aA.length 0 (eG [p.1]).g,0)
def ale:eY aC:=bT 28 (a2 dA vA) (dR (a2 rJ iA)) Ie (fun p=>[qC p.1]) ab3
theorem rF(e:Int):Fp (Γ:=X0.Γ) (Is (X:=X0) (P:=Qp) (dR (a2 rJ iA)) (([]:LI0),e)) .n (.ret (some (.dG [.nil .aP,.int .i64 e]))):=by have h:(dR (a2 rJ iA)).get (.dG [.nil .aP,.int .i64 e])=some (([]:LI0),e):=rfl;exact Fp.rn (X:=X0) (P:=Qp) _ h
theorem aqf:Gd ale:=Good.abW 30 ag5 I8 adp fun n hn hO FV hO3 p hp=>by
 obtain⟨d,v⟩:=p;have h1:qC d:=hp _ gZ;obtain⟨n,rfl⟩:∃k,n=k+1:=⟨n-1,by omega⟩;have BG:=hO (n+1) (by omega);show nY X0 Qp _ _ _ ((dR (a2 rJ iA)).put (if(bK [d] != 0)=true then([],bK [d])else if(nX v != 0)=true then([],4)else if(look (bW (eG [d])) v==0)=true then([],7)else(aU (a3R d v) d.aA.length 0 (eG [d]).g,0))) _;cases e1:(bK [d] != 0)
 .cases e2:(nX v != 0)
  .have s1:=al6 (n:=n) (by omega) (hO3 n (by omega)) (fun m hm=>FV m (by omega)) h1 e1 e2;have hJ:kE (eG [d]):=AX (D:=[d]) (by simp) (by simp) (a8d h1) (by simpa using e1);have s2:=adr (k:=true) (ex:=true) (k2:=true) (L9:=true) (PK hJ (n:=n-1) (f:=79) (FV _ (by omega)) (show 0<[d].length by simp));rw[show n-1+2=n+1 by omega]at s2;have lp:=lFo (n:=n+1) (by omega) (fun m hm=>FV m (by omega)) hJ (v:=v);show nY X0 Qp _ _ _ ((dR (a2 rJ iA)).put (if(look (bW (eG [d])) v==0)=true then([],7)else(aU (a3R d v) d.aA.length 0 (eG [d]).g,0))) _;rcases Ib (ql (eG [d])) v with hf|⟨hz,hf⟩
   .exact aN BG (.fr [] s1 (.b (rfl:((0:Int) != 0)=false) (.fr [0,1] s2 (.c (.int .i64 (look (bW (eG [d])) v)) [] hf (.ss (rF _) (.wG [.gc [0,1]] lp .rr))))))
   .rw[hz];exact aN BG (.fr [] s1 (.b (rfl:((0:Int) != 0)=false) (.fr [0,1] s2 (.a .calm (.o hf (.ss (rF _) (.wG [.gc [0,1]] lp .rr)))))))
  .have s1:=al5 (n:=n) (v:=v) (hO3 n (by omega)) h1 e1 e2;exact aN BG (.fr [] s1 (.b (rfl:((4:Int) != 0)=true) (rF _)))
 .have s1:=al4 (n:=n) (v:=v) (hO3 n (by omega)) h1 e1;exact aN BG (.fr [] s1 (.b e1 (rF _)))
open Go Tw Pv bQ
abbrev dz:List (PV aC):=[.nil .aP,.nil .aP,.nil .aP,.nil .aP,.int .i64 0]
abbrev cCh(s o:LI0):List (PV aC):=[lI s,lI o,.own 1,.aP 0 0 1 1 2 true,.int .i64 0]
abbrev hCh(c:Int)(x:List V×LI0):List (PB aC):=[.cells [.int .i64 c,.own 2],.list false false 39 x.1,.list false false 3 x.2]
abbrev wCh(s o:LI0)(c w n:Int)(y:List V×LI0)(i:Int)(x:List (Nat×PE aC)):aS aC:=⟨[(3,xi w),(8,.loc 0 0),(11,.loc 1 0),(47,xi n),(48,xi i)]++x,[dz,cCh s o],hCh c y⟩
def gCh(w:Int)(i:Nat)(y:List V×LI0):List V×LI0:=(y.1++[⟨0,i64.wrap (w+(i:Int))⟩],y.2++[i64.wrap (-1-(i:Int))])
def chE(w:Int)(n:Nat):List V:=(List.range n).map fun(i:Nat)=>(⟨0,i64.wrap (w+(i:Int))⟩:V)
def chK(n:Nat):LI0:=(List.range n).map fun(i:Nat)=>i64.wrap (-1-(i:Int))
theorem Ya(w:Int):∀n,aU (gCh w) n 0 ([],[])=(chE w n,chK n)
 | 0=>rfl
 |n+1=>by rw[sU,Ya w n,a3T];unfold gCh chE chK;rw[abA,a3Z,a3Z];rfl
theorem lCh{n:Nat}{s o:LI0}{c w:Int}{z:Nat}(hz:z<=12)(h0:s.getD c.toNat 0=(z:Int)):Lp n 57 0 (wCh s o c w (s.getD c.toNat 0) ([],[]) 0 []) (.exit 0) (wCh s o c w (s.getD c.toNat 0) (chE w z,chK z) z [(49,xl false)]):=by
 rw[<-Ya w z,h0];refine Oz (X:=X0) (N:=z) (g:=gCh w) (s0:=([],[])) (st:=fun i y=>wCh s o c w (z:Int) y i []) (fin:=fun y=>wCh s o c w (z:Int) y z [(49,xl false)]) (fun k y=>y.1.length=k∧y.2.length=k) (by kernel_rfl) (by unfold ah;omega) SB ⟨rfl,rfl⟩ (fun k y hk hi=>?_) (fun k y hk hi m e p g9=>?_) (fun y _=>?_)
 .unfold gCh;simp[hi.1,hi.2]
 .obtain⟨E,K⟩:=y;have a1:E.length+[(⟨0,i64.wrap (w+(k:Int))⟩:V)].length<=ah:=by rw[a3P];have:E.length=k:=hi.1;unfold ah;omega
  have a2:K.length+[i64.wrap (-1-(k:Int))].length<=ah:=by rw[a3P];have:K.length=k:=hi.2;unfold ah;omega
  exact aJ fZ (.b (aW hk) (.o a1 (.o a2 (.goG [.gc [0,4,6]] g9))))
 exact aJ fZ (.b (eH z) .ex)
def chD(s o:LI0)(c w:Int)(z:Nat):Dg:=⟨s,o,chE w z,[⟨c,chK z⟩],0⟩
theorem ab5{n:Nat}(hO:Ok n a7v){s o:LI0}{c:Int}{y:List V×LI0}(hd:let d:Dg:=⟨s,o,y.1,[⟨c,y.2⟩],0⟩;KD d∧d.aA.length<=ah∧d.aH.length<=2^20∧d.aO.length<=ah∧(((bF d).2 != 0)=false->ClP (bF d).1)) :
  iQ n (.fn 108 [] []) [.agg (cCh s o)] (hCh c y) ((dR (a2 dA iA)).put (zF ⟨s,o,y.1,[⟨c,y.2⟩],0⟩)) [.gone,.gone,.gone]:=by
 obtain⟨h1,h2,h3,h4,h5⟩:=hd;have k0:iQ n (.fn 108 [] []) [.agg (⟨s,o,y.1,[⟨c,y.2⟩],0⟩:Dg).ps] [] ((dR (a2 dA iA)).put (zF ⟨s,o,y.1,[⟨c,y.2⟩],0⟩)) []:=nY.ZI hX (first:=[]) (cap:=[]) (hO 108 [.agg (⟨s,o,y.1,[⟨c,y.2⟩],0⟩:Dg).ps] ((dR (a2 dA iA)).put (zF ⟨s,o,y.1,[⟨c,y.2⟩],0⟩)) [] _ (by kernel_rfl) (fun p h=>by
  rcases a2d.1 h with rfl|h
  .exact h1
  rcases a2d.1 h with rfl|h
  .exact h2
  rcases a2d.1 h with rfl|h
  .exact h3
  rcases a2d.1 h with rfl|h
  .exact h4
  rw[a2p.1 h];exact h5)) rfl rfl rfl rfl
 have k1:=dD.frame hX (ks:=[]) (H':=[.gone,.gone,.gone]) (Hp:=[]) (Qj:=[]) (v':=(dR (a2 dA iA)).put (zF ⟨s,o,y.1,[⟨c,y.2⟩],0⟩)) (fv':=.fn 108 [] []) (xs':=[.agg (⟨s,o,y.1,[⟨c,y.2⟩],0⟩:Dg).ps]) k0 (by decide) rfl rfl rfl rfl rfl rfl rfl;exact dD.cell1 hX (H:=hCh c y) (RG:=[lI s,lI o,.own 1]) (ws1:=[lI s,lI o,lV y.1]) (cs:=[.int .i64 c,.own 2]) (WC:=[.int .i64 0]) (ws2:=[.int .i64 0]) (i:=0) (e:=105) (sz:=2) (row:=(⟨c,y.2⟩:Br)) [1,2] rfl (by kernel_rfl) (by decide) rfl rfl k1 rfl rfl rfl (fun j hj=>by simp[kP.jX,kP]at hj ⊢;omega) (fun j hj=>by simp[kP.jX,kP]at hj ⊢;omega) (fun j hj=>by simp[kP.jX,kP]at hj)
open Go Tw Pv bQ
theorem ab6(w:Int)(z:Nat):(chE w z).length=z:=by simp[chE]
theorem ab7(z:Nat):(chK z).length=z:=by simp[chK]
structure ChP(s o:LI0)(c w:Int)(z:Nat):Prop where
 f:dh s o=0
 ic:gW c s.length
 ez:s.getD c.toNat 0=(z:Int)
 z12:z<=12
 w0:-9999<=w
 w1:w+z<=10000
section
variable {s o:LI0} {c w:Int} {z:Nat} (h:ChP s o c w z)
include h
theorem ab8{v:V}(hv:v∈chE w z):∃j,j<z∧v=⟨0,w+(j:Int)⟩:=by unfold chE at hv;obtain⟨j,hj,rfl⟩:=a1g.1 hv;have:=a4i.1 hj;have:=h.w0;have:=h.w1;have:=h.z12;exact⟨j,by omega,by rw[wrap_small (by omega) (by omega)]⟩
theorem ab9{k:Nat}(hk:k<z):(chK z).getD k 0=-1-(k:Int):=by have:=h.z12;unfold chK;rw[a2N,a4j,ad2 hk];show i64.wrap (-1-(k:Int))=_;rw[wrap_small (by omega) (by omega)]
theorem ag8:∀v∈chE w z,Pz v:=fun v hv=>by obtain⟨j,hj,rfl⟩:=ab8 h hv;have:=h.w0;have:=h.w1;exact yj.2 ⟨by show(0:Int)<=0;omega,by show(0:Int)<=4;omega,fun _=>⟨by show -9999<=w+(j:Int);omega,by show w+(j:Int)<=9999;omega⟩,fun hz=>absurd rfl hz⟩
theorem alf:KD (chD s o c w z):=⟨fun i hi k hk=>by
 have:i=0:=by have:i<1:=hi;omega
 subst this;have hk3:k<z:=by rw[<-ab7 z];exact hk
 show KY ((chK z).getD k 0);rw[ab9 h hk3,<-wrap_small (z:=-1-(k:Int)) (by have:=h.z12;omega) (by omega)];exact XQ _,by show KY 0;rw[<-wrap_small (z:=0) (by omega) (by omega)];exact XQ _,fun v hv=>(ag8 h v hv).2⟩
theorem abb:KD (chD s o c w z)∧(chD s o c w z).aA.length<=ah∧(chD s o c w z).aH.length<=2^20∧(chD s o c w z).aO.length<=ah∧(((bF (chD s o c w z)).2 != 0)=false->ClP (bF (chD s o c w z)).1):=by
 obtain⟨eF,ord⟩:=mF.1 h.f;have hr:=alf h;have h6:s.length<=6:=eF.len;have QN:o.length=s.length:=by unfold kD at ord;rw[a1o]at ord;exact ord.1
 have hl:=ab6 w z;have hz:=h.z12;have e1:(chD s o c w z).aO.length+1<=ah:=by show(chE w z).length+1<=ah;rw[hl];unfold ah;omega
 have e2:(chD s o c w z).aA.length<=ah:=by show s.length<=ah;unfold ah;omega
 refine⟨hr,e2,by show o.length<=2^20;omega,by omega,fun h0=>?_⟩;obtain⟨q1,q2⟩:=wQ hr e1 e2 (by show o.length<=ah;unfold ah;omega) (by simpa using h0);rw[q1];exact q2
end
def PU(p:LI0×LI0×Int×Int):Dg×Int:=if(dh p.1 p.2.1 != 0)=true then(jf,dh p.1 p.2.1)else if(!(MP 0 (i64.wrap ((p.1.length:Int)-1)) p.2.2.1))=true then(jf,3)else if(!(MP (-9999) (i64.wrap (i64.wrap (9999-p.1.getD p.2.2.1.toNat 0)+1)) p.2.2.2))=true then(jf,3)else zF (chD p.1 p.2.1 p.2.2.1 p.2.2.2 (p.1.getD p.2.2.1.toNat 0).toNat)
theorem ag9{a b x:Int}(h:(!(MP a b x))=false):a<=x∧x<=b:=by
 unfold MP at h;by_cases h1:x>=a
 .simp[h1]at h;exact⟨h1,h⟩
 simp[h1]at h
theorem aga{s o:LI0}{c w:Int}(e1:(dh s o != 0)=false)(hc:gW c s.length)(e3:(!(MP (-9999) (i64.wrap (i64.wrap (9999-s.getD c.toNat 0)+1)) w))=false):ChP s o c w (s.getD c.toNat 0).toNat:=by
 have f:dh s o=0:=by simpa using e1
 obtain⟨eF,ord⟩:=mF.1 f;have hz:=eF.sz (s.getD c.toNat 0) (eu (show c.toNat<s.length by obtain⟨a,b⟩:=hc;omega));obtain⟨z0,z1⟩:=hz;obtain⟨w0,w1⟩:=ag9 e3;rw[wrap_small (z:=9999-s.getD c.toNat 0) (by omega) (by omega),wrap_small (by omega) (by omega)]at w1;exact⟨f,hc,by omega,by omega,w0,by omega⟩
def agb:eY aC:=bT 57 (a4 rJ rJ iA iA) (dR (a2 dA iA)) PU (fun p=>[p.1.length<=ah,p.2.1.length<=2^20]) ale
theorem aqh:Gd agb:=Good.WY 0 aqf ada fun n hn hO FV p hp=>by obtain⟨s,o,c,w⟩:=p;have h1:s.length<=ah:=hp _ gZ;have h2:o.length<=2^20:=hp _ yI;have hc:(!(MP 0 (i64.wrap ((s.length:Int)-1)) c))=false->gW c s.length:=fun e2=>a88 e2 h1;have hP:=fun(e1:(dh s o != 0)=false) (e2:(!(MP 0 (i64.wrap ((s.length:Int)-1)) c))=false) (e3:(!(MP (-9999) (i64.wrap (i64.wrap (9999-s.getD c.toNat 0)+1)) w))=false)=>aga e1 (hc e2) e3;have lp:=fun(e1:(dh s o != 0)=false) (e2:(!(MP 0 (i64.wrap ((s.length:Int)-1)) c))=false) (e3:(!(MP (-9999) (i64.wrap (i64.wrap (9999-s.getD c.toNat 0)+1)) w))=false)=>lCh (n:=n) (s:=s) (o:=o) (c:=c) (w:=w) (hP e1 e2 e3).z12 (hP e1 e2 e3).ez;have s1:=fun(e1:(dh s o != 0)=false) (e2:(!(MP 0 (i64.wrap ((s.length:Int)-1)) c))=false) (e3:(!(MP (-9999) (i64.wrap (i64.wrap (9999-s.getD c.toNat 0)+1)) w))=false)=>ab5 (n:=n) (FV n (by omega)) (s:=s) (o:=o) (c:=c) (y:=(chE w (s.getD c.toNat 0).toNat,chK (s.getD c.toNat 0).toNat)) (abb (hP e1 e2 e3));show nY X0 Qp _ _ _ ((dR (a2 dA iA)).put (if(dh s o != 0)=true then(jf,dh s o)else if(!(MP 0 (i64.wrap ((s.length:Int)-1)) c))=true then(jf,3)else if(!(MP (-9999) (i64.wrap (i64.wrap (9999-s.getD c.toNat 0)+1)) w))=true then(jf,3)else zF (chD s o c w (s.getD c.toNat 0).toNat))) _;exact aN (hO n (by omega)) (.o h1 (.o h2 (.sh (fun _=>rE _) fun e1=>.sh (fun _=>rE _) fun e2=>.o (hc e2) (.sh (fun _=>rE _) fun e3=>.a (.Qe [] [] (.nil .aP) []) (.o (hc e2) (.wG [.a2E 1 2 39,.Uc 0 1 3] (lp e1 e2 e3) (.fr [0,1,2] (s1 e1 e2 e3) .rr)))))))
open Go Tw Pv bQ
structure Qx(d:Dg):Prop where
 t:BH d
 n:d.au.length<=6000
 l:bG d=0
 f:wH d.aA
 o:d.aH.length<=ah
 e:d.aO.length<=ah
def gLs(d:Dg)(k:Nat)(l:List V):List V:=l++[Em d (ng d.aA k)]
theorem agc(d:Dg):aU (gLs d) (FD d.aA) 0 []=cellsD d:=by have:=dU (g:=gLs d) (m:=FD d.aA) (k:=0) (s:=[]) (fun k l=>l=(List.range k).map fun(k:Nat)=>Em d (ng d.aA k)) rfl (fun j l _ _ e=>by rw[gLs,e,abA,a3Z];rfl);rw[a3T]at this;exact this
abbrev wLs(d:Dg)(y:List V)(i:Int)(x:List (Nat×PE aC)):aS aC:=⟨[(1,.loc 0 0),(3,.val (.own 0)),(4,xi i)]++x,[d.ps],[.list false false 39 y]⟩
theorem lLs{n:Nat}(hO:Ok n agb)(d:Dg)(h:Qx d):MC n 44 0 0 (wLs d [] 0 []) (.exit 0) (wLs d (cellsD d) (FD d.aA) [(12,xl false)]):=by
 have hs:d.aA.length<=ah:=by have:=h.f.len;unfold ah;omega
 have hc:FD d.aA<=ah:=by have:=h.f.FD;have:=h.f.abV;have:=h.f.many;unfold ah;omega
 rw[<-agc d];refine rM (σ:=List V) (N:=FD d.aA) (g:=gLs d) (s0:=[]) (st:=fun i y=>wLs d y i []) (fin:=fun y=>wLs d y (FD d.aA) [(12,xl false)]) (fun k y=>y.length=k) (by kernel_rfl) hc rfl (fun j y hj hy=>by simp[gLs,hy]) (fun j y hj hy m e p g9=>?_) (fun y _=>?_)
 .have h2:y.length+[Em d (ng d.aA j)].length<=ah:=by rw[hy,a3P];omega
  exact aJ hO (.o hs (.b (h.f.lt hj) (.o hs (.o h.f.sz (.o (show(0:Int)<=(j:Int) by omega) (.o (show(j:Int)<2^62 by unfold ah at hc;omega) (.o h.t (.o h.n (.o (J8 (j:Int) h.f.sz) (.o h2 (.goG [.gc [2]] g9)))))))))))
 exact aJ hO (.o hs (.b h.f.no .ex))
def alh:eY aC:=bT 44 (a1 dA) Zx cellsD (fun d=>[Qx d]) agb
theorem aqi:Gd alh:=aqh.add fun n hO p hp=>by
 have h:Qx p:=hp _ gZ;have hb:(bG p != 0)=false:=by rw[h.l];rfl
 exact aN hO (.o h.o (.o h.e (.b hb (.wG [.Ej 3 39] (lLs (n:=n) hO p h) .rr))))
def ali:eY aC:=bT 81 (a1 rJ) rJ (fun p=>p) (fun p=>[p.length<=ah]) alh
theorem aqj:Gd ali:=aqi.add fun n hO p hp=>aN hO (.o (hp _ gZ) .rr)
def alj:eY aC:=bT 82 (a1 Zx) Zx (fun p=>p) (fun p=>[p.length<=ah]) ali
theorem aqk:Gd alj:=aqj.add fun n hO p hp=>aN hO (.o (hp _ gZ) .rr)
def agd:eY aC:=bT 48 (a1 iA) vA (fun p=>(⟨0,p⟩:V)) np alj
theorem aql:Gd agd:=aqk.add fun n hO p hp=>aN hO .rr
open Go Tw Pv bQ
structure Ig(d:Dg):Prop where
 s:d.aA.length<=ah
 o:d.aH.length<=ah
 e:d.aO.length<=ah
 n:d.au.length<=ah
 k:∀b∈d.au,b.ay.length<=ah
abbrev agf(a b:Dg)(i:Int)(x:List (Nat×PE aC)):aS aC:=⟨[(2,.loc 0 0),(3,.loc 1 0),(5,xi i)]++x,[a.ps,b.ps],[]⟩
def a8m(a b:Dg)(k:Nat):Bool:=if((a.au.getD k ny).var != (b.au.getD k ny).var)=true then true else !(decide ((a.au.getD k ny).ay=(b.au.getD k ny).ay))
def agh(a b:Dg):Unit⊕Nat->Ex×aS aC
 |.inl _=>(.exit 0,agf a b a.au.length [(48,xl false)])
 |.inr _=>(.ret,⟨[(4,xl false)],[a.ps,b.ps],[]⟩)
theorem alk{n:Nat}(hO:Ok n agd){a b:Dg}(h:Ig a)(hl:a.au.length=b.au.length):Lp n 72 0 (agf a b 0 []) (agh a b (bC (a8m a b) a.au.length)).1 (agh a b (bC (a8m a b) a.au.length)).2:=by
 refine iK (st:=fun i _=>agf a b i []) (g:=gS (a8m a b)) (out:=agh a b) (fun _ _=>True) (by kernel_rfl) h.n trivial (fun k u m hk _ ih=>?_) (fun _ _=>?_)
 .have i1:gW (k:Int) a.au.length:=aG hk;have i2:gW (k:Int) b.au.length:=aG (by omega);have h9:=h.k _ (dK (d:=ny) hk);unfold gS a8m;cases e1:((a.au.getD k ny).var != (b.au.getD k ny).var)
  .exact aJ hO (.b (aW hk) (.o i1 (.o i2 (.b e1 (.o i1 (.o i2 (.o h9 (.ls (.ou nofun) (.nx (ih _ trivial))))))))))
  exact aJ hO (.b (aW hk) (.o i1 (.o i2 (.b e1 (.ou nofun)))))
 exact aJ hO (.b (eH a.au.length) (.ou nofun))
def alm(a b:Dg):Bool:=if(!(decide (a.aA=b.aA)))=true then false else if(!(decide (a.aH=b.aH)))=true then false else if(!(decide (a.aO=b.aO)))=true then false else if((a.au.length:Int) != (b.au.length:Int))=true then false else if(a.root != b.root)=true then false else if jP (bC (a8m a b) a.au.length)=true then true else false
def aln:eY aC:=bT 72 (a2 dA dA) tA (fun p=>alm p.1 p.2) (fun p=>[Ig p.1]) agd
theorem aqm:Gd aln:=aql.add fun n hO p hp=>aN hO (.o (show Ig p.1 from hp _ gZ).s (.ss .rr (.o (show Ig p.1 from hp _ gZ).o (.ss .rr (.o (show Ig p.1 from hp _ gZ).e (.ss .rr (.sh (fun _=>.rr) fun h4=>.ss .rr (.zh (fun h=>.w (ku (alk hO (show Ig p.1 from hp _ gZ) (show p.1.au.length=p.2.au.length by simp at h4;omega)) () h) .rr) fun h=>.w (kC (alk hO (show Ig p.1 from hp _ gZ) (show p.1.au.length=p.2.au.length by simp at h4;omega)) 0 h) .rr))))))))
def alo:eY aC:=bT 25 (a3 dA iA dA) tA (fun p=>(if(p.2.1==0)=true then alm p.1 p.2.2 else false)) (fun p=>[Ig p.1]) aln
theorem aqn:Gd alo:=aqm.add fun n hO p hp=>aN hO (.ss (.o (hp _ gZ) .rr) .rr)
def Vj(s o:LI0):Bool:=if decide ((s.length:Int)>8)=true then false else if decide ((o.length:Int)>8)=true then false else if(dh s o != 0)=true then true else decide (EK s<=200)
def agi:eY aC:=bT 54 (a2 rJ rJ) tA (fun p=>Vj p.1 p.2) np alo
theorem aqo:Gd agi:=aqn.add fun n hO p hp=>aN hO (.sh (fun _=>.rr) fun h1=>.sh (fun _=>.rr) fun h2=>.o (show p.2.length<=ah by simp at h2;unfold ah;omega) (.ss .rr (.o (show p.1.length<=ah by simp at h1;unfold ah;omega) .rr)))
open Go Tw Pv bQ
abbrev wCp(d:Dg)(acc:List Br)(i:Int)(x:List (Nat×PE aC)):aS aC:=⟨[(1,.loc 0 0),(2,.loc 1 0),(3,.loc 2 0),(4,xi i)]++x,[d.ps,[.nil .aP,.nil .aP,.nil .aP,.nil .aP,.int .i64 0],[lI d.aA,lI d.aH,lV d.aO,.own 0,.int .i64 d.root]],[.list false false 105 acc]⟩
theorem lCp{n:Nat}{d:Dg}(hO:Ok n agi)(h:Ig d):Lp n 21 0 (wCp d [] 0 []) (.exit 0) (wCp d d.au d.au.length [(21,xl false)]):=by
 have e:aU (fun k (a:List Br)=>a++[d.au.getD k ny]) d.au.length 0 []=d.au:=by rw[OB,Jl d.au ny fun r=>r,List.map_id']
 rw[show wCp d d.au d.au.length [(21,xl false)]=wCp d (aU (fun k (a:List Br)=>a++[d.au.getD k ny]) d.au.length 0 []) d.au.length [(21,xl false)] by rw[e]];refine rM (σ:=List Br) (N:=d.au.length) (g:=fun k (a:List Br)=>a++[d.au.getD k ny]) (s0:=([]:List Br)) (st:=fun i a=>wCp d a i []) (fin:=fun a=>wCp d a d.au.length [(21,xl false)]) (fun k a=>a.length=k) (by kernel_rfl) h.n rfl (fun k a _ h=>by simp[h]) (fun k a hk ha m e p g9=>?_) (fun a _=>?_)
 .have hm:=h.k (d.au.getD k ny) (dK hk);have hn:=h.n;have hal:a.length+[d.au.getD k ny].length<=ah:=by have:a.length=k:=ha;rw[a3P];omega
  exact aJ hO (.b (aW hk) (.o (aG hk) (.o (aG hk) (.o hm (.o hal (.goG [.gc [2]] g9))))))
 exact aJ hO (.b (eH d.au.length) .ex)
def agk:eY aC:=bT 21 (a1 dA) dA (fun p=>p) (fun p=>[Ig p]) agi
theorem aqp:Gd agk:=aqo.add fun n hO p hp=>aN hO (.o (show Ig p from hp _ gZ).s (.o (show Ig p from hp _ gZ).o (.o (show Ig p from hp _ gZ).e (.wG [.a2E 2 3 105] (lCp hO (hp _ gZ)) .rr))))
abbrev wTh(d:Dg)(i:Int)(x:List (Nat×PE aC)):aS aC:=⟨[(1,.loc 0 0),(3,xi i)]++x,[d.ps],[]⟩
def cTh(d:Dg)(k:Nat):Bool:=decide (((d.au.getD k ny).ay.length:Int)>14)
def zTh(d:Dg):Unit⊕Nat->Ex×aS aC
 |.inl _=>(.exit 0,wTh d d.au.length [(26,xl false)])
 |.inr _=>(.ret,⟨[(2,xl false)],[d.ps],[]⟩)
theorem lTh{n:Nat}(hO:Ok n agk){d:Dg}(h:d.au.length<=ah):Lp n 18 0 (wTh d 0 []) (zTh d (bC (cTh d) d.au.length)).1 (zTh d (bC (cTh d) d.au.length)).2:=by
 refine iK (st:=fun i _=>wTh d i []) (g:=gS (cTh d)) (out:=zTh d) (fun _ _=>True) (by kernel_rfl) h trivial (fun k u m hk _ ih=>?_) (fun _ _=>?_)
 .unfold gS cTh;exact aJ hO (.b (aW hk) (.o (aG hk) (.ls (.ou nofun) (.nx (ih _ trivial)))))
 exact aJ hO (.b (eH d.au.length) (.ou nofun))
def JH(d:Dg):Bool:=if(!(Vj d.aA d.aH))=true then false else if decide ((d.aO.length:Int)>40)=true then false else if decide ((d.au.length:Int)>60)=true then false else if jP (bC (cTh d) d.au.length)=true then true else false
def alp:eY aC:=bT 18 (a1 dA) tA (fun p=>JH p) np agk
theorem aqt:Gd alp:=aqp.add fun n hO p hp=>aN hO (.ss .rr (.ss .rr (.sh (fun _=>.rr) fun h3=>.zh (fun h=>.w (ku (lTh hO (show p.au.length<=ah by simp at h3;unfold ah;omega)) () h) .rr) fun h=>.w (kC (lTh hO (show p.au.length<=ah by simp at h3;unfold ah;omega)) 0 h) .rr)))
theorem Yb{d:Dg}(h:JH d=true):Ig d∧d.aA.length<=8∧d.aH.length<=8∧d.aO.length<=40∧d.au.length<=60:=by
 unfold JH at h;split at h
 .cases h
 rename_i h1;split at h
 .cases h
 rename_i h2;split at h
 .cases h
 rename_i h3;split at h
 .rename_i h4;have h1:Vj d.aA d.aH=true:=by simpa using h1
  unfold Vj at h1;split at h1
  .cases h1
  rename_i q1;split at h1
  .cases h1
  rename_i q2;simp at h2 h3 q1 q2;refine⟨⟨by unfold ah;omega,by unfold ah;omega,by unfold ah;omega,by unfold ah;omega,fun b hb=>?_⟩,by omega,by omega,by omega,by omega⟩;obtain⟨k,hk,e⟩:=a8k hb;have:=dH.1 h4 k hk;unfold cTh at this;rw[a2N,a0a hk,a4r,e]at this;simp at this;unfold ah;omega
 cases h
open Go Tw Pv bQ
def dX:Dg:=⟨[2,3],[0,1],[⟨0,1⟩,⟨0,2⟩],[⟨0,[-1,-2]⟩],0⟩
def dY:Dg:=⟨[2,3],[0,1],[⟨0,0⟩,⟨0,1⟩,⟨0,2⟩],[⟨1,[-1,-2,-3]⟩],0⟩
def cL(l:LI0):List V:=l.map fun n=>⟨0,n⟩
theorem a3S:PU ([2,3],[0,1],0,1)=(dX,0):=by kernel_rfl
def dIf:Dg:=(Y6 (dY,dX,dY)).1
theorem alq:(Y6 (dY,dX,dY)).2=0∧rO dIf=0∧cellsD dIf=cL [0,1,1,0,2,2]:=⟨by kernel_rfl,by kernel_rfl,by kernel_rfl⟩
def dRs:Dg:=(KG (dY,1,2)).1
theorem agm:(KG (dY,1,2)).2=0∧rO dRs=0∧cellsD dRs=cL [2,2,2,2,2,2]:=⟨by kernel_rfl,by kernel_rfl,by kernel_rfl⟩
def dWh:Dg:=(zK dY).1
theorem a8n:(zK dY).2=0∧rO dWh=0∧cellsD dWh=cL [0,1,0,0,1,0]:=⟨by kernel_rfl,by kernel_rfl,by kernel_rfl⟩
theorem abd:Vh (dY,⟨0,2⟩)=(2,0):=by kernel_rfl
theorem a8o:Ie (dX,⟨0,2⟩)=([1,0],0):=by kernel_rfl
def FQ:Dg:=(wS (10,dX,dY)).1
theorem agn:(wS (10,dX,dY)).2=0:=by kernel_rfl
def dLe:Dg:=(wS (14,dX,dY)).1
theorem alr:(wS (14,dX,dY)).2=0:=by kernel_rfl
theorem abe:Ic ([dX,dY],dLe)=(⟨8,false,false,2,0,0,false,[0]⟩,0):=by kernel_rfl
def Vk:List (V×Int):=bW (eG [FQ,dX])
theorem als:lK Vk=[0,1]:=by
 have e:((Vk.filter fun e=>!decide (e.1.f>0)).map fun e=>e.1.n)=[0,1]:=by kernel_rfl
 unfold lK;rw[e];unfold gK;exact List.mergeSort_of_pairwise (by simp)
theorem agq:a1Q (4,FQ,dX)=(⟨4,false,false,0,0,1,true,[]⟩,0):=by
 have e1:bK [FQ,dX]=0:=by kernel_rfl
 have e2:uG Vk=true:=by kernel_rfl
 have e3:Vk≠[]:=by
  intro h;have h2:Vk.length=0:=by rw[h];rfl
  have h3:Vk.length=3:=by kernel_rfl
  omega
 show(if(bK [FQ,dX] != 0)=true then(KH,bK [FQ,dX])else FP 4 Vk)=_;rw[e1];show FP 4 Vk=_;unfold FP;rw[a0c e3];show(if lK Vk=[]then _ else _)=_;rw[als,e2];rfl
open Go Tw Pv bQ
def agr:eY aC:=bT 73 aeC (dR (a2 dA dA)) (fun p=>(dX,dY)) np alp
theorem aqu:Gd agr:=aqt.add fun n hO p hp=>aN hO .rr
abbrev anP(a:An):List (PV aC):=[.int .u8 a.q,.bool a.none,.bool a.yes,.int .i64 a.n,.int .i64 a.lo,.int .i64 a.hi,.bool a.fault,lI a.set,.nil .aP]
abbrev wSa(a b:An)(i:Int)(x:List (Nat×PE aC)):aS aC:=⟨[(2,.loc 0 0),(3,.loc 1 0),(5,xi i)]++x,[anP a,anP b],[]⟩
theorem lSa{n:Nat}(hO:Ok n agr){a b:An}:Lp n 35 0 (wSa a b 0 []) (.exit 0) (wSa a b 0 [(74,xl false)]):=by have:=Oz (X:=X0) (P:=Qp) (T:=T) (L:=LL) (call:=iy n) (f:=35) (gQ:=false) (nt:=BJ Qp 35) (B:=0) (b:=RS Qp 35 0) (σ:=Unit) (N:=0) (g:=fun _ s=>s) (s0:=()) (st:=fun i _=>wSa a b i []) (fin:=fun _=>wSa a b 0 [(74,xl false)]) (w:=wSa a b 0 []) (e:=.exit 0) (fun _ _=>True) (by kernel_rfl) (a4E _) SB trivial (fun _ _ _ _=>trivial) (fun k s hk=>absurd hk (Nat.not_lt_zero _)) (fun s _=>aJ hO (.b (rfl:decide ((0:Int)<0)=false) .ex));exact this
def Ih(a b:An):Bool:=if(a.q != b.q)=true then false else if(!(a.none==b.none))=true then false else if(!(a.yes==b.yes))=true then false else if(a.n != b.n)=true then false else if(a.lo != b.lo)=true then false else if(a.hi != b.hi)=true then false else if(!(a.fault==b.fault))=true then false else if(!(decide (a.set=b.set)))=true then false else true
def ags:eY aC:=bT 35 (a2 Ti Ti) tA (fun p=>Ih p.1 p.2) (fun p=>[p.1.set.length<=ah]) agr
theorem aqv:Gd ags:=aqu.add fun n hO p hp=>aN hO (.ss .rr (.ss .rr (.ss .rr (.ss .rr (.ss .rr (.ss .rr (.ss .rr (.o (hp _ gZ) (.ss .rr (.b (rfl:((0:Int) != 0)=false) (.w (lSa (a:=p.1) (b:=p.2) hO) .rr)))))))))))
open Go Tw Pv bQ
theorem a1R{d:Dg}(ho:d.aH.length<=ah)(he:d.aO.length<=ah)(h:(rO d==0)=true):Qx d:=by
 have h:rO d=0:=by simpa using h
 have h0:bG d=0:=by
  unfold rO at h;split at h
  .rename_i c;rw[h]at c;cases c
  rename_i c;simpa using c
 obtain⟨t,n⟩:=mV ho he (by rw[h0];rfl);exact⟨t,n,h0,t.eF,ho,he⟩
abbrev wLz(d:Dg)(e:Int)(l:LI0)(acc:List V)(i:Int)(x:List (Nat×PE aC)):aS aC:=⟨[(1,xi e),(2,xL 3 l),(3,.loc 0 0),(7,.val (.own 0)),(8,xi i)]++x,[d.ps],[.list false false 39 acc]⟩
theorem lLz{n:Nat}(hO:Ok n ags)(d:Dg)(e:Int){l:LI0}(hl:l.length<=1000):Lp n 74 0 (wLz d e l [] 0 []) (.exit 0) (wLz d e l (cL l) l.length [(12,xl false)]):=by
 have e1:aU (fun k (a:List V)=>a++[(⟨0,l.getD k 0⟩:V)]) l.length 0 []=cL l:=by rw[OB,Jl l 0 fun r=>(⟨0,r⟩:V)];rfl
 rw[<-e1];refine rM (σ:=List V) (N:=l.length) (g:=fun k (a:List V)=>a++[(⟨0,l.getD k 0⟩:V)]) (s0:=([]:List V)) (st:=fun i a=>wLz d e l a i []) (fin:=fun a=>wLz d e l a l.length [(12,xl false)]) (fun k a=>a.length=k) (by kernel_rfl) (by unfold ah;omega) rfl (fun k a _ h=>by simp[h]) (fun k a hk ha m e p g9=>?_) (fun a _=>?_)
 .have hal:a.length+[(⟨0,l.getD k 0⟩:V)].length<=ah:=by have:a.length=k:=ha;rw[a3P];unfold ah;omega
  exact aJ hO (.b (aW hk) (.o (aG hk) (.o hal (.goG [.gc [2]] g9))))
 exact aJ hO (.b (eH l.length) .ex)
def alv(p:Dg×Int×LI0):Bool:=if(p.2.1==0)=true then(if(rO p.1==0)=true then decide (cellsD p.1=cL p.2.2)else false)else false
def abf:eY aC:=bT 74 (a3 dA iA rJ) tA (fun p=>alv p) (fun p=>[p.1.aH.length<=ah,p.1.aO.length<=ah,p.2.2.length<=1000,(cellsD p.1).length<=ah]) ags
theorem aqw:Gd abf:=aqv.add fun n hO p hp=>aN hO (.wG [.Ej 7 39] (lLz hO p.1 p.2.1 (hp _ hh2)) (.ss (.o (hp _ gZ) (.o (hp _ yI) (.sh (fun h=>.o (a1R (hp _ gZ) (hp _ yI) h) (.o (hp _ (.tail _ (.tail _ (.tail _ (.head _))))) .rr)) (fun _=>.rr)))) .rr))
open Go Tw Pv bQ
theorem Vl{d:Dg}(h:((d.au.all fun n=>n.ay.all fun k=>decide (-1000<=k)&&decide (k<=1000))&&(decide (-1000<=d.root)&&decide (d.root<=1000))&&(d.aO.all fun v=>decide (0<=v.f))&&(decide (d.aA.length<=100)&&decide (d.aH.length<=100)&&decide (d.aO.length<=100)))=true):qC d:=by
 simp only[a2f,a1o,a4o]at h;obtain⟨⟨⟨h1,h2⟩,h3⟩,⟨h4,h5⟩,h6⟩:=h;refine⟨⟨fun i hi k hk=>?_,?_,h3⟩,by unfold ah;omega,by omega,by unfold ah;omega⟩
 .have h7:=h1 _ (dK (d:=(⟨0,[]⟩:Br)) hi) _ (dK (d:=(0:Int)) hk);show KY ((fD d i).ay.getD k 0);unfold KY;have h8:((d.au.getD i ⟨0,[]⟩).ay.getD k 0)=(fD d i).ay.getD k 0:=rfl;rw[h8]at h7;omega
 unfold KY;omega
theorem pX:qC dX:=Vl (by kernel_rfl)
theorem pY:qC dY:=Vl (by kernel_rfl)
theorem a8p:qC FQ:=Vl (by kernel_rfl)
theorem pLe:qC dLe:=Vl (by kernel_rfl)
abbrev dvA(d:Dg):PV aC:=(dR (a2 dA iA)).put (d,0)
theorem agt:(dRs,(0:Int))=KG (dY,1,2):=acV rfl agm.1.symm
theorem a8q:(dWh,(0:Int))=zK dY:=acV rfl a8n.1.symm
theorem agu:(FQ,(0:Int))=wS (10,dX,dY):=acV rfl agn.symm
theorem aly:(dLe,(0:Int))=wS (14,dX,dY):=acV rfl alr.symm
section
variable {n:Nat} (hO:Ok n abf)
include hO
theorem alz:iQ n (.fn 73 [] []) [] [] ((dR (a2 dA dA)).put (dX,dY)) []:=
 qW hX hO (f:=73) (first:=[]) (xs:=[]) (cap:=[]) (vs:=[]) (v:=(dR (a2 dA dA)).put (dX,dY)) (H:=[]) (ps:=[]) rfl (by kernel_rfl) (fun _ h=>by cases h) rfl
theorem abg{j k:Bool}:iQ n (.fn 57 [] []) [.own 0,.own 1,.int .i64 0,.int .i64 1] [.list j k 3 ([2,3]:LI0),.list j k 3 ([0,1]:LI0)] (dvA dX) [.gone,.gone]:=by unfold dvA;rw[<-a3S];exact qW hX hO (f:=57) (first:=[]) (xs:=[.own 0,.own 1,.int .i64 0,.int .i64 1]) (cap:=[]) (vs:=[.dB 3 ([2,3]:LI0) false,.dB 3 ([0,1]:LI0) false,.int .i64 0,.int .i64 1]) (v:=(dR (a2 dA iA)).put (PU ([2,3],[0,1],0,1))) (H:=[.list j k 3 ([2,3]:LI0),.list j k 3 ([0,1]:LI0)]) (ps:=[([2,3]:LI0).length<=ah,([0,1]:LI0).length<=2^20]) rfl (by kernel_rfl) (by simp[ah]) rfl
theorem aIf:iQ n (.fn 63 [] []) [.agg dY.ps,.agg dX.ps,.agg dY.ps] [] (dvA dIf) []:=by have e:(dIf,(0:Int))=Y6 (dY,dX,dY):=acV rfl alq.1.symm;unfold dvA;rw[e];exact qW hX hO (f:=63) (first:=[]) (cap:=[]) (vs:=[.agg dY.ps,.agg dX.ps,.agg dY.ps]) (v:=(dR (a2 dA iA)).put (Y6 (dY,dX,dY))) (H:=[]) (ps:=[qC dY,qC dX,qC dY]) rfl (by kernel_rfl) (by simp[pX,pY]) rfl
theorem aqx:iQ n (.fn 20 [] []) [.agg dY.ps,.int .i64 1,.int .i64 2] [] (dvA dRs) []:=by rw[show(dvA dRs:PV aC)=((dR (a2 dA iA)).put (KG (dY,1,2)))from by rw[<-agt]];exact qW hX hO (f:=20) (first:=[]) (xs:=[.agg dY.ps,.int .i64 1,.int .i64 2]) (cap:=[]) (vs:=[.agg dY.ps,.int .i64 1,.int .i64 2]) (v:=((dR (a2 dA iA)).put (KG (dY,1,2)))) (H:=[]) (ps:=[qC dY]) rfl (by kernel_rfl) (by simp[pX,pY,a8p,pLe]) rfl
theorem agv:iQ n (.fn 67 [] []) [.agg dY.ps] [] (dvA dWh) []:=by rw[show(dvA dWh:PV aC)=((dR (a2 dA iA)).put (zK dY))from by rw[<-a8q]];exact qW hX hO (f:=67) (first:=[]) (xs:=[.agg dY.ps]) (cap:=[]) (vs:=[.agg dY.ps]) (v:=((dR (a2 dA iA)).put (zK dY))) (H:=[]) (ps:=[qC dY]) rfl (by kernel_rfl) (by simp[pX,pY,a8p,pLe]) rfl
theorem alA:iQ n (.fn 27 [] []) [.agg dY.ps,.agg (⟨0,2⟩:V).ps] [] ((dR (a2 iA iA)).put (2,0)) []:=by rw[show((dR (a2 iA iA)).put (2,0):PV aC)=((dR (a2 iA iA)).put (Vh (dY,⟨0,2⟩)))from by rw[abd]];exact Mc hX hO (f:=27) (first:=[]) (xs:=[.agg dY.ps,.agg (⟨0,2⟩:V).ps]) (cap:=[]) (vs:=[.agg dY.ps,.agg (⟨0,2⟩:V).ps]) (v:=((dR (a2 iA iA)).put (Vh (dY,⟨0,2⟩)))) (H:=[]) (ps:=[qC dY]) rfl (by kernel_rfl) (by simp[pY]) rfl
theorem agw:iQ n (.fn 28 [] []) [.agg dX.ps,.agg (⟨0,2⟩:V).ps] [] ((dR (a2 rJ iA)).put ([1,0],0)) []:=by rw[show((dR (a2 rJ iA)).put ([1,0],0):PV aC)=((dR (a2 rJ iA)).put (Ie (dX,⟨0,2⟩)))from by rw[a8o]];exact qW hX hO (f:=28) (first:=[]) (xs:=[.agg dX.ps,.agg (⟨0,2⟩:V).ps]) (cap:=[]) (vs:=[.agg dX.ps,.agg (⟨0,2⟩:V).ps]) (v:=((dR (a2 rJ iA)).put (Ie (dX,⟨0,2⟩)))) (H:=[]) (ps:=[qC dX]) rfl (by kernel_rfl) (by simp[pX]) rfl
theorem aqy:iQ n (.fn 62 [] []) [.int .u8 10,.agg dX.ps,.agg dY.ps] [] (dvA FQ) []:=by rw[show(dvA FQ:PV aC)=((dR (a2 dA iA)).put (wS (10,dX,dY)))from by rw[<-agu]];exact qW hX hO (f:=62) (first:=[]) (xs:=[.int .u8 10,.agg dX.ps,.agg dY.ps]) (cap:=[]) (vs:=[.int .u8 10,.agg dX.ps,.agg dY.ps]) (v:=((dR (a2 dA iA)).put (wS (10,dX,dY)))) (H:=[]) (ps:=[qC dX,qC dY]) rfl (by kernel_rfl) (by simp[pX,pY,a8p,pLe]) rfl
theorem aLe:iQ n (.fn 62 [] []) [.int .u8 14,.agg dX.ps,.agg dY.ps] [] (dvA dLe) []:=by rw[show(dvA dLe:PV aC)=((dR (a2 dA iA)).put (wS (14,dX,dY)))from by rw[<-aly]];exact qW hX hO (f:=62) (first:=[]) (xs:=[.int .u8 14,.agg dX.ps,.agg dY.ps]) (cap:=[]) (vs:=[.int .u8 14,.agg dX.ps,.agg dY.ps]) (v:=((dR (a2 dA iA)).put (wS (14,dX,dY)))) (H:=[]) (ps:=[qC dX,qC dY]) rfl (by kernel_rfl) (by simp[pX,pY,a8p,pLe]) rfl
abbrev a8r:An:=⟨4,false,false,0,0,1,true,[]⟩
abbrev adv:An:=⟨8,false,false,2,0,0,false,[0]⟩
theorem aqz:iQ n (.fn 33 [] []) [.int .u8 4,.agg FQ.ps,.agg dX.ps] [] ((dR (a2 Ti iA)).put (a8r,0)) []:=by rw[show((dR (a2 Ti iA)).put (a8r,0):PV aC)=((dR (a2 Ti iA)).put (a1Q (4,FQ,dX)))from by rw[agq]];exact qW hX hO (f:=33) (first:=[]) (xs:=[.int .u8 4,.agg FQ.ps,.agg dX.ps]) (cap:=[]) (vs:=[.int .u8 4,.agg FQ.ps,.agg dX.ps]) (v:=((dR (a2 Ti iA)).put (a1Q (4,FQ,dX)))) (H:=[]) (ps:=[qC FQ,qC dX]) rfl (by kernel_rfl) (by simp[a8p,pX]) rfl
end
open Go Tw Pv bQ
theorem alB{n:Nat}(hn:24<=n)(BG:Ok n ab3)(FV:∀m,n-24<=m->Ok m rQ){k:Bool}:iQ (n+1) (.fn 39 [] []) [.own 0,.agg dLe.ps] [.list k true 26 [dX,dY]] ((dR (a2 Ti iA)).put (adv,0)) [.list k true 26 [dX,dY]]:=by
 rw[<-abe];exact adq (l:=[dX,dY]) (d:=dLe) hn BG FV (fun x h=>by
  rcases a2d.1 h with rfl|h
  .exact pX
  rcases a2d.1 h with rfl|h
  .exact pY
  rw[a2p.1 h];exact pLe) (by show 2<=1000;omega)
theorem alC{n:Nat}(hO:Ok n abf):iQ n (.fn 48 [] []) [.int .i64 2] [] (.agg (⟨0,2⟩:V).ps) []:=
 Mc hX hO (f:=48) (first:=[]) (xs:=[.int .i64 2]) (cap:=[]) (vs:=[.int .i64 2]) (v:=.agg (⟨0,2⟩:V).ps) (H:=[]) (ps:=[]) rfl (by kernel_rfl) (fun _ h=>by cases h) rfl
theorem Tj{a b:Nat}(h:Nat.ble a b=true):a<=b:=agG h
theorem aqA:Ig dX:=⟨Tj (by kernel_rfl),Tj (by kernel_rfl),Tj (by kernel_rfl),Tj (by kernel_rfl),fun b h=>by rw[a2p.1 h];exact Tj (by kernel_rfl)⟩
def alD:eY aC:=bT 19 aeC tA (fun _=>true) np abf
theorem aqB:Gd alD:=Good.abW 25 aqw ag5 I8 fun n hn hO FV hO3 p hp=>by obtain⟨m,rfl⟩:∃m,n=m+1:=⟨n-1,by omega⟩;have Aw:=hO (m+1) (by omega);exact aN Aw (.fr [] (alz Aw) (.fr [0,1] (abg Aw (j:=true) (k:=true)) (.fr [] (aIf Aw) (.fr [] (aqx Aw) (.fr [] (agv Aw) (.fr [] (alC Aw) (.fr [] (alA Aw) (.fr [] (alC Aw) (.fr [] (agw Aw) (.fr [] (aqy Aw) (.fr [] (aqz Aw) (.fr [] (aLe Aw) (.fr [2] (alB (k:=true) (by omega) (FV m (by omega)) (fun k hk=>hO3 k (by omega))) (.o aqA (.b (c:=true) (t:=true) rfl (.o (Tj (by kernel_rfl):dIf.aH.length<=ah) (.o (Tj (by kernel_rfl):dIf.aO.length<=ah) (.o (Tj (by kernel_rfl):([0,0,0,0,0,0]:LI0).length<=1000) (.o (Tj (by kernel_rfl):(cellsD dIf).length<=ah) (.b (c:=true) (t:=true) rfl (.o (Tj (by kernel_rfl):dRs.aH.length<=ah) (.o (Tj (by kernel_rfl):dRs.aO.length<=ah) (.o (Tj (by kernel_rfl):([0,0,0,0,0,0]:LI0).length<=1000) (.o (Tj (by kernel_rfl):(cellsD dRs).length<=ah) (.b (c:=true) (t:=true) rfl (.o (Tj (by kernel_rfl):dWh.aH.length<=ah) (.o (Tj (by kernel_rfl):dWh.aO.length<=ah) (.o (Tj (by kernel_rfl):([0,0,0,0,0,0]:LI0).length<=1000) (.o (Tj (by kernel_rfl):(cellsD dWh).length<=ah) (.b (c:=true) (t:=true) rfl (.b (c:=true) (t:=true) rfl (.b (c:=true) (t:=true) rfl (.b (c:=true) (t:=true) rfl (.o (Tj (by kernel_rfl):([1,0]:LI0).length<=ah) (.b (c:=true) (t:=true) rfl (.b (c:=true) (t:=true) rfl (.b (c:=true) (t:=true) rfl (.o (Tj (by kernel_rfl):a8r.set.length<=ah) (.b (c:=true) (t:=true) rfl (.b (c:=true) (t:=true) rfl (.b (c:=true) (t:=true) rfl (.o (Tj (by kernel_rfl):adv.set.length<=ah) .rr))))))))))))))))))))))))))))))))))))))))))
open Go Tw Pv bQ
theorem wU(d:Dg):(cellsD d).length=FD d.aA:=by simp[cellsD]
theorem agx{d:Dg}(h:JH d=true)(r:KD d):qC d:=by obtain⟨f,h1,h2,h3,_⟩:=Yb h;exact⟨r,f.s,by omega,by unfold ah;omega⟩
open Go Tw Pv bQ
theorem Yc{t:List (V×Int)}(hn:(t.map (·.1)).Nodup)(v:V):look t v=dF (ind v) t:=by
 unfold look;by_cases h:v∈t.map (·.1)
 .obtain⟨e,he,hv⟩:=a1g.1 h;obtain⟨e2,h2⟩:=a4J.1 (List.find?_isSome (p:=fun e:V×Int=>decide (e.1=v)) |>.2 ⟨e,he,show decide (e.1=v)=true by simpa using hv⟩);have h3:e2.1=v:=by simpa using List.find?_some h2
  have:=yc hn (aeb h2);rw[h3]at this;rw[h2,this];rfl
 rw[Hf h,adu.2 fun e he=>by simp only[a1o];intro hv;exact h (a1g.2 ⟨e,he,hv⟩)]
 rfl
theorem ZT(J:Jb)(v:V):look (bW J) v=((jC J).count v:Int):=by rw[Yc (ql J),Dx,OI]
open Go Tw Pv bQ
def a1S(p:Dg×Dg):Bool:=if decide (p.1.aA=p.2.aA)=true then decide (p.1.aH=p.2.aH)else false
def abh:eY aC:=bT 70 (a2 dA dA) tA (fun p=>a1S p) (fun p=>[p.1.aA.length<=ah,p.1.aH.length<=ah]) alD
theorem aqC:Gd abh:=aqB.add fun n hO p hp=>aN hO (.o (hp _ gZ) (.ss (.o (hp _ yI) .rr) .rr))
theorem a8s(a b:Dg):a1S (a,b)=Dq (a.aA,a.aH) b:=by
 unfold a1S Dq;rw[a4u];by_cases h:a.aA=b.aA
 .by_cases h2:a.aH=b.aH
  .simp[h,h2]
  simp only[h,decide_true,a1U,a1o];exact⟨fun e=>absurd e h2,fun e=>absurd e.symm h2⟩
 have h3:¬b.aA=a.aA:=fun e=>h e.symm;simp[h,h3]
abbrev wCa(l:List Dg)(i:Int)(x:List (Nat×PE aC)):aS aC:=⟨[(0,xL 26 l),(3,xi i)]++x,[],[]⟩
abbrev wCb(l:List Dg)(i:Int)(x:List (Nat×PE aC)):aS aC:=⟨[(0,xL 26 l),(5,xi i)]++x,[],[]⟩
def Yd(l:List Dg)(k:Nat):Bool:=rO (l.getD k jf) != 0
def cA2(l:List Dg)(k:Nat):Bool:=!(a1S (l.getD 0 jf,l.getD k jf))
def zA1(l:List Dg):Unit⊕Nat->Ex×aS aC
 |.inl _=>(.exit 0,wCa l l.length [(9,xl false)])
 |.inr k=>(.ret,⟨[(2,xi (rO (l.getD k jf)))],[],[]⟩)
def zA2(l:List Dg):Unit⊕Nat->Ex×aS aC
 |.inl _=>(.exit 2,wCb l l.length [(23,xl false)])
 |.inr _=>(.ret,⟨[(2,xi 2)],[],[]⟩)
theorem lA1{n:Nat}(hO:Ok n abh){l:List Dg}(hf:∀d∈l,Ig d)(hl:l.length<=ah):Lp n 34 0 (wCa l 0 []) (zA1 l (bC (Yd l) l.length)).1 (zA1 l (bC (Yd l) l.length)).2:=by
 refine iK (st:=fun i _=>wCa l i []) (g:=gS (Yd l)) (out:=zA1 l) (fun _ _=>True) (by kernel_rfl) hl trivial (fun k u m hk _ ih=>?_) (fun _ _=>?_)
 .have h:=hf _ (dK (d:=jf) hk);unfold gS Yd;exact aJ hO (.b (aW hk) (.o (aG hk) (.o h.o (.o h.e (.ls (.ou nofun) (.nx (ih _ trivial)))))))
 exact aJ hO (.b (eH l.length) (.ou nofun))
theorem lA2{n:Nat}(hO:Ok n abh){l:List Dg}(hf:∀d∈l,Ig d)(h0:0<l.length)(hl:l.length<=ah):Lp n 34 1 (wCb l 1 []) (zA2 l (iZ (gS (cA2 l)) (l.length-1) 1 ())).1 (zA2 l (iZ (gS (cA2 l)) (l.length-1) 1 ())).2:=by
 refine a1k (a:=1) (st:=fun i _=>wCb l i []) (g:=gS (cA2 l)) (out:=zA2 l) (fun _ _=>True) (by kernel_rfl) h0 hl trivial (fun k u m hk0 hk _ ih=>?_) (fun _ _=>?_)
 .have h:=hf _ (dK (d:=jf) h0);unfold gS cA2;exact aJ hO (.b (aW hk) (.o (aG h0) (.o (aG hk) (.o h.s (.o h.o (.ls (.ou nofun) (.nx (ih _ trivial))))))))
 exact aJ hO (.b (eH l.length) (.ou nofun))
def tK(l:List Dg):Int:=match bC (Yd l) l.length with
 |.inr k=>rO (l.getD k jf)
 |.inl _=>match iZ (gS (cA2 l)) (l.length-1) 1 ()with
  |.inr _=>2
  |.inl _=>0
def alE:eY aC:=bT 34 (a1 Xn) iA tK (fun l=>[∀d∈l,Ig d,0<l.length∧l.length<=ah]) abh
theorem aqH:Gd alE:=aqC.add fun n hO l hp=>by
 have hf:∀d∈l,Ig d:=hp _ gZ;obtain⟨h0,hl⟩:0<l.length∧l.length<=ah:=hp _ yI;have lp:=lA1 hO hf hl;have lp2:=lA2 hO hf h0 hl;show nY X0 Qp _ _ _ (iA.put (match bC (Yd l) l.length with
  |.inr k=>rO (l.getD k jf)
  |.inl _=>match iZ (gS (cA2 l)) (l.length-1) 1 ()with
   |.inr _=>2
   |.inl _=>0)) _
 revert lp lp2;rcases bC (Yd l) l.length with _|k
 .rcases iZ (gS (cA2 l)) (l.length-1) 1 ()with _|j
  .intro lp lp2;exact aN hO (.w lp (.w lp2 .rr))
  .intro lp lp2;exact aN hO (.w lp (.w lp2 .rr))
 .intro lp lp2;exact aN hO (.w lp .rr)
theorem a1T{l:List Dg}(hp:∀d∈l,qC d)(h0:0<l.length):tK l=bK l:=by
 have hd:l.getD 0 jf∈l:=dK h0;have ec:∀k,k<l.length->(vI (l.getD k jf)).2=rO (l.getD k jf):=fun k hk=>by have h:=hp _ (dK (d:=jf) hk);rw[XH h.r h.s (by have:=h.o;unfold ah;omega) h.e]
 have eb:∀k,k<l.length->cCk l k=Yd l k:=fun k hk=>by unfold cCk Yd;rw[ec k hk]
 unfold tK bK;cases e1:jP (bC (cCk l) l.length)
 .obtain⟨j,hj,h1,h2,h3⟩:=DW e1;have e2:jP (bC (Yd l) l.length)=false:=by
   cases e:jP (bC (Yd l) l.length)
   .rfl
   have:=dH.1 e j hj;rw[<-eb j hj,h1]at this;cases this
  obtain⟨i,hi,g1,g2,g3⟩:=DW e2;have:i=j:=by
   by_cases c:i<j
   .have:=h2 i c;rw[eb i hi,g1]at this;cases this
   by_cases c2:j<i
   .have:=g2 j c2;rw[<-eb j hj,h1]at this;cases this
   omega
  subst this;rw[g3,h3,a0c (by simp)];exact(ec i hi).symm
 have h1:=dH.1 e1;have e2:jP (bC (Yd l) l.length)=true:=dH.2 fun j hj=>by rw[<-eb j hj];exact h1 j hj
 rw[a0g rfl];rcases e3:bC (Yd l) l.length with u|k
 rotate_left
 .rw[e3]at e2;cases e2
 show(match iZ (gS (cA2 l)) (l.length-1) 1 ()with
  |.inr _=>(2:Int)
  |.inl _=>0)=_
 have hs:Dq ((l.getD 0 jf).aA,(l.getD 0 jf).aH) (l.getD 0 jf)=true:=by simp[Dq]
 rcases e4:iZ (gS (cA2 l)) (l.length-1) 1 ()with u|j
 .have h2:=(H9 (r:=fun k=>k) (c:=cA2 l) (m:=l.length-1) (k:=1)).1 (by unfold gS at e4;rw[e4];rfl);rw[a0c];rw[adE,aby,a4o];intro d Zj;obtain⟨k,hk,rfl⟩:=a8k Zj;have ek:l[k]=l.getD k jf:=by rw[a2N,a0a hk,a4r]
  rw[ek];by_cases c:k=0
  .subst c;exact hs
  have:=h2 k (by omega) (by omega);unfold cA2 at this;rw[a8s]at this;simpa using this
 have h2:=X4 (r:=fun k=>k) (c:=cA2 l) (m:=l.length-1) (k:=1) (by unfold gS at e4;rw[e4];rfl);obtain⟨i,hi1,JO,h3,_⟩:=h2;rw[a0g];rw[a8C,List.all_eq_false];unfold cA2 at h3;rw[a8s]at h3;exact⟨l.getD i jf,dK (by omega),by simpa using h3⟩
open Go Tw Pv bQ
theorem abj{s q:LI0}(hq:ni s q=true):ov (List.replicate s.length (-1)) q=q:=by
 have hl:=zq hq;refine(qX (d:=(0:Int)) (by simp[ov,agS,hl])).2 fun k hk=>?_;have kN:k<s.length:=by simp[ov,agS,hl]at hk;exact hk
 rw[Py (by rw[a8A,hl]),a0g (by rw[a8A];exact kN),a0c];rw[a2N,afM,a0g kN];decide
open Go Tw Pv bQ
theorem a3U{l:List Dg}(h:tK l=0):∀d∈l,rO d=0:=by
 have e:jP (bC (Yd l) l.length)=true:=by
  cases e:jP (bC (Yd l) l.length)
  .obtain⟨j,hj,h1,_,h3⟩:=DW e;unfold tK at h;rw[h3]at h;have h:rO (l.getD j jf)=0:=h;unfold Yd at h1;rw[h]at h1;cases h1
  rfl
 intro d hd;obtain⟨k,hk,rfl⟩:=a8k hd;have:=dH.1 e k hk;unfold Yd at this;rw[a2N,a0a hk,a4r]at this;simpa using this
open Go Tw Pv bQ
def agy:eY aC:=bT 91 (a1 vA) tA (fun p=>decide (p=ji)) np alE
theorem aqI:Gd agy:=aqH.add fun n hO p hp=>aN hO (.q (.bool (decide (p=ji))) (eqV (.tmp 3) (.tmp 4) p ji) .rr)
abbrev wCx(x y acc:List V)(i:Int)(e:List (Nat×PE aC))(loc:List (List (PV aC))):aS aC:=⟨[(5,.val (.own 0)),(6,xL 39 x),(7,xL 39 y),(8,xi i)]++e,loc,[.list false false 39 acc]⟩
def gCx(x y:List V)(k:Nat)(acc:List V):List V:=if decide (y.getD k V0=ji)=true then acc++[x.getD k V0]else acc
def uH(x y:List V):List V:=aU (gCx x y) x.length 0 []
theorem lCx{n:Nat}(hO:Ok n agy){d c:Dg}{x y:List V}(hl:x.length<=5000)(hy:y.length=x.length):Lp n 37 0 (wCx x y [] 0 [] [d.ps,c.ps]) (.exit 0) (wCx x y (uH x y) x.length [(22,xl false)] []):=by
 refine rM (σ:=List V) (N:=x.length) (g:=gCx x y) (s0:=[]) (st:=fun i a=>wCx x y a i [] []) (fin:=fun a=>wCx x y a x.length [(22,xl false)] []) (fun k a=>a.length<=k) (by kernel_rfl) (by unfold ah;omega) (a0U _) (fun k a hk h=>by
  unfold gCx;split
  .rw[a1I,a3P];omega
  omega) (fun k a hk ha m e p g9=>?_) (fun a _=>?_)
 .have i2:gW (k:Int) y.length:=aG (by omega);have t2:decide ((k:Int)<(y.length:Int))=true:=aW (by omega);unfold gCx at g9;cases e1:decide (y.getD k V0=ji)
  .rw[e1,a0c (by simp)]at g9;exact aJ hO (.b (aW hk) (.b t2 (.o i2 (.b e1 (.go g9)))))
  rw[e1,a0g rfl]at g9;have hal:a.length+[x.getD k V0].length<=ah:=by rw[a3P];unfold ah;omega
  exact aJ hO (.b (aW hk) (.b t2 (.o i2 (.b e1 (.o (aG hk) (.o hal (.goG [.gc [2]] g9)))))))
 exact aJ hO (.b (eH x.length) .ex)
def agz:eY aC:=bT 37 (a2 dA dA) Zx (fun p=>uH (cellsD p.1) (cellsD p.2)) (fun p=>[Qx p.1,Qx p.2,(cellsD p.1).length<=5000,(cellsD p.2).length=(cellsD p.1).length]) agy
theorem aqJ:Gd agz:=aqI.add fun n hO p hp=>aN hO (.o (hp _ gZ) (.o (hp _ yI) (.wG [.Ej 5 39] (lCx hO (d:=p.1) (c:=p.2) (hp _ hh2) (hp _ (.tail _ (.tail _ (.tail _ (.head _)))))) .rr)))
open Go Tw Pv bQ
theorem rB(a:An)(h:a.set=[]):Fp (Γ:=X0.Γ) (Is (X:=X0) (P:=Qp) Ti a) .n (.ret (some (anW a (.nil .aP)))):=by obtain⟨q,no,y,n,l,hi,f,s⟩:=a;cases h;have h:Ti.get (anW ⟨q,no,y,n,l,hi,f,[]⟩ (.nil .aP))=some ⟨q,no,y,n,l,hi,f,[]⟩:=rfl;exact Fp.rn (X:=X0) (P:=Qp) _ h
open Go Tw Pv bQ
theorem ZU(x y:List V):uH x y=((List.range x.length).filter fun k=>decide (y.getD k V0=ji)).map fun k=>x.getD k V0:=by
 have:=dU (g:=gCx x y) (m:=x.length) (k:=0) (s:=[]) (fun k a=>a=((List.range k).filter fun k=>decide (y.getD k V0=ji)).map fun k=>x.getD k V0) rfl (fun j a _ _ e=>by
  rw[abA,List.filter_append,a3Z,<-e];unfold gCx;by_cases c:decide (y.getD j V0=ji)=true
  .rw[a0g c,(agR (l:=[j])).2 fun k hk=>by rw[a2p.1 hk];exact c];rfl
  rw[a0c c,(List.filter_eq_nil_iff (l:=[j])).2 fun k hk=>by rw[a2p.1 hk];exact c];simp)
 rw[a3T]at this;exact this
open Go Tw Pv bQ
theorem a3V{a b:Dg}(hJ:kE (eG [a,b]))(es:a.aA=b.aA):jC (eG [a,b])=uH (cellsD a) (cellsD b):=by
 have hp:Qq (eG [a,b])=(List.range (FD a.aA)).map fun(k:Nat)=>ng a.aA k:=by unfold Qq;refine agR.2 fun q hq=>?_;have hp:=(V3 hJ).1 hq;rw[a1o];exact abj (s:=a.aA) hp
 have gx:∀k,k<FD a.aA->(cellsD a).getD k V0=Em a (ng a.aA (k:Int)):=fun k hk=>by unfold cellsD;rw[a2N,a4j,ad2 hk];rfl
 have gy:∀k,k<FD a.aA->(cellsD b).getD k V0=Em b (ng a.aA (k:Int)):=fun k hk=>by unfold cellsD;rw[a2N,a4j,ad2 (by rw[<-es];exact hk),<-es];rfl
 rw[ZU,wU];unfold jC Vb;rw[hp,a7m,List.filter_map,a7m];have e:(List.range (FD a.aA)).filter ((fun l:List V=>mY (l.drop 1))∘((fun q=>(eG [a,b]).D.map fun d=>Em d q)∘fun(k:Nat)=>ng a.aA (k:Int)))=(List.range (FD a.aA)).filter fun k=>decide ((cellsD b).getD k V0=ji):=by refine List.filter_congr fun k hk=>?_;rw[gy k (a4i.1 hk)];show mY [Em b (ng a.aA (k:Int))]=_;simp[mY]
 rw[e];refine a5m fun k hk=>?_;rw[gx k (a4i.1 (a7S.1 hk).1)];rfl
section
variable {J:Jb} (hJ:kE J) (hc:∀ v∈jC J,Pz v)
theorem Ii{J:Jb}(v:V):(∃e∈bW J,e.1=v)↔v∈jC J:=by
 have hn:=ql J;have hs:=Yc hn v;rw[ZT]at hs;constructor
 .rintro⟨e,he,rfl⟩;have h1:=yc hn he;have h2:=(Ak (jC J)).2 e ((lY Vd (yG (jC J))).mem_iff.1 he);exact agZ.1 (by omega)
 intro hv;have h1:=agZ.2 hv;by_cases h:v∈(bW J).map (·.1)
 .obtain⟨e,he,h2⟩:=a1g.1 h;exact⟨e,he,h2⟩
 rw[Hf h]at hs;omega
end
open Go Tw Pv bQ
theorem PW(a:An):Ih a a=true:=by unfold Ih;simp
theorem abk(x y:List V):(uH x y).length<=x.length:=by rw[ZU,a4h];exact a4A (a8L _ _) (by rw[a8D];exact a0U _)
open Go Tw Pv bQ
abbrev wTl(l:List Dg)(i:Int)(e:List (Nat×PE aC)):aS aC:=⟨[(0,xL 26 l),(3,xi i)]++e,[],[]⟩
def cTl(l:List Dg)(k:Nat):Bool:=!(JH (l.getD k jf))
def zTl(l:List Dg):Unit⊕Nat->Ex×aS aC
 |.inl _=>(.exit 0,wTl l (min l.length 7:Nat) [(11,xl false)])
 |.inr _=>(.ret,⟨[(2,xl false)],[],[]⟩)
theorem lTl{n:Nat}(hO:Ok n agz){l:List Dg}:Lp n 38 0 (wTl l 0 []) (zTl l (bC (cTl l) (min l.length 7))).1 (zTl l (bC (cTl l) (min l.length 7))).2:=by
 refine iK (st:=fun i _=>wTl l i []) (g:=gS (cTl l)) (out:=zTl l) (fun _ _=>True) (by kernel_rfl) (by unfold ah;omega) trivial (fun k u m hk _ ih=>?_) (fun _ _=>?_)
 .have h1:k<l.length:=by omega
  have t2:decide ((k:Int)<7)=true:=by rw[a1o];omega
  unfold gS cTl;exact aJ hO (.b (aW h1) (.b t2 (.o (aG h1) (.ls (.ou nofun) (.nx (ih _ trivial))))))
 by_cases h:l.length<=7
 .have t1:decide (((min l.length 7:Nat):Int)<(l.length:Int))=false:=by rw[a2I];omega
  exact aJ hO (.b t1 (.ou nofun))
 have t1:decide (((min l.length 7:Nat):Int)<(l.length:Int))=true:=by rw[a1o];omega
 have t2:decide (((min l.length 7:Nat):Int)<7)=false:=by rw[a2I];omega
 exact aJ hO (.b t1 (.b t2 (.ou nofun)))
def MQ(l:List Dg):Bool:=if jP (bC (cTl l) (min l.length 7))=true then decide ((l.length:Int)<=6)else false
def abl:eY aC:=bT 38 (a1 Xn) tA MQ np agz
theorem alF:Gd abl:=aqJ.add fun n hO l hp=>by
 have lp:=lTl hO (l:=l);show nY X0 Qp _ _ _ (tA.put (if jP (bC (cTl l) (min l.length 7))=true then decide ((l.length:Int)<=6)else false)) _;revert lp;rcases bC (cTl l) (min l.length 7)with u|k
 .intro lp;exact aN hO (.w lp .rr)
 .intro lp;exact aN hO (.w lp .rr)
theorem a8t{l:List Dg}(h:MQ l=true):l.length<=6∧∀d∈l,JH d=true:=by
 unfold MQ at h;split at h
 .rename_i c;have h6:l.length<=6:=by have:=a6N h;omega
  refine⟨h6,fun d hd=>?_⟩;obtain⟨k,hk,rfl⟩:=a8k hd;have:=dH.1 c k (by omega);unfold cTl at this;rw[a2N,a0a hk,a4r]at this;simpa using this
 cases h
abbrev wCy(l acc:List Dg)(i:Int)(e:List (Nat×PE aC)):aS aC:=⟨[(0,xL 26 l),(3,.val (.own 0)),(4,xi i)]++e,[],[.list false false 26 acc]⟩
theorem lCy{n:Nat}(hO:Ok n abl){l:List Dg}(hf:∀d∈l,Ig d)(hl:l.length<=1000):Lp n 40 0 (wCy l [] 0 []) (.exit 0) (wCy l l l.length [(8,xl false)]):=by
 have e1:aU (fun k (a:List Dg)=>a++[l.getD k jf]) l.length 0 []=l:=by rw[OB,Jl l jf fun r=>r,List.map_id']
 have:=rM (n:=n) (f:=40) (k:=0) (B:=0) (σ:=List Dg) (N:=l.length) (g:=fun k (a:List Dg)=>a++[l.getD k jf]) (s0:=([]:List Dg)) (st:=fun i a=>wCy l a i []) (e:=.exit 0) (fin:=fun a=>wCy l a l.length [(8,xl false)]) (w:=wCy l [] 0 []) (fun k a=>a.length=k) (by kernel_rfl) (by unfold ah;omega) rfl (fun k a _ h=>by simp[h]) (fun k a hk ha m e p g9=>by
  have hal:a.length+[l.getD k jf].length<=ah:=by have:a.length=k:=ha;rw[a3P];unfold ah;omega
  exact aJ hO (.b (aW hk) (.o (aG hk) (.o (hf _ (dK (d:=jf) hk)) (.o hal (.goG [.gc [2]] g9)))))
  ) (fun a _=>aJ hO (.b (eH l.length) .ex))
 rw[e1]at this;exact this
def abm:eY aC:=bT 40 (a1 Xn) Xn (fun p=>p) (fun p=>[∀d∈p,Ig d,p.length<=1000]) abl
theorem aqM:Gd abm:=alF.add fun n hO p hp=>aN hO (.wG [.Ej 3 26] (lCy hO (hp _ gZ) (hp _ yI)) .rr)
open Go Tw Pv bQ
theorem ZV{d:Dg}(h:Qx d):(cellsD d).length<=ah:=by have:=h.f.a6l;have:=h.f.many;rw[wU];unfold ah;omega
open Go Tw Pv bQ
abbrev wLe(l:List V)(m i:Int)(e:List (Nat×PE aC)):aS aC:=⟨[(0,xL 39 l),(3,xi m),(4,xi i)]++e,[],[]⟩
def cLv(l:List V)(v:V)(j:Nat)(a:Int):Int:=if decide (l.getD j V0=v)=true then i64.wrap (a+1)else a
theorem agA{l:List V}(hl:l.length<=5000)(v:V):aU (cLv l v) l.length 0 0=((l.count v:Nat):Int):=by
 have:=dU (g:=cLv l v) (m:=l.length) (k:=0) (s:=(0:Int)) (fun k a=>a=(((l.take k).count v:Nat):Int)) (by simp) (fun k a _ hk ha=>by
  have hk:k<l.length:=by omega
  have hc:(l.take k).count v<=k:=a4A List.count_le_length (by rw[a3E];omega);have e:l.getD k V0=l[k]:=by rw[a2N,a0a hk,a4r]
  rw[a5K hk,List.count_append,List.count_singleton];unfold cLv;rw[e];by_cases c:l[k]=v
  .rw[a0g (by simpa using c),ha,wrap_small (by omega) (by omega),a0g (by simpa using c)];push_cast;rfl
  rw[a0c (by simpa using c),ha,a0c (by simpa using c)];simp)
 rw[a3T,aae]at this;exact this
theorem aqN{n:Nat}(hO:Ok n abm){l:List V}(hl:l.length<=5000)(m:Int){i:Nat}(hi:i<l.length):Lp n 97 1 (wLe l m i [(5,xi 0),(6,xi 0)]) (.exit 2) (wLe l m i [(5,xi ((l.count (l.getD i V0):Nat):Int)),(6,xi l.length),(16,xl false)]):=by
 have:=rM (n:=n) (f:=97) (k:=1) (B:=0) (σ:=Int) (N:=l.length) (g:=cLv l (l.getD i V0)) (s0:=0) (st:=fun j a=>wLe l m i [(5,xi a),(6,xi j)]) (e:=.exit 2) (fin:=fun a=>wLe l m i [(5,xi a),(6,xi l.length),(16,xl false)]) (w:=wLe l m i [(5,xi 0),(6,xi 0)]) (fun _ _=>True) (by kernel_rfl) (by unfold ah;omega) trivial (fun _ _ _ _=>trivial) (fun k a hk _ m e p g9=>by
  unfold cLv at g9;cases e1:decide (l.getD k V0=l.getD i V0)
  .rw[e1,a0c (by simp)]at g9;refine aJ hO (.b (aW hk) (.o (aG hk) (.o (aG hi) (.q (.bool (decide (l.getD k V0=l.getD i V0))) (eqV (.tmp 22) (.tmp 26) (l.getD k V0) (l.getD i V0)) (.b e1 (.go g9))))))
  .rw[e1,a0g rfl]at g9;refine aJ hO (.b (aW hk) (.o (aG hk) (.o (aG hi) (.q (.bool (decide (l.getD k V0=l.getD i V0))) (eqV (.tmp 22) (.tmp 26) (l.getD k V0) (l.getD i V0)) (.b e1 (.go g9))))))) (fun a _=>by
  refine aJ hO (.b (eH l.length) .ex))
 rw[agA hl]at this;exact this
def gLe(l:List V)(i:Nat)(m:Int):Int:=if((l.count (l.getD i V0):Nat):Int)>m then((l.count (l.getD i V0):Nat):Int)else m
def uI(l:List V):Int:=aU (gLe l) l.length 0 0
theorem lLe{n:Nat}(hO:Ok n abm){l:List V}(hl:l.length<=5000):Lp n 97 0 (wLe l 0 0 []) (.exit 0) (wLe l (uI l) l.length [(10,xl false)]):=
 rM (n:=n) (f:=97) (k:=0) (B:=0) (σ:=Int) (N:=l.length) (g:=gLe l) (s0:=0) (st:=fun i a=>wLe l a i []) (e:=.exit 0) (fin:=fun a=>wLe l a l.length [(10,xl false)]) (w:=wLe l 0 0 []) (fun _ _=>True) (by kernel_rfl) (by unfold ah;omega) trivial (fun _ _ _ _=>trivial) (fun k a hk _ m e p g9=>by
  refine aJ hO (.b (aW hk) (.w (aqN hO hl a hk) (.go g9)))) (fun a _=>by
  refine aJ hO (.b (eH l.length) .ex))
def agB:eY aC:=bT 97 (a1 Zx) iA (fun p=>uI p) (fun p=>[p.length<=5000]) abm
theorem aqO:Gd agB:=aqM.add fun n hO p hp=>aN hO (.w (lLe hO (hp _ gZ)) .rr)
structure LlP(l:List Dg)(d:Dg):Prop where
 i:Qx d
 e:∀x∈l,Qx x∧(cellsD x).length<=5000∧(cellsD d).length=(cellsD x).length
 n:l.length<=ah
 s:(cellsD d).length<=5000
abbrev aqP(no:Bool)(n:Int)(s:PV aC):List (PV aC):=[.int .u8 8,.bool no,.bool false,.int .i64 n,.int .i64 0,.int .i64 0,.bool false,s,.nil .aP]
abbrev aqQ:List (PV aC):=[.int .u8 0,.bool false,.bool false,.int .i64 0,.int .i64 0,.int .i64 0,.bool false,.nil .aP,.nil .aP]
abbrev wRl(l:List Dg)(d:Dg)(b z:Int)(i:Int)(e:List (Nat×PE aC)):aS aC:=⟨[(0,xL 26 l),(3,.loc 0 0),(4,.loc 1 0),(5,.loc 2 0),(6,xi b),(7,xi i)]++e,[d.ps,aqQ,aqP false z (.nil .aP)],[]⟩
def Vm(l:List Dg)(d:Dg)(i:Nat):Int:=uI (uH (cellsD (l.getD i jf)) (cellsD d))
def gRl(l:List Dg)(d:Dg)(i:Nat)(s:Int×Int):Int×Int:=if((i:Int)==0)=true then((i:Int),Vm l d i)else if decide (Vm l d i<s.2)=true then((i:Int),Vm l d i)else s
theorem lRl{n:Nat}(hO:Ok n agB){l:List Dg}{d:Dg}(h:LlP l d):Lp n 41 0 (wRl l d 0 0 0 []) (.exit 0) (wRl l d (aU (gRl l d) l.length 0 (0,0)).1 (aU (gRl l d) l.length 0 (0,0)).2 l.length [(20,xl false)]):=
 rM (n:=n) (f:=41) (k:=0) (B:=0) (σ:=Int×Int) (N:=l.length) (g:=gRl l d) (s0:=(0,0)) (st:=fun i s=>wRl l d s.1 s.2 i []) (e:=.exit 0) (fin:=fun s=>wRl l d s.1 s.2 l.length [(20,xl false)]) (w:=wRl l d 0 0 0 []) (fun _ _=>True) (by kernel_rfl) h.n trivial (fun _ _ _ _=>trivial) (fun k s hk _ m e p g9=>by
  obtain⟨b,z⟩:=s;obtain⟨h1,h2,h3⟩:=h.e _ (dK (d:=jf) hk);have h4:(uH (cellsD (l.getD k jf)) (cellsD d)).length<=5000:=a4A (abk _ _) h2;unfold gRl at g9;cases e1:((k:Int)==0)
  .rw[e1,a0c (by simp)]at g9;cases e2:decide (Vm l d k<z)
   .rw[a0c (by rw[e2];simp)]at g9;refine aJ hO (.b (aW hk) (.o (aG hk) (.o h1 (.o h.i (.o h2 (.o h3 (.o h4 (.b e1 (.b e2 (.go g9))))))))))
   .rw[a0g (show decide (Vm l d k<((b,z):Int×Int).2)=true from e2)]at g9;refine aJ hO (.b (aW hk) (.o (aG hk) (.o h1 (.o h.i (.o h2 (.o h3 (.o h4 (.b e1 (.b e2 (.go g9))))))))))
  .rw[e1,a0g rfl]at g9;refine aJ hO (.b (aW hk) (.o (aG hk) (.o h1 (.o h.i (.o h2 (.o h3 (.o h4 (.b e1 (.go g9)))))))))) (fun s _=>by
  refine aJ hO (.b (eH l.length) .ex))
def AY(p:List Dg×Dg):An:=if(((uH (cellsD p.2) (cellsD p.2)).length:Int)==0)=true then⟨8,true,false,0,0,0,false,[]⟩else⟨8,false,false,(aU (gRl p.1 p.2) p.1.length 0 (0,0)).2,0,0,false,[(aU (gRl p.1 p.2) p.1.length 0 (0,0)).1]⟩
def agC:eY aC:=bT 41 (a2 Xn dA) Ti AY (fun p=>[LlP p.1 p.2]) agB
theorem aqR:Gd agC:=aqO.add fun n hO p hp=>by
 obtain⟨l,d⟩:=p;have h:LlP l d:=hp _ gZ;have hd:=h.i;have lp:=lRl hO h;have he:(cellsD d).length=(cellsD d).length:=rfl;show nY X0 Qp _ _ _ (Ti.put (if(((uH (cellsD d) (cellsD d)).length:Int)==0)=true then⟨8,true,false,0,0,0,false,[]⟩else⟨8,false,false,(aU (gRl l d) l.length 0 (0,0)).2,0,0,false,[(aU (gRl l d) l.length 0 (0,0)).1]⟩)) _;cases e1:(((uH (cellsD d) (cellsD d)).length:Int)==0)
 .exact aN hO (.o hd (.o hd (.o h.s (.o he (.b e1 (.w lp .rr))))))
 .exact aN hO (.o hd (.o hd (.o h.s (.o he (.b e1 (rB _ rfl))))))
open Go Tw Pv bQ
theorem a8u{J:Jb}{e:V×Int}(he:e∈bW J):e.2=(((jC J).count e.1:Nat):Int):=by have h1:=yc (ql J) he;rw[Dx,OI]at h1;exact h1.symm
theorem count_nil{J:Jb}:bW J=[]↔jC J=[]:=by
 constructor
 .intro h;refine a4Y.2 fun v hv=>?_;obtain⟨e,he,_⟩:=(Ii v).2 hv;rw[h]at he;cases he
 intro h;refine a4Y.2 fun e he=>?_;have:=(Ii e.1).1 ⟨e,he,rfl⟩;rw[h]at this;cases this
theorem agD(l:List V):0<=uI l∧(∀v∈l,((l.count v:Nat):Int)<=uI l)∧(uI l=0∨∃v∈l,uI l=((l.count v:Nat):Int)):=by
 have:=dU (g:=gLe l) (m:=l.length) (k:=0) (s:=(0:Int)) (fun k m=>0<=m∧(∀j,j<k->((l.count (l.getD j V0):Nat):Int)<=m)∧(m=0∨∃v∈l,m=((l.count v:Nat):Int))) ⟨by omega,fun j hj=>absurd hj (Nat.not_lt_zero _),.inl rfl⟩ (fun k m _ hk h=>by
  obtain⟨h1,h2,h3⟩:=h;unfold gLe;split
  .rename_i c;refine⟨by omega,fun j hj=>?_,.inr ⟨_,dK (by omega),rfl⟩⟩;by_cases e:j=k
   .subst e;omega
   have:=h2 j (by omega);omega
  rename_i c;refine⟨h1,fun j hj=>?_,h3⟩;by_cases e:j=k
  .subst e;omega
  exact h2 j (by omega))
 rw[a3T]at this;obtain⟨h1,h2,h3⟩:=this;refine⟨h1,fun v hv=>?_,h3⟩;obtain⟨j,hj,rfl⟩:=a8k hv;have:=h2 j hj
 rwa [a2N,a0a hj,a4r]at this
theorem abn{J:Jb}(h:bW J≠[]):JF (lH (bW J))=uI (jC J):=by
 have hp:(lH (bW J)).Perm ((bW J).map fun e:V×Int=>e.2):=lY _ _;have hv:lH (bW J)≠[]:=fun e=>by rw[e]at hp;have:=hp.length_eq;rw[a4h]at this;exact h (a4F.1 (by simpa using this.symm))
 obtain⟨m1,m2⟩:=PO hv;obtain⟨e,he,h1⟩:=a1g.1 (hp.mem_iff.1 m1);have h2:=a8u he;have h3:=(Ii e.1).1 ⟨e,he,rfl⟩;obtain⟨l1,l2,l3⟩:=agD (jC J);have h4:=l2 e.1 h3;have h1:e.2=JF (lH (bW J)):=h1;rcases l3 with l3|⟨v,Yi,l3⟩
 .have:=agZ.2 h3;omega
 obtain⟨e2,he2,hv2⟩:=(Ii v).2 Yi;have h5:=m2 e2.2 (hp.mem_iff.2 (a1g.2 ⟨e2,he2,rfl⟩));have h6:=a8u he2;rw[hv2]at h6;omega
theorem a1V{x y:List V}:uH x y=[]↔∀k,k<x.length->y.getD k V0≠ji:=by rw[ZU,List.map_eq_nil_iff,List.filter_eq_nil_iff];simp only[a4i,a1o]
section
variable {l:List Dg} {d:Dg} (h:LkP l d)
include h
theorem LkP.sz{k:Nat}(hk:k<l.length):(l.getD k jf).aA=d.aA:=(h.g _ (a4p _ (dK hk))).2.1.trans (h.g d (aaf _ (a2p.2 rfl))).2.1.symm
theorem a8v{k:Nat}(hk:k<l.length):jC (eG [l.getD k jf,d])=uH (cellsD (l.getD k jf)) (cellsD d):=a3V (h.j hk) (h.sz hk)
theorem a8w{k:Nat}(hk:k<l.length):(cellsD (l.getD k jf)).length=(cellsD d).length:=by rw[wU,wU,h.sz hk]
theorem ZW{k:Nat}(hk:k<l.length):Y9 l d k=[]↔uH (cellsD d) (cellsD d)=[]:=by unfold Y9;rw[count_nil,a8v h hk,a1V,a1V,a8w h hk]
theorem a8x{k:Nat}(hk:k<l.length)(hn:Y9 l d k≠[]):mLk l d k=Vm l d k:=by unfold mLk Vm;rw[show lH (Y9 l d k)=lH (bW (eG [l.getD k jf,d]))from rfl,abn hn,a8v h hk]
theorem a1W(hn:uH (cellsD d) (cellsD d)≠[]):∀(m k:Nat) (b z:Int),1<=k->k+m=l.length->iZ (Vt l d) m k (some (b,z))=.inl (some (aU (gRl l d) m k (b,z)))
 | 0,_,_,_,_,_=>rfl
 |m+1,k,b,z,h1,h2=>by
  have hk:k<l.length:=by omega
  have ht:Y9 l d k≠[]:=fun e=>hn ((ZW h hk).1 e);have e0:((k:Int)==0)=false:=bne (by omega);have e1:Vt l d k (some (b,z))=.inl (some (gRl l d k (b,z))):=by unfold Vt gRl;rw[a0c ht,e0,a0c (by simp),a8x h hk ht];show(if decide (Vm l d k<z)=true then _ else _)=Sum.inl (some (if decide (Vm l d k<z)=true then _ else _));split<;>rfl
  simp only[iZ,e1];exact a1W hn m (k+1) _ _ (by omega) (by omega)
theorem look_eq(hl:l≠[]):a8h (iZ (Vt l d) l.length 0 none)=AY (l,d):=by
 obtain⟨m,hm⟩:∃m,l.length=m+1:=⟨l.length-1,by have:=a9A.2 hl;omega⟩;have h0:0<l.length:=by omega
 unfold AY;by_cases hn:uH (cellsD d) (cellsD d)=[]
 .have ht:=(ZW h h0).2 hn;rw[a0g (show(((uH (cellsD d) (cellsD d)).length:Int)==0)=true by rw[hn];rfl),hm];have e1:Vt l d 0 none=.inr (none,0):=by unfold Vt;rw[a0g ht]
  simp only[iZ,e1];rfl
 have ht:Y9 l d 0≠[]:=fun e=>hn ((ZW h h0).1 e);rw[a0c (show ¬(((uH (cellsD d) (cellsD d)).length:Int)==0)=true by intro e;exact hn (a4F.1 (by simpa using e)))]
 have e1:Vt l d 0 none=.inl (some (gRl l d 0 (0,0))):=by unfold Vt gRl;rw[a0c ht,a0g (show(((0:Nat):Int)==0)=true from rfl),a8x h h0 ht]
 have e2:iZ (Vt l d) l.length 0 none=.inl (some (aU (gRl l d) l.length 0 (0,0))):=by rw[hm];simp only[iZ,e1];exact a1W h hn m 1 _ _ (a0U _) (by omega)
 rw[e2];rfl
end
open Go Tw Pv bQ
theorem abo{n:Nat}(hO:Ok n abl){l:List Dg}(hf:∀d∈l,Ig d)(hl:l.length<=1000):iQ (n+1) (.fn 40 [] []) [.dB 26 l false] [] (.own 0) [.list false false 26 l]:=
 fB hO (first:=[]) (cap:=[]) (.wG [.Ej 3 26] (lCy hO hf hl) .er)
theorem aqS{n:Nat}(hO:Ok n agC){d:Dg}(hf:Ig d):iQ n (.fn 21 [] []) [.agg d.ps] [] (.agg d.ps) []:=
 nY.ZI hX (first:=[]) (cap:=[]) (xs:=[.agg d.ps]) (hO 21 [.agg d.ps] (.agg d.ps) [] [Ig d] (by kernel_rfl) (fun p h=>by rw[a2p.1 h];exact hf)) rfl rfl rfl rfl
theorem a3W{l:List Dg}{d:Dg}(hp:∀x∈l++[d],qC x)(hf:∀x∈l++[d],Ig x)(h0:bK (l++[d])=0)(hl:l≠[])(h4:l.length<=4):Ic (l,d)=(AY (l,d),0)∧LlP l d:=by
 have hk:LkP l d:=⟨hp,Vg hp h0⟩;have hd:d∈l++[d]:=by simp
 have dB:∀x∈l++[d],Qx x∧(cellsD x).length<=5000:=fun x hx=>by have f:=hf x hx;have hz:=a3U (l:=l++[d]) (by rw[a1T hp (by simp)];exact h0) x hx;have hL:=a1R f.o f.e (by rw[hz];rfl);refine⟨hL,?_⟩;have:=ZV hL;have a:=hL.f.a6l;have b:=hL.f.many;rw[wU];omega
 refine⟨?_,(dB d hd).1,fun x hx=>⟨(dB x (a4p _ hx)).1,(dB x (a4p _ hx)).2,?_⟩,by unfold ah;omega,(dB d hd).2⟩
 .show(if decide ((l.length:Int)>4)=true then(KH,5)else if(bK (l++[d]) != 0)=true then(KH,bK (l++[d]))else if((l.length:Int)==0)=true then(KH,7)else(a8h (iZ (Vt l d) l.length 0 none),0))=_;rw[a0c (by rw[a1o];omega),h0,a0c (by simp),a0c (by intro e;exact hl (a4F.1 (by simpa using e))),look_eq hk hl]
 obtain⟨k,kN,rfl⟩:=a8k hx;have:=a8w hk kN;rw[a2N,a0a kN,a4r]at this;exact this.symm
def oc6:eY aC:=bT 6 (a1 Xn) tA (fun _=>true) (fun p=>[∀d∈p,KD d]) agC
theorem gc6:Gd oc6:=Good.a1e 26 aqR ag5 I8 alF fun n hn hO FV hO3 hO4 l hp=>by
 obtain⟨m,rfl⟩:∃m,n=m+1:=⟨n-1,by omega⟩;have Aw:=hO (m+1) (by omega);have hr:∀d∈l,KD d:=hp _ gZ;cases ht:(!(MQ l))
 .obtain⟨h6,hT⟩:=a8t (l:=l) (by simpa using ht);have hf:∀d∈l,Ig d:=fun d m=>(Yb (hT d m)).1;have hP:∀d∈l,qC d:=fun d m=>agx (hT d m) (hr d m);cases e0:((l.length:Int)==0)
  .have hn1:(l.length:Int)≠0:=(by simpa using e0);have hn0:0<l.length:=(by omega);have ew:i64.wrap ((l.length:Int)-1)=(l.length:Int)-1:=wrap_small (by omega) (by omega);have i1:gW (i64.wrap ((l.length:Int)-1)) l.length:=by rw[ew];exact⟨by omega,by omega⟩
   have z0:(0:Int)<=((0:Nat):Int):=(by decide);have z1:((0:Nat):Int)<=i64.wrap ((l.length:Int)-1):=by rw[ew];omega
   have z2:i64.wrap ((l.length:Int)-1)<=(l.length:Int):=by rw[ew];omega
   have hE:(l.take (i64.wrap ((l.length:Int)-1)).toNat)++[l.getD (i64.wrap ((l.length:Int)-1)).toNat jf]=l:=by rw[ew];have e:((l.length:Int)-1).toNat=l.length-1:=(by omega);rw[e,a2N,a0a (by omega),a4r];have:=a5K (l:=l) (i:=l.length-1) (by omega);rw[<-this,show l.length-1+1=l.length by omega,aae]
   have hlen:(l.take (i64.wrap ((l.length:Int)-1)).toNat).length=l.length-1:=by rw[a3E,ew];omega
   have key:∀(E:List Dg) (D:Dg),E++[D]=l->(∀x∈E,Ig x)∧Ig D∧(∀x∈E++[D],qC x)∧(∀x∈E++[D],Ig x):=fun E D h=>by subst h;exact⟨fun x hx=>hf x (a4p _ hx),hf D (by simp),hP,hf⟩
   have k0:=key _ _ hE;have hmx:0<l.length∧l.length<=ah:=⟨hn0,by unfold ah;omega⟩;have ec:tK l=bK l:=a1T hP hn0;have hq:∀(E:List Dg) (D:Dg),E++[D]=l->Ic (E,D)=if decide ((E.length:Int)>4)=true then(KH,5)else if(tK l != 0)=true then(KH,tK l)else if((E.length:Int)==0)=true then(KH,7)else(a8h (iZ (Vt E D) E.length 0 none),0):=fun E D h=>by rw[ec,<-h];rfl
   have q0:=hq _ _ hE;have hb:=fun h0 hl h4=>a3W (l:=l.take (i64.wrap ((l.length:Int)-1)).toNat) (d:=l.getD (i64.wrap ((l.length:Int)-1)).toNat jf) k0.2.2.1 k0.2.2.2 h0 hl h4;rw[hE]at hb;have s1:=abo (n:=m) (hO4 m (by omega)) (l:=l.take (i64.wrap ((l.length:Int)-1)).toNat) k0.1 (by omega);have s2:=aqS Aw k0.2.1;have s3:=adq (n:=m) (by omega) (FV m (by omega)) (fun j hj=>hO3 j (by omega)) (k:=false) (ex:=false) (l:=l.take (i64.wrap ((l.length:Int)-1)).toNat) (d:=l.getD (i64.wrap ((l.length:Int)-1)).toNat jf) k0.2.2.1 (by omega);generalize hR:Ic (l.take (i64.wrap ((l.length:Int)-1)).toNat,l.getD (i64.wrap ((l.length:Int)-1)).toNat jf)=R at s3 q0 hb;have bad:∀x:Int,R=(KH,x)->R.1.set.length<=ah∧Ih R.1 KH=true∧(R.2==x)=true:=fun x e=>by subst e;exact⟨a4E _,PW _,beq_self_eq_true _⟩
   cases c1:decide (((l.take (i64.wrap ((l.length:Int)-1)).toNat).length:Int)>4)
   .rw[a0c (by rw[c1];simp)]at q0;have h4:(l.take (i64.wrap ((l.length:Int)-1)).toNat).length<=4:=by rw[a2I]at c1;omega
    cases c2:(tK l==0)
    .have c3:(tK l != 0)=true:=by show(!(tK l==0))=true;rw[c2];rfl
     rw[a0g c3]at q0;obtain⟨b1,b2,b3⟩:=bad _ q0;exact aN Aw (.b ht (.b e0 (.o i1 (.o z0 (.o z1 (.o z2 (.fr [] s1 (.fr [] s2 (.fr [0] s3 (.b c1 (.b (rfl:((0:Int)==0)=true) (.o hf (.o hmx (.b c2 (.b c3 (.b b3 (.o b1 (.b b2 .rr))))))))))))))))))
    .have h0:tK l=0:=(by simpa using c2);have c3:(tK l != 0)=false:=by rw[h0];rfl
     rw[a0c (by rw[c3];simp)]at q0;cases c4:(((l.take (i64.wrap ((l.length:Int)-1)).toNat).length:Int)==0)
     .have iq:l.take (i64.wrap ((l.length:Int)-1)).toNat≠[]:=fun e=>by rw[e]at c4;cases c4
      obtain⟨g1,g2⟩:=hb (by rw[<-ec];exact h0) iq h4;have b1:R.1.set.length<=ah:=by
       rw[g1];show(AY _).set.length<=ah;unfold AY;split
       .exact a4E _
       .show 1<=ah;unfold ah;omega
      have b2:Ih R.1 (AY (l.take (i64.wrap ((l.length:Int)-1)).toNat,l.getD (i64.wrap ((l.length:Int)-1)).toNat jf))=true:=by rw[g1];exact PW _
      have b3:(R.2==0)=true:=by rw[g1];rfl
      exact aN Aw (.b ht (.b e0 (.o i1 (.o z0 (.o z1 (.o z2 (.fr [] s1 (.fr [] s2 (.fr [0] s3 (.b c1 (.b (rfl:((0:Int)==0)=true) (.o hf (.o hmx (.b c2 (.b c4 (.b c3 (.b b3 (.o g2 (.o b1 (.b b2 .rr))))))))))))))))))))
     .rw[a0g c4]at q0;obtain⟨b1,b2,b3⟩:=bad _ q0;exact aN Aw (.b ht (.b e0 (.o i1 (.o z0 (.o z1 (.o z2 (.fr [] s1 (.fr [] s2 (.fr [0] s3 (.b c1 (.b (rfl:((0:Int)==0)=true) (.o hf (.o hmx (.b c2 (.b c4 (.b (rfl:((7:Int) != 0)=true) (.b b3 (.o b1 (.b b2 .rr)))))))))))))))))))
   .rw[a0g c1]at q0;obtain⟨b1,b2,b3⟩:=bad _ q0;exact aN Aw (.b ht (.b e0 (.o i1 (.o z0 (.o z1 (.o z2 (.fr [] s1 (.fr [] s2 (.fr [0] s3 (.b c1 (.b (rfl:((5:Int)==0)=false) (.b (rfl:((5:Int)==0)=false) (.b (rfl:((5:Int) != 0)=true) (.b b3 (.o b1 (.b b2 .rr))))))))))))))))
  .exact aN Aw (.b ht (.b e0 .rr))
 .exact aN Aw (.b ht .rr)
open Go Tw Pv
section
variable {H:Type} {mD:LI2×LI3->H} {w:LI4}
abbrev RdX(mD:LI2×LI3->H)(w:LI4)(g t:Nat){α:Type}(ps:α->List (PV aC))(Q:α->Prop):Prop:=RdP mD X0 Tryz.prog w g t ps Q
theorem a1X:Tryz.prog.cellsOf 3=1:=by kernel_rfl
theorem aqT:Tryz.prog.cellsOf 5=1:=by kernel_rfl
theorem adx:Tryz.prog.cellsOf 39=2:=by kernel_rfl
theorem zI0:dw Tryz.prog 3=some 1:=by kernel_rfl
theorem abq{g:Nat}:RdX mD w (g+1) 3 (fun n:Int=>[.int .i64 n]) (fun n=>(Lit.int .i64 n).wf=true):=a1f Tryz.underlying3
theorem rU8{g:Nat}:RdX mD w (g+1) 5 (fun n:Int=>[.int .u8 n]) (fun n=>0<=n∧n<=255):=(a1f Tryz.underlying5).iso id (fun _=>rfl) fun n h=>by simp only[Lit.wf,a2f,a1o]at h;exact h
theorem a8y{g:Nat}:RdX mD w (g+2) 22 (fun l:LI0=>[lI l]) (fun l=>∀a∈l,(Lit.int .i64 a).wf=true):=Ho (e:=3) Tryz.underlying22 a1X zI0 (by decide) (fun _=>rfl) abq
theorem aqU{g:Nat}:RdX mD w (g+2) 39 V.ps (fun v=>0<=v.f∧v.f<=255):=
 (FI Tryz.underlying39 adx (fun _=>rfl) (qY rfl aqT (fun _=>rfl) rU8 (qY rfl a1X (fun _=>rfl) abq UE))).iso (fun x=>⟨x.1,x.2.1⟩) (fun _=>rfl) fun _ h=>h.1
theorem alJ:dw Tryz.prog 39=some 2:=by kernel_rfl
theorem alK{g:Nat}:RdX mD w (g+3) 23 (fun l:List V=>[lV l]) (fun l=>∀v∈l,0<=v.f∧v.f<=255):=Ho (e:=39) Tryz.underlying23 adx alJ (by decide) (fun _=>rfl) aqU
theorem agE:Tryz.prog.cellsOf 22=1:=by kernel_rfl
end
open Go Tw Pv bQ
section
variable {H:Type} {mD:LI2×LI3->H} {w:LI4}
theorem alL:Tryz.prog.cellsOf 105=2:=by kernel_rfl
theorem aqV:dw Tryz.prog 105=some 2:=by kernel_rfl
theorem alM:Tryz.prog.cellsOf 24=1:=by kernel_rfl
theorem aqW:Tryz.prog.cellsOf 23=1:=by kernel_rfl
theorem alN:Tryz.prog.cellsOf 26=5:=by kernel_rfl
theorem rBr{g:Nat}:RdX mD w (g+3) 105 Br.ps (fun b=>∀a∈b.ay,(Lit.int .i64 a).wf=true):=
 (FI Tryz.underlying105 alL (fun _=>rfl) (qY rfl a1X (fun _=>rfl) abq (qY rfl agE (fun _=>rfl) a8y UE))).iso (fun x=>⟨x.1,x.2.1⟩) (fun _=>rfl) fun _ h=>h.2.1
theorem aqX{g:Nat}:RdX mD w (g+4) 24 (fun l:List Br=>[lBr l]) (fun l=>∀b∈l,∀a∈b.ay,(Lit.int .i64 a).wf=true):=Ho (e:=105) Tryz.underlying24 alL aqV (by decide) (fun _=>rfl) rBr
theorem a8z{a:Int}(h:(Lit.int .i64 a).wf=true):KY a:=by
 simp only[Lit.wf,a2f,a1o]at h;obtain⟨h1,h2⟩:=h;have e1:i64.min=-(2^63):=by decide
 have e2:i64.max=2^63-1:=by decide
 exact⟨by omega,by omega⟩
theorem rDg{g:Nat}:RdX mD w (g+5) 26 Dg.ps KD:=
 (FI Tryz.underlying26 alN (fun _=>rfl) (qY rfl agE (fun _=>rfl) a8y (qY rfl agE (fun _=>rfl) a8y (qY rfl aqW (fun _=>rfl) alK (qY rfl alM (fun _=>rfl) aqX (qY rfl a1X (fun _=>rfl) abq UE)))))).iso (fun x=>⟨x.1,x.2.1,x.2.2.1,x.2.2.2.1,x.2.2.2.2.1⟩) (fun _=>rfl) fun x h=>by
  obtain⟨_,_,h3,h4,h5,_⟩:=h;refine⟨fun i hi k hk=>?_,a8z h5,fun v hv=>(h3 v hv).1⟩;have hb:fD ⟨x.1,x.2.1,x.2.2.1,x.2.2.2.1,x.2.2.2.2.1⟩ i∈x.2.2.2.1:=by show(x.2.2.2.1).getD i ny∈_;rw[List.getD,a0a hi];exact a4q _
  refine a8z (h4 _ hb _ ?_);rw[List.getD,a0a hk];exact a4q _
end
open Go Tw Pv bQ
section
variable {H:Type} {mD:LI2×LI3->H} {w:LI4}
theorem aqY:dw Qp 26=some 5:=by kernel_rfl
theorem aqZ{g:Nat}:RdX mD w (g+6) 56 (fun l:List Dg=>[.dB 26 l false]) (fun l=>∀d∈l,KD d):=Ho (e:=26) Tryz.underlying56 alN aqY (by decide) (fun _=>rfl) rDg
end
open Go.ChangeShapes Go.WideShapes Go.ChangeAt Go.RowKit
theorem Tryz.own:ownKnob Tryz.prog.godebug=none:=by kernel_rfl
theorem Tryz.laidOut:laidOutB Tryz.prog=true:=by kernel_rfl
theorem Tryz.mixed:Tryz.prog.follows .mixedOrders=true:=by kernel_rfl
theorem agF:iC Tryz.prog T.ext:=by
 show iC Tryz.prog aeZ;intro fv args h v h' ws hc;unfold aeZ at hc;split at hc
 .split at hc
  .exact a9T (YS (T:=Tm) Tryz.mixed (fun _ _ _ _ _ _ h=>by cases h) 2) _ _ _ _ _ _ hc
  exact X7 abX _ _ _ _ _ _ hc
 exact X7 abX _ _ _ _ _ _ hc
theorem Tryz.tys6:Tryz.f6.params.toList=[56]:=by kernel_rfl
set_option maxRecDepth 100000 in
theorem Ij(os:Os)(started:os.Started)(H:Type)(enc:LI2×LI3->H) :
  ReturnsInHanded {} Tryz.checked os 6 .any (Rows.applyLooksSpec.pre6 enc Tryz.prog Tryz.f6 Rows.applyLooksRow.domain false) (Rows.applyLooksSpec.post enc Tryz.prog Tryz.f6 false true false false):=by
 refine returnsInHanded_of_change (C:=Tryz.checked) Tryz.own started (by kernel_rfl) Tryz.func6
  (ChangeSpec.witness6 (enc:=enc) (C:=Tryz.checked) false ⟨#[],#[.slice none 0 0],[]⟩ 8 (by kernel_rfl) (by kernel_rfl) (by kernel_rfl) (by kernel_rfl)) ?_
 intro W base args ds gs before alO hW avt _;have adX:∀(j:Nat) t v,Tryz.f6.params[j]? = some t->args[j]? = some v->Value.okWide Tryz.prog W .any base t v:=alO;have hW':=hW;obtain⟨p,q,ar0,hV,rfl,hfz,jy⟩:=hW;have hTA:DataW.TrodAll enc Tryz.prog W 0 (fun _=>true) true Tryz.f6.params.toList args.toList ds p:=ar0;obtain⟨rfl,rfl⟩:=trodVars_none hV;rw[Tryz.tys6]at hTA;obtain⟨d0,_,rfl,r0,_,_,hTA⟩:=a3a hTA;obtain⟨_,rfl,_⟩:=trodAll_nil hTA;obtain⟨a0,q0,h0⟩:=aqZ (g:=1) d0 r0;obtain⟨x0,e0,g0,v0⟩:=h0 ([]);have w0:=v0 ([]);simp only[a5R,a9x,a6L]at w0;obtain⟨y0,_,rfl,u0,z0⟩:=w0.inv;cases z0.inv0;obtain⟨N,hN⟩:=gc6;have ar1:=hN (N+1) (by omega) 6 ((Pv.a1 Xn).put a0) (tA.put true) [] [∀d∈a0,KD d] rfl (by intro p hp;simp only[a2d,List.not_mem_nil,or_false]at hp;subst hp;exact q0)
 obtain⟨h',hr⟩:=aeV (h:=[]++e0) ar1 (by simp only[a5R,a9x,a6L];exact .cons u0 .nil);exact YT (P:=Tryz.prog) (T:=T) (L:=LL) (n:=N) (g:=7) Tryz.mixed Tryz.laidOut rfl rfl (by kernel_rfl) Tryz.underlying4 (by kernel_rfl) hW' adX
  (by rw[Tryz.tys6];exact(aeT (by kernel_rfl) g0 aeU)) agF (by kernel_rfl) (by kernel_rfl) hr
theorem Ik:joinedFacts Tryz.pinned.checked.prog 6 Tryz.f6 Rows.applyLooksSpec Rows.applyLooksRow=true:=by kernel_rfl
theorem ApplyLooks_holds:Rows.ApplyLooksSaid:=
 OpenClaim.holds_of_wide 6 Tryz.f6 rfl rfl rfl rfl rfl rfl rfl ⟨rfl,rfl,rfl,rfl,rfl⟩ rfl rfl rfl rfl rfl (by kernel_rfl) Tryz.func6 Ik
  (a6N (by kernel_rfl)) (by unfold Func.isWrapper;first|(rw[a0g (by decide +kernel)];kernel_rfl)|(rw[a0c (by decide +kernel)];exact⟨rfl,rfl⟩))
  (fun os started H enc _=>Ij os started H enc)
end Go.Proofs.YtmobpoiejckagaaGreat
