/- ApplyAnswers: what must be, may be, unless there is None; it must be just if it is counted as often as true; a bound is among the values, which have none twice; with a condition that is met at fewer places bounds are not wider, and what must be still must, unless there is None (the Go function of this name returns true for every input). -/
import Derived.ProofKit
import Derived.Test.YtmobpoiejckagaaGreatRows
import Derived.Test.YtmobpoiejckagaaGreatP05
set_option linter.constructorNameAsVariable false
set_option linter.unusedVariables false
set_option linter.unusedSimpArgs false
set_option linter.unusedSectionVars false
open Go.IntKind (i64)
noncomputable section
namespace Go.Proofs.YtmobpoiejckagaaGreat
open Go Tw Pv bK
abbrev ApM(n:Nat):dO:=kW Qp Tm (2^24) n
theorem okM{n}:jT X0 Qp (ApM n) abo:=fun _ _ _ _ _ h _=>by cases h
def gMx(l:LI0)(k:Nat)(m:Int):Int:=if l.getD (i64.wrap ((k:Int)+1)).toNat 0>m then l.getD (i64.wrap ((k:Int)+1)).toNat 0 else m
theorem a3p{x r}(h:r.length<=ah):∀k,k<=r.length->aS (gMx (x::r)) k 0 x=(r.take k).foldl max x
 | 0,_=>rfl
 |k+1,hk=>by
  rw[qK,a3p h k (by omega)];unfold gMx;rw[a3L,yV (by omega),a5R];have e:(x::r).getD (k+1) 0=r[k]'(by omega):=by simp[List.getD,a0Q (show k<r.length by omega)]
  rw[e,a7B (by omega),List.foldl_append];simp only[aeR,List.foldl_nil];omega
abbrev wMx(l:LI0)(m i:Int)(x:List (Nat×PE aH)):bV aH:=⟨[(0,xL 3 l),(3,xi m),(4,xi (i64.wrap (i+1)))]++x,[],[]⟩
set_option maxRecDepth 20000 in
theorem amR{l:LI0}(h0:l≠[])(hl:l.length<=2000):dK X0 Qp (ApM 2) (.fn 94 [] []) [.dD 3 l false] [] (.int .i64 (Ro l)) []:=by
 cases l with
 |nil=>exact absurd rfl h0
 |cons x r=>
  have hr:r.length<=ah:=by have:(x::r).length=r.length+1:=rfl;unfold ah;omega
  have lp:dS X0 Qp Tm (ApM 1) LL 94 false (Df Qp 94) 0 (.loop (Ua Qp 94 0)) ⟨[(0,xL 3 (x::r)),(3,xi x),(4,xi 1)],[],[]⟩ (.exit 0) (wMx (x::r) (aS (gMx (x::r)) r.length 0 x) r.length [(15,xl false)]):=by
   refine Qi (X:=X0) (N:=r.length) (g:=gMx (x::r)) (s0:=x) (st:=fun i m=>wMx (x::r) m i []) (fin:=fun m=>wMx (x::r) m r.length [(15,xl false)]) (fun _ _=>True) (by kernel_rfl) hr SB trivial (fun _ _ _ _=>trivial) (fun k m hk _ n e p g9=>?_) (fun m _=>?_)
   .have e1:i64.wrap ((k:Int)+1)=((k+1:Nat):Int):=yV (by omega);have t1:decide (i64.wrap ((k:Int)+1)<((x::r).length:Int))=true:=by rw[e1,a1x,a4C];omega
    have i1:gG (i64.wrap ((k:Int)+1)) (x::r).length:=by rw[e1];exact aG (by rw[a4C];omega)
    exact round hX okM (by kernel_rfl) (.b t1 (.o i1 (.go g9)))
   have e1:i64.wrap ((r.length:Int)+1)=((r.length+1:Nat):Int):=yV (by omega);have t1:decide (i64.wrap ((r.length:Int)+1)<((x::r).length:Int))=false:=by rw[e1,a3G,a4C];omega
   exact round hX okM (by kernel_rfl) (.b t1 .ex)
  have e:aS (gMx (x::r)) r.length 0 x=Ro (x::r):=by rw[a3p hr _ (a1l _),adB];rfl
  rw[e]at lp;have hc:((x::r).length:Int)=r.length+1:=by simp
  have t0:decide (((x::r).length:Int)<1)=false:=by rw[a3G,hc];omega
  have i0:gG 0 (x::r).length:=⟨by decide,by rw[hc];omega⟩;exact nS hX okM (first:=[]) (cap:=[]) (by kernel_rfl) (.b t0 (.o i0 (.w lp .er)))
theorem acC(n x h):kW Qp T LL (n+1) (.fn 94 [] []) [x] h=a4y 94 (ApM 2) (.fn 94 [] []) [x] h:=rfl
theorem amS{n vs}(h0:vs≠[])(hl:vs.length<=2000):iW (n+1) (.fn 94 [] []) [.aO 0 0 vs.length vs.length 1 false] [.nN (vs.map NH)] (.int .i64 (Ro vs)) [.nN (vs.map NH)]:=by
 intro A m h tf rH hr hf hx;obtain⟨x,r,rfl,h1,h2⟩:=hx.inv;have:=h2.inv0;subst this;have htf:=hf.Qd;subst htf;obtain⟨mb,g1,g2⟩:=hr.at_ 0 _ rfl;cases mb with
 |gQ c=>
  obtain⟨ts,g3,g4⟩:=g2;have g5:=g4.symm.trans (LP vs);cases g5;have hx2:x=.aO c 0 vs.length vs.length 1 false:=by
   cases h1 with
   |aO e=>rw[g1]at e;cases e;rfl
   |gone hi e _=>simp only[bf,a09]at hi;subst hi;rw[g1]at e;cases e
  subst hx2;have FV:c∈aZ m:=aY g1 rfl;have aQ:=(a0x.1 g3).1;show ∃w h1 ws m1,kW Qp T LL (n+1) _ _ h=_/\_;rw[acC,abw (k:=.i64) (n:=Ro vs)]
  .exact⟨_,h,[],m,rfl,hr,.int _ _,.refl,.refl,fun b hb=>by cases hb⟩
  .refine⟨⟨_,_,rfl⟩,rfl,fun h' hu=>?_⟩;obtain⟨cs',p1,p2⟩:=hu.2 c _ g3;obtain⟨l,hp,rfl⟩:∃l:LI0,l.Perm vs/\cs'=l.map SL:=by
    have hq:∀y∈cs',∃i:Int,y=SL i:=fun y hy=>by obtain⟨i,_,rfl⟩:=a1w.1 (p1.mem_iff.1 hy);exact⟨i,rfl⟩
    have hun:∀L:List TV,(∀y∈L,∃i:Int,y=SL i)->∃l:LI0,L=l.map SL:=by
     intro L
     induction L with
     |nil=>exact fun _=>⟨[],rfl⟩
     |cons y L ih=>
      intro hL;obtain⟨i,rfl⟩:=hL y (by simp);obtain⟨l,rfl⟩:=ih fun z hz=>hL z (by simp[hz]);exact⟨i::l,rfl⟩
    obtain⟨l,rfl⟩:=hun cs' hq;refine⟨l,?_,rfl⟩;have:=p1.map fun y=>match y with|.int _ n=>n|_=>0
    rw[a6q,a6q]at this;simpa[Function.comp_def]using this
   have hlen:l.length=vs.length:=hp.length_eq;have qW:l≠[]:=fun e=>by subst e;exact h0 (a4u hlen.symm)
   have amT:h'.length=h.length:=by
    have e:=fun b=>Uh hu b;refine Nat.le_antisymm (adv fun hb=>?_) (adv fun hb=>?_)
    .have:=e h.length;rw[a0Q hb,a4O (a1l _)]at this;cases this
    have:=e h'.length;rw[a0Q hb,a4O (a1l _)]at this;cases this
   have hm:=amR qW (by omega);have hvr:Pv.VR X0 Qp (AA A []) [] h' (.dD 3 l false) (.aO c 0 vs.length vs.length 1 false):=by
    rw[<-hlen];refine Pv.VR.dD (cs:=l.map SL) ⟨hr.DX c FV,by simp[aZ]⟩ (by simp only[aU,p2]) (fun _=>by simp[mZ,p2]) N9 (by decide) (by simp;exact a1l _) (a1l _) (by intro h;cases h) ?_ ?_
    .intro j a _;rfl
    have hrw:=Ux (A:=AA A []) (m:=[]) (h:=h') l;intro j a i c v a1 a2 a3;exact hrw.2.2 j a i c v a1 a2 a3
   obtain⟨w,h2,ws,m1,c1,c2,c3,c4,c5,c6⟩:=hm A [] h' (.fn 94 [] []) [.aO c 0 vs.length vs.length 1 false] ⟨rfl,fun i b hi=>by simp at hi,by simp[aZ],fun b hb=>hr.up b (by rw[<-amT];exact hb),fun b hb=>by simp[aZ]at hb⟩ (.fn rfl (fun i x y hi=>by simp at hi) rfl (fun i x y hi=>by simp at hi)) (.cons hvr .nil)
   .have hw:w=.int .i64 (Ro vs):=by rw[<-a5v hp qW];exact c3.a2y
    subst hw;have ZI:ws=[]:=a6W.2 fun b hb=>by have:=c6 b hb;simp[aZ]at this
    subst ZI;exact⟨h2,c1⟩
  obtain⟨h',hu⟩:∃h',Qn h h':=⟨_,Yl h (fun b=>match h[b]? with|some (.nN cs)=>cs|_=>[]) fun b cs e=>by rw[e]⟩;exact⟨h',hu⟩
 |_=>exact g2.elim
open Go Tw Pv bK
theorem amU{n}(hO:Ok n qY){k}(hk:0<=k/\k<=6):iW (n+1) (.fn 124 [] []) [.own 0,.int .i64 k] [.list true true 3 ([-1]:LI0)] (.own 1) [.list true true 3 ([-1]:LI0),.list true true 3 (List.replicate k.toNat (-1):LI0)]:=by
 rcases a9a hk with rfl|rfl|rfl|rfl|rfl|rfl|rfl
 .exact fK hO (first:=[]) (cap:=[]) (.b (rfl:decide ((0:Int)<0)=false) (.o aiG (.o aj1 (.b (rfl:decide ((0:Int)>0)=false) (.b (rfl:decide ((0:Int)>9223372036854775807)=false) (.o aiN (.o aiD (.o (show(0:Int)<=(ah:Int) by decide) (.m 8 le8 (.b (rfl:decide ((0:Int)<0)=false) .er))))))))))
 .exact fK hO (first:=[]) (cap:=[]) (.b (rfl:decide ((1:Int)<0)=false) (.o aiG (.o aj2 (.b (rfl:decide ((0:Int)>0)=false) (.b (rfl:decide ((1:Int)>9223372036854775807)=false) (.o aiG (.o aiE (.o (show(1:Int)<=(ah:Int) by decide) (.m 8 le8 (.b (rfl:decide ((1:Int)<1)=false) .er))))))))))
 .exact fK hO (first:=[]) (cap:=[]) (.b (rfl:decide ((2:Int)<0)=false) (.o aiG (.o aj6 (.b (rfl:decide ((0:Int)>0)=false) (.b (rfl:decide ((2:Int)>9223372036854775807)=false) (.o (rfl:(2:Int)=2) (.o aiF (.o (show(2:Int)<=(ah:Int) by decide) (.m 8 le8 (.b (rfl:decide ((1:Int)<2)=true) (.o aiE (.o aiO (.o aj3 (.o aiD (.o aiE (.o aiO (.b (rfl:decide ((2:Int)<2)=false) .er)))))))))))))))))
 .exact fK hO (first:=[]) (cap:=[]) (.b (rfl:decide ((3:Int)<0)=false) (.o aiG (.o aj8 (.b (rfl:decide ((0:Int)>0)=false) (.b (rfl:decide ((3:Int)>9223372036854775807)=false) (.o (rfl:(3:Int)=3) (.o aj7 (.o (show(3:Int)<=(ah:Int) by decide) (.m 8 le8 (.b (rfl:decide ((1:Int)<3)=true) (.o aiE (.o aiP (.o aiQ (.o aiD (.o aiE (.o aiP (.b (rfl:decide ((2:Int)<3)=true) (.o aiF (.o aiR (.o aiQ (.o aiD (.o aiF (.o aiR (.b (rfl:decide ((3:Int)<3)=false) .er))))))))))))))))))))))))
 .exact fK hO (first:=[]) (cap:=[]) (.b (rfl:decide ((4:Int)<0)=false) (.o aiG (.o aj9 (.b (rfl:decide ((0:Int)>0)=false) (.b (rfl:decide ((4:Int)>9223372036854775807)=false) (.o (rfl:(4:Int)=4) (.o aiI (.o (show(4:Int)<=(ah:Int) by decide) (.m 8 le8 (.b (rfl:decide ((1:Int)<4)=true) (.o aiE (.o aiS (.o aiT (.o aiD (.o aiE (.o aiS (.b (rfl:decide ((2:Int)<4)=true) (.o aiF (.o aiU (.o aiT (.o aiD (.o aiF (.o aiU (.b (rfl:decide ((4:Int)<4)=false) .er))))))))))))))))))))))))
 .exact fK hO (first:=[]) (cap:=[]) (.b (rfl:decide ((5:Int)<0)=false) (.o aiG (.o ajc (.b (rfl:decide ((0:Int)>0)=false) (.b (rfl:decide ((5:Int)>9223372036854775807)=false) (.o (rfl:(5:Int)=5) (.o aja (.o (show(5:Int)<=(ah:Int) by decide) (.m 8 le8 (.b (rfl:decide ((1:Int)<5)=true) (.o aiE (.o aiV (.o aiL (.o aiD (.o aiE (.o aiV (.b (rfl:decide ((2:Int)<5)=true) (.o aiF (.o aiW (.o aiL (.o aiD (.o aiF (.o aiW (.b (rfl:decide ((4:Int)<5)=true) (.o aiI (.o aiX (.o aiL (.o aiD (.o aiI (.o aiX (.b (rfl:decide ((5:Int)<5)=false) .er)))))))))))))))))))))))))))))))
 exact fK hO (first:=[]) (cap:=[]) (.b (rfl:decide ((6:Int)<0)=false) (.o aiG (.o ajg (.b (rfl:decide ((0:Int)>0)=false) (.b (rfl:decide ((6:Int)>9223372036854775807)=false) (.o (rfl:(6:Int)=6) (.o aje (.o (show(6:Int)<=(ah:Int) by decide) (.m 8 le8 (.b (rfl:decide ((1:Int)<6)=true) (.o aiE (.o aiY (.o aiM (.o aiD (.o aiE (.o aiY (.b (rfl:decide ((2:Int)<6)=true) (.o aiF (.o aiZ (.o aiM (.o aiD (.o aiF (.o aiZ (.b (rfl:decide ((4:Int)<6)=true) (.o aiI (.o aj0 (.o aiM (.o aiD (.o aiI (.o aj0 (.b (rfl:decide ((6:Int)<6)=false) .er)))))))))))))))))))))))))))))))
def bG(D:List Dg):Jb:=⟨(D.getD 0 iJ).aj,(D.getD 0 iJ).aB,D,List.replicate (D.getD 0 iJ).aj.length (-1)⟩
theorem amV{n f:Nat}(hO:Ok (n+1) qY)(D5:Ok n qY){D:List Dg}(h0:0<D.length)(h6:(D.getD 0 iJ).aj.length<=6){k ex}:iW (n+2) (.fn 78 [] []) [.fn f [] [],.own 0] [.list k ex 26 D] (.agg [lI (bG D).s,lI (bG D).o,.own 0,.own 1,.fn f [] []]) [.list k ex 26 D,.list true true 3 (bG D).g]:=by have i0:gG 0 D.length:=aG h0;have hs:=amU D5 (k:=((D.getD 0 iJ).aj.length:Int)) ⟨by omega,by omega⟩;rw[a5R]at hs;have h:iW (n+2) (.fn 78 [] []) [.fn f [] [],.own 0] [.list k ex 26 D] (.agg [lI (bG D).s,lI (bG D).o,.own 0,.own 2,.fn f [] []]) [.list k ex 26 D,.list true true 3 ([-1]:LI0),.list true true 3 (bG D).g]:=fK hO (first:=[]) (cap:=[]) (.o i0 (.o i0 (.o i0 (.fr [1] hs .er))));exact dK.gs hX h [.gc [2]] rfl
theorem amW{n f:Nat}(u)(hO:Ok (n+1) qY)(D5:Ok n qY){D:List Dg}(h0:0<D.length)(h6:(D.getD 0 iJ).aj.length<=6){k ex}:iW (n+2) (.fn 78 [] []) [.fn f [] [.ptr 1 0 1],.own 0] [.list k ex 26 D,.aF [.int .u8 u]] (.agg [lI (bG D).s,lI (bG D).o,.own 0,.own 2,.fn f [] [.ptr 1 0 1]]) [.list k ex 26 D,.aF [.int .u8 u],.list true true 3 (bG D).g]:=by have i0:gG 0 D.length:=aG h0;have hs:=amU D5 (k:=((D.getD 0 iJ).aj.length:Int)) ⟨by omega,by omega⟩;rw[a5R]at hs;have h:iW (n+2) (.fn 78 [] []) [.fn f [] [.ptr 1 0 1],.own 0] [.list k ex 26 D,.aF [.int .u8 u]] (.agg [lI (bG D).s,lI (bG D).o,.own 0,.own 3,.fn f [] [.ptr 1 0 1]]) [.list k ex 26 D,.aF [.int .u8 u],.list true true 3 ([-1]:LI0),.list true true 3 (bG D).g]:=fK hO (first:=[]) (cap:=[]) (.o i0 (.o i0 (.o i0 (.fr [2] hs .er))));exact dK.gs hX h [.gc [3]] rfl
theorem asi{n f:Nat}{J:Jb}{d k ex k2 Gz}(h:iW n (.fn 80 [] []) [.agg (J.ps (.fn f [] []))] [] (dA.put d) []):iW n (.fn 80 [] []) [.agg [lI J.s,lI J.o,.own 0,.own 1,.fn f [] []]] [.list k ex 26 J.D,.list k2 Gz 3 J.g] (dA.put d) [.gone,.gone]:=by have h1:=dK.frame hX (ks:=[]) (H':=[.gone,.gone]) (Hp:=[]) (Sv:=[]) (v':=dA.put d) (fv':=.fn 80 [] []) (xs':=[.agg (J.ps (.fn f [] []))]) h (by decide) rfl rfl rfl rfl rfl rfl rfl;exact dK.fz hX (H:=[.list k ex 26 J.D,.list k2 Gz 3 J.g]) (cs:=[lI J.s,lI J.o,.own 0,.own 1]) (rest:=[.fn f [] []]) [0,1] h1 rfl (fun i hi=>by simpa[lN.kX,lN]using hi)
theorem asj{n f:Nat}{u}{J:Jb}{d k ex k2 Gz}(h:iW n (.fn 80 [] []) [.agg (J.ps (.fn f [] [.ptr 0 0 1]))] [.aF [.int .u8 u]] (dA.put d) [.aF [.int .u8 u]]):iW n (.fn 80 [] []) [.agg [lI J.s,lI J.o,.own 0,.own 2,.fn f [] [.ptr 1 0 1]]] [.list k ex 26 J.D,.aF [.int .u8 u],.list k2 Gz 3 J.g] (dA.put d) [.gone,.aF [.int .u8 u],.gone]:=by have h1:=dK.frame hX (ks:=[1]) (H':=[.gone,.aF [.int .u8 u],.gone]) (Hp:=[.aF [.int .u8 u]]) (Sv:=[.aF [.int .u8 u]]) (v':=dA.put d) (fv':=.fn 80 [] []) (xs':=[.agg (J.ps (.fn f [] [.ptr 1 0 1]))]) h (by decide) rfl rfl rfl rfl rfl rfl rfl;exact dK.fz hX (H:=[.list k ex 26 J.D,.aF [.int .u8 u],.list k2 Gz 3 J.g]) (cs:=[lI J.s,lI J.o,.own 0,.own 2]) (rest:=[.fn f [] [.ptr 1 0 1]]) [0,2] h1 rfl (fun i hi=>by simpa[lN.kX,lN]using hi)
open Go Tw Pv bK
structure DgG(d:Dg):Prop where
 t:D6 d
 n:d.au.length<=6000
 ord:kD d.aj.length d.aB=true
 rk:∀i,i<d.au.length->∀k,k<(fD d i).aA.length->d.aB.idxOf (fD d i).var+1<=FW d.aB d.au ((fD d i).aA.getD k 0)
 two:∀i,i<d.au.length->2<=(fD d i).aA.length
 c:∀v∈d.aK,Dk v
 dd:DgD d
 l0:bC d=0
theorem a1c{d}(hp:kQ d)(h:iD d=0):DgG d:=by
 have h0:bC d=0/\oL d=true:=by
  unfold iD at h;split at h
  .rename_i c;rw[h]at c;cases c
  rename_i c;split at h
  .cases h
  rename_i c2;exact⟨by simpa using c,by simpa using c2⟩
 have ho:d.aB.length<=ah:=by have:=hp.o;unfold ah;omega
 have he:d.aK.length<=ah:=by have:=hp.e;omega
 obtain⟨t,n⟩:=jq ho he (by rw[h0.1];rfl);obtain⟨D,_⟩:=YU.1 h0.2;have hf:bn d.aj d.aB=0/\mO d=true:=by
  have hl:=h0.1;unfold bC at hl;split at hl
  .rename_i c;rw[hl]at c;cases c
  rename_i c;split at hl
  .cases hl
  split at hl
  .cases hl
  rename_i _ c2;exact⟨by simpa using c,by simpa using c2⟩
 obtain⟨bQ,ord⟩:=iT.1 hf.1;refine⟨t,n,ord,Z7 h0.1,fun i hi=>?_,fun v hv=>?_,D,h0.1⟩
 .have:=D.flat i hi;rcases hk:(fD d i).aA with _|⟨a,_|⟨b,r⟩⟩
  .rw[hk]at this;simp at this
  .rw[hk]at this;simp at this
  simp
 refine⟨?_,hp.r.fault v hv⟩;have hl:=hf.2;unfold mO at hl;obtain⟨k,hk,e⟩:=a9L hv;have hs:kC (bH (cLe d) d.aK.length)=true:=by revert hl;cases kC (bH (cLe d) d.aK.length)<;>simp
 have:=dL.1 hs k hk;unfold cLe at this;rw[a3k,a0Q hk]at this;simpa[e]using this
theorem Rq{l}(hp:∀d∈l,kQ d)(h:aW l=0):∀d∈l,DgG d/\d.aj=(l.getD 0 iJ).aj/\d.aB=(l.getD 0 iJ).aB:=by
 intro d hd;unfold aW at h;split at h
 .rename_i c;split at h
  .cases h
  rename_i c2;simp only[afi,abQ,a5L]at c2;have e:=c2 d hd;unfold wM at e;split at e
  .rename_i e1;refine⟨a1c (hp d hd) ?_,by simpa using e1,by simpa using e⟩;obtain⟨k,hk,e9⟩:=a9L hd;have:=dL.1 c k hk;unfold Z9 at this;rw[a3k,a0Q hk,a5V,e9]at this;have h9:=hp d hd;rw[Ew h9.r h9.s (by have:=h9.o;unfold ah;omega) h9.e]at this;simpa using this
  cases e
 rename_i c;obtain⟨j,_,e,_,e2⟩:=BD (by simpa using c);rw[e2]at h;unfold Z9 at e;have h':(vC (l.getD j iJ)).2=0:=h;rw[h']at e;cases e
theorem aeY{D}(h3:D.length<=3)(h0:0<D.length)(h1:∀d∈D,DgG d/\d.aj=(D.getD 0 iJ).aj/\d.aB=(D.getD 0 iJ).aB):jr (bG D):=by
 have Tf:D.getD 0 iJ∈D:=cO h0;obtain⟨g0,_,_⟩:=h1 _ Tf;refine⟨h3,g0.t.bQ,g0.ord,fun k hk=>?_,a7t,fun c hc hg=>?_⟩
 .obtain⟨g,e1,e2⟩:=h1 (lQ D k) (cO hk);exact⟨g.t,g.n,e1,e2,g.rk,g.two⟩
 exfalso;revert hg;show ¬(0<=(List.replicate (D.getD 0 iJ).aj.length (-1:Int)).getD c.toNat 0);have:=hc.1;have:=hc.2;rw[a3k,aey,a1e (show c.toNat<(D.getD 0 iJ).aj.length by have:c<((D.getD 0 iJ).aj.length:Int):=hc.2;omega)];decide
theorem tV{D}(h3:D.length<=3)(h0:0<D.length)(hp:∀d∈D,kQ d)(h:aW D=0):jr (bG D):=aeY h3 h0 (Rq hp h)
open Go Tw Pv bK
theorem EF{J}(hJ:jr J)(hc:∀k,k<J.D.length->∀v∈(lQ J.D k).aK,Dk v){op}(h:∀l,l.length=J.D.length->(∀v∈l,Dk v)->Dk (op l)):mX J op:=fun t hd=>h _ (by simp[aV]) fun v hv=>by
 unfold aV at hv;obtain⟨k,hk,rfl⟩:=a1w.1 hv;have hk:=a5m.1 hk;have h3:(ji (t.get k)).toNat<(lQ J.D k).aK.length:=by obtain⟨h1,h2⟩:=(Lu hJ hd hk).2;omega
 exact hc k hk _ (cO h3)
theorem Jb.inD{D}(hp:∀d∈D,kQ d)(h:aW D=0):∀k,k<D.length->∀v∈(lQ D k).aK,Dk v:=fun k hk=>(Rq hp h _ (cO hk)).1.c
theorem I5{n f:Nat}(h2:2<=n)(hO:∀m,n-2<=m->Ok m qY){D:List Dg}(h0:0<D.length)(h6:(D.getD 0 iJ).aj.length<=6){k ex}:iW n (.fn 78 [] []) [.fn f [] [],.own 0] [.list k ex 26 D] (.agg [lI (bG D).s,lI (bG D).o,.own 0,.own 1,.fn f [] []]) [.list k ex 26 D,.list true true 3 (bG D).g]:=by
 have h:=amV (n:=n-2) (f:=f) (hO _ (by omega)) (hO _ (by omega)) h0 h6 (k:=k) (ex:=ex)
 rwa [show n-2+2=n by omega]at h
theorem ahO{n f:Nat}(u)(h2:2<=n)(hO:∀m,n-2<=m->Ok m qY){D:List Dg}(h0:0<D.length)(h6:(D.getD 0 iJ).aj.length<=6){k ex}:iW n (.fn 78 [] []) [.fn f [] [.ptr 1 0 1],.own 0] [.list k ex 26 D,.aF [.int .u8 u]] (.agg [lI (bG D).s,lI (bG D).o,.own 0,.own 2,.fn f [] [.ptr 1 0 1]]) [.list k ex 26 D,.aF [.int .u8 u],.list true true 3 (bG D).g]:=by
 have h:=amW (n:=n-2) (f:=f) u (hO _ (by omega)) (hO _ (by omega)) h0 h6 (k:=k) (ex:=ex)
 rwa [show n-2+2=n by omega]at h
theorem a3q{n f:Nat}{J}(hJ:jr J){op}(jy:mX J op)(h2:20<=n)(hO:∀m,n-20<=m->Ok m Gy)(hs:∀m,n-20<=m->∀l,l.length=J.D.length->dK X0 Qp (iw m) (.fn f [] []) [lV l] [] (.agg (op l).ps) []){k ex k2 Gz}:iW n (.fn 80 [] []) [.agg [lI J.s,lI J.o,.own 0,.own 1,.fn f [] []]] [.list k ex 26 J.D,.list k2 Gz 3 J.g] (dA.put (tJ J op)) [.gone,.gone]:=by have h6:=(jr.o2 hJ).2.1;have h7:=hJ.bQ.len;have h:=ahC (N:=n-20) hJ jy hs hO (m:=n-1) (by omega);rw[show n-1+1=n by omega]at h;exact asi h
theorem amZ{n f:Nat}(u){J}(hJ:jr J){op}(jy:mX J op)(h2:20<=n)(hO:∀m,n-20<=m->Ok m Gy)(hs:∀m,n-20<=m->∀l,l.length=J.D.length->dK X0 Qp (iw m) (.fn f [] [.ptr 0 0 1]) [lV l] [.aF [.int .u8 u]] (.agg (op l).ps) [.aF [.int .u8 u]]){k ex k2 Gz}:iW n (.fn 80 [] []) [.agg [lI J.s,lI J.o,.own 0,.own 2,.fn f [] [.ptr 1 0 1]]] [.list k ex 26 J.D,.aF [.int .u8 u],.list k2 Gz 3 J.g] (dA.put (tJ J op)) [.gone,.aF [.int .u8 u],.gone]:=by have h6:=(jr.o2 hJ).2.1;have h7:=hJ.bQ.len;have h:=ahD (N:=n-20) u hJ jy hs hO (m:=n-1) (by omega);rw[show n-1+1=n by omega]at h;exact asj h
abbrev Ov(a b x:Int):Bool:=if decide (x>=a)=true then decide (x<=b)else false
theorem a9A{k:Nat}{x}(h:(!(Ov 0 (i64.wrap ((k:Int)-1)) x))=false)(hk:k<=ah):gG x k:=by
 rw[wrap_small (by unfold ah at hk;omega) (by unfold ah at hk;omega)]at h;unfold Ov at h;by_cases h1:x>=0
 .simp[h1]at h;exact⟨h1,by omega⟩
 simp[h1]at h
theorem acD{z x}(h:(!(Ov 0 (i64.wrap (z-1)) x))=false)(h0:0<=z)(h1:z<=12):0<=x/\x<z:=by
 rw[wrap_small (by omega) (by omega)]at h;unfold Ov at h;by_cases h1:x>=0
 .simp[h1]at h;exact⟨h1,by omega⟩
 simp[h1]at h
def an0(d:Dg)(c g:Int):Jb:=⟨d.aj,d.aB,[d],(bG [d]).g.set c.toNat g⟩
abbrev op0(l:List V):V:=l.getD 0 V0
theorem acE{d}(hp:kQ d)(h:aW [d]=0){c g}(hc:gG c d.aj.length)(hg:0<=g/\g<d.aj.getD c.toNat 0):jr (an0 d c g):=by
 have hJ:=tV (D:=[d]) (by simp) (by simp) (fun x hx=>by rw[a1D.1 hx];exact hp) h;refine⟨hJ.d3,hJ.bQ,hJ.ord,fun k hk=>have h:=hJ.dg k hk;⟨h.t,h.n,h.s,h.o,h.rk,h.two⟩,?_,fun c2 MG h2=>?_⟩
 .show((bG [d]).g.set c.toNat g).length=_;rw[a5O];exact hJ.gl
 have hl:(bG [d]).g.length=d.aj.length:=hJ.gl;have a0:=hc.1;have a1:=hc.2;have b0:=MG.1;have b1:c2<(d.aj.length:Int):=MG.2
 change 0<=((bG [d]).g.set c.toNat g).getD c2.toNat 0 at h2
 show((bG [d]).g.set c.toNat g).getD c2.toNat 0<d.aj.getD c2.toNat 0;by_cases e:c.toNat=c2.toNat
 .rw[<-e,a3k,a2w (by omega)];exact hg.2
 rw[a3k,a1y e,<-a3k]at h2 ⊢;exact hJ.gv c2 MG h2
theorem an4{m}(hO:Ok m qY){l}(h:0<l.length):dK X0 Qp (iw m) (.fn 79 [] []) [lV l] [] (.agg (op0 l).ps) []:=nI.ND hX (first:=[]) (cap:=[]) (hO 79 [lV l] (vA.put (op0 l)) [] [0<l.length] (by kernel_rfl) (fun p h9=>by rw[a1D.1 h9];exact h)) rfl rfl rfl rfl
def Nh(p:Dg×Int×Int):Dg×Int:=if(aW [p.1] != 0)=true then(iJ,aW [p.1])else if(!(Ov 0 (i64.wrap ((p.1.aj.length:Int)-1)) p.2.1))=true then(iJ,3)else if(!(Ov 0 (i64.wrap (p.1.aj.getD p.2.1.toNat 0-1)) p.2.2))=true then(iJ,3)else(tJ (an0 p.1 p.2.1 p.2.2) op0,0)
def an5:gZ aH:=cu 20 (a3 dA iA iA) (dQ (a2 dA iA)) Nh (fun p=>[kQ p.1]) qY
theorem a5w:(1:Nat)<=ah:=by unfold ah;omega
theorem asn:Gd an5:=Good.Ye 24 Jw UG fun n hn hO Gx p hp=>by
 have h1:kQ p.1:=hp _ iE;have h2:∀d∈[p.1],kQ d:=fun x hx=>by rw[a1D.1 hx];exact h1
 have h3:0<[p.1].length/\[p.1].length<=ah:=⟨by simp,a5w⟩;obtain⟨d,c,g⟩:=p;show nI X0 Qp _ _ _ ((dQ (a2 dA iA)).put (Nh (d,c,g))) _;unfold Nh;have hJ:(aW [d] != 0)=false->jr (bG [d]):=fun e1=>tV (D:=[d]) (by simp) (by simp) h2 (by simpa using e1);have hc:(aW [d] != 0)=false->(!(Ov 0 (i64.wrap ((d.aj.length:Int)-1)) c))=false->gG c d.aj.length:=fun _ e2=>a9A e2 h1.s;have s1:=fun(e1:(aW [d] != 0)=false)=>I5 (n:=n) (f:=79) (by omega) (fun m hm=>hO m (by omega)) (D:=[d]) (by simp) (hJ e1).bQ.len (k:=true) (ex:=true);have s2:=fun(e1:(aW [d] != 0)=false) (e2:(!(Ov 0 (i64.wrap ((d.aj.length:Int)-1)) c))=false) (e3:(!(Ov 0 (i64.wrap (d.aj.getD c.toNat 0-1)) g))=false)=>
  have hz:=(hJ e1).bQ.sz (d.aj.getD c.toNat 0) (dG (show c.toNat<d.aj.length by obtain⟨a,b⟩:=hc e1 e2;omega));have hR:=acE h1 (by simpa using e1) (hc e1 e2) (acD e3 (Int.le_trans (by decide) hz.1) hz.2)
  a3q (n:=n) (f:=79) hR (EF hR (Jb.inD h2 (show aW [d]=0 by simpa using e1)) fun l hl hv=>hv _ (cO (by rw[hl];exact Nat.zero_lt_one))) (by omega) (fun m hm=>Gx m (by omega)) (fun m hm l hl=>an4 (hO m (by omega)) (by rw[hl];exact Nat.zero_lt_one)) (k:=true) (ex:=true) (k2:=true) (Gz:=true)
 have i2:=fun(e1:(aW [d] != 0)=false) (e2:(!(Ov 0 (i64.wrap ((d.aj.length:Int)-1)) c))=false)=>show gG c (bG [d]).g.length by rw[(hJ e1).gl];exact hc e1 e2
 exact aP (hO n (by omega)) (.o h2 (.o h3 (.sh (fun _=>.rn (.dM [.agg [.nil .aO,.nil .aO,.nil .aO,.nil .aO,.int .i64 0],.int .i64 (aW [d])]) rfl) fun e1=>.sh (fun _=>.rn (.dM [.agg [.nil .aO,.nil .aO,.nil .aO,.nil .aO,.int .i64 0],.int .i64 3]) rfl) fun e2=>.o (hc e1 e2) (.sh (fun _=>.rn (.dM [.agg [.nil .aO,.nil .aO,.nil .aO,.nil .aO,.int .i64 0],.int .i64 3]) rfl) fun e3=>.fr [1] (s1 e1) (.o (i2 e1 e2) (.fr [1,2] (s2 e1 e2 e3) .rr))))))
open Go Tw Pv bK
def CQ(k:Int):Bool:=decide (7<=k/\k<=16)
def qp(k:Int)(a b:V):V×Int:=if CQ k=true then Jj k a b else(V0,2)
theorem bne{a b:Int}(h:a≠b):(a==b)=false:=by simpa using h
def a9B:gZ aH:=Yd 101 (a1 uA) (fun _=>.nil .fn) (fun _=>[]) (fun p=>[CQ p=false]) an5
theorem ahP:Gd a9B:=asn.Uc 0 fun n _ hO p hp=>by
 have h:¬(7<=p/\p<=16):=by simpa[CQ]using hp _ iE
 exact Ad hX (hO n (by omega)) (by kernel_rfl) (.b (bne (show p≠7 by omega)) (.b (bne (show p≠8 by omega)) (.b (bne (show p≠9 by omega)) (.b (bne (show p≠10 by omega)) (.b (bne (show p≠11 by omega)) (.b (bne (show p≠12 by omega)) (.b (bne (show p≠13 by omega)) (.b (bne (show p≠14 by omega)) .er))))))))
def UN:gZ aH:=cu 45 (a3 uA vA vA) (dQ (a2 vA iA)) (fun p=>qp p.1 p.2.1 p.2.2) np a9B
theorem Zl:Gd UN:=ahP.deep 1 fun n hn hO p hp=>by
 obtain⟨k,a,b⟩:=p;cases h:CQ k
 .have h9:¬(7<=k/\k<=16):=by simpa[CQ]using h
  show nI X0 Qp _ _ _ ((dQ (a2 vA iA)).put (qp k a b)) _;unfold qp;rw[h];exact aP (hO n (by omega)) (.b (bne (show k≠15 by omega)) (.b (bne (show k≠16 by omega)) (.o h (.b aiH .rr))))
 .show nI X0 Qp _ _ _ ((dQ (a2 vA iA)).put (qp k a b)) _;unfold qp;rw[a1e h];exact hO (n+1) (by omega) 45 ((a3 uA vA vA).put (k,a,b)) ((dQ (a2 vA iA)).put (Jj k a b)) [] [7<=k/\k<=16] (by kernel_rfl) (fun q hq=>by rw[a1D.1 hq];simpa[CQ]using h)
open Go Tw Pv bK
theorem zi{v}:Dk v↔lK v:=by
 unfold Dk vOk nU;constructor
 .rintro⟨h,h0⟩;split at h
  .rename_i e;split at h
   .rename_i e2;simp at e e2 h;exact⟨h0,by omega,fun _=>⟨e2,h⟩,fun hz=>absurd e hz⟩
   cases h
  split at h
  .rename_i e e2;simp at e e2 h;exact⟨h0,e2,fun hz=>absurd hz e,fun _=>h⟩
  cases h
 intro h;refine⟨?_,h.f0⟩;by_cases e:v.f=0
 .rw[a1e (by simpa using e),a1e (by simpa using(h.n e).1)];simpa using(h.n e).2
 rw[a18 (by simpa using e),a1e (by simpa using h.f1)];simpa using h.z e
theorem acF{k a b}:(Jj k a b).1=gX k a b:=by
 unfold Jj gX
 repeat' split
 all_goals rfl
theorem a3r{k}(h:CQ k=true){a b}(ha:Dk a)(hb:Dk b):Dk (qp k a b).1/\(qp k a b).1=bJ k a b:=by have:=agQ (by simpa[CQ]using h) (zi.1 ha) (zi.1 hb);unfold qp;rw[a1e h,acF,this.1];exact⟨zi.2 this.2,rfl⟩
theorem acG{k a b}(h:((qp k a b).2 != 0)=false):CQ k=true:=by
 unfold qp at h;cases e:CQ k
 .rw[e]at h;simp at h
 rfl
theorem FI:Dk cZ:=⟨by decide,by decide⟩
theorem a9C:Dk V0:=⟨by decide,by decide⟩
abbrev Dc(u:Int)(l:List V):V:=(qp u (l.getD 0 V0) (l.getD 1 V0)).1
abbrev acH(l:List V):V:=(jV (l.getD 0 V0) (l.getD 1 V0) (l.getD 2 V0)).1
theorem an6{m u}(h1:1<=m)(hO:Ok (m-1) UN){l}(h:l.length=2):dK X0 Qp (iw m) (.fn 112 [] [.ptr 0 0 1]) [lV l] [.aF [.int .u8 u]] (.agg (Dc u l).ps) [.aF [.int .u8 u]]:=by obtain⟨m,rfl⟩:∃k,m=k+1:=⟨m-1,by omega⟩;exact fK hO (first:=[]) (cap:=[.ptr 0 0 1]) (.o (aG (by omega:0<l.length)) (.o (aG (by omega:1<l.length)) .er))
theorem aso{m}(h1:1<=m)(hO:Ok (m-1) UN){l}(h:l.length=3):dK X0 Qp (iw m) (.fn 113 [] []) [lV l] [] (.agg (acH l).ps) []:=by obtain⟨m,rfl⟩:∃k,m=k+1:=⟨m-1,by omega⟩;exact fK hO (first:=[]) (cap:=[]) (.o (aG (by omega:0<l.length)) (.o (aG (by omega:1<l.length)) (.o (aG (by omega:2<l.length)) .er)))
theorem aeZ{m}(hO:Ok m UN){l}(h:l.length<=ah):dK X0 Qp (iw m) (.fn 117 [] []) [lV l] [] (.agg (iU l).ps) []:=nI.ND hX (first:=[]) (cap:=[]) (hO 117 [lV l] (vA.put (iU l)) [] [l.length<=ah] (by kernel_rfl) (fun p h9=>by rw[a1D.1 h9];exact h)) rfl rfl rfl rfl
theorem WZ(l):Dk (iU l):=by unfold iU;split;exact FI;exact a9C
theorem a1d{a b c}(ha:Dk a)(hb:Dk b)(hc:Dk c):Dk (jV a b c).1:=by have:=a4J (zi.1 ha) (zi.1 hb) (zi.1 hc);rw[this.1];exact zi.2 this.2
def yj(p:Int×Dg×Dg):Dg×Int:=if(aW [p.2.1,p.2.2] != 0)=true then(iJ,aW [p.2.1,p.2.2])else if((qp p.1 cZ cZ).2 != 0)=true then(iJ,(qp p.1 cZ cZ).2)else(tJ (bG [p.2.1,p.2.2]) (Dc p.1),0)
def Zm(p:Dg×Dg×Dg):Dg×Int:=if(aW [p.1,p.2.1,p.2.2] != 0)=true then(iJ,aW [p.1,p.2.1,p.2.2])else(tJ (bG [p.1,p.2.1,p.2.2]) acH,0)
def Aw(p:Dg):Dg×Int:=if(aW [p] != 0)=true then(iJ,aW [p])else(tJ (bG [p]) iU,0)
theorem EG{P:Dg->Prop}{a b}(ha:P a)(hb:P b):∀d∈[a,b],P d:=fun x hx=>by
 rcases a1E.1 hx with rfl|hx
 .exact ha
 .rw[a1D.1 hx];exact hb
theorem acI{P:Dg->Prop}{a b c}(ha:P a)(hb:P b)(hc:P c):∀d∈[a,b,c],P d:=fun x hx=>by
 rcases a1E.1 hx with rfl|hx
 .exact ha
 .exact EG hb hc x hx
abbrev rnE(e:Int):PV aH:=.dM [.agg [.nil .aO,.nil .aO,.nil .aO,.nil .aO,.int .i64 0],.int .i64 e]
abbrev HcA(D:List Dg)(u:Int)(g:LI0):List (PB aH):=[.list true true 26 D,.cells [.int .u8 u],.list true true 3 g]
abbrev HcB(u:Int):List (PB aH):=[.gone,.cells [.int .u8 u],.gone]
theorem rE(e):Fp (Γ:=X0.Γ) (Is (X:=X0) (P:=Qp) (dQ (a2 dA iA)) (iJ,e)) .n (.ret (some (rnE e))):=by have h:(dQ (a2 dA iA)).get (rnE e)=some (iJ,e):=rfl;exact Fp.rn (X:=X0) (P:=Qp) (rnE e) h
def an7:gZ aH:=cu 62 (a3 uA dA dA) (dQ (a2 dA iA)) yj (fun p=>[kQ p.2.1,kQ p.2.2]) UN
theorem a9D:(2:Nat)<=ah:=by unfold ah;omega
theorem ahQ:(3:Nat)<=ah:=by unfold ah;omega
theorem asr:Gd an7:=Good.a2G 24 Zl UG Jw Zl fun n hn hO Gx hO3 hO4 p hp=>by obtain⟨u,d,e⟩:=p;have h1:∀x∈[d,e],kQ x:=EG (hp _ iE) (hp _ zq);have h3:0<[d,e].length/\[d,e].length<=ah:=⟨by simp,a9D⟩;have hJ:(aW [d,e] != 0)=false->jr (bG [d,e]):=fun e1=>tV (D:=[d,e]) (by simp) (by simp) h1 (by simpa using e1);have s1:=fun(e1:(aW [d,e] != 0)=false)=>ahO (n:=n) (f:=112) u (by omega) (fun m hm=>hO3 m (by omega)) (D:=[d,e]) (by simp) (hJ e1).bQ.len (k:=true) (ex:=true);have s2:=fun(e1:(aW [d,e] != 0)=false) (e2:((qp u cZ cZ).2 != 0)=false)=>amZ (n:=n) (f:=112) u (hJ e1) (op:=Dc u) (EF (hJ e1) (Jb.inD h1 (show aW [d,e]=0 by simpa using e1)) fun l hl hv=>(a3r (acG e2) (hv _ (cO (show 0<l.length by rw[hl];exact Nat.zero_lt_two))) (hv _ (cO (show 1<l.length by rw[hl];exact Nat.one_lt_two)))).1) (by omega) (fun m hm=>Gx m (by omega)) (fun m hm l hl=>an6 (by omega) (hO4 _ (by omega)) hl) (k:=true) (ex:=true) (k2:=true) (Gz:=true);show nI X0 Qp _ _ _ ((dQ (a2 dA iA)).put (if(aW [d,e] != 0)=true then(iJ,aW [d,e])else if((qp u cZ cZ).2 != 0)=true then(iJ,(qp u cZ cZ).2)else(tJ (bG [d,e]) (Dc u),0))) _;exact aP (hO n (by omega)) (.o h1 (.o h3 (.sh (fun _=>rE _) fun e1=>.sh (fun _=>rE _) fun e2=>.RH (H2:=HcA [d,e] u (bG [d,e]).g) [2,0] [1] (s1 e1) (.RH (H2:=HcB u) [2,0,3] [1] (s2 e1 e2) .rr))))
def an8:gZ aH:=cu 63 (a3 dA dA dA) (dQ (a2 dA iA)) Zm (fun p=>[kQ p.1,kQ p.2.1,kQ p.2.2]) an7
theorem asu:Gd an8:=Good.a2G 24 asr UG Jw Zl fun n hn hO Gx hO3 hO4 p hp=>by obtain⟨a,b,c⟩:=p;have h1:∀x∈[a,b,c],kQ x:=acI (hp _ iE) (hp _ zq) (hp _ hh2);have h3:0<[a,b,c].length/\[a,b,c].length<=ah:=⟨by simp,ahQ⟩;have hJ:(aW [a,b,c] != 0)=false->jr (bG [a,b,c]):=fun e1=>tV (D:=[a,b,c]) (by simp) (by simp) h1 (by simpa using e1);have s1:=fun(e1:(aW [a,b,c] != 0)=false)=>I5 (n:=n) (f:=113) (by omega) (fun m hm=>hO3 m (by omega)) (D:=[a,b,c]) (by simp) (hJ e1).bQ.len (k:=true) (ex:=true);have s2:=fun(e1:(aW [a,b,c] != 0)=false)=>a3q (n:=n) (f:=113) (hJ e1) (op:=acH) (EF (hJ e1) (Jb.inD h1 (show aW [a,b,c]=0 by simpa using e1)) fun l hl hv=>a1d (hv _ (cO (show 0<l.length by rw[hl];exact Nat.succ_pos 2))) (hv _ (cO (show 1<l.length by rw[hl];exact Nat.succ_lt_succ (Nat.succ_pos 1)))) (hv _ (cO (show 2<l.length by rw[hl];exact Nat.lt_succ_self 2)))) (by omega) (fun m hm=>Gx m (by omega)) (fun m hm l hl=>aso (by omega) (hO4 _ (by omega)) hl) (k:=true) (ex:=true) (k2:=true) (Gz:=true);show nI X0 Qp _ _ _ ((dQ (a2 dA iA)).put (if(aW [a,b,c] != 0)=true then(iJ,aW [a,b,c])else(tJ (bG [a,b,c]) acH,0))) _;exact aP (hO n (by omega)) (.o h1 (.o h3 (.sh (fun _=>rE _) fun e1=>.fr [1] (s1 e1) (.fr [1,2] (s2 e1) .rr))))
def an9:gZ aH:=cu 67 (a1 dA) (dQ (a2 dA iA)) Aw (fun p=>[kQ p]) an8
theorem asv:Gd an9:=Good.a2G 24 asu UG Jw Zl fun n hn hO Gx hO3 hO4 d hp=>by
 have h1:∀x∈[d],kQ x:=fun x hx=>by rw[a1D.1 hx];exact hp _ iE
 have h3:0<[d].length/\[d].length<=ah:=⟨by simp,a5w⟩;have hJ:(aW [d] != 0)=false->jr (bG [d]):=fun e1=>tV (D:=[d]) (by simp) (by simp) h1 (by simpa using e1);have s1:=fun(e1:(aW [d] != 0)=false)=>I5 (n:=n) (f:=117) (by omega) (fun m hm=>hO3 m (by omega)) (D:=[d]) (by simp) (hJ e1).bQ.len (k:=true) (ex:=true);have s2:=fun(e1:(aW [d] != 0)=false)=>a3q (n:=n) (f:=117) (hJ e1) (op:=iU) (fun t hd=>WZ _) (by omega) (fun m hm=>Gx m (by omega)) (fun m hm l hl=>aeZ (hO4 m (by omega)) (by rw[hl];exact a5w)) (k:=true) (ex:=true) (k2:=true) (Gz:=true);show nI X0 Qp _ _ _ ((dQ (a2 dA iA)).put (if(aW [d] != 0)=true then(iJ,aW [d])else(tJ (bG [d]) iU,0))) _;exact aP (hO n (by omega)) (.o h1 (.o h3 (.sh (fun _=>rE _) fun e1=>.fr [1] (s1 e1) (.fr [1,2] (s2 e1) .rr))))
open Go Tw Pv bK
def lu(v:V):Int:=if(!(y9 v))=true then 2 else 0
def af0:gZ aH:=cu 106 (a1 vA) iA (fun p=>lu p) np an9
theorem ana:Gd af0:=asv.add fun n hO p hp=>aP hO (.ss .rr .rr)
abbrev FZ(s o:LI0)(v:V):Dg:=⟨s,o,[v],[],-1⟩
def Zn:gZ aH:=cu 107 (a3 qC qC vA) dA (fun p=>FZ p.1 p.2.1 p.2.2) (fun p=>[p.1.length<=ah,p.2.1.length<=ah]) af0
theorem af2:Gd Zn:=ana.add fun n hO p hp=>aP hO (.o (hp _ iE) (.o (hp _ zq) (.rn (.agg [lI p.1,lI p.2.1,lV [p.2.2],.nil .aO,.int .i64 (-1)]) rfl)))
theorem a9E{n f:Nat}{J k ex k2 Gz}(h:iW n (.fn 87 [] []) [.agg (J.ps (.fn f [] []))] [] (.map 0) [.map (kV.im (bD J))]):iW n (.fn 87 [] []) [.agg [lI J.s,lI J.o,.own 0,.own 1,.fn f [] []]] [.list k ex 26 J.D,.list k2 Gz 3 J.g] (.map 2) [.gone,.gone,.map (kV.im (bD J))]:=by have h1:=dK.frame hX (ks:=[]) (H':=[.gone,.gone]) (Hp:=[]) (Sv:=[.map (kV.im (bD J))]) (v':=.map 2) (fv':=.fn 87 [] []) (xs':=[.agg (J.ps (.fn f [] []))]) h (by decide) rfl rfl rfl rfl rfl rfl rfl;exact dK.fz hX (H:=[.list k ex 26 J.D,.list k2 Gz 3 J.g]) (cs:=[lI J.s,lI J.o,.own 0,.own 1]) (rest:=[.fn f [] []]) [0,1] h1 rfl (fun i hi=>by simpa[lN.kX,lN]using hi)
open Go Tw Pv bK
def look(t:List (V×Int))(v:V):Int:=((t.find? fun e=>decide (e.1=v)).map (·.2)).getD 0
theorem JA{t}(hn:(t.map (·.1)).Nodup)(v):(qJ X0 Qp 39 (kV.im t) (kV.tv v) (.int .i64 (look t v)))\/(look t v=0/\oz X0 Qp 39 (kV.im t) (kV.tv v)):=by
 by_cases h:v∈t.map (·.1)
 .obtain⟨e,he,hv⟩:=a1w.1 h;obtain⟨e2,h2⟩:=a5Z.1 (List.find?_isSome (p:=fun e:V×Int=>decide (e.1=v)) |>.2 ⟨e,he,show decide (e.1=v)=true by simpa using hv⟩);have h3:e2.1=v:=by simpa using List.find?_some h2
  refine .inl (kV.found (by rw[Au];exact hn) (a1w.2 ⟨e2,afu h2,?_⟩));unfold look;rw[h2,h3];rfl
 refine .inr ⟨?_,kV.fresh (by rw[Au];exact h)⟩;unfold look;rw[aeW.2 fun e he=>by simp only[a1x];intro hv;exact h (a1w.2 ⟨e,he,hv⟩)]
 rfl
abbrev anb:PV aH:=.agg [.nil .aO,.nil .aO,.nil .aO,.nil .aO,.nil .fn]
abbrev a9F(J:Jb)(f:Nat)(a b:Nat):PV aH:=.agg [lI J.s,lI J.o,.own a,.own b,.fn f [] []]
abbrev HO(D:List Dg)(g:LI0):List (PB aH):=[.list true true 26 D,.list true true 3 g]
theorem Zo{P:Dg->Prop}{d}(h:P d):∀x∈[d],P x:=fun x hx=>by rw[a1D.1 hx];exact h
theorem anc{n}(hO:Ok n Zn){d}{v:V}(hp:kQ d)(e1:(aW [d] != 0)=true):iW (n+1) (.fn 86 [] []) [.agg d.ps,.agg v.ps] [] (.dM [anb,.int .i64 (aW [d])]) []:=by have h1:∀x∈[d],kQ x:=Zo hp;have h3:0<[d].length/\[d].length<=ah:=⟨by simp,a5w⟩;exact dK.drop hX (nS hX hO (first:=[]) (cap:=[]) (H1:=[.list true true 26 [d]]) (by kernel_rfl) (.o h1 (.o h3 (.b e1 .er)))) rfl rfl
theorem ane{n}(hO:Ok n Zn){d v}(hp:kQ d)(e1:(aW [d] != 0)=false)(e2:(lu v != 0)=true):iW (n+1) (.fn 86 [] []) [.agg d.ps,.agg v.ps] [] (.dM [anb,.int .i64 4]) []:=by have h1:∀x∈[d],kQ x:=Zo hp;have h3:0<[d].length/\[d].length<=ah:=⟨by simp,a5w⟩;exact dK.drop hX (nS hX hO (first:=[]) (cap:=[]) (H1:=[.list true true 26 [d]]) (by kernel_rfl) (.o h1 (.o h3 (.b e1 (.b e2 .er))))) rfl rfl
theorem anf{n}(h2:2<=n)(D5:Ok n Zn)(hO:∀m,n-2<=m->Ok m qY){d v}(hp:kQ d)(e1:(aW [d] != 0)=false)(e2:(lu v != 0)=false):iW (n+1) (.fn 86 [] []) [.agg d.ps,.agg v.ps] [] (.dM [a9F (bG [d]) 79 0 1,.int .i64 0]) (HO [d] (bG [d]).g):=by have h1:∀x∈[d],kQ x:=Zo hp;have h3:0<[d].length/\[d].length<=ah:=⟨by simp,a5w⟩;have hJ:jr (bG [d]):=tV (D:=[d]) (by simp) (by simp) h1 (by simpa using e1);have s1:=I5 (n:=n) (f:=79) h2 hO (D:=[d]) (by simp) hJ.bQ.len (k:=true) (ex:=true);have h:iW (n+1) (.fn 86 [] []) [.agg d.ps,.agg v.ps] [] (.dM [a9F (bG [d]) 79 1 2,.int .i64 0]) [.list true true 26 [d],.list true true 26 [d],.list true true 3 (bG [d]).g]:=fK D5 (first:=[]) (cap:=[]) (.o h1 (.o h3 (.b e1 (.b e2 (.fr [1] s1 .er)))));exact dK.gs hX h [.gc [1,2]] rfl
theorem qO(J):((bD J).map (·.1)).Nodup:=(((oh WW (zD (iH J))).map (·.1)).nodup_iff).2 (BH (iH J)).1
theorem EH(φ J):dJ φ (bD J)=eu φ (iH J):=by unfold bD;rw[a4B φ (oh WW (zD (iH J))),Uj]
theorem Rt{α}:∀l:List α,eu (fun _=>1) l=(l.length:Int)
 | []=>rfl
 |a::l=>by have:=Rt l;simp only[eu,a4C];omega
theorem LQ{J}(hJ:jr J):LM (bD J):=by
 refine⟨fun e he=>(BH (iH J)).2 e ((oh WW (zD (iH J))).mem_iff.1 he),?_⟩;rw[EH,Rt];have h1:(iH J).length<=(Jv J).length:=by unfold iH Ri;rw[a4X];exact a5Y (aaq _ _) (by rw[a4X];exact a1l _)
 have h2:(Jv J).length<=uP J.s:=a5Y (aaq _ _) (by rw[a4X,a6I];exact a1l _);have h3:=hJ.bQ.VY;have h4:=hJ.bQ.many;omega
def EI(p:Dg×V):Int×Int:=if(aW [p.1] != 0)=true then(0,aW [p.1])else if(lu p.2 != 0)=true then(0,4)else(look (bD (bG [p.1])) p.2,0)
def ahR:gZ aH:=cu 27 (a2 dA vA) (dQ (a2 iA iA)) EI (fun p=>[kQ p.1]) Zn
theorem asw:Gd ahR:=Good.Ye 24 af2 Jw fun n hn hO Gx p hp=>by
 obtain⟨d,v⟩:=p;have h1:kQ d:=hp _ iE;obtain⟨n,rfl⟩:∃k,n=k+1:=⟨n-1,by omega⟩;have D5:=hO (n+1) (by omega);cases e1:(aW [d] != 0)
 .cases e2:(lu v != 0)
  .have s1:=anf (n:=n) (by omega) (hO n (by omega)) (fun m hm=>Gx m (by omega)) h1 e1 e2;have hJ:jr (bG [d]):=tV (D:=[d]) (by simp) (by simp) (Zo h1) (by simpa using e1);have s2:=a9E (k:=true) (ex:=true) (k2:=true) (Gz:=true) (Rj hJ (n:=n-1) (f:=79) (Gx _ (by omega)) (show 0<[d].length by simp));rw[show n-1+2=n+1 by omega]at s2;show nI X0 Qp _ _ _ ((dQ (a2 iA iA)).put (if(aW [d] != 0)=true then(0,aW [d])else if(lu v != 0)=true then(0,4)else(look (bD (bG [d])) v,0))) _;rw[e1,e2];rcases JA (qO (bG [d])) v with hf|⟨hz,hf⟩
   .exact aP D5 (.fr [] s1 (.b (rfl:((0:Int) != 0)=false) (.fr [0,1] s2 (.c (.int .i64 (look (bD (bG [d])) v)) [] hf .rr))))
   .rw[hz];exact aP D5 (.fr [] s1 (.b (rfl:((0:Int) != 0)=false) (.fr [0,1] s2 (.a .calm (.o hf .rr)))))
  .have s1:=ane (n:=n) (hO n (by omega)) h1 e1 e2;show nI X0 Qp _ _ _ ((dQ (a2 iA iA)).put (if(aW [d] != 0)=true then(0,aW [d])else if(lu v != 0)=true then(0,4)else(look (bD (bG [d])) v,0))) _;rw[e1,e2];exact aP D5 (.fr [] s1 (.b (rfl:((4:Int) != 0)=true) .rr))
 .have s1:=anc (n:=n) (v:=v) (hO n (by omega)) h1 e1;show nI X0 Qp _ _ _ ((dQ (a2 iA iA)).put (if(aW [d] != 0)=true then(0,aW [d])else if(lu v != 0)=true then(0,4)else(look (bD (bG [d])) v,0))) _;rw[a1e e1];exact aP D5 (.fr [] s1 (.b e1 .rr))
open Go Tw Pv bK
structure An where
 q:Int
 none:Bool
 yes:Bool
 n:Int
 lo:Int
 hi:Int
 fault:Bool
 set:LI0
deriving DecidableEq
abbrev SN:An:=⟨0,false,false,0,0,0,false,[]⟩
def ang:Ar X0 Qp Unit where
 put _:=.nil .aO
 get v:=match v with
  |.nil .aO=>some ()
  |_=>none
 ok:=by
  intro v a hg A m h x hv;split at hg
  .exact hv
  .cases hg
def Xh:Arg An:=agu (a7Q (Nw uA (Nw tA (Nw tA (Nw iA (Nw iA (a4 iA tA qC ang)))))))
 (fun p=>⟨p.1,p.2.1,p.2.2.1,p.2.2.2.1,p.2.2.2.2.1,p.2.2.2.2.2.1,p.2.2.2.2.2.2.1,p.2.2.2.2.2.2.2.1⟩) (fun a=>(a.q,a.none,a.yes,a.n,a.lo,a.hi,a.fault,a.set,())) fun _=>rfl
abbrev anW(a:An)(s:PV aH):PV aH:=.agg [.int .u8 a.q,.bool a.none,.bool a.yes,.int .i64 a.n,.int .i64 a.lo,.int .i64 a.hi,.bool a.fault,s,.nil .aO]
theorem rA(a)(h:a.set=[])(e):Fp (Γ:=X0.Γ) (Is (X:=X0) (P:=Qp) (dQ (a2 Xh iA)) (a,e)) .n (.ret (some (.dM [anW a (.nil .aO),.int .i64 e]))):=by obtain⟨q,no,y,n,l,hi,f,s⟩:=a;cases h;have h:(dQ (a2 Xh iA)).get (.dM [anW ⟨q,no,y,n,l,hi,f,[]⟩ (.nil .aO),.int .i64 e])=some (⟨q,no,y,n,l,hi,f,[]⟩,e):=rfl;exact Fp.rn (X:=X0) (P:=Qp) _ h
def a3s(q:Int)(t:List (V×Int)):An×Int:=
 if(q==1)=true then(⟨q,false,look t cZ==dJ (fun _=>1) t,0,0,0,false,[]⟩,0)
 else if(q==2)=true then(⟨q,false,decide (look t cZ>0),0,0,0,false,[]⟩,0)
 else if(q==3)=true then(⟨q,false,false,look t cZ,0,0,false,[]⟩,0)
 else if(q==4)=true then(if kL t=[]then(⟨q,true,false,0,0,0,uh t,[]⟩,0)else(⟨q,((kL t).length:Int)==0,false,0,(kL t).getD 0 0,(kL t).getD (i64.wrap ((kL t).length-1)).toNat 0,uh t,[]⟩,0))
 else(⟨q,false,false,0,0,0,uh t,kL t⟩,0)
def zG(q:Int)(t:List (V×Int)):An×Int:=if t=[]then(⟨q,true,false,0,0,0,false,[]⟩,0)else a3s q t
def mY(p:Int×Dg×Dg):An×Int:=if(aW [p.2.1,p.2.2] != 0)=true then(SN,aW [p.2.1,p.2.2])else if decide (p.1<1)=true then(SN,2)else if decide (p.1>5)=true then(SN,2)else zG p.1 (bD (bG [p.2.1,p.2.2]))
def acK:gZ aH:=cu 33 (a3 uA dA dA) (dQ (a2 Xh iA)) mY (fun p=>[kQ p.2.1,kQ p.2.2]) ahR
theorem a9H{t}(h:LM t):(kL t).length<=2000:=by unfold kL;rw[show ∀l:LI0,(gu l).length=l.length from fun l=>(aer l _).length_eq,a4X];exact a5Y (aaq _ _) h.len
abbrev HMt(t:List (V×Int)):List (PB aH):=[.map (kV.im t)]
abbrev HMn(t:List (V×Int)):List (PB aH):=[.map (kV.im t),.list false false 3 (kL t)]
section
variable{n:Nat}{q:Int}{d e:Dg}(hO:Ok n ahR)(h1:∀ x∈[d,e],kQ x)(e1:(aW [d,e] != 0)=false)(e2:decide (q<1)=false)(e3:decide (q>5)=false){t:List (V×Int)}(ht:LM t)
 (s1:dK X0 Tryz.prog (iw n) (.fn 78 [] []) [.fn 79 [] [],.own 0] [.list true true 26 [d,e]] (a9F (bG [d,e]) 79 0 1) (HO [d,e] (bG [d,e]).g))
 (s2:dK X0 Tryz.prog (iw n) (.fn 87 [] []) [a9F (bG [d,e]) 79 0 1] (HO [d,e] (bG [d,e]).g) (.map 2) [.gone,.gone,.map (kV.im t)])
 (s3:dK X0 Tryz.prog (iw n) (.fn 90 [] []) [.map 0] [.iP (kV.im t)] (.int .i64 (dJ (fun _=>1) t)) [.iP (kV.im t)])
 (s4:kL t=[]->dK X0 Tryz.prog (iw n) (.fn 88 [] []) [.map 0] [.iP (kV.im t)] (.dM [.nil .aO,.bool (uh t)]) [.iP (kV.im t)])
 (s5:kL t≠[]->dK X0 Tryz.prog (iw n) (.fn 88 [] []) [.map 0] [.iP (kV.im t)] (.dM [.own 1,.bool (uh t)]) [.iP (kV.im t),.list false false 3 (kL t)])
include hO h1 e1 e2 e3 s1 s2
theorem acL(h:t=[]):nI X0 Qp (iw (n+1)) 33 ((a3 uA dA dA).put (q,d,e)) ((dQ (a2 Xh iA)).put (⟨q,true,false,0,0,0,false,[]⟩,0)) []:=by subst h;have h3:0<[d,e].length/\[d,e].length<=ah:=⟨by simp,a9D⟩;exact aP hO (.o h1 (.o h3 (.b e1 (.b e2 (.b e3 (.fr [1] s1 (.fr [1,2] s2 (.b (show(((kV.im ([]:List (V×Int))).length:Int)==0)=true from rfl) (rA _ rfl _)))))))))
variable(hd:(t.map (·.1)).Nodup)
include ht s3 s4 s5 hd
theorem a9I(h:t≠[]):nI X0 Qp (iw (n+1)) 33 ((a3 uA dA dA).put (q,d,e)) ((dQ (a2 Xh iA)).put (a3s q t)) []:=by
 have h3:0<[d,e].length/\[d,e].length<=ah:=⟨by simp,a9D⟩;have hl:(((kV.im t).length:Int)==0)=false:=by
  rw[kV.qo];cases t with
  |nil=>exact absurd rfl h
  |cons a r=>exact bne (by simp only[a4C];omega)
 have Td:=a9H ht;have s0:iW n (.fn 89 [] []) [] [] (.agg cZ.ps) []:=nI.ND hX (first:=[]) (cap:=[]) (hO 89 [] (vA.put cZ) [] [] (by kernel_rfl) (fun p h=>by cases h)) rfl rfl rfl rfl;unfold a3s;by_cases hn:kL t=[]
 .rw[a1e hn];rcases JA hd cZ with hf|⟨hz,hf⟩
  .exact aP hO (.o h1 (.o h3 (.b e1 (.b e2 (.b e3 (.fr [1] s1 (.fr [1,2] s2 (.b hl (.RH (H2:=HMt t) [3] [0] (s4 hn) (.ss (.fr [] s0 (.c (.int .i64 (look t cZ)) [] hf (.RH (H2:=HMt t) [3] [0] s3 (rA _ rfl _)))) (.ss (.fr [] s0 (.c (.int .i64 (look t cZ)) [] hf (rA _ rfl _))) (.ss (.fr [] s0 (.c (.int .i64 (look t cZ)) [] hf (rA _ rfl _))) (.ss (.b (c:=!((0:Int)==0)) (t:=false) rfl (rA _ rfl _)) (rA ⟨q,false,false,0,0,0,uh t,kL t⟩ hn _))))))))))))))
  rw[hz];exact aP hO (.o h1 (.o h3 (.b e1 (.b e2 (.b e3 (.fr [1] s1 (.fr [1,2] s2 (.b hl (.RH (H2:=HMt t) [3] [0] (s4 hn) (.ss (.a .calm (.o hf (.RH (H2:=HMt t) [3] [0] s3 (rA _ rfl _)))) (.ss (.a .calm (.o hf (rA _ rfl _))) (.ss (.a .calm (.o hf (rA _ rfl _))) (.ss (.b (c:=!((0:Int)==0)) (t:=false) rfl (rA _ rfl _)) (rA ⟨q,false,false,0,0,0,uh t,kL t⟩ hn _))))))))))))))
 rw[a18 hn];have hp:0<(kL t).length:=aaj.2 hn;have hb:(!(((kL t).length:Int)==0))=true:=by rw[bne (by omega)];rfl
 have i0:gG 0 (kL t).length:=aG hp;have i1:gG (i64.wrap ((kL t).length-1)) (kL t).length:=by rw[wrap_small (by omega) (by omega)];exact⟨by omega,by omega⟩
 rcases JA hd cZ with hf|⟨hz,hf⟩
 .exact aP hO (.o h1 (.o h3 (.b e1 (.b e2 (.b e3 (.fr [1] s1 (.fr [1,2] s2 (.b hl (.RH (H2:=HMn t) [3] [0] (s5 hn) (.ss (.fr [] s0 (.c (.int .i64 (look t cZ)) [] hf (.RH (H2:=HMt t) [3] [0] s3 (rA _ rfl _)))) (.ss (.fr [] s0 (.c (.int .i64 (look t cZ)) [] hf (rA _ rfl _))) (.ss (.fr [] s0 (.c (.int .i64 (look t cZ)) [] hf (rA _ rfl _))) (.ss (.b hb (.o i0 (.o i1 (rA _ rfl _)))) .rr)))))))))))))
 rw[hz];exact aP hO (.o h1 (.o h3 (.b e1 (.b e2 (.b e3 (.fr [1] s1 (.fr [1,2] s2 (.b hl (.RH (H2:=HMn t) [3] [0] (s5 hn) (.ss (.a .calm (.o hf (.RH (H2:=HMt t) [3] [0] s3 (rA _ rfl _)))) (.ss (.a .calm (.o hf (rA _ rfl _))) (.ss (.a .calm (.o hf (rA _ rfl _))) (.ss (.b hb (.o i0 (.o i1 (rA _ rfl _)))) .rr)))))))))))))
end
theorem anh:Gd acK:=Good.Ye 24 asw Jw fun n hn hO Gx p hp=>by
 obtain⟨q,d,e⟩:=p;have h1:∀x∈[d,e],kQ x:=EG (hp _ iE) (hp _ zq);have h3:0<[d,e].length/\[d,e].length<=ah:=⟨by simp,a9D⟩;have D5:=hO n (by omega);show nI X0 Qp _ _ _ ((dQ (a2 Xh iA)).put (if(aW [d,e] != 0)=true then(SN,aW [d,e])else if decide (q<1)=true then(SN,2)else if decide (q>5)=true then(SN,2)else zG q (bD (bG [d,e])))) _;cases e1:(aW [d,e] != 0)
 .cases e2:decide (q<1)
  .cases e3:decide (q>5)
   .have hJ:=tV (D:=[d,e]) (by simp) (by simp) h1 (by simpa using e1);have ht:=LQ hJ;have s1:=I5 (n:=n) (f:=79) (by omega) (fun m hm=>Gx m (by omega)) (D:=[d,e]) (by simp) hJ.bQ.len (k:=true) (ex:=true);have s2:=a9E (k:=true) (ex:=true) (k2:=true) (Gz:=true) (Rj hJ (n:=n-2) (f:=79) (Gx _ (by omega)) (show 0<[d,e].length by simp));have s3:=as9 (n:=n-1) ht;have s4:=(aeX (n:=n-2) ht).1;have s5:=(aeX (n:=n-2) ht).2;rw[show n-2+2=n by omega]at s2 s4 s5;rw[show n-1+1=n by omega]at s3;show nI X0 Qp _ _ _ ((dQ (a2 Xh iA)).put (zG q (bD (bG [d,e])))) _;unfold zG;by_cases h:bD (bG [d,e])=[]
    .rw[a1e h];exact acL D5 h1 e1 e2 e3 s1 s2 h
    .rw[a18 h];exact a9I D5 h1 e1 e2 e3 ht s1 s2 s3 s4 s5 (qO _) h
   .exact aP D5 (.o h1 (.o h3 (.b e1 (.b e2 (.b e3 (rA _ rfl _))))))
  .exact aP D5 (.o h1 (.o h3 (.b e1 (.b e2 (rA _ rfl _)))))
 .exact aP D5 (.o h1 (.o h3 (.b e1 (rA _ rfl _))))
open Go Tw Pv bK
section
variable{n:Nat}{t:List (V×Int)}(h:LM t)(ht:t≠[])
theorem ani{k:Bool}:iW (n+1) (.fn 96 [] []) [.map 0] [.map (kV.im t)] vF [.map (kV.im t),.cells [.map 0]]:=
 fK gU (first:=[]) (cap:=[]) .er
include h ht
theorem anj:iW (n+3) (.fn 95 [] []) [vF] [.iP (kV.im t),.aF [.map 0]] (.aO 2 0 t.length t.length 1 false) [.iP (kV.im t),.aF [.map 0],.nN ((tK t).map NH)]:=by have h1:=acB (n:=n) h ht;exact fK gU (first:=[]) (cap:=[]) (.k h1 .er)
omit ht in
theorem a9J:(tK t).length=t.length:=by unfold tK;rw[(oh _ _).length_eq,a4X]
theorem ank:iW (n+1) (.fn 94 [] []) [.aO 0 0 t.length t.length 1 false] [.nN ((tK t).map NH)] (.int .i64 (Ro (tK t))) [.nN ((tK t).map NH)]:=by
 have hl:=a9J h;have h0:tK t≠[]:=fun e=>ht (a6n.1 (by rw[<-hl,e];rfl));have:=amS (n:=n) h0 (by rw[hl];exact h.len)
 rwa [hl]at this
end
open Go Tw Pv bK
abbrev lkC(no:Bool)(n:Int)(s:PV aH):List (PV aH):=[.int .u8 8,.bool no,.bool false,.int .i64 n,.int .i64 0,.int .i64 0,.bool false,s,.nil .aO]
abbrev wLk(f:Bool×Bool)(l:List Dg)(d:Dg)(n:Int)(s:PV aH)(H:List (PB aH))(i:Int)(x:List (Nat×PE aH)):bV aH:=⟨[(3,.loc 0 0),(4,.loc 1 0),(31,.val (.own 0)),(32,xi l.length),(33,xi i)]++x,[d.ps,lkC false n s],.list f.1 f.2 26 l::H⟩
abbrev hLk(b:Int):List (PB aH):=[.list true true 3 ([b]:LI0)]
def anl(f:Bool×Bool)(l:List Dg)(d:Dg)(i:Int)(x:List (Nat×PE aH)):Option (Int×Int)->bV aH
 |none=>wLk f l d 0 (.nil .aO) [] i x
 |some (b,z)=>wLk f l d z (.own 1) (hLk b) i x
def tLk(l:List Dg)(d:Dg)(k:Nat):List (V×Int):=bD (bG [l.getD k iJ,d])
def mLk(l:List Dg)(d:Dg)(k:Nat):Int:=Ro (tK (tLk l d k))
def gLk(l:List Dg)(d:Dg)(k:Nat)(s:Option (Int×Int)):Option (Int×Int)⊕(Option (Int×Int)×Nat):=
 if tLk l d k=[]then .inr (s,k)else match s with
  |none=>.inl (some ((k:Int),mLk l d k))
  |some (b,z)=>if decide (mLk l d k<z)=true then .inl (some ((k:Int),mLk l d k))else .inl (some (b,z))
def zLk(f:Bool×Bool)(l:List Dg)(d:Dg):Option (Int×Int)⊕(Option (Int×Int)×Nat)->Ex×bV aH
 |.inl s=>(.exit 1,anl f l d l.length [(34,xl false)] s)
 |.inr (none,k)=>(.ret,⟨[(4,.loc 1 0),(5,xi 0)],[d.ps,lkC true 0 (.nil .aO),(l.getD k iJ).ps],[.list f.1 f.2 26 l]⟩)
 |.inr (some (b,z),k)=>(.ret,⟨[(4,.loc 1 0),(5,xi 0)],[d.ps,lkC true z (.own 1),(l.getD k iJ).ps],.list f.1 f.2 26 l::hLk b⟩)
structure LkP(l:List Dg)(d:Dg):Prop where
 p:∀x∈l++[d],kQ x
 g:∀x∈l++[d],DgG x/\x.aj=((l++[d]).getD 0 iJ).aj/\x.aB=((l++[d]).getD 0 iJ).aB
theorem LkP.j{l d}(h:LkP l d){k}(hk:k<l.length):jr (bG [l.getD k iJ,d]):=by have h1:=h.g (l.getD k iJ) (a6l _ (cO hk));have h2:=h.g d (abS _ (a1D.2 rfl));exact aeY (D:=[l.getD k iJ,d]) (by simp) (by simp) (EG (P:=fun x=>DgG x/\x.aj=(l.getD k iJ).aj/\x.aB=(l.getD k iJ).aB) ⟨h1.1,rfl,rfl⟩ ⟨h2.1,h2.2.1.trans h1.2.1.symm,h2.2.2.trans h1.2.2.symm⟩)
theorem lLk{n}(hn:24<=n)(hO:∀m,n-24<=m->Ok m qY)(f){l d}(h:LkP l d)(hl:l.length<=ah):Oi n 39 0 1 (wLk f l d 0 (.nil .aO) [] 0 []) (zLk f l d (lq (gLk l d) l.length 0 none)).1 (zLk f l d (lq (gLk l d) l.length 0 none)).2:=by
 refine jo (st:=fun i s=>anl f l d i [] s) (g:=gLk l d) (out:=zLk f l d) (s0:=none) (fun k s=>k=0↔s=none) (by kernel_rfl) hl (by simp) (fun k s m hk hi ih=>?_) (fun s _=>?_)
 .have hJ:=h.j hk;have ht:LM (tLk l d k):=LQ hJ;have s1:=I5 (n:=n) (f:=79) (by omega) (fun m hm=>hO m (by omega)) (D:=[l.getD k iJ,d]) (by simp) hJ.bQ.len (k:=true) (ex:=true);have s2:=a9E (k:=true) (ex:=true) (k2:=true) (Gz:=true) (Rj hJ (n:=n-2) (f:=79) (hO _ (by omega)) (show 0<[l.getD k iJ,d].length by simp));rw[show n-2+2=n by omega]at s2
  change dK _ _ _ _ _ _ _ [.gone,.gone,.map (kV.im (tLk l d k))]at s2
  unfold gLk;by_cases h0:tLk l d k=[]
  .rw[a1e h0];rw[h0]at s2;have hz:(((kV.im ([]:List (V×Int))).length:Int)==0)=true:=rfl;rcases s with _|⟨b,z⟩
   .exact aN gU (.b (bg hk) (.o (aG hk) (.fr [1] s1 (.fr [1,2] s2 (.b hz (.ouG [.gc []] nofun))))))
   exact aN gU (.b (bg hk) (.o (aG hk) (.fr [2] s1 (.fr [2,3] s2 (.b hz (.ouG [.gc [1]] nofun))))))
  rw[a18 h0];have hz:(((kV.im (tLk l d k)).length:Int)==0)=false:=by rw[kV.qo];exact bne (by have:=aaj.2 h0;omega)
  have s3:=ani (n:=n-1) (t:=tLk l d k) (k:=true);have s4:=anj (n:=n-3) ht h0;have s5:=ank (n:=n-1) ht h0;rw[show n-1+1=n by omega]at s3 s5;rw[show n-3+3=n by omega]at s4;rcases s with _|⟨b,z⟩
  .have hk0:k=0:=hi.2 rfl;have hb:((k:Int)==0)=true:=by rw[hk0];rfl
   exact aN gU (.b (bg hk) (.o (aG hk) (.fr [1] s1 (.fr [1,2] s2 (.b hz (.fr [3] s3 (.RH (H2:=[.map (kV.im (tLk l d k)),.cells [.map 0],.nN ((tK (tLk l d k)).map NH)]) [3,4] [0,1] s4 (.fr [5] s5 (.b hb (.nxG [.gc [6]] (ih _ (by simp))))))))))))
  have hk0:k≠0:=fun e=>by cases hi.1 e
  have hb:((k:Int)==0)=false:=bne (by omega);exact aN gU (.b (bg hk) (.o (aG hk) (.fr [2] s1 (.fr [2,3] s2 (.b hz (.fr [4] s3 (.RH (H2:=[.map (kV.im (tLk l d k)),.cells [.map 0],.nN ((tK (tLk l d k)).map NH)]) [4,5] [0,1] s4 (.fr [6] s5 (.b hb (.ls (.nxG [.gc [7]] (ih _ (by simp))) (.nxG [.gc [1]] (ih _ (by simp)))))))))))))
 rcases s with _|⟨b,z⟩
 .exact aN gU (.b (fC l.length) (.ou nofun))
 exact aN gU (.b (fC l.length) (.ou nofun))
theorem ahT{n k ex}{l:List Dg}:iW (n+1) (.fn 93 [] []) [.own 0] [.list k ex 26 l] (.I9 0) [.list k ex 26 l]:=fK gU (first:=[]) (cap:=[]) (.o (rfl:((0:Nat):Int)=0) (.o (rfl:(l.length:Int)=(l.length:Int)) (.o (rfl:(l.length:Int)=(l.length:Int)) .er)))
def anm:Option (Int×Int)⊕(Option (Int×Int)×Nat)->An
 |.inl none=>⟨8,false,false,0,0,0,false,[]⟩
 |.inl (some (b,z))=>⟨8,false,false,z,0,0,false,[b]⟩
 |.inr (none,_)=>⟨8,true,false,0,0,0,false,[]⟩
 |.inr (some (b,z),_)=>⟨8,true,false,z,0,0,false,[b]⟩
def a3t(p:List Dg×Dg):An×Int:=if decide ((p.1.length:Int)>4)=true then(SN,5)else if(aW (p.1++[p.2]) != 0)=true then(SN,aW (p.1++[p.2]))else if((p.1.length:Int)==0)=true then(SN,7)else(anm (lq (gLk p.1 p.2) p.1.length 0 none),0)
theorem dK.got{call}{fv v:PV aH}{xs:List (PV aH)}{H H1:List (PB aH)}{β}{r:Ar X0 Qp β}{s}(hs:dK X0 Qp call fv xs H v H1)(hg:r.get v=some s):dK X0 Qp call fv xs H (r.put s) H1:=by intro A m h tf rH hr hf hx;obtain⟨w,h',ws,m1,c1,c2,c3,c4⟩:=hs A m h tf rH hr hf hx;exact⟨w,h',ws,m1,c1,c2,r.ok hg c3,c4⟩
theorem ano{n}(hn:24<=n)(D5:Ok n acK)(Gx:∀m,n-24<=m->Ok m qY){k ex l d}(h1:∀x∈l++[d],kQ x)(h2:l.length<=1000):iW (n+1) (.fn 39 [] []) [.own 0,.agg d.ps] [.list k ex 26 l] ((dQ (a2 Xh iA)).put (a3t (l,d))) [.list k ex 26 l]:=by
 have hl:l.length<=ah:=by unfold ah;omega
 have h3:0<(l++[d]).length/\(l++[d]).length<=ah:=by rw[a1B,a4v];unfold ah;omega
 have h4:l.length+[d].length<=ah:=by rw[a4v];unfold ah;omega
 have h5:[d]≠[]:=by simp
 have s0:=ahT (n:=n-1) (k:=k) (ex:=ex) (l:=l);rw[show n-1+1=n by omega]at s0;show dK X0 Qp _ _ _ _ ((dQ (a2 Xh iA)).put (if decide ((l.length:Int)>4)=true then(SN,5)else if(aW (l++[d]) != 0)=true then(SN,aW (l++[d]))else if((l.length:Int)==0)=true then(SN,7)else(anm (lq (gLk l d) l.length 0 none),0))) _;cases e1:decide ((l.length:Int)>4)
 .cases e2:(aW (l++[d]) != 0)
  .cases e3:((l.length:Int)==0)
   .have hk:LkP l d:=⟨h1,Rq h1 (by simpa using e2)⟩;have lp:=lLk (n:=n) hn Gx (k,ex) hk hl;revert lp;rcases lq (gLk l d) l.length 0 none with(_|⟨b,z⟩)|⟨_|⟨b,z⟩,j⟩
    .intro lp;exact dK.got (v:=.dM [anW ⟨8,false,false,0,0,0,false,[]⟩ (.nil .aO),.int .i64 0]) (fK D5 (first:=[]) (cap:=[]) (.b e1 (.fr [0] s0 (.o h4 (.o h5 (.o h1 (.o h3 (.b e2 (.b e3 (.wG [.gc []] lp .er)))))))))) rfl
    .intro lp;exact dK.gs hX (nS hX D5 (first:=[]) (cap:=[]) (v:=.dM [anW ⟨8,false,false,z,0,0,false,[]⟩ (.own 1),.int .i64 0]) (H1:=.list k ex 26 l::hLk b) (by kernel_rfl) (.b e1 (.fr [0] s0 (.o h4 (.o h5 (.o h1 (.o h3 (.b e2 (.b e3 (.wG [.gc []] lp .er)))))))))) [.fz 1,.gc []] rfl
    .intro lp;exact dK.got (v:=.dM [anW ⟨8,true,false,0,0,0,false,[]⟩ (.nil .aO),.int .i64 0]) (fK D5 (first:=[]) (cap:=[]) (.b e1 (.fr [0] s0 (.o h4 (.o h5 (.o h1 (.o h3 (.b e2 (.b e3 (.wG [.gc []] lp .er)))))))))) rfl
    intro lp;exact dK.gs hX (nS hX D5 (first:=[]) (cap:=[]) (v:=.dM [anW ⟨8,true,false,z,0,0,false,[]⟩ (.own 1),.int .i64 0]) (H1:=.list k ex 26 l::hLk b) (by kernel_rfl) (.b e1 (.fr [0] s0 (.o h4 (.o h5 (.o h1 (.o h3 (.b e2 (.b e3 (.wG [.gc []] lp .er)))))))))) [.fz 1,.gc []] rfl
   exact dK.got (v:=.dM [anW SN (.nil .aO),.int .i64 7]) (dK.gs hX (nS hX D5 (first:=[]) (cap:=[]) (v:=.dM [anW SN (.nil .aO),.int .i64 7]) (H1:=[.list k ex 26 l,.list true true 26 [d],.list true false 26 (l++[d])]) (by kernel_rfl) (.b e1 (.fr [0] s0 (.o h4 (.o h5 (.o h1 (.o h3 (.b e2 (.b e3 .er))))))))) [.gc []] rfl) rfl
  exact dK.got (v:=.dM [anW SN (.nil .aO),.int .i64 (aW (l++[d]))]) (dK.gs hX (nS hX D5 (first:=[]) (cap:=[]) (v:=.dM [anW SN (.nil .aO),.int .i64 (aW (l++[d]))]) (H1:=[.list k ex 26 l,.list true true 26 [d],.list true false 26 (l++[d])]) (by kernel_rfl) (.b e1 (.fr [0] s0 (.o h4 (.o h5 (.o h1 (.o h3 (.b e2 .er)))))))) [.gc []] rfl) rfl
 exact dK.got (v:=.dM [anW SN (.nil .aO),.int .i64 5]) (fK D5 (first:=[]) (cap:=[]) (.b e1 .er)) rfl
open Go Tw Pv bK
def jg(d:Dg)(g:LI0):Jb:=⟨d.aj,d.aB,[d],g⟩
structure GOk(d:Dg)(g:LI0):Prop where
 len:g.length=d.aj.length
 v:∀c,gG c d.aj.length->0<=g.getD c.toNat 0->g.getD c.toNat 0<d.aj.getD c.toNat 0
theorem anp{d}(hJ:jr (bG [d])){g}(h:GOk d g):jr (jg d g):=⟨hJ.d3,hJ.bQ,hJ.ord,fun k hk=>have h:=hJ.dg k hk;⟨h.t,h.n,h.s,h.o,h.rk,h.two⟩,h.len,h.v⟩
theorem GOk.set{d g}(h:GOk d g){c k:Nat}(hk:(k:Int)<d.aj.getD (c:Int).toNat 0):GOk d (g.set (c:Int).toNat (k:Int)):=by
 refine⟨by rw[a5O];exact h.len,fun c2 MG h2=>?_⟩;by_cases e:(c:Int).toNat=c2.toNat
 .obtain⟨q0,q1⟩:=MG;rw[<-e,a3k,a2w (by rw[h.len];omega)];exact hk
 rw[a3k,a1y e,<-a3k]at h2 ⊢;exact h.v c2 MG h2
theorem asB{d}(hJ:jr (bG [d])):GOk d (bG [d]).g:=⟨hJ.gl,hJ.gv⟩
abbrev jcF(d:Dg):List (PV aH):=[lI d.aj,lI d.aB,.own 0,.own 1,.fn 79 [] []]
abbrev hF(d:Dg)(g:LI0):List (PB aH):=[.list true true 26 [d],.list true true 3 g]
abbrev wFo(d:Dg)(v:V)(g:LI0)(c:Int)(x:List (Nat×PE aH)):bV aH:=⟨[(3,.loc 1 0),(6,.loc 2 0),(29,xL 3 d.aj),(30,xi d.aj.length),(31,xi c)]++x,[d.ps,v.ps,jcF d],hF d g⟩
abbrev wFi(d:Dg)(v:V)(g:LI0)(c:Int)(i:Int)(x:List (Nat×PE aH)):bV aH:=⟨[(3,.loc 1 0),(6,.loc 2 0),(8,xi c),(29,xL 3 d.aj),(30,xi d.aj.length),(31,xi c),(36,xi (d.aj.getD c.toNat 0)),(37,xi i)]++x,[d.ps,v.ps,jcF d],hF d g⟩
theorem af4{n f:Nat}{J k ex k2 Gz}(h:iW n (.fn 87 [] []) [.agg (J.ps (.fn f [] []))] [] (.map 0) [.map (kV.im (bD J))]):iW n (.fn 87 [] []) [a9F J f 0 1] [.list k ex 26 J.D,.list k2 Gz 3 J.g] (.map 2) [.list k ex 26 J.D,.list k2 Gz 3 J.g,.map (kV.im (bD J))]:=by have h1:=dK.frame hX (ks:=[]) (H':=[.gone,.gone]) (Hp:=[]) (Sv:=[.map (kV.im (bD J))]) (v':=.map 2) (fv':=.fn 87 [] []) (xs':=[.agg (J.ps (.fn f [] []))]) h (by decide) rfl rfl rfl rfl rfl rfl rfl;exact dK.lend hX (H:=[.list k ex 26 J.D,.list k2 Gz 3 J.g]) (cs:=[lI J.s,lI J.o,.own 0,.own 1]) (rest:=[.fn f [] []]) [0,1] h1 rfl (fun i hi=>by simpa[lN.kX,lN]using hi) rfl
def lkF(d:Dg)(v:V)(g:LI0):Int:=look (bD (jg d g)) v
def gIn(d:Dg)(v:V)(c:Nat)(k:Nat)(g:LI0):LI0⊕(LI0×Nat):=if decide (lkF d v (g.set (c:Int).toNat (k:Int))>0)=true then .inr (g.set (c:Int).toNat (k:Int),k)else .inl (g.set (c:Int).toNat (k:Int))
def oIn:LI0⊕(LI0×Nat)->LI0
 |.inl g=>g
 |.inr r=>r.1
def nIn(d:Dg)(c:Nat):Nat:=(d.aj.getD (c:Int).toNat 0).toNat
def a5x(d:Dg)(v:V)(c:Nat)(g:LI0):LI0:=oIn (lq (gIn d v c) (nIn d c) 0 g)
def zFi(d:Dg)(v:V)(c:Nat):LI0⊕(LI0×Nat)->Ex×bV aH
 |.inl g=>(.exit 3,wFi d v g (c:Int) (nIn d c) [(38,xl false)])
 |.inr (g,k)=>(.exit 2,wFi d v g (c:Int) k [(49,xl true)])
theorem a9M{d v c}:∀(m k) (g),k+m<=nIn d c->GOk d g->GOk d (oIn (lq (gIn d v c) m k g))
 | 0,_,g,_,h=>h
 |m+1,k,g,hk,h=>by
  have h1:GOk d (g.set (c:Int).toNat (k:Int)):=h.set (by unfold nIn at hk;omega);simp only[lq,gIn];by_cases e:decide (lkF d v (g.set (c:Int).toNat (k:Int))>0)=true
  .rw[a1e e];exact h1
  rw[a18 e];exact a9M m (k+1) _ (by omega) h1
section
variable{n:Nat}(hn:24<=n)(hO:∀ m,n-24<=m->Ok m qY){d:Dg}(hJ:jr (bG [d])){v:V}
include hn hO hJ
theorem lFi{c}(hc:c<d.aj.length){g}(hg:GOk d g):Lp n 28 1 (wFi d v g (c:Int) 0 []) (zFi d v c (lq (gIn d v c) (nIn d c) 0 g)).1 (zFi d v c (lq (gIn d v c) (nIn d c) 0 g)).2:=by
 have hz:=hJ.bQ.sz (d.aj.getD (c:Int).toNat 0) (dG (show(c:Int).toNat<d.aj.length by simpa using hc));have hN:((nIn d c:Nat):Int)=d.aj.getD (c:Int).toNat 0:=by unfold nIn;omega
 refine jo (st:=fun i g=>wFi d v g (c:Int) i []) (g:=gIn d v c) (out:=zFi d v c) (s0:=g) (fun k g=>GOk d g) (by kernel_rfl) (by unfold ah;omega) hg (fun k g m hk hi ih=>?_) (fun g _=>?_)
 .have t1:decide ((k:Int)<d.aj.getD (c:Int).toNat 0)=true:=by rw[<-hN,a1x];omega
  have hg2:GOk d (g.set (c:Int).toNat (k:Int)):=hi.set (by rw[<-hN];omega);have i1:gG (c:Int) g.length:=by rw[hi.len];exact aG hc
  have s2:=af4 (k:=true) (ex:=true) (k2:=true) (Gz:=true) (Rj (anp hJ hg2) (n:=n-2) (f:=79) (hO _ (by omega)) (show 0<[d].length by simp));rw[show n-2+2=n by omega]at s2;unfold gIn lkF;rcases JA (qO (jg d (g.set (c:Int).toNat (k:Int)))) v with hf|⟨hz2,hf⟩
  .exact aN gU (.b t1 (.o i1 (.fr [0,1] s2 (.c (.int .i64 (look (bD (jg d (g.set (c:Int).toNat (k:Int)))) v)) [] hf (.ls (.ouG [.gc [0,1]] nofun) (.nxG [.gc [0,1]] (ih _ hg2)))))))
  rw[hz2];exact aN gU (.b t1 (.o i1 (.fr [0,1] s2 (.a .calm (.o hf (.ls (.ouG [.gc [0,1]] nofun) (.nxG [.gc [0,1]] (ih _ hg2))))))))
 have t1:decide (((nIn d c:Nat):Int)<d.aj.getD (c:Int).toNat 0)=false:=by rw[<-hN];exact fC _
 exact aN gU (.b t1 (.ou nofun))
set_option maxRecDepth 20000 in
theorem lFo:Lp n 28 0 (wFo d v (bG [d]).g 0 []) (.exit 1) (wFo d v (aS (a5x d v) d.aj.length 0 (bG [d]).g) d.aj.length [(32,xl false)]):=by
 have hl:d.aj.length<=ah:=by have:d.aj.length<=6:=hJ.bQ.len;unfold ah;omega
 refine Qi (X:=X0) (N:=d.aj.length) (g:=a5x d v) (s0:=(bG [d]).g) (st:=fun c g=>wFo d v g c []) (fin:=fun g=>wFo d v g d.aj.length [(32,xl false)]) (fun _ g=>GOk d g) (by kernel_rfl) hl SB (asB hJ) (fun c g hc hg=>a9M (nIn d c) 0 g (by omega) hg) (fun c g hc hg m e p g9=>?_) (fun g _=>?_)
 .have lp:=lFi hn hO hJ (v:=v) hc hg;unfold a5x at g9;revert lp g9;rcases lq (gIn d v c) (nIn d c) 0 g with g1|⟨g1,k⟩
  .intro g9 lp;exact aN gU (.b (bg hc) (.o (aG hc) (.w lp (.go g9))))
  intro g9 lp;exact aN gU (.b (bg hc) (.o (aG hc) (.w lp (.go g9))))
 exact aN gU (.b (fC d.aj.length) .ex)
end
open Go Tw Pv bK
def JB(p:Dg×V):LI0×Int:=if(aW [p.1] != 0)=true then([],aW [p.1])else if(lu p.2 != 0)=true then([],4)else if(look (bD (bG [p.1])) p.2==0)=true then([],7)else(aS (a5x p.1 p.2) p.1.aj.length 0 (bG [p.1]).g,0)
def anq:gZ aH:=cu 28 (a2 dA vA) (dQ (a2 qC iA)) JB (fun p=>[kQ p.1]) acK
theorem rF(e):Fp (Γ:=X0.Γ) (Is (X:=X0) (P:=Qp) (dQ (a2 qC iA)) (([]:LI0),e)) .n (.ret (some (.dM [.nil .aO,.int .i64 e]))):=by have h:(dQ (a2 qC iA)).get (.dM [.nil .aO,.int .i64 e])=some (([]:LI0),e):=rfl;exact Fp.rn (X:=X0) (P:=Qp) _ h
theorem asE:Gd anq:=Good.adF 30 anh Jw af2 fun n hn hO Gx hO3 p hp=>by
 obtain⟨d,v⟩:=p;have h1:kQ d:=hp _ iE;obtain⟨n,rfl⟩:∃k,n=k+1:=⟨n-1,by omega⟩;have D5:=hO (n+1) (by omega);show nI X0 Qp _ _ _ ((dQ (a2 qC iA)).put (if(aW [d] != 0)=true then([],aW [d])else if(lu v != 0)=true then([],4)else if(look (bD (bG [d])) v==0)=true then([],7)else(aS (a5x d v) d.aj.length 0 (bG [d]).g,0))) _;cases e1:(aW [d] != 0)
 .cases e2:(lu v != 0)
  .have s1:=anf (n:=n) (by omega) (hO3 n (by omega)) (fun m hm=>Gx m (by omega)) h1 e1 e2;have hJ:jr (bG [d]):=tV (D:=[d]) (by simp) (by simp) (Zo h1) (by simpa using e1);have s2:=af4 (k:=true) (ex:=true) (k2:=true) (Gz:=true) (Rj hJ (n:=n-1) (f:=79) (Gx _ (by omega)) (show 0<[d].length by simp));rw[show n-1+2=n+1 by omega]at s2;have lp:=lFo (n:=n+1) (by omega) (fun m hm=>Gx m (by omega)) hJ (v:=v);show nI X0 Qp _ _ _ ((dQ (a2 qC iA)).put (if(look (bD (bG [d])) v==0)=true then([],7)else(aS (a5x d v) d.aj.length 0 (bG [d]).g,0))) _;rcases JA (qO (bG [d])) v with hf|⟨hz,hf⟩
   .exact aP D5 (.fr [] s1 (.b (rfl:((0:Int) != 0)=false) (.fr [0,1] s2 (.c (.int .i64 (look (bD (bG [d])) v)) [] hf (.ss (rF _) (.wG [.gc [0,1]] lp .rr))))))
   .rw[hz];exact aP D5 (.fr [] s1 (.b (rfl:((0:Int) != 0)=false) (.fr [0,1] s2 (.a .calm (.o hf (.ss (rF _) (.wG [.gc [0,1]] lp .rr)))))))
  .have s1:=ane (n:=n) (v:=v) (hO3 n (by omega)) h1 e1 e2;exact aP D5 (.fr [] s1 (.b (rfl:((4:Int) != 0)=true) (rF _)))
 .have s1:=anc (n:=n) (v:=v) (hO3 n (by omega)) h1 e1;exact aP D5 (.fr [] s1 (.b e1 (rF _)))
open Go Tw Pv bK
abbrev dz:List (PV aH):=[.nil .aO,.nil .aO,.nil .aO,.nil .aO,.int .i64 0]
abbrev cCh(s o:LI0):List (PV aH):=[lI s,lI o,.own 1,.aO 0 0 1 1 2 true,.int .i64 0]
abbrev hCh(c:Int)(x:List V×LI0):List (PB aH):=[.cells [.int .i64 c,.own 2],.list false false 39 x.1,.list false false 3 x.2]
abbrev wCh(s o:LI0)(c w n:Int)(y:List V×LI0)(i:Int)(x:List (Nat×PE aH)):bV aH:=⟨[(3,xi w),(8,.loc 0 0),(11,.loc 1 0),(47,xi n),(48,xi i)]++x,[dz,cCh s o],hCh c y⟩
def gCh(w:Int)(i:Nat)(y:List V×LI0):List V×LI0:=(y.1++[⟨0,i64.wrap (w+(i:Int))⟩],y.2++[i64.wrap (-1-(i:Int))])
def chE(w:Int)(n:Nat):List V:=(List.range n).map fun(i:Nat)=>(⟨0,i64.wrap (w+(i:Int))⟩:V)
def chK(n:Nat):LI0:=(List.range n).map fun(i:Nat)=>i64.wrap (-1-(i:Int))
theorem Zp(w):∀n,aS (gCh w) n 0 ([],[])=(chE w n,chK n)
 | 0=>rfl
 |n+1=>by rw[qK,Zp w n,a3L];unfold gCh chE chK;rw[abW,a4Q,a4Q];rfl
theorem lCh{n s o c w}{z:Nat}(hz:z<=12)(h0:s.getD c.toNat 0=(z:Int)):Lp n 57 0 (wCh s o c w (s.getD c.toNat 0) ([],[]) 0 []) (.exit 0) (wCh s o c w (s.getD c.toNat 0) (chE w z,chK z) z [(49,xl false)]):=by
 rw[<-Zp w z,h0];refine Qi (X:=X0) (N:=z) (g:=gCh w) (s0:=([],[])) (st:=fun i y=>wCh s o c w (z:Int) y i []) (fin:=fun y=>wCh s o c w (z:Int) y z [(49,xl false)]) (fun k y=>y.1.length=k/\y.2.length=k) (by kernel_rfl) (by unfold ah;omega) SB ⟨rfl,rfl⟩ (fun k y hk hi=>?_) (fun k y hk hi m e p g9=>?_) (fun y _=>?_)
 .unfold gCh;simp[hi.1,hi.2]
 .obtain⟨E,K⟩:=y;have a1:E.length+[(⟨0,i64.wrap (w+(k:Int))⟩:V)].length<=ah:=by rw[a4v];have:E.length=k:=hi.1;unfold ah;omega
  have a2:K.length+[i64.wrap (-1-(k:Int))].length<=ah:=by rw[a4v];have:K.length=k:=hi.2;unfold ah;omega
  exact aN gU (.b (bg hk) (.o a1 (.o a2 (.goG [.gc [0,4,6]] g9))))
 exact aN gU (.b (fC z) .ex)
def chD(s o:LI0)(c w:Int)(z:Nat):Dg:=⟨s,o,chE w z,[⟨c,chK z⟩],0⟩
theorem acM{n}(hO:Ok n a97){s o c y}(hd:let d:Dg:=⟨s,o,y.1,[⟨c,y.2⟩],0⟩;Dh d/\d.aj.length<=ah/\d.aB.length<=2^20/\d.aK.length<=ah/\(((bI d).2 != 0)=false->ClP (bI d).1)) :iW n (.fn 108 [] []) [.agg (cCh s o)] (hCh c y) ((dQ (a2 dA iA)).put (Am ⟨s,o,y.1,[⟨c,y.2⟩],0⟩)) [.gone,.gone,.gone]:=by
 obtain⟨h1,h2,h3,h4,h5⟩:=hd;have k0:iW n (.fn 108 [] []) [.agg (⟨s,o,y.1,[⟨c,y.2⟩],0⟩:Dg).ps] [] ((dQ (a2 dA iA)).put (Am ⟨s,o,y.1,[⟨c,y.2⟩],0⟩)) []:=nI.ND hX (first:=[]) (cap:=[]) (hO 108 [.agg (⟨s,o,y.1,[⟨c,y.2⟩],0⟩:Dg).ps] ((dQ (a2 dA iA)).put (Am ⟨s,o,y.1,[⟨c,y.2⟩],0⟩)) [] _ (by kernel_rfl) (fun p h=>by
  rcases a1E.1 h with rfl|h
  .exact h1
  rcases a1E.1 h with rfl|h
  .exact h2
  rcases a1E.1 h with rfl|h
  .exact h3
  rcases a1E.1 h with rfl|h
  .exact h4
  rw[a1D.1 h];exact h5)) rfl rfl rfl rfl
 have k1:=dK.frame hX (ks:=[]) (H':=[.gone,.gone,.gone]) (Hp:=[]) (Sv:=[]) (v':=(dQ (a2 dA iA)).put (Am ⟨s,o,y.1,[⟨c,y.2⟩],0⟩)) (fv':=.fn 108 [] []) (xs':=[.agg (⟨s,o,y.1,[⟨c,y.2⟩],0⟩:Dg).ps]) k0 (by decide) rfl rfl rfl rfl rfl rfl rfl;exact dK.cell1 hX (H:=hCh c y) (U3:=[lI s,lI o,.own 1]) (ws1:=[lI s,lI o,lV y.1]) (cs:=[.int .i64 c,.own 2]) (F8:=[.int .i64 0]) (ws2:=[.int .i64 0]) (i:=0) (e:=105) (sz:=2) (row:=(⟨c,y.2⟩:Br)) [1,2] rfl (by kernel_rfl) (by decide) rfl rfl k1 rfl rfl rfl (fun j hj=>by simp[lN.kX,lN]at hj ⊢;omega) (fun j hj=>by simp[lN.kX,lN]at hj ⊢;omega) (fun j hj=>by simp[lN.kX,lN]at hj)
open Go Tw Pv bK
theorem acN(w z):(chE w z).length=z:=by simp[chE]
theorem acO(z):(chK z).length=z:=by simp[chK]
structure ChP(s o:LI0)(c w:Int)(z:Nat):Prop where
 f:bn s o=0
 ic:gG c s.length
 ez:s.getD c.toNat 0=(z:Int)
 z12:z<=12
 w0:-9999<=w
 w1:w+z<=10000
section
variable{s o:LI0}{c w:Int}{z:Nat}(h:ChP s o c w z)
include h
theorem acP{v}(hv:v∈chE w z):∃j,j<z/\v=⟨0,w+(j:Int)⟩:=by unfold chE at hv;obtain⟨j,hj,rfl⟩:=a1w.1 hv;have:=a5m.1 hj;have:=h.w0;have:=h.w1;have:=h.z12;exact⟨j,by omega,by rw[wrap_small (by omega) (by omega)]⟩
theorem acQ{k}(hk:k<z):(chK z).getD k 0=-1-(k:Int):=by have:=h.z12;unfold chK;rw[a3k,a4V,aak hk];show i64.wrap (-1-(k:Int))=_;rw[wrap_small (by omega) (by omega)]
theorem ahU:∀v∈chE w z,Dk v:=fun v hv=>by obtain⟨j,hj,rfl⟩:=acP h hv;have:=h.w0;have:=h.w1;exact zi.2 ⟨by show(0:Int)<=0;omega,by show(0:Int)<=4;omega,fun _=>⟨by show -9999<=w+(j:Int);omega,by show w+(j:Int)<=9999;omega⟩,fun hz=>absurd rfl hz⟩
theorem anr:Dh (chD s o c w z):=⟨fun i hi k hk=>by
 have:i=0:=by have:i<1:=hi;omega
 subst this;have hk3:k<z:=by rw[<-acO z];exact hk
 show Hy ((chK z).getD k 0);rw[acQ h hk3,<-wrap_small (z:=-1-(k:Int)) (by have:=h.z12;omega) (by omega)];exact QZ _,by show Hy 0;rw[<-wrap_small (z:=0) (by omega) (by omega)];exact QZ _,fun v hv=>(ahU h v hv).2⟩
theorem acR:Dh (chD s o c w z)/\(chD s o c w z).aj.length<=ah/\(chD s o c w z).aB.length<=2^20/\(chD s o c w z).aK.length<=ah/\(((bI (chD s o c w z)).2 != 0)=false->ClP (bI (chD s o c w z)).1):=by
 obtain⟨bQ,ord⟩:=iT.1 h.f;have hr:=anr h;have h6:s.length<=6:=bQ.len;have RX:o.length=s.length:=by unfold kD at ord;rw[a1x]at ord;exact ord.1
 have hl:=acN w z;have hz:=h.z12;have e1:(chD s o c w z).aK.length+1<=ah:=by show(chE w z).length+1<=ah;rw[hl];unfold ah;omega
 have e2:(chD s o c w z).aj.length<=ah:=by show s.length<=ah;unfold ah;omega
 refine⟨hr,e2,by show o.length<=2^20;omega,by omega,fun h0=>?_⟩;obtain⟨q1,q2⟩:=yh hr e1 e2 (by show o.length<=ah;unfold ah;omega) (by simpa using h0);rw[q1];exact q2
end
def Ru(p:LI0×LI0×Int×Int):Dg×Int:=if(bn p.1 p.2.1 != 0)=true then(iJ,bn p.1 p.2.1)else if(!(Ov 0 (i64.wrap ((p.1.length:Int)-1)) p.2.2.1))=true then(iJ,3)else if(!(Ov (-9999) (i64.wrap (i64.wrap (9999-p.1.getD p.2.2.1.toNat 0)+1)) p.2.2.2))=true then(iJ,3)else Am (chD p.1 p.2.1 p.2.2.1 p.2.2.2 (p.1.getD p.2.2.1.toNat 0).toNat)
theorem ahV{a b x}(h:(!(Ov a b x))=false):a<=x/\x<=b:=by
 unfold Ov at h;by_cases h1:x>=a
 .simp[h1]at h;exact⟨h1,h⟩
 simp[h1]at h
theorem ahW{s o c w}(e1:(bn s o != 0)=false)(hc:gG c s.length)(e3:(!(Ov (-9999) (i64.wrap (i64.wrap (9999-s.getD c.toNat 0)+1)) w))=false):ChP s o c w (s.getD c.toNat 0).toNat:=by
 have f:bn s o=0:=by simpa using e1
 obtain⟨bQ,ord⟩:=iT.1 f;have hz:=bQ.sz (s.getD c.toNat 0) (dG (show c.toNat<s.length by obtain⟨a,b⟩:=hc;omega));obtain⟨z0,z1⟩:=hz;obtain⟨w0,w1⟩:=ahV e3;rw[wrap_small (z:=9999-s.getD c.toNat 0) (by omega) (by omega),wrap_small (by omega) (by omega)]at w1;exact⟨f,hc,by omega,by omega,w0,by omega⟩
def ahX:gZ aH:=cu 57 (a4 qC qC iA iA) (dQ (a2 dA iA)) Ru (fun p=>[p.1.length<=ah,p.2.1.length<=2^20]) anq
theorem asG:Gd ahX:=Good.Ye 0 asE aeO fun n hn hO Gx p hp=>by obtain⟨s,o,c,w⟩:=p;have h1:s.length<=ah:=hp _ iE;have h2:o.length<=2^20:=hp _ zq;have hc:(!(Ov 0 (i64.wrap ((s.length:Int)-1)) c))=false->gG c s.length:=fun e2=>a9A e2 h1;have hP:=fun(e1:(bn s o != 0)=false) (e2:(!(Ov 0 (i64.wrap ((s.length:Int)-1)) c))=false) (e3:(!(Ov (-9999) (i64.wrap (i64.wrap (9999-s.getD c.toNat 0)+1)) w))=false)=>ahW e1 (hc e2) e3;have lp:=fun(e1:(bn s o != 0)=false) (e2:(!(Ov 0 (i64.wrap ((s.length:Int)-1)) c))=false) (e3:(!(Ov (-9999) (i64.wrap (i64.wrap (9999-s.getD c.toNat 0)+1)) w))=false)=>lCh (n:=n) (s:=s) (o:=o) (c:=c) (w:=w) (hP e1 e2 e3).z12 (hP e1 e2 e3).ez;have s1:=fun(e1:(bn s o != 0)=false) (e2:(!(Ov 0 (i64.wrap ((s.length:Int)-1)) c))=false) (e3:(!(Ov (-9999) (i64.wrap (i64.wrap (9999-s.getD c.toNat 0)+1)) w))=false)=>acM (n:=n) (Gx n (by omega)) (s:=s) (o:=o) (c:=c) (y:=(chE w (s.getD c.toNat 0).toNat,chK (s.getD c.toNat 0).toNat)) (acR (hP e1 e2 e3));show nI X0 Qp _ _ _ ((dQ (a2 dA iA)).put (if(bn s o != 0)=true then(iJ,bn s o)else if(!(Ov 0 (i64.wrap ((s.length:Int)-1)) c))=true then(iJ,3)else if(!(Ov (-9999) (i64.wrap (i64.wrap (9999-s.getD c.toNat 0)+1)) w))=true then(iJ,3)else Am (chD s o c w (s.getD c.toNat 0).toNat))) _;exact aP (hO n (by omega)) (.o h1 (.o h2 (.sh (fun _=>rE _) fun e1=>.sh (fun _=>rE _) fun e2=>.o (hc e2) (.sh (fun _=>rE _) fun e3=>.a (.RH [] [] (.nil .aO) []) (.o (hc e2) (.wG [.a4k 1 2 39,.VD 0 1 3] (lp e1 e2 e3) (.fr [0,1,2] (s1 e1 e2 e3) .rr)))))))
open Go Tw Pv bK
structure a5y(d:Dg):Prop where
 t:D6 d
 n:d.au.length<=6000
 l:bC d=0
 f:wC d.aj
 o:d.aB.length<=ah
 e:d.aK.length<=ah
def gLs(d:Dg)(k:Nat)(l:List V):List V:=l++[kF d (fP d.aj k)]
theorem ahY(d):aS (gLs d) (uP d.aj) 0 []=cellsD d:=by have:=dh (g:=gLs d) (m:=uP d.aj) (k:=0) (s:=[]) (fun k l=>l=(List.range k).map fun(k:Nat)=>kF d (fP d.aj k)) rfl (fun j l _ _ e=>by rw[gLs,e,abW,a4Q];rfl);rw[a3L]at this;exact this
abbrev wLs(d:Dg)(y:List V)(i:Int)(x:List (Nat×PE aH)):bV aH:=⟨[(1,.loc 0 0),(3,.val (.own 0)),(4,xi i)]++x,[d.ps],[.list false false 39 y]⟩
theorem lLs{n}(hO:Ok n ahX)(d)(h:a5y d):Oi n 44 0 0 (wLs d [] 0 []) (.exit 0) (wLs d (cellsD d) (uP d.aj) [(12,xl false)]):=by
 have hs:d.aj.length<=ah:=by have:=h.f.len;unfold ah;omega
 have hc:uP d.aj<=ah:=by have:=h.f.uP;have:=h.f.adE;have:=h.f.many;unfold ah;omega
 rw[<-ahY d];refine wL (σ:=List V) (N:=uP d.aj) (g:=gLs d) (s0:=[]) (st:=fun i y=>wLs d y i []) (fin:=fun y=>wLs d y (uP d.aj) [(12,xl false)]) (fun k y=>y.length=k) (by kernel_rfl) hc rfl (fun j y hj hy=>by simp[gLs,hy]) (fun j y hj hy m e p g9=>?_) (fun y _=>?_)
 .have h2:y.length+[kF d (fP d.aj j)].length<=ah:=by rw[hy,a4v];omega
  exact aN hO (.o hs (.b (h.f.lt hj) (.o hs (.o h.f.sz (.o (show(0:Int)<=(j:Int) by omega) (.o (show(j:Int)<2^62 by unfold ah at hc;omega) (.o h.t (.o h.n (.o (uO (j:Int) h.f.sz) (.o h2 (.goG [.gc [2]] g9)))))))))))
 exact aN hO (.o hs (.b h.f.no .ex))
def anu:gZ aH:=cu 44 (a1 dA) vsA cellsD (fun d=>[a5y d]) ahX
theorem asH:Gd anu:=asG.add fun n hO p hp=>by
 have h:a5y p:=hp _ iE;have hb:(bC p != 0)=false:=by rw[h.l];rfl
 exact aP hO (.o h.o (.o h.e (.b hb (.wG [.IQ 3 39] (lLs (n:=n) hO p h) .rr))))
def anv:gZ aH:=cu 81 (a1 qC) qC (fun p=>p) (fun p=>[p.length<=ah]) anu
theorem asI:Gd anv:=asH.add fun n hO p hp=>aP hO (.o (hp _ iE) .rr)
def anw:gZ aH:=cu 82 (a1 vsA) vsA (fun p=>p) (fun p=>[p.length<=ah]) anv
theorem asJ:Gd anw:=asI.add fun n hO p hp=>aP hO (.o (hp _ iE) .rr)
def anx:gZ aH:=cu 56 (a1 qC) qC (fun p=>p) (fun p=>[p.length<=ah]) anw
theorem asK:Gd anx:=asJ.add fun n hO p hp=>aP hO (.o (hp _ iE) .rr)
def ahZ:gZ aH:=cu 48 (a1 iA) vA (fun p=>(⟨0,p⟩:V)) np anx
theorem asL:Gd ahZ:=asK.add fun n hO p hp=>aP hO .rr
open Go Tw Pv bK
structure JC(d:Dg):Prop where
 s:d.aj.length<=ah
 o:d.aB.length<=ah
 e:d.aK.length<=ah
 n:d.au.length<=ah
 k:∀b∈d.au,b.aA.length<=ah
abbrev ai0(a b:Dg)(i:Int)(x:List (Nat×PE aH)):bV aH:=⟨[(2,.loc 0 0),(3,.loc 1 0),(5,xi i)]++x,[a.ps,b.ps],[]⟩
def a9P(a b:Dg)(k:Nat):Bool:=if((a.au.getD k lH).var != (b.au.getD k lH).var)=true then true else !(decide ((a.au.getD k lH).aA=(b.au.getD k lH).aA))
def ai1(a b:Dg):Unit⊕Nat->Ex×bV aH
 |.inl _=>(.exit 0,ai0 a b a.au.length [(48,xl false)])
 |.inr _=>(.ret,⟨[(4,xl false)],[a.ps,b.ps],[]⟩)
theorem anz{n}(hO:Ok n ahZ){a b}(h:JC a)(hl:a.au.length=b.au.length):Lp n 72 0 (ai0 a b 0 []) (ai1 a b (bH (a9P a b) a.au.length)).1 (ai1 a b (bH (a9P a b) a.au.length)).2:=by
 refine jo (st:=fun i _=>ai0 a b i []) (g:=gS (a9P a b)) (out:=ai1 a b) (fun _ _=>True) (by kernel_rfl) h.n trivial (fun k u m hk _ ih=>?_) (fun _ _=>?_)
 .have i1:gG (k:Int) a.au.length:=aG hk;have i2:gG (k:Int) b.au.length:=aG (by omega);have h9:=h.k _ (cO (d:=lH) hk);unfold gS a9P;cases e1:((a.au.getD k lH).var != (b.au.getD k lH).var)
  .exact aN hO (.b (bg hk) (.o i1 (.o i2 (.b e1 (.o i1 (.o i2 (.o h9 (.ls (.ou nofun) (.nx (ih _ trivial))))))))))
  exact aN hO (.b (bg hk) (.o i1 (.o i2 (.b e1 (.ou nofun)))))
 exact aN hO (.b (fC a.au.length) (.ou nofun))
def anB(a b:Dg):Bool:=if(!(decide (a.aj=b.aj)))=true then false else if(!(decide (a.aB=b.aB)))=true then false else if(!(decide (a.aK=b.aK)))=true then false else if((a.au.length:Int) != (b.au.length:Int))=true then false else if(a.root != b.root)=true then false else if kC (bH (a9P a b) a.au.length)=true then true else false
def anC:gZ aH:=cu 72 (a2 dA dA) tA (fun p=>anB p.1 p.2) (fun p=>[JC p.1]) ahZ
theorem asM:Gd anC:=asL.add fun n hO p hp=>aP hO (.o (show JC p.1 from hp _ iE).s (.ss .rr (.o (show JC p.1 from hp _ iE).o (.ss .rr (.o (show JC p.1 from hp _ iE).e (.ss .rr (.sh (fun _=>.rr) fun h4=>.ss .rr (.zh (fun h=>.w (l7 (anz hO (show JC p.1 from hp _ iE) (show p.1.au.length=p.2.au.length by simp at h4;omega)) () h) .rr) fun h=>.w (l9 (anz hO (show JC p.1 from hp _ iE) (show p.1.au.length=p.2.au.length by simp at h4;omega)) 0 h) .rr))))))))
def anD:gZ aH:=cu 25 (a3 dA iA dA) tA (fun p=>(if(p.2.1==0)=true then anB p.1 p.2.2 else false)) (fun p=>[JC p.1]) anC
theorem asN:Gd anD:=asM.add fun n hO p hp=>aP hO (.ss (.o (hp _ iE) .rr) .rr)
def X3(s o:LI0):Bool:=if decide ((s.length:Int)>8)=true then false else if decide ((o.length:Int)>8)=true then false else if(bn s o != 0)=true then true else decide (Gv s<=200)
def ai2:gZ aH:=cu 54 (a2 qC qC) tA (fun p=>X3 p.1 p.2) np anD
theorem asO:Gd ai2:=asN.add fun n hO p hp=>aP hO (.sh (fun _=>.rr) fun h1=>.sh (fun _=>.rr) fun h2=>.o (show p.2.length<=ah by simp at h2;unfold ah;omega) (.ss .rr (.o (show p.1.length<=ah by simp at h1;unfold ah;omega) .rr)))
open Go Tw Pv bK
abbrev wCp(d:Dg)(acc:List Br)(i:Int)(x:List (Nat×PE aH)):bV aH:=⟨[(1,.loc 0 0),(2,.loc 1 0),(3,.loc 2 0),(4,xi i)]++x,[d.ps,[.nil .aO,.nil .aO,.nil .aO,.nil .aO,.int .i64 0],[lI d.aj,lI d.aB,lV d.aK,.own 0,.int .i64 d.root]],[.list false false 105 acc]⟩
theorem lCp{n d}(hO:Ok n ai2)(h:JC d):Lp n 21 0 (wCp d [] 0 []) (.exit 0) (wCp d d.au d.au.length [(21,xl false)]):=by
 have e:aS (fun k (a:List Br)=>a++[d.au.getD k lH]) d.au.length 0 []=d.au:=by rw[Qk,Fv d.au lH fun r=>r,List.map_id']
 rw[show wCp d d.au d.au.length [(21,xl false)]=wCp d (aS (fun k (a:List Br)=>a++[d.au.getD k lH]) d.au.length 0 []) d.au.length [(21,xl false)] by rw[e]];refine wL (σ:=List Br) (N:=d.au.length) (g:=fun k (a:List Br)=>a++[d.au.getD k lH]) (s0:=([]:List Br)) (st:=fun i a=>wCp d a i []) (fin:=fun a=>wCp d a d.au.length [(21,xl false)]) (fun k a=>a.length=k) (by kernel_rfl) h.n rfl (fun k a _ h=>by simp[h]) (fun k a hk ha m e p g9=>?_) (fun a _=>?_)
 .have hm:=h.k (d.au.getD k lH) (cO hk);have hn:=h.n;have hal:a.length+[d.au.getD k lH].length<=ah:=by have:a.length=k:=ha;rw[a4v];omega
  exact aN hO (.b (bg hk) (.o (aG hk) (.o (aG hk) (.o hm (.o hal (.goG [.gc [2]] g9))))))
 exact aN hO (.b (fC d.au.length) .ex)
def ai3:gZ aH:=cu 21 (a1 dA) dA (fun p=>p) (fun p=>[JC p]) ai2
theorem asP:Gd ai3:=asO.add fun n hO p hp=>aP hO (.o (show JC p from hp _ iE).s (.o (show JC p from hp _ iE).o (.o (show JC p from hp _ iE).e (.wG [.a4k 2 3 105] (lCp hO (hp _ iE)) .rr))))
abbrev wTh(d:Dg)(i:Int)(x:List (Nat×PE aH)):bV aH:=⟨[(1,.loc 0 0),(3,xi i)]++x,[d.ps],[]⟩
def cTh(d:Dg)(k:Nat):Bool:=decide (((d.au.getD k lH).aA.length:Int)>14)
def zTh(d:Dg):Unit⊕Nat->Ex×bV aH
 |.inl _=>(.exit 0,wTh d d.au.length [(26,xl false)])
 |.inr _=>(.ret,⟨[(2,xl false)],[d.ps],[]⟩)
theorem lTh{n}(hO:Ok n ai3){d}(h:d.au.length<=ah):Lp n 18 0 (wTh d 0 []) (zTh d (bH (cTh d) d.au.length)).1 (zTh d (bH (cTh d) d.au.length)).2:=by
 refine jo (st:=fun i _=>wTh d i []) (g:=gS (cTh d)) (out:=zTh d) (fun _ _=>True) (by kernel_rfl) h trivial (fun k u m hk _ ih=>?_) (fun _ _=>?_)
 .unfold gS cTh;exact aN hO (.b (bg hk) (.o (aG hk) (.ls (.ou nofun) (.nx (ih _ trivial)))))
 exact aN hO (.b (fC d.au.length) (.ou nofun))
def EJ(d:Dg):Bool:=if(!(X3 d.aj d.aB))=true then false else if decide ((d.aK.length:Int)>40)=true then false else if decide ((d.au.length:Int)>60)=true then false else if kC (bH (cTh d) d.au.length)=true then true else false
def anF:gZ aH:=cu 18 (a1 dA) tA (fun p=>EJ p) np ai3
theorem asT:Gd anF:=asP.add fun n hO p hp=>aP hO (.ss .rr (.ss .rr (.sh (fun _=>.rr) fun h3=>.zh (fun h=>.w (l7 (lTh hO (show p.au.length<=ah by simp at h3;unfold ah;omega)) () h) .rr) fun h=>.w (l9 (lTh hO (show p.au.length<=ah by simp at h3;unfold ah;omega)) 0 h) .rr)))
theorem EK{d}(h:EJ d=true):JC d/\d.aj.length<=8/\d.aB.length<=8/\d.aK.length<=40/\d.au.length<=60:=by
 unfold EJ at h;split at h
 .cases h
 rename_i h1;split at h
 .cases h
 rename_i h2;split at h
 .cases h
 rename_i h3;split at h
 .rename_i h4;have h1:X3 d.aj d.aB=true:=by simpa using h1
  unfold X3 at h1;split at h1
  .cases h1
  rename_i q1;split at h1
  .cases h1
  rename_i q2;simp at h2 h3 q1 q2;refine⟨⟨by unfold ah;omega,by unfold ah;omega,by unfold ah;omega,by unfold ah;omega,fun b hb=>?_⟩,by omega,by omega,by omega,by omega⟩;obtain⟨k,hk,e⟩:=a9L hb;have:=dL.1 h4 k hk;unfold cTh at this;rw[a3k,a0Q hk,a5V,e]at this;simp at this;unfold ah;omega
 cases h
open Go Tw Pv bK
def dX:Dg:=⟨[2,3],[0,1],[⟨0,1⟩,⟨0,2⟩],[⟨0,[-1,-2]⟩],0⟩
def dY:Dg:=⟨[2,3],[0,1],[⟨0,0⟩,⟨0,1⟩,⟨0,2⟩],[⟨1,[-1,-2,-3]⟩],0⟩
def cL(l:LI0):List V:=l.map fun n=>⟨0,n⟩
theorem a5z:Ru ([2,3],[0,1],0,1)=(dX,0):=by kernel_rfl
def dIf:Dg:=(Zm (dY,dX,dY)).1
theorem anG:(Zm (dY,dX,dY)).2=0/\iD dIf=0/\cellsD dIf=cL [0,1,1,0,2,2]:=⟨by kernel_rfl,by kernel_rfl,by kernel_rfl⟩
def dRs:Dg:=(Nh (dY,1,2)).1
theorem ai5:(Nh (dY,1,2)).2=0/\iD dRs=0/\cellsD dRs=cL [2,2,2,2,2,2]:=⟨by kernel_rfl,by kernel_rfl,by kernel_rfl⟩
def dWh:Dg:=(Aw dY).1
theorem a9Q:(Aw dY).2=0/\iD dWh=0/\cellsD dWh=cL [0,1,0,0,1,0]:=⟨by kernel_rfl,by kernel_rfl,by kernel_rfl⟩
theorem acS:EI (dY,⟨0,2⟩)=(2,0):=by kernel_rfl
theorem a9R:JB (dX,⟨0,2⟩)=([1,0],0):=by kernel_rfl
def I7:Dg:=(yj (10,dX,dY)).1
theorem ai6:(yj (10,dX,dY)).2=0:=by kernel_rfl
def dLe:Dg:=(yj (14,dX,dY)).1
theorem anH:(yj (14,dX,dY)).2=0:=by kernel_rfl
theorem acT:a3t ([dX,dY],dLe)=(⟨8,false,false,2,0,0,false,[0]⟩,0):=by kernel_rfl
def X4:List (V×Int):=bD (bG [I7,dX])
theorem anI:kL X4=[0,1]:=by
 have e:((X4.filter fun e=>!decide (e.1.f>0)).map fun e=>e.1.n)=[0,1]:=by kernel_rfl
 unfold kL;rw[e];unfold gu;exact List.mergeSort_of_pairwise (by simp)
theorem ai8:mY (4,I7,dX)=(⟨4,false,false,0,0,1,true,[]⟩,0):=by
 have e1:aW [I7,dX]=0:=by kernel_rfl
 have e2:uh X4=true:=by kernel_rfl
 have e3:X4≠[]:=by
  intro h;have h2:X4.length=0:=by rw[h];rfl
  have h3:X4.length=3:=by kernel_rfl
  omega
 show(if(aW [I7,dX] != 0)=true then(SN,aW [I7,dX])else zG 4 X4)=_;rw[e1];show zG 4 X4=_;unfold zG;rw[a18 e3];show(if kL X4=[]then _ else _)=_;rw[anI,e2];rfl
open Go Tw Pv bK
def ai9:gZ aH:=cu 73 agt (dQ (a2 dA dA)) (fun p=>(dX,dY)) np anF
theorem asU:Gd ai9:=asT.add fun n hO p hp=>aP hO .rr
abbrev anP(a:An):List (PV aH):=[.int .u8 a.q,.bool a.none,.bool a.yes,.int .i64 a.n,.int .i64 a.lo,.int .i64 a.hi,.bool a.fault,lI a.set,.nil .aO]
abbrev wSa(a b:An)(i:Int)(x:List (Nat×PE aH)):bV aH:=⟨[(2,.loc 0 0),(3,.loc 1 0),(5,xi i)]++x,[anP a,anP b],[]⟩
theorem lSa{n}(hO:Ok n ai9){a b}:Lp n 35 0 (wSa a b 0 []) (.exit 0) (wSa a b 0 [(74,xl false)]):=by have:=Qi (X:=X0) (P:=Qp) (T:=T) (L:=LL) (call:=iw n) (f:=35) (iy:=false) (nt:=Df Qp 35) (B:=0) (b:=Ua Qp 35 0) (σ:=Unit) (N:=0) (g:=fun _ s=>s) (s0:=()) (st:=fun i _=>wSa a b i []) (fin:=fun _=>wSa a b 0 [(74,xl false)]) (w:=wSa a b 0 []) (e:=.exit 0) (fun _ _=>True) (by kernel_rfl) (a5U _) SB trivial (fun _ _ _ _=>trivial) (fun k s hk=>absurd hk (aia _)) (fun s _=>aN hO (.b (rfl:decide ((0:Int)<0)=false) .ex));exact this
def acU(a b:An):Bool:=if(a.q != b.q)=true then false else if(!(a.none==b.none))=true then false else if(!(a.yes==b.yes))=true then false else if(a.n != b.n)=true then false else if(a.lo != b.lo)=true then false else if(a.hi != b.hi)=true then false else if(!(a.fault==b.fault))=true then false else if(!(decide (a.set=b.set)))=true then false else true
def aib:gZ aH:=cu 35 (a2 Xh Xh) tA (fun p=>acU p.1 p.2) (fun p=>[p.1.set.length<=ah]) ai9
theorem asV:Gd aib:=asU.add fun n hO p hp=>aP hO (.ss .rr (.ss .rr (.ss .rr (.ss .rr (.ss .rr (.ss .rr (.ss .rr (.o (hp _ iE) (.ss .rr (.b (rfl:((0:Int) != 0)=false) (.w (lSa (a:=p.1) (b:=p.2) hO) .rr)))))))))))
open Go Tw Pv bK
theorem JD{d}(ho:d.aB.length<=ah)(he:d.aK.length<=ah)(h:(iD d==0)=true):a5y d:=by
 have h:iD d=0:=by simpa using h
 have h0:bC d=0:=by
  unfold iD at h;split at h
  .rename_i c;rw[h]at c;cases c
  rename_i c;simpa using c
 obtain⟨t,n⟩:=jq ho he (by rw[h0];rfl);exact⟨t,n,h0,t.bQ,ho,he⟩
abbrev wLz(d:Dg)(e:Int)(l:LI0)(acc:List V)(i:Int)(x:List (Nat×PE aH)):bV aH:=⟨[(1,xi e),(2,xL 3 l),(3,.loc 0 0),(7,.val (.own 0)),(8,xi i)]++x,[d.ps],[.list false false 39 acc]⟩
theorem lLz{n}(hO:Ok n aib)(d e){l}(hl:l.length<=1000):Lp n 74 0 (wLz d e l [] 0 []) (.exit 0) (wLz d e l (cL l) l.length [(12,xl false)]):=by
 have e1:aS (fun k (a:List V)=>a++[(⟨0,l.getD k 0⟩:V)]) l.length 0 []=cL l:=by rw[Qk,Fv l 0 fun r=>(⟨0,r⟩:V)];rfl
 rw[<-e1];refine wL (σ:=List V) (N:=l.length) (g:=fun k (a:List V)=>a++[(⟨0,l.getD k 0⟩:V)]) (s0:=([]:List V)) (st:=fun i a=>wLz d e l a i []) (fin:=fun a=>wLz d e l a l.length [(12,xl false)]) (fun k a=>a.length=k) (by kernel_rfl) (by unfold ah;omega) rfl (fun k a _ h=>by simp[h]) (fun k a hk ha m e p g9=>?_) (fun a _=>?_)
 .have hal:a.length+[(⟨0,l.getD k 0⟩:V)].length<=ah:=by have:a.length=k:=ha;rw[a4v];unfold ah;omega
  exact aN hO (.b (bg hk) (.o (aG hk) (.o hal (.goG [.gc [2]] g9))))
 exact aN hO (.b (fC l.length) .ex)
def anK(p:Dg×Int×LI0):Bool:=if(p.2.1==0)=true then(if(iD p.1==0)=true then decide (cellsD p.1=cL p.2.2)else false)else false
def acV:gZ aH:=cu 74 (a3 dA iA qC) tA (fun p=>anK p) (fun p=>[p.1.aB.length<=ah,p.1.aK.length<=ah,p.2.2.length<=1000,(cellsD p.1).length<=ah]) aib
theorem asW:Gd acV:=asV.add fun n hO p hp=>aP hO (.wG [.IQ 7 39] (lLz hO p.1 p.2.1 (hp _ hh2)) (.ss (.o (hp _ iE) (.o (hp _ zq) (.sh (fun h=>.o (JD (hp _ iE) (hp _ zq) h) (.o (hp _ (.tail _ (.tail _ (.tail _ (.head _))))) .rr)) (fun _=>.rr)))) .rr))
open Go Tw Pv bK
theorem X5{d}(h:((d.au.all fun n=>n.aA.all fun k=>decide (-1000<=k)&&decide (k<=1000))&&(decide (-1000<=d.root)&&decide (d.root<=1000))&&(d.aK.all fun v=>decide (0<=v.f))&&(decide (d.aj.length<=100)&&decide (d.aB.length<=100)&&decide (d.aK.length<=100)))=true):kQ d:=by
 simp only[a2n,a1x,a5L]at h;obtain⟨⟨⟨h1,h2⟩,h3⟩,⟨h4,h5⟩,h6⟩:=h;refine⟨⟨fun i hi k hk=>?_,?_,h3⟩,by unfold ah;omega,by omega,by unfold ah;omega⟩
 .have h7:=h1 _ (cO (d:=(⟨0,[]⟩:Br)) hi) _ (cO (d:=(0:Int)) hk);show Hy ((fD d i).aA.getD k 0);unfold Hy;have h8:((d.au.getD i ⟨0,[]⟩).aA.getD k 0)=(fD d i).aA.getD k 0:=rfl;rw[h8]at h7;omega
 unfold Hy;omega
theorem pX:kQ dX:=X5 (by kernel_rfl)
theorem pY:kQ dY:=X5 (by kernel_rfl)
theorem a9S:kQ I7:=X5 (by kernel_rfl)
theorem pLe:kQ dLe:=X5 (by kernel_rfl)
abbrev dvA(d:Dg):PV aH:=(dQ (a2 dA iA)).put (d,0)
theorem aic:(dRs,(0:Int))=Nh (dY,1,2):=adA rfl ai5.1.symm
theorem a9T:(dWh,(0:Int))=Aw dY:=adA rfl a9Q.1.symm
theorem aie:(I7,(0:Int))=yj (10,dX,dY):=adA rfl ai6.symm
theorem anM:(dLe,(0:Int))=yj (14,dX,dY):=adA rfl anH.symm
section
variable{n:Nat}(hO:Ok n acV)
include hO
theorem anN:iW n (.fn 73 [] []) [] [] ((dQ (a2 dA dA)).put (dX,dY)) []:=
 sK hX hO (f:=73) (first:=[]) (xs:=[]) (cap:=[]) (vs:=[]) (v:=(dQ (a2 dA dA)).put (dX,dY)) (H:=[]) (ps:=[]) rfl (by kernel_rfl) (fun _ h=>by cases h) rfl
theorem acW{j k}:iW n (.fn 57 [] []) [.own 0,.own 1,.int .i64 0,.int .i64 1] [.list j k 3 ([2,3]:LI0),.list j k 3 ([0,1]:LI0)] (dvA dX) [.gone,.gone]:=by unfold dvA;rw[<-a5z];exact sK hX hO (f:=57) (first:=[]) (xs:=[.own 0,.own 1,.int .i64 0,.int .i64 1]) (cap:=[]) (vs:=[.dD 3 ([2,3]:LI0) false,.dD 3 ([0,1]:LI0) false,.int .i64 0,.int .i64 1]) (v:=(dQ (a2 dA iA)).put (Ru ([2,3],[0,1],0,1))) (H:=[.list j k 3 ([2,3]:LI0),.list j k 3 ([0,1]:LI0)]) (ps:=[([2,3]:LI0).length<=ah,([0,1]:LI0).length<=2^20]) rfl (by kernel_rfl) (by simp[ah]) rfl
theorem aIf:iW n (.fn 63 [] []) [.agg dY.ps,.agg dX.ps,.agg dY.ps] [] (dvA dIf) []:=by have e:(dIf,(0:Int))=Zm (dY,dX,dY):=adA rfl anG.1.symm;unfold dvA;rw[e];exact sK hX hO (f:=63) (first:=[]) (cap:=[]) (vs:=[.agg dY.ps,.agg dX.ps,.agg dY.ps]) (v:=(dQ (a2 dA iA)).put (Zm (dY,dX,dY))) (H:=[]) (ps:=[kQ dY,kQ dX,kQ dY]) rfl (by kernel_rfl) (by simp[pX,pY]) rfl
theorem asX:iW n (.fn 20 [] []) [.agg dY.ps,.int .i64 1,.int .i64 2] [] (dvA dRs) []:=by rw[show(dvA dRs:PV aH)=((dQ (a2 dA iA)).put (Nh (dY,1,2)))from by rw[<-aic]];exact sK hX hO (f:=20) (first:=[]) (xs:=[.agg dY.ps,.int .i64 1,.int .i64 2]) (cap:=[]) (vs:=[.agg dY.ps,.int .i64 1,.int .i64 2]) (v:=((dQ (a2 dA iA)).put (Nh (dY,1,2)))) (H:=[]) (ps:=[kQ dY]) rfl (by kernel_rfl) (by simp[pX,pY,a9S,pLe]) rfl
theorem aif:iW n (.fn 67 [] []) [.agg dY.ps] [] (dvA dWh) []:=by rw[show(dvA dWh:PV aH)=((dQ (a2 dA iA)).put (Aw dY))from by rw[<-a9T]];exact sK hX hO (f:=67) (first:=[]) (xs:=[.agg dY.ps]) (cap:=[]) (vs:=[.agg dY.ps]) (v:=((dQ (a2 dA iA)).put (Aw dY))) (H:=[]) (ps:=[kQ dY]) rfl (by kernel_rfl) (by simp[pX,pY,a9S,pLe]) rfl
theorem anO:iW n (.fn 27 [] []) [.agg dY.ps,.agg (⟨0,2⟩:V).ps] [] ((dQ (a2 iA iA)).put (2,0)) []:=by rw[show((dQ (a2 iA iA)).put (2,0):PV aH)=((dQ (a2 iA iA)).put (EI (dY,⟨0,2⟩)))from by rw[acS]];exact Oe hX hO (f:=27) (first:=[]) (xs:=[.agg dY.ps,.agg (⟨0,2⟩:V).ps]) (cap:=[]) (vs:=[.agg dY.ps,.agg (⟨0,2⟩:V).ps]) (v:=((dQ (a2 iA iA)).put (EI (dY,⟨0,2⟩)))) (H:=[]) (ps:=[kQ dY]) rfl (by kernel_rfl) (by simp[pY]) rfl
theorem aii:iW n (.fn 28 [] []) [.agg dX.ps,.agg (⟨0,2⟩:V).ps] [] ((dQ (a2 qC iA)).put ([1,0],0)) []:=by rw[show((dQ (a2 qC iA)).put ([1,0],0):PV aH)=((dQ (a2 qC iA)).put (JB (dX,⟨0,2⟩)))from by rw[a9R]];exact sK hX hO (f:=28) (first:=[]) (xs:=[.agg dX.ps,.agg (⟨0,2⟩:V).ps]) (cap:=[]) (vs:=[.agg dX.ps,.agg (⟨0,2⟩:V).ps]) (v:=((dQ (a2 qC iA)).put (JB (dX,⟨0,2⟩)))) (H:=[]) (ps:=[kQ dX]) rfl (by kernel_rfl) (by simp[pX]) rfl
theorem asY:iW n (.fn 62 [] []) [.int .u8 10,.agg dX.ps,.agg dY.ps] [] (dvA I7) []:=by rw[show(dvA I7:PV aH)=((dQ (a2 dA iA)).put (yj (10,dX,dY)))from by rw[<-aie]];exact sK hX hO (f:=62) (first:=[]) (xs:=[.int .u8 10,.agg dX.ps,.agg dY.ps]) (cap:=[]) (vs:=[.int .u8 10,.agg dX.ps,.agg dY.ps]) (v:=((dQ (a2 dA iA)).put (yj (10,dX,dY)))) (H:=[]) (ps:=[kQ dX,kQ dY]) rfl (by kernel_rfl) (by simp[pX,pY,a9S,pLe]) rfl
theorem aLe:iW n (.fn 62 [] []) [.int .u8 14,.agg dX.ps,.agg dY.ps] [] (dvA dLe) []:=by rw[show(dvA dLe:PV aH)=((dQ (a2 dA iA)).put (yj (14,dX,dY)))from by rw[<-anM]];exact sK hX hO (f:=62) (first:=[]) (xs:=[.int .u8 14,.agg dX.ps,.agg dY.ps]) (cap:=[]) (vs:=[.int .u8 14,.agg dX.ps,.agg dY.ps]) (v:=((dQ (a2 dA iA)).put (yj (14,dX,dY)))) (H:=[]) (ps:=[kQ dX,kQ dY]) rfl (by kernel_rfl) (by simp[pX,pY,a9S,pLe]) rfl
abbrev a9U:An:=⟨4,false,false,0,0,1,true,[]⟩
abbrev af8:An:=⟨8,false,false,2,0,0,false,[0]⟩
theorem asZ:iW n (.fn 33 [] []) [.int .u8 4,.agg I7.ps,.agg dX.ps] [] ((dQ (a2 Xh iA)).put (a9U,0)) []:=by rw[show((dQ (a2 Xh iA)).put (a9U,0):PV aH)=((dQ (a2 Xh iA)).put (mY (4,I7,dX)))from by rw[ai8]];exact sK hX hO (f:=33) (first:=[]) (xs:=[.int .u8 4,.agg I7.ps,.agg dX.ps]) (cap:=[]) (vs:=[.int .u8 4,.agg I7.ps,.agg dX.ps]) (v:=((dQ (a2 Xh iA)).put (mY (4,I7,dX)))) (H:=[]) (ps:=[kQ I7,kQ dX]) rfl (by kernel_rfl) (by simp[a9S,pX]) rfl
end
open Go Tw Pv bK
theorem anQ{n}(hn:24<=n)(D5:Ok n acK)(Gx:∀m,n-24<=m->Ok m qY){k}:iW (n+1) (.fn 39 [] []) [.own 0,.agg dLe.ps] [.list k true 26 [dX,dY]] ((dQ (a2 Xh iA)).put (af8,0)) [.list k true 26 [dX,dY]]:=by
 rw[<-acT];exact ano (l:=[dX,dY]) (d:=dLe) hn D5 Gx (fun x h=>by
  rcases a1E.1 h with rfl|h
  .exact pX
  rcases a1E.1 h with rfl|h
  .exact pY
  rw[a1D.1 h];exact pLe) (by show 2<=1000;omega)
theorem anR{n}(hO:Ok n acV):iW n (.fn 48 [] []) [.int .i64 2] [] (.agg (⟨0,2⟩:V).ps) []:=
 Oe hX hO (f:=48) (first:=[]) (xs:=[.int .i64 2]) (cap:=[]) (vs:=[.int .i64 2]) (v:=.agg (⟨0,2⟩:V).ps) (H:=[]) (ps:=[]) rfl (by kernel_rfl) (fun _ h=>by cases h) rfl
theorem UO{a b:Nat}(h:Nat.ble a b=true):a<=b:=ah4 h
theorem at6:JC dX:=⟨UO (by kernel_rfl),UO (by kernel_rfl),UO (by kernel_rfl),UO (by kernel_rfl),fun b h=>by rw[a1D.1 h];exact UO (by kernel_rfl)⟩
def anS:gZ aH:=cu 19 agt tA (fun _=>true) np acV
theorem at7:Gd anS:=Good.adF 25 asW anh Jw fun n hn hO Gx hO3 p hp=>by obtain⟨m,rfl⟩:∃m,n=m+1:=⟨n-1,by omega⟩;have CP:=hO (m+1) (by omega);exact aP CP (.fr [] (anN CP) (.fr [0,1] (acW CP (j:=true) (k:=true)) (.fr [] (aIf CP) (.fr [] (asX CP) (.fr [] (aif CP) (.fr [] (anR CP) (.fr [] (anO CP) (.fr [] (anR CP) (.fr [] (aii CP) (.fr [] (asY CP) (.fr [] (asZ CP) (.fr [] (aLe CP) (.fr [2] (anQ (k:=true) (by omega) (Gx m (by omega)) (fun k hk=>hO3 k (by omega))) (.o at6 (.b (c:=true) (t:=true) rfl (.o (UO (by kernel_rfl):dIf.aB.length<=ah) (.o (UO (by kernel_rfl):dIf.aK.length<=ah) (.o (UO (by kernel_rfl):([0,0,0,0,0,0]:LI0).length<=1000) (.o (UO (by kernel_rfl):(cellsD dIf).length<=ah) (.b (c:=true) (t:=true) rfl (.o (UO (by kernel_rfl):dRs.aB.length<=ah) (.o (UO (by kernel_rfl):dRs.aK.length<=ah) (.o (UO (by kernel_rfl):([0,0,0,0,0,0]:LI0).length<=1000) (.o (UO (by kernel_rfl):(cellsD dRs).length<=ah) (.b (c:=true) (t:=true) rfl (.o (UO (by kernel_rfl):dWh.aB.length<=ah) (.o (UO (by kernel_rfl):dWh.aK.length<=ah) (.o (UO (by kernel_rfl):([0,0,0,0,0,0]:LI0).length<=1000) (.o (UO (by kernel_rfl):(cellsD dWh).length<=ah) (.b (c:=true) (t:=true) rfl (.b (c:=true) (t:=true) rfl (.b (c:=true) (t:=true) rfl (.b (c:=true) (t:=true) rfl (.o (UO (by kernel_rfl):([1,0]:LI0).length<=ah) (.b (c:=true) (t:=true) rfl (.b (c:=true) (t:=true) rfl (.b (c:=true) (t:=true) rfl (.o (UO (by kernel_rfl):a9U.set.length<=ah) (.b (c:=true) (t:=true) rfl (.b (c:=true) (t:=true) rfl (.b (c:=true) (t:=true) rfl (.o (UO (by kernel_rfl):af8.set.length<=ah) .rr))))))))))))))))))))))))))))))))))))))))))
open Go Tw Pv bK
theorem ata:Dk V0:=⟨by decide,by decide⟩
theorem a3u{l:List V}(h:∀v∈l,Dk v)(i):Dk (l.getD i V0):=by
 by_cases c:i<l.length
 .exact h _ (cO c)
 rw[a3k,a4O (by omega)];exact ata
theorem Rx{d}(h:∀v∈d.aK,Dk v):∀v∈cellsD d,Dk v:=fun v hv=>by obtain⟨k,_,rfl⟩:=a1w.1 hv;exact a3u h _
theorem qP(d):(cellsD d).length=uP d.aj:=by simp[cellsD]
theorem aij{d}(h:iD d=0)(ho:d.aB.length<=ah)(he:d.aK.length<=ah):JC d:=by
 have l:=JD ho he (by rw[h];rfl);have h6:=l.f.len;have n6:=l.n;refine⟨by unfold ah;omega,ho,he,by unfold ah;omega,fun b hb=>?_⟩;obtain⟨i,hi,rfl⟩:=a9L hb;have:=l.t.L9 i hi;have e:fD d i=d.au[i]:=by show d.au.getD i lH=_;rw[a3k,a0Q hi,a5V]
 rw[e]at this;unfold ah;omega
structure DgF(d:Dg):Prop where
 r:Dh d
 k:iD d=0
 f:JC d
 e:d.aK.length<=2000
 o:d.aB.length=d.aj.length
 s:wC d.aj
theorem DgF.p{d}(h:DgF d):kQ d:=⟨h.r,h.f.s,by have:=h.o;have:=h.s.len;omega,by have:=h.e;unfold ah;omega⟩
theorem a9V{s o l}(h:OfP s o l)(hv:∀v∈l,Dk v):DgF (lJ s o l):=by obtain⟨h1,h2,_⟩:=I4 h fun v m=>(hv v m).1;obtain⟨r,k⟩:=ac9 h (fun v m=>(hv v m).1) fun v m=>(hv v m).2;have ho:=h.p.2.2;have h6:=h.bQ.len;exact⟨r,k,aij k (by show o.length<=ah;unfold ah;omega) (by unfold ah;omega),h2,ho,h.bQ⟩
theorem acX{J}(hJ:jr J){op}(jy:mX J op):DgF (tJ J op):=by rw[(Ju hJ jy).2];exact a9V ⟨hJ.bQ,hJ.ord,by rw[qP];show((uP J.s:Nat):Int)=_;exact hJ.bQ.VY⟩ (Rx (xg hJ jy).2.2)
theorem a3v{d}(h:kQ d):aW [d]=iD d:=by
 have e:(vC d).2=iD d:=by rw[Ew h.r h.s (by have:=h.o;unfold ah;omega) h.e]
 have f:([d].all (wM (([d].getD 0 iJ).aj,([d].getD 0 iJ).aB)))=true:=by simp[wM]
 unfold aW;rw[f];split
 .rename_i c;have:=dL.1 c 0 (by simp);have h0:iD d=0:=by unfold Z9 at this;rw[<-e];simpa using this
  rw[h0];rfl
 rename_i c;obtain⟨j,hj,_,_,e2⟩:=BD (by simpa using c);have e2:bH (Z9 [d]) [d].length=.inr j:=e2;rw[e2];have:j=0:=by have:j<1:=hj;omega
 subst this;exact e
theorem a9W{d}(h:EJ d=true)(r:Dh d):kQ d:=by obtain⟨f,h1,h2,h3,_⟩:=EK h;exact⟨r,f.s,by omega,by unfold ah;omega⟩
open Go Tw Pv bK
theorem Zq{t}(hn:(t.map (·.1)).Nodup)(v):look t v=dJ (ind v) t:=by
 unfold look;by_cases h:v∈t.map (·.1)
 .obtain⟨e,he,hv⟩:=a1w.1 h;obtain⟨e2,h2⟩:=a5Z.1 (List.find?_isSome (p:=fun e:V×Int=>decide (e.1=v)) |>.2 ⟨e,he,show decide (e.1=v)=true by simpa using hv⟩);have h3:e2.1=v:=by simpa using List.find?_some h2
  have:=BG hn (afu h2);rw[h3]at this;rw[h2,this];rfl
 rw[Jf h,aeW.2 fun e he=>by simp only[a1x];intro hv;exact h (a1w.2 ⟨e,he,hv⟩)]
 rfl
theorem I8(J v):look (bD J) v=((iH J).count v:Int):=by rw[Zq (qO J),EH,Yu]
theorem a5A{d g}:iH (jg d g)=(Jv (jg d g)).map (kF d):=by
 unfold iH Ri;rw[aei.2 (fun l hl=>by obtain⟨q,_,rfl⟩:=a1w.1 hl;rfl),a6q]
 rfl
theorem aik{d}(hJ:jr (bG [d])):Jv (bG [d])=(List.range (uP d.aj)).map fun(k:Nat)=>fP d.aj k:=by unfold Jv;refine aei.2 fun q hq=>?_;have hp:=(Oq hJ).1 hq;rw[a1x,WM hJ (sN hp)];intro k hk h0;exfalso;revert h0;show ¬0<=(List.replicate d.aj.length (-1:Int)).getD k 0;rw[a3k,aey,a1e (show k<d.aj.length from hk)];decide
theorem a5B{d}(hJ:jr (bG [d])):iH (bG [d])=cellsD d:=by have h:iH (bG [d])=(Jv (bG [d])).map (kF d):=a5A;rw[h,aik hJ,a6q];rfl
open Go Tw Pv bK
theorem a1f{v}:y9 v=vOk v:=by
 unfold y9 vOk nU;by_cases c:(v.f==0)=true
 .rw[a1e c,a1e c];rw[a5S];simp[wY,uQ]
 rw[a18 c,a18 c]
section
variable{d:Dg}(hJ:jr (bG [d])){v:V}
include hJ
variable{h:LI0}(h1:jR d.aj h=true)(h2:kF d h=v)(h3:∀ q,jR d.aj q=true->kF d q=v->jB d.aj h<=jB d.aj q)
include h1 in
include h1 h2 h3
end
open Go Tw Pv bK
def a3w(p:Dg×Dg):Bool:=if decide (p.1.aj=p.2.aj)=true then decide (p.1.aB=p.2.aB)else false
def acY:gZ aH:=cu 70 (a2 dA dA) tA (fun p=>a3w p) (fun p=>[p.1.aj.length<=ah,p.1.aB.length<=ah]) anS
theorem atb:Gd acY:=at7.add fun n hO p hp=>aP hO (.o (hp _ iE) (.ss (.o (hp _ zq) .rr) .rr))
theorem a9X(a b):a3w (a,b)=wM (a.aj,a.aB) b:=by
 unfold a3w wM;rw[a5S];by_cases h:a.aj=b.aj
 .by_cases h2:a.aB=b.aB
  .simp[h,h2]
  simp only[h,decide_true,a2p,a1x];exact⟨fun e=>absurd e h2,fun e=>absurd e.symm h2⟩
 have h3:¬b.aj=a.aj:=fun e=>h e.symm;simp[h,h3]
abbrev wCa(l:List Dg)(i:Int)(x:List (Nat×PE aH)):bV aH:=⟨[(0,xL 26 l),(3,xi i)]++x,[],[]⟩
abbrev wCb(l:List Dg)(i:Int)(x:List (Nat×PE aH)):bV aH:=⟨[(0,xL 26 l),(5,xi i)]++x,[],[]⟩
def Zr(l:List Dg)(k:Nat):Bool:=iD (l.getD k iJ) != 0
def cA2(l:List Dg)(k:Nat):Bool:=!(a3w (l.getD 0 iJ,l.getD k iJ))
def zA1(l:List Dg):Unit⊕Nat->Ex×bV aH
 |.inl _=>(.exit 0,wCa l l.length [(9,xl false)])
 |.inr k=>(.ret,⟨[(2,xi (iD (l.getD k iJ)))],[],[]⟩)
def zA2(l:List Dg):Unit⊕Nat->Ex×bV aH
 |.inl _=>(.exit 2,wCb l l.length [(23,xl false)])
 |.inr _=>(.ret,⟨[(2,xi 2)],[],[]⟩)
theorem lA1{n}(hO:Ok n acY){l}(hf:∀d∈l,JC d)(hl:l.length<=ah):Lp n 34 0 (wCa l 0 []) (zA1 l (bH (Zr l) l.length)).1 (zA1 l (bH (Zr l) l.length)).2:=by
 refine jo (st:=fun i _=>wCa l i []) (g:=gS (Zr l)) (out:=zA1 l) (fun _ _=>True) (by kernel_rfl) hl trivial (fun k u m hk _ ih=>?_) (fun _ _=>?_)
 .have h:=hf _ (cO (d:=iJ) hk);unfold gS Zr;exact aN hO (.b (bg hk) (.o (aG hk) (.o h.o (.o h.e (.ls (.ou nofun) (.nx (ih _ trivial)))))))
 exact aN hO (.b (fC l.length) (.ou nofun))
theorem lA2{n}(hO:Ok n acY){l}(hf:∀d∈l,JC d)(h0:0<l.length)(hl:l.length<=ah):Lp n 34 1 (wCb l 1 []) (zA2 l (lq (gS (cA2 l)) (l.length-1) 1 ())).1 (zA2 l (lq (gS (cA2 l)) (l.length-1) 1 ())).2:=by
 refine a2N (a:=1) (st:=fun i _=>wCb l i []) (g:=gS (cA2 l)) (out:=zA2 l) (fun _ _=>True) (by kernel_rfl) h0 hl trivial (fun k u m hk0 hk _ ih=>?_) (fun _ _=>?_)
 .have h:=hf _ (cO (d:=iJ) h0);unfold gS cA2;exact aN hO (.b (bg hk) (.o (aG h0) (.o (aG hk) (.o h.s (.o h.o (.ls (.ou nofun) (.nx (ih _ trivial))))))))
 exact aN hO (.b (fC l.length) (.ou nofun))
def LU(l:List Dg):Int:=match bH (Zr l) l.length with
 |.inr k=>iD (l.getD k iJ)
 |.inl _=>match lq (gS (cA2 l)) (l.length-1) 1 ()with
  |.inr _=>2
  |.inl _=>0
def anT:gZ aH:=cu 34 (a1 a4P) iA LU (fun l=>[∀d∈l,JC d,0<l.length/\l.length<=ah]) acY
theorem atg:Gd anT:=atb.add fun n hO l hp=>by
 have hf:∀d∈l,JC d:=hp _ iE;obtain⟨h0,hl⟩:0<l.length/\l.length<=ah:=hp _ zq;have lp:=lA1 hO hf hl;have lp2:=lA2 hO hf h0 hl;show nI X0 Qp _ _ _ (iA.put (match bH (Zr l) l.length with
  |.inr k=>iD (l.getD k iJ)
  |.inl _=>match lq (gS (cA2 l)) (l.length-1) 1 ()with
   |.inr _=>2
   |.inl _=>0)) _
 revert lp lp2;rcases bH (Zr l) l.length with _|k
 .rcases lq (gS (cA2 l)) (l.length-1) 1 ()with _|j
  .intro lp lp2;exact aP hO (.w lp (.w lp2 .rr))
  .intro lp lp2;exact aP hO (.w lp (.w lp2 .rr))
 .intro lp lp2;exact aP hO (.w lp .rr)
theorem a3x{l}(hp:∀d∈l,kQ d)(h0:0<l.length):LU l=aW l:=by
 have hd:l.getD 0 iJ∈l:=cO h0;have ec:∀k,k<l.length->(vC (l.getD k iJ)).2=iD (l.getD k iJ):=fun k hk=>by have h:=hp _ (cO (d:=iJ) hk);rw[Ew h.r h.s (by have:=h.o;unfold ah;omega) h.e]
 have eb:∀k,k<l.length->Z9 l k=Zr l k:=fun k hk=>by unfold Z9 Zr;rw[ec k hk]
 unfold LU aW;cases e1:kC (bH (Z9 l) l.length)
 .obtain⟨j,hj,h1,h2,h3⟩:=BD e1;have e2:kC (bH (Zr l) l.length)=false:=by
   cases e:kC (bH (Zr l) l.length)
   .rfl
   have:=dL.1 e j hj;rw[<-eb j hj,h1]at this;cases this
  obtain⟨i,hi,g1,g2,g3⟩:=BD e2;have:i=j:=by
   by_cases c:i<j
   .have:=h2 i c;rw[eb i hi,g1]at this;cases this
   by_cases c2:j<i
   .have:=g2 j c2;rw[<-eb j hj,h1]at this;cases this
   omega
  subst this;rw[g3,h3,a18 (by simp)];exact(ec i hi).symm
 have h1:=dL.1 e1;have e2:kC (bH (Zr l) l.length)=true:=dL.2 fun j hj=>by rw[<-eb j hj];exact h1 j hj
 rw[a1e rfl];rcases e3:bH (Zr l) l.length with u|k
 rotate_left
 .rw[e3]at e2;cases e2
 show(match lq (gS (cA2 l)) (l.length-1) 1 ()with
  |.inr _=>(2:Int)
  |.inl _=>0)=_
 have hs:wM ((l.getD 0 iJ).aj,(l.getD 0 iJ).aB) (l.getD 0 iJ)=true:=by simp[wM]
 rcases e4:lq (gS (cA2 l)) (l.length-1) 1 ()with u|j
 .have h2:=(Jd (r:=fun k=>k) (c:=cA2 l) (m:=l.length-1) (k:=1)).1 (by unfold gS at e4;rw[e4];rfl);rw[a18];rw[afi,abQ,a5L];intro d hd2;obtain⟨k,hk,rfl⟩:=a9L hd2;have ek:l[k]=l.getD k iJ:=by rw[a3k,a0Q hk,a5V]
  rw[ek];by_cases c:k=0
  .subst c;exact hs
  have:=h2 k (by omega) (by omega);unfold cA2 at this;rw[a9X]at this;simpa using this
 have h2:=Yh (r:=fun k=>k) (c:=cA2 l) (m:=l.length-1) (k:=1) (by unfold gS at e4;rw[e4];rfl);obtain⟨i,hi1,MC,h3,_⟩:=h2;rw[a1e];rw[a6A,List.all_eq_false];unfold cA2 at h3;rw[a9X]at h3;exact⟨l.getD i iJ,cO (by omega),by simpa using h3⟩
open Go Tw Pv bK
def Zt(p:Dg×Dg):Bool:=if EJ p.1=true then(if EJ p.2=true then(LU [p.1,p.2]==0)else false)else false
theorem acZ(a b:Dg):0<[a,b].length/\[a,b].length<=ah:=⟨by simp,by show 2<=ah;unfold ah;omega⟩
def ail:gZ aH:=cu 42 (a2 dA dA) tA (fun p=>Zt p) np anT
theorem ath:Gd ail:=atg.add fun n hO p hp=>aP hO (.sh (fun h1=>.sh (fun h2=>.o (EG (EK h1).1 (EK h2).1) (.o (acZ p.1 p.2) .rr)) fun _=>.rr) fun _=>.rr)
open Go Tw Pv bK
theorem a3y{s q}(hq:jR s q=true):ov (List.replicate s.length (-1)) q=q:=by
 have hl:=sN hq;refine(pz (d:=(0:Int)) (by simp[ov,afo,hl])).2 fun k hk=>?_;have kU:k<s.length:=by simp[ov,afo,hl]at hk;exact hk
 rw[LC (by rw[a7t,hl]),a1e (by rw[a7t];exact kU),a18];rw[a3k,aey,a1e kU];decide
theorem LV{D op}(hJ:jr (bG D)):BP (bG D) op=(List.range (uP (D.getD 0 iJ).aj)).map fun(k:Nat)=>op (D.map fun d=>kF d (fP (D.getD 0 iJ).aj k)):=by unfold BP;refine a5M fun k _=>?_;have h:ov (bG D).g (fP (bG D).s k)=fP (D.getD 0 iJ).aj k:=a3y (uO _ hJ.bQ.sz);rw[h];rfl
theorem a5D{J}(hJ:jr J){op}(jy:mX J op):∀v∈BP J op,Dk v:=by rw[<-UJ hJ jy];exact Rx (xg hJ jy).2.2
theorem a9Y{J}(hJ:jr J){op}(jy:mX J op):cellsD (tJ J op)=BP J op:=by rw[mk_eq hJ jy];exact QX ⟨hJ.bQ,hJ.ord,by unfold BP;rw[a4X,a6I];exact hJ.bQ.VY⟩ fun v m=>(a5D hJ jy v m).1
theorem anU{a b}(ha:kQ a)(hb:kQ b)(h:aW [a,b]=0){c}(hc:CQ c=true):jr (bG [a,b])/\mX (bG [a,b]) (Dc c):=by have h1:=EG (P:=kQ) ha hb;have hJ:=tV (D:=[a,b]) (by simp) (by simp) h1 h;exact⟨hJ,EF hJ (Jb.inD h1 h) fun l hl hv=>(a3r hc (hv _ (cO (show 0<l.length by rw[hl];exact Nat.zero_lt_two))) (hv _ (cO (show 1<l.length by rw[hl];exact Nat.one_lt_two)))).1⟩
open Go Tw Pv bK
theorem JE{J}(hJ:jr J){op}(jy:mX J op):(tJ J op).aj=J.s/\(tJ J op).aB=J.o:=by rw[mk_eq hJ jy];exact⟨rfl,rfl⟩
theorem ati{a}(ha:kQ a)(h:aW [a]=0){op}(ho:∀l,(∀v∈l,Dk v)->l.length=1->Dk (op l)):jr (bG [a])/\mX (bG [a]) op:=by have hJ:=tV (D:=[a]) (by simp) (by simp) (Zo ha) h;exact⟨hJ,EF hJ (Jb.inD (Zo ha) h) fun l hl hv=>ho l hv hl⟩
theorem UQ{l}(h:LU l=0):∀d∈l,iD d=0:=by
 have e:kC (bH (Zr l) l.length)=true:=by
  cases e:kC (bH (Zr l) l.length)
  .obtain⟨j,hj,h1,_,h3⟩:=BD e;unfold LU at h;rw[h3]at h;have h:iD (l.getD j iJ)=0:=h;unfold Zr at h1;rw[h]at h1;cases h1
  rfl
 intro d hd;obtain⟨k,hk,rfl⟩:=a9L hd;have:=dL.1 e k hk;unfold Zr at this;rw[a3k,a0Q hk,a5V]at this;simpa using this
theorem Vo{a b}(h:Zt (a,b)=true)(ra:Dh a)(rb:Dh b):(JC a/\JC b)/\(kQ a/\kQ b)/\aW [a,b]=0/\(a5y a/\a5y b)/\a.aj=b.aj/\a.aB=b.aB/\iD a=0/\iD b=0:=by
 unfold Zt at h;split at h
 .rename_i h1;split at h
  .rename_i h2;have h1:EJ a=true:=h1;have h2:EJ b=true:=h2;have fa:=(EK h1).1;have fb:=(EK h2).1;have pa:=a9W h1 ra;have pb:=a9W h2 rb;have hk:aW [a,b]=0:=by rw[<-a3x (EG pa pb) (by simp)];simpa using h
   have hg:=Rq (EG (P:=kQ) pa pb) hk;obtain⟨ga,_,_⟩:=hg a (by simp);obtain⟨gb,e1,e2⟩:=hg b (by simp);have hd:=UQ (l:=[a,b]) (by simpa using h);exact⟨⟨fa,fb⟩,⟨pa,pb⟩,hk,⟨JD fa.o fa.e (by rw[hd a (by simp)];rfl),JD fb.o fb.e (by rw[hd b (by simp)];rfl)⟩,e1.symm,e2.symm,hd a (by simp),hd b (by simp)⟩
  cases h
 cases h
open Go Tw Pv bK
theorem ad1(v):iU [v]=if decide (v=cZ)=true then cZ else V0:=by unfold iU mF;simp
theorem ad2{a b}(ha:DgF a)(hb:DgF b)(h1:a.aj=b.aj)(h2:a.aB=b.aB):aW [a,b]=0:=by
 have e:kC (bH (Z9 [a,b]) [a,b].length)=true:=dL.2 fun k hk=>by
  have hm:DgF ([a,b].getD k iJ):=by
   have:=cO (l:=[a,b]) (d:=iJ) hk;rcases a1E.1 this with e|e
   .rw[e];exact ha
   rw[a1D.1 e];exact hb
  have hp:=hm.p;unfold Z9;rw[Ew hp.r hp.s (by have:=hp.o;unfold ah;omega) hp.e];show(iD ([a,b].getD k iJ) != 0)=false;rw[hm.k];rfl
 unfold aW;rw[a1e e,a18];simp[wM,h1,h2]
theorem ain{d}(hp:kQ d)(h0:iD d=0){v}(hv:Dk v):EI (d,v)=(((cellsD d).count v:Int),0):=by
 have hk:aW [d]=0:=by rw[a3v hp];exact h0
 have hJ:jr (bG [d]):=tV (D:=[d]) (by simp) (by simp) (Zo hp) hk;show(if(aW [d] != 0)=true then((0:Int),aW [d])else if(lu v != 0)=true then(0,4)else(look (bD (bG [d])) v,0))=_;have ev:lu v=0:=by unfold lu;rw[a1f,hv.1];rfl
 rw[hk,ev,a18 (by simp),a18 (by simp),I8,a5B hJ]
open Go Tw Pv bK
def gCx(x y:List V)(k:Nat)(acc:List V):List V:=if decide (y.getD k V0=cZ)=true then acc++[x.getD k V0]else acc
def a9Z(x y:List V):List V:=aS (gCx x y) x.length 0 []
open Go Tw Pv bK
theorem Ry(x y):a9Z x y=((List.range x.length).filter fun k=>decide (y.getD k V0=cZ)).map fun k=>x.getD k V0:=by
 have:=dh (g:=gCx x y) (m:=x.length) (k:=0) (s:=[]) (fun k a=>a=((List.range k).filter fun k=>decide (y.getD k V0=cZ)).map fun k=>x.getD k V0) rfl (fun j a _ _ e=>by
  rw[abW,List.filter_append,a4Q,<-e];unfold gCx;by_cases c:decide (y.getD j V0=cZ)=true
  .rw[a1e c,(aei (l:=[j])).2 fun k hk=>by rw[a1D.1 hk];exact c];rfl
  rw[a18 c,(List.filter_eq_nil_iff (l:=[j])).2 fun k hk=>by rw[a1D.1 hk];exact c];simp)
 rw[a3L]at this;exact this
open Go Tw Pv bK
theorem LW{a b}(hJ:jr (bG [a,b]))(es:a.aj=b.aj):iH (bG [a,b])=a9Z (cellsD a) (cellsD b):=by
 have hp:Jv (bG [a,b])=(List.range (uP a.aj)).map fun(k:Nat)=>fP a.aj k:=by unfold Jv;refine aei.2 fun q hq=>?_;have hp:=(Oq hJ).1 hq;rw[a1x];exact a3y (s:=a.aj) hp
 have gx:∀k,k<uP a.aj->(cellsD a).getD k V0=kF a (fP a.aj (k:Int)):=fun k hk=>by unfold cellsD;rw[a3k,a4V,aak hk];rfl
 have gy:∀k,k<uP a.aj->(cellsD b).getD k V0=kF b (fP a.aj (k:Int)):=fun k hk=>by unfold cellsD;rw[a3k,a4V,aak (by rw[<-es];exact hk),<-es];rfl
 rw[Ry,qP];unfold iH Ri;rw[hp,a6q,List.filter_map,a6q];have e:(List.range (uP a.aj)).filter ((fun l:List V=>mF (l.drop 1))∘((fun q=>(bG [a,b]).D.map fun d=>kF d q)∘fun(k:Nat)=>fP a.aj (k:Int)))=(List.range (uP a.aj)).filter fun k=>decide ((cellsD b).getD k V0=cZ):=by refine List.filter_congr fun k hk=>?_;rw[gy k (a5m.1 hk)];show mF [kF b (fP a.aj (k:Int))]=_;simp[mF]
 rw[e];refine a5M fun k hk=>?_;rw[gx k (a5m.1 (a5X.1 hk).1)];rfl
section
variable{J:Jb}(hJ:jr J)(hc:∀ v∈iH J,Dk v)
theorem JF{J}(v):(∃e∈bD J,e.1=v)↔v∈iH J:=by
 have hn:=qO J;have hs:=Zq hn v;rw[I8]at hs;constructor
 .rintro⟨e,he,rfl⟩;have h1:=BG hn he;have h2:=(BH (iH J)).2 e ((oh WW (zD (iH J))).mem_iff.1 he);exact List.count_pos_iff.1 (by omega)
 intro hv;have h1:=List.count_pos_iff.2 hv;by_cases h:v∈(bD J).map (·.1)
 .obtain⟨e,he,h2⟩:=a1w.1 h;exact⟨e,he,h2⟩
 rw[Jf h]at hs;omega
include hc
theorem aa0:(kL (bD J)).Pairwise (·<·)/\∀x,x∈kL (bD J)↔∃v∈iH J,¬v.f>0/\v.n=x:=by
 have hn:=qO J;unfold kL gu;refine⟨?_,fun x=>?_⟩
 .have jD:((((bD J).filter fun e=>!decide (e.1.f>0)).map fun e=>e.1.n)).Nodup:=by rw[List.Nodup,adb];have h1:(bD J).Pairwise fun a b=>a.1≠b.1:=adb.1 hn;refine List.Pairwise.imp_of_mem (fun{a b} ha hb h e=>h ?_) (h1.filter _);obtain⟨a1,a2⟩:=a5X.1 ha;obtain⟨b1,b2⟩:=a5X.1 hb;have fa:=(hc a.1 ((JF a.1).1 ⟨a,a1,rfl⟩)).2;have fb:=(hc b.1 ((JF b.1).1 ⟨b,b1,rfl⟩)).2;have a2:¬a.1.f>0:=(by simpa using a2);have b2:¬b.1.f>0:=(by simpa using b2);have ef:a.1.f=b.1.f:=(by omega);obtain⟨⟨f1,n1⟩,_⟩:=a;obtain⟨⟨f2,n2⟩,_⟩:=b;have e:n1=n2:=e;have ef:f1=f2:=ef;rw[e,ef]
  have hsr:((((bD J).filter fun e=>!decide (e.1.f>0)).map fun e=>e.1.n).mergeSort fun x y=>decide (x<=y)).Pairwise (fun x y=>decide (x<=y)=true):=afY (fun a b c h1 h2=>by simp at h1 h2 ⊢;omega) (fun a b=>by simp;omega) _;have EC:=((aer (((bD J).filter fun e=>!decide (e.1.f>0)).map fun e=>e.1.n) fun x y=>decide (x<=y)).nodup_iff).2 jD;refine List.Pairwise.imp₂ (fun a b h1 h2=>?_) hsr EC;simp at h1;have h2:a≠b:=h2;omega
 rw[List.mem_mergeSort,a1w];constructor
 .rintro⟨e,he,rfl⟩;obtain⟨h1,h2⟩:=a5X.1 he;exact⟨e.1,(JF e.1).1 ⟨e,h1,rfl⟩,by simpa using h2,rfl⟩
 rintro⟨v,hv,h1,rfl⟩;obtain⟨e,he,rfl⟩:=(JF v).2 hv;exact⟨e,a5X.2 ⟨he,by simpa using h1⟩,rfl⟩
end
open Go Tw Pv bK
abbrev wCy(l acc:List Dg)(i:Int)(e:List (Nat×PE aH)):bV aH:=⟨[(0,xL 26 l),(3,.val (.own 0)),(4,xi i)]++e,[],[.list false false 26 acc]⟩
theorem lCy{n}(hO:Ok n ail){l}(hf:∀d∈l,JC d)(hl:l.length<=1000):Lp n 40 0 (wCy l [] 0 []) (.exit 0) (wCy l l l.length [(8,xl false)]):=by
 have e1:aS (fun k (a:List Dg)=>a++[l.getD k iJ]) l.length 0 []=l:=by rw[Qk,Fv l iJ fun r=>r,List.map_id']
 have:=wL (n:=n) (f:=40) (k:=0) (B:=0) (σ:=List Dg) (N:=l.length) (g:=fun k (a:List Dg)=>a++[l.getD k iJ]) (s0:=([]:List Dg)) (st:=fun i a=>wCy l a i []) (e:=.exit 0) (fin:=fun a=>wCy l a l.length [(8,xl false)]) (w:=wCy l [] 0 []) (fun k a=>a.length=k) (by kernel_rfl) (by unfold ah;omega) rfl (fun k a _ h=>by simp[h]) (fun k a hk ha m e p g9=>by
  have hal:a.length+[l.getD k iJ].length<=ah:=by have:a.length=k:=ha;rw[a4v];unfold ah;omega
  exact aN hO (.b (bg hk) (.o (aG hk) (.o (hf _ (cO (d:=iJ) hk)) (.o hal (.goG [.gc [2]] g9)))))
  ) (fun a _=>aN hO (.b (fC l.length) .ex))
 rw[e1]at this;exact this
def anX:gZ aH:=cu 40 (a1 a4P) a4P (fun p=>p) (fun p=>[∀d∈p,JC d,p.length<=1000]) ail
theorem atl:Gd anX:=ath.add fun n hO p hp=>aP hO (.wG [.IQ 3 26] (lCy hO (hp _ iE) (hp _ zq)) .rr)
open Go Tw Pv bK
abbrev ni5:List (PV aH):=[.nil .aO,.nil .aO,.nil .aO,.nil .aO,.int .i64 0]
open Go Tw Pv bK
theorem X6{d k}(hk:k<uP d.aj):(cellsD d).getD k V0=kF d (fP d.aj (k:Int)):=by unfold cellsD;rw[a3k,a4V,aak hk];rfl
open Go Tw Pv bK
theorem anY{d p F r}:Wq d p (F+1) r=if r<0 then r else Wq d p F ((ay d r).aA.getD (p.getD (ay d r).var.toNat 0).toNat 0):=rfl
open Go Tw Pv bK
theorem aio{d F r x}(h:r<0):bY d (F+1) r x=(i64.wrap (-1-(x.e.idxOf (oM d r):Nat)),⟨gK x.e (oM d r),x.n,x.k⟩):=by rw[bY,a1e (by simpa using h)]
theorem Zu(s o v):eP (FZ s o v)=FZ s o v:=by
 have e2:oM (FZ s o v) (-1)=v:=by
  show [v].getD (ji (-1)).toNat V0=v;have:ji (-1)=0:=by decide
  rw[this];rfl
 have e:bY (FZ s o v) 6002 (-1) ZE=(-1,⟨[v],[],[]⟩):=by rw[aio (F:=6001) (by decide),e2];rfl
 unfold eP;rw[show(FZ s o v).root=-1 from rfl,e]
theorem Zv{s o}(hf:bn s o=0){v}(hv:Dk v):FZ s o v=lJ s o (List.replicate (uP s) v):=by
 obtain⟨bQ,ord⟩:=iT.1 hf;have hl:=bQ.len;have RX:o.length=s.length:=by unfold kD at ord;rw[a1x]at ord;exact ord.1
 have h1:bC (FZ s o v)=0:=Ll (by show 1<=ah;unfold ah;omega) (by show(bn s o != 0)=false;rw[hf];rfl) (fun x hx=>by rw[a1D.1 hx];exact hv.1) (by show 0<=6000;omega) ⟨fun i hi=>absurd hi (aia _),fun i hi=>absurd hi (aia _),fun i hi=>absurd hi (aia _)⟩ ⟨fun _=>by
  have:ji (-1)=0:=by decide
  show gG (ji (-1)) 1;rw[this];exact⟨by omega,by omega⟩,by show(-1:Int)<0;omega,a5U _⟩
 have e:=(Jr h1 (by show o.length<=ah;unfold ah;omega) (by show 1<=ah;unfold ah;omega)).1;rw[Zu]at e;have ec:cellsD (FZ s o v)=List.replicate (uP s) v:=by
  refine(List.eq_replicate_iff).2 ⟨qP _,fun x hx=>?_⟩;obtain⟨k,_,rfl⟩:=a1w.1 hx;have a1:Wq (FZ s o v) (fP s (k:Int)) 6001 (-1)=-1:=by rw[anY (F:=6000),a1e (by omega)]
  show [v].getD (ji (Wq (FZ s o v) (fP s (k:Int)) 6001 (-1))).toNat V0=v;rw[a1];have:ji (-1)=0:=by decide
  rw[this];rfl
 rw[ec]at e;exact e
open Go Tw Pv bK
theorem X7{l}(hp:∀x∈l,kQ x)(hk:∀x∈l,iD x=0){s o}(hs:∀x∈l,x.aj=s/\x.aB=o)(h0:0<l.length):aW l=0:=by
 have e:kC (bH (Z9 l) l.length)=true:=dL.2 fun k kU=>by have hm:=cO (l:=l) (d:=iJ) kU;have h:=hp _ hm;unfold Z9;rw[Ew h.r h.s (by have:=h.o;unfold ah;omega) h.e];show(iD (l.getD k iJ) != 0)=false;rw[hk _ hm];rfl
 have h1:=hs _ (cO (l:=l) (d:=iJ) h0);have e2:(l.all (wM ((l.getD 0 iJ).aj,(l.getD 0 iJ).aB)))=true:=a5L.2 fun x hx=>by have h2:=hs x hx;rw[h1.1,h1.2];simp[wM,h2.1,h2.2]
 unfold aW;rw[a1e e,a18 (by rw[e2];simp)]
theorem ad3{x y}(h:x.length=y.length):(a9Z x y).length=y.count cZ:=by
 have e:(List.range y.length).map (fun k=>y.getD k V0)=y:=by have:=Fv y V0 (fun r=>r);rwa [List.map_id']at this
 rw[Ry,a4X,h]
 conv=>rhs;rw[<-e]
 rw[List.count,List.countP_map,List.countP_eq_length_filter];rfl
open Go Tw Pv bK
abbrev ad4(l:List Dg):List (PB aH):=[.list false false 26 l]
theorem a1g:dI Qp 26=some 5:=by kernel_rfl
theorem a1h(n h):Nr Qp T (iw n) LL 119 [.nil .aO] h=some (.nil .aO,h,[]):=by kernel_rfl
theorem a1i(n b off cap ex h):Nr Qp T (iw n) LL 119 [.aO b off 0 cap 5 ex] h=some (.aO h.length 0 0 0 5 true,h++[.cells .own []],[]):=by kernel_rfl
theorem ad5{n}:nI X0 Qp (iw (n+1)) 119 [.dD 26 ([]:List Dg) false] (.own 0) (ad4 []):=by
 intro A h first args cap Gl hv
 obtain⟨x,r,e,h1,h2⟩:=hv.inv;have:=h2.inv0;subst this;have hun:kW Qp T LL (n+1) (.fn 119 first cap) args h=Nr Qp T (iw n) LL 119 [x] h:=by rw[<-e];show kW Qp T LL (n+1) _ _ _=_;rw[kW,a18 (by decide),a18 (by decide)]
 rcases Yg h1 with rfl|⟨b,off,cap',sz,ex,cs,rfl,a1,a2,a3,a4,a5⟩
 .exact⟨.nil .aO,h,[.dD (.nil .aO)],by rw[<-a1h n h,<-hun],Jc Gl .nil rfl,.own rfl rfl,⟨a1l _,fun _ _ _=>rfl,fun b hb=>by simp[aZ,MB.own]at hb,fun b cs hc=>⟨cs,hc,a1l _⟩⟩⟩
 rw[a1g]at a3;cases a3;have hc:aU (h++[HB.cells .own []]) h.length=some []:=by unfold aU;rw[a1r (a1l _),afz];rfl
 refine⟨.aO h.length 0 0 0 5 true,h++[.cells .own []],[.dD (.aO h.length 0 0 0 5 true)],by rw[<-a1i n b off cap' ex h,<-hun],Jc (fun b hb=>Gl b (by simp at hb;omega)) (.emp ⟨Gl _ (a1l _),by simp[aZ,MB.own]⟩ hc (a1l _) a1g (by decide)) (by simp[MB.own]),.own rfl rfl,⟨by simp,fun b hb _=>by rw[a0U hb],fun b hb=>by simp[aZ,MB.own]at hb,fun b cs hc=>⟨cs,?_,a1l _⟩⟩⟩;rw[fE (a0U (fH hc)),hc]
def af9:gZ aH:=Yd 119 (a1 a4P) (fun _=>.own 0) (fun p=>ad4 p) (fun p=>[p.length<=ah]) anX
theorem anZ:Gd af9:=atl.Uc 0 fun n _ hO p hp=>by
 have hl:p.length<=ah:=hp _ iE;by_cases h:p=[]
 .subst h;exact ad5
 .have h2:([]:List Dg).length+p.length<=ah:=by simpa using hl
  exact nI.gs hX (Ad hX (hO n (by omega)) (v:=.own 1) (H:=[.gone,.list true false 26 p]) (by kernel_rfl) (.o h (.b aiC (.o h2 .er)))) [.gc [1],.flag 0] rfl
theorem X8{cs n}(h:cs.length=n):sub cs 0 n=some cs:=by unfold sub;rw[a1e (by omega)];simp[<-h]
section
variable{h:List HB}{vb:Nat}{e2:Bool}{kk2:BK}{F8:List TV}(q4:h[vb]? = some (.cells kk2 F8))(CZ:¬(kk2=.ro\/(kk2=.last/\0+1*5≠F8.length)))(hv5:F8.length=5)
include q4 CZ hv5
theorem aa1:Ny (.fn 118 [] []) [.nil .aO,.int .i64 0,.aO vb 0 1 1 5 e2] h=some (.aO h.length 0 1 1 5 false,h++[.cells .own F8],[]):=by rw[Ny,a1e rfl,q4];dsimp only;rw[a18 CZ,X8 hv5]
theorem aa2{b off}:Ny (.fn 118 [] []) [.aO b off 0 0 5 true,.int .i64 0,.aO vb 0 1 1 5 e2] h=some (.aO h.length 0 1 1 5 false,h++[.cells .own F8],[]):=by rw[Ny,a1e rfl,q4];dsimp only;rw[a18 CZ,X8 hv5];rfl
theorem a5E{b n ex k cs}(hn:n≠0)(hb:h[b]? = some (.cells k cs))(hc:k≠.ro/\0=0/\n=n/\cs.length=n*5/\n<=2^20/\vb≠b):Ny (.fn 118 [] []) [.aO b 0 n n 5 ex,.int .i64 0,.aO vb 0 1 1 5 e2] h=some (.aO b 0 (n+1) (n+1) 5 false,h.set b (.cells .last (F8++cs)),[b]):=by rw[Ny,a1e rfl,q4];dsimp only;rw[a18 CZ,X8 hv5];show(if n=0 then _ else _)=_;rw[a18 hn,hb];exact a1e hc
end
theorem atm{n k ex k2 Gz l a}(hl:l.length<=2^20):iW (n+1) (.fn 118 [] []) [.own 0,.int .i64 0,.own 1] [.list k ex 26 l,.list k2 Gz 26 [a]] (.own 2) [.gone,.list k2 Gz 26 [a],.list false false 26 (a::l)]:=by
 intro A m h tf rH hr hf hx;have htf:=hf.Qd;subst htf;obtain⟨y0,r0,rfl,v0,hx1⟩:=hx.inv;obtain⟨y1,r1,rfl,v1,hx2⟩:=hx1.inv;obtain⟨y2,r2,rfl,v2,hx3⟩:=hx2.inv;have e3:=hx3.inv0;subst e3;have e1:=KG v1;subst e1;clear hx hx1 hx2 hx3;obtain⟨mb0,g1,g2⟩:=hr.at_ 0 _ rfl;obtain⟨mb1,u1,u2⟩:=hr.at_ 1 _ rfl;cases mb1 with
 |dD z1=>
  have hz1:y2=z1:=by
   cases v2 with
   |own e _=>rw[u1]at e;cases e;rfl
   |gone hi e _=>simp only[bf,a09]at hi;subst hi;rw[u1]at e;cases e
  subst hz1;have u3:LR X0 Qp (AA A m) m h k2 Gz 26 [a] y2:=u2;cases u3 with
  |some q1 q2 q3 q4 q5 q6 q7 q8 q9=>
   rename_i vb sz2 e2 kk2 F8;rw[a1g]at q2;cases q2;have hv5:F8.length=5:=q8;have ao0:(MB.dD (TV.aO vb 0 [a].length [a].length 5 e2)).own=some vb:=by simp only[MB.own];rw[a18 (by simp)]
   have FX:=(a0x.1 q4).1;have call:∀y v h' ws,Ny (.fn 118 [] []) [y,.int .i64 0,.aO vb 0 1 1 5 e2] h=some (v,h',ws)->iw (n+1) (.fn 118 [] []) [y,.int .i64 0,.aO vb 0 1 1 5 e2] h=some (v,h',ws):=fun y v h' ws e=>by show kW Qp T LL (n+1) _ _ _=_;rw[kW,a1e (by decide)];exact e
   have CZ:¬(kk2=.ro\/(kk2=.last/\0+1*5≠F8.length)):=by
    rintro (e|⟨_,e⟩)
    .exact q5 e
    exact e (by omega)
   cases mb0 with
   |dD z0=>
    have hz0:y0=z0:=by
     cases v0 with
     |own e _=>rw[g1]at e;cases e;rfl
     |gone hi e _=>simp only[bf,a09]at hi;subst hi;rw[g1]at e;cases e
    subst hz0;have g3:LR X0 Qp (AA A m) m h k ex 26 l y0:=g2;have new:l=[]->Ny (.fn 118 [] []) [y0,.int .i64 0,.aO vb 0 1 1 5 e2] h=some (.aO h.length 0 1 1 5 false,h++[.cells .own F8],[])->∃w h1 ws m1,iw (n+1) (.fn 118 [] []) [y0,.int .i64 0,.aO vb 0 1 1 5 e2] h=some (w,h1,ws)/\HR X0 Qp A m1 [.gone,.list k2 Gz 26 [a],.list false false 26 (a::l)] h1/\VR X0 Qp (AA A m1) m1 h1 (.own 2) w/\Fr m h m1 h1/\Up m m1/\∀b∈ws,b∈aZ m:=fun qW e=>by subst qW;have hw:eG X0 Qp (FA A m [0]) (bW [0] m) h 26 [a] F8 0 5:=(q9.mono fun c hc=>.inl hc).jH hX;obtain⟨m1,f1,f2,f3,f4⟩:=kP hr [0] (k:=false) (ex:=false) (x:=false) hw q8 (by simp) a1g (by omega) (by simp);exact⟨_,_,_,m1,call _ _ _ _ e,f1,f4,f2,f3,fun b hb=>by cases hb⟩
    cases g3 with
    |nil=>exact new rfl (aa1 q4 CZ hv5)
    |emp p0 p1 p2 p3 p4=>
     rw[a1g]at p3;cases p3;exact new rfl (aa2 q4 CZ hv5)
    |some p1 p2 p3 p4 p5 p6 p7 p8 p9=>
     rename_i b sz e kk cs;rw[a1g]at p2;cases p2;have Xt:l.length≠0:=(by simpa using p1);have ru:(MB.dD (TV.aO b 0 l.length l.length 5 e)).own=some b:=by simp only[MB.own];rw[a18 Xt]
     have iI:vb≠b:=fun e0=>by subst e0;have:=jc hr.nodup g1 u1 ru ao0;omega
     have aQ:=(a0x.1 p4).1;have atn:Ny (.fn 118 [] []) [.aO b 0 l.length l.length 5 e,.int .i64 0,.aO vb 0 1 1 5 e2] h=some (.aO b 0 (l.length+1) (l.length+1) 5 false,h.set b (.cells .last (F8++cs)),[b]):=a5E q4 CZ hv5 Xt p4 ⟨p5,rfl,rfl,p8,hl,iI⟩;obtain⟨m1,f0,f1,f2,f3,f4⟩:=Hq (X:=X0) (P:=Qp) (pb:=.list false false 26 (a::l)) (h1:=h.set b (.cells .last (F8++cs))) (Ns:=.dD (.aO b 0 (l.length+1) (l.length+1) 5 false)) hr [] g1 ru
      (by simp only[MB.own];rw[a18 (by omega)]) (by simp) (fun d hd=>a1y (afJ hd)) (fun cs3 hc3=>⟨F8++cs,by simp[aU,aQ],by
       simp only[aU,p4,a09]at hc3;subst hc3;simp⟩) (fun hF hU=>by
       have:=LR.some (X:=X0) (P:=Qp) (A:=AA A (bW [0] m++[.dD (.aO b 0 (l.length+1) (l.length+1) 5 false)])) (m:=bW [0] m++[.dD (.aO b 0 (l.length+1) (l.length+1) 5 false)]) (h:=h.set b (.cells .last (F8++cs))) (k:=false) (ex:=false) (t:=26) (l:=[a]++l) (b:=b) (sz:=5) (e:=false) (kk:=.last) (cs:=F8++cs)
        (by simp) a1g (by omega) (by simp[aQ]) (by simp) (by simp) (by simp) (by rw[a1B,a1B,a3W,p8,q8]) ((q9.step hF hU).app (p9.step hF hU) q8)
       rw[show([a]++l).length=l.length+1 by simp]at this;exact this)
     exact⟨_,_,_,m1,call _ _ _ _ atn,f1,.own f4 rfl,f2,f3,fun d hd=>by rw[a1D.1 hd];exact aY g1 ru⟩
   |_=>exact g2.elim
 |_=>exact u2.elim
open Go Tw Pv bK
abbrev wBo(a:Dg)(l:List Dg)(i:Int)(e:List (Nat×PE aH)):bV aH:=⟨[(6,.loc 0 0),(9,.loc 1 0),(34,xL 26 l),(35,xi l.length),(36,xi i)]++e,[ni5,a.ps],[]⟩
def gBo(l:List Dg)(k:Nat)(a:Dg):Dg:=tJ (bG [a,l.getD k iJ]) iU
structure BoP(s o:LI0)(l:List Dg):Prop where
 p:∀x∈l,kQ x
 k:∀x∈l,iD x=0
 s:∀x∈l,x.aj=s/\x.aB=o
 n:l.length<=ah
structure BoI(s o:LI0)(a:Dg):Prop where
 f:DgF a
 s:a.aj=s
 o:a.aB=o
theorem BoP.chk{s o l}(h:BoP s o l){a}(ha:BoI s o a){k}(hk:k<l.length):aW [a,l.getD k iJ]=0/\∀x∈[a,l.getD k iJ],kQ x:=by have hm:=cO (l:=l) (d:=iJ) hk;exact⟨X7 (EG (P:=kQ) ha.f.p (h.p _ hm)) (EG (P:=fun x=>iD x=0) ha.f.k (h.k _ hm)) (EG (P:=fun x=>x.aj=s/\x.aB=o) ⟨ha.s,ha.o⟩ (h.s _ hm)) (by simp),EG (P:=kQ) ha.f.p (h.p _ hm)⟩
theorem BoP.j{s o l}(h:BoP s o l){a}(ha:BoI s o a){k}(hk:k<l.length):jr (bG [a,l.getD k iJ])/\mX (bG [a,l.getD k iJ]) iU:=by obtain⟨h1,h2⟩:=h.chk ha hk;exact⟨tV (D:=[a,l.getD k iJ]) (by simp) (by simp) h2 h1,fun t hd=>WZ _⟩
theorem BoP.step{s o l}(h:BoP s o l){a}(ha:BoI s o a){k}(hk:k<l.length):BoI s o (gBo l k a):=by
 obtain⟨h1,h2⟩:=h.j ha hk;refine⟨acX h1 h2,?_,?_⟩
 .unfold gBo;rw[mk_eq h1 h2];exact ha.s
 unfold gBo;rw[mk_eq h1 h2];exact ha.o
theorem lBo{n}(hn:24<=n)(Gx:∀m,n-24<=m->Ok m Gy)(hO3:∀m,n-24<=m->Ok m qY)(hO4:∀m,n-24<=m->Ok m UN){s o l}(h:BoP s o l){a}(ha:BoI s o a):Lp n 68 0 (wBo a l 0 []) (.exit 0) (wBo (aS (gBo l) l.length 0 a) l l.length [(37,xl false)]):=
 wL (n:=n) (f:=68) (k:=0) (B:=0) (σ:=Dg) (N:=l.length) (g:=gBo l) (s0:=a) (st:=fun i a=>wBo a l i []) (e:=.exit 0) (fin:=fun a=>wBo a l l.length [(37,xl false)]) (w:=wBo a l 0 []) (fun _ a=>BoI s o a) (by kernel_rfl) h.n ha (fun k a hk hi=>h.step hi hk) (fun k a hk hi m e p g9=>by
  have hi:BoI s o a:=hi;obtain⟨hJ,jy⟩:=h.j hi hk;have s1:=I5 (n:=n) (f:=117) (by omega) (fun m hm=>hO3 m (by omega)) (D:=[a,l.getD k iJ]) (by simp) hJ.bQ.len (k:=true) (ex:=true);have s2:=a3q (n:=n) (f:=117) hJ (op:=iU) jy (by omega) (fun m hm=>Gx m (by omega)) (fun m hm l hl=>aeZ (hO4 m (by omega)) (by rw[hl];exact a9D)) (k:=true) (ex:=true) (k2:=true) (Gz:=true);refine aN gU (.b (bg hk) (.o (aG hk) (.fr [0] s1 (.fr [0,1] s2 (.goG [.gc []] g9)))))) (fun a _=>by
  refine aN gU (.b (fC l.length) .ex))
def tX(p:LI0×LI0×List Dg):Dg×Int:=if(bn p.1 p.2.1 != 0)=true then(iJ,bn p.1 p.2.1)else if(aW (FZ p.1 p.2.1 cZ::p.2.2) != 0)=true then(iJ,aW (FZ p.1 p.2.1 cZ::p.2.2))else(aS (gBo p.2.2) p.2.2.length 0 (FZ p.1 p.2.1 cZ),0)
theorem a1j{s o}(h:bn s o=0):BoI s o (FZ s o cZ):=by obtain⟨bQ,ord⟩:=iT.1 h;refine⟨?_,rfl,rfl⟩;rw[Zv h FI];exact a9V ⟨bQ,ord,by rw[a7t];exact bQ.VY⟩ fun v hv=>by rw[List.eq_of_mem_replicate hv];exact FI
theorem afb{s o l}(hp:∀x∈FZ s o cZ::l,kQ x)(h0:aW (FZ s o cZ::l)=0)(hl:l.length<=ah):BoP s o l:=by have hz:=UQ (l:=FZ s o cZ::l) (by rw[a3x hp (by simp)];exact h0);have hk:=Rq hp h0;exact⟨fun x hx=>hp x (a3I _ hx),fun x hx=>hz x (a3I _ hx),fun x hx=>(hk x (a3I _ hx)).2,hl⟩
def ad7:gZ aH:=cu 68 (a3 qC qC a4P) (dQ (a2 dA iA)) tX (fun p=>[p.1.length<=ah,p.2.1.length<=ah,∀x∈p.2.2,kQ x,p.2.2.length<=1000]) af9
theorem ato:Gd ad7:=Good.a2G 25 anZ UG Jw Zl fun n hn hO Gx hO3 hO4 p hp=>by
 obtain⟨m,rfl⟩:∃m,n=m+1:=⟨n-1,by omega⟩;have CP:=hO (m+1) (by omega);obtain⟨s,o,l⟩:=p;have b1:s.length<=ah:=hp _ iE;have b2:o.length<=ah:=hp _ zq;have b3:o.length<=2^20:=b2;have hd:∀x∈l,kQ x:=hp _ hh2;have hl:l.length<=1000:=hp _ (.tail _ (.tail _ (.tail _ (.head _))));have X9:l.length<=ah:=by unfold ah;omega
 show nI X0 Qp _ _ _ ((dQ (a2 dA iA)).put (if(bn s o != 0)=true then(iJ,bn s o)else if(aW (FZ s o cZ::l) != 0)=true then(iJ,aW (FZ s o cZ::l))else(aS (gBo l) l.length 0 (FZ s o cZ),0))) _;cases e1:(bn s o != 0)
 .have h0:bn s o=0:=by simpa using e1
  have hI:=a1j h0;have hp2:∀x∈FZ s o cZ::l,kQ x:=fun x hx=>by
   rcases a1E.1 hx with rfl|hx
   .exact hI.f.p
   .exact hd x hx
  have h3:0<(FZ s o cZ::l).length/\(FZ s o cZ::l).length<=ah:=by rw[a4C];unfold ah;omega
  have s0:dK X0 Qp (iw (m+1)) (.fn 89 [] []) [] [] (.agg cZ.ps) []:=nI.ND hX (first:=[]) (cap:=[]) (CP 89 [] (vA.put cZ) [] [] (by kernel_rfl) (fun p h=>by cases h)) rfl rfl rfl rfl;have s1:dK X0 Qp (iw (m+1)) (.fn 107 [] []) [lI s,lI o,.agg cZ.ps] [] (.agg (FZ s o cZ).ps) []:=nI.ND hX (first:=[]) (cap:=[]) (xs:=[lI s,lI o,.agg cZ.ps]) (CP 107 [lI s,lI o,.agg cZ.ps] (dA.put (FZ s o cZ)) [] [s.length<=ah,o.length<=ah] (by kernel_rfl) (fun p h=>by
   rcases a1E.1 h with rfl|h
   .exact b1
   .rw[a1D.1 h];exact b2)) rfl rfl rfl rfl
  have s2:dK X0 Qp (iw (m+1)) (.fn 119 [] []) [.dD 26 l false] [] (.own 0) (ad4 l):=nI.a8y hX (CP 119 [.dD 26 l false] (.own 0) (ad4 l) [l.length<=ah] (by kernel_rfl) (aft.2 X9)) rfl rfl rfl rfl;have s3:=atm (n:=m) (k:=false) (ex:=false) (k2:=true) (Gz:=true) (l:=l) (a:=FZ s o cZ) (a5Y hl (by decide));cases e2:(aW (FZ s o cZ::l) != 0)
  .have lp:=lBo (n:=m+1) (by omega) (fun j hj=>Gx j (by omega)) (fun j hj=>hO3 j (by omega)) (fun j hj=>hO4 j (by omega)) (afb hp2 (by simpa using e2) X9) hI;exact aP CP (.o b1 (.o b3 (.b e1 (.fr [] s0 (.fr [] s1 (.fr [] s2 (.fr [0,1] s3 (.o hp2 (.o h3 (.b e2 (.wG [.gc []] lp .rr)))))))))))
  .exact aP CP (.o b1 (.o b3 (.b e1 (.fr [] s0 (.fr [] s1 (.fr [] s2 (.fr [0,1] s3 (.o hp2 (.o h3 (.b e2 (rE _)))))))))))
 .exact aP CP (.o b1 (.o b3 (.b e1 (rE _))))
open Go Tw Pv bK
def LX(b:Bool):V:=if b=true then cZ else V0
open Go Tw Pv bK
def gBi(l:List Dg)(p:LI0)(k:Nat)(b:Bool):Bool:=if b=true then decide (kF (l.getD k iJ) p=cZ)else false
def allM(l:List Dg)(p:LI0):Bool:=aS (gBi l p) l.length 0 true
def aa4(s:LI0)(l:List Dg):List V:=(List.range (uP s)).map fun(k:Nat)=>LX (allM l (fP s k))
open Go Tw Pv bK
theorem aa5(v):iU [v]=LX (decide (v=cZ)):=ad1 v
theorem aip(b v):iU [LX b,v]=LX (if b=true then decide (v=cZ)else false):=by
 unfold iU mF;cases b
 .have e:¬(V0=cZ):=by decide
  simp[LX,e]
 simp[LX]
theorem ao2{s o l}(h:BoP s o l)(h0:bn s o=0):aS (gBo l) l.length 0 (FZ s o cZ)=lJ s o (aa4 s l)/\BoI s o (lJ s o (aa4 s l)):=by
 obtain⟨bQ,ord⟩:=iT.1 h0;have vZ:∀b,Dk (LX b):=fun b=>by cases b;exact a9C;exact FI
 have cells:∀(f:Nat->Bool) (i:Nat),i<uP s->kF (lJ s o ((List.range (uP s)).map fun k=>LX (f k))) (fP s (i:Int))=LX (f i):=fun f i hi=>by have hO:OfP s o ((List.range (uP s)).map fun k=>LX (f k)):=⟨bQ,ord,by rw[a4X,a6I];exact bQ.VY⟩;rw[a3d hO (fun v hv=>by obtain⟨k,_,rfl⟩:=a1w.1 hv;exact(vZ _).1) (uO (i:Int) bQ.sz),Je bQ.sz (by omega) (by have:=bQ.VY;omega),a5R,a3k,a4V,aak hi];rfl
 have:=dh (g:=gBo l) (m:=l.length) (k:=0) (s:=FZ s o cZ) (fun k a=>BoI s o a/\a=lJ s o ((List.range (uP s)).map fun(i:Nat)=>LX (aS (gBi l (fP s i)) k 0 true))) ⟨a1j h0,by
  rw[Zv h0 FI];refine congrArg _ ?_;show List.replicate (uP s) cZ=(List.range (uP s)).map fun _=>cZ;rw[List.map_const',a6I]⟩ (fun k a _ hk hi=>by
  obtain⟨hI,e⟩:=hi;have hk:k<l.length:=by omega
  obtain⟨hJ,jy⟩:=h.j hI hk;refine⟨h.step hI hk,?_⟩;unfold gBo;rw[mk_eq hJ jy];show lJ a.aj a.aB (BP (bG [a,l.getD k iJ]) iU)=_;rw[hI.s,hI.o,LV hJ];refine congrArg _ ?_;show(List.range (uP a.aj)).map (fun(i:Nat)=>iU [kF a (fP a.aj i),kF (l.getD k iJ) (fP a.aj i)])=_;rw[hI.s];refine a5M fun i hi=>?_;have hi:=a5m.1 hi;have e2:kF a (fP s (i:Int))=LX (aS (gBi l (fP s i)) k 0 true):=by rw[e];exact cells (fun i=>aS (gBi l (fP s i)) k 0 true) i hi
  rw[e2,aip,qK,a3L];rfl)
 rw[a3L]at this;obtain⟨h1,h2⟩:=this;exact⟨h2,h2▸h1⟩
open Go Tw Pv bK
theorem a5F{d}(hp:kQ d)(h:iD d=0):lJ d.aj d.aB (cellsD d)=d/\OfP d.aj d.aB (cellsD d):=by
 have g:=a1c hp h;have hd:oL d=true:=by
  unfold iD at h;split at h
  .rename_i c;rw[h]at c;cases c
  split at h
  .cases h
  rename_i c;simpa using c
 have h1:=hp.o;have h2:=hp.e;have e:=(Lj g.t hp.r (by unfold ah at h2;omega) g.n).2 hd;obtain⟨c1,c2⟩:=Jr g.l0 (by unfold ah;omega) (by omega);exact⟨by rw[<-c1];exact e,c2⟩
theorem afc{D op}(hJ:jr (bG D))(hj:mX (bG D) op){k}(hk:k<uP (D.getD 0 iJ).aj):kF (tJ (bG D) op) (fP (D.getD 0 iJ).aj (k:Int))=op (D.map fun d=>kF d (fP (D.getD 0 iJ).aj (k:Int))):=by have e:=a9Y hJ hj;rw[LV hJ]at e;have h0:(tJ (bG D) op).aj=(D.getD 0 iJ).aj:=(JE hJ hj).1;have h1:=X6 (d:=tJ (bG D) op) (k:=k) (by rw[h0];exact hk);rw[e,h0,a3k,a4V,aak hk]at h1;exact h1.symm
theorem afd{D op}(hJ:jr (bG D))(hj:mX (bG D) op):tJ (bG D) op=lJ (D.getD 0 iJ).aj (D.getD 0 iJ).aB ((List.range (uP (D.getD 0 iJ).aj)).map fun(k:Nat)=>op (D.map fun d=>kF d (fP (D.getD 0 iJ).aj k))):=by rw[mk_eq hJ hj,LV hJ];rfl
abbrev W0(d:Dg):Dg:=tJ (bG [d]) iU
theorem aa6(x y):Dc 15 [LX x,LX y]=LX (if(if true=true then x else false)=true then y else false)/\Dc 15 [LX x,LX y]=Dc 15 [LX y,LX x]/\Dc 16 [LX x,LX y]=Dc 16 [LX y,LX x]:=by cases x<;>cases y<;>exact⟨by kernel_rfl,by kernel_rfl,by kernel_rfl⟩
structure rG(a b:Dg):Prop where
 pa:kQ a
 pb:kQ b
 ka:iD a=0
 kb:iD b=0
 s:a.aj=b.aj
 o:a.aB=b.aB
theorem SQ{a}(ha:kQ a)(ka:iD a=0):(DgF (W0 a)/\(W0 a).aj=a.aj/\(W0 a).aB=a.aB)/\(∀k,k<uP a.aj->kF (W0 a) (fP a.aj (k:Int))=LX (decide (kF a (fP a.aj (k:Int))=cZ)))/\W0 a=lJ a.aj a.aB ((List.range (uP a.aj)).map fun(k:Nat)=>LX (decide (kF a (fP a.aj k)=cZ))):=by
 obtain⟨ja,oa⟩:=ati ha (by rw[a3v ha];exact ka) (op:=iU) fun l _ _=>WZ l;refine⟨⟨acX ja oa,(JE ja oa).1,(JE ja oa).2⟩,fun k hk=>?_,?_⟩
 .have:=afc ja oa hk;rw[<-aa5];exact this
 have:=afd ja oa;refine this.trans (congrArg _ (a5M fun k _=>?_));rw[<-aa5];rfl
theorem rG.c{a b}(h:rG a b):aW [W0 a,W0 b]=0:=ad2 (SQ h.pa h.ka).1.1 (SQ h.pb h.kb).1.1 (by rw[(SQ h.pa h.ka).1.2.1,(SQ h.pb h.kb).1.2.1,h.s]) (by rw[(SQ h.pa h.ka).1.2.2,(SQ h.pb h.kb).1.2.2,h.o])
theorem rG.op{a b}(h:rG a b){c}(hc:CQ c=true):DgF (tJ (bG [W0 a,W0 b]) (Dc c))/\tJ (bG [W0 a,W0 b]) (Dc c)=lJ a.aj a.aB ((List.range (uP a.aj)).map fun(k:Nat)=>Dc c [LX (decide (kF a (fP a.aj k)=cZ)),LX (decide (kF b (fP a.aj k)=cZ))]):=by obtain⟨⟨fa,sa,oa⟩,ea,_⟩:=SQ h.pa h.ka;obtain⟨⟨fb,sb,ob⟩,eb,_⟩:=SQ h.pb h.kb;obtain⟨hJ,hj⟩:=anU fa.p fb.p h.c hc;refine⟨acX hJ hj,?_⟩;have e:=afd hJ hj;have e:tJ (bG [W0 a,W0 b]) (Dc c)=lJ (W0 a).aj (W0 a).aB ((List.range (uP (W0 a).aj)).map fun(k:Nat)=>Dc c [kF (W0 a) (fP (W0 a).aj k),kF (W0 b) (fP (W0 a).aj k)]):=e;rw[sa,oa]at e;refine e.trans (congrArg _ (a5M fun k hk=>?_));have hk:=a5m.1 hk;have e2:=eb k (by rw[<-h.s];exact hk);rw[<-h.s]at e2;rw[ea k hk,e2]
theorem rG.both{a b}(h:rG a b):tX (a.aj,a.aB,[a,b])=(tJ (bG [W0 a,W0 b]) (Dc 15),0):=by obtain⟨_,hO⟩:=a5F h.pa h.ka;have h0:bn a.aj a.aB=0:=iT.2 ⟨hO.bQ,hO.ord⟩;have hI:=a1j h0;have hp:=acI (P:=kQ) hI.f.p h.pa h.pb;have hc:aW (FZ a.aj a.aB cZ::[a,b])=0:=X7 hp (acI (P:=fun x=>iD x=0) hI.f.k h.ka h.kb) (acI (P:=fun x=>x.aj=a.aj/\x.aB=a.aB) ⟨hI.s,hI.o⟩ ⟨rfl,rfl⟩ ⟨h.s.symm,h.o.symm⟩) (by simp);obtain⟨e,_⟩:=ao2 (afb hp hc (show 2<=ah by decide)) h0;show(if(bn a.aj a.aB != 0)=true then _ else if(aW (FZ a.aj a.aB cZ::[a,b]) != 0)=true then _ else(aS (gBo [a,b]) [a,b].length 0 (FZ a.aj a.aB cZ),0))=_;rw[h0,a18 (by simp),hc,a18 (by simp),e,(h.op (c:=15) (by decide)).2];refine congrArg (fun x=>(lJ a.aj a.aB x,(0:Int))) (a5M fun k _=>?_);rw[(aa6 _ _).1];rfl
open Go Tw Pv bK
theorem aa7{l:LI0}(h:l.Pairwise (·<·)){x}(hx:x∈l):l.getD 0 0<=x/\x<=l.getD (l.length-1) 0:=by
 obtain⟨i,hi,rfl⟩:=a9L hx;have hp:=aao.1 h;rw[a3k,a0Q (by omega:0<l.length),a3k,a0Q (by omega:l.length-1<l.length)];simp only[a5V];constructor
 .by_cases e:i=0
  .subst e;exact a8Z _
  exact adC (hp 0 i (by omega) hi (by omega))
 by_cases e:i=l.length-1
 .subst e;exact a8Z _
 exact adC (hp i (l.length-1) hi (by omega) (by omega))
abbrev G5(d c:Dg):List V:=iH (bG [d,c])
abbrev Dl(d c:Dg):LI0:=kL (bD (bG [d,c]))
abbrev nfC(d c:Dg):Bool:=uh (bD (bG [d,c]))
structure rG.A(d c:Dg):Prop where
 j:jr (bG [d,c])
 cv:∀v∈G5 d c,Dk v
 n:(G5 d c).length=(cellsD c).count cZ
 k:aW [d,c]=0
 l:(G5 d c).length<=2000
theorem rG.a{d c}(h:rG d c):rG.A d c:=by
 have hp:=EG (P:=kQ) h.pa h.pb;have hk:aW [d,c]=0:=X7 hp (EG (P:=fun x=>iD x=0) h.ka h.kb) (EG (P:=fun x=>x.aj=d.aj/\x.aB=d.aB) ⟨rfl,rfl⟩ ⟨h.s.symm,h.o.symm⟩) (by simp);have hJ:jr (bG [d,c]):=tV (D:=[d,c]) (by simp) (by simp) hp hk;have g:=a1c h.pa h.ka;have e:=LW hJ h.s;have hl:(cellsD d).length=(cellsD c).length:=by rw[qP,qP,h.s]
 have hL:=JD (d:=d) (by have:=h.pa.o;unfold ah;omega) (by have:=h.pa.e;omega) (by rw[h.ka];rfl);have n:(G5 d c).length=(cellsD c).count cZ:=by show(iH _).length=_;rw[e];exact ad3 hl
 refine⟨hJ,fun v hv=>?_,n,hk,?_⟩
 .have hv:v∈iH (bG [d,c]):=hv;rw[e,Ry]at hv;obtain⟨k,_,rfl⟩:=a1w.1 hv;exact a3u (Rx g.c) k
 have:=List.count_le_length (a:=cZ) (l:=cellsD c);have h1:=hL.f.VY;have h2:=hL.f.many;rw[<-hl,qP]at this;omega
theorem aff{d c}(h:rG.A d c){q}(h1:1<=q)(h2:q<=5):mY (q,d,c)=zG q (bD (bG [d,c])):=by show(if(aW [d,c] != 0)=true then(SN,aW [d,c])else if decide (q<1)=true then(SN,2)else if decide (q>5)=true then(SN,2)else zG q (bD (bG [d,c])))=_;rw[h.k,a18 (by simp),a18 (by rw[a1x];omega),a18 (by rw[a1x];omega)]
theorem Rz{d c}(h:rG.A d c)(h0:G5 d c=[]){q}(h1:1<=q)(h2:q<=5):mY (q,d,c)=(⟨q,true,false,0,0,0,false,[]⟩,0):=by
 rw[aff h h1 h2];have e:bD (bG [d,c])=[]:=by unfold bD;have h0:iH (bG [d,c])=[]:=h0;rw[h0];rfl
 rw[e];rfl
theorem RD{d c}(h:rG.A d c)(h0:G5 d c≠[]){q}(h1:1<=q)(h2:q<=5):mY (q,d,c)=a3s q (bD (bG [d,c]))/\look (bD (bG [d,c])) cZ=((G5 d c).count cZ:Int)/\dJ (fun _=>1) (bD (bG [d,c]))=((G5 d c).length:Int):=by
 have et:dJ (fun _=>1) (bD (bG [d,c]))=((G5 d c).length:Int):=by rw[EH,Rt]
 refine⟨?_,I8 _ _,et⟩;rw[aff h h1 h2];unfold zG;rw[a18];intro e;rw[e]at et;have et:(0:Int)=((G5 d c).length:Int):=et;exact h0 (a6n.1 (by omega))
theorem ao3{d c}(h:rG.A d c)(h0:G5 d c≠[]):mY (1,d,c)=(⟨1,false,((G5 d c).count cZ:Int)==((G5 d c).length:Int),0,0,0,false,[]⟩,0):=by obtain⟨e,e1,e2⟩:=RD h h0 (q:=1) (by decide) (by decide);rw[e,<-e1,<-e2];rfl
theorem ao4{d c}(h:rG.A d c)(h0:G5 d c≠[]):mY (2,d,c)=(⟨2,false,decide (((G5 d c).count cZ:Int)>0),0,0,0,false,[]⟩,0):=by obtain⟨e,e1,_⟩:=RD h h0 (q:=2) (by decide) (by decide);rw[e,<-e1];rfl
theorem ao5{d c}(h:rG.A d c)(h0:G5 d c≠[]):mY (3,d,c)=(⟨3,false,false,((G5 d c).count cZ:Int),0,0,false,[]⟩,0):=by obtain⟨e,e1,_⟩:=RD h h0 (q:=3) (by decide) (by decide);rw[e,<-e1];rfl
theorem afg{d c}(h:rG.A d c):(Dl d c).length<=2000:=a9H (LQ h.j)
theorem ao6{d c}(h:rG.A d c)(h0:G5 d c≠[]):mY (4,d,c)=(if Dl d c=[]then(⟨4,true,false,0,0,0,nfC d c,[]⟩,0)else(⟨4,((Dl d c).length:Int)==0,false,0,(Dl d c).getD 0 0,(Dl d c).getD ((Dl d c).length-1) 0,nfC d c,[]⟩,0)):=by
 obtain⟨e,_⟩:=RD h h0 (q:=4) (by decide) (by decide);have hl:=afg h;rw[e];show(if Dl d c=[]then _ else((⟨4,((Dl d c).length:Int)==0,false,0,(Dl d c).getD 0 0,(Dl d c).getD (i64.wrap ((Dl d c).length-1)).toNat 0,nfC d c,[]⟩:An),(0:Int)))=_;by_cases c0:Dl d c=[]
 .rw[a1e c0,a1e c0]
 have h1:=aaj.2 c0;rw[a18 c0,a18 c0,wrap_small (by omega) (by omega),show(((Dl d c).length:Int)-1).toNat=(Dl d c).length-1 by omega]
theorem ao7{d c}(h:rG.A d c)(h0:G5 d c≠[]):mY (5,d,c)=(⟨5,false,false,0,0,0,nfC d c,Dl d c⟩,0):=by obtain⟨e,_⟩:=RD h h0 (q:=5) (by decide) (by decide);rw[e];rfl
abbrev uj(c m:Dg):Dg:=tJ (bG [W0 c,W0 m]) (Dc 15)
theorem a3z{d c m}(h:rG d c)(g:rG c m):rG d (uj c m)/\∀v∈G5 d (uj c m),v∈G5 d c:=by
 obtain⟨⟨fa,sa,oa⟩,ea,_⟩:=SQ g.pa g.ka;obtain⟨⟨fb,sb,ob⟩,eb,_⟩:=SQ g.pb g.kb;obtain⟨hJ,hj⟩:=anU fa.p fb.p g.c (c:=15) (by decide);have fF:DgF (uj c m):=acX hJ hj;obtain⟨s1,o1⟩:=JE hJ hj;have s1:(uj c m).aj=c.aj:=s1.trans sa;have o1:(uj c m).aB=c.aB:=o1.trans oa;have hF:rG d (uj c m):=⟨h.pa,fF.p,h.ka,fF.k,by rw[s1,h.s],by rw[o1,h.o]⟩;refine⟨hF,fun v hv=>?_⟩;have hv:v∈iH (bG [d,uj c m]):=hv;rw[LW hF.a.j hF.s,Ry]at hv;show v∈iH (bG [d,c]);rw[LW h.a.j h.s,Ry];obtain⟨k,hk,rfl⟩:=a1w.1 hv;obtain⟨h1,h2⟩:=a5X.1 hk;refine a1w.2 ⟨k,a5X.2 ⟨h1,?_⟩,rfl⟩;have h3:k<uP c.aj:=by have:=a5m.1 h1;rw[qP,h.s]at this;exact this
 rw[X6 (d:=uj c m) (by rw[s1];exact h3),s1]at h2;have e:=afc hJ hj (k:=k) (by show k<uP (W0 c).aj;rw[sa];exact h3);have e:kF (uj c m) (fP (W0 c).aj (k:Int))=Dc 15 [kF (W0 c) (fP (W0 c).aj (k:Int)),kF (W0 m) (fP (W0 c).aj (k:Int))]:=e;have e2:=eb k (by rw[<-g.s];exact h3);rw[<-g.s]at e2;rw[sa,ea k h3,e2,(aa6 _ _).1]at e;rw[e]at h2;rw[X6 h3];cases hc:decide (kF c (fP c.aj (k:Int))=cZ)
 .rw[hc]at h2;have h2:decide (V0=cZ)=true:=h2;exact absurd h2 (by decide)
 rfl
open Go Tw Pv bK
abbrev JG(d c:Dg):Int:=((G5 d c).length:Int)
abbrev cnC(d c:Dg):Int:=((G5 d c).count cZ:Int)
abbrev y1C(d c:Dg):Bool:=!(JG d c==0)&&(cnC d c==JG d c)
theorem Xa{d c}(h:rG.A d c):mY (1,d,c)=(⟨1,JG d c==0,y1C d c,0,0,0,false,[]⟩,0)/\mY (2,d,c)=(⟨2,JG d c==0,decide (cnC d c>0),0,0,0,false,[]⟩,0)/\mY (3,d,c)=(⟨3,JG d c==0,false,cnC d c,0,0,false,[]⟩,0)/\mY (4,d,c)=(⟨4,((Dl d c).length:Int)==0,false,0,(Dl d c).getD 0 0,(Dl d c).getD ((Dl d c).length-1) 0,nfC d c,[]⟩,0)/\mY (5,d,c)=(⟨5,JG d c==0,false,0,0,0,nfC d c,Dl d c⟩,0):=by
 by_cases h0:G5 d c=[]
 .have e:bD (bG [d,c])=[]:=by unfold bD;have h0:iH (bG [d,c])=[]:=h0;rw[h0];rfl
  have e1:Dl d c=[]:=by show kL (bD (bG [d,c]))=[];rw[e];unfold kL gu;simp
  have e2:nfC d c=false:=by show uh (bD (bG [d,c]))=false;rw[e];rfl
  have e3:JG d c=0:=by show((G5 d c).length:Int)=0;rw[h0];rfl
  have e4:cnC d c=0:=by show((G5 d c).count cZ:Int)=0;rw[h0];rfl
  rw[Rz h h0 (by decide) (by decide),Rz h h0 (by decide) (by decide),Rz h h0 (by decide) (by decide),Rz h h0 (by decide) (by decide),Rz h h0 (by decide) (by decide)];unfold y1C;rw[e1,e2,e3,e4];exact⟨rfl,rfl,rfl,rfl,rfl⟩
 have h1:=aaj.2 h0;have e3:(JG d c==0)=false:=bne (show((G5 d c).length:Int)≠0 by omega);rw[ao3 h h0,ao4 h h0,ao5 h h0,ao6 h h0,ao7 h h0];unfold y1C;rw[e3];refine⟨rfl,rfl,rfl,?_,rfl⟩;by_cases c0:Dl d c=[]
 .rw[a1e c0,c0];rfl
 rw[a18 c0]
structure AnR(d c:Dg):Prop where
 z1:(!((JG d c==0)==((((cellsD c).count cZ:Nat):Int)==0)))=false
 z2:y1C d c=true->(!(decide (cnC d c>0)))=false
 z3:decide ((((cellsD c).count cZ:Nat):Int)>0)=true->(!(y1C d c==(cnC d c==(((cellsD c).count cZ:Nat):Int))))=false
 z4:decide ((((cellsD c).count cZ:Nat):Int)>0)=false->(!(y1C d c==false))=false
 s:(Dl d c).Pairwise (·<·)
 l:(Dl d c).length<=2000
theorem rG.r{d c}(h:rG d c):AnR d c:=by
 have hA:=h.a;have e:(((cellsD c).count cZ:Nat):Int)=JG d c:=by rw[<-hA.n]
 refine⟨by rw[e];simp,fun hy=>?_,fun hn=>?_,fun hn=>?_,(aa0 hA.cv).1,afg hA⟩
 .have hy:(!(JG d c==0)&&(cnC d c==JG d c))=true:=hy;simp only[a2n,a6A,adH,a6x]at hy;have h1:0<=JG d c:=aiA _;have:cnC d c>0:=by omega
  simpa using this
 .rw[e]at hn ⊢;have hn:JG d c>0:=by simpa using hn
  have e3:(JG d c==0)=false:=bne (by omega);show(!((!(JG d c==0)&&(cnC d c==JG d c))==(cnC d c==JG d c)))=false;rw[e3];simp
 have h1:0<=JG d c:=aiA _;rw[e]at hn;have hn:¬JG d c>0:=by simpa using hn
 have e3:JG d c=0:=by omega
 show(!((!(JG d c==0)&&(cnC d c==JG d c))==false))=false;rw[e3];rfl
theorem aiq{d c m}(h:rG d c)(g:rG c m):(y1C d c=true->(mY (1,d,uj c m)).1.yes=false->(mY (1,d,uj c m)).1.none=true)/\((mY (4,d,uj c m)).1.none=false->(!(((Dl d c).length:Int)==0))=true/\decide ((mY (4,d,uj c m)).1.lo>=(Dl d c).getD 0 0)=true/\decide ((mY (4,d,uj c m)).1.hi<=(Dl d c).getD ((Dl d c).length-1) 0)=true):=by
 obtain⟨hF,hs⟩:=a3z h g;have hA:=h.a;have fA:=hF.a;obtain⟨q1,_,_,q4,_⟩:=Xa fA;rw[q1,q4];constructor
 .intro hy h2;have hy:(!(JG d c==0)&&(cnC d c==JG d c))=true:=hy;simp only[a2n,a6A,adH,a6x]at hy;have AY:(G5 d c).count cZ=(G5 d c).length:=by have h5:((G5 d c).count cZ:Int)=((G5 d c).length:Int):=hy.2;omega
  have AY:=List.count_eq_length.1 AY;have h3:(G5 d (uj c m)).count cZ=(G5 d (uj c m)).length:=List.count_eq_length.2 fun v hv=>AY v (hs v hv);have h2:(!(JG d (uj c m)==0)&&(cnC d (uj c m)==JG d (uj c m)))=false:=h2;rw[show cnC d (uj c m)=JG d (uj c m)from congrArg _ h3]at h2;simpa using h2
 intro h2;have h2:(((Dl d (uj c m)).length:Int)==0)=false:=h2;have h3:0<(Dl d (uj c m)).length:=by
  have h2:((Dl d (uj c m)).length:Int)≠0:=by simpa using h2
  omega
 obtain⟨s1,m1⟩:=aa0 hA.cv;obtain⟨s2,m2⟩:=aa0 fA.cv;have sub:∀x∈Dl d (uj c m),x∈Dl d c:=fun x hx=>by obtain⟨v,hv,r⟩:=(m2 x).1 hx;exact(m1 x).2 ⟨v,hs v hv,r⟩
 have g0:=sub _ (cO (d:=(0:Int)) h3);have g1:=sub _ (cO (d:=(0:Int)) (show(Dl d (uj c m)).length-1<_ by omega));have h4:=ag2 g0;refine⟨?_,?_,?_⟩
 .rw[bne (show((Dl d c).length:Int)≠0 by omega)];rfl
 .rw[a1x];exact(aa7 s1 g0).1
 rw[a1x];exact(aa7 s1 g1).2
open Go Tw Pv bK
abbrev wAn(d c m:Dg)(a1 a2 a3 a4 a5:An)(i:Int)(e:List (Nat×PE aH)):bV aH:=⟨[(3,.loc 0 0),(4,.loc 1 0),(5,.loc 2 0),(7,.loc 3 0),(13,.loc 6 0),(15,.loc 7 0),(19,xi i)]++e,[d.ps,c.ps,m.ps,anP a1,anP a2,anP a3,anP a4,anP a5],[]⟩
theorem lAn{n}(hO:Ok n ad7)(d c m a1 a2 a3 a4){a5}(hs:a5.set.Pairwise (·<·))(hl:a5.set.length<=2000):Lp n 15 0 (wAn d c m a1 a2 a3 a4 a5 1 []) (.exit 0) (wAn d c m a1 a2 a3 a4 a5 ((max 1 a5.set.length:Nat):Int) [(185,xl false)]):=by
 have hm:max 1 a5.set.length<=ah:=by unfold ah;omega
 refine a7U (X:=X0) (σ:=Unit) (ρ:=Empty) (a:=1) (N:=max 1 a5.set.length) (st:=fun i _=>wAn d c m a1 a2 a3 a4 a5 i []) (g:=fun _ u=>.inl u) (out:=fun _=>(.exit 0,wAn d c m a1 a2 a3 a4 a5 ((max 1 a5.set.length:Nat):Int) [(185,xl false)])) (s0:=()) (w:=wAn d c m a1 a2 a3 a4 a5 1 []) (fun _ _=>True) (by kernel_rfl) (Nat.le_max_left _ _) hm SB trivial (fun k u m' ak hk _ g9=>?_) (fun _ _=>?_)
 .have kU:k<a5.set.length:=by omega
  have ew:i64.wrap ((k:Int)-1)=((k-1:Nat):Int):=by rw[wrap_small (by omega) (by omega)];omega
  have i1:gG (i64.wrap ((k:Int)-1)) a5.set.length:=by rw[ew];exact aG (by omega)
  have t1:decide (a5.set.getD ((k:Int)).toNat 0<=a5.set.getD (i64.wrap ((k:Int)-1)).toNat 0)=false:=by rw[ew,a3G,a5R,a5R,a3k,a0Q kU,a3k,a0Q (show k-1<a5.set.length by omega)];have:=aao.1 hs (k-1) k (by omega) kU (by omega);simp only[a5V];omega
  exact aN hO (.b (bg kU) (.o (aG kU) (.o i1 (.b t1 (.go (g9 () trivial))))))
 have t1:decide (((max 1 a5.set.length:Nat):Int)<(a5.set.length:Int))=false:=by rw[a3G];omega
 show dP X0 Qp T (iw n) LL _ _ _ _ _ _ _ (.exit 0) (wAn d c m a1 a2 a3 a4 a5 ((max 1 a5.set.length:Nat):Int) [(185,xl false)]);exact aN hO (.b t1 .ex)
section
variable{n:Nat}(hO:Ok n ad7)
include hO
theorem aa8{q d c}(hd:kQ d)(hc:kQ c):iW n (.fn 33 [] []) [.int .u8 q,.agg d.ps,.agg c.ps] [] ((dQ (a2 Xh iA)).put (mY (q,d,c))) []:=
 nI.ND hX (first:=[]) (cap:=[]) (xs:=[.int .u8 q,.agg d.ps,.agg c.ps]) (hO 33 [.int .u8 q,.agg d.ps,.agg c.ps] ((dQ (a2 Xh iA)).put (mY (q,d,c))) [] [kQ d,kQ c] (by kernel_rfl) (fun p h=>by
  rcases a1E.1 h with rfl|h
  .exact hd
  .rw[a1D.1 h];exact hc)) rfl rfl rfl rfl
theorem eCp{d}(hf:JC d):iW n (.fn 21 [] []) [.agg d.ps] [] (.agg d.ps) []:=
 nI.ND hX (first:=[]) (cap:=[]) (xs:=[.agg d.ps]) (hO 21 [.agg d.ps] (.agg d.ps) [] [JC d] (by kernel_rfl) (fun p h=>by rw[a1D.1 h];exact hf)) rfl rfl rfl rfl
theorem eNu(k):iW n (.fn 48 [] []) [.int .i64 k] [] (.agg (⟨0,k⟩:V).ps) []:=
 nI.ND hX (first:=[]) (cap:=[]) (xs:=[.int .i64 k]) (hO 48 [.int .i64 k] (.agg (⟨0,k⟩:V).ps) [] [] (by kernel_rfl) (fun p h=>by cases h)) rfl rfl rfl rfl
theorem eMa{d v}(hp:kQ d):iW n (.fn 27 [] []) [.agg d.ps,.agg v.ps] [] ((dQ (a2 iA iA)).put (EI (d,v))) []:=
 nI.ND hX (first:=[]) (cap:=[]) (xs:=[.agg d.ps,.agg v.ps]) (hO 27 [.agg d.ps,.agg v.ps] ((dQ (a2 iA iA)).put (EI (d,v))) [] [kQ d] (by kernel_rfl) (fun p h=>by rw[a1D.1 h];exact hp)) rfl rfl rfl rfl
end
theorem yt{β}{r:Ar X0 Qp β}{t c}{a b:PT aH}{x y:OT (Option (PV aH))}(h1:c=true->Fp (Is r t) a x)(h2:c=false->Fp (Is r t) b y):Fp (Is r t) (.s a b) (.br c x y):=by
 have:=Fp.sh (t:=t) (e:=t) h1 h2
 rwa [ite_self]at this
def atp:gZ aH:=cu 15 (a3 dA dA dA) tA (fun _=>true) (fun p=>[Dh p.1/\Dh p.2.1/\Dh p.2.2]) ad7
theorem atq:Gd atp:=ato.add fun n hO p hp=>by
 obtain⟨d,c,m⟩:=p;obtain⟨rd,rc,rm⟩:Dh d/\Dh c/\Dh m:=hp _ iE;cases t1:(!(Zt (d,c)))
 .cases t2:(!(Zt (c,m)))
  .obtain⟨⟨fd,fc⟩,⟨pd,pc⟩,_,_,es,eo,kd,kc⟩:=Vo (by simpa using t1) rd rc;obtain⟨⟨_,fm⟩,⟨_,pm⟩,_,_,es2,eo2,_,km⟩:=Vo (by simpa using t2) rc rm;have h:rG d c:=⟨pd,pc,kd,kc,es,eo⟩;have g:rG c m:=⟨pc,pm,kc,km,es2,eo2⟩;obtain⟨q1,q2,q3,q4,q5⟩:=Xa h.a;obtain⟨z1,z2,z3,z4,hs,hl⟩:=h.r;obtain⟨st,l1⟩:=aiq h g;obtain⟨r1,_,_,r4,_⟩:=Xa (a3z h g).1.a;have e5:=g.both;have fF:DgF (uj c m):=(g.op (c:=15) (by decide)).1;have eB:(tX (c.aj,c.aB,[c,m])).1=uj c m:=(by rw[e5]);have b1:((tX (c.aj,c.aB,[c,m])).2 != 0)=false:=by rw[e5];rfl
   have f1:(tX (c.aj,c.aB,[c,m])).1.aB.length<=ah:=by rw[eB];exact fF.f.o
   have f2:(tX (c.aj,c.aB,[c,m])).1.aK.length<=ah:=by rw[eB];exact fF.f.e
   have k1:(iD (tX (c.aj,c.aB,[c,m])).1 != 0)=false:=by rw[eB,fF.k];rfl
   have F1:JC (tX (c.aj,c.aB,[c,m])).1:=by rw[eB];exact fF.f
   have P1:kQ (tX (c.aj,c.aB,[c,m])).1:=by rw[eB];exact fF.p
   have m1:((mY (1,d,(tX (c.aj,c.aB,[c,m])).1)).2==0)=true:=by rw[eB,r1];rfl
   have m4:((mY (4,d,(tX (c.aj,c.aB,[c,m])).1)).2==0)=true:=by rw[eB,r4];rfl
   rw[<-eB]at st l1;have qm:EI (c,⟨0,1⟩)=(((cellsD c).count cZ:Int),0):=ain pc kc FI;have sd:=eCp hO fd;have sc:=eCp hO fc;have a1:=aa8 hO (q:=1) pd pc;have a2:=aa8 hO (q:=2) pd pc;have a3:=aa8 hO (q:=3) pd pc;have a4:=aa8 hO (q:=4) pd pc;have a5:=aa8 hO (q:=5) pd pc;have sn:=eNu hO 1;have sM:=eMa hO (v:=⟨0,1⟩) pc;rw[q1]at a1;rw[q2]at a2;rw[q3]at a3;rw[q4]at a4;rw[q5]at a5;rw[qm]at sM;clear q1 q2 q3 q4 q5 r1 r4;generalize y1C d c=y1 at *;generalize (JG d c==0)=no at *;generalize cnC d c=c3 at *;generalize (((cellsD c).count cZ:Nat):Int)=N at *;generalize nfC d c=fa at *;generalize Dl d c=S at *;have lp:=lAn hO d c m ⟨1,no,y1,0,0,0,false,[]⟩ ⟨2,no,decide (c3>0),0,0,0,false,[]⟩ ⟨3,no,false,c3,0,0,false,[]⟩ ⟨4,(S.length:Int)==0,false,0,S.getD 0 0,S.getD (S.length-1) 0,fa,[]⟩ (a5:=⟨5,no,false,0,0,0,fa,S⟩) hs hl;have z:((0:Int) != 0)=false:=rfl;have nn:(!(no==no))=false:=(by simp);have z5:(!(decide (c3>0)==decide (c3>0)))=false:=(by simp);have z6:(!(((S.length:Int)==0)==((S.length:Int)==0)))=false:=(by simp);have ff:(!(fa==fa))=false:=(by simp);have i0:decide ((S.length:Int)>0)=true->gG 0 S.length:=fun e=>by rw[a1x]at e;exact⟨by omega,by omega⟩
   have ew:decide ((S.length:Int)>0)=true->i64.wrap ((S.length:Int)-1)=((S.length-1:Nat):Int):=fun e=>by rw[a1x]at e;rw[wrap_small (by omega) (by omega)];omega
   have i1:decide ((S.length:Int)>0)=true->gG (i64.wrap ((S.length:Int)-1)) S.length:=fun e=>by rw[ew e];rw[a1x]at e;exact aG (by omega)
   have v0:(S.getD (0:Int).toNat 0 != S.getD 0 0)=false:=(by simp);have v1:decide ((S.length:Int)>0)=true->(S.getD (i64.wrap ((S.length:Int)-1)).toNat 0 != S.getD (S.length-1) 0)=false:=fun e=>by rw[ew e,a5R];simp
   have fcm:=EG (P:=JC) fc fm;have pcm:=EG (P:=kQ) pc pm;have X9:[c,m].length<=1000:=(by decide:2<=1000);exact aP hO (.b t1 (.b t2 (.fr [] sd (.fr [] sc (.fr [] a1 (.fr [] sd (.fr [] sc (.fr [] a2 (.fr [] sd (.fr [] sc (.fr [] a3 (.fr [] sd (.fr [] sc (.fr [] a4 (.fr [] sd (.fr [] sc (.fr [] a5 (.fr [] sc (.fr [] sn (.fr [] sM (.b z (.b z (.b z (.b z (.b z (.b z (.b z1 (.b nn (.b nn (.b nn (yt (fun e=>.b (z2 e) (yt (fun e=>.b (z3 e) (.b z5 (.b z6 (.b ff (.w lp (yt (fun e=>(.o (i0 e) (.b v0 (.o (i1 e) (.b (v1 e) (.o fc.s (.o fc.o (.o fcm (.o X9 (.o fc.s (.o fc.o (.o pcm (.o X9 (.b b1 (.o f1 (.o f2 (.b k1 (.o fd (.o F1 (.o pd (.o P1 (.o fd (.o pd (.o P1 (.b m1 (.b m4 (yt (fun _=>(yt (fun _=>.rr) (fun e=>.b (l1 e).1 (.b (l1 e).2.1 (.b (l1 e).2.2 .rr))))) (fun(e0:(!y1)=false)=>yt (fun _=>(yt (fun _=>.rr) (fun e=>.b (l1 e).1 (.b (l1 e).2.1 (.b (l1 e).2.2 .rr))))) (fun e2=>.b (st (by simpa using e0) e2) (yt (fun _=>.rr) (fun e=>.b (l1 e).1 (.b (l1 e).2.1 (.b (l1 e).2.2 .rr))))))))))))))))))))))))))))))))) (fun _=>(.o fc.s (.o fc.o (.o fcm (.o X9 (.o fc.s (.o fc.o (.o pcm (.o X9 (.b b1 (.o f1 (.o f2 (.b k1 (.o fd (.o F1 (.o pd (.o P1 (.o fd (.o pd (.o P1 (.b m1 (.b m4 (yt (fun _=>(yt (fun _=>.rr) (fun e=>.b (l1 e).1 (.b (l1 e).2.1 (.b (l1 e).2.2 .rr))))) (fun(e0:(!y1)=false)=>yt (fun _=>(yt (fun _=>.rr) (fun e=>.b (l1 e).1 (.b (l1 e).2.1 (.b (l1 e).2.2 .rr))))) (fun e2=>.b (st (by simpa using e0) e2) (yt (fun _=>.rr) (fun e=>.b (l1 e).1 (.b (l1 e).2.1 (.b (l1 e).2.2 .rr))))))))))))))))))))))))))))))))))) (fun e=>.b (z4 e) (.b z5 (.b z6 (.b ff (.w lp (yt (fun e=>(.o (i0 e) (.b v0 (.o (i1 e) (.b (v1 e) (.o fc.s (.o fc.o (.o fcm (.o X9 (.o fc.s (.o fc.o (.o pcm (.o X9 (.b b1 (.o f1 (.o f2 (.b k1 (.o fd (.o F1 (.o pd (.o P1 (.o fd (.o pd (.o P1 (.b m1 (.b m4 (yt (fun _=>(yt (fun _=>.rr) (fun e=>.b (l1 e).1 (.b (l1 e).2.1 (.b (l1 e).2.2 .rr))))) (fun(e0:(!y1)=false)=>yt (fun _=>(yt (fun _=>.rr) (fun e=>.b (l1 e).1 (.b (l1 e).2.1 (.b (l1 e).2.2 .rr))))) (fun e2=>.b (st (by simpa using e0) e2) (yt (fun _=>.rr) (fun e=>.b (l1 e).1 (.b (l1 e).2.1 (.b (l1 e).2.2 .rr))))))))))))))))))))))))))))))))) (fun _=>(.o fc.s (.o fc.o (.o fcm (.o X9 (.o fc.s (.o fc.o (.o pcm (.o X9 (.b b1 (.o f1 (.o f2 (.b k1 (.o fd (.o F1 (.o pd (.o P1 (.o fd (.o pd (.o P1 (.b m1 (.b m4 (yt (fun _=>(yt (fun _=>.rr) (fun e=>.b (l1 e).1 (.b (l1 e).2.1 (.b (l1 e).2.2 .rr))))) (fun(e0:(!y1)=false)=>yt (fun _=>(yt (fun _=>.rr) (fun e=>.b (l1 e).1 (.b (l1 e).2.1 (.b (l1 e).2.2 .rr))))) (fun e2=>.b (st (by simpa using e0) e2) (yt (fun _=>.rr) (fun e=>.b (l1 e).1 (.b (l1 e).2.1 (.b (l1 e).2.2 .rr))))))))))))))))))))))))))))))))))))) (fun _=>(yt (fun e=>.b (z3 e) (.b z5 (.b z6 (.b ff (.w lp (yt (fun e=>(.o (i0 e) (.b v0 (.o (i1 e) (.b (v1 e) (.o fc.s (.o fc.o (.o fcm (.o X9 (.o fc.s (.o fc.o (.o pcm (.o X9 (.b b1 (.o f1 (.o f2 (.b k1 (.o fd (.o F1 (.o pd (.o P1 (.o fd (.o pd (.o P1 (.b m1 (.b m4 (yt (fun _=>(yt (fun _=>.rr) (fun e=>.b (l1 e).1 (.b (l1 e).2.1 (.b (l1 e).2.2 .rr))))) (fun(e0:(!y1)=false)=>yt (fun _=>(yt (fun _=>.rr) (fun e=>.b (l1 e).1 (.b (l1 e).2.1 (.b (l1 e).2.2 .rr))))) (fun e2=>.b (st (by simpa using e0) e2) (yt (fun _=>.rr) (fun e=>.b (l1 e).1 (.b (l1 e).2.1 (.b (l1 e).2.2 .rr))))))))))))))))))))))))))))))))) (fun _=>(.o fc.s (.o fc.o (.o fcm (.o X9 (.o fc.s (.o fc.o (.o pcm (.o X9 (.b b1 (.o f1 (.o f2 (.b k1 (.o fd (.o F1 (.o pd (.o P1 (.o fd (.o pd (.o P1 (.b m1 (.b m4 (yt (fun _=>(yt (fun _=>.rr) (fun e=>.b (l1 e).1 (.b (l1 e).2.1 (.b (l1 e).2.2 .rr))))) (fun(e0:(!y1)=false)=>yt (fun _=>(yt (fun _=>.rr) (fun e=>.b (l1 e).1 (.b (l1 e).2.1 (.b (l1 e).2.2 .rr))))) (fun e2=>.b (st (by simpa using e0) e2) (yt (fun _=>.rr) (fun e=>.b (l1 e).1 (.b (l1 e).2.1 (.b (l1 e).2.2 .rr))))))))))))))))))))))))))))))))))) (fun e=>.b (z4 e) (.b z5 (.b z6 (.b ff (.w lp (yt (fun e=>(.o (i0 e) (.b v0 (.o (i1 e) (.b (v1 e) (.o fc.s (.o fc.o (.o fcm (.o X9 (.o fc.s (.o fc.o (.o pcm (.o X9 (.b b1 (.o f1 (.o f2 (.b k1 (.o fd (.o F1 (.o pd (.o P1 (.o fd (.o pd (.o P1 (.b m1 (.b m4 (yt (fun _=>(yt (fun _=>.rr) (fun e=>.b (l1 e).1 (.b (l1 e).2.1 (.b (l1 e).2.2 .rr))))) (fun(e0:(!y1)=false)=>yt (fun _=>(yt (fun _=>.rr) (fun e=>.b (l1 e).1 (.b (l1 e).2.1 (.b (l1 e).2.2 .rr))))) (fun e2=>.b (st (by simpa using e0) e2) (yt (fun _=>.rr) (fun e=>.b (l1 e).1 (.b (l1 e).2.1 (.b (l1 e).2.2 .rr))))))))))))))))))))))))))))))))) (fun _=>(.o fc.s (.o fc.o (.o fcm (.o X9 (.o fc.s (.o fc.o (.o pcm (.o X9 (.b b1 (.o f1 (.o f2 (.b k1 (.o fd (.o F1 (.o pd (.o P1 (.o fd (.o pd (.o P1 (.b m1 (.b m4 (yt (fun _=>(yt (fun _=>.rr) (fun e=>.b (l1 e).1 (.b (l1 e).2.1 (.b (l1 e).2.2 .rr))))) (fun(e0:(!y1)=false)=>yt (fun _=>(yt (fun _=>.rr) (fun e=>.b (l1 e).1 (.b (l1 e).2.1 (.b (l1 e).2.2 .rr))))) (fun e2=>.b (st (by simpa using e0) e2) (yt (fun _=>.rr) (fun e=>.b (l1 e).1 (.b (l1 e).2.1 (.b (l1 e).2.2 .rr))))))))))))))))))))))))))))))))))))))))))))))))))))))))))))))))))))
  .exact aP hO (.b t1 (.b t2 .rr))
 .exact aP hO (.b t1 .rr)
open Go Tw Pv
section
variable{H:Type}{nT:LI2×LI3->H}{w:LI4}
abbrev RdX(nT:LI2×LI3->H)(w:LI4)(g t:Nat){α:Type}(ps:α->List (PV aH))(Q:α->Prop):Prop:=RdP nT X0 Tryz.prog w g t ps Q
theorem a3A:Tryz.prog.cellsOf 3=1:=by kernel_rfl
theorem atr:Tryz.prog.cellsOf 5=1:=by kernel_rfl
theorem afl:Tryz.prog.cellsOf 39=2:=by kernel_rfl
theorem zI0:dI Tryz.prog 3=some 1:=by kernel_rfl
theorem ad8{g}:RdX nT w (g+1) 3 (fun n:Int=>[.int .i64 n]) (fun n=>(Lit.int .i64 n).wf=true):=a2H Tryz.underlying3
theorem rU8{g}:RdX nT w (g+1) 5 (fun n:Int=>[.int .u8 n]) (fun n=>0<=n/\n<=255):=(a2H Tryz.underlying5).iso id (fun _=>rfl) fun n h=>by simp only[Lit.wf,a2n,a1x]at h;exact h
theorem aa9{g}:RdX nT w (g+2) 22 (fun l:LI0=>[lI l]) (fun l=>∀a∈l,(Lit.int .i64 a).wf=true):=Qw (e:=3) Tryz.underlying22 a3A zI0 (by decide) (fun _=>rfl) ad8
theorem att{g}:RdX nT w (g+2) 39 V.ps (fun v=>0<=v.f/\v.f<=255):=
 (Hu Tryz.underlying39 afl (fun _=>rfl) (sQ rfl atr (fun _=>rfl) rU8 (sQ rfl a3A (fun _=>rfl) ad8 Wj))).iso (fun x=>⟨x.1,x.2.1⟩) (fun _=>rfl) fun _ h=>h.1
theorem ao8:dI Tryz.prog 39=some 2:=by kernel_rfl
theorem ao9{g}:RdX nT w (g+3) 23 (fun l:List V=>[lV l]) (fun l=>∀v∈l,0<=v.f/\v.f<=255):=Qw (e:=39) Tryz.underlying23 afl ao8 (by decide) (fun _=>rfl) att
theorem air:Tryz.prog.cellsOf 22=1:=by kernel_rfl
end
open Go Tw Pv bK
section
variable{H:Type}{nT:LI2×LI3->H}{w:LI4}
theorem aoa:Tryz.prog.cellsOf 105=2:=by kernel_rfl
theorem atu:dI Tryz.prog 105=some 2:=by kernel_rfl
theorem aob:Tryz.prog.cellsOf 24=1:=by kernel_rfl
theorem atv:Tryz.prog.cellsOf 23=1:=by kernel_rfl
theorem atw:Tryz.prog.cellsOf 26=5:=by kernel_rfl
theorem rBr{g}:RdX nT w (g+3) 105 Br.ps (fun b=>∀a∈b.aA,(Lit.int .i64 a).wf=true):=
 (Hu Tryz.underlying105 aoa (fun _=>rfl) (sQ rfl a3A (fun _=>rfl) ad8 (sQ rfl air (fun _=>rfl) aa9 Wj))).iso (fun x=>⟨x.1,x.2.1⟩) (fun _=>rfl) fun _ h=>h.2.1
theorem atx{g}:RdX nT w (g+4) 24 (fun l:List Br=>[lBr l]) (fun l=>∀b∈l,∀a∈b.aA,(Lit.int .i64 a).wf=true):=Qw (e:=105) Tryz.underlying24 aoa atu (by decide) (fun _=>rfl) rBr
theorem aac{a}(h:(Lit.int .i64 a).wf=true):Hy a:=by
 simp only[Lit.wf,a2n,a1x]at h;obtain⟨h1,h2⟩:=h;have e1:i64.min=-(2^63):=by decide
 have e2:i64.max=2^63-1:=by decide
 exact⟨by omega,by omega⟩
theorem rDg{g}:RdX nT w (g+5) 26 Dg.ps Dh:=
 (Hu Tryz.underlying26 atw (fun _=>rfl) (sQ rfl air (fun _=>rfl) aa9 (sQ rfl air (fun _=>rfl) aa9 (sQ rfl atv (fun _=>rfl) ao9 (sQ rfl aob (fun _=>rfl) atx (sQ rfl a3A (fun _=>rfl) ad8 Wj)))))).iso (fun x=>⟨x.1,x.2.1,x.2.2.1,x.2.2.2.1,x.2.2.2.2.1⟩) (fun _=>rfl) fun x h=>by
  obtain⟨_,_,h3,h4,h5,_⟩:=h;refine⟨fun i hi k hk=>?_,aac h5,fun v hv=>(h3 v hv).1⟩;have hb:fD ⟨x.1,x.2.1,x.2.2.1,x.2.2.2.1,x.2.2.2.2.1⟩ i∈x.2.2.2.1:=by show(x.2.2.2.1).getD i lH∈_;rw[List.getD,a0Q hi];exact a5K _
  refine aac (h4 _ hb _ ?_);rw[List.getD,a0Q hk];exact a5K _
end
open Go.ChangeShapes Go.WideShapes Go.ChangeAt Go.RowKit
theorem Tryz.own:ownKnob Tryz.prog.godebug=none:=by kernel_rfl
theorem Tryz.laidOut:laidOutB Tryz.prog=true:=by kernel_rfl
theorem Tryz.mixed:Tryz.prog.follows .mixedOrders=true:=by kernel_rfl
theorem ais:iM Tryz.prog T.ext:=by
 show iM Tryz.prog agS;intro fv args h v h' ws hc;unfold agS at hc;split at hc
 .split at hc
  .exact abv (a0f (T:=Tm) Tryz.mixed (fun _ _ _ _ _ _ h=>by cases h) 2) _ _ _ _ _ _ hc
  split at hc
  .exact abB _ _ _ _ _ _ hc
  exact Yk adG _ _ _ _ _ _ hc
 exact Yk adG _ _ _ _ _ _ hc
theorem Tryz.tys15:Tryz.f15.params.toList=[26,26,26]:=by kernel_rfl
set_option maxRecDepth 100000 in
theorem G6(os)(started:os.Started)(H)(enc:LI2×LI3->H) :ReturnsInHanded {} Tryz.checked os 15 .any (Rows.applyAnswersSpec.pre6 enc Tryz.prog Tryz.f15 Rows.applyAnswersRow.domain false) (Rows.applyAnswersSpec.post enc Tryz.prog Tryz.f15 false true false false):=by
 refine returnsInHanded_of_change (C:=Tryz.checked) Tryz.own started (by kernel_rfl) Tryz.func15
  (ChangeSpec.witness6 (enc:=enc) (C:=Tryz.checked) false ⟨#[],#[.agg #[.slice none 0 0,.slice none 0 0,.slice none 0 0,.slice none 0 0,.int .i64 0],.agg #[.slice none 0 0,.slice none 0 0,.slice none 0 0,.slice none 0 0,.int .i64 0],.agg #[.slice none 0 0,.slice none 0 0,.slice none 0 0,.slice none 0 0,.int .i64 0]],[]⟩ 8 (by kernel_rfl) (by kernel_rfl) (by kernel_rfl) (by kernel_rfl)) ?_
 intro W base args ds gs before aoc hW ay0 _;have XP:∀(j:Nat) t v,Tryz.f15.params[j]? = some t->args[j]? = some v->Value.okWide Tryz.prog W .any base t v:=aoc;have hW':=hW;obtain⟨p,q,atz,hV,rfl,hfz,jD⟩:=hW;have hTA:DataW.TrodAll enc Tryz.prog W 0 (fun _=>true) true Tryz.f15.params.toList args.toList ds p:=atz;obtain⟨rfl,rfl⟩:=trodVars_none hV;rw[Tryz.tys15]at hTA;obtain⟨d0,_,rfl,r0,_,_,hTA⟩:=KR hTA;obtain⟨d1,_,rfl,r1,_,_,hTA⟩:=KR hTA;obtain⟨d2,_,rfl,r2,_,_,hTA⟩:=KR hTA;obtain⟨_,rfl,_⟩:=trodAll_nil hTA;obtain⟨a0,q0,h0⟩:=rDg (g:=2) d0 r0;obtain⟨a1,q1,h1⟩:=rDg (g:=2) d1 r1;obtain⟨a2,q2,h2⟩:=rDg (g:=2) d2 r2;obtain⟨x0,e0,g0,v0⟩:=h0 ([]);obtain⟨x1,e1,g1,v1⟩:=h1 ([]++e0);obtain⟨x2,e2,g2,v2⟩:=h2 ([]++e0++e1);have w0:=v0 (e1++e2);simp only[a6c,aae,a6g]at w0;have w1:=v1 (e2);simp only[a6c,aae,a6g]at w1;have w2:=v2 ([]);simp only[a6c,aae,a6g]at w2;obtain⟨N,hN⟩:=atq;have atA:=hN (N+1) (by omega) 15 ((Pv.a3 dA dA dA).put (a0,a1,a2)) (tA.put true) [] [Dh a0/\Dh a1/\Dh a2] rfl (by intro p hp;simp only[a1E,List.not_mem_nil,or_false]at hp;subst hp;exact⟨q0,q1,q2⟩)
 obtain⟨h',hr⟩:=agN (h:=[]++e0++e1++e2) atA (by simp only[a6c,aae,a6g];exact .cons (.agg w0.1 w0.2) (.cons (.agg w1.1 w1.2) (.cons (.agg w2.1 w2.2) .nil)));exact a0g (P:=Tryz.prog) (T:=T) (L:=LL) (n:=N) (g:=7) Tryz.mixed Tryz.laidOut rfl rfl (by kernel_rfl) Tryz.underlying4 (by kernel_rfl) hW' XP
  (by rw[Tryz.tys15];exact(a0M (by kernel_rfl) g0 (a0M (by kernel_rfl) g1 (a0M (by kernel_rfl) g2 agM)))) ais (by kernel_rfl) (by kernel_rfl) hr
theorem G7:joinedFacts Tryz.pinned.checked.prog 15 Tryz.f15 Rows.applyAnswersSpec Rows.applyAnswersRow=true:=by kernel_rfl
theorem ApplyAnswers_holds:Rows.ApplyAnswersSaid:=
 OpenClaim.holds_of_wide 15 Tryz.f15 rfl rfl rfl rfl rfl rfl rfl ⟨rfl,rfl,rfl,rfl,rfl⟩ rfl rfl rfl rfl rfl (by kernel_rfl) Tryz.func15 G7
  (a7y (by kernel_rfl)) (by unfold Func.isWrapper;first|(rw[a1e (by decide +kernel)];kernel_rfl)|(rw[a18 (by decide +kernel)];exact⟨rfl,rfl⟩))
  (fun os started H enc _=>G6 os started H enc)
end Go.Proofs.YtmobpoiejckagaaGreat
