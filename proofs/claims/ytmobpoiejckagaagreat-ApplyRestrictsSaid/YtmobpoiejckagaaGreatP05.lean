/- Part 6 of a proof: Any diagram with any digit for any choice is the document's, or the error is; for all diagrams, choices and digits. -/
import Derived.Test.YtmobpoiejckagaaGreatP04
set_option linter.constructorNameAsVariable false
set_option linter.unusedVariables false
set_option linter.unusedSimpArgs false
set_option linter.unusedSectionVars false
open Go.IntKind (i64)
noncomputable section
namespace Go.Proofs.YtmobpoiejckagaaGreat
open Go Tw Pv dw
theorem MR(d:Dg)(v:Int):tV d v=(ED d.aG d.aj v:Int):=by
 unfold tV ED;by_cases c:v<0
 .rw[a0q (by simpa using c),a0q c]
 rw[a0p (by simpa using c),a0p c];have hs:=Px (l:=d.aG) (d:=0) (a:=(au d v).var) (c:=OZ d v) (fun k _=>by unfold OZ;rw[a4E];simp);by_cases hm:(au d v).var∈d.aG
 .rw[hs.1 hm];rfl
 rw[a0q (hs.2 hm),a7x hm]
theorem SV{d:Dg}(hm:d.aK.length<=ah)(hf:(bY d.ay d.aG != 0)=false)(hv:∀v∈d.aK,vOk v=true)(hn:d.aj.length<=6000)(hp:PtV d.ay d.aG (d.aK,d.aj))(hr:BN d.aG (d.aK,d.aj) d.root d.aj.length 0):aX d=0:=by
 obtain⟨bJ,PG⟩:=jQ.1 (show bY d.ay d.aG=0 by simpa using hf);have aki:∀(v:Int) (b a:Nat),BN d.aG (d.aK,d.aj) v b a->iM d v b=true:=fun v b a h=>by
  unfold iM;split
  .simpa using h.2.1
  rename_i c;have c:v<0:=by simpa using c
  have:=h.1 c;have e:i64.wrap ((d.aK.length:Int)-1)=(d.aK.length:Int)-1:=by unfold ah at hm;rw[dZ (by omega) (by omega)]
  rw[oQ,e];have h2:=this.2;have h2:jE v<(d.aK.length:Int):=h2;exact⟨this.1,by show jE v<=_;omega⟩
 have hl:lN d=true:=by
  unfold lN;rw[a0q (dL.2 fun j hj=>by
   rw[cLe,hv _ (by simp[List.getD,a0g hj])];rfl),a0q (dL.2 fun i hi=>?_)]
  .exact aki _ _ _ hr
  have h1:=hp.var i hi;have h2:=hp.ksz i hi;have h3:=hp.zy i hi;have h1:fK (fC d i).var d.ay.length:=h1;have h2:((fC d i).aA.length:Int)=d.ay.getD (fC d i).var.toNat 0:=h2;have e:xw d.ay=(d.ay.length:Int)-1:=by
   have:=bJ.len;unfold xw;rw[dZ (by omega) (by omega)]
  unfold ZI;rw[a0p,a0p (by rw[h2];simp),a0q]
  .refine dL.2 fun k hk=>?_;have h4:=h3 k hk;unfold cLk;rw[a0p (by rw[aki _ _ _ h4];simp),a2W,MR,MR];have h5:=h4.2.2;have e6:ED d.aG d.aj ((i:Nat):Int)=d.aG.idxOf (fC d i).var:=by unfold ED;rw[a0p (by omega),a4I]
   rw[e6];have h5:d.aG.idxOf (fC d i).var+1<=ED d.aG d.aj ((d.aj.getD i jU).aA.getD k 0):=h5;omega
  have:jP (fC d i).var 0 (xw d.ay)=true:=by rw[oQ,e];have:=h1.1;have:=h1.2;exact⟨by omega,by omega⟩
  rw[this];simp
 unfold aX;rw[a0p (by rw[hf];simp),a0p (by rw[a1o];omega),a0p (by rw[hl];simp)]
structure OfP(s o:List Int)(l:List V):Prop where
 bJ:rP s
 ord:kC s.length o=true
 len:(l.length:Int)=bg s
theorem OfP.p{s o:List Int}{l:List V}(h:OfP s o l):PtP s o l∧o.Nodup∧o.length=s.length:=by
 have ho:=h.ord;unfold kC at ho;rw[a1o]at ho;have:=h.bJ.len;exact⟨⟨h.bJ,fun c hc=>⟨(ho.2.1 c hc).1,(ho.2.1 c hc).2⟩,h.len,by unfold ah;omega,by unfold ah;omega⟩,ho.2.2,ho.1⟩
theorem XJ{s:List Int}{l:List V}:∀(r p:List Int) (x:EN),(∀q,l.getD (dV s q).toNat V0∈l∨True)->(∀q,gX s q=true->l.getD (dV s q).toNat V0∈l)->gX s p=true->(∀c∈r,fK c s.length)->kU s->(∀v∈x.1,v∈l)->∀v∈(fO s l r p x).2.1,v∈l
 | [],p,x,_,h,hp,_,_,hx,v,hv=>by
  have hv:v∈fG x.1 (l.getD (dV s p).toNat V0):=hv;unfold fG at hv;split at hv
  .exact hx v hv
  rcases a2Y.1 hv with hv|hv
  .exact hx v hv
  rw[a2A.1 hv];exact h p hp
 |c::r,p,x,h0,h,hp,hr,hs,hx,v,hv=>by
  have hc:=hr c (by simp);have hz:=hs _ (bP (s:=s) (k:=c.toNat) (by have:=hc.1;have:=hc.2;omega));have:=bU (g:=vP (fO s l r) c p) (m:=(s.getD c.toNat 0).toNat) (k:=0) (s:=([],x)) (fun _ y=>∀v∈y.2.1,v∈l) hx (fun j y _ hj hy=>XJ r _ y.2 h0 h (OY hp hc ⟨by omega,by omega⟩) (fun c hc=>hr c (by simp[hc])) hs hy);exact this v hv
theorem FW{s o:List Int}{l:List V}(h:OfP s o l)(hv:∀v∈l,vOk v=true):aX (kF s o l)=0∧(kF s o l).aK.length<=2000∧(∀v∈(kF s o l).aK,v∈l)∧PtV s o ((kF s o l).aK,(kF s o l).aj)∧BN o ((kF s o l).aK,(kF s o l).aj) (kF s o l).root (kF s o l).aj.length 0:=by
 obtain⟨hP,hn,ho⟩:=h.p;have hz:=I8 h.bJ.sz;have hm:=h.bJ.many;have hlen:=UR (l:=l) h.bJ.sz o (List.replicate s.length 0) ([],[]) hP.ord;have hw:=DC h.bJ.sz h.ord;have a2p:∀q,gX s q=true->l.getD (dV s q).toNat V0∈l:=fun q hq=>by
  have:=wS hq h.bJ.sz;have:=h.len;have aQ:(dV s q).toNat<l.length:=by omega
  simp[List.getD,a0g aQ]
 have oz:=XJ o (List.replicate s.length 0) ([],[]) (fun _=>.inr trivial) a2p hz hP.ord h.bJ.sz (by simp);have WA:=a7k (l:=l) h.bJ.sz hP.ord hn o 0 (List.replicate s.length 0) ([],[]) rfl (a4C _) ⟨fun i hi=>(by simp at hi),fun i hi=>(by simp at hi),fun i hi=>(by simp at hi)⟩ (by have:=hlen.1;simp at this;omega);have h1:(kF s o l).aK.length<=0+wO s o:=hlen.1;have h2:(kF s o l).aj.length+1<=0+wO s o:=hlen.2;refine⟨SV (by unfold ah;omega) ?_ (fun v hv2=>hv v (oz v hv2)) (by omega) WA.1 WA.2,by omega,oz,WA.1,WA.2⟩;have:bY s o=0:=jQ.2 ⟨h.bJ,h.ord⟩;show(bY s o != 0)=false;rw[this];rfl
theorem aau{s o:List Int}{l:List V}(h:OfP s o l)(hv:∀v∈l,vOk v=true){q:List Int}(hq:gX s q=true):vN (kF s o l) q=l.getD (dV s q).toNat V0:=by
 obtain⟨hP,hn,ho⟩:=h.p;obtain⟨h1,h2,h3,h4,h5⟩:=FW h hv;have ht:=iY (d:=kF s o l) hP.a7f (by unfold ah;omega) (by rw[h1];rfl);have hto:=ad8 (l:=l) h.bJ.sz o (List.replicate s.length 0) ([],[]) hP.ord (by simp) (kF s o l) (by omega) a4t a4t q hq (fun k hk Yq=>by
  exfalso;exact Yq (lQ h.ord ⟨by omega,by omega⟩))
 have hr:=ht.1.root;exact(hto.at_ ht.1 hq 6001 (by have:=hr.1;have:=ht.2;show(kF s o l).root<_;omega) hr).symm
theorem ZP{s o:List Int}{l:List V}(h:OfP s o l)(hv:∀v∈l,vOk v=true):cellsD (kF s o l)=l:=by
 have hl:=h.len;unfold cellsD;refine a9e (by simp[BD,kF];omega) fun n h1 h2=>?_;have hp:=tK (n:Int) h.bJ.sz;simp only[a8M,agZ];show vN (kF s o l) (jW s n)=_;rw[aau h hv hp,MP h.bJ.sz (by omega) (by omega)];simp[List.getD,a0g h2]
open Go Tw Pv dw
def Kn(d:Dg)(x:Cs)(v:Int):Prop:=if v<0 then pW d v∈x.e else v∈x.k.map (·.1)
def uQ(d:Dg)(x:Cs)(v:Int):Int:=if v<0 then i64.wrap (-1-(x.e.idxOf (pW d v):Nat))else UM x.k v
def AP(x y:Cs):Prop:=x.e <+: y.e∧x.n <+: y.n∧x.k <+: y.k
theorem AP.rfl{x:Cs}:AP x x:=⟨a4t,a4t,a4t⟩
theorem AP.trans{x y z:Cs}(a:AP x y)(b:AP y z):AP x z:=⟨a.1.trans b.1,a.2.1.trans b.2.1,a.2.2.trans b.2.2⟩
theorem Kn.mono{d:Dg}{x y:Cs}{v:Int}(h:Kn d x v)(hp:AP x y):Kn d y v:=by
 unfold Kn at h ⊢;split
 .rename_i c;rw[a0q c]at h;exact hp.1.subset h
 rename_i c;rw[a0p c]at h;obtain⟨t,ht⟩:=hp.2.2;rw[<-ht,a4f,a2Y];exact .inl h
theorem SX{α:Type}[BEq α][LawfulBEq α]{a b:List α}{v:α}(h:v∈a)(hp:a <+: b):b.idxOf v=a.idxOf v:=by
 obtain⟨t,rfl⟩:=hp;rw[a9x,a0q h]
theorem a1M{a b:List (Int×Int)}{v:Int}(h:v∈a.map (·.1))(hp:a <+: b):UM b v=UM a v:=by
 obtain⟨t,rfl⟩:=hp;unfold UM;rw[List.find?_append];cases e:a.find? fun p=>p.1==v with
 |none=>
  rw[a1e]at h;obtain⟨p,hp,rfl⟩:=h;have:=aea.1 e p hp;simp at this
 |some q=>rfl
theorem SY{d:Dg}{x y:Cs}{v:Int}(h:Kn d x v)(hp:AP x y):uQ d y v=uQ d x v:=by
 unfold Kn at h;unfold uQ;split
 .rename_i c;rw[a0q c]at h;rw[SX h hp.1]
 rename_i c;rw[a0p c]at h;rw[a1M h hp.2.2]
theorem XK{E:List V}{v:V}(h:v∈E):fG E v=E:=a0q h
theorem KP(N:List Br)(c:Int)(ks:List Int):N <+: dB N c ks:=by
 unfold dB;split
 .exact a4t
 split
 .exact a4t
 exact a8E _ _
theorem ZQ{N M:List Br}{c:Int}{ks:List Int}(h:dB N c ks=N)(hp:N <+: M):dB M c ks=M∧eu M c ks=eu N c ks:=by
 unfold dB at h ⊢;unfold eu;by_cases hf:(ks.all fun x=>x==ks.getD 0 0)=true
 .rw[a0q hf,a0q hf,a0q hf];exact⟨rfl,rfl⟩
 rw[a0p hf]at h ⊢;rw[a0p hf,a0p hf];by_cases hm:tX c ks∈N.map BU
 .have hp2:N.map BU <+: M.map BU:=by obtain⟨t,rfl⟩:=hp;rw[a4f];exact a8E _ _
  rw[a0q (hp2.subset hm),SX hm hp2];exact⟨rfl,rfl⟩
 rw[a0p hm]at h;have:=congrArg List.length h;simp at this
theorem a3x(N:List Br)(c:Int)(ks:List Int):dB (dB N c ks) c ks=dB N c ks∧eu (dB N c ks) c ks=eu N c ks:=by
 unfold eu;by_cases hf:(ks.all fun x=>x==ks.getD 0 0)=true
 .rw[a0q hf,a0q hf];have:dB N c ks=N:=a0q hf;rw[this,this];exact⟨rfl,rfl⟩
 rw[a0p hf,a0p hf];by_cases hm:tX c ks∈N.map BU
 .have:dB N c ks=N:=by unfold dB;rw[a0p hf,a0q hm]
  rw[this,this];exact⟨rfl,rfl⟩
 have e:dB N c ks=N++[⟨c,ks⟩]:=by unfold dB;rw[a0p hf,a0p hm]
 have hm2:tX c ks∈(N++[(⟨c,ks⟩:Br)]).map BU:=by rw[a4f];simp
 have e2:dB (N++[⟨c,ks⟩]) c ks=N++[⟨c,ks⟩]:=by unfold dB;rw[a0p hf,a0q hm2]
 rw[e,e2];refine⟨rfl,?_⟩;rw[a4f,a9x,a0p hm,a7x hm];simp
abbrev aP(d:Dg)(v:Int):List Int:=(au d v).aA
def XL(d:Dg)(x:Cs):Prop:=∀v∈x.k.map (·.1),(∀j,j<(aP d v).length->Kn d x ((aP d v).getD j 0))∧eu x.n (au d v).var ((aP d v).map (uQ d x))=UM x.k v∧dB x.n (au d v).var ((aP d v).map (uQ d x))=x.n
abbrev BX(d:Dg)(F:Nat)(r:Int)(j:Nat)(y:List Int×Cs):List Int×Cs:=(y.1.set j (cu d F ((aP d r).getD j 0) y.2).1,(cu d F ((aP d r).getD j 0) y.2).2)
theorem a7l{d:Dg}:∀(F:Nat) (r:Int) (x:Cs),AP x (cu d F r x).2
 | 0,_,x=>AP.rfl
 |F+1,r,x=>by
  unfold cu;split
  .exact⟨AO _ _,a4t,a4t⟩
  split
  .exact AP.rfl
  have:=bU (g:=BX d F r) (m:=(aP d r).length) (k:=0) (s:=(List.replicate (aP d r).length 0,x)) (fun _ y=>AP x y.2) AP.rfl (fun j y _ _ hy=>hy.trans (a7l F _ y.2));exact⟨this.1,this.2.1.trans (KP _ _ _),this.2.2.trans (a8E _ _)⟩
theorem MS{d:Dg}{F:Nat}{v:Int}{x:Cs}(h:Kn d x v):cu d (F+1) v x=(uQ d x v,x):=by
 unfold Kn at h;unfold cu uQ;by_cases c:v<0
 .rw[a0q (by simpa using c),a0q c];rw[a0q c]at h;rw[XK h]
 rw[a0p c]at h;rw[a0p (by simpa using c),a0q (by simpa using h),a0p c]
theorem PK{d:Dg}{x y:Cs}{ks:List Int}(h:∀j,j<ks.length->Kn d x (ks.getD j 0))(hp:AP x y):ks.map (uQ d y)=ks.map (uQ d x):=by
 refine a4O fun v hv=>?_;obtain⟨j,hj,rfl⟩:=aaN hv;have:=h j hj;rw[List.getD,a0g hj]at this;exact SY this hp
theorem XL.a1N{d:Dg}{x y:Cs}{v:Int}(h:(∀j,j<(aP d v).length->Kn d x ((aP d v).getD j 0))∧eu x.n (au d v).var ((aP d v).map (uQ d x))=UM x.k v∧dB x.n (au d v).var ((aP d v).map (uQ d x))=x.n)(hv:v∈x.k.map (·.1))(hp:AP x y):(∀j,j<(aP d v).length->Kn d y ((aP d v).getD j 0))∧eu y.n (au d v).var ((aP d v).map (uQ d y))=UM y.k v∧dB y.n (au d v).var ((aP d v).map (uQ d y))=y.n:=by
 obtain⟨h1,h2,h3⟩:=h;rw[PK h1 hp];obtain⟨g1,g2⟩:=ZQ h3 hp.2.1;exact⟨fun j hj=>(h1 j hj).mono hp,by rw[g2,h2,a1M hv hp.2.2],g1⟩
theorem ZR{d:Dg}(h:BF d):∀(F:Nat) (r:Int) (x:Cs),1<=F->r+1<F->jq d r d.aj.length->Dy d x->XL d x->XL d (cu d F r x).2∧Kn d (cu d F r x).2 r∧uQ d (cu d F r x).2 r=(cu d F r x).1
 | 0,r,x,h1,_,_,_,_=>by omega
 |F+1,r,x,_,hF,hr,hx,hi=>by
  by_cases c:r<0
  .have e:cu d (F+1) r x=(i64.wrap (-1-(x.e.idxOf (pW d r):Nat)),⟨fG x.e (pW d r),x.n,x.k⟩):=by unfold cu;rw[a0q (by simpa using c)]
   rw[e];have hp:AP x ⟨fG x.e (pW d r),x.n,x.k⟩:=⟨AO _ _,a4t,a4t⟩;refine⟨fun v hv=>XL.a1N (hi v hv) hv hp,?_,?_⟩
   .unfold Kn;rw[a0q c];show pW d r∈fG x.e (pW d r);unfold fG;split
    .assumption
    simp
   unfold uQ;rw[a0q c];show i64.wrap (-1-((fG x.e (pW d r)).idxOf (pW d r):Nat))=_;congr 3;unfold fG;split
   .rfl
   rename_i hn;rw[a9x,a0p hn,a7x hn];simp
  by_cases c2:r∈x.k.map (·.1)
  .have hk:Kn d x r:=by unfold Kn;rw[a0p c];exact c2
   rw[MS hk];exact⟨hi,hk,rfl⟩
  have aQ:r.toNat<d.aj.length:=by have:=hr.1;omega
  have BM:∀k,k<(aP d r).length->(aP d r).getD k 0<r:=fun k kQ=>by
   have h9:=(h.zy r.toNat aQ k kQ).1;have h9:(aP d r).getD k 0<(r.toNat:Int):=h9;omega
  have KO:∀j,j<(aP d r).length->jq d ((aP d r).getD j 0) d.aj.length:=fun j hj=>⟨by have:=BM j hj;have:=hr.1;omega,(h.zy r.toNat aQ j hj).2⟩;have inv:=bU (g:=BX d F r) (m:=(aP d r).length) (k:=0) (s:=(List.replicate (aP d r).length 0,x)) (fun k y=>(y.1.length=(aP d r).length∧AP x y.2)∧(Dy d y.2∧r∉y.2.k.map (·.1))∧XL d y.2∧∀j,j<k->Kn d y.2 ((aP d r).getD j 0)∧uQ d y.2 ((aP d r).getD j 0)=y.1.getD j 0) ⟨⟨by simp,AP.rfl⟩,⟨hx,c2⟩,hi,fun j hj=>by omega⟩ (fun j y _ hj hy=>by
   obtain⟨⟨y1,y2⟩,⟨y3,y4⟩,y5,y6⟩:=hy;have hj:j<(aP d r).length:=(by omega);have hp:=a7l (d:=d) F ((aP d r).getD j 0) y.2;obtain⟨z1,z2,z3⟩:=ZR h F ((aP d r).getD j 0) y.2 (by omega) (by have:=BM j hj;omega) (KO j hj) y3 y5;refine⟨⟨by simp[BX,y1],y2.trans hp⟩,⟨Pg h F _ y.2 y3 (KO j hj),XB F _ r y.2 (BM j hj) y4 (by omega) (fun i hi k hk=>(h.zy i hi k hk).1) (fun h5=>⟨h5,(KO j hj).1⟩)⟩,z1,fun j' DV=>?_⟩;by_cases e:j'=j
   .subst e;refine⟨z2,?_⟩;rw[z3];show(cu d F ((aP d r).getD j' 0) y.2).1=(y.1.set j' (cu d F ((aP d r).getD j' 0) y.2).1).getD j' 0;generalize (cu d F ((aP d r).getD j' 0) y.2).1=z;simp[List.getD,a1T (show j'<y.1.length by omega)]
   obtain⟨a1,a2⟩:=y6 j' (by omega);refine⟨a1.mono hp,?_⟩;rw[SY a1 hp,a2];show _=(y.1.set j (cu d F ((aP d r).getD j 0) y.2).1).getD j' 0;generalize (cu d F ((aP d r).getD j 0) y.2).1=z;simp[List.getD,a1n (Ne.symm e)])
  rw[a3Z]at inv;have e:cu d (F+1) r x=(eu (aT (BX d F r) (aP d r).length 0 (List.replicate (aP d r).length 0,x)).2.n (au d r).var (aT (BX d F r) (aP d r).length 0 (List.replicate (aP d r).length 0,x)).1,⟨(aT (BX d F r) (aP d r).length 0 (List.replicate (aP d r).length 0,x)).2.e,dB (aT (BX d F r) (aP d r).length 0 (List.replicate (aP d r).length 0,x)).2.n (au d r).var (aT (BX d F r) (aP d r).length 0 (List.replicate (aP d r).length 0,x)).1,(aT (BX d F r) (aP d r).length 0 (List.replicate (aP d r).length 0,x)).2.k++[(r,eu (aT (BX d F r) (aP d r).length 0 (List.replicate (aP d r).length 0,x)).2.n (au d r).var (aT (BX d F r) (aP d r).length 0 (List.replicate (aP d r).length 0,x)).1)]⟩):=by
   rw[cu,a0p (by simpa using c),a0p (by simpa using c2)]
  rw[e];generalize aT (BX d F r) (aP d r).length 0 (List.replicate (aP d r).length 0,x)=y at inv;obtain⟨ks,y⟩:=y;obtain⟨⟨y1,y2⟩,⟨y3,y4⟩,y5,y6⟩:=inv;have y1:ks.length=(aP d r).length:=y1;have y4:r∉y.k.map (·.1):=y4;have hp:AP y ⟨y.e,dB y.n (au d r).var ks,y.k++[(r,eu y.n (au d r).var ks)]⟩:=⟨a4t,KP _ _ _,a8E _ _⟩;have EL:(aP d r).map (uQ d y)=ks:=by
   refine a9e (by simp[y1]) fun j j1 j2=>?_;have hj:j<(aP d r).length:=(by omega);have:=(y6 j hj).2;rw[List.getD,List.getD,a0g hj,a0g j2]at this;simpa using this
  have gq:UM (y.k++[(r,eu y.n (au d r).var ks)]) r=eu y.n (au d r).var ks:=by
   unfold UM;rw[List.find?_append];have:(y.k.find? fun p=>p.1==r)=none:=aea.2 fun p hp=>by
    simp only[a7H];intro e2;exact y4 (a1e.2 ⟨p,hp,e2⟩)
   rw[this];simp
  obtain⟨g1,g2⟩:=a3x y.n (au d r).var ks;refine⟨fun v hv=>?_,?_,?_⟩
  .have hv:v∈(y.k++[(r,eu y.n (au d r).var ks)]).map (·.1):=hv;rw[a4f,a2Y]at hv;rcases hv with hv|hv
   .exact XL.a1N (y5 v hv) hv hp
   have hv:v=r:=(by simpa using hv);subst hv;refine⟨fun j hj=>(y6 j hj).1.mono hp,?_,?_⟩
   .rw[PK (fun j hj=>(y6 j hj).1) hp,EL];show eu (dB y.n (au d v).var ks) _ ks=UM (y.k++[(v,eu y.n (au d v).var ks)]) v;rw[g2,gq]
   rw[PK (fun j hj=>(y6 j hj).1) hp,EL];exact g1
  .unfold Kn;rw[a0p c];show r∈(y.k++[(r,eu y.n (au d r).var ks)]).map (·.1);simp
  unfold uQ;rw[a0p c];exact gq
open Go Tw Pv dw
theorem XM{d:Dg}(h:aX d=0):∀i,i<d.aj.length->∀k,k<(fC d i).aA.length->d.aG.idxOf (fC d i).var+1<=ED d.aG d.aj ((fC d i).aA.getD k 0):=by
 intro i hi k hk;unfold aX at h;split at h
 .rename_i c;rw[h]at c;cases c
 split at h
 .cases h
 split at h
 .cases h
 rename_i c;have c:lN d=true:=by simpa using c
 unfold lN at c;split at c
 rotate_left
 .cases c
 split at c
 rotate_left
 .cases c
 rename_i c2;have:=dL.1 c2 i hi;unfold ZI at this;split at this
 .cases this
 split at this
 .cases this
 split at this
 .rename_i c3;have:=dL.1 c3 k hk;unfold cLk at this;split at this
  .cases this
  rw[a2W,MR,MR]at this;have e6:ED d.aG d.aj ((i:Nat):Int)=d.aG.idxOf (fC d i).var:=by unfold ED;rw[a0p (by omega),a4I]
  rw[e6]at this;show d.aG.idxOf (fC d i).var+1<=ED d.aG d.aj ((d.aj.getD i jU).aA.getD k 0);omega
 cases this
theorem ZT{d:Dg}(h:BF d):∀(F:Nat) (r:Int) (x:Cs),jq d r d.aj.length->NOk d.ay x.n->NOk d.ay (cu d F r x).2.n
 | 0,_,_,_,hx=>hx
 |F+1,r,x,hr,hx=>by
  unfold cu;by_cases c:r<0
  .rw[a0q (by simpa using c)];exact hx
  rw[a0p (by simpa using c)];split
  .exact hx
  have aQ:r.toNat<d.aj.length:=by have:=hr.1;omega
  have KO:∀j,j<(aP d r).length->jq d ((aP d r).getD j 0) d.aj.length:=fun j hj=>by
   have h9:=h.zy r.toNat aQ j hj;have h8:=h9.1;have h8:(aP d r).getD j 0<(r.toNat:Int):=h8;exact⟨by omega,h9.2⟩
  have inv:=bU (g:=BX d F r) (m:=(aP d r).length) (k:=0) (s:=(List.replicate (aP d r).length 0,x)) (fun _ y=>y.1.length=(aP d r).length∧NOk d.ay y.2.n) ⟨by simp,hx⟩ (fun j y _ hj hy=>⟨by simp[BX,hy.1],ZT h F _ y.2 (KO j (by omega)) hy.2⟩);show NOk d.ay (dB (aT (BX d F r) (aP d r).length 0 (List.replicate (aP d r).length 0,x)).2.n (au d r).var (aT (BX d F r) (aP d r).length 0 (List.replicate (aP d r).length 0,x)).1);generalize aT (BX d F r) (aP d r).length 0 (List.replicate (aP d r).length 0,x)=y at inv;intro b hb;unfold dB at hb;split at hb
  .exact inv.2 b hb
  split at hb
  .exact inv.2 b hb
  rcases a2Y.1 hb with hb|hb
  .exact inv.2 b hb
  rw[a2A.1 hb];refine⟨h.var r.toNat aQ,?_⟩;show(y.1.length:Int)=d.ay.getD (au d r).var.toNat 0;rw[inv.1];exact h.ksz r.toNat aQ
theorem a7m{n:Nat}(hn:1<=n)(v:Int):((List.replicate n v).all fun x=>x==(List.replicate n v).getD 0 0)=true∧(List.replicate n v).getD 0 0=v:=by
 obtain⟨k,rfl⟩:∃k,n=k+1:=⟨n-1,by omega⟩;simp[adG]
theorem XO{d:Dg}{l:List V}(h:BF d)(PG:kC d.ay.length d.aG=true)(hk:∀i,i<d.aj.length->∀k,k<(fC d i).aA.length->d.aG.idxOf (fC d i).var+1<=ED d.aG d.aj ((fC d i).aA.getD k 0)):∀(r:List Int) (a:Nat) (p:List Int) (v:Int) (x:Cs) (F:Nat),d.aG.drop a=r->a<=d.aG.length->gX d.ay p=true->Dy d x->XL d x->NOk d.ay x.n->jq d v d.aj.length->a<=ED d.aG d.aj v->1<=F->v+1<F->(∀q,gX d.ay q=true->ZO d.ay r q p->To d q v (l.getD (dV d.ay q).toNat V0))->fO d.ay l r p (x.e,x.n)=((cu d F v x).1,((cu d F v x).2.e,(cu d F v x).2.n))
 | [],a,p,v,x,F,hr,ha,hp,_,_,_,hv,KO,hF1,hF,hto=>by
  obtain⟨F,rfl⟩:∃k,F=k+1:=⟨F-1,by omega⟩;have:a=d.aG.length:=by
   have:=congrArg List.length hr;rw[a3Y,a4H]at this;omega
  subst this;have hv0:v<0:=by
   rcases Int.lt_or_le v 0 with c|c
   .exact c
   exfalso;unfold ED at KO;rw[a0p (by omega)]at KO;have aQ:v.toNat<d.aj.length:=by have:=hv.1;omega
   have hm:=lQ PG (h.var v.toNat aQ);have:=a4w.2 hm;have:d.aG.idxOf (d.aj.getD v.toNat jU).var<d.aG.length:=this;omega
  have t:=hto p hp (fun _ _ _=>rfl);have e:l.getD (dV d.ay p).toNat V0=pW d v:=(To.fin hv0:To d p v _).det t |>.symm
  unfold cu;rw[a0q (by simpa using hv0)];show(i64.wrap (-1-(x.e.idxOf (l.getD (dV d.ay p).toNat V0):Nat)),(fG x.e (l.getD (dV d.ay p).toNat V0),x.n))=_;rw[e]
 |c::r,a,p,v,x,F,hr,ha,hp,hx,hi,Yq,hv,KO,hF1,hF,hto=>by
  have aQ:a<d.aG.length:=by
   have:=congrArg List.length hr;rw[a3Y,a4d]at this;omega
  have hd:=a6D aQ;rw[hr]at hd;obtain⟨hc,uV⟩:=ah2 hd;have ho:=PG;unfold kC at ho;rw[a1o]at ho;have EC:c∈d.aG:=by rw[hc];exact a4r aQ
  have nH:fK c d.ay.length:=⟨(ho.2.1 c EC).1,(ho.2.1 c EC).2⟩;have hia:d.aG.idxOf c=a:=by rw[hc];exact ho.2.2.idxOf_getElem a aQ
  have qm:c.toNat<d.ay.length:=by have:=nH.1;have:=nH.2;omega
  have hz:=h.bJ.sz _ (bP (s:=d.ay) (k:=c.toNat) qm);have DY:=jm hp;have hcr:c∉r:=by
   have:(d.aG.drop a).Nodup:=ho.2.2.sublist (List.drop_sublist _ _);rw[hr]at this;exact(a4m.1 this).1
  have Fq:∀j:Nat,j<(d.ay.getD c.toNat 0).toNat->gX d.ay (p.set c.toNat j)=true:=fun j hj=>OY hp nH ⟨by omega,by omega⟩;simp only[fO];by_cases uU:0<=v∧(au d v).var=c
  .obtain⟨hv0,hvc⟩:=uU;have a3y:v.toNat<d.aj.length:=by have:=hv.1;omega
   have JX:((aP d v).length:Int)=d.ay.getD c.toNat 0:=by rw[<-hvc];exact h.ksz v.toNat a3y
   have hkn:(d.ay.getD c.toNat 0).toNat=(aP d v).length:=(by omega);have BM:∀j,j<(aP d v).length->(aP d v).getD j 0<v:=fun j hj=>by
    have h9:=(h.zy v.toNat a3y j hj).1;have h9:(aP d v).getD j 0<(v.toNat:Int):=h9;omega
   have hrf:∀j,j<(aP d v).length->jq d ((aP d v).getD j 0) d.aj.length:=fun j hj=>⟨by have:=BM j hj;have:=hv.1;omega,(h.zy v.toNat a3y j hj).2⟩;have akj:∀j,j<(aP d v).length->a+1<=ED d.aG d.aj ((aP d v).getD j 0):=fun j hj=>by
    have:=hk v.toNat a3y j hj;have:d.aG.idxOf (au d v).var+1<=ED d.aG d.aj ((aP d v).getD j 0):=this;rw[hvc,hia]at this;exact this
   have akk:∀j:Nat,j<(aP d v).length->∀q,gX d.ay q=true->ZO d.ay r q (p.set c.toNat j)->To d q ((aP d v).getD j 0) (l.getD (dV d.ay q).toNat V0):=fun j hj q hq hag=>by
    have Yo:q.getD c.toNat 0=j:=by
     have:=hag c.toNat qm (by rw[agR nH.1];exact hcr);rw[this,List.getD,a1T (by omega)];rfl
    have t0:=hto q hq (ZO.back nH hag);revert t0;generalize l.getD (dV d.ay q).toNat V0=w;intro t0;cases t0 with
    |fin h9=>omega
    |step _ t=>
     rw[hvc,Yo,a4I]at t;exact t
   rw[hkn];by_cases OA:v∈x.k.map (·.1)
   .-- known
    have hKn:Kn d x v:=by unfold Kn;rw[a0p (by omega)];exact OA
    obtain⟨F',rfl⟩:∃k,F=k+1:=⟨F-1,by omega⟩;rw[MS hKn];obtain⟨i1,i2,i3⟩:=hi v OA;have inv:=bU (g:=vP (fO d.ay l r) c p) (m:=(aP d v).length) (k:=0) (s:=([],(x.e,x.n))) (fun k y=>y=(((aP d v).map (uQ d x)).take k,(x.e,x.n))) (by simp) (fun j y _ hj hy=>by
     have hj:j<(aP d v).length:=(by omega);subst hy;have ih:=XO h PG hk r (a+1) (p.set c.toNat j) ((aP d v).getD j 0) x (F'+1) uV.symm aQ (Fq j (by omega)) hx hi Yq (hrf j hj) (akj j hj) (by omega) (by have:=BM j hj;omega) (akk j hj);rw[MS (i1 j hj)]at ih;unfold vP;rw[ih];refine ad1 ?_ rfl;show(((aP d v).map (uQ d x)).take j)++[uQ d x ((aP d v).getD j 0)]=_;have hjm:j<((aP d v).map (uQ d x)).length:=(by simpa using hj);rw[a5R hjm];simp[List.getD,a0g hj])
    rw[a3Z]at inv;rw[inv,a8O (by simp)];rw[hvc]at i2 i3;obtain⟨n1,n2⟩:=XH h.bJ.sz Yq nH (ks:=(aP d v).map (uQ d x)) (by simpa using JX);show(Dz x.n c _,(x.e,oV x.n c _))=_;rw[<-n1,<-n2,i2,i3];unfold uQ;rw[a0p (by omega)]
   obtain⟨F',rfl⟩:∃k,F=k+1:=⟨F-1,by omega⟩;have key:∀j,j<=(aP d v).length->(aT (vP (fO d.ay l r) c p) j 0 ([],(x.e,x.n)))=((aT (BX d F' v) j 0 (List.replicate (aP d v).length 0,x)).1.take j,((aT (BX d F' v) j 0 (List.replicate (aP d v).length 0,x)).2.e,(aT (BX d F' v) j 0 (List.replicate (aP d v).length 0,x)).2.n))∧(aT (BX d F' v) j 0 (List.replicate (aP d v).length 0,x)).1.length=(aP d v).length∧(Dy d (aT (BX d F' v) j 0 (List.replicate (aP d v).length 0,x)).2∧v∉(aT (BX d F' v) j 0 (List.replicate (aP d v).length 0,x)).2.k.map (·.1))∧XL d (aT (BX d F' v) j 0 (List.replicate (aP d v).length 0,x)).2∧NOk d.ay (aT (BX d F' v) j 0 (List.replicate (aP d v).length 0,x)).2.n:=by
    intro j
    induction j with
    |zero=>intro _;exact⟨rfl,by simp[aT],⟨hx,OA⟩,hi,Yq⟩
    |succ j ih=>
     intro hj;have hj:j<(aP d v).length:=hj;obtain⟨q1,q2,⟨q3,q3'⟩,q4,q5⟩:=ih (by omega);rw[tJ,tJ,a3Z];generalize aT (BX d F' v) j 0 (List.replicate (aP d v).length 0,x)=y at q1 q2 q3 q3' q4 q5;rw[q1];have VE:=BM j hj;have ih2:=XO h PG hk r (a+1) (p.set c.toNat j) ((aP d v).getD j 0) y.2 F' uV.symm aQ (Fq j (by omega)) q3 q4 q5 (hrf j hj) (akj j hj) (by omega) (by omega) (akk j hj);refine⟨?_,by simp[BX,q2],⟨Pg h F' _ y.2 q3 (hrf j hj),XB F' _ v y.2 VE q3' (by omega) (fun i hi k hk=>(h.zy i hi k hk).1) (fun h5=>⟨h5,(hrf j hj).1⟩)⟩,(ZR h F' _ y.2 (by omega) (by omega) (hrf j hj) q3 q4).1,ZT h F' _ y.2 (hrf j hj) q5⟩;unfold vP;rw[ih2];refine ad1 ?_ rfl;show y.1.take j++[(cu d F' ((aP d v).getD j 0) y.2).1]=(y.1.set j (cu d F' ((aP d v).getD j 0) y.2).1).take (j+1);rw[a5R (by simp;omega),List.take_set_of_le (a0w _),List.getElem_set_self]
   obtain⟨q1,q2,⟨q3,q3'⟩,q4,q5⟩:=key _ (a0w _);rw[q1];have e:cu d (F'+1) v x=(eu (aT (BX d F' v) (aP d v).length 0 (List.replicate (aP d v).length 0,x)).2.n (au d v).var (aT (BX d F' v) (aP d v).length 0 (List.replicate (aP d v).length 0,x)).1,⟨(aT (BX d F' v) (aP d v).length 0 (List.replicate (aP d v).length 0,x)).2.e,dB (aT (BX d F' v) (aP d v).length 0 (List.replicate (aP d v).length 0,x)).2.n (au d v).var (aT (BX d F' v) (aP d v).length 0 (List.replicate (aP d v).length 0,x)).1,(aT (BX d F' v) (aP d v).length 0 (List.replicate (aP d v).length 0,x)).2.k++[(v,eu (aT (BX d F' v) (aP d v).length 0 (List.replicate (aP d v).length 0,x)).2.n (au d v).var (aT (BX d F' v) (aP d v).length 0 (List.replicate (aP d v).length 0,x)).1)]⟩):=by
    rw[cu,a0p (by simpa using hv0),a0p (by simpa using OA)]
   rw[e];generalize aT (BX d F' v) (aP d v).length 0 (List.replicate (aP d v).length 0,x)=y at q2 q5;rw[a8O (by omega),hvc];obtain⟨n1,n2⟩:=XH h.bJ.sz q5 nH (ks:=y.1) (by rw[q2];exact JX);rw[n1,n2]
  -- asked later,or an end
  have akl:a+1<=ED d.aG d.aj v:=by
   unfold ED at KO ⊢;split
   .omega
   rename_i c1;rw[a0p c1]at KO;have iE:d.aG.idxOf (d.aj.getD v.toNat jU).var≠a:=fun e=>by
    apply uU;refine⟨by omega,?_⟩;have a3y:v.toNat<d.aj.length:=by have:=hv.1;omega
    have hm:=lQ PG (h.var v.toNat a3y);have h1:=a8D (a4w.2 hm);have e:d.aG.idxOf (fC d v.toNat).var=a:=e;show(fC d v.toNat).var=c;rw[hc,<-h1];congr 1
   omega
  obtain⟨z1,z2,z3⟩:=ZR h F v x hF1 hF hv hx hi;have QI:=Pg h F v x hx hv;have ae7:=ZT h F v x hv Yq;have akm:cu d F v (cu d F v x).2=((cu d F v x).1,(cu d F v x).2):=by
   have e:∀y,Kn d y v->uQ d y v=(cu d F v x).1->cu d F v y=((cu d F v x).1,y):=fun y h1 h2=>by
    obtain⟨F',rfl⟩:∃k,F=k+1:=⟨F-1,by omega⟩;rw[MS h1,h2]
   exact e _ z2 z3
  have akn:∀j:Nat,∀q,gX d.ay q=true->ZO d.ay r q (p.set c.toNat j)->To d q v (l.getD (dV d.ay q).toNat V0):=fun j q hq hag=>hto q hq (ZO.back nH hag);have inv:=bU (g:=vP (fO d.ay l r) c p) (m:=(d.ay.getD c.toNat 0).toNat) (k:=0) (s:=([],(x.e,x.n))) (fun k y=>(k=0∧y=([],(x.e,x.n)))∨(0<k∧y=(List.replicate k (cu d F v x).1,((cu d F v x).2.e,(cu d F v x).2.n)))) (.inl ⟨rfl,rfl⟩) (fun j y _ hj hy=>by
   right;refine⟨by omega,?_⟩;rcases hy with⟨rfl,rfl⟩|⟨h0,rfl⟩
   .have ih:=XO h PG hk r (a+1) (p.set c.toNat ((0:Nat):Int)) v x F uV.symm aQ (Fq 0 (by omega)) hx hi Yq hv akl hF1 hF (akn 0);unfold vP;rw[ih];rfl
   have ih:=XO h PG hk r (a+1) (p.set c.toNat ((j:Nat):Int)) v (cu d F v x).2 F uV.symm aQ (Fq j (by omega)) QI z1 ae7 hv akl hF1 hF (akn j);rw[akm]at ih;unfold vP;rw[ih];refine ad1 ?_ rfl;show List.replicate j _++[_]=_;rw[List.replicate_succ'])
  rw[a3Z]at inv;rcases inv with⟨h0,_⟩|⟨h0,e⟩
  .omega
  rw[e];obtain⟨f1,f2⟩:=a7m (n:=(d.ay.getD c.toNat 0).toNat) (by omega) (cu d F v x).1;show(Dz _ c _,(_,oV _ c _))=_;unfold Dz oV;rw[a0q f1,a0q f1,f2]
theorem XP{d:Dg}(hl:aX d=0)(ho:d.aG.length<=ah)(he:d.aK.length<=ah):eU d=kF d.ay d.aG (cellsD d)∧OfP d.ay d.aG (cellsD d):=by
 obtain⟨h,hn⟩:=iY ho he (by rw[hl];rfl);have hf:(bY d.ay d.aG != 0)=false:=by
  unfold aX at hl;split at hl
  .rename_i c;rw[hl]at c;cases c
  rename_i c;simpa using c
 obtain⟨bJ,PG⟩:=jQ.1 (show bY d.ay d.aG=0 by simpa using hf);have hlen:((cellsD d).length:Int)=bg d.ay:=by unfold cellsD;rw[a4l,a8P,bJ.a6r]
 have hr:=h.root;have hr1:=hr.1;have hto:∀q,gX d.ay q=true->To d q d.root ((cellsD d).getD (dV d.ay q).toNat V0):=fun q hq=>by
  have hrn:=wS hq bJ.sz;have t:=To.of h hq 6001 d.root (by omega) hr;have e:(cellsD d).getD (dV d.ay q).toNat V0=vN d q:=by
   have aQ:(dV d.ay q).toNat<BD d.ay:=by unfold BD;omega
   unfold cellsD;rw[List.getD,a0g (by simpa using aQ)];simp only[a8M,agZ,a4M];rw[show(((dV d.ay q).toNat:Nat):Int)=dV d.ay q by omega,UF hq bJ.sz]
  rw[e];exact t
 have key:=XO (l:=cellsD d) h PG (XM hl) d.aG 0 (List.replicate d.ay.length 0) d.root ZL 6002 rfl (a4C _) (I8 bJ.sz) UQ (fun v hv=>by cases hv) (fun b hb=>by cases hb) hr (a4C _) (by omega) (by omega) (fun q hq _=>hto q hq);refine⟨?_,⟨bJ,PG,hlen⟩⟩;have key:fO d.ay (cellsD d) d.aG (List.replicate d.ay.length 0) ([],[])=_:=key;unfold eU kF;rw[key]
open Go Tw Pv dw
theorem PL(k:Int):FV (i64.wrap k):=by
 have e:i64.wrap k=if k%(2^64:Int)>=(2^63:Int)then k%(2^64:Int)-2^64 else k%(2^64:Int):=by
  show(if(true&&decide (k%(2^64:Int)>=(2^63:Int)))=true then _ else _)=_;by_cases c:k%(2^64:Int)>=(2^63:Int)
  .rw[a0q (by simpa using c),a0q c];rfl
  rw[a0p (by simpa using c),a0p c];rfl
 rw[e];unfold FV;split<;>constructor<;>omega
def EnW(x:EN):Prop:=∀b∈x.2,∀k∈b.aA,FV k
theorem a7n{s:List Int}{l:List V}(hs:kU s):∀(r p:List Int) (x:EN),(∀c∈r,fK c s.length)->EnW x->(fO s l r p x).2.2.length<2^61->EnW (fO s l r p x).2∧FV (fO s l r p x).1
 | [],p,x,_,hx,_=>⟨hx,PL _⟩
 |c::r,p,x,hr,hx,hE=>by
  have nH:=hr c (by simp);have hz:=hs _ (bP (s:=s) (k:=c.toNat) (by have:=nH.1;have:=nH.2;omega));have hN:=I9 (aT (vP (fO s l r) c p) (s.getD c.toNat 0).toNat 0 ([],x)).2.2 c (aT (vP (fO s l r) c p) (s.getD c.toNat 0).toNat 0 ([],x)).1;have hE:(oV (aT (vP (fO s l r) c p) (s.getD c.toNat 0).toNat 0 ([],x)).2.2 c (aT (vP (fO s l r) c p) (s.getD c.toNat 0).toNat 0 ([],x)).1).length<2^61:=hE;have inv:=bU (g:=vP (fO s l r) c p) (m:=(s.getD c.toNat 0).toNat) (k:=0) (s:=([],x)) (fun k y=>y.1.length=k∧(y.2.2.length<2^61->EnW y.2∧∀v∈y.1,FV v)) ⟨rfl,fun _=>⟨hx,by simp⟩⟩ (fun j y _ hj hy=>by
   refine⟨by simp[vP,hy.1],fun hE2=>?_⟩;have hE2:(fO s l r (p.set c.toNat j) y.2).2.2.length<2^61:=hE2;have hp:=(Pz (s:=s) (l:=l) r (p.set c.toNat j) y.2).2.length_le;obtain⟨y1,y2⟩:=hy.2 (by omega);obtain⟨z1,z2⟩:=a7n hs r (p.set c.toNat j) y.2 (fun c hc=>hr c (by simp[hc])) y1 hE2;refine⟨z1,fun v hv=>?_⟩;have hv:v∈y.1++[(fO s l r (p.set c.toNat j) y.2).1]:=hv;rcases a2Y.1 hv with hv|hv
   .exact y2 v hv
   rw[a2A.1 hv];exact z2)
  rw[a3Z]at inv;simp only[fO];generalize aT (vP (fO s l r) c p) (s.getD c.toNat 0).toNat 0 ([],x)=y at inv hN hE;obtain⟨ks,E,N⟩:=y;have hN:N <+: oV N c ks:=hN;have hE:(oV N c ks).length<2^61:=hE;obtain⟨i0,i1⟩:=inv;have i0:ks.length=(s.getD c.toNat 0).toNat:=i0;obtain⟨i1,i2⟩:=i1 (by have:=hN.length_le;show N.length<2^61;omega);have i1:∀b∈N,∀k∈b.aA,FV k:=i1;have i2:∀v∈ks,FV v:=i2;refine⟨fun b hb=>?_,?_⟩
  .have hb:b∈oV N c ks:=hb;unfold oV at hb;split at hb
   .exact i1 b hb
   split at hb
   .exact i1 b hb
   rcases a2Y.1 hb with hb|hb
   .exact i1 b hb
   rw[a2A.1 hb];exact i2
  show FV (Dz N c ks);by_cases hf:(ks.all fun x=>x==ks.getD 0 0)=true
  .rw[show Dz N c ks=ks.getD 0 0 from a0q hf];exact i2 _ (bP (s:=ks) (k:=0) (by omega))
  rw[show Dz N c ks=(N.idxOf (⟨c,ks⟩:Br):Nat)from a0p hf];have:=(UW (N:=N) (c:=c) hf).1;exact⟨by omega,by omega⟩
theorem aav{s o:List Int}{l:List V}(h:OfP s o l)(hv:∀v∈l,vOk v=true)(hf:∀v∈l,0<=v.f):Iz (kF s o l)∧kY (kF s o l)=0:=by
 obtain⟨hP,hn,ho⟩:=h.p;obtain⟨h1,h2,h3,h4,h5⟩:=FW h hv;have hw:=DC h.bJ.sz h.ord;have hm:=h.bJ.many;have hlen:=UR (l:=l) h.bJ.sz o (List.replicate s.length 0) ([],[]) hP.ord;have QK:(fO s l o (List.replicate s.length 0) ([],[])).2.2.length+1<=0+wO s o:=hlen.2;obtain⟨w1,w2⟩:=a7n (l:=l) h.bJ.sz o (List.replicate s.length 0) ([],[]) hP.ord (fun b hb=>by cases hb) (by omega);have hR:Iz (kF s o l):=⟨fun i hi k hk=>by
  have hb:fC (kF s o l) i∈(kF s o l).aj:=by
   show(kF s o l).aj.getD i jU∈_;rw[List.getD,a0g hi];exact a4r hi
  exact w1 _ hb _ (bP hk),w2,fun v hv=>hf v (h3 v hv)⟩
 refine⟨hR,?_⟩;obtain⟨ht,hn6⟩:=iY (d:=kF s o l) hP.a7f (by unfold ah;omega) (by rw[h1];rfl);have hc:=(XP (d:=kF s o l) h1 hP.a7f (by unfold ah;omega)).1;rw[ZP h hv]at hc;have hd:=(SQ ht hR (by omega) hn6).1 hc;unfold kY;rw[a0p (by rw[h1];decide),a0p (by rw[hd];decide)]
open Go Tw Pv dw
def adb:fA aC:=cO 121 (a1 dA) iA (fun p=>(vO p).2) (fun p=>[Iz p,p.ay.length<=ah,p.aG.length<=2^20,p.aK.length+1<=ah]) akh
theorem ako:Gd adb:=aps.add fun n hO p hp=>aO hO (.o (hp _ (.head _)) (.o (hp _ (.tail _ (.head _))) (.o (hp _ (.tail _ (.tail _ (.head _)))) (.o (hp _ (.tail _ (.tail _ (.tail _ (.head _))))) .rr))))
def zG(d:Dg):Dg×Int:=if((bG d).2 != 0)=true then(lX,(bG d).2)else(eU (bG d).1.d,0)
def a7o:fA aC:=cO 108 (a1 dA) (dR (a2 dA iA)) (fun p=>zG p) (fun p=>[Iz p,p.ay.length<=ah,p.aG.length<=2^20,p.aK.length<=ah,((bG p).2 != 0)=false->ClP (bG p).1]) adb
theorem ade:Gd a7o:=ako.add fun n hO p hp=>aO hO (.o (hp _ (.tail _ (.head _))) (.o (hp _ (.tail _ (.tail _ (.head _)))) (.o (hp _ (.tail _ (.tail _ (.tail _ (.head _))))) (.sh (fun _=>.rn (.dF [.agg [.nil .slc,.nil .slc,.nil .slc,.nil .slc,.int .i64 0],.int .i64 (bG p).2]) rfl) fun h=>.o (hp _ (.tail _ (.tail _ (.tail _ (.tail _ (.head _))))) h) .rr))))
def akp:fA aC:=cO 77 (a3 iA iA iA) tA (fun p=>(if decide (p.2.2>=p.1)=true then decide (p.2.2<=p.2.1)else false)) np a7o
theorem apx:Gd akp:=ade.add fun n hO p hp=>aO hO (.ss .rr .rr)
def a1O:fA aC:=cO 123 (a2 (a6h frA) dA) tA (fun p=>(if decide (p.2.ay=p.1.1)=true then decide (p.2.aG=p.1.2)else false)) (fun p=>[p.2.ay.length<=ah,p.2.aG.length<=ah]) akp
theorem akq:Gd a1O:=apx.add fun n hO p hp=>aO hO (.o (hp _ (.head _)) (.ss (.o (hp _ (.tail _ (.head _))) .rr) .rr))
end Go.Proofs.YtmobpoiejckagaaGreat
namespace Pv
open Go Tw
variable {X:kR} {P:Program}
theorem nZ.ZU(hX:bM X P){call:aY}{f:FuncId}{first xs cap vs:List (PV X.Γ)}{v v':PV X.Γ}{ext ext':List (PB X.Γ)}(hc:nZ X P call f vs v ext)(hv:views [] (first++xs++cap)=some vs)(hs:qV X 0 ext=some ext')
  (e:shift 0 v=v') (he:(if xE v||ext.any (hasB X)then aZ (kL.jY (first++xs++cap)) []else [])=([]:List (PB X.Γ))):aU X P call (.fn f first cap) xs [] v' ext':=by
 subst e;intro A m h tf qZ hr hf hx;cases hf with
 |gone hi _ _=>simp[bC]at hi
 |fn p1 p2 p3 p4=>
  obtain⟨w,h',m1,c1,c2,c3,c4,c5⟩:=Hf hX hc hr hv hs ⟨p1,p2⟩ hx ⟨p3,p4⟩;rw[he]at c2;exact⟨w,h',[],m1,c1,c2,c3,c4,c5,fun b hb=>by cases hb⟩
end Pv
namespace Go.Proofs.YtmobpoiejckagaaGreat
open Go Tw Pv dw
def a3z{α:Type}(g:α->Bool)(i:Nat)(x:α)(s:Unit):Unit⊕(Nat×α×Unit):=if(g x)=true then .inr (i,x,s)else .inl ()
def afy{α:Type}(d:α)(g:α->Bool)(l:List α):Int:=if(kG (mP (a3z g) l 0 ()))=true then -1 else(((Df (0,d,()) (mP (a3z g) l 0 ())).1:Int))
theorem a7p{α:Type}(g:α->Bool):∀(l:List α) (i:Nat),kG (mP (a3z g) l i ())=!(l.any g)
 | [],i=>rfl
 |x::l,i=>by
  simp only[mP,a3z,adh];cases g x
  .simpa using a7p g l (i+1)
  simp[kG]
theorem afz{α:Type}(d:α)(g:α->Bool)(l:List α):decide (afy d g l>=0)=l.any g:=by
 have:=a7p g l 0;unfold afy;rw[this];cases l.any g<;>simp
theorem fM{α:Type}{l:List α}{k:Nat}{d:α}(h:k<l.length):l.getD k d∈l:=by simp[List.getD,a0g h]
abbrev afA(f:Nat)(a c:List (PV aC))(H:List (PB aC))(l:List Dg)(i:Int)(x:List (Nat×PE aC)):aS aC:=⟨[(0,xL 26 l),(1,.val (.fn f a c)),(7,xi l.length),(8,xi i)]++x,[],H⟩
def akr(f:Nat)(a c:List (PV aC))(H:List (PB aC))(l:List Dg):Unit⊕(Nat×Dg×Unit)->Ex×aS aC
 |.inl _=>(.exit 0,afA f a c H l l.length [(9,xl false)])
 |.inr r=>(.ret,⟨[(4,xi r.1)],[],H⟩)
theorem apy{n f:Nat}{a c:List (PV aC)}{H:List (PB aC)}{g:Dg->Bool}(l:List Dg)(hf:∀x∈l,aU X0 Qp (bQ n) (.fn f a c) [.agg x.ps] H (.bool (g x)) H)(hl:l.length<=ah):aU X0 Qp (bQ (n+1)) (.fn 204 [] []) [lDg l,.fn f a c] H (iA.put (afy lX g l)) H:=by
 have lp:Jj n 204 0 H.length (afA f a c H l 0 []) (akr f a c H l (mP (a3z g) l 0 ())).1 (akr f a c H l (mP (a3z g) l 0 ())).2:=
  X4 (st:=fun i _=>afA f a c H l i []) lX (fun _ _=>True) (by kernel_rfl) hl Qd trivial (fun k s n hk _ ih=>aN gG (.b (bn hk) (.o (aH hk) (.k (hf (l.getD k lX) (fM hk)) (.ls (.ou nofun) (.nx (ih _ trivial))))))) (fun s _=>aN gG (.b (fB l.length) (.ou nofun)))
 exact jh gG (first:=[]) (cap:=[]) (.szh (fun h=>.w (jZ lp () h) .sr) (fun h=>.w (ku lp (0,lX,()) h) .sr))
theorem apz{n f:Nat}{a c:List (PV aC)}{H:List (PB aC)}{g:Dg->Bool}(l:List Dg)(hf:∀x∈l,aU X0 Qp (bQ n) (.fn f a c) [.agg x.ps] H (.bool (g x)) H)(hl:l.length<=ah):aU X0 Qp (bQ (n+2)) (.fn 173 [] []) [lDg l,.fn f a c] H (tA.put (l.any g)) H:=by
 rw[<-afz lX g l];have h1:=apy l hf hl;exact jh gG (first:=[]) (cap:=[]) (.k h1 .sr)
def Ia(f:List Int×List Int)(d:Dg):Bool:=if decide (d.ay=f.1)=true then decide (d.aG=f.2)else false
abbrev a7q(f:List Int×List Int):PV aC:=.fn 123 [.agg [lI f.1,lI f.2]] []
structure rU(d:Dg):Prop where
 r:Iz d
 s:d.ay.length<=ah
 o:d.aG.length<=2^20
 e:d.aK.length+1<=ah
theorem apA{n:Nat}(hO:Ok n a1O)(f:List Int×List Int)(l:List Dg)(hp:∀d∈l,rU d)(hl:l.length<=ah):aU X0 Qp (bQ (n+4)) (.fn 122 [] []) [a7q f,lDg l] [] (tA.put (l.all (Ia f))) []:=by
 have hs:∀d∈l,aU X0 Qp (bQ n) (a7q f) [.agg d.ps] [] (tA.put (Ia f d)) []:=fun d hd=>nZ.ZU hX (first:=[.agg [lI f.1,lI f.2]]) (cap:=[]) (hO 123 [.agg [lI f.1,lI f.2],.agg d.ps] (tA.put (Ia f d)) [] [d.ay.length<=ah,d.aG.length<=ah] (by kernel_rfl) (fun p h=>by
  have h9:=hp d hd;have h8:=h9.o;rcases a2r.1 h with rfl|h
  .exact h9.s
  rw[a2A.1 h];exact h8)) rfl rfl rfl rfl
 have h1:∀d∈l,aU X0 Qp (bQ (n+1)) (.fn 174 [] [.ptr 0 0 1]) [.agg d.ps] [.cells [a7q f]] (tA.put (!(Ia f d))) [.cells [a7q f]]:=fun d hd=>
  jh gG (first:=[]) (.fr [] (hs d hd) .sr)
 have h2:=apz l h1 hl;rw[<-Ej l (Ia f)];exact aU.drop hX (Dc hX gG (first:=[]) (cap:=[]) (H1:=[.cells [a7q f]]) (by kernel_rfl) (.k h2 .sr)) rfl rfl
abbrev wCk(l:List Dg)(i:Int)(x:List (Nat×PE aC)):aS aC:=⟨[(0,xL 26 l),(6,xL 26 l),(7,xi l.length),(8,xi i)]++x,[],[]⟩
abbrev cCk(l:List Dg)(k:Nat):Bool:=(vO (l.getD k lX)).2 != 0
def zCk(l:List Dg):Unit⊕Nat->Ex×aS aC
 |.inl _=>(.exit 0,wCk l l.length [(9,xl false)])
 |.inr k=>(.ret,⟨[(2,xi (vO (l.getD k lX)).2)],[(l.getD k lX).ps],[]⟩)
theorem lCk{n:Nat}(hO:Ok n a1O){l:List Dg}(hp:∀d∈l,rU d)(hl:l.length<=ah):Lp n 76 0 (wCk l 0 []) (zCk l (bF (cCk l) l.length)).1 (zCk l (bF (cCk l) l.length)).2:=by
 refine iL (st:=fun i _=>wCk l i []) (g:=gS (cCk l)) (out:=zCk l) (fun _ _=>True) (by kernel_rfl) hl trivial (fun k u m hk _ ih=>?_) (fun _ _=>?_)
 .have h9:=hp _ (fM (d:=lX) hk);unfold gS cCk;exact aN hO (.b (bn hk) (.o (aH hk) (.o h9.r (.o h9.s (.o h9.o (.o h9.e (.ls (.ou nofun) (.nx (ih _ trivial)))))))))
 exact aN hO (.b (fB l.length) (.ou nofun))
def bV(l:List Dg):Int:=if kG (bF (cCk l) l.length)=true then(if(!(l.all (Ia ((l.getD 0 lX).ay,(l.getD 0 lX).aG))))=true then 2 else 0)else(vO (l.getD (Df 0 (bF (cCk l) l.length)) lX)).2
def aks:fA aC:=cO 76 (a1 aoA) iA bV (fun l=>[∀d∈l,rU d,0<l.length∧l.length<=ah]) a1O
theorem apD:Gd aks:=akq.deep 4 fun n hn hO l hp=>by
 have h1:∀d∈l,rU d:=hp _ (.head _);have h2:0<l.length∧l.length<=ah:=hp _ (.tail _ (.head _));have hs:=apA (n:=n-4) (hO (n-4) (by omega)) ((l.getD 0 lX).ay,(l.getD 0 lX).aG) l h1 h2.2;rw[show n-4+4=n by omega]at hs;have i0:fK 0 l.length:=⟨by omega,by omega⟩;have hl:=lCk (hO n (by omega)) h1 h2.2;show nZ X0 Qp _ _ _ (iA.put (bV l)) _;unfold bV;exact aO (hO n (by omega)) (.zh (fun h=>.w (jZ hl () h) (.o i0 (.o i0 (.fr [] hs (.ss .rr .rr))))) (fun h=>.w (ku hl 0 h) .rr))
open Go Tw Pv dw
theorem a7r{n:Int}(h:0<=n∧n<=6):n=0∨n=1∨n=2∨n=3∨n=4∨n=5∨n=6:=by omega
theorem a7s:(0:Int)<=32:=by decide
def adf:fA aC:=cO 206 (a2 pA pA) (dR (a2 pA pA)) (fun p=>(0,p.2)) (fun p=>[p.1=1,0<=p.2∧p.2<=6]) aks
theorem akt:Gd adf:=apD.add fun n hO p hp=>by
 obtain⟨a,b⟩:=p;have h1:a=1:=hp _ (.head _);have h2:0<=b∧b<=6:=hp _ (.tail _ (.head _));subst h1;rcases a7r h2 with rfl|rfl|rfl|rfl|rfl|rfl|rfl
 all_goals exact aO hO (.o a7s (.o a7s (.o a7s (.o a7s (.o a7s .rr)))))
def adg:fA aC:=cO 175 (a2 pA pA) (dR (a2 pA pA)) (fun p=>(0,p.2)) (fun p=>[p.1=1,0<=p.2∧p.2<=6]) adf
theorem aku:Gd adg:=akt.add fun n hO p hp=>aO hO (.o (hp _ (.head _)) (.o (hp _ (.tail _ (.head _))) .rr))
def Ib:fA aC:=cO 124 (a2 pK iA) pK (fun p=>List.replicate p.2.toNat (-1)) (fun p=>[p.1=[-1],0<=p.2∧p.2<=6]) adg
theorem XQ:Gd Ib:=aku.add fun n hO p hp=>by
 obtain⟨a,b⟩:=p;have h1:a=[-1]:=hp _ (.head _);have h2:0<=b∧b<=6:=hp _ (.tail _ (.head _));subst h1;rcases a7r h2 with rfl|rfl|rfl|rfl|rfl|rfl|rfl
 .exact aO hO (.b (rfl:decide ((0:Int)<0)=false) (.o (rfl:(1:Int)=1) (.o (⟨by decide,by decide⟩:(0:Int)<=0∧(0:Int)<=6) (.b (rfl:decide ((0:Int)>0)=false) (.b (rfl:decide ((0:Int)>9223372036854775807)=false) (.o (rfl:(0:Int)=0) (.o (show(0:Int)<=0 by decide) (.o (show(0:Int)<=(ah:Int) by decide) (.m 8 le8 (.b (rfl:decide ((0:Int)<0)=false) .rr))))))))))
 .exact aO hO (.b (rfl:decide ((1:Int)<0)=false) (.o (rfl:(1:Int)=1) (.o (⟨by decide,by decide⟩:(0:Int)<=1∧(1:Int)<=6) (.b (rfl:decide ((0:Int)>0)=false) (.b (rfl:decide ((1:Int)>9223372036854775807)=false) (.o (rfl:(1:Int)=1) (.o (show(0:Int)<=1 by decide) (.o (show(1:Int)<=(ah:Int) by decide) (.m 8 le8 (.b (rfl:decide ((1:Int)<1)=false) .rr))))))))))
 .exact aO hO (.b (rfl:decide ((2:Int)<0)=false) (.o (rfl:(1:Int)=1) (.o (⟨by decide,by decide⟩:(0:Int)<=2∧(2:Int)<=6) (.b (rfl:decide ((0:Int)>0)=false) (.b (rfl:decide ((2:Int)>9223372036854775807)=false) (.o (rfl:(2:Int)=2) (.o (show(0:Int)<=2 by decide) (.o (show(2:Int)<=(ah:Int) by decide) (.m 8 le8 (.b (rfl:decide ((1:Int)<2)=true) (.o (show(0:Int)<=1 by decide) (.o (show(1:Int)<=2 by decide) (.o (show(2:Int)<=2 by decide) (.o (show(0:Int)<=0 by decide) (.o (show(0:Int)<=1 by decide) (.o (show(1:Int)<=2 by decide) (.b (rfl:decide ((2:Int)<2)=false) .rr)))))))))))))))))
 .exact aO hO (.b (rfl:decide ((3:Int)<0)=false) (.o (rfl:(1:Int)=1) (.o (⟨by decide,by decide⟩:(0:Int)<=3∧(3:Int)<=6) (.b (rfl:decide ((0:Int)>0)=false) (.b (rfl:decide ((3:Int)>9223372036854775807)=false) (.o (rfl:(3:Int)=3) (.o (show(0:Int)<=3 by decide) (.o (show(3:Int)<=(ah:Int) by decide) (.m 8 le8 (.b (rfl:decide ((1:Int)<3)=true) (.o (show(0:Int)<=1 by decide) (.o (show(1:Int)<=3 by decide) (.o (show(3:Int)<=3 by decide) (.o (show(0:Int)<=0 by decide) (.o (show(0:Int)<=1 by decide) (.o (show(1:Int)<=3 by decide) (.b (rfl:decide ((2:Int)<3)=true) (.o (show(0:Int)<=2 by decide) (.o (show(2:Int)<=3 by decide) (.o (show(3:Int)<=3 by decide) (.o (show(0:Int)<=0 by decide) (.o (show(0:Int)<=2 by decide) (.o (show(2:Int)<=3 by decide) (.b (rfl:decide ((3:Int)<3)=false) .rr))))))))))))))))))))))))
 .exact aO hO (.b (rfl:decide ((4:Int)<0)=false) (.o (rfl:(1:Int)=1) (.o (⟨by decide,by decide⟩:(0:Int)<=4∧(4:Int)<=6) (.b (rfl:decide ((0:Int)>0)=false) (.b (rfl:decide ((4:Int)>9223372036854775807)=false) (.o (rfl:(4:Int)=4) (.o (show(0:Int)<=4 by decide) (.o (show(4:Int)<=(ah:Int) by decide) (.m 8 le8 (.b (rfl:decide ((1:Int)<4)=true) (.o (show(0:Int)<=1 by decide) (.o (show(1:Int)<=4 by decide) (.o (show(4:Int)<=4 by decide) (.o (show(0:Int)<=0 by decide) (.o (show(0:Int)<=1 by decide) (.o (show(1:Int)<=4 by decide) (.b (rfl:decide ((2:Int)<4)=true) (.o (show(0:Int)<=2 by decide) (.o (show(2:Int)<=4 by decide) (.o (show(4:Int)<=4 by decide) (.o (show(0:Int)<=0 by decide) (.o (show(0:Int)<=2 by decide) (.o (show(2:Int)<=4 by decide) (.b (rfl:decide ((4:Int)<4)=false) .rr))))))))))))))))))))))))
 .exact aO hO (.b (rfl:decide ((5:Int)<0)=false) (.o (rfl:(1:Int)=1) (.o (⟨by decide,by decide⟩:(0:Int)<=5∧(5:Int)<=6) (.b (rfl:decide ((0:Int)>0)=false) (.b (rfl:decide ((5:Int)>9223372036854775807)=false) (.o (rfl:(5:Int)=5) (.o (show(0:Int)<=5 by decide) (.o (show(5:Int)<=(ah:Int) by decide) (.m 8 le8 (.b (rfl:decide ((1:Int)<5)=true) (.o (show(0:Int)<=1 by decide) (.o (show(1:Int)<=5 by decide) (.o (show(5:Int)<=5 by decide) (.o (show(0:Int)<=0 by decide) (.o (show(0:Int)<=1 by decide) (.o (show(1:Int)<=5 by decide) (.b (rfl:decide ((2:Int)<5)=true) (.o (show(0:Int)<=2 by decide) (.o (show(2:Int)<=5 by decide) (.o (show(5:Int)<=5 by decide) (.o (show(0:Int)<=0 by decide) (.o (show(0:Int)<=2 by decide) (.o (show(2:Int)<=5 by decide) (.b (rfl:decide ((4:Int)<5)=true) (.o (show(0:Int)<=4 by decide) (.o (show(4:Int)<=5 by decide) (.o (show(5:Int)<=5 by decide) (.o (show(0:Int)<=0 by decide) (.o (show(0:Int)<=4 by decide) (.o (show(4:Int)<=5 by decide) (.b (rfl:decide ((5:Int)<5)=false) .rr)))))))))))))))))))))))))))))))
 .exact aO hO (.b (rfl:decide ((6:Int)<0)=false) (.o (rfl:(1:Int)=1) (.o (⟨by decide,by decide⟩:(0:Int)<=6∧(6:Int)<=6) (.b (rfl:decide ((0:Int)>0)=false) (.b (rfl:decide ((6:Int)>9223372036854775807)=false) (.o (rfl:(6:Int)=6) (.o (show(0:Int)<=6 by decide) (.o (show(6:Int)<=(ah:Int) by decide) (.m 8 le8 (.b (rfl:decide ((1:Int)<6)=true) (.o (show(0:Int)<=1 by decide) (.o (show(1:Int)<=6 by decide) (.o (show(6:Int)<=6 by decide) (.o (show(0:Int)<=0 by decide) (.o (show(0:Int)<=1 by decide) (.o (show(1:Int)<=6 by decide) (.b (rfl:decide ((2:Int)<6)=true) (.o (show(0:Int)<=2 by decide) (.o (show(2:Int)<=6 by decide) (.o (show(6:Int)<=6 by decide) (.o (show(0:Int)<=0 by decide) (.o (show(0:Int)<=2 by decide) (.o (show(2:Int)<=6 by decide) (.b (rfl:decide ((4:Int)<6)=true) (.o (show(0:Int)<=4 by decide) (.o (show(4:Int)<=6 by decide) (.o (show(6:Int)<=6 by decide) (.o (show(0:Int)<=0 by decide) (.o (show(0:Int)<=4 by decide) (.o (show(4:Int)<=6 by decide) (.b (rfl:decide ((6:Int)<6)=false) .rr)))))))))))))))))))))))))))))))
open Go Tw Pv dw
structure S3 where
 a:Int
 b:Int
 c:Int
 deriving DecidableEq
abbrev S3.ps(s:S3):List (PV aC):=[.int .i64 s.a,.int .i64 s.b,.int .i64 s.c]
def S3.get(s:S3):Nat->Int
 | 0=>s.a
 | 1=>s.b
 |_=>s.c
def S3.set(s:S3)(k:Nat)(v:Int):S3:=match k with
 | 0=>⟨v,s.b,s.c⟩
 | 1=>⟨s.a,v,s.c⟩
 |_=>⟨s.a,s.b,v⟩
structure Jb where
 s:List Int
 o:List Int
 D:List Dg
 g:List Int
abbrev Jb.ps(J:Jb)(op:PV aC):List (PV aC):=[lI J.s,lI J.o,lDg J.D,lI J.g,op]
def kZ(d:Dg)(x c:Int):Bool:=if decide (x>=0)=true then((au d x).var==c)else false
def Ll(d:Dg)(x c g:Int):Int:=if kZ d x c=true then(au d x).aA.getD g.toNat 0 else x
theorem aaw{d:Dg}{x c:Int}(e:decide (x>=0)=false):kZ d x c=false:=by unfold kZ;rw[e];rfl
theorem a7t{d:Dg}{x c:Int}(e:decide (x>=0)=true):kZ d x c=((au d x).var==c):=by unfold kZ;rw[e];rfl
abbrev l7(D:List Dg)(k:Nat):Dg:=D.getD k lX
def jS(D:List Dg)(s:S3)(c:Int):Bool:=!(kG (bF (fun k=>kZ (l7 D k) (s.get k) c) D.length))
def bK(D:List Dg)(s:S3)(c g:Int):S3:=aT (fun k y=>y.set k (Ll (l7 D k) (y.get k) c g)) D.length 0 s
def eX(D:List Dg):S3:=aT (fun k y=>y.set k (l7 D k).root) D.length 0 ⟨0,0,0⟩
theorem three{k n:Nat}(h:k<n)(hn:n<=3):k=0∨k=1∨k=2:=by omega
theorem m3{n:Nat}(h:n<=3):n<=ah:=by unfold ah;omega
section
variable {M f:Nat} {a cc:List (PV aC)} {H:List (PB aC)}
abbrev wAs(J:Jb)(op:PV aC)(H:List (PB aC))(s:S3)(c:Int)(i:Int)(x:List (Nat×PE aC)):aS aC:=⟨[(2,xi c),(4,.loc 1 0),(10,xL 26 J.D),(11,xi J.D.length),(12,xi i)]++x,[J.ps op,s.ps],H⟩
def zAs(J:Jb)(op:PV aC)(H:List (PB aC))(s:S3)(c:Int):Unit⊕Nat->Ex×aS aC
 |.inl _=>(.exit 0,wAs J op H s c J.D.length [(13,xl false)])
 |.inr k=>(.ret,⟨[(6,xl true)],[J.ps op,s.ps,(l7 J.D k).ps],H⟩)
theorem lAs(J:Jb)(s:S3)(c:Int)(hD:J.D.length<=3)(hr:∀k,k<J.D.length->decide (s.get k>=0)=true->fK (s.get k) (l7 J.D k).aj.length):Jj M 127 0 H.length (wAs J (.fn f a cc) H s c 0 []) (zAs J (.fn f a cc) H s c (bF (fun k=>kZ (l7 J.D k) (s.get k) c) J.D.length)).1 (zAs J (.fn f a cc) H s c (bF (fun k=>kZ (l7 J.D k) (s.get k) c) J.D.length)).2:=by
 refine iL (st:=fun i _=>wAs J (.fn f a cc) H s c i []) (g:=gS (fun k=>kZ (l7 J.D k) (s.get k) c)) (out:=zAs J (.fn f a cc) H s c) (fun _ _=>True) (by kernel_rfl) (m3 hD) trivial (fun k u m hk _ ih=>?_) (fun _ _=>?_)
 .have h1:=hr k hk;have hg:gS (fun k=>kZ (l7 J.D k) (s.get k) c) k u=if kZ (l7 J.D k) (s.get k) c=true then .inr k else .inl u:=rfl
  cases e:decide (s.get k>=0)
  .rw[aaw e,a0p (by simp)]at hg;rw[hg];rcases three hk hD with rfl|rfl|rfl
   all_goals exact aN gG (.b (bn hk) (.o (aH hk) (.b e (.nx (ih _ trivial)))))
  rw[a7t e]at hg;rw[hg];rcases three hk hD with rfl|rfl|rfl
  all_goals exact aN gG (.b (bn hk) (.o (aH hk) (.b e (.o (h1 e) (.ls (.ou nofun) (.nx (ih _ trivial)))))))
 exact aN gG (.b (fB J.D.length) (.ou nofun))
theorem a7u(J:Jb)(s:S3)(c:Int)(hD:J.D.length<=3)(hr:∀k,k<J.D.length->decide (s.get k>=0)=true->fK (s.get k) (l7 J.D k).aj.length):aU X0 Qp (bQ (M+1)) (.fn 127 [] []) [.agg (J.ps (.fn f a cc)),.agg s.ps,.int .i64 c] H (.bool (jS J.D s c)) H:=by
 have lp:=lAs (M:=M) (f:=f) (a:=a) (cc:=cc) (H:=H) J s c hD hr;unfold jS;cases h:kG (bF (fun k=>kZ (l7 J.D k) (s.get k) c) J.D.length)
 .exact fU gG (first:=[]) (cap:=[]) (.w (ku lp 0 h) .er)
 exact fU gG (first:=[]) (cap:=[]) (.w (jZ lp () h) .er)
abbrev wAf(J:Jb)(op:PV aC)(H:List (PB aC))(s:S3)(c g:Int)(i:Int)(x:List (Nat×PE aC)):aS aC:=⟨[(2,xi c),(3,xi g),(5,.loc 1 0),(8,.loc 2 0),(12,xL 26 J.D),(13,xi J.D.length),(14,xi i)]++x,[J.ps op,s.ps,[.int .i64 0,.int .i64 0,.int .i64 0]],H⟩
structure a1P(d:Dg)(x c g:Int):Prop where
 n:decide (x>=0)=true->fK x d.aj.length
 k:kZ d x c=true->fK g (au d x).aA.length
theorem Js(J:Jb)(s:S3)(c g:Int)(hD:J.D.length<=3)(hr:∀k,k<J.D.length->a1P (l7 J.D k) (s.get k) c g):aU X0 Qp (bQ (M+1)) (.fn 129 [] []) [.agg (J.ps (.fn f a cc)),.agg s.ps,.int .i64 c,.int .i64 g] H (.agg (bK J.D s c g).ps) H:=by
 have lp:Jj M 129 0 H.length (wAf J (.fn f a cc) H s c g 0 []) (.exit 0) (wAf J (.fn f a cc) H (bK J.D s c g) c g J.D.length [(15,xl false)]):=by
  refine vw (σ:=S3) (N:=J.D.length) (g:=fun k y=>y.set k (Ll (l7 J.D k) (y.get k) c g)) (s0:=s) (st:=fun i y=>wAf J (.fn f a cc) H y c g i []) (fin:=fun y=>wAf J (.fn f a cc) H y c g J.D.length [(15,xl false)]) (fun j y=>∀k,j<=k->k<J.D.length->y.get k=s.get k) (by kernel_rfl) (m3 hD) (fun _ _ _=>rfl) (fun j y hj hy=>?_) (fun j y hj hy m e p g9=>?_) (fun y _=>?_)
  .intro k hk kQ;rw[<-hy k (by omega) kQ];rcases three kQ hD with rfl|rfl|rfl<;>rcases three hj hD with rfl|rfl|rfl<;>first|rfl|omega
  .have h1:=hr j hj;rw[<-hy j (a0w _) hj]at h1;obtain⟨h1,h2⟩:=h1;unfold Ll at g9;rcases three hj hD with rfl|rfl|rfl
   all_goals
    cases e1:decide (y.get _>=0)
    .unfold kZ at g9;rw[e1]at g9;exact aN gG (.b (bn hj) (.o (aH hj) (.b e1 (.go g9))))
    .have h3:=h1 e1;cases e2:(au (l7 J.D _) (y.get _)).var==c
     .unfold kZ at g9;rw[e1,a0q rfl,e2]at g9;exact aN gG (.b (bn hj) (.o (aH hj) (.b e1 (.o h3 (.b e2 (.go g9))))))
     .unfold kZ at g9 h2;rw[e1,a0q rfl,e2]at g9 h2;exact aN gG (.b (bn hj) (.o (aH hj) (.b e1 (.o h3 (.b e2 (.o h3 (.o (h2 rfl) (.go g9))))))))
  exact aN gG (.b (fB J.D.length) .ex)
 exact fU gG (first:=[]) (cap:=[]) (.w lp .er)
abbrev wSt(J:Jb)(op:PV aC)(H:List (PB aC))(s:S3)(i:Int)(x:List (Nat×PE aC)):aS aC:=⟨[(2,.loc 1 0),(6,xL 26 J.D),(7,xi J.D.length),(8,xi i)]++x,[J.ps op,s.ps],H⟩
theorem ZV(J:Jb)(hD:J.D.length<=3):aU X0 Qp (bQ (M+1)) (.fn 130 [] []) [.agg (J.ps (.fn f a cc))] H (.agg (eX J.D).ps) H:=by
 have lp:Jj M 130 0 H.length (wSt J (.fn f a cc) H ⟨0,0,0⟩ 0 []) (.exit 0) (wSt J (.fn f a cc) H (eX J.D) J.D.length [(9,xl false)]):=by
  refine vw (σ:=S3) (N:=J.D.length) (g:=fun k y=>y.set k (l7 J.D k).root) (s0:=⟨0,0,0⟩) (st:=fun i y=>wSt J (.fn f a cc) H y i []) (fin:=fun y=>wSt J (.fn f a cc) H y J.D.length [(9,xl false)]) (fun _ _=>True) (by kernel_rfl) (m3 hD) trivial (fun _ _ _ _=>trivial) (fun j y hj _ m e p g9=>?_) (fun y _=>?_)
  .rcases three hj hD with rfl|rfl|rfl
   all_goals exact aN gG (.b (bn hj) (.o (aH hj) (.go g9)))
  exact aN gG (.b (fB J.D.length) .ex)
 exact fU gG (first:=[]) (cap:=[]) (.w lp .er)
end
end Go.Proofs.YtmobpoiejckagaaGreat
namespace Pv
open Go Tw
section
variable {X:kR} {P:Program}
theorem aU.fzR(hX:bM X P){call:aY}{fv:PV X.Γ}{xs:List (PV X.Γ)}{H H1:List (PB X.Γ)}{v v':PV X.Γ}(hs:aU X P call fv xs H v H1)(is:List Nat)(hv:views H1 [v]=some [v'])(ho:∀i,i∈kL.jY [v]->i∈is):aU X P call fv xs H v' (aZ is H1):=by
 intro A m h tf qZ hr hf hx;obtain⟨w,h',ws,m1,k1,k2,k3,k4,k5,k6⟩:=hs A m h tf qZ hr hf hx;have hF:=iC (h:=h') is m1;have w1:=(lH (m':=bW is m1) hX k2 (.cons k3 .nil) hv ho).mono fun b hb=>FA.gone k2 hb;obtain⟨x,r,e,h1,_⟩:=w1.inv;cases e;exact⟨w,h',ws,bW is m1,k1,k2.aZ is,h1,k4.trans hF.1,k5.trans hF.2,k6⟩
end
end Pv
namespace Go.Proofs.YtmobpoiejckagaaGreat
open Go Tw Pv dw
def aV(D:List Dg)(s:S3):List V:=(List.range D.length).map fun k=>pW (l7 D k) (s.get k)
def gCe(D:List Dg)(s:S3)(k:Nat)(l:List V):List V:=l++[pW (l7 D k) (s.get k)]
theorem a7v(D:List Dg)(s:S3):aT (gCe D s) D.length 0 []=aV D s:=by
 have:=bU (g:=gCe D s) (m:=D.length) (k:=0) (s:=[]) (fun k l=>l=(List.range k).map fun k=>pW (l7 D k) (s.get k)) rfl (fun j l _ _ e=>by rw[gCe,e,abG,a4f];rfl);rw[a3Z]at this;exact this
abbrev wCe(J:Jb)(op:PV aC)(H:List (PB aC))(s:S3)(l:List V)(i:Int)(x:List (Nat×PE aC)):aS aC:=⟨[(3,.loc 1 0),(4,.val (.own H.length)),(8,xL 26 J.D),(9,xi J.D.length),(10,xi i)]++x,[J.ps op,s.ps],H++[.list false false 39 l]⟩
theorem a1Q{M f:Nat}(J:Jb)(s:S3)(hD:J.D.length<=3)(hr:∀k,k<J.D.length->fK (jE (s.get k)) (l7 J.D k).aK.length):aU X0 Qp (bQ (M+1)) (.fn 128 [] []) [.agg (J.ps (.fn f [] [])),.agg s.ps] [] (lV (aV J.D s)) []:=by
 have lp:Jj M 128 0 0 (wCe J (.fn f [] []) [] s [] 0 []) (.exit 0) (wCe J (.fn f [] []) [] s (aV J.D s) J.D.length [(11,xl false)]):=by
  rw[<-a7v J.D s];refine vw (σ:=List V) (N:=J.D.length) (g:=gCe J.D s) (s0:=[]) (st:=fun i l=>wCe J (.fn f [] []) [] s l i []) (fin:=fun l=>wCe J (.fn f [] []) [] s l J.D.length [(11,xl false)]) (fun k l=>l.length=k) (by kernel_rfl) (m3 hD) rfl (fun j y hj hy=>by simp[gCe,hy]) (fun j y hj hy m e p g9=>?_) (fun y _=>?_)
  .have h1:=hr j hj;have h2:y.length+[pW (l7 J.D j) (s.get j)].length<=ah:=by rw[hy,a3F];exact m3 (by omega)
   rcases three hj hD with rfl|rfl|rfl
   all_goals exact aN gG (.b (bn hj) (.o (aH hj) (.o h1 (.o h2 (.goG [.gc [2]] g9)))))
  exact aN gG (.b (fB J.D.length) .ex)
 have h0:aU X0 Qp (bQ (M+1)) (.fn 128 [] []) [.agg (J.ps (.fn f [] [])),.agg s.ps] [] (.own 0) ([]++[.list false false 39 (aV J.D s)]):=fU gG (first:=[]) (cap:=[]) (.wG [.GU 4 39] lp .er);exact aU.cut hX (aU.fzR hX h0 [0] (v':=lV (aV J.D s)) rfl (by decide)) rfl rfl rfl rfl
theorem aax{M f:Nat}{u:Int}(J:Jb)(s:S3)(hD:J.D.length<=3)(hr:∀k,k<J.D.length->fK (jE (s.get k)) (l7 J.D k).aK.length):aU X0 Qp (bQ (M+1)) (.fn 128 [] []) [.agg (J.ps (.fn f [] [.ptr 0 0 1])),.agg s.ps] [.aF [.int .u8 u]] (lV (aV J.D s)) [.aF [.int .u8 u]]:=by
 have lp:Jj M 128 0 1 (wCe J (.fn f [] [.ptr 0 0 1]) [.aF [.int .u8 u]] s [] 0 []) (.exit 0) (wCe J (.fn f [] [.ptr 0 0 1]) [.aF [.int .u8 u]] s (aV J.D s) J.D.length [(11,xl false)]):=by
  rw[<-a7v J.D s];refine vw (σ:=List V) (N:=J.D.length) (g:=gCe J.D s) (s0:=[]) (st:=fun i l=>wCe J (.fn f [] [.ptr 0 0 1]) [.aF [.int .u8 u]] s l i []) (fin:=fun l=>wCe J (.fn f [] [.ptr 0 0 1]) [.aF [.int .u8 u]] s l J.D.length [(11,xl false)]) (fun k l=>l.length=k) (by kernel_rfl) (m3 hD) rfl (fun j y hj hy=>by simp[gCe,hy]) (fun j y hj hy m e p g9=>?_) (fun y _=>?_)
  .have h1:=hr j hj;have h2:y.length+[pW (l7 J.D j) (s.get j)].length<=ah:=by rw[hy,a3F];exact m3 (by omega)
   rcases three hj hD with rfl|rfl|rfl
   all_goals exact aN gG (.b (bn hj) (.o (aH hj) (.o h1 (.o h2 (.goG [.gc [3]] g9)))))
  exact aN gG (.b (fB J.D.length) .ex)
 have h0:aU X0 Qp (bQ (M+1)) (.fn 128 [] []) [.agg (J.ps (.fn f [] [.ptr 0 0 1])),.agg s.ps] [.aF [.int .u8 u]] (.own 1) ([.aF [.int .u8 u]]++[.list false false 39 (aV J.D s)]):=fU gG (first:=[]) (cap:=[]) (.wG [.GU 4 39] lp .er);exact aU.cut hX (aU.fzR hX h0 [1] (v':=lV (aV J.D s)) rfl (by decide)) rfl rfl rfl rfl
open Go Tw Pv dw
def S3.l(s:S3):List Int:=[s.a,s.b,s.c]
theorem uSt:Tryz.prog.underlying 148=some (.array 3 3):=by kernel_rfl
theorem akv(a b:S3):aB Qp (Op.equal 148 (.agg (Dx .i64 a.l)) (.agg (Dx .i64 b.l)))=some (decide (a=b)):=by
 have:=BG (P:=Qp) 9998 (k:=.i64) (l:=a.l) (l':=b.l) uSt (by kernel_rfl) a3i (by kernel_rfl) rfl rfl;refine Eq.trans this ?_;obtain⟨a1,a2,a3⟩:=a;obtain⟨b1,b2,b3⟩:=b;simp[S3.l]
def kS:oU X0 Qp 148 S3 where
 pv x:=.agg x.ps
 tv x:=.agg [.int .i64 x.a,.int .i64 x.b,.int .i64 x.c]
 v x:=.agg (Dx .i64 x.l)
 hp _:=rfl
 ht _:=rfl
 hc em x:=by kernel_rfl
 hf x l:=afh uSt akv x l
 hk:=afi uSt akv
structure Mk where
 e:List V
 n:List Br
 k:List (S3×Int)
def UY(D:List Dg)(f:S3->Mk->Int×Mk)(s:S3)(c:Int)(j:Nat)(y:List Int×Mk):List Int×Mk:=(y.1++[(f (bK D s c j) y.2).1],(f (bK D s c j) y.2).2)
def knS(k:List (S3×Int))(s:S3):Int:=((k.find? fun e=>decide (e.1=s)).map (·.2)).getD 0
def jr(J:Jb)(op:List V->V):List Int->S3->Mk->Int×Mk
 | [],s,x=>(i64.wrap (0-((x.e++[op (aV J.D s)]).length:Int)),{ x with e:=x.e++[op (aV J.D s)] })
 |c::r,s,x=>if jS J.D s c=true then(if decide (J.g.getD c.toNat 0>=0)=true then jr J op r (bK J.D s c (J.g.getD c.toNat 0)) x
   else if s∈x.k.map (·.1)then(knS x.k s,x)
   else
    let y:=aT (UY J.D (jr J op r) s c) (J.s.getD c.toNat 0).toNat 0 ([],x)
    ((y.2.n.length:Int),⟨y.2.e,y.2.n++[⟨c,y.1⟩],y.2.k++[(s,(y.2.n.length:Int))]⟩))
  else jr J op r s x
abbrev Ic(k:List (S3×Int)):List (PV aC×PV aC):=kS.es (k.map fun e=>(e.1,.int .i64 e.2))
abbrev pM:List (PV aC):=[.ptr 2 0 5,.ptr 1 0 5,.ptr 3 0 1,.ptr 4 0 1]
abbrev HM0(J:Jb)(f:Nat)(x:Mk):List (PB aC):=[.map (Ic x.k),.cells [lI J.s,lI J.o,.own 5,.own 6,.int .i64 0],.aF (J.ps (.fn f [] [])),.aF [.fn 126 [] pM],.aF [.map 0],zC x.e,zD x.n]
abbrev aay(J:Jb)(f:Nat)(x:Mk):List (PB aC):=[.map (Ic x.k),.cells [lI J.s,lI J.o,.own 7,.own 8,.int .i64 0],.aF (J.ps (.fn f [] [])),.aF [.fn 126 [] pM],.aF [.map 0],.gone,.gone,zC x.e,zD x.n]
abbrev HM1(J:Jb)(f:Nat)(u:Int)(x:Mk):List (PB aC):=[.map (Ic x.k),.cells [lI J.s,lI J.o,.own 6,.own 7,.int .i64 0],.aF (J.ps (.fn f [] [.ptr 5 0 1])),.aF [.fn 126 [] pM],.aF [.map 0],.aF [.int .u8 u],zC x.e,zD x.n]
abbrev aaz(J:Jb)(f:Nat)(u:Int)(x:Mk):List (PB aC):=[.map (Ic x.k),.cells [lI J.s,lI J.o,.own 8,.own 9,.int .i64 0],.aF (J.ps (.fn f [] [.ptr 5 0 1])),.aF [.fn 126 [] pM],.aF [.map 0],.aF [.int .u8 u],.gone,.gone,zC x.e,zD x.n]
open Go Tw Pv dw
theorem S3.jy{s:S3}{i k:Nat}{v:Int}(hi:i<3)(hk:k<3):(s.set i v).get k=if k=i then v else s.get k:=by
 match i,k,hi,hk with
 | 0,0,_,_=>rfl
 | 0,1,_,_=>rfl
 | 0,2,_,_=>rfl
 | 1,0,_,_=>rfl
 | 1,1,_,_=>rfl
 | 1,2,_,_=>rfl
 | 2,0,_,_=>rfl
 | 2,1,_,_=>rfl
 | 2,2,_,_=>rfl
 |i+3,_,h,_=>omega
 |_,k+3,_,h=>omega
theorem Jt{D:List Dg}(hD:D.length<=3)(t:S3)(c g:Int){k:Nat}(hk:k<D.length):(bK D t c g).get k=Ll (l7 D k) (t.get k) c g:=by
 have:=bU (g:=fun k (y:S3)=>y.set k (Ll (l7 D k) (y.get k) c g)) (m:=D.length) (k:=0) (s:=t) (fun j y=>∀k,k<D.length->y.get k=if k<j then Ll (l7 D k) (t.get k) c g else t.get k) (fun k _=>by rw[a0p (by omega)]) (fun j y _ hj hy k hk=>by
  rw[S3.jy (by omega) (by omega)];by_cases e:k=j
  .subst e;rw[a0q rfl,a0q (by omega),hy k hk,a0p (by omega)]
  rw[a0p e,hy k hk];by_cases e2:k<j
  .rw[a0q e2,a0q (by omega)]
  rw[a0p e2,a0p (by omega)])
 have h:=this k hk;rw[a0q (by omega)]at h;exact h
theorem DF{D:List Dg}{t:S3}{c:Int}:jS D t c=true↔∃k,k<D.length∧kZ (l7 D k) (t.get k) c=true:=by
 unfold jS;constructor
 .intro h;refine abR fun h2=>?_;have:kG (bF (fun k=>kZ (l7 D k) (t.get k) c) D.length)=true:=dL.2 fun k hk=>by
   cases e:kZ (l7 D k) (t.get k) c
   .rfl
   exact absurd ⟨k,hk,e⟩ h2
  rw[this]at h;cases h
 rintro⟨k,hk,h⟩;cases e:kG (bF (fun k=>kZ (l7 D k) (t.get k) c) D.length)
 .rfl
 have:=dL.1 e k hk;rw[h]at this;cases this
theorem Eo{d:Dg}{x c:Int}:kZ d x c=true↔0<=x∧(au d x).var=c:=by
 unfold kZ;split
 .rename_i h;simp at h;simp[h]
 rename_i h;simp at h;simp;omega
structure DJ(J:Jb)(d:Dg):Prop where
 t:BF d
 n:d.aj.length<=6000
 s:d.ay=J.s
 o:d.aG=J.o
 rk:∀i,i<d.aj.length->∀k,k<(fC d i).aA.length->d.aG.idxOf (fC d i).var+1<=ED d.aG d.aj ((fC d i).aA.getD k 0)
 two:∀i,i<d.aj.length->2<=(fC d i).aA.length
structure kD(J:Jb):Prop where
 d3:J.D.length<=3
 bJ:rP J.s
 ord:kC J.s.length J.o=true
 dg:∀k,k<J.D.length->DJ J (l7 J.D k)
 gl:J.g.length=J.s.length
 gv:∀c,fK c J.s.length->0<=J.g.getD c.toNat 0->J.g.getD c.toNat 0<J.s.getD c.toNat 0
def Dp(J:Jb)(a:Nat)(t:S3):Prop:=∀k,k<J.D.length->jq (l7 J.D k) (t.get k) (l7 J.D k).aj.length∧a<=ED J.o (l7 J.D k).aj (t.get k)
theorem Dp.le{J:Jb}{a b:Nat}{t:S3}(h:Dp J a t)(hb:b<=a):Dp J b t:=fun k hk=>⟨(h k hk).1,by have:=(h k hk).2;omega⟩
section
variable {J:Jb} (hJ:kD J) {a:Nat} {t:S3} {c:Int} {r:List Int}
include hJ
theorem kD.o2:J.o.Nodup∧J.o.length=J.s.length∧∀c∈J.o,fK c J.s.length:=by
 have ho:=hJ.ord;unfold kC at ho;rw[a1o]at ho;exact⟨ho.2.2,ho.1,fun c hc=>⟨(ho.2.1 c hc).1,(ho.2.1 c hc).2⟩⟩
theorem kD.at_(hr:J.o.drop a=c::r):a<J.o.length∧J.o.getD a 0=c∧J.o.drop (a+1)=r∧c∈J.o∧J.o.idxOf c=a∧fK c J.s.length:=by
 have aQ:a<J.o.length:=by
  have:=congrArg List.length hr;rw[a3Y,a4d]at this;omega
 have hd:=a6D aQ;rw[hr]at hd;obtain⟨hc,uV⟩:=ah2 hd;have EC:c∈J.o:=by rw[hc];exact a4r aQ
 obtain⟨h1,h2,h3⟩:=kD.o2 hJ;exact⟨aQ,by rw[hc];simp[List.getD,a0g aQ],uV.symm,EC,by rw[hc];exact h1.idxOf_getElem a aQ,h3 c EC⟩
theorem ZW(hr:J.o.drop a=c::r)(h:jS J.D t c=true):¬Dp J (a+1) t:=fun hd=>by
 obtain⟨k,hk,h1⟩:=DF.1 h;obtain⟨x0,hv⟩:=Eo.1 h1;have:=(hd k hk).2;unfold ED at this;rw[a0p (by omega)]at this;have e:((l7 J.D k).aj.getD (t.get k).toNat jU).var=c:=hv;rw[e,(kD.at_ hJ hr).2.2.2.2.1]at this;omega
theorem a1R(hr:J.o.drop a=c::r)(hd:Dp J a t){k:Nat}(hk:k<J.D.length)(hn:kZ (l7 J.D k) (t.get k) c=false):a+1<=ED J.o (l7 J.D k).aj (t.get k):=by
 have h1:=(hd k hk).2;have h2:=kD.at_ hJ hr;by_cases x0:t.get k<0
 .unfold ED;rw[a0q x0];omega
 have iE:((l7 J.D k).aj.getD (t.get k).toNat jU).var≠c:=fun e=>by
  have:kZ (l7 J.D k) (t.get k) c=true:=Eo.2 ⟨by omega,e⟩;rw[hn]at this;cases this
 unfold ED at h1 ⊢;rw[a0p x0]at h1 ⊢;rcases a4h a (J.o.idxOf ((l7 J.D k).aj.getD (t.get k).toNat jU).var)with h3|h3
 .exact h3
 exfalso;have e:J.o.idxOf ((l7 J.D k).aj.getD (t.get k).toNat jU).var=a:=by omega
 have aQ:J.o.idxOf ((l7 J.D k).aj.getD (t.get k).toNat jU).var<J.o.length:=by rw[e];exact h2.1
 have g:J.o.getD (J.o.idxOf ((l7 J.D k).aj.getD (t.get k).toNat jU).var) 0=((l7 J.D k).aj.getD (t.get k).toNat jU).var:=by
  rw[List.getD,a0g aQ,a4M];exact a8D aQ
 rw[e,h2.2.1]at g;exact iE g.symm
theorem UZ(hr:J.o.drop a=c::r)(hd:Dp J a t)(h:jS J.D t c=false):Dp J (a+1) t:=fun k hk=>by
 refine⟨(hd k hk).1,a1R hJ hr hd hk ?_⟩;cases e:kZ (l7 J.D k) (t.get k) c
 .rfl
 .have:=DF.2 ⟨k,hk,e⟩;rw[h]at this;cases this
theorem Ie(hd:Dp J a t){k:Nat}(hk:k<J.D.length)(h:kZ (l7 J.D k) (t.get k) c=true):fK (t.get k) (l7 J.D k).aj.length∧(au (l7 J.D k) (t.get k)).var=c∧((au (l7 J.D k) (t.get k)).aA.length:Int)=J.s.getD c.toNat 0:=by
 obtain⟨x0,hv⟩:=Eo.1 h;have hr:fK (t.get k) (l7 J.D k).aj.length:=⟨x0,(hd k hk).1.1⟩;have hdj:=hJ.dg k hk;have:=hdj.t.ksz (t.get k).toNat (by have:=hr.2;omega);refine⟨hr,hv,?_⟩;have e:(au (l7 J.D k) (t.get k))=fC (l7 J.D k) (t.get k).toNat:=rfl;rw[e,this,<-e,hv,hdj.s]
theorem mY(hr:J.o.drop a=c::r)(hd:Dp J a t){j:Int}(hj:0<=j∧j<J.s.getD c.toNat 0):Dp J (a+1) (bK J.D t c j):=fun k hk=>by
 rw[Jt hJ.d3 t c j hk];unfold Ll;split
 .rename_i h;obtain⟨h1,h2,h3⟩:=Ie hJ hd hk h;have hdj:=hJ.dg k hk;have aQ:(t.get k).toNat<(l7 J.D k).aj.length:=by have:=h1.1;have:=h1.2;omega
  have JX:j.toNat<(fC (l7 J.D k) (t.get k).toNat).aA.length:=by
   have h3:((fC (l7 J.D k) (t.get k).toNat).aA.length:Int)=J.s.getD c.toNat 0:=h3;omega
  have g1:=hdj.t.zy (t.get k).toNat aQ j.toNat JX;have g2:=hdj.rk (t.get k).toNat aQ j.toNat JX;refine⟨⟨by have:=g1.1;show(fC (l7 J.D k) (t.get k).toNat).aA.getD j.toNat 0<_;omega,g1.2⟩,?_⟩;have e:(fC (l7 J.D k) (t.get k).toNat).var=c:=h2;rw[hdj.o,e,(kD.at_ hJ hr).2.2.2.2.1]at g2;exact g2
 .rename_i h;exact⟨(hd k hk).1,a1R hJ hr hd hk (by simpa using h)⟩
theorem Ju(hd:Dp J a t){j:Int}(hj:0<=j∧j<J.s.getD c.toNat 0){k:Nat}(hk:k<J.D.length):a1P (l7 J.D k) (t.get k) c j:=by
 refine⟨fun h=>⟨by simpa using h,(hd k hk).1.1⟩,fun h=>?_⟩;have:=(Ie hJ hd hk h).2.2;exact⟨hj.1,by rw[this];exact hj.2⟩
theorem V3(hr:J.o.drop a=c::r)(hd:Dp J a t)(h:jS J.D t c=true):2<=(J.s.getD c.toNat 0).toNat:=by
 obtain⟨k,hk,h1⟩:=DF.1 h;obtain⟨h2,h3,h4⟩:=Ie hJ hd hk h1;have:=(hJ.dg k hk).two (t.get k).toNat (by have:=h2.1;have:=h2.2;omega);have h4:((fC (l7 J.D k) (t.get k).toNat).aA.length:Int)=J.s.getD c.toNat 0:=h4;omega
theorem Jv(hd:Dp J J.o.length t){k:Nat}(hk:k<J.D.length):t.get k<0∧fK (jE (t.get k)) (l7 J.D k).aK.length:=by
 have h1:=hd k hk;have:t.get k<0:=by
  refine abR fun h=>?_;have h2:=h1.2;unfold ED at h2;rw[a0p h]at h2;have hdj:=hJ.dg k hk;have aQ:(t.get k).toNat<(l7 J.D k).aj.length:=by have:=h1.1.1;omega
  have hv:=hdj.t.var (t.get k).toNat aQ;rw[hdj.s]at hv;have:=a4w.2 (lQ hJ.ord hv);have e:(fC (l7 J.D k) (t.get k).toNat).var=((l7 J.D k).aj.getD (t.get k).toNat jU).var:=rfl;rw[e]at this;omega
 exact⟨this,h1.1.2 this⟩
end
open Go Tw Pv dw
def ov(g q:List Int):List Int:=List.zipWith (fun a b=>if 0<=a then a else b) g q
theorem Jw{g q:List Int}{k:Nat}(h:g.length=q.length):(ov g q).getD k 0=if k<g.length then(if 0<=g.getD k 0 then g.getD k 0 else q.getD k 0)else 0:=by
 unfold ov;by_cases hk:k<g.length
 .rw[a0q hk];simp[List.getD,List.getElem?_zipWith,a0g hk,a0g (show k<q.length by omega)]
 rw[a0p hk];simp[List.getD,List.getElem?_zipWith,a4e (show g.length<=k by omega)]
def a7y(J:Jb)(op:List V->V)(q:List Int)(t:S3)(v:V):Prop:=∃l:List V,l.length=J.D.length∧(∀k,k<J.D.length->To (l7 J.D k) (ov J.g q) (t.get k) (l.getD k V0))∧v=op l
def Sem(J:Jb)(op:List V->V)(v:Int)(t:S3)(x:EN):Prop:=∀Z:Dg,Z.aK.length<2^61->x.1 <+: Z.aK->x.2 <+: Z.aj->∀q,gX J.s q=true->∃u,To Z q v u∧a7y J op q t u
theorem Sem.mono{J:Jb}{op:List V->V}{v:Int}{t:S3}{x y:EN}(h:Sem J op v t x)(hp:Py x y):Sem J op v t y:=fun Z hZ h1 h2=>h Z hZ (hp.1.trans h1) (hp.2.trans h2)
abbrev Mk.en(x:Mk):EN:=(x.e,x.n)
def IB(v:V):Prop:=vOk v=true∧0<=v.f
structure XOk(J:Jb)(op:List V->V)(x:Mk):Prop where
 v:PtV J.s J.o x.en
 k:∀e∈x.k,fK e.2 x.n.length∧jS J.D e.1 (x.n.getD e.2.toNat jU).var=true∧Sem J op e.2 e.1 x.en
 nd:(x.k.map (·.1)).Nodup
 e:∀v∈x.e,IB v
 w:∀b∈x.n,∀v∈b.aA,FV v
structure a3A(J:Jb)(op:List V->V)(a:Nat)(w:Nat)(t:S3)(x:Mk)(z:Int×Mk):Prop where
 pre:Py x.en z.2.en
 el:z.2.e.length<=x.e.length+w
 nl:z.2.n.length+1<=x.n.length+w
 ok:XOk J op z.2
 rf:BN J.o z.2.en z.1 z.2.n.length a
 sm:Sem J op z.1 t z.2.en
 ks:∀e∈z.2.k,e∈x.k∨Dp J a e.1
 w:FV z.1
theorem XOk.mono{J:Jb}{op:List V->V}{x:Mk}{e:List V}(h:XOk J op x)(hp:x.e <+: e)(he:∀v∈e,IB v):XOk J op { x with e:=e }:=by
 have hq:Py x.en (e,x.n):=⟨hp,a4t⟩;exact⟨⟨h.v.var,h.v.ksz,fun i hi k hk=>(h.v.zy i hi k hk).mono hq (a0w _) (a99 hi) (a0w _)⟩,fun e he=>⟨(h.k e he).1,(h.k e he).2.1,(h.k e he).2.2.mono hq⟩,h.nd,he,h.w⟩
theorem PN{J:Jb}(hJ:kD J){op:List V->V}{q:List Int}{t:S3}{a:Nat}(hd:Dp J a t){c j:Int}{u:V}(hj:(ov J.g q).getD c.toNat 0=j)(h:a7y J op q (bK J.D t c j) u):a7y J op q t u:=by
 obtain⟨l,h1,h2,h3⟩:=h;refine⟨l,h1,fun k hk=>?_,h3⟩;have h4:=h2 k hk;rw[Jt hJ.d3 t c j hk]at h4;unfold Ll at h4;split at h4
 .rename_i h5;obtain⟨h6,h7,_⟩:=Ie hJ hd hk h5;refine .step h6.1 ?_;rw[h7,hj];exact h4
 exact h4
def qF(J:Jb)(op:List V->V):Prop:=∀t,Dp J J.o.length t->IB (op (aV J.D t))
theorem aaA{J:Jb}(hJ:kD J)(op:List V->V)(jK:qF J op){t:S3}{x:Mk}(hd:Dp J J.o.length t)(hx:XOk J op x)(hb:x.e.length+1<=2^60):a3A J op J.o.length 1 t x (jr J op [] t x):=by
 have e0:i64.wrap (0-((x.e++[op (aV J.D t)]).length:Int))=-1-(x.e.length:Int):=by
  rw[a1s,a3F,dZ (by omega) (by omega)];omega
 obtain⟨_,e2⟩:=PD (k:=x.e.length) (by omega);have hp:x.e <+: x.e++[op (aV J.D t)]:=a8E _ _;show a3A J op J.o.length 1 t x (i64.wrap (0-((x.e++[op (aV J.D t)]).length:Int)),_);rw[e0];refine⟨⟨hp,a4t⟩,by simp,a0w _,hx.mono hp (fun v hv=>by rcases a2Y.1 hv with hv|hv;exact hx.e v hv;rw[a2A.1 hv];exact jK t hd),⟨fun _=>?_,?_,?_⟩,fun Z hZ g1 g2 q hq=>?_,fun e he=>.inl he,⟨by show _<=-1-(x.e.length:Int);omega,by show -1-(x.e.length:Int)<_;omega⟩⟩
 .rw[e2];exact⟨by omega,by simp;omega⟩
 .show -1-(x.e.length:Int)<_;omega
 .unfold ED;rw[a0q (by show -1-(x.e.length:Int)<0;omega)];exact a0w _
 have h1:=To.fin (d:=Z) (q:=q) (r:=-1-(x.e.length:Int)) (by omega);rw[e2,a4I]at h1;have g1:x.e++[op (aV J.D t)] <+: Z.aK:=g1;have e3:Z.aK.getD x.e.length V0=op (aV J.D t):=by
  rw[zF g1 (by simp)];simp[List.getD]
 rw[e3]at h1;refine⟨_,h1,aV J.D t,by simp[aV],fun k hk=>?_,rfl⟩;have h2:=Jv hJ hd hk;have e4:(aV J.D t).getD k V0=pW (l7 J.D k) (t.get k):=by simp[aV,List.getD,hk]
 rw[e4];exact .fin h2.1
theorem DI{α:Type}{l:List α}{a:α}(h:l.Nodup)(ha:a∉l):(l++[a]).Nodup:=by
 rw[a8G];exact⟨h,by simp,fun x hx y hy e=>by simp at hy;subst hy;subst e;exact ha hx⟩
theorem Jy{α:Type}{l:List α}{x d:α}{j:Nat}:(l++[x]).getD j d=if j<l.length then l.getD j d else if j=l.length then x else d:=by
 split
 .rename_i h;simp[List.getD,a0k h]
 rename_i h;split
 .rename_i h2;subst h2;simp[List.getD]
 rename_i h2;rw[List.getD,a4e (by simp;omega)];rfl
theorem Tc{J:Jb}(hJ:kD J)(op:List V->V)(jK:qF J op):∀(r:List Int) (a:Nat) (t:S3) (x:Mk),J.o.drop a=r->a<=J.o.length->Dp J a t->XOk J op x->x.e.length+wO J.s r<=2^60->x.n.length+wO J.s r<=2^60->a3A J op a (wO J.s r) t x (jr J op r t x)
 | [],a,t,x,hr,ha,hd,hx,hb,xR=>by
  have:a=J.o.length:=by
   have:=congrArg List.length hr;rw[a3Y,a4H]at this;omega
  subst this;exact aaA hJ op jK hd hx hb
 |c::r,a,t,x,hr,ha,hd,hx,hb,xR=>by
  obtain⟨aQ,hoc,uV,EC,hci,nH⟩:=kD.at_ hJ hr;have hz:=hJ.bJ.sz _ (bP (s:=J.s) (k:=c.toNat) (by have:=nH.1;have:=nH.2;omega));have Yv:∀c'∈r,fK c' J.s.length:=fun c' h=>(kD.o2 hJ).2.2 c' (by rw[<-uV]at h;exact a4Q h);have hw:=Pq hJ.bJ.sz Yv;have hw1:wO J.s r<=(J.s.getD c.toNat 0).toNat*wO J.s r:=adu _ (by omega);simp only[wO]at hb xR ⊢;have up:∀{t':S3} {z:Int×Mk},a3A J op (a+1) (wO J.s r) t' x z->(∀q u,gX J.s q=true->a7y J op q t' u->a7y J op q t u)->a3A J op a ((J.s.getD c.toNat 0).toNat*wO J.s r) t x z:=fun{t' z} h hs=>
   ⟨h.pre,by have:=h.el;omega,by have:=h.nl;omega,h.ok,h.rf.mono Py.rfl (a0w _) (a0w _) (by omega),fun Z hZ g1 g2 q hq=>let ⟨u,u1,u2⟩:=h.sm Z hZ g1 g2 q hq;⟨u,u1,hs q u hq u2⟩,fun e he=>(h.ks e he).imp id fun h=>h.le (by omega),h.w⟩
  unfold jr;cases AQ:jS J.D t c
  .rw[a0p (by simp)];exact up (Tc hJ op jK r (a+1) t x uV aQ (UZ hJ hr hd AQ) hx (by omega) (by omega)) fun _ _ _ h=>h
  rw[a0q rfl];by_cases hg:J.g.getD c.toNat 0>=0
  .rw[a0q (by simpa using hg)];refine up (Tc hJ op jK r (a+1) _ x uV aQ (mY hJ hr hd ⟨hg,hJ.gv c nH hg⟩) hx (by omega) (by omega)) fun q u hq h=>PN hJ hd ?_ h;rw[Jw (by rw[hJ.gl,jm hq]),a0q (by rw[hJ.gl];have:=nH.1;have:=nH.2;omega),a0q hg]
  rw[a0p (by simpa using hg)];by_cases hk:t∈x.k.map (·.1)
  .rw[a0q hk];obtain⟨e,he,rfl⟩:=a1e.1 hk;have hkn:knS x.k e.1=e.2:=by
    have:x.k.find? (fun y=>decide (y.1=e.1))=some e:=by
     have jA:=hx.nd;clear hb up hk AQ hd;generalize x.k=l at he jA
     induction l with
     |nil=>cases he
     |cons y l ih=>
      rw[agL];rcases a2r.1 he with rfl|he
      .simp
      have:¬y.1=e.1:=fun h=>by
       rw[a4g,a4m]at jA;exact jA.1 (a1e.2 ⟨e,he,h.symm⟩)
      rw[adU this];rw[a4g,a4m]at jA;exact ih he jA.2
    unfold knS;rw[this];rfl
   rw[hkn];obtain⟨k1,k2,k3⟩:=hx.k e he;have hmul:2*1<=(J.s.getD c.toNat 0).toNat*wO J.s r:=agW (V3 hJ hr hd AQ) hw;refine⟨Py.rfl,by show x.e.length<=_;omega,by show x.n.length+1<=_;omega,hx,⟨fun h=>by have:=k1.1;show fK _ _;exact absurd h (by omega),k1.2,?_⟩,k3,fun _ h=>.inl h,⟨by have:=k1.1;show _<=e.2;omega,by have:=k1.2;show e.2<_;omega⟩⟩;obtain⟨k,hk,h1⟩:=DF.1 k2;obtain⟨x0,hv⟩:=Eo.1 h1;have h2:=(hd k hk).2;unfold ED at h2 ⊢;rw[a0p (by omega)]at h2;have k10:=k1.1;rw[a0p (show ¬e.2<0 by omega)];have hv:((l7 J.D k).aj.getD (e.1.get k).toNat jU).var=(x.n.getD e.2.toNat jU).var:=hv;rw[hv]at h2;exact h2
  rw[a0p hk];have hm2:=V3 hJ hr hd AQ;have VW:∀j,j<(J.s.getD c.toNat 0).toNat->j*wO J.s r+wO J.s r<=(J.s.getD c.toNat 0).toNat*wO J.s r:=fun j hj=>by
   have:(j+1)*wO J.s r<=(J.s.getD c.toNat 0).toNat*wO J.s r:=a3m _ hj;rw[a3k]at this;omega
  have inv:=bU (g:=UY J.D (jr J op r) t c) (m:=(J.s.getD c.toNat 0).toNat) (k:=0) (s:=([],x)) (fun k y=>y.1.length=k∧Py x.en y.2.en∧y.2.e.length<=x.e.length+k*wO J.s r∧y.2.n.length+k<=x.n.length+k*wO J.s r∧XOk J op y.2∧(∀e∈y.2.k,e∈x.k∨Dp J (a+1) e.1)∧(∀v∈y.1,FV v)∧∀j:Nat,j<k->BN J.o y.2.en (y.1.getD j 0) y.2.n.length (a+1)∧Sem J op (y.1.getD j 0) (bK J.D t c j) y.2.en)
   ⟨rfl,Py.rfl,by simp,by simp,hx,fun _ h=>.inl h,(fun v hv=>by cases hv),fun j hj=>by omega⟩ (fun j y _ hj hy=>by
    obtain⟨y1,y2,y3,y4,y5,y6,y8,y7⟩:=hy;have VW:=VW j (by omega);have h:=Tc hJ op jK r (a+1) (bK J.D t c j) y.2 uV aQ (mY hJ hr hd ⟨by omega,by omega⟩) y5 (by omega) (by omega);refine⟨by simp[UY,y1],y2.trans h.pre,?_,?_,h.ok,fun e he=>?_,fun v hv=>?_,fun j' DV=>?_⟩
    .have:=h.el;show(jr J op r (bK J.D t c j) y.2).2.e.length<=_;rw[a3k];omega
    .have:=h.nl;show(jr J op r (bK J.D t c j) y.2).2.n.length+_<=_;rw[a3k];omega
    .rcases h.ks e he with h1|h1
     .exact y6 e h1
     .exact .inr h1
    .have hv:v∈y.1++[(jr J op r (bK J.D t c j) y.2).1]:=hv;rcases a2Y.1 hv with hv|hv
     .exact y8 v hv
     .rw[a2A.1 hv];exact h.w
    .have e1:(UY J.D (jr J op r) t c j y).1.getD j' 0=if j'<j then y.1.getD j' 0 else(jr J op r (bK J.D t c j) y.2).1:=by
      show(y.1++[_]).getD j' 0=_;rw[Jy,y1];split
      .rfl
      .rw[a0q (by omega)]
     rw[e1];by_cases e:j'<j
     .rw[a0q e];obtain⟨a1,a2⟩:=y7 j' e;exact⟨a1.mono h.pre h.pre.2.length_le (a0w _) (a0w _),a2.mono h.pre⟩
     .rw[a0p e];have e:j'=j:=(by omega);subst e;exact⟨h.rf,h.sm⟩)
  rw[a3Z]at inv;simp only[];generalize aT (UY J.D (jr J op r) t c) (J.s.getD c.toNat 0).toNat 0 ([],x)=y at inv;obtain⟨ks,m⟩:=y;obtain⟨y1,y2,y3,y4,y5,y6,y8,y7⟩:=inv;have y1:ks.length=(J.s.getD c.toNat 0).toNat:=y1;have hp:Py m.en (m.e,m.n++[(⟨c,ks⟩:Br)]):=⟨a4t,a8E _ _⟩;have gq:(m.n++[(⟨c,ks⟩:Br)]).getD m.n.length jU=⟨c,ks⟩:=by simp[List.getD]
  have a4S:Sem J op (m.n.length:Int) t (m.e,m.n++[(⟨c,ks⟩:Br)]):=fun Z hZ g1 g2 q hq=>by
   have g2:m.n++[(⟨c,ks⟩:Br)] <+: Z.aj:=g2;have Yo:=(jo.1 hq).2 c.toNat (by have:=nH.1;have:=nH.2;omega);have hj:(q.getD c.toNat 0).toNat<(J.s.getD c.toNat 0).toNat:=(by omega);obtain⟨u,u1,u2⟩:=(y7 _ hj).2 Z hZ g1 ((a8E _ _).trans g2) q hq;have en:au Z (m.n.length:Int)=⟨c,ks⟩:=by
    show Z.aj.getD (m.n.length:Int).toNat jU=_;rw[a4I,zF g2 (by simp),gq]
   refine⟨u,.step (by omega) (by rw[en];exact u1),PN hJ hd ?_ u2⟩;rw[Jw (by rw[hJ.gl,jm hq]),a0q (by rw[hJ.gl];have:=nH.1;have:=nH.2;omega),a0p (by omega)];omega
  have hv2:PtV J.s J.o (m.e,m.n++[(⟨c,ks⟩:Br)]):=by
   have hg:∀i,i<(m.n++[(⟨c,ks⟩:Br)]).length->(i<m.n.length∧(m.n++[(⟨c,ks⟩:Br)]).getD i jU=m.n.getD i jU)∨(i=m.n.length∧(m.n++[(⟨c,ks⟩:Br)]).getD i jU=⟨c,ks⟩):=fun i hi=>by
    simp only[a1s,a3F]at hi;rcases a4h i m.n.length with h|h
    .exact .inl ⟨h,by rw[Jy,a0q h]⟩
    exact .inr ⟨by omega,by rw[show i=m.n.length by omega,gq]⟩
   refine⟨fun i hi=>?_,fun i hi=>?_,fun i hi k hk=>?_⟩
   .rcases hg i hi with⟨h1,h2⟩|⟨h1,h2⟩
    .show fK ((m.n++[_]).getD i jU).var _;rw[h2];exact y5.v.var i h1
    show fK ((m.n++[_]).getD i jU).var _;rw[h2];exact nH
   .rcases hg i hi with⟨h1,h2⟩|⟨h1,h2⟩
    .show(((m.n++[_]).getD i jU).aA.length:Int)=J.s.getD ((m.n++[_]).getD i jU).var.toNat 0;rw[h2];exact y5.v.ksz i h1
    show(((m.n++[_]).getD i jU).aA.length:Int)=J.s.getD ((m.n++[_]).getD i jU).var.toNat 0;rw[h2];show(ks.length:Int)=J.s.getD c.toNat 0;omega
   rcases hg i hi with⟨h1,h2⟩|⟨h1,h2⟩
   .have hk:k<((m.n++[(⟨c,ks⟩:Br)]).getD i jU).aA.length:=hk;show BN J.o _ (((m.n++[(⟨c,ks⟩:Br)]).getD i jU).aA.getD k 0) i (J.o.idxOf ((m.n++[(⟨c,ks⟩:Br)]).getD i jU).var+1);rw[h2]at hk ⊢;exact(y5.v.zy i h1 k hk).mono hp (a0w _) (a99 h1) (a0w _)
   have hk:k<((m.n++[(⟨c,ks⟩:Br)]).getD i jU).aA.length:=hk;show BN J.o _ (((m.n++[(⟨c,ks⟩:Br)]).getD i jU).aA.getD k 0) i (J.o.idxOf ((m.n++[(⟨c,ks⟩:Br)]).getD i jU).var+1);rw[h2]at hk ⊢;have hk:k<ks.length:=hk;subst h1;show BN J.o _ (ks.getD k 0) m.n.length (J.o.idxOf c+1);rw[hci];exact(y7 k (by omega)).1.mono hp (a0w _) (a0w _) (a0w _)
  have y5:XOk J op m:=y5;have y6:∀e∈m.k,e∈x.k∨Dp J (a+1) e.1:=y6;refine⟨y2.trans hp,y3,?_,⟨hv2,fun e he=>?_,?_,y5.e,fun b hb=>?_⟩,⟨fun h=>?_,?_,?_⟩,a4S,fun e he=>?_,⟨by show _<=(m.n.length:Int);omega,by have y4:m.n.length+_<=x.n.length+_:=y4;show(m.n.length:Int)<_;omega⟩⟩
  .show(m.n++[_]).length+1<=_;rw[a1s,a3F];have y4:m.n.length+(J.s.getD c.toNat 0).toNat<=x.n.length+(J.s.getD c.toNat 0).toNat*wO J.s r:=y4;omega
  .rcases a2Y.1 he with he|he
   .obtain⟨k1,k2,k3⟩:=y5.k e he;have aQ:e.2.toNat<m.n.length:=by have:=k1.1;have:=k1.2;omega
    refine⟨⟨k1.1,?_⟩,?_,k3.mono hp⟩
    .have:=k1.2;show e.2<((m.n++[_]).length:Int);rw[a1s];omega
    show jS J.D e.1 ((m.n++[_]).getD e.2.toNat jU).var=true;rw[Jy,a0q aQ];exact k2
   rw[a2A.1 he];refine⟨⟨by omega,by show(m.n.length:Int)<((m.n++[_]).length:Int);rw[a1s,a3F];omega⟩,?_,a4S⟩;show jS J.D t ((m.n++[_]).getD (m.n.length:Int).toNat jU).var=true;rw[a4I,gq];exact AQ
  .rw[a4f];refine DI y5.nd fun h=>?_;obtain⟨e,he,e2⟩:=a1e.1 h;rcases y6 e he with h1|h1
   .exact hk (a1e.2 ⟨e,h1,e2⟩)
   rw[e2]at h1;exact ZW hJ hr AQ h1
  .have hb:b∈m.n++[(⟨c,ks⟩:Br)]:=hb;rcases a2Y.1 hb with hb|hb
   .exact y5.w b hb
   rw[a2A.1 hb];exact y8
  .exact absurd h (by show ¬((m.n.length:Int)<0);omega)
  .show(m.n.length:Int)<((m.n++[_]).length:Int);rw[a1s,a3F];omega
  .show a<=ED J.o (m.n++[_]) (m.n.length:Int);unfold ED;rw[a0p (by omega),a4I,gq];show a<=J.o.idxOf c;omega
  rcases a2Y.1 he with he|he
  .rcases y6 e he with h1|h1
   .exact .inl h1
   exact .inr (h1.le (by omega))
  rw[a2A.1 he];exact .inr hd
open Go Tw Pv dw
def jT(J:Jb)(op:List V->V):Dg:=⟨J.s,J.o,(jr J op J.o (eX J.D) ⟨[],[],[]⟩).2.e,(jr J op J.o (eX J.D) ⟨[],[],[]⟩).2.n,(jr J op J.o (eX J.D) ⟨[],[],[]⟩).1⟩
def AU(J:Jb)(op:List V->V):Dg:=(zG (jT J op)).1
def Jz(J:Jb)(op:List V->V):List V:=(List.range (BD J.s)).map fun(k:Nat)=>op (J.D.map fun d=>vN d (ov J.g (jW J.s k)))
theorem vX{D:List Dg}(hD:D.length<=3){k:Nat}(hk:k<D.length):(eX D).get k=(l7 D k).root:=by
 have:=bU (g:=fun k (y:S3)=>y.set k (l7 D k).root) (m:=D.length) (k:=0) (s:=⟨0,0,0⟩) (fun j y=>∀k,k<j->y.get k=(l7 D k).root) (fun k hk=>by omega) (fun j y _ hj hy k hk=>by
  rw[S3.jy (by omega) (by omega)];by_cases e:k=j
  .rw[a0q e,e]
  rw[a0p e];exact hy k (by omega))
 exact this k (by omega)
theorem akw{J:Jb}(hJ:kD J){q:List Int}(hq:gX J.s q=true):gX J.s (ov J.g q)=true:=by
 have hl:=jm hq;refine jo.2 ⟨by simp[ov,adJ,hJ.gl,hl],fun k hk=>?_⟩;rw[Jw (by rw[hJ.gl,hl]),a0q (by rw[hJ.gl];exact hk)];split
 .rename_i h;exact⟨h,hJ.gv (k:Int) (aH hk) h⟩
 exact(jo.1 hq).2 k hk
theorem ZX{J:Jb}(hJ:kD J){op:List V->V}(jK:qF J op):a3A J op 0 (wO J.s J.o) (eX J.D) ⟨[],[],[]⟩ (jr J op J.o (eX J.D) ⟨[],[],[]⟩):=by
 have hw:=DC hJ.bJ.sz hJ.ord;have hm:=hJ.bJ.many;refine Tc hJ op jK J.o 0 (eX J.D) ⟨[],[],[]⟩ (abu) (a4C _) (fun k hk=>?_) ⟨⟨fun i hi=>(by simp at hi),fun i hi=>(by simp at hi),fun i hi=>(by simp at hi)⟩,fun e he=>(by cases he),a6z,fun v hv=>(by cases hv),fun b hb=>(by cases hb)⟩ (by show 0+wO J.s J.o<=_;omega) (by show 0+wO J.s J.o<=_;omega);rw[vX hJ.d3 hk];exact⟨(hJ.dg k hk).t.root,a4C _⟩
theorem zH{J:Jb}(hJ:kD J){op:List V->V}(jK:qF J op):aX (jT J op)=0∧(jT J op).aK.length<=2000∧∀v∈(jT J op).aK,IB v:=by
 have h:=ZX hJ jK;have hw:=DC hJ.bJ.sz hJ.ord;have hm:=hJ.bJ.many;have h1:(jT J op).aK.length<=0+wO J.s J.o:=h.el;have h2:(jT J op).aj.length+1<=0+wO J.s J.o:=h.nl;refine⟨SV (by unfold ah;omega) ?_ (fun v hv=>(h.ok.e v hv).1) (by omega) h.ok.v h.rf,by omega,h.ok.e⟩;have:bY J.s J.o=0:=jQ.2 ⟨hJ.bJ,hJ.ord⟩;show(bY J.s J.o != 0)=false;rw[this];rfl
theorem a7z{J:Jb}(hJ:kD J){op:List V->V}(jK:qF J op):Iz (jT J op):=by
 have h:=ZX hJ jK;exact⟨fun i hi k hk=>h.ok.w _ (Xz hi) _ (bP hk),h.w,fun v hv=>(h.ok.e v hv).2⟩
theorem Ig{J:Jb}(hJ:kD J){op:List V->V}(jK:qF J op):bG (jT J op)=(yI (jT J op),0)∧AU J op=kF J.s J.o (cellsD (jT J op)):=by
 obtain⟨h1,h2,h3⟩:=zH hJ jK;have hr:=a7z hJ jK;have ho:=(kD.o2 hJ).2.1;have hl:=hJ.bJ.len;have e:=Jo hr (by unfold ah;omega);rw[h1]at e;have hf:¬(bY (jT J op).ay (jT J op).aG != 0)=true:=by
  have:bY J.s J.o=0:=jQ.2 ⟨hJ.bJ,hJ.ord⟩;show ¬(bY J.s J.o != 0)=true;rw[this];simp
 rw[a0p hf]at e;refine⟨e,?_⟩;unfold AU zG;rw[e];show eU (jT J op)=_;exact(XP h1 (by show J.o.length<=ah;unfold ah;omega) (by unfold ah;omega)).1
theorem a3B{J:Jb}(hJ:kD J){op:List V->V}(jK:qF J op):cellsD (jT J op)=Jz J op:=by
 obtain⟨h1,h2,h3⟩:=zH hJ jK;have h:=ZX hJ jK;have ho:=(kD.o2 hJ).2.1;have hl:=hJ.bJ.len;have ht:=(iY (d:=jT J op) (by show J.o.length<=ah;unfold ah;omega) (by unfold ah;omega) (by rw[h1];rfl));unfold cellsD Jz;refine a4O fun k _=>?_;have hq:gX J.s (jW J.s k)=true:=tK _ hJ.bJ.sz;obtain⟨u,u1,l,l1,l2,rfl⟩:=h.sm (jT J op) (by omega) a4t a4t (jW J.s k) hq;have e1:=u1.at_ ht.1 hq 6001 (by have:=h.rf.2.1;have:=ht.2;show(jT J op).root<_;have e:(jT J op).aj.length=(jr J op J.o (eX J.D) ⟨[],[],[]⟩).2.n.length:=rfl;have e2:(jT J op).root=(jr J op J.o (eX J.D) ⟨[],[],[]⟩).1:=rfl;omega) ht.1.root;show vN (jT J op) (jW J.s k)=_;unfold vN;have e1:op l=(jT J op).aK.getD (jE (ZJ (jT J op) (jW J.s k) 6001 (jT J op).root)).toNat V0:=e1;rw[<-e1];congr 1;refine(oP (d:=V0) (by rw[l1,a4l])).2 fun i hi=>?_;rw[l1]at hi;have hd:=hJ.dg i hi;have h5:=l2 i hi;rw[vX hJ.d3 hi]at h5;have hov:gX (l7 J.D i).ay (ov J.g (jW J.s k))=true:=by rw[hd.s];exact akw hJ hq
 have h6:=h5.at_ hd.t hov 6001 (by have:=hd.t.root.1;have:=hd.n;omega) hd.t.root;rw[h6];simp[List.getD,a4q,a0g hi,vN,atR]
theorem mk_eq{J:Jb}(hJ:kD J){op:List V->V}(jK:qF J op):AU J op=kF J.s J.o (Jz J op):=by
 rw[(Ig hJ jK).2,a3B hJ jK]
end Go.Proofs.YtmobpoiejckagaaGreat
namespace dw
open Tw
section
variable {κ:Type} [DecidableEq κ]
def rY(m:List (κ×Int))(k:κ)(n:Int):List (κ×Int):=
 if k∈m.map (·.1)then m.modify ((m.map (·.1)).idxOf k) (fun e=>(e.1,e.2+n))else m++[(k,n)]
def dH(φ:κ->Int):List (κ×Int)->Int
 | []=>0
 |e::m=>e.2*φ e.1+dH φ m
theorem XR(φ:κ->Int):∀a b:List (κ×Int),dH φ (a++b)=dH φ a+dH φ b
 | [],b=>by simp[dH]
 |e::a,b=>by simp only[List.cons_append,dH,XR φ a b];omega
theorem XT(φ:κ->Int){k:κ}{n:Int}:∀{m:List (κ×Int)},k∈m.map (·.1)->dH φ (m.modify ((m.map (·.1)).idxOf k) fun e=>(e.1,e.2+n))=dH φ m+n*φ k
 | [],h=>by simp at h
 |e::m,h=>by
  by_cases e1:e.1=k
  .have:((e::m).map (·.1)).idxOf k=0:=(by simp[adt,e1]);rw[this];simp only[List.modify_zero_cons,dH,afB,e1];omega
  have h2:k∈m.map (·.1):=by
   rw[a4g,a2r]at h;exact h.resolve_left fun h=>e1 h.symm
  have:((e::m).map (·.1)).idxOf k=(m.map (·.1)).idxOf k+1:=by
   simp[adt,agT.2 e1]
  rw[this];simp only[List.modify_succ_cons,dH,XT φ h2];omega
theorem zI(φ:κ->Int)(m:List (κ×Int))(k:κ)(n:Int):dH φ (rY m k n)=dH φ m+n*φ k:=by
 unfold rY;split
 .exact XT φ ‹_›
 rw[XR];simp[dH]
theorem XU{f:Int->Int}:∀(m:List (κ×Int)) (j:Nat),(m.modify j fun e=>(e.1,f e.2)).map (·.1)=m.map (·.1)
 | [],j=>by simp
 |e::m,0=>by simp
 |e::m,j+1=>by simp[XU m j]
theorem Td(m:List (κ×Int))(k:κ)(n:Int):(rY m k n).map (·.1)=if k∈m.map (·.1)then m.map (·.1)else m.map (·.1)++[k]:=by
 unfold rY;split
 .exact XU (f:=fun x=>x+n) m _
 simp
theorem FX{m:List (κ×Int)}(h:(m.map (·.1)).Nodup)(k:κ)(n:Int):((rY m k n).map (·.1)).Nodup:=by
 rw[Td];split
 .exact h
 rename_i h2;rw[a8G];exact⟨h,by simp,fun x hx y hy e=>by simp at hy;subst hy;subst e;exact h2 hx⟩
theorem a1S{f:κ×Int->κ×Int}:∀{m:List (κ×Int)} {j:Nat} {e:κ×Int},e∈m.modify j f->e∈m∨∃e'∈m,e=f e'
 | [],j,e,h=>by simp at h
 |x::m,0,e,h=>by
  rw[List.modify_zero_cons,a2r]at h;rcases h with h|h
  .exact .inr ⟨x,by simp,h⟩
  exact .inl (by simp[h])
 |x::m,j+1,e,h=>by
  rw[List.modify_succ_cons,a2r]at h;rcases h with h|h
  .exact .inl (by simp[h])
  rcases a1S h with h|⟨e',h1,h2⟩
  .exact .inl (by simp[h])
  exact .inr ⟨e',by simp[h1],h2⟩
theorem PO{m:List (κ×Int)}{k:κ}{n:Int}(hn:0<n)(h:∀e∈m,0<e.2):∀e∈rY m k n,0<e.2:=fun e he=>by
 unfold rY at he;split at he
 .rcases a1S he with h1|⟨e',h1,rfl⟩
  .exact h e h1
  .have:=h e' h1;show 0<e'.2+n;omega
 .rcases a2Y.1 he with h1|h1
  .exact h e h1
  .rw[a2A.1 h1];exact hn
theorem a7A{m:List (κ×Int)}{k:κ}{n:Int}{e:κ×Int}(he:e∈rY m k n):e.1=k∨∃e'∈m,e'.1=e.1:=by
 have:e.1∈(rY m k n).map (·.1):=a1e.2 ⟨e,he,rfl⟩;rw[Td]at this;split at this
 .obtain⟨e',h1,h2⟩:=a1e.1 this;exact .inr ⟨e',h1,h2⟩
 rcases a2Y.1 this with h1|h1
 .obtain⟨e',h1,h2⟩:=a1e.1 h1;exact .inr ⟨e',h1,h2⟩
 exact .inl (by simpa using h1)
def ind(k:κ)(x:κ):Int:=if x=k then 1 else 0
theorem V4{k:κ}:∀{m:List (κ×Int)},k∉m.map (·.1)->dH (ind k) m=0
 | [],_=>rfl
 |e::m,h=>by
  rw[a4g,a2r,adn]at h;simp only[dH,V4 h.2,ind,a0p (fun e1:e.1=k=>h.1 e1.symm)];omega
theorem Ih:∀{m:List (κ×Int)} {e:κ×Int},(m.map (·.1)).Nodup->e∈m->dH (ind e.1) m=e.2
 |x::m,e,hn,h=>by
  rw[a4g,a4m]at hn;rcases a2r.1 h with rfl|h
  .simp only[dH,V4 hn.1,ind,a2y];omega
  have:¬x.1=e.1:=fun e1=>hn.1 (a1e.2 ⟨e,h,e1.symm⟩);simp only[dH,Ih hn.2 h,ind,a0p this];omega
theorem XV{m:List (κ×Int)}(hn:(m.map (·.1)).Nodup)(hp:∀e∈m,0<e.2)(e:κ×Int):e∈m↔0<e.2∧dH (ind e.1) m=e.2:=by
 constructor
 .exact fun h=>⟨hp e h,Ih hn h⟩
 rintro⟨h1,h2⟩;by_cases h:e.1∈m.map (·.1)
 .obtain⟨e',h3,h4⟩:=a1e.1 h;have:=Ih hn h3;have h4:e'.1=e.1:=h4;rw[h4,h2]at this;have:e'=e:=ad1 h4 this.symm;rw[<-this];exact h3
 rw[V4 h]at h2;omega
theorem Ii{β:Type}{f:κ×Int->β}{l:List (κ×Int)}(h:(l.map f).Nodup):l.Nodup:=by
 rw[List.Nodup,afw]at h;exact h.imp fun{a b} h (e:a=b)=>h (congrArg f e)
theorem V5{m m':List (κ×Int)}(h1:(m.map (·.1)).Nodup)(h2:(m'.map (·.1)).Nodup)(p1:∀e∈m,0<e.2)(p2:∀e∈m',0<e.2)(h:∀φ,dH φ m=dH φ m'):m.Perm m':=
 (a8a (Ii h1) (Ii h2)).2 fun e=>by rw[XV h1 p1,XV h2 p2,h]
theorem a3C(φ:κ->Int){m m':List (κ×Int)}(h:m.Perm m'):dH φ m=dH φ m':=by
 induction h with
 |nil=>rfl
 |cons x _ ih=>simp only[dH,ih]
 |swap x y l=>simp only[dH];omega
 |trans _ _ h1 h2=>exact h1.trans h2
def AV(l:List κ):List (κ×Int):=l.foldl (fun m k=>rY m k 1) []
def dW(φ:κ->Int):List κ->Int
 | []=>0
 |k::l=>φ k+dW φ l
theorem XW(φ:κ->Int):∀(l:List κ) (m:List (κ×Int)),dH φ (l.foldl (fun m k=>rY m k 1) m)=dH φ m+dW φ l
 | [],m=>by simp[dW]
 |k::l,m=>by rw[adi,XW φ l,zI,dW];omega
theorem Tf(φ:κ->Int)(l:List κ):dH φ (AV l)=dW φ l:=by
 unfold AV;rw[XW];simp[dH]
theorem FY(l:List κ):((AV l).map (·.1)).Nodup∧∀e∈AV l,0<e.2:=by
 have:∀(l:List κ) (m:List (κ×Int)),(m.map (·.1)).Nodup->(∀e∈m,0<e.2)->((l.foldl (fun m k=>rY m k 1) m).map (·.1)).Nodup∧∀e∈l.foldl (fun m k=>rY m k 1) m,0<e.2:=by
  intro l
  induction l with
  |nil=>exact fun m h1 h2=>⟨h1,h2⟩
  |cons k l ih=>exact fun m h1 h2=>ih _ (FX h1 k 1) (PO (by omega) h2)
 exact this l [] (by simp) (by simp)
theorem JA(φ:κ->Int){l l':List κ}(h:l.Perm l'):dW φ l=dW φ l':=by
 induction h with
 |nil=>rfl
 |cons x _ ih=>simp only[dW,ih]
 |swap x y l=>simp only[dW];omega
 |trans _ _ h1 h2=>exact h1.trans h2
theorem Ij(φ:κ->Int):∀a b:List κ,dW φ (a++b)=dW φ a+dW φ b
 | [],b=>by simp[dW]
 |e::a,b=>by simp only[List.cons_append,dW,Ij φ a b];omega
end
theorem JB:∀a b:List Int,lG a b=true∨lG b a=true
 | [],_=>.inl rfl
 |_::_,[]=>.inr rfl
 |a::az,b::bs=>by
  simp only[lG];rcases Int.lt_trichotomy a b with h|h|h
  .simp[h]
  .subst h;simpa using JB az bs
  simp[h]
theorem DK:∀a b:List Int,lG a b=true->lG b a=true->a=b
 | [],[],_,_=>rfl
 | [],_::_,_,h=>by cases h
 |_::_,[],h,_=>by cases h
 |a::az,b::bs,h1,h2=>by
  simp only[lG]at h1 h2;rcases Int.lt_trichotomy a b with h|h|h
  .rw[a0p (by omega),a0q h]at h2;cases h2
  .subst h;simp at h1 h2;rw[DK az bs h1 h2]
  rw[a0p (by omega),a0q h]at h1;cases h1
theorem lex_trans:∀a b c:List Int,lG a b=true->lG b c=true->lG a c=true
 | [],_,_,_,_=>rfl
 |_::_,[],_,h,_=>by cases h
 |_::_,_::_,[],_,h=>by cases h
 |a::az,b::bs,c::cs,h1,h2=>by
  simp only[lG]at h1 h2 ⊢;split at h1
  .split at h2
   .rw[a0q (by omega)]
   split at h2
   .cases h2
   rw[a0q (by omega)]
  split at h1
  .cases h1
  split at h2
  .rw[a0q (by omega)]
  split at h2
  .cases h2
  rw[a0p (by omega),a0p (by omega)];exact lex_trans az bs cs h1 h2
section
variable {α:Type} {key:α->List Int}
theorem Ti{a b:α}(h:key a=key b->a=b):∀s:List α,Ey key a (Ey key b s)=Ey key b (Ey key a s)
 | []=>by
  by_cases e:a=b
  .rw[e]
  simp only[Ey];rcases JB (key a) (key b)with h1|h1
  .have:lG (key b) (key a)=false:=by
    cases h2:lG (key b) (key a)
    .rfl
    exact absurd (h (DK _ _ h1 h2)) e
   simp[h1,this]
  have:lG (key a) (key b)=false:=by
   cases h2:lG (key a) (key b)
   .rfl
   exact absurd (h (DK _ _ h2 h1)) e
  simp[h1,this]
 |c::s=>by
  by_cases e:a=b
  .rw[e]
  have hx:lG (key a) (key b)=!lG (key b) (key a):=by
   rcases JB (key a) (key b)with h1|h1
   .cases h2:lG (key b) (key a)
    .rw[h1];rfl
    exact absurd (h (DK _ _ h1 h2)) e
   cases h2:lG (key a) (key b)
   .rw[h1];rfl
   exact absurd (h (DK _ _ h2 h1)) e
  cases h1:lG (key a) (key c)<;>cases h2:lG (key b) (key c)
  .simp only[Ey,h1,h2,a2V,a3U,Ti h s]
  .have h3:lG (key a) (key b)=false:=by
    cases h3:lG (key a) (key b)
    .rfl
    rw[lex_trans _ _ _ h3 h2]at h1;cases h1
   simp only[Ey,h1,h2,h3,a2V,a3U,a2y]
  .have h3:lG (key b) (key a)=false:=by
    cases h3:lG (key b) (key a)
    .rfl
    rw[lex_trans _ _ _ h3 h1]at h2;cases h2
   simp only[Ey,h1,h2,h3,a2V,a3U,a2y]
  cases h3:lG (key b) (key a)<;>rw[h3]at hx<;>simp[Ey,h1,h2,h3,hx]
theorem EZ{l l':List α}(h:l.Perm l')(hi:∀a∈l,∀b∈l,key a=key b->a=b):yX key l=yX key l':=by
 induction h with
 |nil=>rfl
 |cons x _ ih=>simp only[yX,ih fun a ha b hb=>hi a (by simp[ha]) b (by simp[hb])]
 |swap x y l=>exact Ti (hi y (by simp) x (by simp)) _
 |trans h1 h2 i1 i2=>exact(i1 hi).trans (i2 fun a ha b hb=>hi a (h1.mem_iff.2 ha) b (h1.mem_iff.2 hb))
theorem Tj{β:Type}{g:α->β}{a7B:β->List Int}(h:∀a,a7B (g a)=key a):∀l:List α,yX a7B (l.map g)=(yX key l).map g:=by
 have hi:∀(a:α) (s:List α),Ey a7B (g a) (s.map g)=(Ey key a s).map g:=by
  intro a s
  induction s with
  |nil=>rfl
  |cons c s ih=>
   simp only[a4g,Ey,h];split
   .rfl
   rw[a4g,ih]
 intro l
 induction l with
 |nil=>rfl
 |cons a l ih=>simp only[a4g,yX,ih,hi]
end
end dw
namespace Go.Proofs.YtmobpoiejckagaaGreat
open Go Tw Pv dw
def AX(J:Jb)(c:Int):List Int:=if decide (J.g.getD c.toNat 0>=0)=true then [J.g.getD c.toNat 0]else(List.range (J.s.getD c.toNat 0).toNat).map fun(j:Nat)=>(j:Int)
def xI(J:Jb)(ψ:S3->Int):List Int->S3->Int
 | [],t=>ψ t
 |c::r,t=>dW (fun j=>xI J ψ r (bK J.D t c j)) (AX J c)
theorem zJ{α β:Type}[DecidableEq α][DecidableEq β](φ:β->Int)(f:α->β):∀l:List α,dW φ (l.map f)=dW (fun a=>φ (f a)) l
 | []=>rfl
 |a::l=>by simp only[a4g,dW,zJ φ f l]
theorem qx{α:Type}[DecidableEq α]{φ φ':α->Int}:∀{l:List α},(∀a∈l,φ a=φ' a)->dW φ l=dW φ' l
 | [],_=>rfl
 |a::l,h=>by rw[dW,dW,h a (by simp),qx fun b hb=>h b (by simp[hb])]
theorem Tn{α β:Type}[DecidableEq α][DecidableEq β](φ:β->Int)(f:α->List β):∀l:List α,dW φ (l.flatMap f)=dW (fun a=>dW φ (f a)) l
 | []=>rfl
 |a::l=>by rw[List.flatMap_cons,Ij,dW,Tn φ f l]
theorem AY{α:Type}[DecidableEq α](x:Int):∀l:List α,dW (fun _=>x) l=l.length*x
 | []=>by simp[dW]
 |a::l=>by rw[dW,AY x l,a4d,Int.natCast_add,afB];omega
theorem S3.aaB(s:S3)(k:Nat):s.set k (s.get k)=s:=by
 match k with
 | 0=>rfl
 | 1=>rfl
 |k+2=>rfl
theorem a7C{D:List Dg}{t:S3}{c:Int}(h:jS D t c=false)(g:Int):bK D t c g=t:=by
 have hk:∀k,k<D.length->kZ (l7 D k) (t.get k) c=false:=fun k hk=>by
  cases e:kZ (l7 D k) (t.get k) c
  .rfl
  have:=DF.2 ⟨k,hk,e⟩;rw[h]at this;cases this
 exact bU (g:=fun k (y:S3)=>y.set k (Ll (l7 D k) (y.get k) c g)) (m:=D.length) (k:=0) (s:=t) (fun _ y=>y=t) rfl (fun j y _ hj hy=>by
  subst hy;show y.set j (Ll (l7 D j) (y.get j) c g)=y;unfold Ll;rw[hk j (by omega),a0p (by simp)];exact S3.aaB y j)
theorem a3D{J:Jb}{ψ:S3->Int}{c:Int}{r:List Int}{t:S3}(h:decide (J.g.getD c.toNat 0>=0)=true):xI J ψ (c::r) t=xI J ψ r (bK J.D t c (J.g.getD c.toNat 0)):=by
 rw[xI,AX,a0q h];simp[dW]
theorem afC{J:Jb}{ψ:S3->Int}{c:Int}{r:List Int}{t:S3}(h:¬decide (J.g.getD c.toNat 0>=0)=true)(ha:jS J.D t c=false):xI J ψ (c::r) t=((J.s.getD c.toNat 0).toNat:Int)*xI J ψ r t:=by
 rw[xI,AX,a0p h,zJ,qx (φ':=fun _=>xI J ψ r t) (fun a _=>by rw[a7C ha]),AY,a8P]
theorem aaC{J:Jb}{ψ:S3->Int}{c:Int}{r:List Int}{t:S3}(h:¬decide (J.g.getD c.toNat 0>=0)=true):xI J ψ (c::r) t=dW (fun(j:Nat)=>xI J ψ r (bK J.D t c j)) (List.range (J.s.getD c.toNat 0).toNat):=by
 rw[xI,AX,a0p h,zJ]
def zT(J:Jb):List Int->Nat
 | []=>1
 |c::r=>(AX J c).length*zT J r
theorem Ep{J:Jb}:∀(r:List Int) (t:S3),xI J (fun _=>1) r t=(zT J r:Int)
 | [],_=>rfl
 |c::r,t=>by
  rw[xI,qx (φ':=fun _=>(zT J r:Int)) (fun a _=>Ep r _),AY,zT,adL]
section
variable {J:Jb} (hJ:kD J)
include hJ
theorem XY{c:Int}(hc:fK c J.s.length){j:Int}:j∈AX J c↔(0<=j∧j<J.s.getD c.toNat 0)∧(0<=J.g.getD c.toNat 0->J.g.getD c.toNat 0=j):=by
 unfold AX;split
 .rename_i h;have h:J.g.getD c.toNat 0>=0:=by simpa using h
  have:=hJ.gv c hc h;rw[a2A];constructor
  .rintro rfl;exact⟨⟨h,this⟩,fun _=>rfl⟩
  exact fun h2=>(h2.2 h).symm
 rename_i h;have h:¬J.g.getD c.toNat 0>=0:=by simpa using h
 rw[a1e];constructor
 .rintro⟨k,h1,rfl⟩;rw[a4o]at h1;exact⟨⟨by omega,by omega⟩,fun h2=>absurd h2 h⟩
 rintro⟨h1,_⟩;exact⟨j.toNat,a4o.2 (by omega),by omega⟩
theorem a7D{c:Int}(hc:fK c J.s.length):1<=(AX J c).length∧(AX J c).length<=(J.s.getD c.toNat 0).toNat:=by
 have hz:=hJ.bJ.sz _ (bP (s:=J.s) (k:=c.toNat) (by have:=hc.1;have:=hc.2;omega));unfold AX;split
 .exact⟨a0w _,by show 1<=_;omega⟩
 rw[a4l,a8P];exact⟨by omega,a0w _⟩
theorem JC:∀{r:List Int},(∀c∈r,fK c J.s.length)->1<=zT J r∧zT J r<=wO J.s r
 | [],_=>⟨a0w _,a0w _⟩
 |c::r,h=>by
  obtain⟨h1,h2⟩:=a7D hJ (h c (by simp));obtain⟨h3,h4⟩:=JC (r:=r) fun c hc=>h c (by simp[hc]);exact⟨agW h1 h3,agW h2 h4⟩
end
def plc(J:Jb):List Int->List Int->List (List Int)
 | [],q=>[q]
 |c::r,q=>(AX J c).flatMap fun j=>plc J r (q.set c.toNat j)
def V6(D:List Dg)(q:List Int):List Int->S3->S3
 | [],t=>t
 |c::r,t=>V6 D q r (bK D t c (q.getD c.toNat 0))
theorem zK{q:List Int}{i k:Nat}{v:Int}:(q.set i v).getD k 0=if k=i∧i<q.length then v else q.getD k 0:=by
 simp only[List.getD,a9v];by_cases h:i=k
 .subst h;by_cases h2:i<q.length
  .simp[h2]
  simp[h2,a4e (show q.length<=i by omega)]
 rw[a0p (fun e:k=i∧i<q.length=>h e.1.symm)];simp[h]
theorem MV{J:Jb}:∀{r q q':List Int},q'∈plc J r q->q'.length=q.length∧∀k,k∉r.map Int.toNat->q'.getD k 0=q.getD k 0
 | [],q,q',h=>by rw[plc,a2A]at h;subst h;exact⟨rfl,fun _ _=>rfl⟩
 |c::r,q,q',h=>by
  rw[plc,adC]at h;obtain⟨j,_,h2⟩:=h;obtain⟨h3,h4⟩:=MV h2;refine⟨by rw[h3,a4n],fun k hk=>?_⟩;rw[a4g,a2r,adn]at hk;rw[h4 k hk.2,zK,a0p (fun h=>hk.1 h.1)]
section
variable {J:Jb} {n:Nat}
structure ZY(n:Nat)(r:List Int):Prop where
 nd:r.Nodup
 mem:∀c∈r,fK c n
theorem ZY.tail{c:Int}{r:List Int}(h:ZY n (c::r)):ZY n r∧c.toNat∉r.map Int.toNat∧fK c n:=by
 have h1:=a4m.1 h.nd;have hc:=h.mem c (by simp);refine⟨⟨h1.2,fun c hc=>h.mem c (by simp[hc])⟩,fun h2=>?_,hc⟩;obtain⟨d,h3,h4⟩:=a1e.1 h2;have hd:=h.mem d (by simp[h3]);have:d=c:=by have:=hc.1;have:=hd.1;omega
 exact h1.1 (this▸h3)
theorem a1U(ψ:S3->Int):∀{r:List Int} (q:List Int) (t:S3),ZY q.length r->xI J ψ r t=dW (fun q'=>ψ (V6 J.D q' r t)) (plc J r q)
 | [],q,t,_=>by simp[xI,plc,V6,dW]
 |c::r,q,t,ho=>by
  obtain⟨h1,h2,h3⟩:=ho.tail;rw[xI,plc,Tn];refine qx fun j _=>?_;rw[a1U ψ (q.set c.toNat j) _ (by rw[a4n];exact h1)];refine qx fun q' hq=>?_;rw[V6,(MV hq).2 _ h2,zK,a0q ⟨rfl,by have:=h3.1;have:=h3.2;omega⟩]
theorem V7:∀{r q q':List Int},ZY q.length r->(q'∈plc J r q↔q'.length=q.length∧(∀k,k∉r.map Int.toNat->q'.getD k 0=q.getD k 0)∧∀c∈r,q'.getD c.toNat 0∈AX J c)
 | [],q,q',_=>by
  rw[plc,a2A];constructor
  .rintro rfl;exact⟨rfl,fun _ _=>rfl,fun _ h=>by cases h⟩
  rintro⟨h1,h2,_⟩;exact(oP (d:=0) h1).2 fun i _=>h2 i (by simp)
 |c::r,q,q',ho=>by
  obtain⟨h1,h2,h3⟩:=ho.tail;have hl:c.toNat<q.length:=by have:=h3.1;have:=h3.2;omega
  rw[plc,adC];constructor
  .rintro⟨j,hj,h4⟩;obtain⟨h5,h6,h7⟩:=(V7 (by rw[a4n];exact h1)).1 h4;refine⟨by rw[h5,a4n],fun k hk=>?_,fun d hd=>?_⟩
   .rw[a4g,a2r,adn]at hk;rw[h6 k hk.2,zK,a0p (fun h=>hk.1 h.1)]
   rcases a2r.1 hd with rfl|hd
   .rw[h6 _ h2,zK,a0q ⟨rfl,hl⟩];exact hj
   exact h7 d hd
  rintro⟨h4,h5,h6⟩;refine⟨q'.getD c.toNat 0,h6 c (by simp),(V7 (by rw[a4n];exact h1)).2 ⟨by rw[a4n];exact h4,fun k hk=>?_,fun d hd=>h6 d (by simp[hd])⟩⟩;rw[zK];split
  .rename_i h;rw[h.1]
  rename_i h;exact h5 k (by rw[a4g,a2r,adn];exact⟨fun e=>h ⟨e,hl⟩,hk⟩)
theorem a00(c:Int):(AX J c).Nodup:=by
 unfold AX;split
 .simp
 rw[List.Nodup,afw];exact List.nodup_range.imp fun h e=>h (by omega)
theorem Tq:∀{r q:List Int},ZY q.length r->(plc J r q).Nodup
 | [],q,_=>by simp[plc]
 |c::r,q,ho=>by
  obtain⟨h1,h2,h3⟩:=ho.tail;have hl:c.toNat<q.length:=by have:=h3.1;have:=h3.2;omega
  rw[plc,List.Nodup,List.pairwise_flatMap];refine⟨fun j _=>Tq (by rw[a4n];exact h1),(a00 (J:=J) c).imp fun{a b} hab x hx y hy e=>?_⟩;subst e;have e1:=(MV hx).2 _ h2;have e2:=(MV hy).2 _ h2;rw[zK,a0q ⟨rfl,hl⟩]at e1 e2;exact hab (e1.symm.trans e2)
end
def XZ(J:Jb):List (List Int):=((List.range (BD J.s)).map fun(k:Nat)=>jW J.s k).filter fun q=>decide (ov J.g q=q)
section
variable {J:Jb} (hJ:kD J)
include hJ
theorem a1V{q:List Int}(hq:q.length=J.s.length):ov J.g q=q↔∀k,k<J.s.length->0<=J.g.getD k 0->J.g.getD k 0=q.getD k 0:=by
 have hg:=hJ.gl;have hl:(ov J.g q).length=q.length:=by simp[ov,adJ,hg,hq]
 rw[oP (d:=0) hl];constructor
 .intro h k hk h0;have:=h k (by rw[hl,hq];exact hk);rw[Jw (by rw[hg,hq]),a0q (by rw[hg];exact hk),a0q h0]at this;exact this
 intro h k hk;rw[hl,hq]at hk;rw[Jw (by rw[hg,hq]),a0q (by rw[hg];exact hk)];split
 .exact h k hk ‹_›
 rfl
theorem a1W{q:List Int}:q∈(List.range (BD J.s)).map (fun(k:Nat)=>jW J.s k)↔gX J.s q=true:=by
 have hc:(BD J.s:Int)=bg J.s:=by
  have:=je hJ.bJ.sz;unfold BD;omega
 constructor
 .intro h;obtain⟨k,_,rfl⟩:=a1e.1 h;exact tK _ hJ.bJ.sz
 intro h;have:=wS h hJ.bJ.sz;refine a1e.2 ⟨(dV J.s q).toNat,a4o.2 (by omega),?_⟩;rw[show((dV J.s q).toNat:Int)=dV J.s q by omega];exact UF h hJ.bJ.sz
theorem a3E:((List.range (BD J.s)).map (fun(k:Nat)=>jW J.s k)).Nodup:=by
 have hc:(BD J.s:Int)=bg J.s:=by
  have:=je hJ.bJ.sz;unfold BD;omega
 rw[List.Nodup,afw];refine List.Pairwise.imp_of_mem (fun{a b} ha hb h e=>h ?_) adE;rw[a4o]at ha hb;have h1:=MP hJ.bJ.sz (n:=(a:Int)) (by omega) (by omega);have h2:=MP hJ.bJ.sz (n:=(b:Int)) (by omega) (by omega);have e:jW J.s (a:Int)=jW J.s (b:Int):=e;rw[e,h2]at h1;omega
theorem a7E:(plc J J.o (List.replicate J.s.length 0)).Perm (XZ J):=by
 obtain⟨o1,o2,o3⟩:=kD.o2 hJ;have ho:ZY (List.replicate J.s.length (0:Int)).length J.o:=⟨o1,fun c hc=>by rw[a7w];exact o3 c hc⟩;unfold XZ;refine(a8a (Tq ho) ((a3E hJ).filter _)).2 fun q=>?_;rw[V7 ho,a8B,a1W hJ,a1o,a7w];constructor
 .rintro⟨h1,h2,h3⟩;have key:∀k,k<J.s.length->(0<=q.getD k 0∧q.getD k 0<J.s.getD k 0)∧(0<=J.g.getD k 0->J.g.getD k 0=q.getD k 0):=fun k hk=>by
   have hc:fK (k:Int) J.s.length:=aH hk;have:=h3 k (lQ hJ.ord hc);rw[XY hJ hc]at this;exact this
  exact⟨jo.2 ⟨h1,fun k hk=>(key k hk).1⟩,(a1V hJ h1).2 fun k hk=>(key k hk).2⟩
 rintro⟨h1,h2⟩;have hl:=jm h1;refine⟨hl,fun k hk=>?_,fun c hc=>?_⟩
 .have JX:J.s.length<=k:=by
   refine acO fun aQ=>hk ?_;exact a1e.2 ⟨(k:Int),lQ hJ.ord (aH aQ),by simp⟩
  simp[List.getD,a4e (show q.length<=k by omega),a4e (show(List.replicate J.s.length (0:Int)).length<=k by simp;omega)]
 have nH:=o3 c hc;have aQ:c.toNat<J.s.length:=by have:=nH.1;have:=nH.2;omega
 rw[XY hJ nH];exact⟨(jo.1 h1).2 _ aQ,(a1V hJ hl).1 h2 _ aQ⟩
theorem Tt{q:List Int}(hq:gX J.s q=true):∀(r:List Int) (a:Nat) (t:S3),J.o.drop a=r->a<=J.o.length->Dp J a t->Dp J J.o.length (V6 J.D q r t)∧∀k,k<J.D.length->∀v,To (l7 J.D k) q ((V6 J.D q r t).get k) v->To (l7 J.D k) q (t.get k) v
 | [],a,t,hr,ha,hd=>by
  have:a=J.o.length:=by
   have:=congrArg List.length hr;rw[a3Y,a4H]at this;omega
  subst this;exact⟨hd,fun _ _ _ h=>h⟩
 |c::r,a,t,hr,ha,hd=>by
  obtain⟨aQ,hoc,uV,EC,hci,nH⟩:=kD.at_ hJ hr;have Yo:=(jo.1 hq).2 c.toNat (by have:=nH.1;have:=nH.2;omega);obtain⟨h1,h2⟩:=Tt hq r (a+1) _ uV aQ (mY hJ hr hd Yo);refine⟨h1,fun k hk v h=>?_⟩;have h4:=h2 k hk v h;rw[Jt hJ.d3 t c _ hk]at h4;unfold Ll at h4;split at h4
  .rename_i h5;obtain⟨h6,h7,_⟩:=Ie hJ hd hk h5;refine .step h6.1 ?_;rw[h7];exact h4
  exact h4
theorem Y0:Dp J 0 (eX J.D):=fun k hk=>by
 rw[vX hJ.d3 hk];exact⟨(hJ.dg k hk).t.root,a4C _⟩
theorem afD{q:List Int}(hq:gX J.s q=true):aV J.D (V6 J.D q J.o (eX J.D))=J.D.map fun d=>vN d q:=by
 obtain⟨h1,h2⟩:=Tt hJ hq J.o 0 (eX J.D) abu (a4C _) (Y0 hJ);unfold aV;refine(oP (d:=V0) (by simp)).2 fun k hk=>?_;rw[a4l,a8P]at hk;have hd:=hJ.dg k hk;have h3:=Jv hJ h1 hk;have h4:=h2 k hk _ (.fin h3.1);rw[vX hJ.d3 hk]at h4;have h6:=h4.at_ hd.t (by rw[hd.s];exact hq) 6001 (by have:=hd.t.root.1;have:=hd.n;omega) hd.t.root;have e1:((List.range J.D.length).map fun k=>pW (l7 J.D k) ((V6 J.D q J.o (eX J.D)).get k)).getD k V0=pW (l7 J.D k) ((V6 J.D q J.o (eX J.D)).get k):=by simp[List.getD,hk]
 have e2:(J.D.map fun d=>vN d q).getD k V0=vN (l7 J.D k) q:=by simp[List.getD,hk]
 rw[e1,e2];exact h6
theorem aaD(ψ:List V->Int):xI J (fun t=>ψ (aV J.D t)) J.o (eX J.D)=dW (fun q=>ψ (J.D.map fun d=>vN d q)) (XZ J):=by
 obtain⟨o1,o2,o3⟩:=kD.o2 hJ;rw[a1U _ (List.replicate J.s.length 0) _ ⟨o1,fun c hc=>by rw[a7w];exact o3 c hc⟩,JA _ (a7E hJ)];refine qx fun q hq=>?_;unfold XZ at hq;rw[a8B,a1W hJ]at hq;rw[afD hJ hq.1]
end
end Go.Proofs.YtmobpoiejckagaaGreat
namespace Pv
open Go Tw
section
variable {X:kR} {P:Program} {kt:TypeId} {α:Type} [DecidableEq α] (C:oU X P kt α)
theorem oU.akx{l:List (α×PV X.Γ)}{x:α}{v:PV X.Γ}{j:Nat}(hb:Instr.sameBits 10000 (C.v x) (C.v x)=true)(hn:(l.map (·.1)).Nodup)(h:l[j]? = some (x,v)):a5F X P kt (C.es l) (C.tv x) (C.pv x) v j:=by
 obtain⟨hj,e⟩:=a0d.1 h;have hxj:(l.map (·.1))[j]? = some x:=by simp[a0g hj,e]
 refine⟨C.v x,_,C.tv x,C.v x,C.ht x,C.hc false x,C.pk l,?_,?_,?_,C.ht x,hb⟩
 .have hu:∀(i:Nat) y,(l.map (·.1))[i]? = some y->decide (x=y)=(some i==some j):=fun i y hy=>by
   rw[a4E];simp only[a1o,a7H,a03];constructor
   .rintro rfl;have i1:=a0d.1 hy;have i2:=a0d.1 hxj;exact(aa8 hn (h₀:=i1.1) (h₁:=i2.1)).1 (i1.2.trans i2.2.symm)
   rintro rfl;rw[hxj]at hy;exact a8V hy
  refine C.find x _ (some j) ?_ hu;rw[a9K];refine⟨by simpa using hj,by simp[e],fun i hi=>?_⟩;have hil:i<(l.map (·.1)).length:=by simp;omega
  rw[hu i _ (a0g hil)];simp;omega
 .simp[oU.es,a0g hj,e]
 simp[a0g hj,e]
theorem oU.newP{l:List (α×PV X.Γ)}{x:α}{v:PV X.Γ}(h:x∉l.map (·.1)):ae2 X P kt (C.es (l++[(x,v)])) (C.tv x) l.length:=by
 refine⟨C.v x,_,C.ht x,C.pk _,?_⟩;have hu:∀(i:Nat) y,((l++[(x,v)]).map (·.1))[i]? = some y->decide (x=y)=(some i==some l.length):=fun i y hy=>by
  rw[a4f]at hy;rcases a4h i l.length with hi|hi
  .rw[a0k (by simpa using hi)]at hy;have:¬x=y:=fun e=>h (e▸a4s hy);rw[adU this];have:¬i=l.length:=(by omega);simp[this]
  rw[a1d (by simpa using hi)]at hy;have KW:i=l.length:=by
   have:=(a0d.1 hy).1;simp at this;omega
  subst KW;simp at hy;subst hy;simp
 refine C.find x _ (some l.length) ?_ hu;rw[a9K];refine⟨by simp,by simp,fun i hi=>?_⟩;have hil:i<((l++[(x,v)]).map (·.1)).length:=by simp;omega
 rw[hu i _ (a0g hil)];simp;omega
abbrev oU.im(m:List (α×Int)):List (PV X.Γ×PV X.Γ):=C.es (m.map fun e=>(e.1,.int .i64 e.2))
theorem oU.pI(m:List (α×Int)):(C.im m).length=m.length:=by simp[oU.im,oU.es]
theorem oU.AZ(m:List (α×Int))(j:Nat):(C.im m)[j]? = (m[j]?).map fun e=>(C.pv e.1,.int .i64 e.2):=by
 simp[oU.im,oU.es,a4q];rfl
theorem zL{Y:kR}(m:List (α×Int)):((m.map fun e=>(e.1,(PV.int .i64 e.2:PV Y.Γ))).map (·.1))=m.map (·.1):=by simp
theorem afE{m:List (α×Int)}{j:Nat}{f:Int->Int}{v:Int}(h:∀e,m[j]? = some e->f e.2=v):J4 (C.im m) j (.int .i64 v)=C.im (m.modify j fun e=>(e.1,f e.2)):=by
 unfold J4;refine a9w fun i=>?_;rw[adD,C.AZ,C.AZ,adD];by_cases e:j=i
 .subst e;cases h2:m[j]? with
  |none=>simp[h2]
  |some x=>simp[h2,h x h2]
 simp[e]
theorem afF{m:List (α×Int)}{x:α}{z v:Int}:J4 (C.im m++[(C.pv x,.int .i64 z)]) (C.im m).length (.int .i64 v)=C.im (m++[(x,v)]):=by
 have:C.im (m++[(x,v)])=C.im m++[(C.pv x,.int .i64 v)]:=by simp[oU.im,oU.es]
 rw[this];unfold J4;generalize C.im m=l;refine a9w fun i=>?_;rw[adD];rcases Nat.lt_trichotomy i l.length with h|h|h
 .rw[a0k h,a0k h];simp[show ¬l.length=i by omega]
 .subst h;simp
 rw[a4e (by simp;omega),a4e (by simp;omega)];rfl
theorem oU.V8{m:List (α×Int)}{k:α}{n:Int}(hb:Instr.sameBits 10000 (C.v k) (C.v k)=true)(hn:(m.map (·.1)).Nodup)(h:k∈m.map (·.1))(hw:∀e∈m,i64.wrap (e.2+n)=e.2+n) :
  ∃j old,qp X P kt (C.im m) (C.tv k) (.int .i64 old)∧a5F X P kt (C.im m) (C.tv k) (C.pv k) (.int .i64 old) j∧j<(C.im m).length∧J4 (C.im m) j (.int .i64 (i64.wrap (old+n)))=C.im (dw.rY m k n):=by
 have aQ:=a4w.2 h;have a5P:(m.map (·.1)).idxOf k<m.length:=by simpa using aQ
 have hk:m[(m.map (·.1)).idxOf k]? = some (k,m[(m.map (·.1)).idxOf k].2):=by
  rw[a0g a5P];have:=a8D aQ;rw[a8M]at this;exact congrArg some (ad1 this rfl)
 have a2p:(k,m[(m.map (·.1)).idxOf k].2)∈m:=a4s hk;refine⟨(m.map (·.1)).idxOf k,m[(m.map (·.1)).idxOf k].2,C.found (by rw[zL];exact hn) (a1e.2 ⟨_,a2p,rfl⟩),C.akx hb (by rw[zL];exact hn) (by rw[a4q,hk];rfl),by rw[C.pI];exact a5P,?_⟩;rw[hw _ a2p];unfold dw.rY;rw[a0q h];exact afE C (f:=fun x=>x+n) fun e he=>by rw[hk]at he;cases he;rfl
theorem oU.V9{m:List (α×Int)}{k:α}{n:Int}(h:k∉m.map (·.1))(hw:i64.wrap (0+n)=n) :
  nN X P kt (C.im m) (C.tv k)∧ae2 X P kt (C.im m++[(C.pv k,(PV.int .i64 0:PV X.Γ))]) (C.tv k) (C.im m).length∧(C.im m).length<(C.im m++[(C.pv k,(PV.int .i64 0:PV X.Γ))]).length∧J4 (C.im m++[(C.pv k,.int .i64 0)]) (C.im m).length (.int .i64 (i64.wrap (0+n)))=C.im (dw.rY m k n):=by
 refine⟨C.fresh (by rw[zL];exact h),?_,by simp,?_⟩
 .have:=C.newP (l:=m.map fun e=>(e.1,(PV.int .i64 e.2:PV X.Γ))) (x:=k) (v:=.int .i64 0) (by rw[zL];exact h);rw[C.pI];simpa[oU.im,oU.es]using this
 rw[hw,afF];unfold dw.rY;rw[a0p h]
end
end Pv
namespace Go.Proofs.YtmobpoiejckagaaGreat
open Go Tw Pv dw
abbrev wSk(H:List (PB aC))(s:S3)(r:Int)(x:List (Nat×PE aC)):aS aC:=⟨[(1,xi r),(2,.val (.ptr 2 0 5)),(3,.val (.ptr 1 0 5)),(4,.val (.ptr 3 0 1)),(5,.val (.ptr 4 0 1)),(6,.loc 0 0)]++x,[s.ps],H⟩
def Qy(D:List Dg)(t:S3):List Int->Nat
 | []=>0
 |c::r=>if jS D t c=true then 0 else Qy D t r+1
def Qz(J:Jb)(t:S3)(i:Int):Int⊕Int:=if decide (i<(J.o.length:Int))=true then(if(!(jS J.D t (J.o.getD i.toNat 0)))=true then .inl (i64.wrap (i+1))else .inr i)else .inr i
theorem a7F{J:Jb}(hJ:kD J)(t:S3):∀(r:List Int) (a:Nat),J.o.drop a=r->a<=J.o.length->itF (Qz J t) (r.length+1) (a:Int)=some ((a+Qy J.D t r:Nat):Int)
 | [],a,hr,ha=>by
  have:a=J.o.length:=by
   have:=congrArg List.length hr;rw[a3Y,a4H]at this;omega
  have e:Qz J t (a:Int)=.inr (a:Int):=by unfold Qz;rw[a0p (by simp;omega)]
  rw[a4H,itF,e];rfl
 |c::r,a,hr,ha=>by
  obtain⟨aQ,hoc,uV,_⟩:=kD.at_ hJ hr;have hl:=hJ.bJ.len;have Qc:=(kD.o2 hJ).2.1;have e:Qz J t (a:Int)=if(!(jS J.D t c))=true then .inl (i64.wrap ((a:Int)+1))else .inr (a:Int):=by
   unfold Qz;rw[a0q (by simp;omega),a4I,hoc]
  rw[a4d,itF,e];cases h:jS J.D t c
  .simp only[abt,a2y];have ew:i64.wrap ((a:Int)+1)=((a+1:Nat):Int):=by rw[dZ (by omega) (by omega)];omega
   have:=a7F hJ t r (a+1) uV aQ;simp only[ew,Qy,h];rw[this];simp;omega
  simp[Qy,h]
theorem apI{M f:Nat}{J:Jb}(hJ:kD J){t:S3}{x:Mk}(r:List Int){a:Nat}(hr:J.o.drop a=r)(ha:a<=J.o.length)(hd:Dp J a t):Jj (M+1) 126 0 7 (wSk (HM0 J f x) t a []) (.exit 0) (wSk (HM0 J f x) t ((a+Qy J.D t r:Nat):Int) [(32,xl false)]):=by
 have Qm:=a7F hJ t r a hr ha;have Qc:=(kD.o2 hJ).2.1;have hl:=hJ.bJ.len;refine ZH (st:=fun i=>wSk (HM0 J f x) t i []) (g:=Qz J t) (out:=fun i=>(.exit 0,wSk (HM0 J f x) t i [(32,xl false)])) (fun i=>0<=i∧i<=J.o.length) Qm (by kernel_rfl) (by have:=congrArg List.length hr;rw[a3Y]at this;unfold LL;omega) ⟨by omega,by omega⟩ ?_ ?_
 .intro i i1 hi e;unfold Qz at e;split at e
  .rename_i c;have c:i<(J.o.length:Int):=(by simpa using c);split at e
   .cases e;rw[dZ (by omega) (by omega)];omega
   cases e
  cases e
 intro i m i' hi ih;have hs:=a7u (M:=M) (f:=f) (a:=[]) (cc:=[]) (H:=[]) J t (J.o.getD i.toNat 0) hJ.d3 (fun k hk h=>⟨by simpa using h,(hd k hk).1.1⟩);by_cases c:i<(J.o.length:Int)
 .have t1:decide (i<(J.o.length:Int))=true:=by simpa using c
  have i1:fK i J.o.length:=⟨hi.1,c⟩;cases hq:jS J.D t (J.o.getD i.toNat 0)
  .have e:Qz J t i=.inl (i64.wrap (i+1)):=by unfold Qz;rw[a0q t1,hq];rfl
   rw[hq]at hs;have g:=ih _ e;rw[e];exact aN gG (.b t1 (.o i1 (.fr [] hs (.b (rfl:(!false)=true) (.go g)))))
  have e:Qz J t i=.inr i:=by unfold Qz;rw[a0q t1,hq];rfl
  rw[hq]at hs;rw[e];dsimp only[Dh];exact aN gG (.b t1 (.o i1 (.fr [] hs (.b (rfl:(!true)=false) .ex))))
 have t1:decide (i<(J.o.length:Int))=false:=by simpa using c
 have e:Qz J t i=.inr i:=by unfold Qz;rw[a0p (by rw[t1];simp)]
 rw[e];dsimp only[Dh];exact aN gG (.b t1 .ex)
theorem apJ{M f:Nat}(u:Int){J:Jb}(hJ:kD J){t:S3}{x:Mk}(r:List Int){a:Nat}(hr:J.o.drop a=r)(ha:a<=J.o.length)(hd:Dp J a t):Jj (M+1) 126 0 8 (wSk (HM1 J f u x) t a []) (.exit 0) (wSk (HM1 J f u x) t ((a+Qy J.D t r:Nat):Int) [(32,xl false)]):=by
 have Qm:=a7F hJ t r a hr ha;have Qc:=(kD.o2 hJ).2.1;have hl:=hJ.bJ.len;refine ZH (st:=fun i=>wSk (HM1 J f u x) t i []) (g:=Qz J t) (out:=fun i=>(.exit 0,wSk (HM1 J f u x) t i [(32,xl false)])) (fun i=>0<=i∧i<=J.o.length) Qm (by kernel_rfl) (by have:=congrArg List.length hr;rw[a3Y]at this;unfold LL;omega) ⟨by omega,by omega⟩ ?_ ?_
 .intro i i1 hi e;unfold Qz at e;split at e
  .rename_i c;have c:i<(J.o.length:Int):=(by simpa using c);split at e
   .cases e;rw[dZ (by omega) (by omega)];omega
   cases e
  cases e
 intro i m i' hi ih;have hs:=a7u (M:=M) (f:=f) (a:=[]) (cc:=[.ptr 0 0 1]) (H:=[.aF [.int .u8 u]]) J t (J.o.getD i.toNat 0) hJ.d3 (fun k hk h=>⟨by simpa using h,(hd k hk).1.1⟩);by_cases c:i<(J.o.length:Int)
 .have t1:decide (i<(J.o.length:Int))=true:=by simpa using c
  have i1:fK i J.o.length:=⟨hi.1,c⟩;cases hq:jS J.D t (J.o.getD i.toNat 0)
  .have e:Qz J t i=.inl (i64.wrap (i+1)):=by unfold Qz;rw[a0q t1,hq];rfl
   rw[hq]at hs;have g:=ih _ e;rw[e];exact aN gG (.b t1 (.o i1 (.fr [5] hs (.b (rfl:(!false)=true) (.go g)))))
  have e:Qz J t i=.inr i:=by unfold Qz;rw[a0q t1,hq];rfl
  rw[hq]at hs;rw[e];dsimp only[Dh];exact aN gG (.b t1 (.o i1 (.fr [5] hs (.b (rfl:(!true)=false) .ex))))
 have t1:decide (i<(J.o.length:Int))=false:=by simpa using c
 have e:Qz J t i=.inr i:=by unfold Qz;rw[a0p (by rw[t1];simp)]
 rw[e];dsimp only[Dh];exact aN gG (.b t1 .ex)
open Go Tw Pv dw
theorem Va{J:Jb}(hJ:kD J){op:List V->V}{x:Mk}:∀(r:List Int) (a:Nat) (t:S3),J.o.drop a=r->a<=J.o.length->Dp J a t->jr J op r t x=jr J op (r.drop (Qy J.D t r)) t x∧a+Qy J.D t r<=J.o.length∧Dp J (a+Qy J.D t r) t∧∀c r',r.drop (Qy J.D t r)=c::r'->jS J.D t c=true
 | [],a,t,hr,ha,hd=>⟨rfl,ha,hd,fun _ _ h=>by cases h⟩
 |c::r,a,t,hr,ha,hd=>by
  obtain⟨aQ,hoc,uV,_⟩:=kD.at_ hJ hr;cases h:jS J.D t c
  .obtain⟨q1,q2,q3,q4⟩:=Va hJ (op:=op) (x:=x) r (a+1) t uV aQ (UZ hJ hr hd h);have e:Qy J.D t (c::r)=Qy J.D t r+1:=(by simp[Qy,h]);rw[e];refine⟨?_,by omega,by rw[show a+(Qy J.D t r+1)=a+1+Qy J.D t r by omega];exact q3,q4⟩;rw[List.drop_succ_cons,<-q1]
   conv=>lhs;unfold jr
   rw[a0p (by rw[h];simp)]
  have e:Qy J.D t (c::r)=0:=by simp[Qy,h]
  rw[e];exact⟨rfl,ha,hd,fun c' r' h2=>by cases h2;exact h⟩
theorem Vb{J:Jb}(hJ:kD J):∀(r:List Int) (n:Nat),(∀c∈r,fK c J.s.length)->wO J.s (r.drop n)<=wO J.s r
 | [],n,_=>by simp
 |c::r,0,_=>a0w _
 |c::r,n+1,h=>by
  have h1:=Vb hJ r n fun c hc=>h c (by simp[hc]);have hi:=h c (by simp);have hz:=hJ.bJ.sz _ (bP (s:=J.s) (k:=c.toNat) (by have:=hi.1;have:=hi.2;omega));have:wO J.s r<=(J.s.getD c.toNat 0).toNat*wO J.s r:=adu _ (by omega);rw[List.drop_succ_cons];simp only[wO];omega
abbrev aaE(J:Jb)(f:Nat)(t:S3)(c:Int)(a:Int)(m:Mk)(ks:List Int)(i:Int)(y:List (Nat×PE aC)):aS aC:=⟨[(1,xi a),(2,.val (.ptr 2 0 5)),(3,.val (.ptr 1 0 5)),(4,.val (.ptr 3 0 1)),(5,.val (.ptr 4 0 1)),(6,.loc 0 0),(9,xi c),(13,.loc 1 0),(93,xi (J.s.getD c.toNat 0)),(94,xi i)]++y,[t.ps,[.int .i64 c,.own 9]],aay J f m++[oI false false ks]⟩
theorem apK{M f:Nat}{J:Jb}(hJ:kD J){op:List V->V}{r:List Int}{t:S3}{c a:Int}(x:Mk)(hc:fK c J.s.length)(Q:Nat->Mk->Prop)(h0:Q 0 x)(hq:∀j y,j<(J.s.getD c.toNat 0).toNat->Q j y->Q (j+1) (jr J op r (bK J.D t c j) y).2)
  (hk:∀j:Nat,j<(J.s.getD c.toNat 0).toNat->∀k,k<J.D.length->a1P (l7 J.D k) (t.get k) c j)
  (hf:∀(j:Nat) y,j<(J.s.getD c.toNat 0).toNat->Q j y->aU X0 Qp (bQ (M+1)) (.fn 126 [] pM) [.agg (bK J.D t c j).ps,.int .i64 (i64.wrap (a+1))] (HM0 J f y) (.int .i64 (jr J op r (bK J.D t c j) y).1) (aay J f (jr J op r (bK J.D t c j) y).2)) :
  Jj (M+1) 126 1 7 (aaE J f t c a x [] 0 []) (.exit 2) (aaE J f t c a (aT (UY J.D (jr J op r) t c) (J.s.getD c.toNat 0).toNat 0 ([],x)).2 (aT (UY J.D (jr J op r) t c) (J.s.getD c.toNat 0).toNat 0 ([],x)).1 (((J.s.getD c.toNat 0).toNat:Nat):Int) [(95,xl false)]):=by
 have hz:=hJ.bJ.sz _ (bP (s:=J.s) (k:=c.toNat) (by have:=hc.1;have:=hc.2;omega));refine vw (σ:=List Int×Mk) (N:=(J.s.getD c.toNat 0).toNat) (g:=UY J.D (jr J op r) t c) (s0:=([],x)) (st:=fun i y=>aaE J f t c a y.2 y.1 i []) (fin:=fun y=>aaE J f t c a y.2 y.1 (((J.s.getD c.toNat 0).toNat:Nat):Int) [(95,xl false)]) (fun j y=>y.1.length=j∧Q j y.2) (by kernel_rfl) (by unfold ah;omega) ⟨rfl,h0⟩ (fun j y hj hy=>⟨by simp[UY,hy.1],hq j y.2 hj hy.2⟩) (fun j y hj hy m e p g=>?_) (fun y _=>?_)
 .have h1:=hf j y.2 hj hy.2;have ha:=Js (M:=M) (f:=f) (a:=[]) (cc:=[]) (H:=[]) J t c j hJ.d3 (hk j hj);have t1:decide ((j:Int)<J.s.getD c.toNat 0)=true:=by rw[a1o];omega
  have h3:=hy.1;unfold UY at g;generalize jr J op r (bK J.D t c j) y.2=z at h1 g;obtain⟨v,z⟩:=z;exact aN gG (.b t1 (.fr [] ha (.fr [0,1,2,3,4,7,8] h1 (.o (show y.1.length+[v].length<=ah by simp only[a3F];unfold ah;omega) (.goG [.gc [10,11,13]] g)))))
 .have t1:decide ((((J.s.getD c.toNat 0).toNat:Nat):Int)<J.s.getD c.toNat 0)=false:=by rw[a2W];omega
  exact aN gG (.b t1 .ex)
open Go Tw Pv dw
theorem Y1{k:List (S3×Int)}{t:S3}(hn:(k.map (·.1)).Nodup)(h:t∈k.map (·.1)):qp X0 Qp 148 (Ic k) (.agg [.int .i64 t.a,.int .i64 t.b,.int .i64 t.c]) (.int .i64 (knS k t)):=by
 refine kS.found (x:=t) (by rw[a8o];exact hn) ?_;obtain⟨e,he,rfl⟩:=a1e.1 h;refine a1e.2 ⟨e,he,?_⟩;have:knS k e.1=e.2:=by
  have:k.find? (fun y=>decide (y.1=e.1))=some e:=by
   clear h
   induction k with
   |nil=>cases he
   |cons y l ih=>
    rw[a4g,a4m]at hn;rw[agL];rcases a2r.1 he with rfl|he
    .simp
    have:¬y.1=e.1:=fun h=>hn.1 (a1e.2 ⟨e,he,h.symm⟩);rw[adU this];exact ih hn.2 he
  unfold knS;rw[this];rfl
 rw[this]
abbrev afG(J:Jb)(op:List V->V)(f:Nat)(m:Nat)(r:List Int):Prop:=∀(a:Nat) (t:S3) (x:Mk),J.o.drop a=r->a<=J.o.length->Dp J a t->XOk J op x->x.e.length+wO J.s r<=ah->x.n.length+wO J.s r<=ah ->
  aU X0 Qp (bQ m) (.fn 126 [] pM) [.agg t.ps,.int .i64 (a:Int)] (HM0 J f x) (.int .i64 (jr J op r t x).1) (aay J f (jr J op r t x).2)
abbrev afH(J:Jb)(f:Nat)(x:Mk)(v:V):List (PB aC):=[.map (Ic x.k),.cells [lI J.s,lI J.o,.own 8,.own 6,.int .i64 0],.aF (J.ps (.fn f [] [])),.aF [.fn 126 [] pM],.aF [.map 0],.gone,zD x.n,.list true true 39 [v],zC (x.e++[v])]
abbrev aky(J:Jb)(f:Nat)(x:Mk)(t:S3)(b:Br):List (PB aC):=[.map (Ic x.k++[(.agg t.ps,.int .i64 (x.n.length:Int))]),.cells [lI J.s,lI J.o,.own 7,.own 11,.int .i64 0],.aF (J.ps (.fn f [] [])),.aF [.fn 126 [] pM],.aF [.map 0],.gone,.gone,zC x.e,.gone,.gone,.list true true 105 [b],zD (x.n++[b])]
theorem adk{N f:Nat}{J:Jb}(hJ:kD J){op:List V->V}(jK:qF J op)(hs:∀l:List V,l.length=J.D.length->aU X0 Qp (bQ (N+1)) (.fn f [] []) [lV l] [] (.agg (op l).ps) [])(r:List Int)(rec:∀c r',c::r' <:+ r->afG J op f (N+1) r'):afG J op f (N+2) r:=by
 intro a t x hr ha hd hx Cm xR;unfold ah at Cm xR;have Qc:=(kD.o2 hJ).2.1;have hl6:=hJ.bJ.len;have lsk:=apI (M:=N) (f:=f) hJ (x:=x) r hr ha hd;obtain⟨q1,q2,q3,q4⟩:=Va hJ (op:=op) (x:=x) r a t hr ha hd;have hw:=Vb hJ r (Qy J.D t r) (fun c hc=>(kD.o2 hJ).2.2 c (a4Q (by rw[hr];exact hc)));rw[q1];generalize Qy J.D t r=n at lsk q1 q2 q3 q4 hw;have Gi:J.o.drop (a+n)=r.drop n:=by rw[<-hr,af5]
 have a7G:r.drop n <:+ r:=List.drop_suffix _ _;have Gv:=congrArg List.length Gi;rw[a3Y]at Gv;clear q1 hr;generalize a+n=i at lsk q2 q3 Gi Gv;generalize r.drop n=r0 at q4 hw Gi a7G Gv;cases r0 with
 |nil=>
  have e0:i=J.o.length:=by rw[a4H]at Gv;omega
  have t0:((i:Int)==(J.o.length:Int))=true:=by rw[e0];simp
  rw[e0]at q3;have qm:(aV J.D t).length=J.D.length:=by simp[aV]
  have hce:=a1Q (M:=N) (f:=f) J t hJ.d3 (fun k hk=>(Jv hJ q3 hk).2);have hv:=hs (aV J.D t) qm;simp only[wO]at hw;have hb:x.e.length+[op (aV J.D t)].length<=ah:=by simp only[a3F];unfold ah;omega
  have h1:aU X0 Qp (bQ (N+2)) (.fn 126 [] pM) [.agg t.ps,.int .i64 (a:Int)] (HM0 J f x) (.int .i64 (i64.wrap (0-((x.e++[op (aV J.D t)]).length:Int)))) (afH J f x (op (aV J.D t))):=
   fU gG (first:=[]) (cap:=pM) (.w lsk (.b t0 (.fr [] hce (.fr [] hv (.o hb .er)))))
  exact aU.gs hX h1 [.mv 6,.gc [8,9]] (by kernel_rfl)
 |cons c r'=>
  have t0:((i:Int)==(J.o.length:Int))=false:=by rw[a4d]at Gv;simp;omega
  obtain⟨aQ,hoc,uV,EC,hci,nH⟩:=kD.at_ hJ Gi;have AQ:=q4 c r' rfl;have rc:=rec c r' a7G;have ia:fK (i:Int) J.o.length:=⟨by omega,by omega⟩;have JD:J.o.getD (i:Int).toNat 0=c:=by rw[a4I];exact hoc
  have ig:fK (J.o.getD (i:Int).toNat 0) J.g.length:=by rw[JD,hJ.gl];exact nH
  have hz:=hJ.bJ.sz _ (bP (s:=J.s) (k:=c.toNat) (by have:=nH.1;have:=nH.2;omega));have Yv:∀c'∈r',fK c' J.s.length:=fun c' h=>(kD.o2 hJ).2.2 c' (by rw[<-uV]at h;exact a4Q h);have hw0:=Pq hJ.bJ.sz Yv;have hw1:wO J.s r'<=(J.s.getD c.toNat 0).toNat*wO J.s r':=adu _ (by omega);have ew:i64.wrap ((i:Int)+1)=((i+1:Nat):Int):=by rw[dZ (by omega) (by omega)];omega
  simp only[wO]at hw;unfold jr;rw[a0q AQ];cases tg:decide (J.g.getD c.toNat 0>=0)
  .rw[a0p (by simp)];have tg':decide (J.g.getD (J.o.getD (i:Int).toNat 0).toNat 0>=0)=false:=by rw[JD];exact tg
   by_cases hk:t∈x.k.map (·.1)
   .rw[a0q hk];have hF:qp X0 Qp 148 (Ic x.k) (.agg [.int .i64 t.a,.int .i64 t.b,.int .i64 t.c]) (.int .i64 (knS x.k t)):=Y1 hx.nd hk;have h1:aU X0 Qp (bQ (N+2)) (.fn 126 [] pM) [.agg t.ps,.int .i64 (a:Int)] (HM0 J f x) (.int .i64 (knS x.k t)) (HM0 J f x):=
     fU gG (first:=[]) (cap:=pM) (.w lsk (.b t0 (.o ia (.o ig (.b tg' (.c (.int .i64 (knS x.k t)) [] hF (.b (rfl:true=true) .er)))))))
    exact aU.gs hX h1 [.mv 5,.mv 6] (by kernel_rfl)
   rw[a0p hk];have hm2:=V3 hJ Gi q3 AQ;have hF:nN X0 Qp 148 (Ic x.k) (.agg [.int .i64 t.a,.int .i64 t.b,.int .i64 t.c]):=kS.fresh (x:=t) (by simpa using hk);have is:fK (J.o.getD (i:Int).toNat 0) J.s.length:=by rw[JD];exact nH
   have VW:∀j,j<(J.s.getD c.toNat 0).toNat->j*wO J.s r'+wO J.s r'<=(J.s.getD c.toNat 0).toNat*wO J.s r':=fun j hj=>by
    have:(j+1)*wO J.s r'<=(J.s.getD c.toNat 0).toNat*wO J.s r':=a3m _ hj;rw[a3k]at this;omega
   let Q:Nat->Mk->Prop:=fun j y=>XOk J op y∧y.e.length<=x.e.length+j*wO J.s r'∧y.n.length+j<=x.n.length+j*wO J.s r'∧∀e∈y.k,e∈x.k∨Dp J (i+1) e.1
   have hq:∀j y,j<(J.s.getD c.toNat 0).toNat->Q j y->Q (j+1) (jr J op r' (bK J.D t c j) y).2:=fun j y hj hy=>by
    obtain⟨y1,y2,y3,y4⟩:=hy;have VW:=VW j hj;have h:=Tc hJ op jK r' (i+1) (bK J.D t c j) y uV aQ (mY hJ Gi q3 ⟨by omega,by omega⟩) y1 (by omega) (by omega);have h3:=h.el;have h4:=h.nl;refine⟨h.ok,by rw[a3k];omega,by rw[a3k];omega,fun e he=>?_⟩;rcases h.ks e he with h5|h5
    .exact y4 e h5
    exact .inr h5
   have lp:=apK (M:=N) (f:=f) hJ (op:=op) (r:=r') (t:=t) (c:=c) (a:=(i:Int)) x nH Q ⟨hx,by simp,by simp,fun e he=>.inl he⟩ hq (fun j hj k hk=>Ju hJ q3 ⟨by omega,by omega⟩ hk) (fun j y hj hy=>by
    obtain⟨y1,y2,y3,y4⟩:=hy;have VW:=VW j hj;rw[ew];exact rc (i+1) (bK J.D t c j) y uV aQ (mY hJ Gi q3 ⟨by omega,by omega⟩) y1 (by unfold ah;omega) (by unfold ah;omega))
   have inv:=bU (g:=UY J.D (jr J op r') t c) (m:=(J.s.getD c.toNat 0).toNat) (k:=0) (s:=([],x)) (fun j y=>Q j y.2) ⟨hx,by simp,by simp,fun e he=>.inl he⟩ (fun j y _ hj hy=>hq j y.2 (by omega) hy);rw[a3Z]at inv;simp only[];generalize aT (UY J.D (jr J op r') t c) (J.s.getD c.toNat 0).toNat 0 ([],x)=y at lp inv;obtain⟨ks,m⟩:=y;obtain⟨y1,y2,y3,y4⟩:=inv;have hnk:t∉m.k.map (·.1):=fun h=>by
    obtain⟨e,he,e2⟩:=a1e.1 h;rcases y4 e he with h1|h1
    .exact hk (a1e.2 ⟨e,h1,e2⟩)
    rw[e2]at h1;exact ZW hJ Gi AQ h1
   have hF2:nN X0 Qp 148 (Ic m.k) (.agg [.int .i64 t.a,.int .i64 t.b,.int .i64 t.c]):=kS.fresh (x:=t) (by simpa using hnk);have ek:Ic m.k++[(.agg t.ps,.int .i64 (m.n.length:Int))]=Ic (m.k++[(t,(m.n.length:Int))]):=by
    unfold Ic oU.es;rw[a4f,a4f];rfl
   have hF3:qp X0 Qp 148 (Ic m.k++[(.agg t.ps,.int .i64 (m.n.length:Int))]) (.agg [.int .i64 t.a,.int .i64 t.b,.int .i64 t.c]) (.int .i64 (m.n.length:Int)):=by
    refine(congrArg (fun l:List (PV aC×PV aC)=>qp X0 Qp 148 l (.agg [.int .i64 t.a,.int .i64 t.b,.int .i64 t.c]) (.int .i64 (m.n.length:Int))) ek).mpr ?_;refine kS.found (x:=t) ?_ ?_
    .rw[a8o,show((fun e:S3×PV X0.Γ=>e.1)∘fun e:S3×Int=>(e.1,(PV.int .i64 e.2:PV X0.Γ)))=fun e=>e.1 from rfl,a4f];exact DI y1.nd hnk
    simp
   have hb:m.n.length+[(⟨c,ks⟩:Br)].length<=ah:=by
    simp only[a3F];have y3:m.n.length+(J.s.getD c.toNat 0).toNat<=x.n.length+(J.s.getD c.toNat 0).toNat*wO J.s r':=y3;unfold ah;omega
   have h1:aU X0 Qp (bQ (N+2)) (.fn 126 [] pM) [.agg t.ps,.int .i64 (a:Int)] (HM0 J f x) (.int .i64 (m.n.length:Int)) (aky J f m t ⟨c,ks⟩):=by
    subst JD;exact fU gG (first:=[]) (cap:=pM) (.w lsk (.b t0 (.o ia (.o ig (.b tg' (.q (.bool false) hF (.b (rfl:false=false) (.o is (.wG [.mv 5,.mv 6,.Oi 1 1 3] lp (.q (.bool false) (kS.ck t) (.o hF2 (.o hb (.c (.int .i64 (m.n.length:Int)) [] hF3 .er)))))))))))))
   have h2:=aU.gs hX h1 [.gc [7,11]] (v':=.int .i64 (m.n.length:Int)) (H2:=[.map (Ic m.k++[(.agg t.ps,.int .i64 (m.n.length:Int))]),.cells [lI J.s,lI J.o,.own 7,.own 8,.int .i64 0],.aF (J.ps (.fn f [] [])),.aF [.fn 126 [] pM],.aF [.map 0],.gone,.gone,zC m.e,zD (m.n++[⟨c,ks⟩])]) (by kernel_rfl);exact(congrArg (fun l:List (PV aC×PV aC)=>aU X0 Qp (bQ (N+2)) (.fn 126 [] pM) [.agg t.ps,.int .i64 (a:Int)] (HM0 J f x) (.int .i64 (m.n.length:Int)) [.map l,.cells [lI J.s,lI J.o,.own 7,.own 8,.int .i64 0],.aF (J.ps (.fn f [] [])),.aF [.fn 126 [] pM],.aF [.map 0],.gone,.gone,zC m.e,zD (m.n++[⟨c,ks⟩])]) ek).mp h2
  rw[a0q rfl];have tg':decide (J.g.getD (J.o.getD (i:Int).toNat 0).toNat 0>=0)=true:=by rw[JD];exact tg
  have hg:0<=J.g.getD c.toNat 0:=by simpa using tg
  have haf:=Js (M:=N) (f:=f) (a:=[]) (cc:=[]) (H:=[]) J t c (J.g.getD c.toNat 0) hJ.d3 (fun k hk=>Ju hJ q3 ⟨hg,hJ.gv c nH hg⟩ hk);have h2:=rc (i+1) (bK J.D t c (J.g.getD c.toNat 0)) x uV aQ (mY hJ Gi q3 ⟨hg,hJ.gv c nH hg⟩) hx (by unfold ah;omega) (by unfold ah;omega);rw[<-ew]at h2;subst JD;exact fU gG (first:=[]) (cap:=pM) (.w lsk (.b t0 (.o ia (.o ig (.b tg' (.fr [] haf (.fr [0,1,2,3,4,5,6] h2 .er)))))))
theorem apP{N f:Nat}{J:Jb}(hJ:kD J){op:List V->V}(jK:qF J op)(hs:∀m,N<=m->∀l:List V,l.length=J.D.length->aU X0 Qp (bQ m) (.fn f [] []) [lV l] [] (.agg (op l).ps) []):∀(F:Nat) (r:List Int),r.length<=F->afG J op f (N+F+2) r:=by
 intro F
 induction F with
 |zero=>
  intro r hF;refine adk hJ jK (hs _ (by omega)) r fun c r' h=>?_;have:=h.length_le;rw[a4d]at this;omega
 |succ F ih=>
  intro r hF;refine adk (N:=N+F+1) hJ jK (hs _ (by omega)) r fun c r' h=>ih r' ?_;have:=h.length_le;rw[a4d]at this;omega
open Go Tw Pv dw
abbrev aaG(J:Jb)(f:Nat)(u:Int)(t:S3)(c:Int)(a:Int)(m:Mk)(ks:List Int)(i:Int)(y:List (Nat×PE aC)):aS aC:=⟨[(1,xi a),(2,.val (.ptr 2 0 5)),(3,.val (.ptr 1 0 5)),(4,.val (.ptr 3 0 1)),(5,.val (.ptr 4 0 1)),(6,.loc 0 0),(9,xi c),(13,.loc 1 0),(93,xi (J.s.getD c.toNat 0)),(94,xi i)]++y,[t.ps,[.int .i64 c,.own 10]],aaz J f u m++[oI false false ks]⟩
theorem apQ{M f:Nat}{u:Int}{J:Jb}(hJ:kD J){op:List V->V}{r:List Int}{t:S3}{c a:Int}(x:Mk)(hc:fK c J.s.length)(Q:Nat->Mk->Prop)(h0:Q 0 x)(hq:∀j y,j<(J.s.getD c.toNat 0).toNat->Q j y->Q (j+1) (jr J op r (bK J.D t c j) y).2)
  (hk:∀j:Nat,j<(J.s.getD c.toNat 0).toNat->∀k,k<J.D.length->a1P (l7 J.D k) (t.get k) c j)
  (hf:∀(j:Nat) y,j<(J.s.getD c.toNat 0).toNat->Q j y->aU X0 Qp (bQ (M+1)) (.fn 126 [] pM) [.agg (bK J.D t c j).ps,.int .i64 (i64.wrap (a+1))] (HM1 J f u y) (.int .i64 (jr J op r (bK J.D t c j) y).1) (aaz J f u (jr J op r (bK J.D t c j) y).2)) :
  Jj (M+1) 126 1 8 (aaG J f u t c a x [] 0 []) (.exit 2) (aaG J f u t c a (aT (UY J.D (jr J op r) t c) (J.s.getD c.toNat 0).toNat 0 ([],x)).2 (aT (UY J.D (jr J op r) t c) (J.s.getD c.toNat 0).toNat 0 ([],x)).1 (((J.s.getD c.toNat 0).toNat:Nat):Int) [(95,xl false)]):=by
 have hz:=hJ.bJ.sz _ (bP (s:=J.s) (k:=c.toNat) (by have:=hc.1;have:=hc.2;omega));refine vw (σ:=List Int×Mk) (N:=(J.s.getD c.toNat 0).toNat) (g:=UY J.D (jr J op r) t c) (s0:=([],x)) (st:=fun i y=>aaG J f u t c a y.2 y.1 i []) (fin:=fun y=>aaG J f u t c a y.2 y.1 (((J.s.getD c.toNat 0).toNat:Nat):Int) [(95,xl false)]) (fun j y=>y.1.length=j∧Q j y.2) (by kernel_rfl) (by unfold ah;omega) ⟨rfl,h0⟩ (fun j y hj hy=>⟨by simp[UY,hy.1],hq j y.2 hj hy.2⟩) (fun j y hj hy m e p g=>?_) (fun y _=>?_)
 .have h1:=hf j y.2 hj hy.2;have ha:=Js (M:=M) (f:=f) (a:=[]) (cc:=[.ptr 0 0 1]) (H:=[.aF [.int .u8 u]]) J t c j hJ.d3 (hk j hj);have t1:decide ((j:Int)<J.s.getD c.toNat 0)=true:=by rw[a1o];omega
  have h3:=hy.1;unfold UY at g;generalize jr J op r (bK J.D t c j) y.2=z at h1 g;obtain⟨v,z⟩:=z;exact aN gG (.b t1 (.fr [5] ha (.fr [0,1,2,3,4,5,8,9] h1 (.o (show y.1.length+[v].length<=ah by simp only[a3F];unfold ah;omega) (.goG [.gc [11,12,14]] g)))))
 .have t1:decide ((((J.s.getD c.toNat 0).toNat:Nat):Int)<J.s.getD c.toNat 0)=false:=by rw[a2W];omega
  exact aN gG (.b t1 .ex)
abbrev afI(J:Jb)(op:List V->V)(f:Nat)(u:Int)(m:Nat)(r:List Int):Prop:=∀(a:Nat) (t:S3) (x:Mk),J.o.drop a=r->a<=J.o.length->Dp J a t->XOk J op x->x.e.length+wO J.s r<=ah->x.n.length+wO J.s r<=ah ->
  aU X0 Qp (bQ m) (.fn 126 [] pM) [.agg t.ps,.int .i64 (a:Int)] (HM1 J f u x) (.int .i64 (jr J op r t x).1) (aaz J f u (jr J op r t x).2)
abbrev afJ(J:Jb)(f:Nat)(u:Int)(x:Mk)(v:V):List (PB aC):=[.map (Ic x.k),.cells [lI J.s,lI J.o,.own 9,.own 7,.int .i64 0],.aF (J.ps (.fn f [] [.ptr 5 0 1])),.aF [.fn 126 [] pM],.aF [.map 0],.aF [.int .u8 u],.gone,zD x.n,.list true true 39 [v],zC (x.e++[v])]
abbrev akA(J:Jb)(f:Nat)(u:Int)(x:Mk)(t:S3)(b:Br):List (PB aC):=[.map (Ic x.k++[(.agg t.ps,.int .i64 (x.n.length:Int))]),.cells [lI J.s,lI J.o,.own 8,.own 12,.int .i64 0],.aF (J.ps (.fn f [] [.ptr 5 0 1])),.aF [.fn 126 [] pM],.aF [.map 0],.aF [.int .u8 u],.gone,.gone,zC x.e,.gone,.gone,.list true true 105 [b],zD (x.n++[b])]
theorem adl{N f:Nat}(u:Int){J:Jb}(hJ:kD J){op:List V->V}(jK:qF J op)(hs:∀l:List V,l.length=J.D.length->aU X0 Qp (bQ (N+1)) (.fn f [] [.ptr 0 0 1]) [lV l] [.aF [.int .u8 u]] (.agg (op l).ps) [.aF [.int .u8 u]])(r:List Int)(rec:∀c r',c::r' <:+ r->afI J op f u (N+1) r'):afI J op f u (N+2) r:=by
 intro a t x hr ha hd hx Cm xR;unfold ah at Cm xR;have Qc:=(kD.o2 hJ).2.1;have hl6:=hJ.bJ.len;have lsk:=apJ (M:=N) (f:=f) u hJ (x:=x) r hr ha hd;obtain⟨q1,q2,q3,q4⟩:=Va hJ (op:=op) (x:=x) r a t hr ha hd;have hw:=Vb hJ r (Qy J.D t r) (fun c hc=>(kD.o2 hJ).2.2 c (a4Q (by rw[hr];exact hc)));rw[q1];generalize Qy J.D t r=n at lsk q1 q2 q3 q4 hw;have Gi:J.o.drop (a+n)=r.drop n:=by rw[<-hr,af5]
 have a7G:r.drop n <:+ r:=List.drop_suffix _ _;have Gv:=congrArg List.length Gi;rw[a3Y]at Gv;clear q1 hr;generalize a+n=i at lsk q2 q3 Gi Gv;generalize r.drop n=r0 at q4 hw Gi a7G Gv;cases r0 with
 |nil=>
  have e0:i=J.o.length:=by rw[a4H]at Gv;omega
  have t0:((i:Int)==(J.o.length:Int))=true:=by rw[e0];simp
  rw[e0]at q3;have qm:(aV J.D t).length=J.D.length:=by simp[aV]
  have hce:=aax (M:=N) (f:=f) (u:=u) J t hJ.d3 (fun k hk=>(Jv hJ q3 hk).2);have hv:=hs (aV J.D t) qm;simp only[wO]at hw;have hb:x.e.length+[op (aV J.D t)].length<=ah:=by simp only[a3F];unfold ah;omega
  have h1:aU X0 Qp (bQ (N+2)) (.fn 126 [] pM) [.agg t.ps,.int .i64 (a:Int)] (HM1 J f u x) (.int .i64 (i64.wrap (0-((x.e++[op (aV J.D t)]).length:Int)))) (afJ J f u x (op (aV J.D t))):=
   fU gG (first:=[]) (cap:=pM) (.w lsk (.b t0 (.fr [5] hce (.fr [5] hv (.o hb .er)))))
  exact aU.gs hX h1 [.mv 7,.gc [9,10]] (by kernel_rfl)
 |cons c r'=>
  have t0:((i:Int)==(J.o.length:Int))=false:=by rw[a4d]at Gv;simp;omega
  obtain⟨aQ,hoc,uV,EC,hci,nH⟩:=kD.at_ hJ Gi;have AQ:=q4 c r' rfl;have rc:=rec c r' a7G;have ia:fK (i:Int) J.o.length:=⟨by omega,by omega⟩;have JD:J.o.getD (i:Int).toNat 0=c:=by rw[a4I];exact hoc
  have ig:fK (J.o.getD (i:Int).toNat 0) J.g.length:=by rw[JD,hJ.gl];exact nH
  have hz:=hJ.bJ.sz _ (bP (s:=J.s) (k:=c.toNat) (by have:=nH.1;have:=nH.2;omega));have Yv:∀c'∈r',fK c' J.s.length:=fun c' h=>(kD.o2 hJ).2.2 c' (by rw[<-uV]at h;exact a4Q h);have hw0:=Pq hJ.bJ.sz Yv;have hw1:wO J.s r'<=(J.s.getD c.toNat 0).toNat*wO J.s r':=adu _ (by omega);have ew:i64.wrap ((i:Int)+1)=((i+1:Nat):Int):=by rw[dZ (by omega) (by omega)];omega
  simp only[wO]at hw;unfold jr;rw[a0q AQ];cases tg:decide (J.g.getD c.toNat 0>=0)
  .rw[a0p (by simp)];have tg':decide (J.g.getD (J.o.getD (i:Int).toNat 0).toNat 0>=0)=false:=by rw[JD];exact tg
   by_cases hk:t∈x.k.map (·.1)
   .rw[a0q hk];have hF:qp X0 Qp 148 (Ic x.k) (.agg [.int .i64 t.a,.int .i64 t.b,.int .i64 t.c]) (.int .i64 (knS x.k t)):=Y1 hx.nd hk;have h1:aU X0 Qp (bQ (N+2)) (.fn 126 [] pM) [.agg t.ps,.int .i64 (a:Int)] (HM1 J f u x) (.int .i64 (knS x.k t)) (HM1 J f u x):=
     fU gG (first:=[]) (cap:=pM) (.w lsk (.b t0 (.o ia (.o ig (.b tg' (.c (.int .i64 (knS x.k t)) [] hF (.b (rfl:true=true) .er)))))))
    exact aU.gs hX h1 [.mv 6,.mv 7] (by kernel_rfl)
   rw[a0p hk];have hm2:=V3 hJ Gi q3 AQ;have hF:nN X0 Qp 148 (Ic x.k) (.agg [.int .i64 t.a,.int .i64 t.b,.int .i64 t.c]):=kS.fresh (x:=t) (by simpa using hk);have is:fK (J.o.getD (i:Int).toNat 0) J.s.length:=by rw[JD];exact nH
   have VW:∀j,j<(J.s.getD c.toNat 0).toNat->j*wO J.s r'+wO J.s r'<=(J.s.getD c.toNat 0).toNat*wO J.s r':=fun j hj=>by
    have:(j+1)*wO J.s r'<=(J.s.getD c.toNat 0).toNat*wO J.s r':=a3m _ hj;rw[a3k]at this;omega
   let Q:Nat->Mk->Prop:=fun j y=>XOk J op y∧y.e.length<=x.e.length+j*wO J.s r'∧y.n.length+j<=x.n.length+j*wO J.s r'∧∀e∈y.k,e∈x.k∨Dp J (i+1) e.1
   have hq:∀j y,j<(J.s.getD c.toNat 0).toNat->Q j y->Q (j+1) (jr J op r' (bK J.D t c j) y).2:=fun j y hj hy=>by
    obtain⟨y1,y2,y3,y4⟩:=hy;have VW:=VW j hj;have h:=Tc hJ op jK r' (i+1) (bK J.D t c j) y uV aQ (mY hJ Gi q3 ⟨by omega,by omega⟩) y1 (by omega) (by omega);have h3:=h.el;have h4:=h.nl;refine⟨h.ok,by rw[a3k];omega,by rw[a3k];omega,fun e he=>?_⟩;rcases h.ks e he with h5|h5
    .exact y4 e h5
    exact .inr h5
   have lp:=apQ (M:=N) (f:=f) (u:=u) hJ (op:=op) (r:=r') (t:=t) (c:=c) (a:=(i:Int)) x nH Q ⟨hx,by simp,by simp,fun e he=>.inl he⟩ hq (fun j hj k hk=>Ju hJ q3 ⟨by omega,by omega⟩ hk) (fun j y hj hy=>by
    obtain⟨y1,y2,y3,y4⟩:=hy;have VW:=VW j hj;rw[ew];exact rc (i+1) (bK J.D t c j) y uV aQ (mY hJ Gi q3 ⟨by omega,by omega⟩) y1 (by unfold ah;omega) (by unfold ah;omega))
   have inv:=bU (g:=UY J.D (jr J op r') t c) (m:=(J.s.getD c.toNat 0).toNat) (k:=0) (s:=([],x)) (fun j y=>Q j y.2) ⟨hx,by simp,by simp,fun e he=>.inl he⟩ (fun j y _ hj hy=>hq j y.2 (by omega) hy);rw[a3Z]at inv;simp only[];generalize aT (UY J.D (jr J op r') t c) (J.s.getD c.toNat 0).toNat 0 ([],x)=y at lp inv;obtain⟨ks,m⟩:=y;obtain⟨y1,y2,y3,y4⟩:=inv;have hnk:t∉m.k.map (·.1):=fun h=>by
    obtain⟨e,he,e2⟩:=a1e.1 h;rcases y4 e he with h1|h1
    .exact hk (a1e.2 ⟨e,h1,e2⟩)
    rw[e2]at h1;exact ZW hJ Gi AQ h1
   have hF2:nN X0 Qp 148 (Ic m.k) (.agg [.int .i64 t.a,.int .i64 t.b,.int .i64 t.c]):=kS.fresh (x:=t) (by simpa using hnk);have ek:Ic m.k++[(.agg t.ps,.int .i64 (m.n.length:Int))]=Ic (m.k++[(t,(m.n.length:Int))]):=by
    unfold Ic oU.es;rw[a4f,a4f];rfl
   have hF3:qp X0 Qp 148 (Ic m.k++[(.agg t.ps,.int .i64 (m.n.length:Int))]) (.agg [.int .i64 t.a,.int .i64 t.b,.int .i64 t.c]) (.int .i64 (m.n.length:Int)):=by
    refine(congrArg (fun l:List (PV aC×PV aC)=>qp X0 Qp 148 l (.agg [.int .i64 t.a,.int .i64 t.b,.int .i64 t.c]) (.int .i64 (m.n.length:Int))) ek).mpr ?_;refine kS.found (x:=t) ?_ ?_
    .rw[a8o,show((fun e:S3×PV X0.Γ=>e.1)∘fun e:S3×Int=>(e.1,(PV.int .i64 e.2:PV X0.Γ)))=fun e=>e.1 from rfl,a4f];exact DI y1.nd hnk
    simp
   have hb:m.n.length+[(⟨c,ks⟩:Br)].length<=ah:=by
    simp only[a3F];have y3:m.n.length+(J.s.getD c.toNat 0).toNat<=x.n.length+(J.s.getD c.toNat 0).toNat*wO J.s r':=y3;unfold ah;omega
   have h1:aU X0 Qp (bQ (N+2)) (.fn 126 [] pM) [.agg t.ps,.int .i64 (a:Int)] (HM1 J f u x) (.int .i64 (m.n.length:Int)) (akA J f u m t ⟨c,ks⟩):=by
    subst JD;exact fU gG (first:=[]) (cap:=pM) (.w lsk (.b t0 (.o ia (.o ig (.b tg' (.q (.bool false) hF (.b (rfl:false=false) (.o is (.wG [.mv 6,.mv 7,.Oi 1 1 3] lp (.q (.bool false) (kS.ck t) (.o hF2 (.o hb (.c (.int .i64 (m.n.length:Int)) [] hF3 .er)))))))))))))
   have h2:=aU.gs hX h1 [.gc [8,12]] (v':=.int .i64 (m.n.length:Int)) (H2:=[.map (Ic m.k++[(.agg t.ps,.int .i64 (m.n.length:Int))]),.cells [lI J.s,lI J.o,.own 8,.own 9,.int .i64 0],.aF (J.ps (.fn f [] [.ptr 5 0 1])),.aF [.fn 126 [] pM],.aF [.map 0],.aF [.int .u8 u],.gone,.gone,zC m.e,zD (m.n++[⟨c,ks⟩])]) (by kernel_rfl);exact(congrArg (fun l:List (PV aC×PV aC)=>aU X0 Qp (bQ (N+2)) (.fn 126 [] pM) [.agg t.ps,.int .i64 (a:Int)] (HM1 J f u x) (.int .i64 (m.n.length:Int)) [.map l,.cells [lI J.s,lI J.o,.own 8,.own 9,.int .i64 0],.aF (J.ps (.fn f [] [.ptr 5 0 1])),.aF [.fn 126 [] pM],.aF [.map 0],.aF [.int .u8 u],.gone,.gone,zC m.e,zD (m.n++[⟨c,ks⟩])]) ek).mp h2
  rw[a0q rfl];have tg':decide (J.g.getD (J.o.getD (i:Int).toNat 0).toNat 0>=0)=true:=by rw[JD];exact tg
  have hg:0<=J.g.getD c.toNat 0:=by simpa using tg
  have haf:=Js (M:=N) (f:=f) (a:=[]) (cc:=[.ptr 0 0 1]) (H:=[.aF [.int .u8 u]]) J t c (J.g.getD c.toNat 0) hJ.d3 (fun k hk=>Ju hJ q3 ⟨hg,hJ.gv c nH hg⟩ hk);have h2:=rc (i+1) (bK J.D t c (J.g.getD c.toNat 0)) x uV aQ (mY hJ Gi q3 ⟨hg,hJ.gv c nH hg⟩) hx (by unfold ah;omega) (by unfold ah;omega);rw[<-ew]at h2;subst JD;exact fU gG (first:=[]) (cap:=pM) (.w lsk (.b t0 (.o ia (.o ig (.b tg' (.fr [5] haf (.fr [0,1,2,3,4,5,6,7] h2 .er)))))))
theorem apR{N f:Nat}(u:Int){J:Jb}(hJ:kD J){op:List V->V}(jK:qF J op)(hs:∀m,N<=m->∀l:List V,l.length=J.D.length->aU X0 Qp (bQ m) (.fn f [] [.ptr 0 0 1]) [lV l] [.aF [.int .u8 u]] (.agg (op l).ps) [.aF [.int .u8 u]]):∀(F:Nat) (r:List Int),r.length<=F->afI J op f u (N+F+2) r:=by
 intro F
 induction F with
 |zero=>
  intro r hF;refine adl u hJ jK (hs _ (by omega)) r fun c r' h=>?_;have:=h.length_le;rw[a4d]at this;omega
 |succ F ih=>
  intro r hF;refine adl (N:=N+F+1) u hJ jK (hs _ (by omega)) r fun c r' h=>ih r' ?_;have:=h.length_le;rw[a4d]at this;omega
end Go.Proofs.YtmobpoiejckagaaGreat
namespace Pv
open Go Tw
section
variable {X:kR} {P:Program}
theorem aU.akB(hX:bM X P){call:aY}{fv v:PV X.Γ}{xs:List (PV X.Γ)}{H H0 H1:List (PB X.Γ)}(gs:List G)(hs:aU X P call fv xs H0 v H1)(hg:kT H.length gs (⟨[],[],H⟩:aS X.Γ)=some ⟨[],[],H0⟩):aU X P call fv xs H v H1:=by
 intro A m h tf qZ hr hf hx;obtain⟨m2,q1,q2,q3⟩:=lJ hX hg A (fun b=>b∈bD m) h.length m ⟨[],[],h,[]⟩ ⟨⟨hr,rfl,fun k c hk=>(by simp at hk),.nil⟩,fun b hb=>.inl hb,fun b hb=>(by cases hb),a0w _⟩;have up:Up m m2:=fun i mb hi=>q3 i mb (by rw[<-hr.len];exact(a0d.1 hi).1) hi;obtain⟨w,h',ws,m1,k1,k2,k3,k4,k5,k6⟩:=hs A m2 h tf qZ q1.st.heap (hf.step q2 up) (hx.step q2 up);refine⟨w,h',ws,m1,k1,k2,k3,q2.trans k4,fun i mb hi=>?_,fun b hb=>?_⟩
 .rcases up i mb hi with g|g
  .exact k5 i mb g
  rcases k5 i _ g with g|g<;>exact .inr g
 have hb:=k6 b hb;rcases q1.own b hb with g|g
 .exact g
 have:=q1.st.heap.inb hb;have:b<h.length:=this;omega
end
end Pv
namespace Go.Proofs.YtmobpoiejckagaaGreat
open Go Tw Pv dw
theorem MW{n:Nat}(hO:Ok n Ib)(l:List Int)(hl:l.length<=ah):aU X0 Qp (bQ n) (.fn 125 [] []) [.dD 3 l false] [] (lI l) []:=
 have h0:=nZ.aag hX (hO 125 [.dD 3 l false] (.own 0) (lsI l) [l.length<=ah] (by kernel_rfl) (List.forall_mem_singleton.2 hl)) rfl rfl rfl rfl
 aU.cut hX (aU.fzR hX h0 [0] (v':=lI l) rfl (by decide)) rfl rfl rfl rfl
abbrev apS(J:Jb)(f:Nat)(x:Mk):List (PB aC):=[.map (Ic x.k),.cells [lI J.s,lI J.o,.own 7,.own 8,.int .i64 0],.cells (J.ps (.fn f [] [])),.cells [.fn 126 [] pM],.cells [.map 0],.gone,.gone,zC x.e,zD x.n]
theorem aaH{m f:Nat}(hO:Ok m Ib)(J:Jb)(st:S3)(z:Int×Mk)
  (c1:aU X0 Qp (bQ m) (.fn 125 [] []) [.dD 3 J.s false] [] (lI J.s) [])
  (c2:aU X0 Qp (bQ m) (.fn 125 [] []) [.dD 3 J.o false] [] (lI J.o) [])
  (c3:aU X0 Qp (bQ m) (.fn 130 [] []) [.agg (J.ps (.fn f [] []))] [] (.agg st.ps) [])
  (c5:aU X0 Qp (bQ m) (.fn 126 [] pM) [.agg st.ps,.int .i64 (0:Int)] [.map [],.cells [lI J.s,lI J.o,.nil .slc,.nil .slc,.int .i64 0],.aF (J.ps (.fn f [] [])),.aF [.fn 126 [] pM],.aF [.map 0]] (.int .i64 z.1) (aay J f z.2))
  (hr:Iz ⟨J.s,J.o,z.2.e,z.2.n,z.1⟩) (p1:J.s.length<=ah) (p2:J.o.length<=2^20) (p3:z.2.e.length<=ah) (p4:((bG ⟨J.s,J.o,z.2.e,z.2.n,z.1⟩).2 != 0)=false->ClP (bG ⟨J.s,J.o,z.2.e,z.2.n,z.1⟩).1) :
  aU X0 Qp (bQ (m+1)) (.fn 80 [] []) [.agg (J.ps (.fn f [] []))] [] (dA.put (zG ⟨J.s,J.o,z.2.e,z.2.n,z.1⟩).1) []:=by
 obtain⟨v,e,n,k⟩:=z;have h0:aU X0 Qp (bQ (m+1)) (.fn 80 [] []) [.agg (J.ps (.fn f [] []))] [] (dA.put (zG ⟨J.s,J.o,e,n,v⟩).1) ([]++[.cells (J.ps (.fn f [] [])),.cells [lI J.s,lI J.o,.own 7,.own 8,.int .i64 v],.map (Ic k),.cells [.map 2],.cells [.fn 126 [] [.ptr 0 0 5,.ptr 1 0 5,.ptr 4 0 1,.ptr 3 0 1]],.gone,.gone,.gone,.gone]):=
  fU hO (first:=[]) (cap:=[]) (.fr [] c1 (.fr [] c2 (.fr [] c3 (.Qq (H2:=apS J f ⟨e,n,k⟩) [2,1,0,4,3] [2,3,4] c5 (.o hr (.o p1 (.o p2 (.o p3 (.o p4 .er)))))))))
 exact aU.cut hX h0 rfl rfl rfl rfl
theorem afK{N f:Nat}{J:Jb}(hJ:kD J){op:List V->V}(jK:qF J op)(hs:∀m,N<=m->∀l:List V,l.length=J.D.length->aU X0 Qp (bQ m) (.fn f [] []) [lV l] [] (.agg (op l).ps) [])(hO:∀m,N<=m->Ok m Ib){m:Nat}(hm:N+J.o.length+2<=m):aU X0 Qp (bQ (m+1)) (.fn 80 [] []) [.agg (J.ps (.fn f [] []))] [] (dA.put (AU J op)) []:=by
 have hl:=hJ.bJ.len;have Qc:=(kD.o2 hJ).2.1;have hw:=DC hJ.bJ.sz hJ.ord;have hmn:=hJ.bJ.many;have c1:=MW (n:=m) (hO m (by omega)) J.s (by unfold ah;omega);have c2:=MW (n:=m) (hO m (by omega)) J.o (by unfold ah;omega);obtain⟨m',rfl⟩:∃m',m=m'+1:=⟨m-1,by omega⟩;have c3:=ZV (M:=m') (f:=f) (a:=[]) (cc:=[]) (H:=[]) J hJ.d3;have c4:=apP (N:=m'+1-J.o.length-2) (f:=f) hJ jK (fun m2 h2=>hs m2 (by omega)) J.o.length J.o (a0w _) 0 (eX J.D) ⟨[],[],[]⟩ abu (a4C _) (fun k hk=>by
  rw[vX hJ.d3 hk];exact⟨(hJ.dg k hk).t.root,a4C _⟩) ⟨⟨fun i hi=>(by simp at hi),fun i hi=>(by simp at hi),fun i hi=>(by simp at hi)⟩,fun e he=>(by cases he),a6z,fun v hv=>(by cases hv),fun b hb=>(by cases hb)⟩ (by show 0+wO J.s J.o<=ah;unfold ah;omega) (by show 0+wO J.s J.o<=ah;unfold ah;omega)
 rw[show m'+1-J.o.length-2+J.o.length+2=m'+1 by omega]at c4;have c5:=aU.akB hX (H:=[.map [],.cells [lI J.s,lI J.o,.nil .slc,.nil .slc,.int .i64 0],.aF (J.ps (.fn f [] [])),.aF [.fn 126 [] pM],.aF [.map 0]]) [.Ui 1 2 39,.Ui 1 3 105] c4 (by kernel_rfl);obtain⟨h1,h2,h3⟩:=zH hJ jK;have hr:=a7z hJ jK;have h4:(bG (jT J op)).2=0:=by rw[(Ig hJ jK).1]
 have h5:=wX hr (by unfold ah;omega) (by show J.s.length<=ah;unfold ah;omega) (by show J.o.length<=ah;unfold ah;omega) h4;have p1:J.s.length<=ah:=by unfold ah;omega
 have p2:J.o.length<=2^20:=by omega
 have p3:(jT J op).aK.length<=ah:=by unfold ah;omega
 have p4:((bG (jT J op)).2 != 0)=false->ClP (bG (jT J op)).1:=fun _=>by rw[h5.1];exact h5.2
 exact aaH (hO (m'+1) (by omega)) J (eX J.D) (jr J op J.o (eX J.D) ⟨[],[],[]⟩) c1 c2 c3 c5 hr p1 p2 p3 p4
abbrev apT(J:Jb)(f:Nat)(u:Int)(x:Mk):List (PB aC):=[.map (Ic x.k),.cells [lI J.s,lI J.o,.own 8,.own 9,.int .i64 0],.cells (J.ps (.fn f [] [.ptr 5 0 1])),.cells [.fn 126 [] pM],.cells [.map 0],.aF [.int .u8 u],.gone,.gone,zC x.e,zD x.n]
theorem aaI{m f:Nat}(u:Int)(hO:Ok m Ib)(J:Jb)(st:S3)(z:Int×Mk)
  (c1:aU X0 Qp (bQ m) (.fn 125 [] []) [.dD 3 J.s false] [] (lI J.s) [])
  (c2:aU X0 Qp (bQ m) (.fn 125 [] []) [.dD 3 J.o false] [] (lI J.o) [])
  (c3:aU X0 Qp (bQ m) (.fn 130 [] []) [.agg (J.ps (.fn f [] [.ptr 0 0 1]))] [.aF [.int .u8 u]] (.agg st.ps) [.aF [.int .u8 u]])
  (c5:aU X0 Qp (bQ m) (.fn 126 [] pM) [.agg st.ps,.int .i64 (0:Int)] [.map [],.cells [lI J.s,lI J.o,.nil .slc,.nil .slc,.int .i64 0],.aF (J.ps (.fn f [] [.ptr 5 0 1])),.aF [.fn 126 [] pM],.aF [.map 0],.aF [.int .u8 u]] (.int .i64 z.1) (aaz J f u z.2))
  (hr:Iz ⟨J.s,J.o,z.2.e,z.2.n,z.1⟩) (p1:J.s.length<=ah) (p2:J.o.length<=2^20) (p3:z.2.e.length<=ah) (p4:((bG ⟨J.s,J.o,z.2.e,z.2.n,z.1⟩).2 != 0)=false->ClP (bG ⟨J.s,J.o,z.2.e,z.2.n,z.1⟩).1) :
  aU X0 Qp (bQ (m+1)) (.fn 80 [] []) [.agg (J.ps (.fn f [] [.ptr 0 0 1]))] [.aF [.int .u8 u]] (dA.put (zG ⟨J.s,J.o,z.2.e,z.2.n,z.1⟩).1) [.aF [.int .u8 u]]:=by
 obtain⟨v,e,n,k⟩:=z;have h0:aU X0 Qp (bQ (m+1)) (.fn 80 [] []) [.agg (J.ps (.fn f [] [.ptr 0 0 1]))] [.aF [.int .u8 u]] (dA.put (zG ⟨J.s,J.o,e,n,v⟩).1) ([.aF [.int .u8 u]]++[.cells (J.ps (.fn f [] [.ptr 0 0 1])),.cells [lI J.s,lI J.o,.own 8,.own 9,.int .i64 v],.map (Ic k),.cells [.map 3],.cells [.fn 126 [] [.ptr 1 0 5,.ptr 2 0 5,.ptr 5 0 1,.ptr 4 0 1]],.gone,.gone,.gone,.gone]):=
  fU hO (first:=[]) (cap:=[]) (.fr [] c1 (.fr [] c2 (.fr [0] c3 (.Qq (H2:=apT J f u ⟨e,n,k⟩) [3,2,1,5,4,0] [2,3,4] c5 (.o hr (.o p1 (.o p2 (.o p3 (.o p4 .er)))))))))
 exact aU.cut hX h0 rfl rfl rfl rfl
theorem afL{N f:Nat}(u:Int){J:Jb}(hJ:kD J){op:List V->V}(jK:qF J op)(hs:∀m,N<=m->∀l:List V,l.length=J.D.length->aU X0 Qp (bQ m) (.fn f [] [.ptr 0 0 1]) [lV l] [.aF [.int .u8 u]] (.agg (op l).ps) [.aF [.int .u8 u]])(hO:∀m,N<=m->Ok m Ib){m:Nat}(hm:N+J.o.length+2<=m):aU X0 Qp (bQ (m+1)) (.fn 80 [] []) [.agg (J.ps (.fn f [] [.ptr 0 0 1]))] [.aF [.int .u8 u]] (dA.put (AU J op)) [.aF [.int .u8 u]]:=by
 have hl:=hJ.bJ.len;have Qc:=(kD.o2 hJ).2.1;have hw:=DC hJ.bJ.sz hJ.ord;have hmn:=hJ.bJ.many;have c1:=MW (n:=m) (hO m (by omega)) J.s (by unfold ah;omega);have c2:=MW (n:=m) (hO m (by omega)) J.o (by unfold ah;omega);obtain⟨m',rfl⟩:∃m',m=m'+1:=⟨m-1,by omega⟩;have c3:=ZV (M:=m') (f:=f) (a:=[]) (cc:=[.ptr 0 0 1]) (H:=[.aF [.int .u8 u]]) J hJ.d3;have c4:=apR (N:=m'+1-J.o.length-2) (f:=f) u hJ jK (fun m2 h2=>hs m2 (by omega)) J.o.length J.o (a0w _) 0 (eX J.D) ⟨[],[],[]⟩ abu (a4C _) (fun k hk=>by
  rw[vX hJ.d3 hk];exact⟨(hJ.dg k hk).t.root,a4C _⟩) ⟨⟨fun i hi=>(by simp at hi),fun i hi=>(by simp at hi),fun i hi=>(by simp at hi)⟩,fun e he=>(by cases he),a6z,fun v hv=>(by cases hv),fun b hb=>(by cases hb)⟩ (by show 0+wO J.s J.o<=ah;unfold ah;omega) (by show 0+wO J.s J.o<=ah;unfold ah;omega)
 rw[show m'+1-J.o.length-2+J.o.length+2=m'+1 by omega]at c4;have c5:=aU.akB hX (H:=[.map [],.cells [lI J.s,lI J.o,.nil .slc,.nil .slc,.int .i64 0],.aF (J.ps (.fn f [] [.ptr 5 0 1])),.aF [.fn 126 [] pM],.aF [.map 0],.aF [.int .u8 u]]) [.Ui 1 2 39,.Ui 1 3 105] c4 (by kernel_rfl);obtain⟨h1,h2,h3⟩:=zH hJ jK;have hr:=a7z hJ jK;have h4:(bG (jT J op)).2=0:=by rw[(Ig hJ jK).1]
 have h5:=wX hr (by unfold ah;omega) (by show J.s.length<=ah;unfold ah;omega) (by show J.o.length<=ah;unfold ah;omega) h4;have p1:J.s.length<=ah:=by unfold ah;omega
 have p2:J.o.length<=2^20:=by omega
 have p3:(jT J op).aK.length<=ah:=by unfold ah;omega
 have p4:((bG (jT J op)).2 != 0)=false->ClP (bG (jT J op)).1:=fun _=>by rw[h5.1];exact h5.2
 exact aaI u (hO (m'+1) (by omega)) J (eX J.D) (jr J op J.o (eX J.D) ⟨[],[],[]⟩) c1 c2 c3 c5 hr p1 p2 p3 p4
end Go.Proofs.YtmobpoiejckagaaGreat
namespace Pv
open Go Tw
section
variable {P:Program} {T:qH} {call:aY} {cd:uX} {L f:Nat} {fl nt:Nat}
def nV:Code->Bool
 |.rangeFunc ..=>false
 |.region _ ops _=>(Ad ops).isNone
 |.seq a b=>nV a&&nV b
 |.cond _ a b=>nV a&&nV b
 |.block _ b=>nV b
 |.scope b=>nV b
 |.loop b=>nV b
 |_=>true
theorem a7I:∀(c:Code) {s s':St} {e:Ex} {Q:Ex->St->Prop},nV c=true->exec P T call L f false fl nt c s=some (e,s')->Q e s'->fJ P T call cd L f fl nt c s Q:=by
 intro c
 induction c with
 |region id ops draw=>
  intro s s' e Q hn h hq;simp only[nV,Option.isNone_iff_eq_none]at hn;simp only[fJ,hn];exact⟨_,_,h,hq⟩
 |seq x y Wh ihy=>
  intro s s' e Q hn h hq;simp only[nV,a2n]at hn;simp only[fJ];simp only[exec]at h;split at h
  .rename_i s1 hx;exact Wh hn.1 hx (ihy hn.2 h hq)
  rename_i iE;refine Wh hn.1 h ?_;cases e with
  |norm=>exact(iE s' h).elim
  |exit i=>exact hq
  |ret=>exact hq
 |cond c x y Wh ihy=>
  intro s s' e Q hn h hq;simp only[nV,a2n]at hn;simp only[fJ];simp only[exec]at h;split at h
  .rename_i hc;simp only[hc];exact Wh hn.1 h hq
  .rename_i hc;simp only[hc];exact ihy hn.2 h hq
  cases h
 |block id b ih=>
  intro s s' e Q hn h hq;simp only[nV]at hn;simp only[fJ];simp only[exec]at h;split at h
  .rename_i i s1 hb;cases h;exact ih hn hb hq
  rename_i iE;refine ih hn h ?_;cases e with
  |exit i=>exact(iE i s' h).elim
  |norm=>exact hq
  |ret=>exact hq
 |scope b ih=>
  intro s s' e Q hn h hq;simp only[nV]at hn;simp only[fJ];simp only[exec]at h;exact ih hn h hq
 |loop b ih=>
  intro s s' e Q hn h hq;simp only[nV]at hn;simp only[fJ];simp only[exec]at h;have:∀(k:Nat) {s:St},iter (fun s=>exec P T call L f false fl nt b (kE (T.eP f (dU b)) s)) k s=some (e,s')->GH (fun s Q=>fJ P T call cd L f fl nt b (kE (T.eP f (dU b)) s) Q) k s Q:=by
   intro k
   induction k with
   |zero=>intro s h;simp[iter]at h
   |succ k ihk=>
    intro s h;simp only[iter]at h;split at h
    .rename_i s1 h1;exact ih hn h1 (ihk h)
    rename_i iE;refine ih hn h ?_;cases e with
    |norm=>exact(iE s' h).elim
    |exit i=>exact hq
    |ret=>exact hq
  exact this L h
 |rangeFunc=>intro s s' e Q hn;cases hn
 |_=>
  intro s s' e Q hn h hq;simp only[fJ];exact⟨_,_,h,hq⟩
end
section
variable {X:kR} {P:Program} {T:qH} {call:aY} {cd:uX} {L f nt B:Nat}
def aJ(X:kR)(P:Program)(T:qH)(call:aY)(cd:uX)(L f nt B:Nat)(c:Code)(ps:aS X.Γ)(Q:Ex->aS X.Γ->Prop):Prop:=
 ∀(A W:Nat->Prop) (fl:Nat) (m:List MB) (ts:St) (R:Ex->St->Prop),SR X P A W fl m ps ts->(∀e iJ ps1 m1,Q e ps1->SR X P A W fl m1 ps1 iJ->Fr m ts.heap m1 iJ.heap->MI B m m1->R e iJ)->fJ P T call cd L f fl nt c ts R
theorem aJ.mono{c:Code}{ps:aS X.Γ}{Q Q':Ex->aS X.Γ->Prop}(hq:∀e s,Q e s->Q' e s)(h:aJ X P T call cd L f nt B c ps Q):aJ X P T call cd L f nt B c ps Q':=fun A W fl m ts R hS hR=>
 h A W fl m ts R hS fun e iJ ps1 m1 a1=>hR e iJ ps1 m1 (hq _ _ a1)
theorem dN.dem{c:Code}{ps ps1:aS X.Γ}{e:Ex}{Q:Ex->aS X.Γ->Prop}(hn:nV c=true)(h:dN X P T call L f false nt B c ps e ps1)(hq:Q e ps1):aJ X P T call cd L f nt B c ps Q:=fun A W fl m ts R hS hR=>by
 obtain⟨iJ,m1,h1,h2,h3,h4⟩:=h A W fl m ts hS;exact a7I c hn h1 (hR _ _ ps1 m1 hq h2 h3 h4)
theorem aJ.seq{a b:Code}{ps:aS X.Γ}{Q R:Ex->aS X.Γ->Prop}(ha:aJ X P T call cd L f nt B a ps R)(hb:∀s,R .norm s->aJ X P T call cd L f nt B b s Q)(he:∀i s,R (.exit i) s->Q (.exit i) s)(hr:∀s,R .ret s->Q .ret s):aJ X P T call cd L f nt B (.seq a b) ps Q:=fun A W fl m ts R' hS hR=>by
 simp only[fJ];refine ha A W fl m ts _ hS fun e iJ ps1 m1 a1 a2 a3 a4=>?_;cases e with
 |norm=>exact hb ps1 a1 A W fl m1 iJ R' a2 fun e ts2 Cj m2 b1 b2 b3 b4=>hR e ts2 Cj m2 b1 b2 (a3.trans b3) (a4.trans b4)
 |exit i=>exact hR _ _ ps1 m1 (he _ _ a1) a2 a3 a4
 |ret=>exact hR _ _ ps1 m1 (hr _ a1) a2 a3 a4
theorem aJ.block{id:Nat}{b:Code}{ps:aS X.Γ}{Q:Ex->aS X.Γ->Prop}(h:aJ X P T call cd L f nt B b ps fun e s=>Q (match e with|.exit i=>if i=id then .norm else .exit i|e=>e) s):aJ X P T call cd L f nt B (.block id b) ps Q:=fun A W fl m ts R hS hR=>by
 simp only[fJ];exact h A W fl m ts _ hS fun e iJ ps1 m1 a1 a2 a3 a4=>hR _ iJ ps1 m1 a1 a2 a3 a4
theorem aJ.loop{b:Code}{Q:Ex->aS X.Γ->Prop}(I:Nat->aS X.Γ->Prop)
  (h:∀k s,I k s->aJ X P T call cd L f nt B b (gU X (T.eP f (dU b)) s) fun e s=>match e with|.norm=>∃j,j<k∧I j s|e=>Q e s) {k:Nat} {ps:aS X.Γ} (hi:I k ps) (hk:k<L):aJ X P T call cd L f nt B (.loop b) ps Q:=fun A W fl m ts R hS hR=>by
 simp only[fJ];have key:∀(n k:Nat) (ps:aS X.Γ) (m1:List MB) (iJ:St),k<n->I k ps->SR X P A W fl m1 ps iJ->Fr m ts.heap m1 iJ.heap->MI B m m1->GH (fun s Q=>fJ P T call cd L f fl nt b (kE (T.eP f (dU b)) s) Q) n iJ R:=by
  intro n
  induction n with
  |zero=>intro k ps m ts hk;omega
  |succ n ih=>
   intro k ps m1 iJ hk hi hS hF hU;simp only[GH];refine h k ps hi A W fl m1 _ _ (hS.head _) fun e ts2 Cj m2 a1 a2 a3 a4=>?_;have a3:Fr m1 iJ.heap m2 ts2.heap:=a3;cases e with
   |norm=>
    obtain⟨j,hj,A8⟩:=a1;exact ih j Cj m2 ts2 (by omega) A8 a2 (hF.trans a3) (hU.trans a4)
   |exit i=>exact hR _ _ Cj m2 a1 a2 (hF.trans a3) (hU.trans a4)
   |ret=>exact hR _ _ Cj m2 a1 a2 (hF.trans a3) (hU.trans a4)
 exact key L k ps m ts hk hi hS .refl Up.refl.b
theorem aJ.cond{c:Operand}{a b:Code}{ps:aS X.Γ}{t:Bool}{Q:Ex->aS X.Γ->Prop}(hc:zS ps.env c=some (.bool t))(h:aJ X P T call cd L f nt B (if t then a else b) ps Q):aJ X P T call cd L f nt B (.cond c a b) ps Q:=fun A W fl m ts R hS=>by
 obtain⟨x,g1,g2⟩:=jk hS.st.env hc;have hx:x=.bool t:=by
  cases g2 with
  |bool=>rfl
  |gone hi _ _=>simp[bC]at hi
 subst hx;simp only[fJ,g1];cases t with
 |true=>exact h A W fl m ts R hS
 |false=>exact h A W fl m ts R hS
theorem aJ.next{id it nx mo b r n:Nat}{seen:List Nat}{ops:Array Oper}{draw:Bool}{o1 o2:Oper}{ps:aS X.Γ}{es:List (PV X.Γ×PV X.Γ)}{Q:Ex->aS X.Γ->Prop}(hn:Ad ops=some (it,nx,o1,o2))(hd:nx<nt)(hd2:mo<nt)
  (h2:o2.op=.extract (.tmp nx) 0) (h3:o2.dst=some mo) (h4:o2.guard=none)
  (Qm:zS ps.env (.tmp it)=some (.iter b)) (hb:ps.heap[b]? = some (.dn r n seen)) (hr:Ku X ps.heap r=some es) (hl:es.length=n)
  (vY:(∀j,j<n->j∈seen)->Q .norm { ps with env:=jd (T.iD f id) ((mo,.val (.bool false))::(nx,.val (.dF [.bool false]))::ps.env) })
  (pick:∀j e,j∉seen->es[j]? = some e->Q .norm { ps with env:=jd (T.iD f id) ((mo,.val (.bool true))::(nx,.val (.dF [.bool true,e.1,e.2]))::ps.env),heap:=ps.heap.set b (.dn r n (j::seen)) }) :
  aJ X P T call cd L f nt B (.region id ops draw) ps Q:=fun A W fl m ts R hS hR0=>by
 obtain⟨x,g1,g2⟩:=jk hS.st.env Qm;obtain⟨mb,q1,q2⟩:=hS.st.heap.at_ b _ hb;obtain⟨cr,gu,q3,z1,z2,z3⟩:=D7 hS.st.heap hr;cases mb with
 |gy cb=>
   obtain⟨c,p1,p2,p3⟩:=q2;have:=p3 cr (by rcases q3 with q|⟨q,_⟩;exact .inl q;exact .inr q);subst this;cases g2 with
   |gone hi e _=>simp only[bC,a03]at hi;subst hi;rw[q1]at e;cases e
   |iter e1=>
    rw[q1]at e1;cases e1;have apU:dM it ts.env=some (.val (.iter cb)):=by
     unfold qK at g1;split at g1
     .rename_i v hv;cases g1;exact hv
     .cases g1
    have run:∀(s:St) (t:Bool) (vs:List TV),lC P call (fun d=>T.TM f d) fl nt ops [o2] (s.put (some nx) (.val (.dF (.bool t::vs))))=some ({ s with env:=(mo,.val (.bool t))::(nx,.val (.dF (.bool t::vs)))::s.env },[cZ]):=by
     intro s t vs;have e1:Nc nt o2=true:=(by simp[Nc,h3,hd2]);have e2:∀env,Ce ops env o2=some true:=fun env=>(by simp[Ce,h4]);simp only[lC,e1,e2,a8N,a2V,a3U,pz,h2];simp[St.put,Ir,dM,h3,jX,cZ,yJ]
    simp only[fJ,hn];refine⟨hd,cb,cr,n,seen,gu,apU,p1,z1,by rw[<-z2];exact hl,fun Fv=>?_,fun j e hj he=>?_⟩
    .refine⟨_,_,run ts false [],hR0 _ _ { ps with env:=_ } m (vY Fv) ?_ .refl Up.refl.b⟩;have hS2:uP X P A m { ps with env:=(mo,.val (.bool false))::(nx,.val (.dF [.bool false]))::ps.env } { ts with env:=(mo,.val (.bool false))::(nx,.val (.dF [.bool false]))::ts.env }:=
      ⟨hS.st.heap,hS.st.llen,hS.st.loc,.cons (.bool false) (.cons (bZ.cons (.bool false) .nil |> fun h=>.dF h.1 h.2) hS.st.env)⟩
     exact SR.pick ⟨hS2,hS.own,hS.ws,hS.fl⟩ _
    .have aQ:j<es.length:=by rw[z2];exact(a0d.1 he).1
     have hej:=a0g aQ;have hv:=z3 j _ _ hej he;have hcb:=(a0d.1 p1).1;obtain⟨u1,u2⟩:=hS.st.heap.set (pb:=.dn r n (j::seen)) (hb:=.dn cr n (j::seen)) q1 (c:=cb) rfl (fun cs hc=>by simp[aW,p1]at hc) fun hF=>⟨cr,by simp[hcb],p2,p3⟩;refine⟨_,_,run _ true [e.1,e.2],hR0 _ _ { ps with env:=_,heap:=_ } m (pick j _ hj hej) ?_ u2 Up.refl.b⟩;have hS1:=hS.st.step u1 u2 .refl;have hS2:uP X P A m { ps with env:=(mo,.val (.bool true))::(nx,.val (.dF [.bool true,es[j].1,es[j].2]))::ps.env,heap:=ps.heap.set b (.dn r n (j::seen)) } { ts with env:=(mo,.val (.bool true))::(nx,.val (.dF [.bool true,e.1,e.2]))::ts.env,heap:=ts.heap.set cb (.dn cr n (j::seen)),ws:=jX fl [.h cb] ts.ws }:=
      ⟨hS1.heap,hS1.llen,hS1.loc,.cons (.bool true) (.cons (bZ.cons (.bool true) (bZ.cons (nP hv.1) (bZ.cons (nP hv.2) .nil)) |> fun h=>.dF h.1 h.2) hS1.env)⟩
     refine SR.pick ⟨hS2,hS.own,fun b2 xR=>?_,by simpa using hS.fl⟩ _;rcases oh.1 xR with h5|⟨h5,h6⟩
     .exact hS.ws b2 h5
     .simp at h5;subst h5;exact(hS.own _ (bf q1 rfl)).resolve_right (by omega)
 |_=>exact q2.elim
def aaJ(X:kR)(P:Program)(cd:uX)(fv:PV X.Γ)(xs:List (PV X.Γ))(H:List (PB X.Γ))(K:PV X.Γ->List (PB X.Γ)->Prop):Prop:=
 ∀(A:Nat->Prop) (m:List MB) (h:List HB) (tf:TV) (qZ:List TV) (R:TV->List HB->List Nat->Prop),HR X P A m H h->VR X P (AA A m) m h fv tf->bZ X P (AA A m) m h xs qZ ->
  (∀w h1 ws m1 v H1,K v H1->HR X P A m1 H1 h1->VR X P (AA A m1) m1 h1 v w->Fr m h m1 h1->Up m m1->(∀b∈ws,b∈bD m)->R w h1 ws)->cd tf qZ h R
theorem a1X{n:Nat}{t:FnT}{first xs cap:List (PV X.Γ)}{H:List (PB X.Γ)}{K:PV X.Γ->List (PB X.Γ)->Prop}(hX:bM X P)(ht:TL P f=some t)
  (hE:aJ X P T (lq P T L n) CS L f t.nt H.length t.body ⟨lu X 0 (first++xs++cap),[],H⟩ fun e s=>(e=.norm∨e=.ret)∧∃us,EU X P s t.results=some us∧K (Zm X us) s.heap):aaJ X P (uN P T (lq P T L n) L) (.fn f first cap) xs H K:=by
 intro A m h tf qZ R hr hf NQ hR;cases hf with
 |gone hi _ _=>simp[bC]at hi
 |fn p1 p2 p3 p4=>
  rename_i a' c';have EP:=(bZ.app ⟨p1,p2⟩ NQ).app ⟨p3,p4⟩;refine⟨t,ht,hE A (fun b=>b∈bD m) _ m _ _ ⟨⟨hr,rfl,fun k cs hk=>by simp at hk,MJ EP⟩,fun b h1=>.inl h1,fun b hb=>(by cases hb),a0w _⟩ fun e iJ ps1 m1 ⟨he,us,hus,hk⟩ h3 h4 h5=>?_⟩;obtain⟨ws,g1,g2⟩:=IW hX h3.st hus;refine⟨he,ws,g1,hR _ _ _ m1 _ _ hk h3.st.heap (Uy g2) h4 (fun i mb hi=>h5 i mb ?_ hi) h3.ws⟩;rw[<-hr.len];exact(a0d.1 hi).1
theorem aJ.range(hX:bM X P){g:Operand}{qs:Array Nat}{uI body:Code}{ps:aS X.Γ}{f1:FuncId}{a1 b1:List (PV X.Γ)}{K:PV X.Γ->List (PB X.Γ)->Prop}{Q:Ex->aS X.Γ->Prop}
  (hg:zS ps.env g=some (.fn f1 a1 b1)) (hd:T.din.contains f1=true) (Fv:(ps.env.all fun p=>ZB p.2)=true)
  (aar:aaJ X P cd (.fn f1 a1 b1) [.kW (ps.heap.length+1)] (ps.heap++[.mark]++[.loop true f nt ps.env qs.toList uI body none]) K)
  (hk:∀v H1,K v H1->∃rd f2 Qg e2 Cj a2 b2 jI e,H1[ps.heap.length+1]? = some (.loop rd f2 Qg e2 Cj a2 b2 jI)∧QH rd jI=some e∧Q e { ps with heap:=H1.set (ps.heap.length+1) (.loop false f2 Qg e2 Cj a2 b2 (some .skip)) }) :
  aJ X P T call cd L f nt B (.rangeFunc g qs uI body) ps Q:=by
 intro A W fl m ts R hS hR;obtain⟨tg,g1,g2⟩:=jk hS.st.env hg;have hm:=hS.st.heap.len;obtain⟨p1,p2,p3⟩:=hS.st.heap.push (pb:=.mark) (hb:=.mark) (mb:=.gy ts.heap.length) (.inl rfl) (by simp[BR]);obtain⟨q1,q2,q3⟩:=p1.push (pb:=.loop true f nt ps.env qs.toList uI body none) (hb:=.loop true f nt ts.env qs.toList uI body none) (mb:=.gy (ts.heap.length+1)) (.inl (by simp[MB.own])) (by
  refine⟨ts.env,by simp,?_⟩;refine jV.step (m:=m) (h:=ts.heap) (A:=A) ?_ ?_ hS.st.env
  .have r2:Fr (m++[MB.gy ts.heap.length]) (ts.heap++[HB.mark]) (m++[MB.gy ts.heap.length]++[MB.gy (ts.heap.length+1)]) (ts.heap++[HB.mark]++[HB.loop true f nt ts.env qs.toList uI body none]):=by
    refine⟨by simp,fun b hb _=>by rw[a0k hb],fun b hb=>?_,fun b cs hc=>⟨cs,?_,a0w _⟩⟩
    .rw[jc,a2Y,kM]at hb;rcases hb with hb|hb
     .exact .inl hb
     .simp[MB.own]at hb;subst hb;exact .inr (by simp)
    .rw[fV (a0k (gV hc)),hc]
   exact p2.trans r2
  .exact p3.trans (wM _))
 have hF:=p2.trans q2;have hU:=p3.trans q3;have hyl:VR X P (AA A (m++[MB.gy ts.heap.length]++[MB.gy (ts.heap.length+1)])) (m++[MB.gy ts.heap.length]++[MB.gy (ts.heap.length+1)]) (ts.heap++[HB.mark]++[HB.loop true f nt ts.env qs.toList uI body none]) (.kW (ps.heap.length+1)) (.kW (ts.heap.length+1)):=by
  refine .kW ?_;rw[<-hm,a1d (by simp)];simp
 have hg':∃a1' b1',tg=.fn f1 a1' b1':=by
  cases g2 with
  |gone hi _ _=>simp[bC]at hi
  |fn _ _ _ _=>exact⟨_,_,rfl⟩
 obtain⟨a1',b1',rfl⟩:=hg';have apX:a5j T ts.env g=true:=by unfold a5j;rw[g1];exact hd
 simp only[fJ,apX,a2y];refine⟨f1,a1',b1',g1,a6i hS.st.env Fv,?_⟩;rw[show ts.heap++[HB.mark,HB.loop true f nt ts.env qs.toList uI body none]=ts.heap++[HB.mark]++[HB.loop true f nt ts.env qs.toList uI body none] by simp];refine aar A _ _ _ [.kW (ts.heap.length+1)] _ q1 (g2.step hF hU) (.cons hyl .nil) fun w h1 ws m1 v H1 OA c2 c3 c4 c5 c6=>?_;obtain⟨rd,f2,Qg,e2,Cj,a2,b2,jI,e,hl,hj,hq⟩:=hk v H1 OA;have hm1:m1[ps.heap.length+1]? = some (.gy (ts.heap.length+1)):=by
  rcases c5 (ps.heap.length+1) (.gy (ts.heap.length+1)) (by rw[<-hm,a1d (by simp)];simp)with e|e
  .exact e
  .obtain⟨mb,k1,k2⟩:=c2.at_ _ _ hl;rw[e]at k1;cases k1;exact k2.elim
 obtain⟨mb,k1,k2⟩:=c2.at_ _ _ hl;rw[hm1]at k1;cases k1;obtain⟨e2',k3,k4⟩:=k2;obtain⟨s1,s2⟩:=c2.set (i:=ps.heap.length+1) (c:=ts.heap.length+1) (pb:=.loop false f2 Qg e2 Cj a2 b2 (some .skip)) (hb:=.loop false f2 Qg e2' Cj a2 b2 (some .skip)) hm1 rfl (fun cs hc=>by unfold aW at hc;rw[k3]at hc;cases hc) (fun hF=>⟨e2',by rw[a1T (a0d.1 k3).1],k4.step hF .refl⟩);have hF2:=hF.trans (c4.trans s2);have hU2:=hU.trans c5;refine⟨_,_,_,_,_,_,_,_,e,k3,hj,hR _ _ _ m1 hq ⟨?_,fun b hb=>?_,fun b hb=>?_,?_⟩ hF2 hU2.b⟩
 .have q:=hS.st.step s1 hF2 hU2;exact⟨q.heap,q.llen,q.loc,q.env⟩
 .rcases hF2.new b hb with k|k
  .exact hS.own b k
  .exact .inr (a4T hS.fl k)
 .rcases vV hb with k|⟨k,k'⟩
  .exact hS.ws b k
  .obtain⟨b',qI,e⟩:=a1e.1 k;cases e;rcases hF.new b (c6 b qI)with k2|k2
   .rcases hS.own b k2 with k3|k3
    .exact k3
    .omega
   .have:=hS.fl;omega
 .exact a4T hS.fl hF2.len
end
section
variable {X:kR} {P:Program} {A B:Nat->Prop} {m m' m1:List MB} {h h':List HB} {g:Nat->Option Nat}
def BH:List (PB X.Γ)->Bool
 | []=>true
 |.aF _::H=>BH H
 |.iG _::H=>BH H
 |.gone::H=>BH H
 |_=>false
theorem Y2:∀{H:List (PB X.Γ)},BH H=true->∀(i:Nat) b,H[i]? = some b->BH [b]=true
 | [],_,i,b,h=>by simp at h
 |a::H,hn,i,b,h=>by
  cases i with
  |zero=>simp at h;subst h;cases a<;>simp_all [BH]
  |succ i=>
   have DW:BH H=true:=by cases a<;>simp_all [BH]
   exact Y2 DW i b (by simpa using h)
theorem a01{H:List (PB X.Γ)}(hn:BH H=true)(hr:HR X P A m H h):bD m=[]:=by
 refine a7S.2 fun b hb=>?_;obtain⟨i,mb,h1,h2⟩:=kN hb;have hl:i<H.length:=by rw[<-hr.len];exact(a0d.1 h1).1
 obtain⟨LZ,g1,g2⟩:=hr.at_ i _ (a0g hl);rw[h1]at g1;cases g1;have h3:=Y2 hn i _ (a0g hl);generalize H[i]=b9 at g2 h3;cases b9<;>first|(cases h3;done)|skip
 all_goals (cases mb<;>first|exact g2.elim|cases h2)
theorem PS{v:PV X.Γ}{t:TV}(h:qU v=some t):(∀l,BJ t l=l)∧(∀g,nG g t=some t)∧∀fl,L8 fl t=t:=by
 cases v<;>simp only[qU,a03,reduceCtorEq]at h<;>subst h<;>exact⟨fun _=>rfl,fun _=>rfl,fun _=>rfl⟩
theorem yt:∀{vs:List (PV X.Γ)} {ts:List TV},iK vs=some ts->(∀l,BJ.EM ts l=l)∧∀g,nG.yV g ts=some ts
 | [],ts,h=>by simp only[iK,a03]at h;subst h;exact⟨fun _=>rfl,fun _=>rfl⟩
 |v::vs,ts,h=>by
  simp only[iK]at h;split at h
  .rename_i a b h1 h2;cases h;have e1:=PS h1;have e2:=yt h2;exact⟨fun l=>by simp only[BJ.EM,e2.1,e1.1],fun g=>by simp only[nG.yV,e1.2.1,e2.2]⟩
  cases h
theorem MX{v:PV X.Γ}{t:TV}(h:qg v=some t):(∀l,BJ t l=l)∧(∀g,nG g t=some t)∧∀fl,L8 fl t=t:=by
 unfold qg at h;split at h
 .simp only[a0f]at h;obtain⟨ts,h1,rfl⟩:=h;have e:=yt h1;exact⟨fun l=>by simp only[BJ,e.1],fun g=>by simp only[nG,e.2,a1b],fun _=>rfl⟩
 exact PS h
def a3G(X:kR)(P:Program)(mZ:Bool)(u:PV X.Γ)(Hs:List (PB X.Γ))(tv:Nat->TV)(tN:List HB):Prop:=
 ∀(A:Nat->Prop) (m:List MB) (h h1:List HB) (w:TV),HR X P A m Hs h1->VR X P (AA A m) m h1 u w->(∀b,b∈bD m->h.length<=b)->O4 mZ h w h1=some (tv h.length,h++tN)
theorem DL(hX:bM X P){T:qH}{L n f:Nat}{t:FnT}{first xs cap:List (PV X.Γ)}{H N:List (PB X.Γ)}{v:PV X.Γ}{tv:Nat->TV}{tN:List HB}(hd:T.dem.contains f=true)(hx:T.exts.contains f=false)(ht:TL P f=some t)(hN:BH H=true)
  (O7:∀A m h,HR X P A m H h->∃m1,HR X P A m1 (H++N) (h++tN)∧VR X P (AA A m1) m1 (h++tN) v (tv h.length)∧Fr m h m1 (h++tN)∧Up m m1)
  (hE:aJ X P T (lq P T L n) (uN P T (lq P T L n) L) L f t.nt H.length t.body ⟨lu X 0 (first++xs++cap),[],H⟩ fun e s=>(e=.norm∨e=.ret)∧∃us,EU X P s t.results=some us∧a3G X P (T.a8S.contains f) (Zm X us) s.heap tv tN):aU X P (lq P T L (n+1)) (.fn f first cap) xs H v (H++N):=by
 intro A m h tf qZ hr hf NQ;cases hf with
 |gone hi _ _=>simp[bC]at hi
 |fn p1 p2 p3 p4=>
  rename_i a' c';have EP:=(bZ.app ⟨p1,p2⟩ NQ).app ⟨p3,p4⟩;have hb:=a01 hN hr;have hS:SR X P A (fun _=>False) h.length m ⟨lu X 0 (first++xs++cap),[],H⟩ ⟨nJ 0 (a'++qZ++c'),[],h,[]⟩:=
   ⟨⟨hr,rfl,fun k cs hk=>by simp at hk,MJ EP⟩,fun b h1=>(by rw[hb]at h1;cases h1),fun b hb=>(by cases hb),a0w _⟩
  have hO:Wu P T (lq P T L n) L f t (a'++qZ++c') h (tv h.length,h++tN):=by
   refine hE A _ _ m _ _ hS fun e iJ ps1 m1 ⟨he,us,hus,hpv⟩ h3 h4 h5=>?_;obtain⟨ws,g1,g2⟩:=IW hX h3.st hus;exact⟨he,ws,g1,a7S.2 fun b hb=>h3.ws b hb,hpv A m1 h iJ.heap _ h3.st.heap (Uy g2) fun b hb=>(h3.own b hb).resolve_left id⟩
  obtain⟨m1,q1,q2,q3,q4⟩:=O7 A m h hr;refine⟨tv h.length,h++tN,[],m1,?_,q1,q2,q3,q4,fun b hb=>by cases hb⟩;simp only[lq,hx,hd,a2V,a3U,a2y];exact a9f ht hO
theorem a02{mZ:Bool}{u:PV X.Γ}{Hs:List (PB X.Γ)}{tu:TV}(hu:qg u=some tu)(ht:∀cs,tu≠.dF cs):a3G X P mZ u Hs (fun _=>tu) []:=fun A m h h1 w hr hw _=>by
 have:=jO hw hu;subst this;obtain⟨e1,e2,e3⟩:=MX hu;have e4:Ua h.length w=w:=by
  cases w with
  |dF cs=>exact absurd rfl (ht cs)
  |_=>exact e3 h.length
 unfold O4;simp only[e1,wI,e2,CU,e4,abA,a5T]
theorem aaK(hX:bM X P){T:qH}{L n f:Nat}{t:FnT}{first xs cap:List (PV X.Γ)}{H:List (PB X.Γ)}{v:PV X.Γ}{tv:TV}(hd:T.dem.contains f=true)(hx:T.exts.contains f=false)(ht:TL P f=some t)(hN:BH H=true)(hv:qg v=some tv)
  (hE:aJ X P T (lq P T L n) (uN P T (lq P T L n) L) L f t.nt H.length t.body ⟨lu X 0 (first++xs++cap),[],H⟩ fun e s=>(e=.norm∨e=.ret)∧∃us,EU X P s t.results=some us∧Zm X us=v):aU X P (lq P T L (n+1)) (.fn f first cap) xs H v H:=by
 have:=DL (N:=[]) (v:=v) (tv:=fun _=>tv) (tN:=[]) hX hd hx ht hN (fun A m h hr=>⟨m,by simpa using hr,nP hv,by simpa using Fr.refl,.refl⟩) (hE.mono fun e s ⟨h1,us,h2,h3⟩=>⟨h1,us,h2,by rw[h3];exact a02 hv fun cs hc=>by subst hc;cases v<;>simp[qg,qU]at hv⟩)
 rwa [a5T]at this
def wZ:List (PV X.Γ×PV X.Γ)->Option (List (TV×TV))
 | []=>some []
 |(k,v)::r=>match qg k,qg v,wZ r with
  |some k,some v,some r=>some ((k,v)::r)
  |_,_,_=>none
theorem Y3:∀{es:List (PV X.Γ×PV X.Γ)} {gu MZ:List (TV×TV)},wZ es=some MZ->es.length=gu.length->(∀(i:Nat) x y,es[i]? = some x->gu[i]? = some y->qg x.1=some y.1∧qg x.2=some y.2)->gu=MZ
 | [],gu,MZ,h,hl,_=>by
  simp only[wZ,a03]at h;subst h;exact a4c hl.symm
 |(k,v)::r,gu,MZ,h,hl,he=>by
  cases gu with
  |nil=>simp at hl
  |cons y gu=>
   simp only[wZ]at h;split at h
   .rename_i a b c h1 h2 h3;cases h;have e0:=he 0 _ _ rfl rfl;have e1:y.1=a:=by have:=e0.1.symm.trans h1;exact a8V this
    have e2:y.2=b:=by have:=e0.2.symm.trans h2;exact a8V this
    have e3:=Y3 h3 (by simpa using hl) fun i x z hx hz=>he (i+1) x z (by simpa using hx) (by simpa using hz);rw[e3,<-e1,<-e2]
   cases h
theorem PU:∀{es:List (PV X.Γ×PV X.Γ)} {MZ:List (TV×TV)},wZ es=some MZ->es.length=MZ.length∧∀(i:Nat) x y,es[i]? = some x->MZ[i]? = some y->qg x.1=some y.1∧qg x.2=some y.2
 | [],MZ,h=>by simp only[wZ,a03]at h;subst h;exact⟨rfl,by simp⟩
 |(k,v)::r,MZ,h=>by
  simp only[wZ]at h;split at h
  .rename_i a b c h1 h2 h3;cases h;obtain⟨i1,i2⟩:=PU h3;refine⟨by simp[i1],fun i x y hx hy=>?_⟩;cases i with
   |zero=>simp at hx hy;subst hx;subst hy;exact⟨h1,h2⟩
   |succ i=>exact i2 i x y (by simpa using hx) (by simpa using hy)
  cases h
theorem Tv:∀{es:List (PV X.Γ×PV X.Γ)} {MZ:List (TV×TV)},wZ es=some MZ->(∀l,a9a.a0K MZ l=l)∧∀g,Tw.oW g MZ=some MZ
 | [],MZ,h=>by simp only[wZ,a03]at h;subst h;exact⟨fun _=>rfl,fun _=>rfl⟩
 |(k,v)::r,MZ,h=>by
  simp only[wZ]at h;split at h
  .rename_i a b c h1 h2 h3;cases h;have e1:=MX h1;have e2:=MX h2;have e3:=Tv h3;exact⟨fun l=>by simp only[a9a.a0K,e1.1,e2.1,e3.1],fun g=>by simp only[Tw.oW,e1.2.1,e2.2.1,e3.2]⟩
  cases h
theorem PW{h h1:List HB}{c:Nat}(hc:h.length<=c)(hr:∀l,a9a h1[c]? l=l):wI h1 h.length 5000 [c] []=[c]∧Wj h.length [c] c=some h.length:=by
 have e1:Nat.blt c h.length=false:=by
  cases e:Nat.blt c h.length with
  |false=>rfl
  |true=>have:=agI e;omega
 constructor
 .simp only[wI,e1,a5q,Bool.or_false,hr]
 simp only[Wj,e1,a5o,Nat.beq_refl,a1b,a3Z]
theorem a7J{mZ:Bool}{r:Nat}{Hs:List (PB X.Γ)}{es:List (PV X.Γ×PV X.Γ)}{MZ:List (TV×TV)}(hm:Hs[r]? = some (.map es))(he:wZ es=some MZ):a3G X P mZ (.map r) Hs (fun n=>.map n) [.map (Rx MZ)]:=fun A m h h1 w hr hw hn=>by
 obtain⟨mb,g1,g2⟩:=hr.at_ r _ hm;cases mb with
 |gy c=>
  obtain⟨gu,g3,g4,g5⟩:=g2;have:=Y3 he g4 g5;subst this;have hw:w=.map c:=by
   cases hw with
   |map e=>rw[g1]at e;cases e;rfl
   |gone hi e _=>simp only[bC,a03]at hi;subst hi;rw[g1]at e;cases e
  subst hw;have hc:=hn c (bf g1 rfl);obtain⟨e1,e2⟩:=Tv he;obtain⟨k1,k2⟩:=PW (h:=h) (h1:=h1) hc fun l=>by rw[g3];exact e1 l
  unfold O4;simp only[BJ,k1,nG,k2,a1b,CU,g3,uw,e2,Ua,L8,a4g,abA,Qn]
 |_=>exact g2.elim
theorem a7K(hX:bM X P){T:qH}{L n f:Nat}{t:FnT}{first xs cap:List (PV X.Γ)}{H:List (PB X.Γ)}{es0:List (PV X.Γ×PV X.Γ)}{a3H:List (TV×TV)}(hd:T.dem.contains f=true)(hx:T.exts.contains f=false)(ht:TL P f=some t)(hN:BH H=true)(h0:wZ es0=some a3H)
  (hE:aJ X P T (lq P T L n) (uN P T (lq P T L n) L) L f t.nt H.length t.body ⟨lu X 0 (first++xs++cap),[],H⟩ fun e s=>(e=.norm∨e=.ret)∧∃us,EU X P s t.results=some us∧∃r es MZ,Zm X us=.map r∧s.heap[r]? = some (.map es)∧wZ es=some MZ∧Rx MZ=a3H):aU X P (lq P T L (n+1)) (.fn f first cap) xs H (.map H.length) (H++[.map es0]):=by
 refine DL (tv:=fun n=>.map n) (tN:=[.map a3H]) hX hd hx ht hN (fun A m h hr=>?_) (hE.mono fun e s ⟨h1,us,h2,r,es,MZ,h3,h4,h5,h6⟩=>⟨h1,us,h2,by rw[h3,<-h6];exact a7J h4 h5⟩);obtain⟨p1,p2,p3⟩:=hr.push (pb:=.map es0) (hb:=.map a3H) (mb:=.gy h.length) (.inl rfl) ⟨a3H,by simp,(PU h0).1,(PU h0).2⟩;exact⟨_,p1,.map (by rw[<-hr.len];simp),p2,p3⟩
theorem Y4(hX:bM X P){A:Nat->Prop}{m:List MB}{Hs:List (PB X.Γ)}{h1:List HB}{i ty:Nat}{k ex:Bool}{l:List (X.Γ ty)}{w:TV}{Lm:List TV}(hr:HR X P A m Hs h1)(hi:Hs[i]? = some (.list k ex ty l))(hl:l≠[])(hc:iK (Ez X ty l)=some Lm)(hw:VR X P (AA A m) m h1 (.own i) w) :
  ∃c sz e kk,w=.slc c 0 l.length l.length sz e∧dG P ty=some sz∧c∈bD m∧h1[c]? = some (.cells kk Lm)∧kk≠.ro:=by
 obtain⟨mb,g1,g2⟩:=hr.at_ i _ hi;cases mb with
 |dD x=>
  have hwx:w=x:=by
   cases hw with
   |own e _=>rw[g1]at e;cases e;rfl
   |gone hi e _=>simp only[bC,a03]at hi;subst hi;rw[g1]at e;cases e
  subst hwx;cases(g2:LR X P (AA A m) m h1 k ex ty l w)with
  |nil=>exact absurd rfl hl
  |emp=>exact absurd rfl hl
  |some _ q2 q3 q4 q5 q6 q7 q8 q9=>
   have hv:=eF.vrs q9 q8;have QY:=FP hv hc;subst QY;exact⟨_,_,_,_,rfl,q2,bf g1 (by simp only[MB.own];rw[a0p (by simpa using hl)]),q4,q5⟩
 |_=>exact g2.elim
theorem a7L(hX:bM X P){i ty sz:Nat}{k ex:Bool}{l:List (X.Γ ty)}{Hs:List (PB X.Γ)}{Lm:List TV}(hi:Hs[i]? = some (.list k ex ty l))(hl:l≠[])(hc:iK (Ez X ty l)=some Lm)(hs:dG P ty=some sz):a3G X P true (.own i) Hs (fun n=>.slc n 0 l.length l.length sz false) [.mZ (Ry Lm)]:=fun A m h h1 w hr hw hn=>by
 obtain⟨c,sz',e,kk,rfl,g1,g2,g3,g4⟩:=Y4 hX hr hi hl hc hw;rw[hs]at g1;cases g1;have qm:=hn c g2;obtain⟨e1,e2⟩:=yt hc;obtain⟨k1,k2⟩:=PW (h:=h) (h1:=h1) qm fun l=>by rw[g3];exact e1 l
 have e3:Qn true (.cells kk Lm)=.mZ (Ry Lm):=by cases kk<;>first|rfl|exact absurd rfl g4
 unfold O4;simp only[BJ,k1,nG,k2,a1b,CU,g3,uw,e2,Ua,L8,a4g,abA,e3,Nat.lt_irrefl,a3U]
theorem a7M(hX:bM X P){i ty sz:Nat}{k ex:Bool}{l:List (X.Γ ty)}{Hs:List (PB X.Γ)}{Lm:List TV}{p:PV X.Γ}{tp:TV}(hi:Hs[i]? = some (.list k ex ty l))(hl:l≠[])(hc:iK (Ez X ty l)=some Lm)(hs:dG P ty=some sz)(hp:qg p=some tp):a3G X P false (.dF [.own i,p]) Hs (fun n=>.dF [.slc n 0 l.length l.length sz false,tp]) [.cells .last Lm]:=fun A m h h1 w hr hw hn=>by
 cases hw with
 |gone hi _ _=>simp[bC]at hi
 |dF a1 a2=>
  rename_i cs';obtain⟨x,r,rfl,v0,v1⟩:=bZ.inv (⟨a1,a2⟩:bZ X P _ _ _ _ _);obtain⟨y,r,rfl,v2,v3⟩:=v1.inv;have:=v3.inv0;subst this;have:=jO v2 hp;subst this;obtain⟨c,sz',e,kk,rfl,g1,g2,g3,g4⟩:=Y4 hX hr hi hl hc v0;rw[hs]at g1;cases g1;have qm:=hn c g2;obtain⟨e1,e2⟩:=yt hc;obtain⟨q1,q2,q3⟩:=MX hp;obtain⟨k1,k2⟩:=PW (h:=h) (h1:=h1) qm fun l=>by rw[g3];exact e1 l
  have e3:Qn false (.cells kk Lm)=.cells .last Lm:=by cases kk<;>first|rfl|exact absurd rfl g4
  unfold O4;have q4:L8 h.length (.slc h.length 0 l.length l.length sz e)=.slc h.length 0 l.length l.length sz false:=by simp only[L8,Nat.lt_irrefl,a3U]
  simp only[BJ,BJ.EM,q1,k1,nG,nG.yV,q2,k2,a1b,CU,g3,uw,e2,Ua,q3,q4,a4g,abA,e3]
theorem aaL{H:List (PB X.Γ)}{n sz:Nat}{cs:List (PV X.Γ)}{ts:List TV}(h0:Ud cs=some ts){A m h}(hr:HR X P A m H h):∃m1,HR X P A m1 (H++[.mZ cs]) (h++[.mZ ts])∧VR X P (AA A m1) m1 (h++[.mZ ts]) (.slc H.length 0 n n sz false) (.slc h.length 0 n n sz false)∧Fr m h m1 (h++[.mZ ts])∧Up m m1:=by
 obtain⟨p1,p2,p3⟩:=hr.push (pb:=.mZ cs) (hb:=.mZ ts) (mb:=.gy h.length) (.inl rfl) ⟨ts,by simp,h0⟩;exact⟨_,p1,.slc (by rw[<-hr.len];simp),p2,p3⟩
theorem Y5{ty sz:Nat}:∀{l:List (X.Γ ty)},(∀(j:Nat) a,l[j]? = some a->(X.enc ty a).length=sz)->(Ez X ty l).length=l.length*sz∧∀(j:Nat) a (i:Nat) c,l[j]? = some a->(X.enc ty a)[i]? = some c->(Ez X ty l)[j*sz+i]? = some c
 | [],_=>⟨by simp[Ez],by simp⟩
 |a::l,he=>by
  obtain⟨h1,h2⟩:=Y5 (l:=l) fun j b hb=>he (j+1) b (by simpa using hb);have h0:=he 0 a rfl;refine⟨by simp only[Ez,a1s,h0,h1,a4d,a3k,a9D];omega,fun j b i c hb hc=>?_⟩;cases j with
  |zero=>
   simp at hb;subst hb;simp only[Ez,abV,a3Z];rw[a0k (a0d.1 hc).1];exact hc
  |succ j=>
   simp only[Ez];rw[a1d (by rw[h0,a3k];omega),h0,show(j+1)*sz+i-sz=j*sz+i by rw[a3k];omega];exact h2 j b i c (by simpa using hb) hc
theorem a3I{ty sz:Nat}{l:List (X.Γ ty)}{Lm:List TV}{A m h}(he:∀(j:Nat) a,l[j]? = some a->(X.enc ty a).length=sz)(hc:iK (Ez X ty l)=some Lm):Lm.length=l.length*sz∧eF X P A m h ty l Lm 0 sz:=by
 have hv:=FQ (X:=X) (P:=P) (A:=A) (m:=m) (h:=h) hc;obtain⟨h1,h2⟩:=Y5 he;have hl:Lm.length=l.length*sz:=by rw[<-hv.1,h1]
 exact⟨hl,he,by rw[hl];omega,fun j a i c v a1 a2 a3=>hv.2 (j*sz+i) c v (h2 j a i c a1 a2) (by rw[a3Z]at a3;exact a3)⟩
theorem aaM(hX:bM X P){H:List (PB X.Γ)}{ty sz:Nat}{l:List (X.Γ ty)}{Lm:List TV}{p:PV X.Γ}{tp:TV}(hl:l≠[])(hc:iK (Ez X ty l)=some Lm)(hs:dG P ty=some sz)(h0:0<sz)(he:∀(j:Nat) a,l[j]? = some a->(X.enc ty a).length=sz)(hp:qg p=some tp){A m h}(hr:HR X P A m H h) :
  ∃m1,HR X P A m1 (H++[.list false false ty l]) (h++[.cells .last Lm])∧VR X P (AA A m1) m1 (h++[.cells .last Lm]) (.dF [.own H.length,p]) (.dF [.slc h.length 0 l.length l.length sz false,tp])∧Fr m h m1 (h++[.cells .last Lm])∧Up m m1:=by
 obtain⟨p1,p2,p3⟩:=hr.push (pb:=.list false false ty l) (hb:=.cells .last Lm) (mb:=.dD (.slc h.length 0 l.length l.length sz false)) (.inl (by simp only[MB.own];rw[a0p (by simpa using hl)])) (by
  obtain⟨r1,r2⟩:=a3I (A:=AA A (m++[MB.dD (.slc h.length 0 l.length l.length sz false)])) (m:=m++[MB.dD (.slc h.length 0 l.length l.length sz false)]) (h:=h++[.cells .last Lm]) (P:=P) he hc;exact LR.some (kk:=.last) (cs:=Lm) hl hs h0 (by simp) (by simp) (by simp) (by simp) r1 r2)
 exact⟨_,p1,bZ.cons (.own (by rw[<-hr.len];simp) rfl) (.cons (nP hp) .nil) |> fun h=>.dF h.1 h.2,p2,p3⟩
end
def eG:Code->Code
 |.seq a _=>a
 |.block _ b=>b
 |.loop b=>b
 |.scope b=>b
 |.cond _ a _=>a
 |c=>c
def eH:Code->Code
 |.seq _ b=>b
 |.cond _ _ b=>b
 |c=>c
def a7N:Code->Array Oper
 |.region _ o _=>o
 |_=>#[]
def Tz(P:Program)(f:Nat):FnT:=match TL P f with
 |some t=>t
 |none=>⟨0,.skip,[]⟩
def Vd(ops:Array Oper)(it nx mo:Nat):Bool:=match Ad ops with
 |some (a,b,_,o2)=>a==it&&b==nx&&(match o2.op,o2.dst,o2.guard with
  |.extract (.tmp k) 0,some d,none=>k==nx&&d==mo
  |_,_,_=>false)
 |none=>false
theorem a3J{ops:Array Oper}{it nx mo:Nat}(h:Vd ops it nx mo=true):∃o1 o2,Ad ops=some (it,nx,o1,o2)∧o2.op=.extract (.tmp nx) 0∧o2.dst=some mo∧o2.guard=none:=by
 unfold Vd at h;split at h
 .rename_i a b o1 o2 e;simp only[a2n,a7H]at h;obtain⟨⟨rfl,rfl⟩,h⟩:=h;split at h
  .rename_i k d e1 e2 e3;simp only[a2n,a7H]at h;obtain⟨rfl,rfl⟩:=h;exact⟨o1,o2,e,e1,e2,e3⟩
  cases h
 cases h
section
variable {X:kR} {P:Program} {T:qH} {call:aY} {cd:uX} {fP:fA X.Γ} {L f nt B:Nat}
theorem zM(hX:bM X P)(hO:jF X P call fP){c:Code}{ps ps1:aS X.Γ}{an:PT X.Γ}{o:OT (Ex×aS X.Γ)}{e:Ex}(hk:jM X P T fP (aU X P call) (dN X P T call L f false nt B) B L f false nt c ps an aex=o)(ht:Fp (fun r=>r=(e,ps1)) an o):dN X P T call L f false nt B c ps e ps1:=by
 obtain⟨y,h1,h2⟩:=ht.aK;subst h2;rw[<-hk]at h1;exact WZ hX hO h1
theorem a1Y{n j:Nat}{seen:List Nat}(hj:j<n)(hn:j∉seen):((List.range n).filter fun i=>!(j::seen).contains i).length<((List.range n).filter fun i=>!seen.contains i).length:=by
 have e:((List.range n).filter fun i=>!(j::seen).contains i)=((List.range n).filter fun i=>!seen.contains i).filter fun i=>!(i==j):=by
  rw[List.filter_filter];refine List.filter_congr fun i _=>?_;rw[agY];cases i==j<;>simp
 rw[e];refine List.length_filter_lt_length_iff_exists.2 ⟨j,a8B.2 ⟨a4o.2 hj,by simpa using hn⟩,by simp⟩
end
section
variable {X:kR} {P:Program} {T:qH} {call:aY} {cd:uX} {L f nt B:Nat}
theorem aJ.ghost(hX:bM X P){gs:List G}{c:Code}{ps ps1:aS X.Γ}{Q:Ex->aS X.Γ->Prop}(hg:kT B gs ps=some ps1)(h:aJ X P T call cd L f nt B c ps1 Q):aJ X P T call cd L f nt B c ps Q:=fun A W fl m ts R hS hR=>by
 obtain⟨m2,q1,q2,q3⟩:=lJ hX hg A W fl m ts hS;exact h A W fl m2 ts R q1 fun e iJ ps1 m1 a1 a2 a3 a4=>hR e iJ ps1 m1 a1 a2 (q2.trans a3) (q3.trans a4)
theorem PX(hX:bM X P){x:Code}{i0 i1 id it nx mo b r n:Nat}{ops:Array Oper}{draw:Bool}{s0:aS X.Γ}{es:List (PV X.Γ×PV X.Γ)}{Q:aS X.Γ->Prop}(I:List Nat->aS X.Γ->Prop)
  (hnx:Vd ops it nx mo=true) (hd:nx<nt) (hd2:mo<nt) (hl:es.length=n) (hL:n<L) (hI:I [] s0)
  (hinv:∀seen s,I seen s->∃gs s',kT B gs (gU X (T.eP f (dU (.seq (.region id ops draw) (.seq (.cond (.tmp mo) .skip (.exit i0)) (.block i1 x))))) s)=some s'∧zS s'.env (.tmp it)=some (.iter b)∧s'.heap[b]? = some (.dn r n seen)∧Ku X s'.heap r=some es ∧
   ((∀j,j<n->j∈seen)->zS (jd (T.iD f id) ((mo,.val (.bool false))::(nx,.val (.dF [.bool false]))::s'.env)) (.tmp mo)=some (.bool false)∧Q { s' with env:=jd (T.iD f id) ((mo,.val (.bool false))::(nx,.val (.dF [.bool false]))::s'.env) }) ∧
   ∀j e,j∉seen->es[j]? = some e->zS (jd (T.iD f id) ((mo,.val (.bool true))::(nx,.val (.dF [.bool true,e.1,e.2]))::s'.env)) (.tmp mo)=some (.bool true) ∧
    aJ X P T call cd L f nt B x { s' with env:=jd (T.iD f id) ((mo,.val (.bool true))::(nx,.val (.dF [.bool true,e.1,e.2]))::s'.env),heap:=s'.heap.set b (.dn r n (j::seen)) } fun e s=>(e=.norm∨e=.exit i1)∧I (j::seen) s) :
  aJ X P T call cd L f nt B (.block i0 (.loop (.seq (.region id ops draw) (.seq (.cond (.tmp mo) .skip (.exit i0)) (.block i1 x))))) s0 fun e s=>e=.norm∧Q s:=by
 obtain⟨o1,o2,hn,h2,h3,h4⟩:=a3J hnx;have skp:∀{s:aS X.Γ} {Q':Ex->aS X.Γ->Prop},Q' .norm s->aJ X P T call cd L f nt B .skip s Q':=fun{s Q'} hq=>by
  intro A W fl m ts R hS hR;simp only[fJ];exact⟨_,_,rfl,hR _ _ s m hq hS .refl Up.refl.b⟩
 have ext:∀{i:Nat} {s:aS X.Γ} {Q':Ex->aS X.Γ->Prop},Q' (.exit i) s->aJ X P T call cd L f nt B (.exit i) s Q':=fun{i s Q'} hq=>by
  intro A W fl m ts R hS hR;simp only[fJ];exact⟨_,_,rfl,hR _ _ s m hq hS .refl Up.refl.b⟩
 refine aJ.block ?_;refine aJ.loop (fun k s=>∃seen,I seen s∧k=((List.range n).filter fun i=>!seen.contains i).length) (fun k s hi=>?_) (k:=n) ⟨[],hI,by rw[show((List.range n).filter fun i=>!([]:List Nat).contains i)=List.range n from List.filter_eq_self.2 fun a _=>rfl,a8P]⟩ hL;obtain⟨seen,hi,rfl⟩:=hi;obtain⟨gs,s',e1,e2,e3,e4,e5,e6⟩:=hinv seen s hi;refine aJ.ghost hX e1 ?_;refine aJ.seq (R:=fun e s=>e=.norm∧(((∀j,j<n->j∈seen)∧s={ s' with env:=jd (T.iD f id) ((mo,.val (.bool false))::(nx,.val (.dF [.bool false]))::s'.env) })∨∃j e,j∉seen∧es[j]? = some e∧s={ s' with env:=jd (T.iD f id) ((mo,.val (.bool true))::(nx,.val (.dF [.bool true,e.1,e.2]))::s'.env),heap:=s'.heap.set b (.dn r n (j::seen)) })) ?_ (fun s hs=>?_) (fun i s h=>by cases h.1) (fun s h=>by cases h.1)
 .exact aJ.next hn hd hd2 h2 h3 h4 e2 e3 e4 hl (fun ho=>⟨rfl,.inl ⟨ho,rfl⟩⟩) (fun j e hj he=>⟨rfl,.inr ⟨j,e,hj,he,rfl⟩⟩)
 .obtain⟨_,⟨h5,rfl⟩|⟨j,e,hj,he,rfl⟩⟩:=hs
  .obtain⟨m1,q1⟩:=e5 h5;refine aJ.seq (R:=fun e s=>e=.exit i0∧s={ s' with env:=jd (T.iD f id) ((mo,.val (.bool false))::(nx,.val (.dF [.bool false]))::s'.env) }) (aJ.cond (t:=false) m1 (ext ⟨rfl,rfl⟩)) (fun s h=>by cases h.1) (fun i s h=>?_) (fun s h=>by cases h.1);obtain⟨h7,rfl⟩:=h;cases h7;dsimp only;rw[a0q rfl];exact⟨rfl,q1⟩
  .obtain⟨m2,hx⟩:=e6 j e hj he;have hjn:j<n:=by rw[<-hl];exact(a0d.1 he).1
   refine aJ.seq (R:=fun e1 s=>e1=.norm∧s={ s' with env:=jd (T.iD f id) ((mo,.val (.bool true))::(nx,.val (.dF [.bool true,e.1,e.2]))::s'.env),heap:=s'.heap.set b (.dn r n (j::seen)) }) (aJ.cond (t:=true) m2 (skp ⟨rfl,rfl⟩)) (fun s h=>?_) (fun i s h=>by cases h.1) (fun s h=>by cases h.1);obtain⟨_,rfl⟩:=h;refine aJ.block ?_;refine hx.mono fun e s h=>?_;obtain⟨h1|h1,h2⟩:=h
   .subst h1;exact⟨_,a1Y hjn hj,j::seen,h2,rfl⟩
   .subst h1;dsimp only;rw[a0q rfl];exact⟨_,a1Y hjn hj,j::seen,h2,rfl⟩
theorem Ve(hX:bM X P){x:Code}{i0 i1 id it nx mo b r n:Nat}{ops:Array Oper}{draw:Bool}{s0:aS X.Γ}{es:List (PV X.Γ×PV X.Γ)}{Q:aS X.Γ->Prop}(I:List Nat->aS X.Γ->Prop)
  (hnx:Vd ops it nx mo=true) (hd:nx<nt) (hd2:mo<nt) (hl:es.length=n) (hL:n<L) (hI:I [] s0)
  (hinv:∀seen s,I seen s->∃s',gU X (T.eP f (dU (.seq (.region id ops draw) (.seq (.cond (.tmp mo) .skip (.exit i0)) (.block i1 x))))) s=s'∧zS s'.env (.tmp it)=some (.iter b)∧s'.heap[b]? = some (.dn r n seen)∧Ku X s'.heap r=some es ∧
   ((∀j,j<n->j∈seen)->zS (jd (T.iD f id) ((mo,.val (.bool false))::(nx,.val (.dF [.bool false]))::s'.env)) (.tmp mo)=some (.bool false)∧Q { s' with env:=jd (T.iD f id) ((mo,.val (.bool false))::(nx,.val (.dF [.bool false]))::s'.env) }) ∧
   ∀j e,j∉seen->es[j]? = some e->zS (jd (T.iD f id) ((mo,.val (.bool true))::(nx,.val (.dF [.bool true,e.1,e.2]))::s'.env)) (.tmp mo)=some (.bool true) ∧
    aJ X P T call cd L f nt B x { s' with env:=jd (T.iD f id) ((mo,.val (.bool true))::(nx,.val (.dF [.bool true,e.1,e.2]))::s'.env),heap:=s'.heap.set b (.dn r n (j::seen)) } fun e s=>(e=.norm∨e=.exit i1)∧I (j::seen) s) :
  aJ X P T call cd L f nt B (.block i0 (.loop (.seq (.region id ops draw) (.seq (.cond (.tmp mo) .skip (.exit i0)) (.block i1 x))))) s0 fun e s=>e=.norm∧Q s:=
 PX hX I hnx hd hd2 hl hL hI fun seen s hi=>let ⟨s',e1,h⟩:=hinv seen s hi;⟨[],s',congrArg some e1,h⟩
end
end Pv
namespace Go.Proofs.YtmobpoiejckagaaGreat
open Go Tw Pv dw
theorem akE(x:V):Instr.sameBits 10000 (kV.v x) (kV.v x)=true:=by
 show Instr.sameBits 10000 (.agg #[.int .u8 x.f,.int .i64 x.n]) (.agg #[.int .u8 x.f,.int .i64 x.n])=true;simp[Instr.sameBits]
theorem a7O(x:S3):Instr.sameBits 10000 (kS.v x) (kS.v x)=true:=by
 show Instr.sameBits 10000 (.agg #[.int .i64 x.a,.int .i64 x.b,.int .i64 x.c]) (.agg #[.int .i64 x.a,.int .i64 x.b,.int .i64 x.c])=true;simp[Instr.sameBits]
abbrev lS:V:=⟨0,1⟩
def akF:fA aC:=cO 79 (a1 vsA) vA (fun p=>p.getD 0 V0) (fun p=>[0<p.length]) Ib
theorem apY:Gd akF:=XQ.add fun n hO p hp=>aO hO (.o (aH (hp _ (.head _))) .rr)
def akG:fA aC:=cO 89 aeA vA (fun p=>lS) np akF
theorem apZ:Gd akG:=apY.add fun n hO p hp=>aO hO .rr
def a7P:fA aC:=cO 169 (a1 vA) tA (fun p=>decide (p=lS)) np akG
theorem akH:Gd a7P:=apZ.add fun n hO p hp=>aO hO (.q (.bool (decide (p=lS))) (eqV (.tmp 3) (.tmp 4) p lS) .rr)
def qw(l:List V):Bool:=l.all fun v=>decide (v=lS)
def nX(l:List V):V:=if qw l=true then lS else V0
theorem aq0{n:Nat}(hO:Ok n a7P)(l:List V)(hl:l.length<=ah):aU X0 Qp (bQ (n+4)) (.fn 168 [] []) [.fn 169 [] [],lV l] [] (tA.put (qw l)) []:=by
 have hs:∀v:V,aU X0 Qp (bQ n) (.fn 169 [] []) [.agg v.ps] [] (tA.put (decide (v=lS))) []:=fun v=>nZ.ZU hX (first:=[]) (cap:=[]) (hO 169 [.agg v.ps] (tA.put (decide (v=lS))) [] [] (by kernel_rfl) (fun p h=>by cases h)) rfl rfl rfl rfl;have h1:∀v:V,aU X0 Qp (bQ (n+1)) (.fn 201 [] [.ptr 0 0 1]) [.agg v.ps] [.cells [.fn 169 [] []]] (tA.put (!(decide (v=lS)))) [.cells [.fn 169 [] []]]:=fun v=>
  jh gG (first:=[]) (.fr [] (hs v) .sr)
 have h2:=aeT (n:=n+2) (by omega) (f:=201) (a:=[]) (c:=[.ptr 0 0 1]) (H:=[.cells [.fn 169 [] []]]) (g:=fun v=>!(decide (v=lS))) h1 l hl;rw[Jd]at h2;unfold qw;rw[<-Ej l fun v=>decide (v=lS)];exact aU.drop hX (Dc hX gG (first:=[]) (cap:=[]) (H1:=[.cells [.fn 169 [] []]]) (by kernel_rfl) (.k h2 .sr)) rfl rfl
def qG:fA aC:=cO 117 (a1 vsA) vA nX (fun l=>[l.length<=ah]) a7P
theorem KQ:Gd qG:=akH.deep 4 fun n hn hO l hp=>by
 have hs:=aq0 (n:=n-4) (hO (n-4) (by omega)) l (hp _ (.head _));rw[show n-4+4=n by omega]at hs;show nZ X0 Qp _ _ _ (vA.put (nX l)) _;unfold nX;exact aO (hO n (by omega)) (.fr [] hs (.ss .rr .rr))
abbrev Y6:Code:=(Tz Qp 87).body
abbrev QA:Code:=(Tz Qp 136).body
abbrev a7Q(J:Jb)(f:Nat):List (Nat×PE aC):=[(2,.val (.nil .map)),(3,.val (.ptr 2 0 1)),(8,.val (.fn 136 [.agg (J.ps (.fn f [] []))] []))]
abbrev LRC(J:Jb)(f:Nat)(rd:Bool)(jI:Option Code):PB aC:=.loop rd 87 (BQ Qp 87) (a7Q J f) [9,10] (wY Qp 87) (AL Qp 87) jI
abbrev HQc(J:Jb)(f:Nat)(t:List (V×Int)):List (PB aC):=[.cells (J.ps (.fn f [] [])),.map (kV.im t),.cells [.map 1]]
abbrev QB(J:Jb)(f:Nat)(rd:Bool)(jI:Option Code)(t:List (V×Int)):List (PB aC):=HQc J f t++[.mark,LRC J f rd jI]
theorem a7R(l:List V):decide (nX l=lS)=qw l:=by
 unfold nX;cases qw l<;>decide
def yT(l:List V)(w:Int)(t:List (V×Int)):List (V×Int):=if qw (l.drop 1)=true then rY t (l.getD 0 V0) w else t
structure Tal(t:List (V×Int)):Prop where
 nd:(t.map (·.1)).Nodup
 pos:∀e∈t,0<e.2
 bnd:∀e∈t,e.2<=2000
theorem aq2{n:Nat}(hO:Ok n qG)(J:Jb)(f:Nat){t:List (V×Int)}(ht:Tal t)(l:List V){w:Int}(h0:0<l.length)(hl:l.length<=ah)(hw:0<w∧w<=2000):aU X0 Qp (bQ (n+1)) (.kW 4) [lV l,.int .i64 w] (QB J f true none t) (.bool true) (QB J f true none (yT l w t)):=by
 have q1:dN X0 Qp T (bQ n) LL 87 true (BQ Qp 87) 5 (wY Qp 87) ⟨ug (a7Q J f) [9,10] [lV l,.int .i64 w],[],QB J f true none t⟩ .norm ⟨[(3,.val (.ptr 2 0 1)),(4,.val (lV l)),(5,.val (.int .i64 w))],[],QB J f true none t⟩:=yh hX hO (by kernel_rfl) .xx;have i0:fK 0 l.length:=aH h0;have a1:(1:Int)<=l.length:=by omega
 have e1:(l.take l.length)=l:=abv;have c1:decide (nX ((l.take ((l.length:Int).toNat)).drop (1:Int).toNat)=lS)=qw (l.drop 1):=by
  rw[a7R];simp
 have a2:((l.take ((l.length:Int).toNat)).drop (1:Int).toNat).length<=ah:=by simp;omega
 have ev:=eqV (.tmp 13) (.tmp 14) (nX ((l.take ((l.length:Int).toNat)).drop (1:Int).toNat)) lS;have z01:(0:Int)<=1:=by decide
 have z02:(l.length:Int)<=(l.length:Int):=a9m _;unfold yT;cases hc:qw (l.drop 1)
 .rw[hc]at c1;rw[a0p (by simp)];have q2:dN X0 Qp T (bQ n) LL 87 true (BQ Qp 87) 5 (AL Qp 87) ⟨[(3,.val (.ptr 2 0 1)),(4,.val (lV l)),(5,.val (.int .i64 w))],[],QB J f false none t⟩ .norm ⟨[(3,.val (.ptr 2 0 1)),(4,.val (lV l)),(5,.val (.int .i64 w)),(15,xl false)],[],QB J f false none t⟩:=
   yh hX hO (by kernel_rfl) (.o z01 (.o a1 (.o z02 (.o a2 (.q (.bool (decide (nX ((l.take ((l.length:Int).toNat)).drop (1:Int).toNat)=lS))) ev (.b c1 .xx))))))
  exact Ho hX (l:=4) rfl rfl (by kernel_rfl) q1 rfl q2 rfl
 rw[hc]at c1;rw[a0q rfl];by_cases hk:l.getD 0 V0∈t.map (·.1)
 .obtain⟨j,old,g1,g2,g3,g4⟩:=kV.V8 (akE _) ht.nd hk (n:=w) fun e he=>dZ (by have:=ht.pos e he;omega) (by have:=ht.bnd e he;omega);have q2:dN X0 Qp T (bQ n) LL 87 true (BQ Qp 87) 5 (AL Qp 87) ⟨[(3,.val (.ptr 2 0 1)),(4,.val (lV l)),(5,.val (.int .i64 w))],[],QB J f false none t⟩ .norm ⟨[],[],[.cells (J.ps (.fn f [] [])),.map (J4 (kV.im t) j (.int .i64 (i64.wrap (old+w)))),.cells [.map 1],.mark,LRC J f false none]⟩:=
   yh hX hO (by kernel_rfl) (.o z01 (.o a1 (.o z02 (.o a2 (.q (.bool (decide (nX ((l.take ((l.length:Int).toNat)).drop (1:Int).toNat)=lS))) ev (.b c1 (.o i0 (.c (.int .i64 old) [] g1 (.a (.call (.int .i64 old) []) (.a (.ix j) (.o g2 (.o g3 .xx))))))))))))
  rw[g4]at q2;exact Ho hX (l:=4) rfl rfl (by kernel_rfl) q1 rfl q2 rfl
 obtain⟨g1,g2,g3,g4⟩:=kV.V9 hk (n:=w) (by rw[Int.zero_add];exact dZ (by omega) (by omega));have q2:dN X0 Qp T (bQ n) LL 87 true (BQ Qp 87) 5 (AL Qp 87) ⟨[(3,.val (.ptr 2 0 1)),(4,.val (lV l)),(5,.val (.int .i64 w))],[],QB J f false none t⟩ .norm ⟨[],[],[.cells (J.ps (.fn f [] [])),.map (J4 (kV.im t++[(.agg (l.getD 0 V0).ps,.int .i64 0)]) (kV.im t).length (.int .i64 (i64.wrap (0+w)))),.cells [.map 1],.mark,LRC J f false none]⟩:=
  yh hX hO (by kernel_rfl) (.o z01 (.o a1 (.o z02 (.o a2 (.q (.bool (decide (nX ((l.take ((l.length:Int).toNat)).drop (1:Int).toNat)=lS))) ev (.b c1 (.o i0 (.q (.bool false) g1 (.a .calm (.o (kV.ck (l.getD 0 V0)) (.o g1 (.o g2 (.o g3 .xx)))))))))))))
 have g4:J4 (kV.im t++[(.agg (l.getD 0 V0).ps,.int .i64 0)]) (kV.im t).length (.int .i64 (i64.wrap (0+w)))=kV.im (rY t (l.getD 0 V0) w):=g4;rw[g4]at q2;exact Ho hX (l:=4) rfl rfl (by kernel_rfl) q1 rfl q2 rfl
open Go Tw Pv dw
abbrev HN(J:Jb)(f:Nat)(t:List (V×Int))(now:List (S3×Int)):List (PB aC):=QB J f true none t++[.map (kS.im now)]
abbrev bLB:Code:=eG (eG (eH (eG (eH (eH QA)))))
abbrev bB1:Code:=eG (eG (eH (eH bLB)))
abbrev bIB:Code:=eG (eG (eH (eG (eH (eH bB1)))))
abbrev bX:Code:=eG (eH (eH bIB))
abbrev bL2:Code:=eG (eG (eH (eH (eH (eH QA)))))
abbrev bX2:Code:=eG (eH (eH bL2))
abbrev a3K(J:Jb)(c:Int)(a:Int):List (Nat×PE aC):=[(1,.val (.kW 4)),(2,.loc 0 0),(6,xi c),(7,.val (.map 6)),(21,xL 3 J.o),(22,xi J.o.length),(23,xi a),(29,.val (.iter 7))]
abbrev HI(J:Jb)(f:Nat)(t:List (V×Int))(now next:List (S3×Int))(seen:List Nat):List (PB aC):=HN J f t now++[.map (kS.im next),.dn 5 now.length seen]
structure NI(J:Jb)(a:Nat)(m:List (S3×Int)):Prop where
 nd:(m.map (·.1)).Nodup
 pos:∀e∈m,0<e.2
 dp:∀e∈m,Dp J a e.1
theorem NI.add{J:Jb}{a:Nat}{m:List (S3×Int)}(h:NI J a m){s:S3}{n:Int}(hs:Dp J a s)(hn:0<n):NI J a (rY m s n):=
 ⟨FX h.nd s n,PO hn h.pos,fun e he=>by
  rcases a7A he with e1|⟨e',h1,h2⟩
  .rw[e1];exact hs
  .rw[<-h2];exact h.dp e' h1⟩
theorem Ba{κ:Type}[DecidableEq κ](q:Int):∀m:List (κ×Int),dH (fun _=>q) m=dH (fun _=>1) m*q
 | []=>by simp[dH]
 |e::m=>by simp only[dH,Ba q m,afB,abU]
theorem Ik{κ:Type}[DecidableEq κ]:∀{m:List (κ×Int)},(∀e∈m,0<e.2)->0<=dH (fun _=>1) m∧∀e∈m,e.2<=dH (fun _=>1) m
 | [],_=>⟨a9m _,fun e he=>by cases he⟩
 |x::m,h=>by
  obtain⟨h1,h2⟩:=Ik (m:=m) fun e he=>h e (by simp[he]);have h0:=h x (by simp);simp only[dH,abU];refine⟨by omega,fun e he=>?_⟩;rcases a2r.1 he with rfl|he
  .omega
  have:=h2 e he;omega
theorem a7T{κ:Type}[DecidableEq κ]{m:List (κ×Int)}{q:Nat}(hp:∀e∈m,0<e.2)(hq:1<=q)(hs:dH (fun _=>(q:Int)) m<=2000):∀e∈m,e.2<=2000:=fun e he=>by
 obtain⟨h1,h2⟩:=Ik hp;rw[Ba]at hs;have h3:=h2 e he;have:dH (fun _=>1) m<=dH (fun _=>1) m*(q:Int):=by
  have:=a8F (show(1:Int)<=q by omega) h1;omega
 omega
theorem Y7{J:Jb}(r:List Int)(m:List (S3×Int)):dH (xI J (fun _=>1) r) m=dH (fun _=>(zT J r:Int)) m:=by
 induction m with
 |nil=>rfl
 |cons e m ih=>simp only[dH,ih,Ep]
theorem Eu{J:Jb}{a:Nat}{r:List Int}{m:List (S3×Int)}(h:NI J a m)(hq:1<=zT J r){s:S3}{n b:Int}(hn:0<n)(hs:dH (fun _=>(zT J r:Int)) m+n*(zT J r:Int)<=b)(hb:b<=2000):n<=2000∧(∀e∈m,e.2<=2000)∧∀e∈m,i64.wrap (e.2+n)=e.2+n:=by
 obtain⟨h1,h2⟩:=Ik h.pos;have h3:0<=dH (fun _=>(zT J r:Int)) m:=by rw[Ba];exact adA h1 (by omega)
 have h4:n<=n*(zT J r:Int):=by
  have:=a8F (show(1:Int)<=zT J r by omega) (show 0<=n by omega);omega
 have h5:0<=n*(zT J r:Int):=by omega
 have h6:=a7T h.pos hq (show dH (fun _=>(zT J r:Int)) m<=2000 by omega);refine⟨by omega,h6,fun e he=>?_⟩;have:=h6 e he;have:=h.pos e he;exact dZ (by omega) (by omega)
theorem a1Z{now:List (S3×Int)}{j:Nat}{st:S3}{w:Int}(h:now[j]? = some (st,w)):(kS.im now).length=now.length∧(kS.im now)[j]? = some (.agg st.ps,.int .i64 w):=by
 refine⟨kS.pI now,?_⟩;rw[kS.AZ,h];rfl
section
variable {n:Nat} {J:Jb} (hJ:kD J) {f:Nat} (t:List (V×Int)) (now:List (S3×Int)) (seen:List Nat) {a:Nat} {c:Int} {r:List Int} {st:S3} {w:Int} {j:Nat}
abbrev sX(J:Jb)(f:Nat)(t:List (V×Int))(now next:List (S3×Int))(c:Int)(a:Int)(st:S3)(w:Int)(js:List Nat):aS aC:=⟨jd (T.iD 136 7) ((31,.val (.bool true))::(30,.val (.dF [.bool true,.agg st.ps,.int .i64 w]))::a3K J c a),[J.ps (.fn f [] [])],HI J f t now next js⟩
abbrev sZ(J:Jb)(f:Nat)(t:List (V×Int))(now next:List (S3×Int))(c:Int)(a:Int)(st:S3)(js:List Nat):aS aC:=⟨a3K J c a,[J.ps (.fn f [] []),st.ps],HI J f t now next js⟩
abbrev wDi(J:Jb)(f:Nat)(t:List (V×Int))(now:List (S3×Int))(c:Int)(a:Int)(st:S3)(w:Int)(js:List Nat)(next:List (S3×Int))(i:Int)(x:List (Nat×PE aC)):aS aC:=⟨[(1,.val (.kW 4)),(2,.loc 0 0),(6,xi c),(7,.val (.map 6)),(8,.loc 1 0),(9,xi w),(21,xL 3 J.o),(22,xi J.o.length),(23,xi a),(29,.val (.iter 7)),(75,xi (J.s.getD c.toNat 0)),(76,xi i)]++x,[J.ps (.fn f [] []),st.ps],HI J f t now next js⟩
include hJ
theorem lDi(hr:J.o.drop a=c::r)(hd:Dp J a st)(hw:0<w){next:List (S3×Int)}(hN:NI J (a+1) next)(hg:¬decide (J.g.getD c.toNat 0>=0)=true)(hb:dH (fun _=>(zT J r:Int)) next+w*(zT J (c::r):Int)<=2000)(js:List Nat) :
  ∃next',NI J (a+1) next'∧(∀ψ,dH (xI J ψ r) next'=dH (xI J ψ r) next+w*xI J ψ (c::r) st) ∧
   Jj (n+1) 136 2 5 (wDi J f t now c a st w js next 0 []) (.exit 5) (wDi J f t now c a st w js next' ((J.s.getD c.toNat 0).toNat:Nat) [(77,xl false)]):=by
 obtain⟨aQ,hoc,uV,EC,hci,nH⟩:=kD.at_ hJ hr;have hz:=hJ.bJ.sz _ (bP (s:=J.s) (k:=c.toNat) (by have:=nH.1;have:=nH.2;omega));have Yv:∀c'∈r,fK c' J.s.length:=fun c' h=>(kD.o2 hJ).2.2 c' (by rw[<-uV]at h;exact a4Q h);have hq:=(JC hJ Yv).1;have qm:(zT J (c::r):Int)=((J.s.getD c.toNat 0).toNat:Int)*(zT J r:Int):=by
  have:(AX J c).length=(J.s.getD c.toNat 0).toNat:=by unfold AX;rw[a0p hg];simp
  rw[zT,this,adL]
 let g:Nat->List (S3×Int)->List (S3×Int):=fun k y=>rY y (bK J.D st c k) w
 have inv:=bU (g:=g) (m:=(J.s.getD c.toNat 0).toNat) (k:=0) (s:=next) (fun k y=>NI J (a+1) y∧∀ψ,dH (xI J ψ r) y=dH (xI J ψ r) next+w*dW (fun(j:Nat)=>xI J ψ r (bK J.D st c j)) (List.range k)) ⟨hN,fun ψ=>by simp[dW]⟩ (fun k y _ hk hy=>by
  obtain⟨h1,h2⟩:=hy;refine⟨h1.add (mY hJ hr hd ⟨by omega,by omega⟩) hw,fun ψ=>?_⟩;show dH (xI J ψ r) (rY y _ w)=_;rw[zI,h2 ψ,abG,Ij,Int.mul_add];simp only[dW,Int.add_zero];omega)
 rw[a3Z]at inv;refine⟨_,inv.1,fun ψ=>by rw[inv.2 ψ,aaC hg],?_⟩;have bound:∀k y,k<(J.s.getD c.toNat 0).toNat->(∀ψ,dH (xI J ψ r) y=dH (xI J ψ r) next+w*dW (fun(j:Nat)=>xI J ψ r (bK J.D st c j)) (List.range k))->dH (fun _=>(zT J r:Int)) y+w*(zT J r:Int)<=2000:=fun k y hk hy=>by
  have h1:=hy fun _=>1;rw[Y7,Y7,qx (φ':=fun _=>(zT J r:Int)) (fun _ _=>Ep r _),AY,a8P]at h1;rw[h1];rw[qm]at hb;have h2:((k:Int)+1)*(zT J r:Int)<=((J.s.getD c.toNat 0).toNat:Int)*(zT J r:Int):=aas (by omega) (by omega);have h3:=a8F h2 (show 0<=w by omega);rw[afB,Int.mul_add,Int.one_mul]at h3;omega
 refine vw (σ:=List (S3×Int)) (N:=(J.s.getD c.toNat 0).toNat) (g:=g) (s0:=next) (st:=fun i y=>wDi J f t now c a st w js y i []) (fin:=fun y=>wDi J f t now c a st w js y (((J.s.getD c.toNat 0).toNat:Nat):Int) [(77,xl false)]) (fun k y=>NI J (a+1) y∧∀ψ,dH (xI J ψ r) y=dH (xI J ψ r) next+w*dW (fun(j:Nat)=>xI J ψ r (bK J.D st c j)) (List.range k)) (by kernel_rfl) (by unfold ah;omega) ⟨hN,fun ψ=>by simp[dW]⟩ (fun k y hk hy=>?_) (fun k y hk hy m e p g9=>?_) (fun y _=>?_)
 .obtain⟨h1,h2⟩:=hy;refine⟨h1.add (mY hJ hr hd ⟨by omega,by omega⟩) hw,fun ψ=>?_⟩;show dH (xI J ψ r) (rY y _ w)=_;rw[zI,h2 ψ,abG,Ij,Int.mul_add];simp only[dW,Int.add_zero];omega
 .obtain⟨h1,h2⟩:=hy;obtain⟨b1,b2,b3⟩:=Eu h1 hq (s:=bK J.D st c k) hw (bound k y hk h2) (a9m _);have t1:decide ((k:Int)<J.s.getD c.toNat 0)=true:=by rw[a1o];omega
  have ha:=Js (M:=n) (f:=f) (a:=[]) (cc:=[]) (H:=[]) J st c k hJ.d3 fun i hi=>Ju hJ hd ⟨by omega,by omega⟩ hi;have g9:dJ X0 Qp T (bQ (n+1)) LL 136 false _ 5 _ m (wDi J f t now c a st w js (rY y (bK J.D st c k) w) _ []) e p:=g9;by_cases hk:bK J.D st c k∈y.map (·.1)
  .obtain⟨jj,old,g1,g2,g3,g4⟩:=kS.V8 (a7O _) h1.nd hk (n:=w) b3;unfold wDi HI at g9;rw[<-g4]at g9;exact aN gG (.b t1 (.fr [] ha (.c (.int .i64 old) [] g1 (.a (.call (.int .i64 old) []) (.a (.ix jj) (.o g2 (.o g3 (.go g9))))))))
  .obtain⟨g1,g2,g3,g4⟩:=kS.V9 hk (n:=w) (by rw[Int.zero_add];exact dZ (by omega) (by omega));unfold wDi HI at g9;rw[<-g4]at g9;exact aN gG (.b t1 (.fr [] ha (.q (.bool false) g1 (.a .calm (.o (kS.ck (bK J.D st c k)) (.o g1 (.o g2 (.o g3 (.go g9)))))))))
 .have t1:decide ((((J.s.getD c.toNat 0).toNat:Nat):Int)<J.s.getD c.toNat 0)=false:=by rw[a2W];omega
  exact aN gG (.b t1 .ex)
end
open Go Tw Pv dw
abbrev sH(J:Jb)(f:Nat)(t:List (V×Int))(now next:List (S3×Int))(c:Int)(a:Int)(js:List Nat):aS aC:=⟨a3K J c a,[J.ps (.fn f [] [])],HI J f t now next js⟩
section
variable {n:Nat} {J:Jb} (hJ:kD J) {f:Nat} (t:List (V×Int)) (now:List (S3×Int)) (seen:List Nat) {a:Nat} {c:Int} {r:List Int} {st:S3} {w:Int} {j:Nat}
include hJ
theorem akI(hr:J.o.drop a=c::r)(hd:Dp J a st)(hw:0<w){next:List (S3×Int)}(hN:NI J (a+1) next)(hj:now[j]? = some (st,w))(hb:dH (fun _=>(zT J r:Int)) next+w*(zT J (c::r):Int)<=2000) :
  ∃next' e s',NI J (a+1) next'∧(∀ψ,dH (xI J ψ r) next'=dH (xI J ψ r) next+w*xI J ψ (c::r) st)∧(e=.norm∨e=.exit 3) ∧
   dN X0 Qp T (bQ (n+1)) LL 136 false (BQ Qp 136) 5 bX (sX J f t now next c a st w (j::seen)) e s' ∧
   gU X0 (T.eP 136 (dU bIB)) s'=sH J f t now next' c a (j::seen):=by
 obtain⟨aQ,hoc,uV,EC,hci,nH⟩:=kD.at_ hJ hr;have hz:=hJ.bJ.sz _ (bP (s:=J.s) (k:=c.toNat) (by have:=nH.1;have:=nH.2;omega));have Yv:∀c'∈r,fK c' J.s.length:=fun c' h=>(kD.o2 hJ).2.2 c' (by rw[<-uV]at h;exact a4Q h);have hq:=(JC hJ Yv).1;have hcG:fK c J.g.length:=by rw[hJ.gl];exact nH
 have ho:=a1Z hj;by_cases hg:decide (J.g.getD c.toNat 0>=0)=true
 .have hl1:(zT J (c::r):Int)=zT J r:=by rw[zT,AX,a0q hg];simp
  rw[hl1]at hb;have hgv:0<=J.g.getD c.toNat 0:=by simpa using hg
  have hd2:=mY hJ hr hd ⟨hgv,hJ.gv c nH hgv⟩;obtain⟨b1,b2,b3⟩:=Eu hN hq (s:=st) hw hb (a9m _);have ha:=Js (M:=n) (f:=f) (a:=[]) (cc:=[]) (H:=[]) J st c (J.g.getD c.toNat 0) hJ.d3 fun i hi=>Ju hJ hd ⟨hgv,hJ.gv c nH hgv⟩ hi;refine⟨rY next (bK J.D st c (J.g.getD c.toNat 0)) w,.exit 3,sZ J f t now (rY next (bK J.D st c (J.g.getD c.toNat 0)) w) c a st (j::seen),hN.add hd2 hw,fun ψ=>by rw[zI,a3D hg],.inr rfl,?_,by kernel_rfl⟩;unfold sZ HI;by_cases hk:bK J.D st c (J.g.getD c.toNat 0)∈next.map (·.1)
  .obtain⟨jj,old,g1,g2,g3,g4⟩:=kS.V8 (a7O _) hN.nd hk (n:=w) b3;rw[<-g4];exact zM hX gG (by kernel_rfl) (.c (.dF [.agg st.ps,.int .i64 w]) [] ho (.o nH (.o hcG (.b hg (.fr [] ha (.c (.int .i64 old) [] g1 (.a (.call (.int .i64 old) []) (.a (.ix jj) (.o g2 (.o g3 (.r rfl)))))))))))
  .obtain⟨g1,g2,g3,g4⟩:=kS.V9 hk (n:=w) (by rw[Int.zero_add];exact dZ (by omega) (by omega));rw[<-g4];exact zM hX gG (by kernel_rfl) (.c (.dF [.agg st.ps,.int .i64 w]) [] ho (.o nH (.o hcG (.b hg (.fr [] ha (.q (.bool false) g1 (.a .calm (.o (kS.ck (bK J.D st c (J.g.getD c.toNat 0))) (.o g1 (.o g2 (.o g3 (.r rfl))))))))))))
 have hg':decide (J.g.getD c.toNat 0>=0)=false:=by simpa using hg
 have uT:((J.s.getD c.toNat 0).toNat:Int)=J.s.getD c.toNat 0:=by omega
 have qm:(zT J (c::r):Int)=J.s.getD c.toNat 0*(zT J r:Int):=by
  have:(AX J c).length=(J.s.getD c.toNat 0).toNat:=by unfold AX;rw[a0p hg];simp
  rw[zT,this,adL,uT]
 have hs:=a7u (M:=n) (f:=f) (a:=[]) (cc:=[]) (H:=[]) J st c hJ.d3 (fun k hk h=>⟨by simpa using h,(hd k hk).1.1⟩);cases AQ:jS J.D st c
 .rw[AQ]at hs;have hd2:=UZ hJ hr hd AQ;have hm:0<w*J.s.getD c.toNat 0:=Int.mul_pos hw (by omega);rw[qm,<-ah1]at hb;obtain⟨b1,b2,b3⟩:=Eu hN hq (s:=st) hm hb (a9m _);have hwm:i64.wrap (w*J.s.getD c.toNat 0)=w*J.s.getD c.toNat 0:=dZ (by omega) (by omega);refine⟨rY next st (w*J.s.getD c.toNat 0),.exit 3,sZ J f t now (rY next st (w*J.s.getD c.toNat 0)) c a st (j::seen),hN.add hd2 hm,fun ψ=>by rw[zI,afC hg AQ,uT,ah1],.inr rfl,?_,by kernel_rfl⟩;unfold sZ HI;by_cases hk:st∈next.map (·.1)
  .obtain⟨jj,old,g1,g2,g3,g4⟩:=kS.V8 (a7O _) hN.nd hk (n:=w*J.s.getD c.toNat 0) b3;rw[<-g4,<-hwm];exact zM hX gG (by kernel_rfl) (.c (.dF [.agg st.ps,.int .i64 w]) [] ho (.o nH (.o hcG (.b hg' (.fr [] hs (.b (rfl:(!false)=true) (.c (.int .i64 old) [] g1 (.a (.call (.int .i64 old) []) (.a (.ix jj) (.o g2 (.o g3 (.r rfl))))))))))))
  .obtain⟨g1,g2,g3,g4⟩:=kS.V9 hk (n:=w*J.s.getD c.toNat 0) (by rw[Int.zero_add];exact hwm);rw[<-g4,<-hwm];exact zM hX gG (by kernel_rfl) (.c (.dF [.agg st.ps,.int .i64 w]) [] ho (.o nH (.o hcG (.b hg' (.fr [] hs (.b (rfl:(!false)=true) (.q (.bool false) g1 (.a .calm (.o (kS.ck st) (.o g1 (.o g2 (.o g3 (.r rfl)))))))))))))
 .rw[AQ]at hs;obtain⟨next',h1,h2,h3⟩:=lDi (n:=n) hJ (f:=f) t now hr hd hw hN hg hb (j::seen);refine⟨next',.norm,_,h1,h2,.inl rfl,zM (ps1:=wDi J f t now c a st w (j::seen) next' ((J.s.getD c.toNat 0).toNat:Nat) [(77,xl false)]) hX gG (by kernel_rfl) (.c (.dF [.agg st.ps,.int .i64 w]) [] ho (.o nH (.o hcG (.b hg' (.fr [] hs (.b (rfl:(!true)=false) (.w h3 (.r rfl)))))))),by kernel_rfl⟩
end
end Go.Proofs.YtmobpoiejckagaaGreat
namespace Pv
open Go Tw
section
variable {X:kR} {P:Program} {T:qH} {call:aY} {cd:uX} {L f nt B:Nat}
theorem aJ.Bc{a b:Code}{ps s1:aS X.Γ}{Q:Ex->aS X.Γ->Prop}(hn:nV a=true)(ha:dN X P T call L f false nt B a ps .norm s1)(hb:aJ X P T call cd L f nt B b s1 Q):aJ X P T call cd L f nt B (.seq a b) ps Q:=
 aJ.seq (R:=fun e s=>e=.norm∧s=s1) (dN.dem hn ha ⟨rfl,rfl⟩) (fun s h=>by obtain⟨_,rfl⟩:=h;exact hb) (fun i s h=>by cases h.1) (fun s h=>by cases h.1)
theorem aJ.step{c:Code}{ps:aS X.Γ}{e:Ex}{ps1:aS X.Γ}{Q:Ex->aS X.Γ->Prop}(hn:nV c=true)(ha:dN X P T call L f false nt B c ps e ps1)(hq:Q e ps1):aJ X P T call cd L f nt B c ps Q:=dN.dem hn ha hq
end
end Pv
namespace Go.Proofs.YtmobpoiejckagaaGreat
open Go Tw Pv dw
theorem KR{α:Type}[DecidableEq α](φ:α->Int)(p:α->Bool):∀l:List α,dW φ l=dW φ (l.filter p)+dW φ (l.filter fun a=>!p a)
 | []=>rfl
 |a::l=>by
  rw[dW,KR φ p l];cases h:p a
  .rw[ad7 (by simp[h]),ad9 (by simp[h]),dW];omega
  rw[ad9 h,ad7 (by simp[h]),dW];omega
theorem Vf{α:Type}[DecidableEq α]{φ:α->Int}:∀{l:List α},(∀a∈l,0<=φ a)->0<=dW φ l
 | [],_=>a9m _
 |a::l,h=>by
  have:=Vf (l:=l) fun b hb=>h b (by simp[hb]);have:=h a (by simp);rw[dW];omega
theorem JE{n:Nat}{l:List Nat}(hn:l.Nodup)(hl:∀j∈l,j<n):((List.range n).filter fun j=>l.contains j).Perm l:=
 (a8a (List.nodup_range.filter _) hn).2 fun j=>by
  rw[a8B,a4o,List.contains_iff_mem];exact⟨fun h=>h.2,fun h=>⟨hl j h,h⟩⟩
theorem Vg{n:Nat}{φ:Nat->Int}{l:List Nat}(hn:l.Nodup)(hl:∀j∈l,j<n)(hp:∀j,j<n->0<=φ j):dW φ l<=dW φ (List.range n):=by
 rw[KR φ (fun j=>l.contains j) (List.range n),JA φ (JE hn hl)];have:=Vf (φ:=φ) (l:=(List.range n).filter fun j=>!l.contains j) fun j hj=>hp j (a4o.1 (a8B.1 hj).1);omega
theorem PY{n:Nat}{φ:Nat->Int}{l:List Nat}(hn:l.Nodup)(hl:∀j∈l,j<n)(ha:∀j,j<n->j∈l):dW φ l=dW φ (List.range n):=
 (JA φ ((a8a adE hn).2 fun j=>⟨fun h=>ha j (a4o.1 h),fun h=>a4o.2 (hl j h)⟩)).symm
abbrev nowAt(now:List (S3×Int))(j:Nat):S3×Int:=now.getD j (⟨0,0,0⟩,0)
theorem Il{φ:S3->Int}(now:List (S3×Int)):dW (fun j=>(nowAt now j).2*φ (nowAt now j).1) (List.range now.length)=dH φ now:=by
 have h1:dH φ now=dW (fun e:S3×Int=>e.2*φ e.1) now:=by
  induction now with
  |nil=>rfl
  |cons e m ih=>simp only[dH,dW,ih]
 have h2:now=(List.range now.length).map fun j=>nowAt now j:=by
  refine(oP (d:=(⟨⟨0,0,0⟩,0⟩:S3×Int)) (by simp)).2 fun k hk=>?_;simp[List.getD,hk]
 rw[h1]
 conv=>rhs;rw[h2]
 rw[zJ]
theorem Y8{now:List (S3×Int)}{j:Nat}{e:S3×Int}(h:now[j]? = some e):nowAt now j=e∧j<now.length∧e∈now:=by
 obtain⟨h1,h2⟩:=a0d.1 h;exact⟨by simp[nowAt,List.getD,h],h1,h2▸a4r h1⟩
section
variable {n:Nat} {J:Jb} (hJ:kD J) {f:Nat} (t:List (V×Int)) (now:List (S3×Int)) {a:Nat} {c:Int} {r:List Int}
def InS(J:Jb)(f:Nat)(t:List (V×Int))(now:List (S3×Int))(a:Nat)(c:Int)(r:List Int)(seen:List Nat)(s:aS aC):Prop:=
 seen.Nodup∧(∀j∈seen,j<now.length)∧∃next,NI J (a+1) next∧(∀ψ,dH (xI J ψ r) next=dW (fun j=>(nowAt now j).2*xI J ψ (c::r) (nowAt now j).1) seen)∧gU X0 (T.eP 136 (dU bIB)) s=sH J f t now next c a seen
structure yu(J:Jb)(a:Nat)(now:List (S3×Int)):Prop where
 i:NI J a now
 s:∀ψ,dH (xI J ψ (J.o.drop a)) now=xI J ψ J.o (eX J.D)
include hJ
theorem afN:(zT J J.o:Int)<=2000:=by
 have h1:=(JC hJ (kD.o2 hJ).2.2).2;have hw:=DC hJ.bJ.sz hJ.ord;have hm:=hJ.bJ.many;omega
theorem N7(h:yu J a now):dH (fun _=>(zT J (J.o.drop a):Int)) now<=2000:=by
 have:=h.s fun _=>1;rw[Y7,Ep]at this;have:=afN hJ;omega
theorem Y9(a:Nat):1<=zT J (J.o.drop a):=(JC hJ fun c hc=>(kD.o2 hJ).2.2 c (a4Q hc)).1
theorem a2a(h:yu J a now):now.length<=2000∧∀e∈now,e.2<=2000:=by
 have h1:=a7T h.i.pos (Y9 hJ a) (N7 hJ now h);obtain⟨h2,h3⟩:=Ik h.i.pos;have h4:=N7 hJ now h;rw[Ba]at h4;have h5:=a8F (show(1:Int)<=zT J (J.o.drop a) by have:=Y9 hJ a;omega) h2;have h6:∀{m:List (S3×Int)},(∀e∈m,0<e.2)->(m.length:Int)<=dH (fun _=>1) m:=by
  intro m
  induction m with
  |nil=>intro _;exact a9m _
  |cons e m ih=>
   intro hp;have:=ih fun e he=>hp e (by simp[he]);have:=hp e (by simp);simp only[dH,a4d,abU];omega
 have:=h6 h.i.pos;exact⟨by omega,h1⟩
set_option maxRecDepth 20000 in
theorem inLoop(hr:J.o.drop a=c::r)(h:yu J a now):aJ X0 Qp T (bQ (n+1)) CS LL 136 (BQ Qp 136) 5 (.block 2 (.loop bIB)) (sH J f t now [] c a [])
  fun e s=>e=.norm∧∃next seen,NI J (a+1) next∧(∀ψ,dH (xI J ψ r) next=dH (xI J ψ (c::r)) now)∧s={ sH J f t now next c a seen with env:=jd (T.iD 136 7) ((31,.val (.bool false))::(30,.val (.dF [.bool false]))::a3K J c a) }:=by
 have e0:bIB=.seq (.region 7 (a7N (eG bIB)) false) (.seq (.cond (.tmp 31) .skip (.exit 2)) (.block 3 bX)):=by kernel_rfl
 rw[e0];have hlen:=a2a hJ now h;have hlL:(kS.im now).length=now.length:=kS.pI now;have hql:=(JC hJ (r:=c::r) fun c' hc=>(kD.o2 hJ).2.2 c' (by rw[<-hr]at hc;exact a4Q hc)).1;refine Ve hX (n:=now.length) (b:=7) (r:=5) (it:=29) (nx:=30) (mo:=31) (es:=kS.im now) (fun seen s=>InS J f t now a c r seen s) (by kernel_rfl) (a8l (by kernel_rfl)) (a8l (by kernel_rfl)) hlL (by unfold LL;omega)
  ⟨a6z,(fun j hj=>(by cases hj)),[],⟨a6z,(fun e he=>(by cases he)),(fun e he=>(by cases he))⟩,(fun ψ=>rfl),(by kernel_rfl)⟩ (fun seen s hi=>?_)
 obtain⟨jA,aQ,next,h1,h2,h3⟩:=hi;rw[<-e0];refine⟨_,h3,by kernel_rfl,by kernel_rfl,by kernel_rfl,fun ho=>⟨by kernel_rfl,next,seen,h1,fun ψ=>?_,rfl⟩,fun j e hj he=>⟨by kernel_rfl,?_⟩⟩
 .rw[h2,PY jA aQ ho,Il]
 .rw[kS.AZ,a0f]at he;obtain⟨⟨st,w⟩,rX,rfl⟩:=he;obtain⟨q1,q2,q3⟩:=Y8 rX;have FZ:(j::seen).Nodup:=a4m.2 ⟨hj,jA⟩;have G5:∀k∈j::seen,k<now.length:=fun k hk=>by
   rcases a2r.1 hk with rfl|hk
   .exact q2
   .exact aQ k hk
  have hb:dH (fun _=>(zT J r:Int)) next+w*(zT J (c::r):Int)<=2000:=by
   have e1:=h2 fun _=>1;rw[Y7]at e1;have e2:=Vg (φ:=fun j=>(nowAt now j).2*xI J (fun _=>1) (c::r) (nowAt now j).1) FZ G5 fun k hk=>by
    have:=h.i.pos _ (fM (d:=(⟨⟨0,0,0⟩,0⟩:S3×Int)) hk);rw[Ep];exact adA (ae9 this) (Int.natCast_nonneg _)
   rw[Il,dW,q1]at e2;have e3:=N7 hJ now h;rw[hr]at e3;rw[Y7]at e2;have e4:xI J (fun _=>1) (c::r) st=(zT J (c::r):Int):=Ep _ _;simp only[e4]at e2;omega
  obtain⟨next',e',s',g1,g2,g3,g4,g5⟩:=akI (n:=n) hJ (f:=f) t now seen (st:=st) (w:=w) (j:=j) hr (h.i.dp _ q3) (h.i.pos _ q3) h1 rX hb;refine aJ.step (by kernel_rfl) g4 ⟨g3,FZ,G5,next',g1,fun ψ=>?_,g5⟩;rw[g2,h2,dW,q1,agO]
end
open Go Tw Pv dw
abbrev akK(J:Jb)(a:Int)(x:List (Nat×PE aC)):List (Nat×PE aC):=[(1,.val (.kW 4)),(2,.loc 0 0),(4,.val (.map 5)),(21,xL 3 J.o),(22,xi J.o.length),(23,xi a)]++x
abbrev Vh(J:Jb)(f:Nat)(t:List (V×Int))(now:List (S3×Int))(a:Int)(x:List (Nat×PE aC)):aS aC:=⟨akK J a x,[J.ps (.fn f [] [])],HN J f t now⟩
abbrev ntE:Nat:=BQ Qp 136
abbrev ExE(n:Nat)(c:Code)(s:aS aC)(e:Ex)(s':aS aC):Prop:=dN X0 Qp T (bQ (n+1)) LL 136 false ntE 5 c s e s'
abbrev ExD(n:Nat)(c:Code)(s:aS aC)(Q:Ex->aS aC->Prop):Prop:=aJ X0 Qp T (bQ (n+1)) CS LL 136 ntE 5 c s Q
section
variable {n:Nat} {J:Jb} (hJ:kD J) {f:Nat} (t:List (V×Int)) {now:List (S3×Int)} {a:Nat}
include hJ
set_option maxRecDepth 20000 in
theorem afO(h:yu J a now)(aQ:a<J.o.length):ExD n bLB (Vh J f t now a []) fun e s=>e=.norm∧∃JF,yu J (a+1) JF∧kT 5 [.gc [6]] (gU X0 (T.eP 136 (dU bLB)) s)=some (Vh J f t JF ((a+1:Nat):Int) []):=by
 have hr:J.o.drop a=J.o.getD a 0::J.o.drop (a+1):=by
  rw[a6D aQ];simp[List.getD,a0g aQ]
 have Qc:J.o.length<=6:=by rw[(kD.o2 hJ).2.1];exact hJ.bJ.len
 have t1:decide ((a:Int)<(J.o.length:Int))=true:=bn aQ;have e0:bLB=.seq (eG bLB) (.seq (.cond (.tmp 24) .skip (.exit 0)) (.seq (.block 1 bB1) (eH (eH (eH bLB))))):=by kernel_rfl
 have e1:bB1=.seq (eG bB1) (.seq (eG (eH bB1)) (.seq (.seq (eG (eG (eH (eH bB1)))) (.block 2 (.loop bIB))) (eH (eH (eH bB1))))):=by kernel_rfl
 have x3:ExE n (eG bLB) (Vh J f t now a []) .norm (Vh J f t now a [(24,.val (.bool (decide ((a:Int)<(J.o.length:Int)))))]):=zM hX gG (by kernel_rfl) (.r rfl);have hc:zS (Vh J f t now a [(24,.val (.bool (decide ((a:Int)<(J.o.length:Int)))))]).env (.tmp 24)=some (.bool true):=by rw[<-t1];kernel_rfl
 have i1:fK (a:Int) J.o.length:=aH aQ;have x4:ExE n (eG bB1) (Vh J f t now a [(24,.val (.bool (decide ((a:Int)<(J.o.length:Int)))))]) .norm ⟨[(1,.val (.kW 4)),(2,.loc 0 0),(4,.val (.map 5)),(6,xi (J.o.getD a 0)),(21,xL 3 J.o),(22,xi J.o.length),(23,xi a)],[J.ps (.fn f [] [])],HN J f t now⟩:=zM hX gG (by kernel_rfl) (.o i1 (.r rfl));have x5:ExE n (eG (eH bB1)) ⟨[(1,.val (.kW 4)),(2,.loc 0 0),(4,.val (.map 5)),(6,xi (J.o.getD a 0)),(21,xL 3 J.o),(22,xi J.o.length),(23,xi a)],[J.ps (.fn f [] [])],HN J f t now⟩ .norm ⟨[(1,.val (.kW 4)),(2,.loc 0 0),(4,.val (.map 5)),(6,xi (J.o.getD a 0)),(7,.val (.map 6)),(21,xL 3 J.o),(22,xi J.o.length),(23,xi a)],[J.ps (.fn f [] [])],HN J f t now++[.map []]⟩:=zM hX gG (by kernel_rfl) (.r rfl);have x6:ExE n (eG (eG (eH (eH bB1)))) ⟨[(1,.val (.kW 4)),(2,.loc 0 0),(4,.val (.map 5)),(6,xi (J.o.getD a 0)),(7,.val (.map 6)),(21,xL 3 J.o),(22,xi J.o.length),(23,xi a)],[J.ps (.fn f [] [])],HN J f t now++[.map []]⟩ .norm ⟨a3K J (J.o.getD a 0) a,[J.ps (.fn f [] [])],HN J f t now++[.map (kS.im []),.dn 5 (kS.im now).length []]⟩:=zM hX gG (by kernel_rfl) (.r rfl);rw[kS.pI now]at x6;rw[e0];refine aJ.Bc (by kernel_rfl) x3 (aJ.seq (R:=fun e s=>e=.norm∧s=Vh J f t now a [(24,.val (.bool (decide ((a:Int)<(J.o.length:Int)))))]) (aJ.cond (t:=true) hc (aJ.step (by kernel_rfl) (zM hX gG (an:=.n) (by kernel_rfl) (.r rfl)) ⟨rfl,rfl⟩)) (fun s hs=>?_) (fun i s h=>by cases h.1) (fun s h=>by cases h.1));obtain⟨_,rfl⟩:=hs;refine aJ.seq (R:=fun e s=>e=.norm∧∃next seen,yu J (a+1) next∧s=⟨[(1,.val (.kW 4)),(2,.loc 0 0),(4,.val (.map 6)),(21,xL 3 J.o),(22,xi J.o.length),(23,xi a)],[J.ps (.fn f [] [])],HI J f t now next seen⟩) ?_ (fun s hs=>?_) (fun i s h=>by cases h.1) (fun s h=>by cases h.1)
 .refine aJ.block ?_;rw[e1];refine(aJ.Bc (by kernel_rfl) x4 (aJ.Bc (by kernel_rfl) x5 (aJ.seq (R:=fun e s=>e=.norm∧∃next seen,NI J (a+1) next∧(∀ψ,dH (xI J ψ (J.o.drop (a+1))) next=dH (xI J ψ (J.o.getD a 0::J.o.drop (a+1))) now)∧s={ sH J f t now next (J.o.getD a 0) a seen with env:=jd (T.iD 136 7) ((31,.val (.bool false))::(30,.val (.dF [.bool false]))::a3K J (J.o.getD a 0) a) }) (Q:=fun e s=>e=.norm∧∃next seen,yu J (a+1) next∧s=⟨[(1,.val (.kW 4)),(2,.loc 0 0),(4,.val (.map 6)),(21,xL 3 J.o),(22,xi J.o.length),(23,xi a)],[J.ps (.fn f [] [])],HI J f t now next seen⟩) (aJ.Bc (by kernel_rfl) x6 (inLoop (n:=n) hJ t now hr h)) (fun s hs=>?_) (fun i s h=>by cases h.1) (fun s h=>by cases h.1)))).mono fun e s h=>?_
  .obtain⟨_,next,seen,g1,g2,rfl⟩:=hs;refine aJ.step (by kernel_rfl) (zM (ps1:=⟨[(1,.val (.kW 4)),(2,.loc 0 0),(4,.val (.map 6)),(21,xL 3 J.o),(22,xi J.o.length),(23,xi a)],[J.ps (.fn f [] [])],HI J f t now next seen⟩) hX gG (an:=.n) (by kernel_rfl) (.r rfl)) ⟨rfl,next,seen,⟨g1,fun ψ=>?_⟩,rfl⟩;rw[g2,<-hr,h.s]
  obtain⟨rfl,h2⟩:=h;exact⟨rfl,h2⟩
 obtain⟨_,next,seen,g1,rfl⟩:=hs;refine aJ.step (by kernel_rfl) (zM (ps1:=⟨[(1,.val (.kW 4)),(2,.loc 0 0),(4,.val (.map 6)),(21,xL 3 J.o),(22,xi J.o.length),(23,xi (i64.wrap ((a:Int)+1)))],[J.ps (.fn f [] [])],HI J f t now next seen⟩) hX gG (an:=.n) (by kernel_rfl) (.r rfl)) ⟨rfl,next,g1,?_⟩;rw[yg (by unfold ah;omega)]
 kernel_rfl
set_option maxRecDepth 20000 in
theorem a7U:ExD n bLB (Vh J f t now J.o.length []) fun e s=>e=.exit 0∧s=Vh J f t now J.o.length [(24,.val (.bool (decide ((J.o.length:Int)<(J.o.length:Int)))))]:=by
 have t1:decide ((J.o.length:Int)<(J.o.length:Int))=false:=fB _;have e0:bLB=.seq (eG bLB) (.seq (.cond (.tmp 24) .skip (.exit 0)) (.seq (.block 1 bB1) (eH (eH (eH bLB))))):=by kernel_rfl
 have x3:ExE n (eG bLB) (Vh J f t now J.o.length []) .norm (Vh J f t now J.o.length [(24,.val (.bool (decide ((J.o.length:Int)<(J.o.length:Int)))))]):=zM hX gG (by kernel_rfl) (.r rfl);have hc:zS (Vh J f t now J.o.length [(24,.val (.bool (decide ((J.o.length:Int)<(J.o.length:Int)))))]).env (.tmp 24)=some (.bool false):=by rw[<-t1];kernel_rfl
 rw[e0];refine aJ.Bc (by kernel_rfl) x3 (aJ.seq (R:=fun e s=>e=.exit 0∧s=Vh J f t now J.o.length [(24,.val (.bool (decide ((J.o.length:Int)<(J.o.length:Int)))))]) (aJ.cond (t:=false) hc (aJ.step (by kernel_rfl) (zM hX gG (an:=.n) (by kernel_rfl) (.r rfl)) ⟨rfl,rfl⟩)) (fun s hs=>by cases hs.1) (fun i s h=>h) (fun s h=>by cases h.1))
set_option maxRecDepth 20000 in
theorem aaO(h:yu J 0 now):ExD n (.block 0 (.loop bLB)) (Vh J f t now 0 []) fun e s=>e=.norm∧∃JF,yu J J.o.length JF∧s=Vh J f t JF J.o.length [(24,.val (.bool (decide ((J.o.length:Int)<(J.o.length:Int)))))]:=by
 have Qc:J.o.length<=6:=by rw[(kD.o2 hJ).2.1];exact hJ.bJ.len
 refine aJ.block ?_;refine aJ.loop (fun k s=>∃a JF gs,a+k=J.o.length∧yu J a JF∧kT 5 gs (gU X0 (T.eP 136 (dU bLB)) s)=some (Vh J f t JF (a:Int) [])) (fun k s hi=>?_) (k:=J.o.length) ⟨0,now,[],by omega,h,by kernel_rfl⟩ (by unfold LL;omega);obtain⟨a,JF,gs,hk,h1,h2⟩:=hi;refine aJ.ghost hX h2 ?_;rcases a4h a J.o.length with aQ|EJ
 .refine(afO (n:=n) hJ t h1 aQ).mono fun e s h3=>?_;obtain⟨rfl,aq8,h4,h5⟩:=h3;exact⟨k-1,by omega,a+1,aq8,_,by omega,h4,h5⟩
 have:a=J.o.length:=by omega
 subst this;refine(a7U (n:=n) hJ t).mono fun e s h3=>?_;obtain⟨rfl,rfl⟩:=h3;dsimp only;rw[a0q rfl];exact⟨rfl,JF,h1,rfl⟩
end
open Go Tw Pv dw
def Ya(φ:V->Int)(l:List V):Int:=if qw (l.drop 1)=true then φ (l.getD 0 V0)else 0
theorem afP(φ:V->Int)(l:List V)(w:Int)(t:List (V×Int)):dH φ (yT l w t)=dH φ t+w*Ya φ l:=by
 unfold yT Ya;cases qw (l.drop 1)
 .rw[a0p (by simp),a0p (by simp)];omega
 rw[a0q rfl,a0q rfl,zI]
abbrev sH2(J:Jb)(f:Nat)(t:List (V×Int))(now:List (S3×Int))(seen:List Nat):aS aC:=⟨[(1,.val (.kW 4)),(2,.loc 0 0),(94,.val (.iter 6))],[J.ps (.fn f [] [])],QB J f true none t++[.map (kS.im now),.dn 5 now.length seen]⟩
structure a04(t:List (V×Int)):Prop where
 nd:(t.map (·.1)).Nodup
 pos:∀e∈t,0<e.2
theorem a04.y{t:List (V×Int)}(h:a04 t)(l:List V){w:Int}(hw:0<w):a04 (yT l w t):=by
 unfold yT;split
 .exact⟨FX h.nd _ _,PO hw h.pos⟩
 exact h
section
variable {n:Nat} {J:Jb} (hJ:kD J) {f:Nat} {now:List (S3×Int)}
def aq9(J:Jb)(f:Nat)(now:List (S3×Int))(seen:List Nat)(s:aS aC):Prop:=
 seen.Nodup∧(∀j∈seen,j<now.length)∧∃t,a04 t∧(∀φ,dH φ t=dW (fun j=>(nowAt now j).2*Ya φ (aV J.D (nowAt now j).1)) seen)∧gU X0 (T.eP 136 (dU bL2)) s=sH2 J f t now seen
theorem akL(l:List V):0<=Ya (fun _=>1) l∧Ya (fun _=>1) l<=1:=by
 unfold Ya;split<;>simp
include hJ
theorem afQ(h:yu J J.o.length now){seen:List Nat}(jA:seen.Nodup)(aQ:∀j∈seen,j<now.length){t:List (V×Int)}(ht:a04 t)(hs:∀φ,dH φ t=dW (fun j=>(nowAt now j).2*Ya φ (aV J.D (nowAt now j).1)) seen):Tal t:=by
 refine⟨ht.nd,ht.pos,fun e he=>?_⟩;have h1:=(Ik ht.pos).2 e he;have hp:∀j,j<now.length->0<(nowAt now j).2:=fun k hk=>h.i.pos _ (fM (d:=(⟨⟨0,0,0⟩,0⟩:S3×Int)) hk);have h2:=Vg (φ:=fun j=>(nowAt now j).2*Ya (fun _=>1) (aV J.D (nowAt now j).1)) jA aQ fun k hk=>adA (ae9 (hp k hk)) (akL _).1;have h3:dW (fun j=>(nowAt now j).2*Ya (fun _=>1) (aV J.D (nowAt now j).1)) (List.range now.length)<=dW (fun j=>(nowAt now j).2*1) (List.range now.length):=by
  have:∀l:List Nat,(∀j∈l,j<now.length)->dW (fun j=>(nowAt now j).2*Ya (fun _=>1) (aV J.D (nowAt now j).1)) l<=dW (fun j=>(nowAt now j).2*1) l:=by
   intro l
   induction l with
   |nil=>intro _;exact a9m _
   |cons j l ih=>
    intro hl;have:=ih fun k hk=>hl k (by simp[hk]);have:=a8F (akL (aV J.D (nowAt now j).1)).2 (ae9 (hp j (hl j (by simp))));simp only[dW];omega
  exact this _ fun j hj=>a4o.1 hj
 rw[Il (φ:=fun _=>1)]at h3;have h4:=N7 hJ now h;rw[List.drop_length]at h4;have h4:dH (fun _=>1) now<=2000:=h4;rw[<-hs]at h2;omega
set_option maxRecDepth 20000 in
theorem a3L(hO:Ok n qG)(h:yu J J.o.length now)(hD:0<J.D.length):aJ X0 Qp T (bQ (n+1)) CS LL 136 ntE 5 (.block 7 (.loop bL2)) (sH2 J f [] now [])
  fun e s=>e=.norm∧∃t seen,a04 t∧(∀φ,dH φ t=dH (fun st=>Ya φ (aV J.D st)) now)∧s={ sH2 J f t now seen with env:=jd (T.iD 136 23) ((96,.val (.bool false))::(95,.val (.dF [.bool false]))::(sH2 J f t now seen).env) }:=by
 have e0:bL2=.seq (.region 23 (a7N (eG bL2)) false) (.seq (.cond (.tmp 96) .skip (.exit 7)) (.block 8 bX2)):=by kernel_rfl
 rw[e0];have hlen:=a2a hJ now h;refine Ve hX (n:=now.length) (b:=6) (r:=5) (it:=94) (nx:=95) (mo:=96) (es:=kS.im now) (fun seen s=>aq9 J f now seen s) (by kernel_rfl) (a8l (by kernel_rfl)) (a8l (by kernel_rfl)) (kS.pI now) (by unfold LL;omega)
  ⟨a6z,(fun j hj=>(by cases hj)),[],⟨a6z,(fun e he=>(by cases he))⟩,(fun φ=>rfl),(by kernel_rfl)⟩ (fun seen s hi=>?_)
 obtain⟨jA,aQ,t,h1,h2,h3⟩:=hi;rw[<-e0];refine⟨_,h3,by kernel_rfl,by kernel_rfl,by kernel_rfl,fun ho=>⟨by kernel_rfl,t,seen,h1,fun φ=>?_,rfl⟩,fun j e hj he=>⟨by kernel_rfl,?_⟩⟩
 .rw[h2,PY jA aQ ho,Il (φ:=fun st=>Ya φ (aV J.D st))]
 .rw[kS.AZ,a0f]at he;obtain⟨⟨st,w⟩,rX,rfl⟩:=he;obtain⟨q1,q2,q3⟩:=Y8 rX;have FZ:(j::seen).Nodup:=a4m.2 ⟨hj,jA⟩;have G5:∀k∈j::seen,k<now.length:=fun k hk=>by
   rcases a2r.1 hk with rfl|hk
   .exact q2
   .exact aQ k hk
  have ho:=a1Z rX;have qm:(aV J.D st).length=J.D.length:=by simp[aV]
  have hw:=h.i.pos _ q3;have hc:=a1Q (M:=n) (f:=f) J st hJ.d3 fun k hk=>(Jv hJ (h.i.dp _ q3) hk).2;have hd3:=hJ.d3;have hy:=aq2 (n:=n) hO J f (afQ hJ h jA aQ h1 h2) (aV J.D st) (w:=w) (by omega) (by unfold ah;omega) ⟨hw,hlen.2 _ q3⟩;refine aJ.step (e:=.norm) (by kernel_rfl) (zM (ps1:=⟨[(1,.val (.kW 4)),(2,.loc 0 0),(94,.val (.iter 6)),(106,xl false)],[J.ps (.fn f [] []),st.ps],QB J f true none (yT (aV J.D st) w t)++[.map (kS.im now),.dn 5 now.length (j::seen)]⟩) hX gG (by kernel_rfl) (.c (.dF [.agg st.ps,.int .i64 w]) [] ho (.fr [] hc (.fr [0,1,2,3,4] hy (.b (rfl:(!true)=false) (.r rfl)))))) ⟨.inl rfl,FZ,G5,yT (aV J.D st) w t,h1.y _ hw,fun φ=>?_,by kernel_rfl⟩;rw[afP,h2,dW,q1,agO]
def a7V(J:Jb)(t:List (V×Int)):Prop:=a04 t∧∀φ,dH φ t=dW (fun q=>Ya φ (J.D.map fun d=>vN d q)) (XZ J)
omit hJ in
theorem a3M(hJ:kD J):yu J 0 [(eX J.D,1)]:=by
 refine⟨⟨by simp,fun e he=>?_,fun e he=>?_⟩,fun ψ=>?_⟩
 .rw[a2A.1 he];show(0:Int)<1;decide
 .rw[a2A.1 he];exact Y0 hJ
 simp[dH]
set_option maxRecDepth 20000 in
theorem akM(hO:Ok n qG)(hD:0<J.D.length):aaJ X0 Qp (uN Qp T (bQ (n+1)) LL) (.fn 136 [.agg (J.ps (.fn f [] []))] []) [.kW 4] (QB J f true none []) fun v H1=>∃(t:List (V×Int)) (G:List (PB aC)),a7V J t∧H1=QB J f true none t++G:=by
 refine a1X (t:=Tz Qp 136) hX (by kernel_rfl) ?_;have e0:(Tz Qp 136).body=.seq (eG QA) (.seq (eG (eH QA)) (.seq (.seq (eG (eG (eH (eH QA)))) (.block 0 (.loop bLB))) (.seq (eG (eH (eH (eH QA)))) (.block 7 (.loop bL2))))):=by kernel_rfl
 rw[e0];have hs:=ZV (M:=n) (f:=f) (a:=[]) (cc:=[]) (H:=[]) J hJ.d3;have hf:nN X0 Qp 148 (kS.es []) (kS.tv (eX J.D)):=kS.fresh (x:=eX J.D) (by simp);have x0:ExE n (eG QA) ⟨lu X0 0 [.agg (J.ps (.fn f [] [])),.kW 4],[],QB J f true none []⟩ .norm ⟨[(1,.val (.kW 4)),(2,.loc 0 0)],[J.ps (.fn f [] [])],QB J f true none []⟩:=zM hX gG (an:=.n) (by kernel_rfl) (.r rfl);have x1:ExE n (eG (eH QA)) ⟨[(1,.val (.kW 4)),(2,.loc 0 0)],[J.ps (.fn f [] [])],QB J f true none []⟩ .norm ⟨[(1,.val (.kW 4)),(2,.loc 0 0),(4,.val (.map 5))],[J.ps (.fn f [] [])],HN J f [] [(eX J.D,1)]⟩:=zM hX gG (by kernel_rfl) (.fr [] hs (.q (.bool false) (kS.ck (eX J.D)) (.o hf (.r rfl))));have x2:ExE n (eG (eG (eH (eH QA)))) ⟨[(1,.val (.kW 4)),(2,.loc 0 0),(4,.val (.map 5))],[J.ps (.fn f [] [])],HN J f [] [(eX J.D,1)]⟩ .norm (Vh J f [] [(eX J.D,1)] 0 []):=zM hX gG (an:=.n) (by kernel_rfl) (.r rfl);refine aJ.Bc (by kernel_rfl) x0 (aJ.Bc (by kernel_rfl) x1 (aJ.seq (R:=fun e s=>e=.norm∧∃JF,yu J J.o.length JF∧s=Vh J f [] JF J.o.length [(24,.val (.bool (decide ((J.o.length:Int)<(J.o.length:Int)))))]) (aJ.Bc (by kernel_rfl) x2 (aaO (n:=n) hJ [] (a3M hJ))) (fun s h=>?_) (fun i s h=>by cases h.1) (fun s h=>by cases h.1)));obtain⟨_,now,h1,rfl⟩:=h;have x3:ExE n (eG (eH (eH (eH QA)))) (Vh J f [] now J.o.length [(24,.val (.bool (decide ((J.o.length:Int)<(J.o.length:Int)))))]) .norm ⟨[(1,.val (.kW 4)),(2,.loc 0 0),(94,.val (.iter 6))],[J.ps (.fn f [] [])],QB J f true none []++[.map (kS.im now),.dn 5 (kS.im now).length []]⟩:=zM hX gG (an:=.n) (by kernel_rfl) (.r rfl);rw[kS.pI now]at x3;refine aJ.Bc (by kernel_rfl) x3 ((a3L hJ hO h1 hD).mono fun e s h=>?_);obtain⟨rfl,t,seen,g1,g2,rfl⟩:=h;refine⟨.inl rfl,[],by kernel_rfl,t,[.map (kS.im now),.dn 5 now.length seen],⟨g1,fun φ=>?_⟩,rfl⟩;rw[g2];have:=h1.s fun st=>Ya φ (aV J.D st);rw[List.drop_length]at this;rw[<-aaD hJ (Ya φ)];exact this
end
end Go.Proofs.YtmobpoiejckagaaGreat
