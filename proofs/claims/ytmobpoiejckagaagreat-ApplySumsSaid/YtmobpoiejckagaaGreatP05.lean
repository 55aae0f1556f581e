/- Part 6 of a proof: Many of all cells of a diagram together is the number of places; the answer to AskCount is Many of 1 of OpAnd of the condition's Where and the diagram's Where; for two diagrams that fit. -/
import Derived.Test.YtmobpoiejckagaaGreatP04
set_option linter.constructorNameAsVariable false
set_option linter.unusedVariables false
set_option linter.unusedSimpArgs false
set_option linter.unusedSectionVars false
open Go.IntKind (i64)
noncomputable section
namespace Go.Proofs.YtmobpoiejckagaaGreat
open Go Tw Pv bZ
theorem Y8{d:Dg}(h:aX d=0):∀i,i<d.au.length->∀k,k<(fB d i).aA.length->d.aB.idxOf (fB d i).var+1<=EP d.aB d.au ((fB d i).aA.getD k 0):=by
 intro i hi k hk;unfold aX at h;split at h
 .rename_i c;rw[h]at c;cases c
 split at h
 .cases h
 split at h
 .cases h
 rename_i c;have c:mD d=true:=by simpa using c
 unfold mD at c;split at c
 rotate_left
 .cases c
 split at c
 rotate_left
 .cases c
 rename_i c2;have:=dI.1 c2 i hi;unfold cLn at this;split at this
 .cases this
 split at this
 .cases this
 split at this
 .rename_i c3;have:=dI.1 c3 k hk;unfold cLk at this;split at this
  .cases this
  rw[a2H,Nb,Nb]at this;have e6:EP d.aB d.au ((i:Nat):Int)=d.aB.idxOf (fB d i).var:=by unfold EP;rw[a0o (by omega),a4Z]
  rw[e6]at this;show d.aB.idxOf (fB d i).var+1<=EP d.aB d.au ((d.au.getD i kW).aA.getD k 0);omega
 cases this
theorem a0e{d:Dg}(h:C9 d):∀(F:Nat) (r:Int) (x:Cs),jD d r d.au.length->NOk d.aj x.n->NOk d.aj (cu d F r x).2.n
 | 0,_,_,_,hx=>hx
 |F+1,r,x,hr,hx=>by
  unfold cu;by_cases c:r<0
  .rw[a0u (by simpa using c)];exact hx
  rw[a0o (by simpa using c)];split
  .exact hx
  have aQ:r.toNat<d.au.length:=by have:=hr.1;omega
  have KZ:∀j,j<(aP d r).length->jD d ((aP d r).getD j 0) d.au.length:=fun j hj=>by
   have h9:=h.zN r.toNat aQ j hj;have h8:=h9.1;have h8:(aP d r).getD j 0<(r.toNat:Int):=h8;exact⟨by omega,h9.2⟩
  have inv:=dw (g:=CB d F r) (m:=(aP d r).length) (k:=0) (s:=(List.replicate (aP d r).length 0,x)) (fun _ y=>y.1.length=(aP d r).length∧NOk d.aj y.2.n) ⟨by simp,hx⟩ (fun j y _ hj hy=>⟨by simp[CB,hy.1],a0e h F _ y.2 (KZ j (by omega)) hy.2⟩);show NOk d.aj (dD (aT (CB d F r) (aP d r).length 0 (List.replicate (aP d r).length 0,x)).2.n (ay d r).var (aT (CB d F r) (aP d r).length 0 (List.replicate (aP d r).length 0,x)).1);generalize aT (CB d F r) (aP d r).length 0 (List.replicate (aP d r).length 0,x)=y at inv;intro b hb;unfold dD at hb;split at hb
  .exact inv.2 b hb
  split at hb
  .exact inv.2 b hb
  rcases a2L.1 hb with hb|hb
  .exact inv.2 b hb
  rw[a2D.1 hb];refine⟨h.var r.toNat aQ,?_⟩;show(y.1.length:Int)=d.aj.getD (ay d r).var.toNat 0;rw[inv.1];exact h.ksz r.toNat aQ
theorem a7N{n:Nat}(hn:1<=n)(v:Int):((List.replicate n v).all fun x=>x==(List.replicate n v).getD 0 0)=true∧(List.replicate n v).getD 0 0=v:=by
 obtain⟨k,rfl⟩:∃k,n=k+1:=⟨n-1,by omega⟩;simp[ae6]
theorem Y9{d:Dg}{l:List V}(h:C9 d)(Q9:kD d.aj.length d.aB=true)(hk:∀i,i<d.au.length->∀k,k<(fB d i).aA.length->d.aB.idxOf (fB d i).var+1<=EP d.aB d.au ((fB d i).aA.getD k 0)):∀(r:List Int) (a:Nat) (p:List Int) (v:Int) (x:Cs) (F:Nat),d.aB.drop a=r->a<=d.aB.length->jK d.aj p=true->DR d x->Y7 d x->NOk d.aj x.n->jD d v d.au.length->a<=EP d.aB d.au v->1<=F->v+1<F->(∀q,jK d.aj q=true->Agr d.aj r q p->To d q v (l.getD (jl d.aj q).toNat V0))->iW d.aj l r p (x.e,x.n)=((cu d F v x).1,((cu d F v x).2.e,(cu d F v x).2.n))
 | [],a,p,v,x,F,hr,ha,hp,_,_,_,hv,KZ,hF1,hF,hto=>by
  obtain⟨F,rfl⟩:∃k,F=k+1:=⟨F-1,by omega⟩;have:a=d.aB.length:=by
   have:=congrArg List.length hr;rw[a3C,a5j]at this;omega
  subst this;have hv0:v<0:=by
   rcases Int.lt_or_le v 0 with c|c
   .exact c
   exfalso;unfold EP at KZ;rw[a0o (by omega)]at KZ;have aQ:v.toNat<d.au.length:=by have:=hv.1;omega
   have hm:=mF Q9 (h.var v.toNat aQ);have:=a4S.2 hm;have:d.aB.idxOf (d.au.getD v.toNat kW).var<d.aB.length:=this;omega
  have t:=hto p hp (fun _ _ _=>rfl);have e:l.getD (jl d.aj p).toNat V0=qp d v:=(To.fin hv0:To d p v _).det t |>.symm
  unfold cu;rw[a0u (by simpa using hv0)];show(i64.wrap (-1-(x.e.idxOf (l.getD (jl d.aj p).toNat V0):Nat)),(gV x.e (l.getD (jl d.aj p).toNat V0),x.n))=_;rw[e]
 |c::r,a,p,v,x,F,hr,ha,hp,hx,hi,YJ,hv,KZ,hF1,hF,hto=>by
  have aQ:a<d.aB.length:=by
   have:=congrArg List.length hr;rw[a3C,a4v]at this;omega
  have hd:=a6p aQ;rw[hr]at hd;obtain⟨hc,wU⟩:=List.cons.inj hd;have ho:=Q9;unfold kD at ho;rw[a0N]at ho;have G6:c∈d.aB:=by rw[hc];exact a4Q aQ
  have qI:gJ c d.aj.length:=⟨(ho.2.1 c G6).1,(ho.2.1 c G6).2⟩;have hia:d.aB.idxOf c=a:=by rw[hc];exact ho.2.2.idxOf_getElem a aQ
  have qE:c.toNat<d.aj.length:=by have:=qI.1;have:=qI.2;omega
  have hz:=h.bU.sz _ (dB (s:=d.aj) (k:=c.toNat) qE);have Gp:=rY hp;have hcr:c∉r:=by
   have:(d.aB.drop a).Nodup:=ho.2.2.sublist (List.drop_sublist _ _);rw[hr]at this;exact(a4J.1 this).1
  have FK:∀j:Nat,j<(d.aj.getD c.toNat 0).toNat->jK d.aj (p.set c.toNat j)=true:=fun j hj=>XI hp qI ⟨by omega,by omega⟩;simp only[iW];by_cases vI:0<=v∧(ay d v).var=c
  .obtain⟨hv0,hvc⟩:=vI;have a3U:v.toNat<d.au.length:=by have:=hv.1;omega
   have KA:((aP d v).length:Int)=d.aj.getD c.toNat 0:=by rw[<-hvc];exact h.ksz v.toNat a3U
   have hkn:(d.aj.getD c.toNat 0).toNat=(aP d v).length:=(by omega);have Cb:∀j,j<(aP d v).length->(aP d v).getD j 0<v:=fun j hj=>by
    have h9:=(h.zN v.toNat a3U j hj).1;have h9:(aP d v).getD j 0<(v.toNat:Int):=h9;omega
   have hrf:∀j,j<(aP d v).length->jD d ((aP d v).getD j 0) d.au.length:=fun j hj=>⟨by have:=Cb j hj;have:=hv.1;omega,(h.zN v.toNat a3U j hj).2⟩;have akx:∀j,j<(aP d v).length->a+1<=EP d.aB d.au ((aP d v).getD j 0):=fun j hj=>by
    have:=hk v.toNat a3U j hj;have:d.aB.idxOf (ay d v).var+1<=EP d.aB d.au ((aP d v).getD j 0):=this;rw[hvc,hia]at this;exact this
   have aky:∀j:Nat,j<(aP d v).length->∀q,jK d.aj q=true->Agr d.aj r q (p.set c.toNat j)->To d q ((aP d v).getD j 0) (l.getD (jl d.aj q).toNat V0):=fun j hj q hq hag=>by
    have YH:q.getD c.toNat 0=j:=by
     have:=hag c.toNat qE (by rw[ah6 qI.1];exact hcr);rw[this,List.getD,a1u (by omega)];rfl
    have t0:=hto q hq (Agr.back qI hag);revert t0;generalize l.getD (jl d.aj q).toNat V0=w;intro t0;cases t0 with
    |fin h9=>omega
    |step _ t=>
     rw[hvc,YH,a4Z]at t;exact t
   rw[hkn];by_cases OV:v∈x.k.map (·.1)
   .-- known
    have hKn:Kn d x v:=by unfold Kn;rw[a0o (by omega)];exact OV
    obtain⟨F',rfl⟩:∃k,F=k+1:=⟨F-1,by omega⟩;rw[Nc hKn];obtain⟨i1,i2,i3⟩:=hi v OV;have inv:=dw (g:=Cc (iW d.aj l r) c p) (m:=(aP d v).length) (k:=0) (s:=([],(x.e,x.n))) (fun k y=>y=(((aP d v).map (vG d x)).take k,(x.e,x.n))) (by simp) (fun j y _ hj hy=>by
     have hj:j<(aP d v).length:=(by omega);subst hy;have ih:=Y9 h Q9 hk r (a+1) (p.set c.toNat j) ((aP d v).getD j 0) x (F'+1) wU.symm aQ (FK j (by omega)) hx hi YJ (hrf j hj) (akx j hj) (by omega) (by have:=Cb j hj;omega) (aky j hj);rw[Nc (i1 j hj)]at ih;unfold Cc;rw[ih];refine aaD ?_ rfl;show(((aP d v).map (vG d x)).take j)++[vG d x ((aP d v).getD j 0)]=_;have hjm:j<((aP d v).map (vG d x)).length:=(by simpa using hj);rw[a6t hjm];simp[List.getD,a0b hj])
    rw[a3H]at inv;rw[inv,a9V (by simp)];rw[hvc]at i2 i3;obtain⟨n1,n2⟩:=Y3 h.bU.sz YJ qI (ks:=(aP d v).map (vG d x)) (by simpa using KA);show(Gf x.n c _,(x.e,qH x.n c _))=_;rw[<-n1,<-n2,i2,i3];unfold vG;rw[a0o (by omega)]
   obtain⟨F',rfl⟩:∃k,F=k+1:=⟨F-1,by omega⟩;have key:∀j,j<=(aP d v).length->(aT (Cc (iW d.aj l r) c p) j 0 ([],(x.e,x.n)))=((aT (CB d F' v) j 0 (List.replicate (aP d v).length 0,x)).1.take j,((aT (CB d F' v) j 0 (List.replicate (aP d v).length 0,x)).2.e,(aT (CB d F' v) j 0 (List.replicate (aP d v).length 0,x)).2.n))∧(aT (CB d F' v) j 0 (List.replicate (aP d v).length 0,x)).1.length=(aP d v).length∧(DR d (aT (CB d F' v) j 0 (List.replicate (aP d v).length 0,x)).2∧v∉(aT (CB d F' v) j 0 (List.replicate (aP d v).length 0,x)).2.k.map (·.1))∧Y7 d (aT (CB d F' v) j 0 (List.replicate (aP d v).length 0,x)).2∧NOk d.aj (aT (CB d F' v) j 0 (List.replicate (aP d v).length 0,x)).2.n:=by
    intro j
    induction j with
    |zero=>intro _;exact⟨rfl,by simp[aT],⟨hx,OV⟩,hi,YJ⟩
    |succ j ih=>
     intro hj;have hj:j<(aP d v).length:=hj;obtain⟨q1,q2,⟨q3,q3'⟩,q4,q5⟩:=ih (by omega);rw[uh,uh,a3H];generalize aT (CB d F' v) j 0 (List.replicate (aP d v).length 0,x)=y at q1 q2 q3 q3' q4 q5;rw[q1];have Wp:=Cb j hj;have ih2:=Y9 h Q9 hk r (a+1) (p.set c.toNat j) ((aP d v).getD j 0) y.2 F' wU.symm aQ (FK j (by omega)) q3 q4 q5 (hrf j hj) (akx j hj) (by omega) (by omega) (aky j hj);refine⟨?_,by simp[CB,q2],⟨PS h F' _ y.2 q3 (hrf j hj),XW F' _ v y.2 Wp q3' (by omega) (fun i hi k hk=>(h.zN i hi k hk).1) (fun h5=>⟨h5,(hrf j hj).1⟩)⟩,(a0d h F' _ y.2 (by omega) (by omega) (hrf j hj) q3 q4).1,a0e h F' _ y.2 (hrf j hj) q5⟩;unfold Cc;rw[ih2];refine aaD ?_ rfl;show y.1.take j++[(cu d F' ((aP d v).getD j 0) y.2).1]=(y.1.set j (cu d F' ((aP d v).getD j 0) y.2).1).take (j+1);rw[a6t (by simp;omega),List.take_set_of_le (a0x _),List.getElem_set_self]
   obtain⟨q1,q2,⟨q3,q3'⟩,q4,q5⟩:=key _ (a0x _);rw[q1];have e:cu d (F'+1) v x=(eF (aT (CB d F' v) (aP d v).length 0 (List.replicate (aP d v).length 0,x)).2.n (ay d v).var (aT (CB d F' v) (aP d v).length 0 (List.replicate (aP d v).length 0,x)).1,⟨(aT (CB d F' v) (aP d v).length 0 (List.replicate (aP d v).length 0,x)).2.e,dD (aT (CB d F' v) (aP d v).length 0 (List.replicate (aP d v).length 0,x)).2.n (ay d v).var (aT (CB d F' v) (aP d v).length 0 (List.replicate (aP d v).length 0,x)).1,(aT (CB d F' v) (aP d v).length 0 (List.replicate (aP d v).length 0,x)).2.k++[(v,eF (aT (CB d F' v) (aP d v).length 0 (List.replicate (aP d v).length 0,x)).2.n (ay d v).var (aT (CB d F' v) (aP d v).length 0 (List.replicate (aP d v).length 0,x)).1)]⟩):=by
    rw[cu,a0o (by simpa using hv0),a0o (by simpa using OV)]
   rw[e];generalize aT (CB d F' v) (aP d v).length 0 (List.replicate (aP d v).length 0,x)=y at q2 q5;rw[a9V (by omega),hvc];obtain⟨n1,n2⟩:=Y3 h.bU.sz q5 qI (ks:=y.1) (by rw[q2];exact KA);rw[n1,n2]
  -- asked later,or an end
  have akz:a+1<=EP d.aB d.au v:=by
   unfold EP at KZ ⊢;split
   .omega
   rename_i c1;rw[a0o c1]at KZ;have iI:d.aB.idxOf (d.au.getD v.toNat kW).var≠a:=fun e=>by
    apply vI;refine⟨by omega,?_⟩;have a3U:v.toNat<d.au.length:=by have:=hv.1;omega
    have hm:=mF Q9 (h.var v.toNat a3U);have h1:=a8N (a4S.2 hm);have e:d.aB.idxOf (fB d v.toNat).var=a:=e;show(fB d v.toNat).var=c;rw[hc,<-h1];congr 1
   omega
  obtain⟨z1,z2,z3⟩:=a0d h F v x hF1 hF hv hx hi;have Rl:=PS h F v x hx hv;have aex:=a0e h F v x hv YJ;have akA:cu d F v (cu d F v x).2=((cu d F v x).1,(cu d F v x).2):=by
   have e:∀y,Kn d y v->vG d y v=(cu d F v x).1->cu d F v y=((cu d F v x).1,y):=fun y h1 h2=>by
    obtain⟨F',rfl⟩:∃k,F=k+1:=⟨F-1,by omega⟩;rw[Nc h1,h2]
   exact e _ z2 z3
  have akB:∀j:Nat,∀q,jK d.aj q=true->Agr d.aj r q (p.set c.toNat j)->To d q v (l.getD (jl d.aj q).toNat V0):=fun j q hq hag=>hto q hq (Agr.back qI hag);have inv:=dw (g:=Cc (iW d.aj l r) c p) (m:=(d.aj.getD c.toNat 0).toNat) (k:=0) (s:=([],(x.e,x.n))) (fun k y=>(k=0∧y=([],(x.e,x.n)))∨(0<k∧y=(List.replicate k (cu d F v x).1,((cu d F v x).2.e,(cu d F v x).2.n)))) (.inl ⟨rfl,rfl⟩) (fun j y _ hj hy=>by
   right;refine⟨by omega,?_⟩;rcases hy with⟨rfl,rfl⟩|⟨h0,rfl⟩
   .have ih:=Y9 h Q9 hk r (a+1) (p.set c.toNat ((0:Nat):Int)) v x F wU.symm aQ (FK 0 (by omega)) hx hi YJ hv akz hF1 hF (akB 0);unfold Cc;rw[ih];rfl
   have ih:=Y9 h Q9 hk r (a+1) (p.set c.toNat ((j:Nat):Int)) v (cu d F v x).2 F wU.symm aQ (FK j (by omega)) Rl z1 aex hv akz hF1 hF (akB j);rw[akA]at ih;unfold Cc;rw[ih];refine aaD ?_ rfl;show List.replicate j _++[_]=_;rw[List.replicate_succ'])
  rw[a3H]at inv;rcases inv with⟨h0,_⟩|⟨h0,e⟩
  .omega
  rw[e];obtain⟨f1,f2⟩:=a7N (n:=(d.aj.getD c.toNat 0).toNat) (by omega) (cu d F v x).1;show(Gf _ c _,(_,qH _ c _))=_;unfold Gf qH;rw[a0u f1,a0u f1,f2]
theorem Qc{d:Dg}(hl:aX d=0)(ho:d.aB.length<=ah)(he:d.aI.length<=ah):eX d=qw d.aj d.aB (cellsD d)∧OfP d.aj d.aB (cellsD d):=by
 obtain⟨h,hn⟩:=iJ ho he (by rw[hl];rfl);have hf:(bV d.aj d.aB != 0)=false:=by
  unfold aX at hl;split at hl
  .rename_i c;rw[hl]at c;cases c
  rename_i c;simpa using c
 obtain⟨bU,Q9⟩:=jV.1 (show bV d.aj d.aB=0 by simpa using hf);have hlen:((cellsD d).length:Int)=bC d.aj:=by unfold cellsD;rw[a4K,a9a,bU.a00]
 have hr:=h.root;have hr1:=hr.1;have hto:∀q,jK d.aj q=true->To d q d.root ((cellsD d).getD (jl d.aj q).toNat V0):=fun q hq=>by
  have hrn:=DC hq bU.sz;have t:=To.of h hq 6001 d.root (by omega) hr;have e:(cellsD d).getD (jl d.aj q).toNat V0=kX d q:=by
   have aQ:(jl d.aj q).toNat<xZ d.aj:=by unfold xZ;omega
   unfold cellsD;rw[List.getD,a0b (by simpa using aQ)];simp only[a9e,ahe,a5i];rw[show(((jl d.aj q).toNat:Nat):Int)=jl d.aj q by omega,Vd hq bU.sz]
  rw[e];exact t
 have key:=Y9 (l:=cellsD d) h Q9 (Y8 hl) d.aB 0 (List.replicate d.aj.length 0) d.root cl0 6002 rfl (a4Y _) (PZ bU.sz) Vo (fun v hv=>by cases hv) (fun b hb=>by cases hb) hr (a4Y _) (by omega) (by omega) (fun q hq _=>hto q hq);refine⟨?_,⟨bU,Q9,hlen⟩⟩;have key:iW d.aj (cellsD d) d.aB (List.replicate d.aj.length 0) ([],[])=_:=key;unfold eX qw;rw[key]
open Go Tw Pv bZ
theorem Qd(k:Int):G9 (i64.wrap k):=by
 have e:i64.wrap k=if k%(2^64:Int)>=(2^63:Int)then k%(2^64:Int)-2^64 else k%(2^64:Int):=by
  show(if(true&&decide (k%(2^64:Int)>=(2^63:Int)))=true then _ else _)=_;by_cases c:k%(2^64:Int)>=(2^63:Int)
  .rw[a0u (by simpa using c),a0u c];rfl
  rw[a0o (by simpa using c),a0o c];rfl
 rw[e];unfold G9;split<;>constructor<;>omega
def EnW(x:EN):Prop:=∀b∈x.2,∀k∈b.aA,G9 k
theorem a7O{s:List Int}{l:List V}(hs:nX s):∀(r p:List Int) (x:EN),(∀c∈r,gJ c s.length)->EnW x->(iW s l r p x).2.2.length<2^61->EnW (iW s l r p x).2∧G9 (iW s l r p x).1
 | [],p,x,_,hx,_=>⟨hx,Qd _⟩
 |c::r,p,x,hr,hx,hE=>by
  have qI:=hr c (by simp);have hz:=hs _ (dB (s:=s) (k:=c.toNat) (by have:=qI.1;have:=qI.2;omega));have hN:=Ik (aT (Cc (iW s l r) c p) (s.getD c.toNat 0).toNat 0 ([],x)).2.2 c (aT (Cc (iW s l r) c p) (s.getD c.toNat 0).toNat 0 ([],x)).1;have hE:(qH (aT (Cc (iW s l r) c p) (s.getD c.toNat 0).toNat 0 ([],x)).2.2 c (aT (Cc (iW s l r) c p) (s.getD c.toNat 0).toNat 0 ([],x)).1).length<2^61:=hE;have inv:=dw (g:=Cc (iW s l r) c p) (m:=(s.getD c.toNat 0).toNat) (k:=0) (s:=([],x)) (fun k y=>y.1.length=k∧(y.2.2.length<2^61->EnW y.2∧∀v∈y.1,G9 v)) ⟨rfl,fun _=>⟨hx,by simp⟩⟩ (fun j y _ hj hy=>by
   refine⟨by simp[Cc,hy.1],fun hE2=>?_⟩;have hE2:(iW s l r (p.set c.toNat j) y.2).2.2.length<2^61:=hE2;have hp:=(Q7 (s:=s) (l:=l) r (p.set c.toNat j) y.2).2.length_le;obtain⟨y1,y2⟩:=hy.2 (by omega);obtain⟨z1,z2⟩:=a7O hs r (p.set c.toNat j) y.2 (fun c hc=>hr c (by simp[hc])) y1 hE2;refine⟨z1,fun v hv=>?_⟩;have hv:v∈y.1++[(iW s l r (p.set c.toNat j) y.2).1]:=hv;rcases a2L.1 hv with hv|hv
   .exact y2 v hv
   rw[a2D.1 hv];exact z2)
  rw[a3H]at inv;simp only[iW];generalize aT (Cc (iW s l r) c p) (s.getD c.toNat 0).toNat 0 ([],x)=y at inv hN hE;obtain⟨ks,E,N⟩:=y;have hN:N <+: qH N c ks:=hN;have hE:(qH N c ks).length<2^61:=hE;obtain⟨i0,i1⟩:=inv;have i0:ks.length=(s.getD c.toNat 0).toNat:=i0;obtain⟨i1,i2⟩:=i1 (by have:=hN.length_le;show N.length<2^61;omega);have i1:∀b∈N,∀k∈b.aA,G9 k:=i1;have i2:∀v∈ks,G9 v:=i2;refine⟨fun b hb=>?_,?_⟩
  .have hb:b∈qH N c ks:=hb;unfold qH at hb;split at hb
   .exact i1 b hb
   split at hb
   .exact i1 b hb
   rcases a2L.1 hb with hb|hb
   .exact i1 b hb
   rw[a2D.1 hb];exact i2
  show G9 (Gf N c ks);by_cases hf:(ks.all fun x=>x==ks.getD 0 0)=true
  .rw[show Gf N c ks=ks.getD 0 0 from a0u hf];exact i2 _ (dB (s:=ks) (k:=0) (by omega))
  rw[show Gf N c ks=(N.idxOf (⟨c,ks⟩:Br):Nat)from a0o hf];have:=(Vq (N:=N) (c:=c) hf).1;exact⟨by omega,by omega⟩
theorem aaV{s o:List Int}{l:List V}(h:OfP s o l)(hv:∀v∈l,vOk v=true)(hf:∀v∈l,0<=v.f):Ew (qw s o l)∧iH (qw s o l)=0:=by
 obtain⟨hP,hn,ho⟩:=h.p;obtain⟨h1,h2,h3,h4,h5⟩:=Bh h hv;have hw:=DT h.bU.sz h.ord;have hm:=h.bU.many;have hlen:=a0a (l:=l) h.bU.sz o (List.replicate s.length 0) ([],[]) hP.ord;have Rq:(iW s l o (List.replicate s.length 0) ([],[])).2.2.length+1<=0+wO s o:=hlen.2;obtain⟨w1,w2⟩:=a7O (l:=l) h.bU.sz o (List.replicate s.length 0) ([],[]) hP.ord (fun b hb=>by cases hb) (by omega);have hR:Ew (qw s o l):=⟨fun i hi k hk=>by
  have hb:fB (qw s o l) i∈(qw s o l).au:=by
   show(qw s o l).au.getD i kW∈_;rw[List.getD,a0b hi];exact a4Q hi
  exact w1 _ hb _ (dB hk),w2,fun v hv=>hf v (h3 v hv)⟩
 refine⟨hR,?_⟩;obtain⟨ht,hn6⟩:=iJ (d:=qw s o l) hP.afQ (by unfold ah;omega) (by rw[h1];rfl);have hc:=(Qc (d:=qw s o l) h1 hP.afQ (by unfold ah;omega)).1;rw[Qa h hv]at hc;have hd:=(JB ht hR (by omega) hn6).1 hc;unfold iH;rw[a0o (by rw[h1];decide),a0o (by rw[hd];decide)]
open Go Tw Pv bZ
def adF:fA aG:=cO 121 (a1 dA) iA (fun p=>(uG p).2) (fun p=>[Ew p,p.aj.length<=ah,p.aB.length<=2^20,p.aI.length+1<=ah]) adz
theorem akC:Gd adF:=akv.add fun n hO p hp=>aN hO (.o (hp _ (.head _)) (.o (hp _ (.tail _ (.head _))) (.o (hp _ (.tail _ (.tail _ (.head _)))) (.o (hp _ (.tail _ (.tail _ (.tail _ (.head _))))) .rr))))
def zT(d:Dg):Dg×Int:=if((bH d).2 != 0)=true then(jU,(bH d).2)else(eX (bH d).1.d,0)
def a7P:fA aG:=cO 108 (a1 dA) (dQ (a2 dA iA)) (fun p=>zT p) (fun p=>[Ew p,p.aj.length<=ah,p.aB.length<=2^20,p.aI.length<=ah,((bH p).2 != 0)=false->ClP (bH p).1]) adF
theorem adG:Gd a7P:=akC.add fun n hO p hp=>aN hO (.o (hp _ (.tail _ (.head _))) (.o (hp _ (.tail _ (.tail _ (.head _)))) (.o (hp _ (.tail _ (.tail _ (.tail _ (.head _))))) (.sh (fun _=>.rn (.dM [.agg [.nil .slc,.nil .slc,.nil .slc,.nil .slc,.int .i64 0],.int .i64 (bH p).2]) rfl) fun h=>.o (hp _ (.tail _ (.tail _ (.tail _ (.tail _ (.head _))))) h) .rr))))
def akD:fA aG:=cO 77 (a3 iA iA iA) tA (fun p=>(if decide (p.2.2>=p.1)=true then decide (p.2.2<=p.2.1)else false)) np a7P
theorem apx:Gd akD:=adG.add fun n hO p hp=>aN hO (.ss .rr .rr)
def a2f:fA aG:=cO 123 (a2 (a6K frA) dA) tA (fun p=>(if decide (p.2.aj=p.1.1)=true then decide (p.2.aB=p.1.2)else false)) (fun p=>[p.2.aj.length<=ah,p.2.aB.length<=ah]) akD
theorem akE:Gd a2f:=apx.add fun n hO p hp=>aN hO (.o (hp _ (.head _)) (.ss (.o (hp _ (.tail _ (.head _))) .rr) .rr))
end Go.Proofs.YtmobpoiejckagaaGreat
namespace Pv
open Go Tw
variable {X:l7} {P:Program}
theorem oN.a0f(hX:bP X P){call:bf}{f:FuncId}{first xs cap vs:List (PV X.Γ)}{v v':PV X.Γ}{ext ext':List (PB X.Γ)}(hc:oN X P call f vs v ext)(hv:views [] (first++xs++cap)=some vs)(hs:rJ X 0 ext=some ext')
  (e:shift 0 v=v') (he:(if xU v||ext.any (hasB X)then aZ (lu.kH (first++xs++cap)) []else [])=([]:List (PB X.Γ))):aW X P call (.fn f first cap) xs [] v' ext':=by
 subst e;intro A m h tf sJ hr hf hx;cases hf with
 |gone hi _ _=>simp[bn]at hi
 |fn p1 p2 p3 p4=>
  obtain⟨w,h',m1,c1,c2,c3,c4,c5⟩:=HY hX hc hr hv hs ⟨p1,p2⟩ hx ⟨p3,p4⟩;rw[he]at c2;exact⟨w,h',[],m1,c1,c2,c3,c4,c5,fun b hb=>by cases hb⟩
end Pv
namespace Go.Proofs.YtmobpoiejckagaaGreat
open Go Tw Pv bZ
def a3V{α:Type}(g:α->Bool)(i:Nat)(x:α)(s:Unit):Unit⊕(Nat×α×Unit):=if(g x)=true then .inr (i,x,s)else .inl ()
def afS{α:Type}(d:α)(g:α->Bool)(l:List α):Int:=if(jZ (ni (a3V g) l 0 ()))=true then -1 else(((Dq (0,d,()) (ni (a3V g) l 0 ())).1:Int))
theorem a7Q{α:Type}(g:α->Bool):∀(l:List α) (i:Nat),jZ (ni (a3V g) l i ())=!(l.any g)
 | [],i=>rfl
 |x::l,i=>by
  simp only[ni,a3V,adD];cases g x
  .simpa using a7Q g l (i+1)
  simp[jZ]
theorem afT{α:Type}(d:α)(g:α->Bool)(l:List α):decide (afS d g l>=0)=l.any g:=by
 have:=a7Q g l 0;unfold afS;rw[this];cases l.any g<;>simp
theorem dK{α:Type}{l:List α}{k:Nat}{d:α}(h:k<l.length):l.getD k d∈l:=by simp[List.getD,a0b h]
abbrev afU(f:Nat)(a c:List (PV aG))(H:List (PB aG))(l:List Dg)(i:Int)(x:List (Nat×PE aG)):aS aG:=⟨[(0,xL 26 l),(1,.val (.fn f a c)),(7,xi l.length),(8,xi i)]++x,[],H⟩
def akF(f:Nat)(a c:List (PV aG))(H:List (PB aG))(l:List Dg):Unit⊕(Nat×Dg×Unit)->Ex×aS aG
 |.inl _=>(.exit 0,afU f a c H l l.length [(9,xl false)])
 |.inr r=>(.ret,⟨[(4,xi r.1)],[],H⟩)
theorem apy{n f:Nat}{a c:List (PV aG)}{H:List (PB aG)}{g:Dg->Bool}(l:List Dg)(hf:∀x∈l,aW X0 Qp (bT n) (.fn f a c) [.agg x.ps] H (.bool (g x)) H)(hl:l.length<=ah):aW X0 Qp (bT (n+1)) (.fn 204 [] []) [lDg l,.fn f a c] H (iA.put (afS jU g l)) H:=by
 have lp:Px n 204 0 H.length (afU f a c H l 0 []) (akF f a c H l (ni (a3V g) l 0 ())).1 (akF f a c H l (ni (a3V g) l 0 ())).2:=
  Xq (st:=fun i _=>afU f a c H l i []) jU (fun _ _=>True) (by kernel_rfl) hl QU trivial (fun k s n hk _ ih=>aO gy (.b (bF hk) (.o (aH hk) (.k (hf (l.getD k jU) (dK hk)) (.ls (.ou nofun) (.nx (ih _ trivial))))))) (fun s _=>aO gy (.b (fF l.length) (.ou nofun)))
 exact jy gy (first:=[]) (cap:=[]) (.szh (fun h=>.w (kM lp () h) .sr) (fun h=>.w (kN lp (0,jU,()) h) .sr))
theorem apz{n f:Nat}{a c:List (PV aG)}{H:List (PB aG)}{g:Dg->Bool}(l:List Dg)(hf:∀x∈l,aW X0 Qp (bT n) (.fn f a c) [.agg x.ps] H (.bool (g x)) H)(hl:l.length<=ah):aW X0 Qp (bT (n+2)) (.fn 173 [] []) [lDg l,.fn f a c] H (tA.put (l.any g)) H:=by
 rw[<-afT jU g l];have h1:=apy l hf hl;exact jy gy (first:=[]) (cap:=[]) (.k h1 .sr)
def yJ(f:List Int×List Int)(d:Dg):Bool:=if decide (d.aj=f.1)=true then decide (d.aB=f.2)else false
abbrev a7R(f:List Int×List Int):PV aG:=.fn 123 [.agg [lI f.1,lI f.2]] []
structure nI(d:Dg):Prop where
 r:Ew d
 s:d.aj.length<=ah
 o:d.aB.length<=2^20
 e:d.aI.length+1<=ah
theorem apA{n:Nat}(hO:Ok n a2f)(f:List Int×List Int)(l:List Dg)(hp:∀d∈l,nI d)(hl:l.length<=ah):aW X0 Qp (bT (n+4)) (.fn 122 [] []) [a7R f,lDg l] [] (tA.put (l.all (yJ f))) []:=by
 have hs:∀d∈l,aW X0 Qp (bT n) (a7R f) [.agg d.ps] [] (tA.put (yJ f d)) []:=fun d hd=>oN.a0f hX (first:=[.agg [lI f.1,lI f.2]]) (cap:=[]) (hO 123 [.agg [lI f.1,lI f.2],.agg d.ps] (tA.put (yJ f d)) [] [d.aj.length<=ah,d.aB.length<=ah] (by kernel_rfl) (fun p h=>by
  have h9:=hp d hd;have h8:=h9.o;rcases a1J.1 h with rfl|h
  .exact h9.s
  rw[a2D.1 h];exact h8)) rfl rfl rfl rfl
 have h1:∀d∈l,aW X0 Qp (bT (n+1)) (.fn 174 [] [.ptr 0 0 1]) [.agg d.ps] [.cells [a7R f]] (tA.put (!(yJ f d))) [.cells [a7R f]]:=fun d hd=>
  jy gy (first:=[]) (.fr [] (hs d hd) .sr)
 have h2:=apz l h1 hl;rw[<-Eu l (yJ f)];exact aW.drop hX (Dn hX gy (first:=[]) (cap:=[]) (H1:=[.cells [a7R f]]) (by kernel_rfl) (.k h2 .sr)) rfl rfl
abbrev wCk(l:List Dg)(i:Int)(x:List (Nat×PE aG)):aS aG:=⟨[(0,xL 26 l),(6,xL 26 l),(7,xi l.length),(8,xi i)]++x,[],[]⟩
abbrev cCk(l:List Dg)(k:Nat):Bool:=(uG (l.getD k jU)).2 != 0
def zCk(l:List Dg):Unit⊕Nat->Ex×aS aG
 |.inl _=>(.exit 0,wCk l l.length [(9,xl false)])
 |.inr k=>(.ret,⟨[(2,xi (uG (l.getD k jU)).2)],[(l.getD k jU).ps],[]⟩)
theorem lCk{n:Nat}(hO:Ok n a2f){l:List Dg}(hp:∀d∈l,nI d)(hl:l.length<=ah):Lp n 76 0 (wCk l 0 []) (zCk l (bG (cCk l) l.length)).1 (zCk l (bG (cCk l) l.length)).2:=by
 refine jh (st:=fun i _=>wCk l i []) (g:=gS (cCk l)) (out:=zCk l) (fun _ _=>True) (by kernel_rfl) hl trivial (fun k u m hk _ ih=>?_) (fun _ _=>?_)
 .have h9:=hp _ (dK (d:=jU) hk);unfold gS cCk;exact aO hO (.b (bF hk) (.o (aH hk) (.o h9.r (.o h9.s (.o h9.o (.o h9.e (.ls (.ou nofun) (.nx (ih _ trivial)))))))))
 exact aO hO (.b (fF l.length) (.ou nofun))
def aY(l:List Dg):Int:=if jZ (bG (cCk l) l.length)=true then(if(!(l.all (yJ ((l.getD 0 jU).aj,(l.getD 0 jU).aB))))=true then 2 else 0)else(uG (l.getD (Dq 0 (bG (cCk l) l.length)) jU)).2
def akG:fA aG:=cO 76 (a1 aiS) iA aY (fun l=>[∀d∈l,nI d,0<l.length∧l.length<=ah]) a2f
theorem apD:Gd akG:=akE.deep 4 fun n hn hO l hp=>by
 have h1:∀d∈l,nI d:=hp _ (.head _);have h2:0<l.length∧l.length<=ah:=hp _ (.tail _ (.head _));have hs:=apA (n:=n-4) (hO (n-4) (by omega)) ((l.getD 0 jU).aj,(l.getD 0 jU).aB) l h1 h2.2;rw[show n-4+4=n by omega]at hs;have i0:gJ 0 l.length:=⟨by omega,by omega⟩;have hl:=lCk (hO n (by omega)) h1 h2.2;show oN X0 Qp _ _ _ (iA.put (aY l)) _;unfold aY;exact aN (hO n (by omega)) (.zh (fun h=>.w (kM hl () h) (.o i0 (.o i0 (.fr [] hs (.ss .rr .rr))))) (fun h=>.w (kN hl 0 h) .rr))
open Go Tw Pv bZ
theorem a7S{n:Int}(h:0<=n∧n<=6):n=0∨n=1∨n=2∨n=3∨n=4∨n=5∨n=6:=by omega
theorem a7T:(0:Int)<=32:=by decide
def adH:fA aG:=cO 206 (a2 pA pA) (dQ (a2 pA pA)) (fun p=>(0,p.2)) (fun p=>[p.1=1,0<=p.2∧p.2<=6]) akG
theorem akH:Gd adH:=apD.add fun n hO p hp=>by
 obtain⟨a,b⟩:=p;have h1:a=1:=hp _ (.head _);have h2:0<=b∧b<=6:=hp _ (.tail _ (.head _));subst h1;rcases a7S h2 with rfl|rfl|rfl|rfl|rfl|rfl|rfl
 all_goals exact aN hO (.o a7T (.o a7T (.o a7T (.o a7T (.o a7T .rr)))))
def adI:fA aG:=cO 175 (a2 pA pA) (dQ (a2 pA pA)) (fun p=>(0,p.2)) (fun p=>[p.1=1,0<=p.2∧p.2<=6]) adH
theorem akI:Gd adI:=akH.add fun n hO p hp=>aN hO (.o (hp _ (.head _)) (.o (hp _ (.tail _ (.head _))) .rr))
def Il:fA aG:=cO 124 (a2 rZ iA) rZ (fun p=>List.replicate p.2.toNat (-1)) (fun p=>[p.1=[-1],0<=p.2∧p.2<=6]) adI
theorem Ya:Gd Il:=akI.add fun n hO p hp=>by
 obtain⟨a,b⟩:=p;have h1:a=[-1]:=hp _ (.head _);have h2:0<=b∧b<=6:=hp _ (.tail _ (.head _));subst h1;rcases a7S h2 with rfl|rfl|rfl|rfl|rfl|rfl|rfl
 .exact aN hO (.b (rfl:decide ((0:Int)<0)=false) (.o (rfl:(1:Int)=1) (.o (⟨by decide,by decide⟩:(0:Int)<=0∧(0:Int)<=6) (.b (rfl:decide ((0:Int)>0)=false) (.b (rfl:decide ((0:Int)>9223372036854775807)=false) (.o (rfl:(0:Int)=0) (.o (show(0:Int)<=0 by decide) (.o (show(0:Int)<=(ah:Int) by decide) (.m 8 le8 (.b (rfl:decide ((0:Int)<0)=false) .rr))))))))))
 .exact aN hO (.b (rfl:decide ((1:Int)<0)=false) (.o (rfl:(1:Int)=1) (.o (⟨by decide,by decide⟩:(0:Int)<=1∧(1:Int)<=6) (.b (rfl:decide ((0:Int)>0)=false) (.b (rfl:decide ((1:Int)>9223372036854775807)=false) (.o (rfl:(1:Int)=1) (.o (show(0:Int)<=1 by decide) (.o (show(1:Int)<=(ah:Int) by decide) (.m 8 le8 (.b (rfl:decide ((1:Int)<1)=false) .rr))))))))))
 .exact aN hO (.b (rfl:decide ((2:Int)<0)=false) (.o (rfl:(1:Int)=1) (.o (⟨by decide,by decide⟩:(0:Int)<=2∧(2:Int)<=6) (.b (rfl:decide ((0:Int)>0)=false) (.b (rfl:decide ((2:Int)>9223372036854775807)=false) (.o (rfl:(2:Int)=2) (.o (show(0:Int)<=2 by decide) (.o (show(2:Int)<=(ah:Int) by decide) (.m 8 le8 (.b (rfl:decide ((1:Int)<2)=true) (.o (show(0:Int)<=1 by decide) (.o (show(1:Int)<=2 by decide) (.o (show(2:Int)<=2 by decide) (.o (show(0:Int)<=0 by decide) (.o (show(0:Int)<=1 by decide) (.o (show(1:Int)<=2 by decide) (.b (rfl:decide ((2:Int)<2)=false) .rr)))))))))))))))))
 .exact aN hO (.b (rfl:decide ((3:Int)<0)=false) (.o (rfl:(1:Int)=1) (.o (⟨by decide,by decide⟩:(0:Int)<=3∧(3:Int)<=6) (.b (rfl:decide ((0:Int)>0)=false) (.b (rfl:decide ((3:Int)>9223372036854775807)=false) (.o (rfl:(3:Int)=3) (.o (show(0:Int)<=3 by decide) (.o (show(3:Int)<=(ah:Int) by decide) (.m 8 le8 (.b (rfl:decide ((1:Int)<3)=true) (.o (show(0:Int)<=1 by decide) (.o (show(1:Int)<=3 by decide) (.o (show(3:Int)<=3 by decide) (.o (show(0:Int)<=0 by decide) (.o (show(0:Int)<=1 by decide) (.o (show(1:Int)<=3 by decide) (.b (rfl:decide ((2:Int)<3)=true) (.o (show(0:Int)<=2 by decide) (.o (show(2:Int)<=3 by decide) (.o (show(3:Int)<=3 by decide) (.o (show(0:Int)<=0 by decide) (.o (show(0:Int)<=2 by decide) (.o (show(2:Int)<=3 by decide) (.b (rfl:decide ((3:Int)<3)=false) .rr))))))))))))))))))))))))
 .exact aN hO (.b (rfl:decide ((4:Int)<0)=false) (.o (rfl:(1:Int)=1) (.o (⟨by decide,by decide⟩:(0:Int)<=4∧(4:Int)<=6) (.b (rfl:decide ((0:Int)>0)=false) (.b (rfl:decide ((4:Int)>9223372036854775807)=false) (.o (rfl:(4:Int)=4) (.o (show(0:Int)<=4 by decide) (.o (show(4:Int)<=(ah:Int) by decide) (.m 8 le8 (.b (rfl:decide ((1:Int)<4)=true) (.o (show(0:Int)<=1 by decide) (.o (show(1:Int)<=4 by decide) (.o (show(4:Int)<=4 by decide) (.o (show(0:Int)<=0 by decide) (.o (show(0:Int)<=1 by decide) (.o (show(1:Int)<=4 by decide) (.b (rfl:decide ((2:Int)<4)=true) (.o (show(0:Int)<=2 by decide) (.o (show(2:Int)<=4 by decide) (.o (show(4:Int)<=4 by decide) (.o (show(0:Int)<=0 by decide) (.o (show(0:Int)<=2 by decide) (.o (show(2:Int)<=4 by decide) (.b (rfl:decide ((4:Int)<4)=false) .rr))))))))))))))))))))))))
 .exact aN hO (.b (rfl:decide ((5:Int)<0)=false) (.o (rfl:(1:Int)=1) (.o (⟨by decide,by decide⟩:(0:Int)<=5∧(5:Int)<=6) (.b (rfl:decide ((0:Int)>0)=false) (.b (rfl:decide ((5:Int)>9223372036854775807)=false) (.o (rfl:(5:Int)=5) (.o (show(0:Int)<=5 by decide) (.o (show(5:Int)<=(ah:Int) by decide) (.m 8 le8 (.b (rfl:decide ((1:Int)<5)=true) (.o (show(0:Int)<=1 by decide) (.o (show(1:Int)<=5 by decide) (.o (show(5:Int)<=5 by decide) (.o (show(0:Int)<=0 by decide) (.o (show(0:Int)<=1 by decide) (.o (show(1:Int)<=5 by decide) (.b (rfl:decide ((2:Int)<5)=true) (.o (show(0:Int)<=2 by decide) (.o (show(2:Int)<=5 by decide) (.o (show(5:Int)<=5 by decide) (.o (show(0:Int)<=0 by decide) (.o (show(0:Int)<=2 by decide) (.o (show(2:Int)<=5 by decide) (.b (rfl:decide ((4:Int)<5)=true) (.o (show(0:Int)<=4 by decide) (.o (show(4:Int)<=5 by decide) (.o (show(5:Int)<=5 by decide) (.o (show(0:Int)<=0 by decide) (.o (show(0:Int)<=4 by decide) (.o (show(4:Int)<=5 by decide) (.b (rfl:decide ((5:Int)<5)=false) .rr)))))))))))))))))))))))))))))))
 .exact aN hO (.b (rfl:decide ((6:Int)<0)=false) (.o (rfl:(1:Int)=1) (.o (⟨by decide,by decide⟩:(0:Int)<=6∧(6:Int)<=6) (.b (rfl:decide ((0:Int)>0)=false) (.b (rfl:decide ((6:Int)>9223372036854775807)=false) (.o (rfl:(6:Int)=6) (.o (show(0:Int)<=6 by decide) (.o (show(6:Int)<=(ah:Int) by decide) (.m 8 le8 (.b (rfl:decide ((1:Int)<6)=true) (.o (show(0:Int)<=1 by decide) (.o (show(1:Int)<=6 by decide) (.o (show(6:Int)<=6 by decide) (.o (show(0:Int)<=0 by decide) (.o (show(0:Int)<=1 by decide) (.o (show(1:Int)<=6 by decide) (.b (rfl:decide ((2:Int)<6)=true) (.o (show(0:Int)<=2 by decide) (.o (show(2:Int)<=6 by decide) (.o (show(6:Int)<=6 by decide) (.o (show(0:Int)<=0 by decide) (.o (show(0:Int)<=2 by decide) (.o (show(2:Int)<=6 by decide) (.b (rfl:decide ((4:Int)<6)=true) (.o (show(0:Int)<=4 by decide) (.o (show(4:Int)<=6 by decide) (.o (show(6:Int)<=6 by decide) (.o (show(0:Int)<=0 by decide) (.o (show(0:Int)<=4 by decide) (.o (show(4:Int)<=6 by decide) (.b (rfl:decide ((6:Int)<6)=false) .rr)))))))))))))))))))))))))))))))
open Go Tw Pv bZ
structure S3 where
 a:Int
 b:Int
 c:Int
 deriving DecidableEq
abbrev S3.ps(s:S3):List (PV aG):=[.int .i64 s.a,.int .i64 s.b,.int .i64 s.c]
def S3.get(s:S3):Nat->Int
 | 0=>s.a
 | 1=>s.b
 |_=>s.c
def S3.set(s:S3)(k:Nat)(v:Int):S3:=match k with
 | 0=>⟨v,s.b,s.c⟩
 | 1=>⟨s.a,v,s.c⟩
 |_=>⟨s.a,s.b,v⟩
structure Jb where
 s:List Int
 o:List Int
 D:List Dg
 g:List Int
abbrev Jb.ps(J:Jb)(op:PV aG):List (PV aG):=[lI J.s,lI J.o,lDg J.D,lI J.g,op]
def lq(d:Dg)(x c:Int):Bool:=if decide (x>=0)=true then((ay d x).var==c)else false
def LP(d:Dg)(x c g:Int):Int:=if lq d x c=true then(ay d x).aA.getD g.toNat 0 else x
theorem aaW{d:Dg}{x c:Int}(e:decide (x>=0)=false):lq d x c=false:=by unfold lq;rw[e];rfl
theorem a7U{d:Dg}{x c:Int}(e:decide (x>=0)=true):lq d x c=((ay d x).var==c):=by unfold lq;rw[e];rfl
abbrev lC(D:List Dg)(k:Nat):Dg:=D.getD k jU
def jX(D:List Dg)(s:S3)(c:Int):Bool:=!(jZ (bG (fun k=>lq (lC D k) (s.get k) c) D.length))
def bM(D:List Dg)(s:S3)(c g:Int):S3:=aT (fun k y=>y.set k (LP (lC D k) (y.get k) c g)) D.length 0 s
def eY(D:List Dg):S3:=aT (fun k y=>y.set k (lC D k).root) D.length 0 ⟨0,0,0⟩
theorem three{k n:Nat}(h:k<n)(hn:n<=3):k=0∨k=1∨k=2:=by omega
theorem m3{n:Nat}(h:n<=3):n<=ah:=by unfold ah;omega
section
variable {M f:Nat} {a cc:List (PV aG)} {H:List (PB aG)}
abbrev wAs(J:Jb)(op:PV aG)(H:List (PB aG))(s:S3)(c:Int)(i:Int)(x:List (Nat×PE aG)):aS aG:=⟨[(2,xi c),(4,.loc 1 0),(10,xL 26 J.D),(11,xi J.D.length),(12,xi i)]++x,[J.ps op,s.ps],H⟩
def zAs(J:Jb)(op:PV aG)(H:List (PB aG))(s:S3)(c:Int):Unit⊕Nat->Ex×aS aG
 |.inl _=>(.exit 0,wAs J op H s c J.D.length [(13,xl false)])
 |.inr k=>(.ret,⟨[(6,xl true)],[J.ps op,s.ps,(lC J.D k).ps],H⟩)
theorem lAs(J:Jb)(s:S3)(c:Int)(hD:J.D.length<=3)(hr:∀k,k<J.D.length->decide (s.get k>=0)=true->gJ (s.get k) (lC J.D k).au.length):Px M 127 0 H.length (wAs J (.fn f a cc) H s c 0 []) (zAs J (.fn f a cc) H s c (bG (fun k=>lq (lC J.D k) (s.get k) c) J.D.length)).1 (zAs J (.fn f a cc) H s c (bG (fun k=>lq (lC J.D k) (s.get k) c) J.D.length)).2:=by
 refine jh (st:=fun i _=>wAs J (.fn f a cc) H s c i []) (g:=gS (fun k=>lq (lC J.D k) (s.get k) c)) (out:=zAs J (.fn f a cc) H s c) (fun _ _=>True) (by kernel_rfl) (m3 hD) trivial (fun k u m hk _ ih=>?_) (fun _ _=>?_)
 .have h1:=hr k hk;have hg:gS (fun k=>lq (lC J.D k) (s.get k) c) k u=if lq (lC J.D k) (s.get k) c=true then .inr k else .inl u:=rfl
  cases e:decide (s.get k>=0)
  .rw[aaW e,a0o (by simp)]at hg;rw[hg];rcases three hk hD with rfl|rfl|rfl
   all_goals exact aO gy (.b (bF hk) (.o (aH hk) (.b e (.nx (ih _ trivial)))))
  rw[a7U e]at hg;rw[hg];rcases three hk hD with rfl|rfl|rfl
  all_goals exact aO gy (.b (bF hk) (.o (aH hk) (.b e (.o (h1 e) (.ls (.ou nofun) (.nx (ih _ trivial)))))))
 exact aO gy (.b (fF J.D.length) (.ou nofun))
theorem a7V(J:Jb)(s:S3)(c:Int)(hD:J.D.length<=3)(hr:∀k,k<J.D.length->decide (s.get k>=0)=true->gJ (s.get k) (lC J.D k).au.length):aW X0 Qp (bT (M+1)) (.fn 127 [] []) [.agg (J.ps (.fn f a cc)),.agg s.ps,.int .i64 c] H (.bool (jX J.D s c)) H:=by
 have lp:=lAs (M:=M) (f:=f) (a:=a) (cc:=cc) (H:=H) J s c hD hr;unfold jX;cases h:jZ (bG (fun k=>lq (lC J.D k) (s.get k) c) J.D.length)
 .exact fV gy (first:=[]) (cap:=[]) (.w (kN lp 0 h) .er)
 exact fV gy (first:=[]) (cap:=[]) (.w (kM lp () h) .er)
abbrev wAf(J:Jb)(op:PV aG)(H:List (PB aG))(s:S3)(c g:Int)(i:Int)(x:List (Nat×PE aG)):aS aG:=⟨[(2,xi c),(3,xi g),(5,.loc 1 0),(8,.loc 2 0),(12,xL 26 J.D),(13,xi J.D.length),(14,xi i)]++x,[J.ps op,s.ps,[.int .i64 0,.int .i64 0,.int .i64 0]],H⟩
structure a2g(d:Dg)(x c g:Int):Prop where
 n:decide (x>=0)=true->gJ x d.au.length
 k:lq d x c=true->gJ g (ay d x).aA.length
theorem JC(J:Jb)(s:S3)(c g:Int)(hD:J.D.length<=3)(hr:∀k,k<J.D.length->a2g (lC J.D k) (s.get k) c g):aW X0 Qp (bT (M+1)) (.fn 129 [] []) [.agg (J.ps (.fn f a cc)),.agg s.ps,.int .i64 c,.int .i64 g] H (.agg (bM J.D s c g).ps) H:=by
 have lp:Px M 129 0 H.length (wAf J (.fn f a cc) H s c g 0 []) (.exit 0) (wAf J (.fn f a cc) H (bM J.D s c g) c g J.D.length [(15,xl false)]):=by
  refine yH (σ:=S3) (N:=J.D.length) (g:=fun k y=>y.set k (LP (lC J.D k) (y.get k) c g)) (s0:=s) (st:=fun i y=>wAf J (.fn f a cc) H y c g i []) (fin:=fun y=>wAf J (.fn f a cc) H y c g J.D.length [(15,xl false)]) (fun j y=>∀k,j<=k->k<J.D.length->y.get k=s.get k) (by kernel_rfl) (m3 hD) (fun _ _ _=>rfl) (fun j y hj hy=>?_) (fun j y hj hy m e p g9=>?_) (fun y _=>?_)
  .intro k hk kT;rw[<-hy k (by omega) kT];rcases three kT hD with rfl|rfl|rfl<;>rcases three hj hD with rfl|rfl|rfl<;>first|rfl|omega
  .have h1:=hr j hj;rw[<-hy j (a0x _) hj]at h1;obtain⟨h1,h2⟩:=h1;unfold LP at g9;rcases three hj hD with rfl|rfl|rfl
   all_goals
    cases e1:decide (y.get _>=0)
    .unfold lq at g9;rw[e1]at g9;exact aO gy (.b (bF hj) (.o (aH hj) (.b e1 (.go g9))))
    .have h3:=h1 e1;cases e2:(ay (lC J.D _) (y.get _)).var==c
     .unfold lq at g9;rw[e1,a0u rfl,e2]at g9;exact aO gy (.b (bF hj) (.o (aH hj) (.b e1 (.o h3 (.b e2 (.go g9))))))
     .unfold lq at g9 h2;rw[e1,a0u rfl,e2]at g9 h2;exact aO gy (.b (bF hj) (.o (aH hj) (.b e1 (.o h3 (.b e2 (.o h3 (.o (h2 rfl) (.go g9))))))))
  exact aO gy (.b (fF J.D.length) .ex)
 exact fV gy (first:=[]) (cap:=[]) (.w lp .er)
abbrev wSt(J:Jb)(op:PV aG)(H:List (PB aG))(s:S3)(i:Int)(x:List (Nat×PE aG)):aS aG:=⟨[(2,.loc 1 0),(6,xL 26 J.D),(7,xi J.D.length),(8,xi i)]++x,[J.ps op,s.ps],H⟩
theorem a0h(J:Jb)(hD:J.D.length<=3):aW X0 Qp (bT (M+1)) (.fn 130 [] []) [.agg (J.ps (.fn f a cc))] H (.agg (eY J.D).ps) H:=by
 have lp:Px M 130 0 H.length (wSt J (.fn f a cc) H ⟨0,0,0⟩ 0 []) (.exit 0) (wSt J (.fn f a cc) H (eY J.D) J.D.length [(9,xl false)]):=by
  refine yH (σ:=S3) (N:=J.D.length) (g:=fun k y=>y.set k (lC J.D k).root) (s0:=⟨0,0,0⟩) (st:=fun i y=>wSt J (.fn f a cc) H y i []) (fin:=fun y=>wSt J (.fn f a cc) H y J.D.length [(9,xl false)]) (fun _ _=>True) (by kernel_rfl) (m3 hD) trivial (fun _ _ _ _=>trivial) (fun j y hj _ m e p g9=>?_) (fun y _=>?_)
  .rcases three hj hD with rfl|rfl|rfl
   all_goals exact aO gy (.b (bF hj) (.o (aH hj) (.go g9)))
  exact aO gy (.b (fF J.D.length) .ex)
 exact fV gy (first:=[]) (cap:=[]) (.w lp .er)
end
end Go.Proofs.YtmobpoiejckagaaGreat
namespace Pv
open Go Tw
section
variable {X:l7} {P:Program}
theorem aW.fzR(hX:bP X P){call:bf}{fv:PV X.Γ}{xs:List (PV X.Γ)}{H H1:List (PB X.Γ)}{v v':PV X.Γ}(hs:aW X P call fv xs H v H1)(is:List Nat)(hv:views H1 [v]=some [v'])(ho:∀i,i∈lu.kH [v]->i∈is):aW X P call fv xs H v' (aZ is H1):=by
 intro A m h tf sJ hr hf hx;obtain⟨w,h',ws,m1,k1,k2,k3,k4,k5,k6⟩:=hs A m h tf sJ hr hf hx;have hF:=iE (h:=h') is m1;have w1:=(lQ (m':=bW is m1) hX k2 (.cons k3 .nil) hv ho).mono fun b hb=>FA.gone k2 hb;obtain⟨x,r,e,h1,_⟩:=w1.inv;cases e;exact⟨w,h',ws,bW is m1,k1,k2.aZ is,h1,k4.trans hF.1,k5.trans hF.2,k6⟩
end
end Pv
namespace Go.Proofs.YtmobpoiejckagaaGreat
open Go Tw Pv bZ
def aU(D:List Dg)(s:S3):List V:=(List.range D.length).map fun k=>qp (lC D k) (s.get k)
def gCe(D:List Dg)(s:S3)(k:Nat)(l:List V):List V:=l++[qp (lC D k) (s.get k)]
theorem a7W(D:List Dg)(s:S3):aT (gCe D s) D.length 0 []=aU D s:=by
 have:=dw (g:=gCe D s) (m:=D.length) (k:=0) (s:=[]) (fun k l=>l=(List.range k).map fun k=>qp (lC D k) (s.get k)) rfl (fun j l _ _ e=>by rw[gCe,e,adK,a4C];rfl);rw[a3H]at this;exact this
abbrev wCe(J:Jb)(op:PV aG)(H:List (PB aG))(s:S3)(l:List V)(i:Int)(x:List (Nat×PE aG)):aS aG:=⟨[(3,.loc 1 0),(4,.val (.own H.length)),(8,xL 26 J.D),(9,xi J.D.length),(10,xi i)]++x,[J.ps op,s.ps],H++[.list false false 39 l]⟩
theorem a2h{M f:Nat}(J:Jb)(s:S3)(hD:J.D.length<=3)(hr:∀k,k<J.D.length->gJ (jL (s.get k)) (lC J.D k).aI.length):aW X0 Qp (bT (M+1)) (.fn 128 [] []) [.agg (J.ps (.fn f [] [])),.agg s.ps] [] (lV (aU J.D s)) []:=by
 have lp:Px M 128 0 0 (wCe J (.fn f [] []) [] s [] 0 []) (.exit 0) (wCe J (.fn f [] []) [] s (aU J.D s) J.D.length [(11,xl false)]):=by
  rw[<-a7W J.D s];refine yH (σ:=List V) (N:=J.D.length) (g:=gCe J.D s) (s0:=[]) (st:=fun i l=>wCe J (.fn f [] []) [] s l i []) (fin:=fun l=>wCe J (.fn f [] []) [] s l J.D.length [(11,xl false)]) (fun k l=>l.length=k) (by kernel_rfl) (m3 hD) rfl (fun j y hj hy=>by simp[gCe,hy]) (fun j y hj hy m e p g9=>?_) (fun y _=>?_)
  .have h1:=hr j hj;have h2:y.length+[qp (lC J.D j) (s.get j)].length<=ah:=by rw[hy,a3J];exact m3 (by omega)
   rcases three hj hD with rfl|rfl|rfl
   all_goals exact aO gy (.b (bF hj) (.o (aH hj) (.o h1 (.o h2 (.goG [.gc [2]] g9)))))
  exact aO gy (.b (fF J.D.length) .ex)
 have h0:aW X0 Qp (bT (M+1)) (.fn 128 [] []) [.agg (J.ps (.fn f [] [])),.agg s.ps] [] (.own 0) ([]++[.list false false 39 (aU J.D s)]):=fV gy (first:=[]) (cap:=[]) (.wG [.Jc 4 39] lp .er);exact aW.cut hX (aW.fzR hX h0 [0] (v':=lV (aU J.D s)) rfl (by decide)) rfl rfl rfl rfl
theorem aaX{M f:Nat}{u:Int}(J:Jb)(s:S3)(hD:J.D.length<=3)(hr:∀k,k<J.D.length->gJ (jL (s.get k)) (lC J.D k).aI.length):aW X0 Qp (bT (M+1)) (.fn 128 [] []) [.agg (J.ps (.fn f [] [.ptr 0 0 1])),.agg s.ps] [.aF [.int .u8 u]] (lV (aU J.D s)) [.aF [.int .u8 u]]:=by
 have lp:Px M 128 0 1 (wCe J (.fn f [] [.ptr 0 0 1]) [.aF [.int .u8 u]] s [] 0 []) (.exit 0) (wCe J (.fn f [] [.ptr 0 0 1]) [.aF [.int .u8 u]] s (aU J.D s) J.D.length [(11,xl false)]):=by
  rw[<-a7W J.D s];refine yH (σ:=List V) (N:=J.D.length) (g:=gCe J.D s) (s0:=[]) (st:=fun i l=>wCe J (.fn f [] [.ptr 0 0 1]) [.aF [.int .u8 u]] s l i []) (fin:=fun l=>wCe J (.fn f [] [.ptr 0 0 1]) [.aF [.int .u8 u]] s l J.D.length [(11,xl false)]) (fun k l=>l.length=k) (by kernel_rfl) (m3 hD) rfl (fun j y hj hy=>by simp[gCe,hy]) (fun j y hj hy m e p g9=>?_) (fun y _=>?_)
  .have h1:=hr j hj;have h2:y.length+[qp (lC J.D j) (s.get j)].length<=ah:=by rw[hy,a3J];exact m3 (by omega)
   rcases three hj hD with rfl|rfl|rfl
   all_goals exact aO gy (.b (bF hj) (.o (aH hj) (.o h1 (.o h2 (.goG [.gc [3]] g9)))))
  exact aO gy (.b (fF J.D.length) .ex)
 have h0:aW X0 Qp (bT (M+1)) (.fn 128 [] []) [.agg (J.ps (.fn f [] [.ptr 0 0 1])),.agg s.ps] [.aF [.int .u8 u]] (.own 1) ([.aF [.int .u8 u]]++[.list false false 39 (aU J.D s)]):=fV gy (first:=[]) (cap:=[]) (.wG [.Jc 4 39] lp .er);exact aW.cut hX (aW.fzR hX h0 [1] (v':=lV (aU J.D s)) rfl (by decide)) rfl rfl rfl rfl
open Go Tw Pv bZ
def S3.l(s:S3):List Int:=[s.a,s.b,s.c]
theorem uSt:Tryz.prog.underlying 148=some (.array 3 3):=by kernel_rfl
theorem akJ(a b:S3):aC Qp (Op.equal 148 (.agg (DN .i64 a.l)) (.agg (DN .i64 b.l)))=some (decide (a=b)):=by
 have:=BP (P:=Qp) 9998 (k:=.i64) (l:=a.l) (l':=b.l) uSt (by kernel_rfl) a3E (by kernel_rfl) rfl rfl;refine Eq.trans this ?_;obtain⟨a1,a2,a3⟩:=a;obtain⟨b1,b2,b3⟩:=b;simp[S3.l]
def kS:pJ X0 Qp 148 S3 where
 pv x:=.agg x.ps
 tv x:=.agg [.int .i64 x.a,.int .i64 x.b,.int .i64 x.c]
 v x:=.agg (DN .i64 x.l)
 hp _:=rfl
 ht _:=rfl
 hc em x:=by kernel_rfl
 hf x l:=afC uSt akJ x l
 hk:=afD uSt akJ
structure Mk where
 e:List V
 n:List Br
 k:List (S3×Int)
def Vr(D:List Dg)(f:S3->Mk->Int×Mk)(s:S3)(c:Int)(j:Nat)(y:List Int×Mk):List Int×Mk:=(y.1++[(f (bM D s c j) y.2).1],(f (bM D s c j) y.2).2)
def knS(k:List (S3×Int))(s:S3):Int:=((k.find? fun e=>decide (e.1=s)).map (·.2)).getD 0
def jE(J:Jb)(op:List V->V):List Int->S3->Mk->Int×Mk
 | [],s,x=>(i64.wrap (0-((x.e++[op (aU J.D s)]).length:Int)),{ x with e:=x.e++[op (aU J.D s)] })
 |c::r,s,x=>if jX J.D s c=true then(if decide (J.g.getD c.toNat 0>=0)=true then jE J op r (bM J.D s c (J.g.getD c.toNat 0)) x
   else if s∈x.k.map (·.1)then(knS x.k s,x)
   else
    let y:=aT (Vr J.D (jE J op r) s c) (J.s.getD c.toNat 0).toNat 0 ([],x)
    ((y.2.n.length:Int),⟨y.2.e,y.2.n++[⟨c,y.1⟩],y.2.k++[(s,(y.2.n.length:Int))]⟩))
  else jE J op r s x
abbrev Io(k:List (S3×Int)):List (PV aG×PV aG):=kS.es (k.map fun e=>(e.1,.int .i64 e.2))
abbrev pM:List (PV aG):=[.ptr 2 0 5,.ptr 1 0 5,.ptr 3 0 1,.ptr 4 0 1]
abbrev HM0(J:Jb)(f:Nat)(x:Mk):List (PB aG):=[.map (Io x.k),.cells [lI J.s,lI J.o,.own 5,.own 6,.int .i64 0],.aF (J.ps (.fn f [] [])),.aF [.fn 126 [] pM],.aF [.map 0],Qz x.e,QA x.n]
abbrev aaY(J:Jb)(f:Nat)(x:Mk):List (PB aG):=[.map (Io x.k),.cells [lI J.s,lI J.o,.own 7,.own 8,.int .i64 0],.aF (J.ps (.fn f [] [])),.aF [.fn 126 [] pM],.aF [.map 0],.gone,.gone,Qz x.e,QA x.n]
abbrev HM1(J:Jb)(f:Nat)(u:Int)(x:Mk):List (PB aG):=[.map (Io x.k),.cells [lI J.s,lI J.o,.own 6,.own 7,.int .i64 0],.aF (J.ps (.fn f [] [.ptr 5 0 1])),.aF [.fn 126 [] pM],.aF [.map 0],.aF [.int .u8 u],Qz x.e,QA x.n]
abbrev aaZ(J:Jb)(f:Nat)(u:Int)(x:Mk):List (PB aG):=[.map (Io x.k),.cells [lI J.s,lI J.o,.own 8,.own 9,.int .i64 0],.aF (J.ps (.fn f [] [.ptr 5 0 1])),.aF [.fn 126 [] pM],.aF [.map 0],.aF [.int .u8 u],.gone,.gone,Qz x.e,QA x.n]
open Go Tw Pv bZ
theorem S3.jG{s:S3}{i k:Nat}{v:Int}(hi:i<3)(hk:k<3):(s.set i v).get k=if k=i then v else s.get k:=by
 match i,k,hi,hk with
 | 0,0,_,_=>rfl
 | 0,1,_,_=>rfl
 | 0,2,_,_=>rfl
 | 1,0,_,_=>rfl
 | 1,1,_,_=>rfl
 | 1,2,_,_=>rfl
 | 2,0,_,_=>rfl
 | 2,1,_,_=>rfl
 | 2,2,_,_=>rfl
 |i+3,_,h,_=>omega
 |_,k+3,_,h=>omega
theorem JD{D:List Dg}(hD:D.length<=3)(t:S3)(c g:Int){k:Nat}(hk:k<D.length):(bM D t c g).get k=LP (lC D k) (t.get k) c g:=by
 have:=dw (g:=fun k (y:S3)=>y.set k (LP (lC D k) (y.get k) c g)) (m:=D.length) (k:=0) (s:=t) (fun j y=>∀k,k<D.length->y.get k=if k<j then LP (lC D k) (t.get k) c g else t.get k) (fun k _=>by rw[a0o (by omega)]) (fun j y _ hj hy k hk=>by
  rw[S3.jG (by omega) (by omega)];by_cases e:k=j
  .subst e;rw[a0u rfl,a0u (by omega),hy k hk,a0o (by omega)]
  rw[a0o e,hy k hk];by_cases e2:k<j
  .rw[a0u e2,a0u (by omega)]
  rw[a0o e2,a0o (by omega)])
 have h:=this k hk;rw[a0u (by omega)]at h;exact h
theorem DU{D:List Dg}{t:S3}{c:Int}:jX D t c=true↔∃k,k<D.length∧lq (lC D k) (t.get k) c=true:=by
 unfold jX;constructor
 .intro h;refine acf fun h2=>?_;have:jZ (bG (fun k=>lq (lC D k) (t.get k) c) D.length)=true:=dI.2 fun k hk=>by
   cases e:lq (lC D k) (t.get k) c
   .rfl
   exact absurd ⟨k,hk,e⟩ h2
  rw[this]at h;cases h
 rintro⟨k,hk,h⟩;cases e:jZ (bG (fun k=>lq (lC D k) (t.get k) c) D.length)
 .rfl
 have:=dI.1 e k hk;rw[h]at this;cases this
theorem EC{d:Dg}{x c:Int}:lq d x c=true↔0<=x∧(ay d x).var=c:=by
 unfold lq;split
 .rename_i h;simp at h;simp[h]
 rename_i h;simp at h;simp;omega
structure DJ(J:Jb)(d:Dg):Prop where
 t:C9 d
 n:d.au.length<=6000
 s:d.aj=J.s
 o:d.aB=J.o
 rk:∀i,i<d.au.length->∀k,k<(fB d i).aA.length->d.aB.idxOf (fB d i).var+1<=EP d.aB d.au ((fB d i).aA.getD k 0)
 two:∀i,i<d.au.length->2<=(fB d i).aA.length
structure jq(J:Jb):Prop where
 d3:J.D.length<=3
 bU:vC J.s
 ord:kD J.s.length J.o=true
 dg:∀k,k<J.D.length->DJ J (lC J.D k)
 gl:J.g.length=J.s.length
 gv:∀c,gJ c J.s.length->0<=J.g.getD c.toNat 0->J.g.getD c.toNat 0<J.s.getD c.toNat 0
def Dp(J:Jb)(a:Nat)(t:S3):Prop:=∀k,k<J.D.length->jD (lC J.D k) (t.get k) (lC J.D k).au.length∧a<=EP J.o (lC J.D k).au (t.get k)
theorem Dp.le{J:Jb}{a b:Nat}{t:S3}(h:Dp J a t)(hb:b<=a):Dp J b t:=fun k hk=>⟨(h k hk).1,by have:=(h k hk).2;omega⟩
section
variable {J:Jb} (hJ:jq J) {a:Nat} {t:S3} {c:Int} {r:List Int}
include hJ
theorem jq.o2:J.o.Nodup∧J.o.length=J.s.length∧∀c∈J.o,gJ c J.s.length:=by
 have ho:=hJ.ord;unfold kD at ho;rw[a0N]at ho;exact⟨ho.2.2,ho.1,fun c hc=>⟨(ho.2.1 c hc).1,(ho.2.1 c hc).2⟩⟩
theorem jq.at_(hr:J.o.drop a=c::r):a<J.o.length∧J.o.getD a 0=c∧J.o.drop (a+1)=r∧c∈J.o∧J.o.idxOf c=a∧gJ c J.s.length:=by
 have aQ:a<J.o.length:=by
  have:=congrArg List.length hr;rw[a3C,a4v]at this;omega
 have hd:=a6p aQ;rw[hr]at hd;obtain⟨hc,wU⟩:=List.cons.inj hd;have G6:c∈J.o:=by rw[hc];exact a4Q aQ
 obtain⟨h1,h2,h3⟩:=jq.o2 hJ;exact⟨aQ,by rw[hc];simp[List.getD,a0b aQ],wU.symm,G6,by rw[hc];exact h1.idxOf_getElem a aQ,h3 c G6⟩
theorem a0i(hr:J.o.drop a=c::r)(h:jX J.D t c=true):¬Dp J (a+1) t:=fun hd=>by
 obtain⟨k,hk,h1⟩:=DU.1 h;obtain⟨x0,hv⟩:=EC.1 h1;have:=(hd k hk).2;unfold EP at this;rw[a0o (by omega)]at this;have e:((lC J.D k).au.getD (t.get k).toNat kW).var=c:=hv;rw[e,(jq.at_ hJ hr).2.2.2.2.1]at this;omega
theorem a2i(hr:J.o.drop a=c::r)(hd:Dp J a t){k:Nat}(hk:k<J.D.length)(hn:lq (lC J.D k) (t.get k) c=false):a+1<=EP J.o (lC J.D k).au (t.get k):=by
 have h1:=(hd k hk).2;have h2:=jq.at_ hJ hr;by_cases x0:t.get k<0
 .unfold EP;rw[a0u x0];omega
 have iI:((lC J.D k).au.getD (t.get k).toNat kW).var≠c:=fun e=>by
  have:lq (lC J.D k) (t.get k) c=true:=EC.2 ⟨by omega,e⟩;rw[hn]at this;cases this
 unfold EP at h1 ⊢;rw[a0o x0]at h1 ⊢;rcases a4E a (J.o.idxOf ((lC J.D k).au.getD (t.get k).toNat kW).var)with h3|h3
 .exact h3
 exfalso;have e:J.o.idxOf ((lC J.D k).au.getD (t.get k).toNat kW).var=a:=by omega
 have aQ:J.o.idxOf ((lC J.D k).au.getD (t.get k).toNat kW).var<J.o.length:=by rw[e];exact h2.1
 have g:J.o.getD (J.o.idxOf ((lC J.D k).au.getD (t.get k).toNat kW).var) 0=((lC J.D k).au.getD (t.get k).toNat kW).var:=by
  rw[List.getD,a0b aQ,a5i];exact a8N aQ
 rw[e,h2.2.1]at g;exact iI g.symm
theorem Vt(hr:J.o.drop a=c::r)(hd:Dp J a t)(h:jX J.D t c=false):Dp J (a+1) t:=fun k hk=>by
 refine⟨(hd k hk).1,a2i hJ hr hd hk ?_⟩;cases e:lq (lC J.D k) (t.get k) c
 .rfl
 .have:=DU.2 ⟨k,hk,e⟩;rw[h]at this;cases this
theorem Ip(hd:Dp J a t){k:Nat}(hk:k<J.D.length)(h:lq (lC J.D k) (t.get k) c=true):gJ (t.get k) (lC J.D k).au.length∧(ay (lC J.D k) (t.get k)).var=c∧((ay (lC J.D k) (t.get k)).aA.length:Int)=J.s.getD c.toNat 0:=by
 obtain⟨x0,hv⟩:=EC.1 h;have hr:gJ (t.get k) (lC J.D k).au.length:=⟨x0,(hd k hk).1.1⟩;have hdj:=hJ.dg k hk;have:=hdj.t.ksz (t.get k).toNat (by have:=hr.2;omega);refine⟨hr,hv,?_⟩;have e:(ay (lC J.D k) (t.get k))=fB (lC J.D k) (t.get k).toNat:=rfl;rw[e,this,<-e,hv,hdj.s]
theorem nJ(hr:J.o.drop a=c::r)(hd:Dp J a t){j:Int}(hj:0<=j∧j<J.s.getD c.toNat 0):Dp J (a+1) (bM J.D t c j):=fun k hk=>by
 rw[JD hJ.d3 t c j hk];unfold LP;split
 .rename_i h;obtain⟨h1,h2,h3⟩:=Ip hJ hd hk h;have hdj:=hJ.dg k hk;have aQ:(t.get k).toNat<(lC J.D k).au.length:=by have:=h1.1;have:=h1.2;omega
  have KA:j.toNat<(fB (lC J.D k) (t.get k).toNat).aA.length:=by
   have h3:((fB (lC J.D k) (t.get k).toNat).aA.length:Int)=J.s.getD c.toNat 0:=h3;omega
  have g1:=hdj.t.zN (t.get k).toNat aQ j.toNat KA;have g2:=hdj.rk (t.get k).toNat aQ j.toNat KA;refine⟨⟨by have:=g1.1;show(fB (lC J.D k) (t.get k).toNat).aA.getD j.toNat 0<_;omega,g1.2⟩,?_⟩;have e:(fB (lC J.D k) (t.get k).toNat).var=c:=h2;rw[hdj.o,e,(jq.at_ hJ hr).2.2.2.2.1]at g2;exact g2
 .rename_i h;exact⟨(hd k hk).1,a2i hJ hr hd hk (by simpa using h)⟩
theorem JE(hd:Dp J a t){j:Int}(hj:0<=j∧j<J.s.getD c.toNat 0){k:Nat}(hk:k<J.D.length):a2g (lC J.D k) (t.get k) c j:=by
 refine⟨fun h=>⟨by simpa using h,(hd k hk).1.1⟩,fun h=>?_⟩;have:=(Ip hJ hd hk h).2.2;exact⟨hj.1,by rw[this];exact hj.2⟩
theorem Vu(hr:J.o.drop a=c::r)(hd:Dp J a t)(h:jX J.D t c=true):2<=(J.s.getD c.toNat 0).toNat:=by
 obtain⟨k,hk,h1⟩:=DU.1 h;obtain⟨h2,h3,h4⟩:=Ip hJ hd hk h1;have:=(hJ.dg k hk).two (t.get k).toNat (by have:=h2.1;have:=h2.2;omega);have h4:((fB (lC J.D k) (t.get k).toNat).aA.length:Int)=J.s.getD c.toNat 0:=h4;omega
theorem JF(hd:Dp J J.o.length t){k:Nat}(hk:k<J.D.length):t.get k<0∧gJ (jL (t.get k)) (lC J.D k).aI.length:=by
 have h1:=hd k hk;have:t.get k<0:=by
  refine acf fun h=>?_;have h2:=h1.2;unfold EP at h2;rw[a0o h]at h2;have hdj:=hJ.dg k hk;have aQ:(t.get k).toNat<(lC J.D k).au.length:=by have:=h1.1.1;omega
  have hv:=hdj.t.var (t.get k).toNat aQ;rw[hdj.s]at hv;have:=a4S.2 (mF hJ.ord hv);have e:(fB (lC J.D k) (t.get k).toNat).var=((lC J.D k).au.getD (t.get k).toNat kW).var:=rfl;rw[e]at this;omega
 exact⟨this,h1.1.2 this⟩
end
open Go Tw Pv bZ
def ov(g q:List Int):List Int:=List.zipWith (fun a b=>if 0<=a then a else b) g q
theorem JG{g q:List Int}{k:Nat}(h:g.length=q.length):(ov g q).getD k 0=if k<g.length then(if 0<=g.getD k 0 then g.getD k 0 else q.getD k 0)else 0:=by
 unfold ov;by_cases hk:k<g.length
 .rw[a0u hk];simp[List.getD,List.getElem?_zipWith,a0b hk,a0b (show k<q.length by omega)]
 rw[a0o hk];simp[List.getD,List.getElem?_zipWith,a4B (show g.length<=k by omega)]
def a7Z(J:Jb)(op:List V->V)(q:List Int)(t:S3)(v:V):Prop:=∃l:List V,l.length=J.D.length∧(∀k,k<J.D.length->To (lC J.D k) (ov J.g q) (t.get k) (l.getD k V0))∧v=op l
def Sem(J:Jb)(op:List V->V)(v:Int)(t:S3)(x:EN):Prop:=∀Z:Dg,Z.aI.length<2^61->x.1 <+: Z.aI->x.2 <+: Z.au->∀q,jK J.s q=true->∃u,To Z q v u∧a7Z J op q t u
theorem Sem.mono{J:Jb}{op:List V->V}{v:Int}{t:S3}{x y:EN}(h:Sem J op v t x)(hp:Q5 x y):Sem J op v t y:=fun Z hZ h1 h2=>h Z hZ (hp.1.trans h1) (hp.2.trans h2)
abbrev Mk.en(x:Mk):EN:=(x.e,x.n)
def Ci(v:V):Prop:=vOk v=true∧0<=v.f
structure XOk(J:Jb)(op:List V->V)(x:Mk):Prop where
 v:PtV J.s J.o x.en
 k:∀e∈x.k,gJ e.2 x.n.length∧jX J.D e.1 (x.n.getD e.2.toNat kW).var=true∧Sem J op e.2 e.1 x.en
 nd:(x.k.map (·.1)).Nodup
 e:∀v∈x.e,Ci v
 w:∀b∈x.n,∀v∈b.aA,G9 v
structure a3W(J:Jb)(op:List V->V)(a:Nat)(w:Nat)(t:S3)(x:Mk)(z:Int×Mk):Prop where
 pre:Q5 x.en z.2.en
 el:z.2.e.length<=x.e.length+w
 nl:z.2.n.length+1<=x.n.length+w
 ok:XOk J op z.2
 rf:Ce J.o z.2.en z.1 z.2.n.length a
 sm:Sem J op z.1 t z.2.en
 ks:∀e∈z.2.k,e∈x.k∨Dp J a e.1
 w:G9 z.1
theorem XOk.mono{J:Jb}{op:List V->V}{x:Mk}{e:List V}(h:XOk J op x)(hp:x.e <+: e)(he:∀v∈e,Ci v):XOk J op { x with e:=e }:=by
 have hq:Q5 x.en (e,x.n):=⟨hp,a4P⟩;exact⟨⟨h.v.var,h.v.ksz,fun i hi k hk=>(h.v.zN i hi k hk).mono hq (a0x _) (a9n hi) (a0x _)⟩,fun e he=>⟨(h.k e he).1,(h.k e he).2.1,(h.k e he).2.2.mono hq⟩,h.nd,he,h.w⟩
theorem Qe{J:Jb}(hJ:jq J){op:List V->V}{q:List Int}{t:S3}{a:Nat}(hd:Dp J a t){c j:Int}{u:V}(hj:(ov J.g q).getD c.toNat 0=j)(h:a7Z J op q (bM J.D t c j) u):a7Z J op q t u:=by
 obtain⟨l,h1,h2,h3⟩:=h;refine⟨l,h1,fun k hk=>?_,h3⟩;have h4:=h2 k hk;rw[JD hJ.d3 t c j hk]at h4;unfold LP at h4;split at h4
 .rename_i h5;obtain⟨h6,h7,_⟩:=Ip hJ hd hk h5;refine .step h6.1 ?_;rw[h7,hj];exact h4
 exact h4
def oL(J:Jb)(op:List V->V):Prop:=∀t,Dp J J.o.length t->Ci (op (aU J.D t))
theorem ab1{J:Jb}(hJ:jq J)(op:List V->V)(jr:oL J op){t:S3}{x:Mk}(hd:Dp J J.o.length t)(hx:XOk J op x)(hb:x.e.length+1<=2^60):a3W J op J.o.length 1 t x (jE J op [] t x):=by
 have e0:i64.wrap (0-((x.e++[op (aU J.D t)]).length:Int))=-1-(x.e.length:Int):=by
  rw[a1t,a3J,fJ (by omega) (by omega)];omega
 obtain⟨_,e2⟩:=Q8 (k:=x.e.length) (by omega);have hp:x.e <+: x.e++[op (aU J.D t)]:=a8O _ _;show a3W J op J.o.length 1 t x (i64.wrap (0-((x.e++[op (aU J.D t)]).length:Int)),_);rw[e0];refine⟨⟨hp,a4P⟩,by simp,a0x _,hx.mono hp (fun v hv=>by rcases a2L.1 hv with hv|hv;exact hx.e v hv;rw[a2D.1 hv];exact jr t hd),⟨fun _=>?_,?_,?_⟩,fun Z hZ g1 g2 q hq=>?_,fun e he=>.inl he,⟨by show _<=-1-(x.e.length:Int);omega,by show -1-(x.e.length:Int)<_;omega⟩⟩
 .rw[e2];exact⟨by omega,by simp;omega⟩
 .show -1-(x.e.length:Int)<_;omega
 .unfold EP;rw[a0u (by show -1-(x.e.length:Int)<0;omega)];exact a0x _
 have h1:=To.fin (d:=Z) (q:=q) (r:=-1-(x.e.length:Int)) (by omega);rw[e2,a4Z]at h1;have g1:x.e++[op (aU J.D t)] <+: Z.aI:=g1;have e3:Z.aI.getD x.e.length V0=op (aU J.D t):=by
  rw[zS g1 (by simp)];simp[List.getD]
 rw[e3]at h1;refine⟨_,h1,aU J.D t,by simp[aU],fun k hk=>?_,rfl⟩;have h2:=JF hJ hd hk;have e4:(aU J.D t).getD k V0=qp (lC J.D k) (t.get k):=by simp[aU,List.getD,hk]
 rw[e4];exact .fin h2.1
theorem DV{α:Type}{l:List α}{a:α}(h:l.Nodup)(ha:a∉l):(l++[a]).Nodup:=by
 rw[a99];exact⟨h,by simp,fun x hx y hy e=>by simp at hy;subst hy;subst e;exact ha hx⟩
theorem JH{α:Type}{l:List α}{x d:α}{j:Nat}:(l++[x]).getD j d=if j<l.length then l.getD j d else if j=l.length then x else d:=by
 split
 .rename_i h;simp[List.getD,a0g h]
 rename_i h;split
 .rename_i h2;subst h2;simp[List.getD]
 rename_i h2;rw[List.getD,a4B (by simp;omega)];rfl
theorem TN{J:Jb}(hJ:jq J)(op:List V->V)(jr:oL J op):∀(r:List Int) (a:Nat) (t:S3) (x:Mk),J.o.drop a=r->a<=J.o.length->Dp J a t->XOk J op x->x.e.length+wO J.s r<=2^60->x.n.length+wO J.s r<=2^60->a3W J op a (wO J.s r) t x (jE J op r t x)
 | [],a,t,x,hr,ha,hd,hx,hb,yw=>by
  have:a=J.o.length:=by
   have:=congrArg List.length hr;rw[a3C,a5j]at this;omega
  subst this;exact ab1 hJ op jr hd hx hb
 |c::r,a,t,x,hr,ha,hd,hx,hb,yw=>by
  obtain⟨aQ,hoc,wU,G6,hci,qI⟩:=jq.at_ hJ hr;have hz:=hJ.bU.sz _ (dB (s:=J.s) (k:=c.toNat) (by have:=qI.1;have:=qI.2;omega));have hri:∀c'∈r,gJ c' J.s.length:=fun c' h=>(jq.o2 hJ).2.2 c' (by rw[<-wU]at h;exact a5q h);have hw:=Vp hJ.bU.sz hri;have hw1:wO J.s r<=(J.s.getD c.toNat 0).toNat*wO J.s r:=adU _ (by omega);simp only[wO]at hb yw ⊢;have up:∀{t':S3} {z:Int×Mk},a3W J op (a+1) (wO J.s r) t' x z->(∀q u,jK J.s q=true->a7Z J op q t' u->a7Z J op q t u)->a3W J op a ((J.s.getD c.toNat 0).toNat*wO J.s r) t x z:=fun{t' z} h hs=>
   ⟨h.pre,by have:=h.el;omega,by have:=h.nl;omega,h.ok,h.rf.mono Q5.rfl (a0x _) (a0x _) (by omega),fun Z hZ g1 g2 q hq=>let ⟨u,u1,u2⟩:=h.sm Z hZ g1 g2 q hq;⟨u,u1,hs q u hq u2⟩,fun e he=>(h.ks e he).imp id fun h=>h.le (by omega),h.w⟩
  unfold jE;cases Bo:jX J.D t c
  .rw[a0o (by simp)];exact up (TN hJ op jr r (a+1) t x wU aQ (Vt hJ hr hd Bo) hx (by omega) (by omega)) fun _ _ _ h=>h
  rw[a0u rfl];by_cases hg:J.g.getD c.toNat 0>=0
  .rw[a0u (by simpa using hg)];refine up (TN hJ op jr r (a+1) _ x wU aQ (nJ hJ hr hd ⟨hg,hJ.gv c qI hg⟩) hx (by omega) (by omega)) fun q u hq h=>Qe hJ hd ?_ h;rw[JG (by rw[hJ.gl,rY hq]),a0u (by rw[hJ.gl];have:=qI.1;have:=qI.2;omega),a0u hg]
  rw[a0o (by simpa using hg)];by_cases hk:t∈x.k.map (·.1)
  .rw[a0u hk];obtain⟨e,he,rfl⟩:=a0H.1 hk;have hkn:knS x.k e.1=e.2:=by
    have:x.k.find? (fun y=>decide (y.1=e.1))=some e:=by
     have jH:=hx.nd;clear hb up hk Bo hd;generalize x.k=l at he jH
     induction l with
     |nil=>cases he
     |cons y l ih=>
      rw[ah1];rcases a1J.1 he with rfl|he
      .simp
      have:¬y.1=e.1:=fun h=>by
       rw[a4D,a4J]at jH;exact jH.1 (a0H.2 ⟨e,he,h.symm⟩)
      rw[aez this];rw[a4D,a4J]at jH;exact ih he jH.2
    unfold knS;rw[this];rfl
   rw[hkn];obtain⟨k1,k2,k3⟩:=hx.k e he;have hmul:2*1<=(J.s.getD c.toNat 0).toNat*wO J.s r:=aha (Vu hJ hr hd Bo) hw;refine⟨Q5.rfl,by show x.e.length<=_;omega,by show x.n.length+1<=_;omega,hx,⟨fun h=>by have:=k1.1;show gJ _ _;exact absurd h (by omega),k1.2,?_⟩,k3,fun _ h=>.inl h,⟨by have:=k1.1;show _<=e.2;omega,by have:=k1.2;show e.2<_;omega⟩⟩;obtain⟨k,hk,h1⟩:=DU.1 k2;obtain⟨x0,hv⟩:=EC.1 h1;have h2:=(hd k hk).2;unfold EP at h2 ⊢;rw[a0o (by omega)]at h2;have k10:=k1.1;rw[a0o (show ¬e.2<0 by omega)];have hv:((lC J.D k).au.getD (e.1.get k).toNat kW).var=(x.n.getD e.2.toNat kW).var:=hv;rw[hv]at h2;exact h2
  rw[a0o hk];have hm2:=Vu hJ hr hd Bo;have YK:∀j,j<(J.s.getD c.toNat 0).toNat->j*wO J.s r+wO J.s r<=(J.s.getD c.toNat 0).toNat*wO J.s r:=fun j hj=>by
   have:(j+1)*wO J.s r<=(J.s.getD c.toNat 0).toNat*wO J.s r:=a3r _ hj;rw[a3l]at this;omega
  have inv:=dw (g:=Vr J.D (jE J op r) t c) (m:=(J.s.getD c.toNat 0).toNat) (k:=0) (s:=([],x)) (fun k y=>y.1.length=k∧Q5 x.en y.2.en∧y.2.e.length<=x.e.length+k*wO J.s r∧y.2.n.length+k<=x.n.length+k*wO J.s r∧XOk J op y.2∧(∀e∈y.2.k,e∈x.k∨Dp J (a+1) e.1)∧(∀v∈y.1,G9 v)∧∀j:Nat,j<k->Ce J.o y.2.en (y.1.getD j 0) y.2.n.length (a+1)∧Sem J op (y.1.getD j 0) (bM J.D t c j) y.2.en)
   ⟨rfl,Q5.rfl,by simp,by simp,hx,fun _ h=>.inl h,(fun v hv=>by cases hv),fun j hj=>by omega⟩ (fun j y _ hj hy=>by
    obtain⟨y1,y2,y3,y4,y5,y6,y8,y7⟩:=hy;have YK:=YK j (by omega);have h:=TN hJ op jr r (a+1) (bM J.D t c j) y.2 wU aQ (nJ hJ hr hd ⟨by omega,by omega⟩) y5 (by omega) (by omega);refine⟨by simp[Vr,y1],y2.trans h.pre,?_,?_,h.ok,fun e he=>?_,fun v hv=>?_,fun j' Ea=>?_⟩
    .have:=h.el;show(jE J op r (bM J.D t c j) y.2).2.e.length<=_;rw[a3l];omega
    .have:=h.nl;show(jE J op r (bM J.D t c j) y.2).2.n.length+_<=_;rw[a3l];omega
    .rcases h.ks e he with h1|h1
     .exact y6 e h1
     .exact .inr h1
    .have hv:v∈y.1++[(jE J op r (bM J.D t c j) y.2).1]:=hv;rcases a2L.1 hv with hv|hv
     .exact y8 v hv
     .rw[a2D.1 hv];exact h.w
    .have e1:(Vr J.D (jE J op r) t c j y).1.getD j' 0=if j'<j then y.1.getD j' 0 else(jE J op r (bM J.D t c j) y.2).1:=by
      show(y.1++[_]).getD j' 0=_;rw[JH,y1];split
      .rfl
      .rw[a0u (by omega)]
     rw[e1];by_cases e:j'<j
     .rw[a0u e];obtain⟨a1,a2⟩:=y7 j' e;exact⟨a1.mono h.pre h.pre.2.length_le (a0x _) (a0x _),a2.mono h.pre⟩
     .rw[a0o e];have e:j'=j:=(by omega);subst e;exact⟨h.rf,h.sm⟩)
  rw[a3H]at inv;simp only[];generalize aT (Vr J.D (jE J op r) t c) (J.s.getD c.toNat 0).toNat 0 ([],x)=y at inv;obtain⟨ks,m⟩:=y;obtain⟨y1,y2,y3,y4,y5,y6,y8,y7⟩:=inv;have y1:ks.length=(J.s.getD c.toNat 0).toNat:=y1;have hp:Q5 m.en (m.e,m.n++[(⟨c,ks⟩:Br)]):=⟨a4P,a8O _ _⟩;have fZ:(m.n++[(⟨c,ks⟩:Br)]).getD m.n.length kW=⟨c,ks⟩:=by simp[List.getD]
  have a5u:Sem J op (m.n.length:Int) t (m.e,m.n++[(⟨c,ks⟩:Br)]):=fun Z hZ g1 g2 q hq=>by
   have g2:m.n++[(⟨c,ks⟩:Br)] <+: Z.au:=g2;have YH:=(qo.1 hq).2 c.toNat (by have:=qI.1;have:=qI.2;omega);have hj:(q.getD c.toNat 0).toNat<(J.s.getD c.toNat 0).toNat:=(by omega);obtain⟨u,u1,u2⟩:=(y7 _ hj).2 Z hZ g1 ((a8O _ _).trans g2) q hq;have en:ay Z (m.n.length:Int)=⟨c,ks⟩:=by
    show Z.au.getD (m.n.length:Int).toNat kW=_;rw[a4Z,zS g2 (by simp),fZ]
   refine⟨u,.step (by omega) (by rw[en];exact u1),Qe hJ hd ?_ u2⟩;rw[JG (by rw[hJ.gl,rY hq]),a0u (by rw[hJ.gl];have:=qI.1;have:=qI.2;omega),a0o (by omega)];omega
  have hv2:PtV J.s J.o (m.e,m.n++[(⟨c,ks⟩:Br)]):=by
   have hg:∀i,i<(m.n++[(⟨c,ks⟩:Br)]).length->(i<m.n.length∧(m.n++[(⟨c,ks⟩:Br)]).getD i kW=m.n.getD i kW)∨(i=m.n.length∧(m.n++[(⟨c,ks⟩:Br)]).getD i kW=⟨c,ks⟩):=fun i hi=>by
    simp only[a1t,a3J]at hi;rcases a4E i m.n.length with h|h
    .exact .inl ⟨h,by rw[JH,a0u h]⟩
    exact .inr ⟨by omega,by rw[show i=m.n.length by omega,fZ]⟩
   refine⟨fun i hi=>?_,fun i hi=>?_,fun i hi k hk=>?_⟩
   .rcases hg i hi with⟨h1,h2⟩|⟨h1,h2⟩
    .show gJ ((m.n++[_]).getD i kW).var _;rw[h2];exact y5.v.var i h1
    show gJ ((m.n++[_]).getD i kW).var _;rw[h2];exact qI
   .rcases hg i hi with⟨h1,h2⟩|⟨h1,h2⟩
    .show(((m.n++[_]).getD i kW).aA.length:Int)=J.s.getD ((m.n++[_]).getD i kW).var.toNat 0;rw[h2];exact y5.v.ksz i h1
    show(((m.n++[_]).getD i kW).aA.length:Int)=J.s.getD ((m.n++[_]).getD i kW).var.toNat 0;rw[h2];show(ks.length:Int)=J.s.getD c.toNat 0;omega
   rcases hg i hi with⟨h1,h2⟩|⟨h1,h2⟩
   .have hk:k<((m.n++[(⟨c,ks⟩:Br)]).getD i kW).aA.length:=hk;show Ce J.o _ (((m.n++[(⟨c,ks⟩:Br)]).getD i kW).aA.getD k 0) i (J.o.idxOf ((m.n++[(⟨c,ks⟩:Br)]).getD i kW).var+1);rw[h2]at hk ⊢;exact(y5.v.zN i h1 k hk).mono hp (a0x _) (a9n h1) (a0x _)
   have hk:k<((m.n++[(⟨c,ks⟩:Br)]).getD i kW).aA.length:=hk;show Ce J.o _ (((m.n++[(⟨c,ks⟩:Br)]).getD i kW).aA.getD k 0) i (J.o.idxOf ((m.n++[(⟨c,ks⟩:Br)]).getD i kW).var+1);rw[h2]at hk ⊢;have hk:k<ks.length:=hk;subst h1;show Ce J.o _ (ks.getD k 0) m.n.length (J.o.idxOf c+1);rw[hci];exact(y7 k (by omega)).1.mono hp (a0x _) (a0x _) (a0x _)
  have y5:XOk J op m:=y5;have y6:∀e∈m.k,e∈x.k∨Dp J (a+1) e.1:=y6;refine⟨y2.trans hp,y3,?_,⟨hv2,fun e he=>?_,?_,y5.e,fun b hb=>?_⟩,⟨fun h=>?_,?_,?_⟩,a5u,fun e he=>?_,⟨by show _<=(m.n.length:Int);omega,by have y4:m.n.length+_<=x.n.length+_:=y4;show(m.n.length:Int)<_;omega⟩⟩
  .show(m.n++[_]).length+1<=_;rw[a1t,a3J];have y4:m.n.length+(J.s.getD c.toNat 0).toNat<=x.n.length+(J.s.getD c.toNat 0).toNat*wO J.s r:=y4;omega
  .rcases a2L.1 he with he|he
   .obtain⟨k1,k2,k3⟩:=y5.k e he;have aQ:e.2.toNat<m.n.length:=by have:=k1.1;have:=k1.2;omega
    refine⟨⟨k1.1,?_⟩,?_,k3.mono hp⟩
    .have:=k1.2;show e.2<((m.n++[_]).length:Int);rw[a1t];omega
    show jX J.D e.1 ((m.n++[_]).getD e.2.toNat kW).var=true;rw[JH,a0u aQ];exact k2
   rw[a2D.1 he];refine⟨⟨by omega,by show(m.n.length:Int)<((m.n++[_]).length:Int);rw[a1t,a3J];omega⟩,?_,a5u⟩;show jX J.D t ((m.n++[_]).getD (m.n.length:Int).toNat kW).var=true;rw[a4Z,fZ];exact Bo
  .rw[a4C];refine DV y5.nd fun h=>?_;obtain⟨e,he,e2⟩:=a0H.1 h;rcases y6 e he with h1|h1
   .exact hk (a0H.2 ⟨e,h1,e2⟩)
   rw[e2]at h1;exact a0i hJ hr Bo h1
  .have hb:b∈m.n++[(⟨c,ks⟩:Br)]:=hb;rcases a2L.1 hb with hb|hb
   .exact y5.w b hb
   rw[a2D.1 hb];exact y8
  .exact absurd h (by show ¬((m.n.length:Int)<0);omega)
  .show(m.n.length:Int)<((m.n++[_]).length:Int);rw[a1t,a3J];omega
  .show a<=EP J.o (m.n++[_]) (m.n.length:Int);unfold EP;rw[a0o (by omega),a4Z,fZ];show a<=J.o.idxOf c;omega
  rcases a2L.1 he with he|he
  .rcases y6 e he with h1|h1
   .exact .inl h1
   exact .inr (h1.le (by omega))
  rw[a2D.1 he];exact .inr hd
open Go Tw Pv bZ
def jY(J:Jb)(op:List V->V):Dg:=⟨J.s,J.o,(jE J op J.o (eY J.D) ⟨[],[],[]⟩).2.e,(jE J op J.o (eY J.D) ⟨[],[],[]⟩).2.n,(jE J op J.o (eY J.D) ⟨[],[],[]⟩).1⟩
def kY(J:Jb)(op:List V->V):Dg:=(zT (jY J op)).1
def DW(J:Jb)(op:List V->V):List V:=(List.range (xZ J.s)).map fun(k:Nat)=>op (J.D.map fun d=>kX d (ov J.g (iw J.s k)))
theorem wE{D:List Dg}(hD:D.length<=3){k:Nat}(hk:k<D.length):(eY D).get k=(lC D k).root:=by
 have:=dw (g:=fun k (y:S3)=>y.set k (lC D k).root) (m:=D.length) (k:=0) (s:=⟨0,0,0⟩) (fun j y=>∀k,k<j->y.get k=(lC D k).root) (fun k hk=>by omega) (fun j y _ hj hy k hk=>by
  rw[S3.jG (by omega) (by omega)];by_cases e:k=j
  .rw[a0u e,e]
  rw[a0o e];exact hy k (by omega))
 exact this k (by omega)
theorem akK{J:Jb}(hJ:jq J){q:List Int}(hq:jK J.s q=true):jK J.s (ov J.g q)=true:=by
 have hl:=rY hq;refine qo.2 ⟨by simp[ov,aea,hJ.gl,hl],fun k hk=>?_⟩;rw[JG (by rw[hJ.gl,hl]),a0u (by rw[hJ.gl];exact hk)];split
 .rename_i h;exact⟨h,hJ.gv (k:Int) (aH hk) h⟩
 exact(qo.1 hq).2 k hk
theorem a0j{J:Jb}(hJ:jq J){op:List V->V}(jr:oL J op):a3W J op 0 (wO J.s J.o) (eY J.D) ⟨[],[],[]⟩ (jE J op J.o (eY J.D) ⟨[],[],[]⟩):=by
 have hw:=DT hJ.bU.sz hJ.ord;have hm:=hJ.bU.many;refine TN hJ op jr J.o 0 (eY J.D) ⟨[],[],[]⟩ (aaC) (a4Y _) (fun k hk=>?_) ⟨⟨fun i hi=>(by simp at hi),fun i hi=>(by simp at hi),fun i hi=>(by simp at hi)⟩,fun e he=>(by cases he),a5v,fun v hv=>(by cases hv),fun b hb=>(by cases hb)⟩ (by show 0+wO J.s J.o<=_;omega) (by show 0+wO J.s J.o<=_;omega);rw[wE hJ.d3 hk];exact⟨(hJ.dg k hk).t.root,a4Y _⟩
theorem wF{J:Jb}(hJ:jq J){op:List V->V}(jr:oL J op):aX (jY J op)=0∧(jY J op).aI.length<=2000∧∀v∈(jY J op).aI,Ci v:=by
 have h:=a0j hJ jr;have hw:=DT hJ.bU.sz hJ.ord;have hm:=hJ.bU.many;have h1:(jY J op).aI.length<=0+wO J.s J.o:=h.el;have h2:(jY J op).au.length+1<=0+wO J.s J.o:=h.nl;refine⟨TK (by unfold ah;omega) ?_ (fun v hv=>(h.ok.e v hv).1) (by omega) h.ok.v h.rf,by omega,h.ok.e⟩;have:bV J.s J.o=0:=jV.2 ⟨hJ.bU,hJ.ord⟩;show(bV J.s J.o != 0)=false;rw[this];rfl
theorem a81{J:Jb}(hJ:jq J){op:List V->V}(jr:oL J op):Ew (jY J op):=by
 have h:=a0j hJ jr;exact⟨fun i hi k hk=>h.ok.w _ (XU hi) _ (dB hk),h.w,fun v hv=>(h.ok.e v hv).2⟩
theorem Iq{J:Jb}(hJ:jq J){op:List V->V}(jr:oL J op):bH (jY J op)=(yY (jY J op),0)∧kY J op=qw J.s J.o (cellsD (jY J op)):=by
 obtain⟨h1,h2,h3⟩:=wF hJ jr;have hr:=a81 hJ jr;have ho:=(jq.o2 hJ).2.1;have hl:=hJ.bU.len;have e:=Jw hr (by unfold ah;omega);rw[h1]at e;have hf:¬(bV (jY J op).aj (jY J op).aB != 0)=true:=by
  have:bV J.s J.o=0:=jV.2 ⟨hJ.bU,hJ.ord⟩;show ¬(bV J.s J.o != 0)=true;rw[this];simp
 rw[a0o hf]at e;refine⟨e,?_⟩;unfold kY zT;rw[e];show eX (jY J op)=_;exact(Qc h1 (by show J.o.length<=ah;unfold ah;omega) (by unfold ah;omega)).1
theorem TP{J:Jb}(hJ:jq J){op:List V->V}(jr:oL J op):cellsD (jY J op)=DW J op:=by
 obtain⟨h1,h2,h3⟩:=wF hJ jr;have h:=a0j hJ jr;have ho:=(jq.o2 hJ).2.1;have hl:=hJ.bU.len;have ht:=(iJ (d:=jY J op) (by show J.o.length<=ah;unfold ah;omega) (by unfold ah;omega) (by rw[h1];rfl));unfold cellsD DW;refine a4V fun k _=>?_;have hq:jK J.s (iw J.s k)=true:=uj _ hJ.bU.sz;obtain⟨u,u1,l,l1,l2,rfl⟩:=h.sm (jY J op) (by omega) a4P a4P (iw J.s k) hq;have e1:=u1.at_ ht.1 hq 6001 (by have:=h.rf.2.1;have:=ht.2;show(jY J op).root<_;have e:(jY J op).au.length=(jE J op J.o (eY J.D) ⟨[],[],[]⟩).2.n.length:=rfl;have e2:(jY J op).root=(jE J op J.o (eY J.D) ⟨[],[],[]⟩).1:=rfl;omega) ht.1.root;show kX (jY J op) (iw J.s k)=_;unfold kX;have e1:op l=(jY J op).aI.getD (jL (atF (jY J op) (iw J.s k) 6001 (jY J op).root)).toNat V0:=e1;rw[<-e1];congr 1;refine(pI (d:=V0) (by rw[l1,a4K])).2 fun i hi=>?_;rw[l1]at hi;have hd:=hJ.dg i hi;have h5:=l2 i hi;rw[wE hJ.d3 hi]at h5;have hov:jK (lC J.D i).aj (ov J.g (iw J.s k))=true:=by rw[hd.s];exact akK hJ hq
 have h6:=h5.at_ hd.t hov 6001 (by have:=hd.t.root.1;have:=hd.n;omega) hd.t.root;rw[h6];simp[List.getD,a4H,a0b hi,kX,atR]
theorem mk_eq{J:Jb}(hJ:jq J){op:List V->V}(jr:oL J op):kY J op=qw J.s J.o (DW J op):=by
 rw[(Iq hJ jr).2,TP hJ jr]
end Go.Proofs.YtmobpoiejckagaaGreat
namespace bZ
open Tw
section
variable {κ:Type} [DecidableEq κ]
def sK(m:List (κ×Int))(k:κ)(n:Int):List (κ×Int):=
 if k∈m.map (·.1)then m.modify ((m.map (·.1)).idxOf k) (fun e=>(e.1,e.2+n))else m++[(k,n)]
def dH(φ:κ->Int):List (κ×Int)->Int
 | []=>0
 |e::m=>e.2*φ e.1+dH φ m
theorem Yb(φ:κ->Int):∀a b:List (κ×Int),dH φ (a++b)=dH φ a+dH φ b
 | [],b=>by simp[dH]
 |e::a,b=>by simp only[List.cons_append,dH,Yb φ a b];omega
theorem Yc(φ:κ->Int){k:κ}{n:Int}:∀{m:List (κ×Int)},k∈m.map (·.1)->dH φ (m.modify ((m.map (·.1)).idxOf k) fun e=>(e.1,e.2+n))=dH φ m+n*φ k
 | [],h=>by simp at h
 |e::m,h=>by
  by_cases e1:e.1=k
  .have:((e::m).map (·.1)).idxOf k=0:=(by simp[adT,e1]);rw[this];simp only[List.modify_zero_cons,dH,ahb,e1];omega
  have h2:k∈m.map (·.1):=by
   rw[a4D,a1J]at h;exact h.resolve_left fun h=>e1 h.symm
  have:((e::m).map (·.1)).idxOf k=(m.map (·.1)).idxOf k+1:=by
   simp[adT,ah8.2 e1]
  rw[this];simp only[List.modify_succ_cons,dH,Yc φ h2];omega
theorem zU(φ:κ->Int)(m:List (κ×Int))(k:κ)(n:Int):dH φ (sK m k n)=dH φ m+n*φ k:=by
 unfold sK;split
 .exact Yc φ ‹_›
 rw[Yb];simp[dH]
theorem Yd{f:Int->Int}:∀(m:List (κ×Int)) (j:Nat),(m.modify j fun e=>(e.1,f e.2)).map (·.1)=m.map (·.1)
 | [],j=>by simp
 |e::m,0=>by simp
 |e::m,j+1=>by simp[Yd m j]
theorem TQ(m:List (κ×Int))(k:κ)(n:Int):(sK m k n).map (·.1)=if k∈m.map (·.1)then m.map (·.1)else m.map (·.1)++[k]:=by
 unfold sK;split
 .exact Yd (f:=fun x=>x+n) m _
 simp
theorem Gg{m:List (κ×Int)}(h:(m.map (·.1)).Nodup)(k:κ)(n:Int):((sK m k n).map (·.1)).Nodup:=by
 rw[TQ];split
 .exact h
 rename_i h2;rw[a99];exact⟨h,by simp,fun x hx y hy e=>by simp at hy;subst hy;subst e;exact h2 hx⟩
theorem a2j{f:κ×Int->κ×Int}:∀{m:List (κ×Int)} {j:Nat} {e:κ×Int},e∈m.modify j f->e∈m∨∃e'∈m,e=f e'
 | [],j,e,h=>by simp at h
 |x::m,0,e,h=>by
  rw[List.modify_zero_cons,a1J]at h;rcases h with h|h
  .exact .inr ⟨x,by simp,h⟩
  exact .inl (by simp[h])
 |x::m,j+1,e,h=>by
  rw[List.modify_succ_cons,a1J]at h;rcases h with h|h
  .exact .inl (by simp[h])
  rcases a2j h with h|⟨e',h1,h2⟩
  .exact .inl (by simp[h])
  exact .inr ⟨e',by simp[h1],h2⟩
theorem Qg{m:List (κ×Int)}{k:κ}{n:Int}(hn:0<n)(h:∀e∈m,0<e.2):∀e∈sK m k n,0<e.2:=fun e he=>by
 unfold sK at he;split at he
 .rcases a2j he with h1|⟨e',h1,rfl⟩
  .exact h e h1
  .have:=h e' h1;show 0<e'.2+n;omega
 .rcases a2L.1 he with h1|h1
  .exact h e h1
  .rw[a2D.1 h1];exact hn
theorem a88{m:List (κ×Int)}{k:κ}{n:Int}{e:κ×Int}(he:e∈sK m k n):e.1=k∨∃e'∈m,e'.1=e.1:=by
 have:e.1∈(sK m k n).map (·.1):=a0H.2 ⟨e,he,rfl⟩;rw[TQ]at this;split at this
 .obtain⟨e',h1,h2⟩:=a0H.1 this;exact .inr ⟨e',h1,h2⟩
 rcases a2L.1 this with h1|h1
 .obtain⟨e',h1,h2⟩:=a0H.1 h1;exact .inr ⟨e',h1,h2⟩
 exact .inl (by simpa using h1)
def ind(k:κ)(x:κ):Int:=if x=k then 1 else 0
theorem Nh{k:κ}:∀{m:List (κ×Int)},k∉m.map (·.1)->dH (ind k) m=0
 | [],_=>rfl
 |e::m,h=>by
  rw[a4D,a1J,adJ]at h;simp only[dH,Nh h.2,ind,a0o (fun e1:e.1=k=>h.1 e1.symm)];omega
theorem ED:∀{m:List (κ×Int)} {e:κ×Int},(m.map (·.1)).Nodup->e∈m->dH (ind e.1) m=e.2
 |x::m,e,hn,h=>by
  rw[a4D,a4J]at hn;rcases a1J.1 h with rfl|h
  .simp only[dH,Nh hn.1,ind,a2k];omega
  have:¬x.1=e.1:=fun e1=>hn.1 (a0H.2 ⟨e,h,e1.symm⟩);simp only[dH,ED hn.2 h,ind,a0o this];omega
theorem Ye{m:List (κ×Int)}(hn:(m.map (·.1)).Nodup)(hp:∀e∈m,0<e.2)(e:κ×Int):e∈m↔0<e.2∧dH (ind e.1) m=e.2:=by
 constructor
 .exact fun h=>⟨hp e h,ED hn h⟩
 rintro⟨h1,h2⟩;by_cases h:e.1∈m.map (·.1)
 .obtain⟨e',h3,h4⟩:=a0H.1 h;have:=ED hn h3;have h4:e'.1=e.1:=h4;rw[h4,h2]at this;have:e'=e:=aaD h4 this.symm;rw[<-this];exact h3
 rw[Nh h]at h2;omega
theorem Ir{β:Type}{f:κ×Int->β}{l:List (κ×Int)}(h:(l.map f).Nodup):l.Nodup:=by
 rw[List.Nodup,agd]at h;exact h.imp fun{a b} h (e:a=b)=>h (congrArg f e)
theorem Vw{m m':List (κ×Int)}(h1:(m.map (·.1)).Nodup)(h2:(m'.map (·.1)).Nodup)(p1:∀e∈m,0<e.2)(p2:∀e∈m',0<e.2)(h:∀φ,dH φ m=dH φ m'):m.Perm m':=
 (a6L (Ir h1) (Ir h2)).2 fun e=>by rw[Ye h1 p1,Ye h2 p2,h]
theorem a3X(φ:κ->Int){m m':List (κ×Int)}(h:m.Perm m'):dH φ m=dH φ m':=by
 induction h with
 |nil=>rfl
 |cons x _ ih=>simp only[dH,ih]
 |swap x y l=>simp only[dH];omega
 |trans _ _ h1 h2=>exact h1.trans h2
def Bq(l:List κ):List (κ×Int):=l.foldl (fun m k=>sK m k 1) []
def eu(φ:κ->Int):List κ->Int
 | []=>0
 |k::l=>φ k+eu φ l
theorem Yf(φ:κ->Int):∀(l:List κ) (m:List (κ×Int)),dH φ (l.foldl (fun m k=>sK m k 1) m)=dH φ m+eu φ l
 | [],m=>by simp[eu]
 |k::l,m=>by rw[adE,Yf φ l,zU,eu];omega
theorem TR(φ:κ->Int)(l:List κ):dH φ (Bq l)=eu φ l:=by
 unfold Bq;rw[Yf];simp[dH]
theorem Gh(l:List κ):((Bq l).map (·.1)).Nodup∧∀e∈Bq l,0<e.2:=by
 have:∀(l:List κ) (m:List (κ×Int)),(m.map (·.1)).Nodup->(∀e∈m,0<e.2)->((l.foldl (fun m k=>sK m k 1) m).map (·.1)).Nodup∧∀e∈l.foldl (fun m k=>sK m k 1) m,0<e.2:=by
  intro l
  induction l with
  |nil=>exact fun m h1 h2=>⟨h1,h2⟩
  |cons k l ih=>exact fun m h1 h2=>ih _ (Gg h1 k 1) (Qg (by omega) h2)
 exact this l [] (by simp) (by simp)
theorem Yg(k:κ):∀l:List κ,eu (ind k) l=(l.count k:Int)
 | []=>rfl
 |x::l=>by
  rw[eu,Yg k l,List.count_cons,ind];by_cases e:x=k
  .simp[e];omega
  simp[e]
theorem JI(φ:κ->Int){l l':List κ}(h:l.Perm l'):eu φ l=eu φ l':=by
 induction h with
 |nil=>rfl
 |cons x _ ih=>simp only[eu,ih]
 |swap x y l=>simp only[eu];omega
 |trans _ _ h1 h2=>exact h1.trans h2
theorem Iu(φ:κ->Int):∀a b:List κ,eu φ (a++b)=eu φ a+eu φ b
 | [],b=>by simp[eu]
 |e::a,b=>by simp only[List.cons_append,eu,Iu φ a b];omega
end
theorem JJ:∀a b:List Int,lM a b=true∨lM b a=true
 | [],_=>.inl rfl
 |_::_,[]=>.inr rfl
 |a::az,b::bs=>by
  simp only[lM];rcases Int.lt_trichotomy a b with h|h|h
  .simp[h]
  .subst h;simpa using JJ az bs
  simp[h]
theorem DX:∀a b:List Int,lM a b=true->lM b a=true->a=b
 | [],[],_,_=>rfl
 | [],_::_,_,h=>by cases h
 |_::_,[],h,_=>by cases h
 |a::az,b::bs,h1,h2=>by
  simp only[lM]at h1 h2;rcases Int.lt_trichotomy a b with h|h|h
  .rw[a0o (by omega),a0u h]at h2;cases h2
  .subst h;simp at h1 h2;rw[DX az bs h1 h2]
  rw[a0o (by omega),a0u h]at h1;cases h1
theorem lex_trans:∀a b c:List Int,lM a b=true->lM b c=true->lM a c=true
 | [],_,_,_,_=>rfl
 |_::_,[],_,h,_=>by cases h
 |_::_,_::_,[],_,h=>by cases h
 |a::az,b::bs,c::cs,h1,h2=>by
  simp only[lM]at h1 h2 ⊢;split at h1
  .split at h2
   .rw[a0u (by omega)]
   split at h2
   .cases h2
   rw[a0u (by omega)]
  split at h1
  .cases h1
  split at h2
  .rw[a0u (by omega)]
  split at h2
  .cases h2
  rw[a0o (by omega),a0o (by omega)];exact lex_trans az bs cs h1 h2
section
variable {α:Type} {key:α->List Int}
theorem TT{a b:α}(h:key a=key b->a=b):∀s:List α,EL key a (EL key b s)=EL key b (EL key a s)
 | []=>by
  by_cases e:a=b
  .rw[e]
  simp only[EL];rcases JJ (key a) (key b)with h1|h1
  .have:lM (key b) (key a)=false:=by
    cases h2:lM (key b) (key a)
    .rfl
    exact absurd (h (DX _ _ h1 h2)) e
   simp[h1,this]
  have:lM (key a) (key b)=false:=by
   cases h2:lM (key a) (key b)
   .rfl
   exact absurd (h (DX _ _ h2 h1)) e
  simp[h1,this]
 |c::s=>by
  by_cases e:a=b
  .rw[e]
  have hx:lM (key a) (key b)=!lM (key b) (key a):=by
   rcases JJ (key a) (key b)with h1|h1
   .cases h2:lM (key b) (key a)
    .rw[h1];rfl
    exact absurd (h (DX _ _ h1 h2)) e
   cases h2:lM (key a) (key b)
   .rw[h1];rfl
   exact absurd (h (DX _ _ h2 h1)) e
  cases h1:lM (key a) (key c)<;>cases h2:lM (key b) (key c)
  .simp only[EL,h1,h2,a2u,a3q,TT h s]
  .have h3:lM (key a) (key b)=false:=by
    cases h3:lM (key a) (key b)
    .rfl
    rw[lex_trans _ _ _ h3 h2]at h1;cases h1
   simp only[EL,h1,h2,h3,a2u,a3q,a2k]
  .have h3:lM (key b) (key a)=false:=by
    cases h3:lM (key b) (key a)
    .rfl
    rw[lex_trans _ _ _ h3 h1]at h2;cases h2
   simp only[EL,h1,h2,h3,a2u,a3q,a2k]
  cases h3:lM (key b) (key a)<;>rw[h3]at hx<;>simp[EL,h1,h2,h3,hx]
theorem Fq{l l':List α}(h:l.Perm l')(hi:∀a∈l,∀b∈l,key a=key b->a=b):zC key l=zC key l':=by
 induction h with
 |nil=>rfl
 |cons x _ ih=>simp only[zC,ih fun a ha b hb=>hi a (by simp[ha]) b (by simp[hb])]
 |swap x y l=>exact TT (hi y (by simp) x (by simp)) _
 |trans h1 h2 i1 i2=>exact(i1 hi).trans (i2 fun a ha b hb=>hi a (h1.mem_iff.2 ha) b (h1.mem_iff.2 hb))
theorem TU{β:Type}{g:α->β}{a8a:β->List Int}(h:∀a,a8a (g a)=key a):∀l:List α,zC a8a (l.map g)=(zC key l).map g:=by
 have hi:∀(a:α) (s:List α),EL a8a (g a) (s.map g)=(EL key a s).map g:=by
  intro a s
  induction s with
  |nil=>rfl
  |cons c s ih=>
   simp only[a4D,EL,h];split
   .rfl
   rw[a4D,ih]
 intro l
 induction l with
 |nil=>rfl
 |cons a l ih=>simp only[a4D,zC,ih,hi]
end
end bZ
namespace Go.Proofs.YtmobpoiejckagaaGreat
open Go Tw Pv bZ
def Bv(J:Jb)(c:Int):List Int:=if decide (J.g.getD c.toNat 0>=0)=true then [J.g.getD c.toNat 0]else(List.range (J.s.getD c.toNat 0).toNat).map fun(j:Nat)=>(j:Int)
def y9(J:Jb)(ψ:S3->Int):List Int->S3->Int
 | [],t=>ψ t
 |c::r,t=>eu (fun j=>y9 J ψ r (bM J.D t c j)) (Bv J c)
theorem zV{α β:Type}[DecidableEq α][DecidableEq β](φ:β->Int)(f:α->β):∀l:List α,eu φ (l.map f)=eu (fun a=>φ (f a)) l
 | []=>rfl
 |a::l=>by simp only[a4D,eu,zV φ f l]
theorem qJ{α:Type}[DecidableEq α]{φ φ':α->Int}:∀{l:List α},(∀a∈l,φ a=φ' a)->eu φ l=eu φ' l
 | [],_=>rfl
 |a::l,h=>by rw[eu,eu,h a (by simp),qJ fun b hb=>h b (by simp[hb])]
theorem TW{α β:Type}[DecidableEq α][DecidableEq β](φ:β->Int)(f:α->List β):∀l:List α,eu φ (l.flatMap f)=eu (fun a=>eu φ (f a)) l
 | []=>rfl
 |a::l=>by rw[List.flatMap_cons,Iu,eu,TW φ f l]
theorem Bz{α:Type}[DecidableEq α](x:Int):∀l:List α,eu (fun _=>x) l=l.length*x
 | []=>by simp[eu]
 |a::l=>by rw[eu,Bz x l,a4v,Int.natCast_add,ahb];omega
theorem S3.ab2(s:S3)(k:Nat):s.set k (s.get k)=s:=by
 match k with
 | 0=>rfl
 | 1=>rfl
 |k+2=>rfl
theorem a8b{D:List Dg}{t:S3}{c:Int}(h:jX D t c=false)(g:Int):bM D t c g=t:=by
 have hk:∀k,k<D.length->lq (lC D k) (t.get k) c=false:=fun k hk=>by
  cases e:lq (lC D k) (t.get k) c
  .rfl
  have:=DU.2 ⟨k,hk,e⟩;rw[h]at this;cases this
 exact dw (g:=fun k (y:S3)=>y.set k (LP (lC D k) (y.get k) c g)) (m:=D.length) (k:=0) (s:=t) (fun _ y=>y=t) rfl (fun j y _ hj hy=>by
  subst hy;show y.set j (LP (lC D j) (y.get j) c g)=y;unfold LP;rw[hk j (by omega),a0o (by simp)];exact S3.ab2 y j)
theorem a3Y{J:Jb}{ψ:S3->Int}{c:Int}{r:List Int}{t:S3}(h:decide (J.g.getD c.toNat 0>=0)=true):y9 J ψ (c::r) t=y9 J ψ r (bM J.D t c (J.g.getD c.toNat 0)):=by
 rw[y9,Bv,a0u h];simp[eu]
theorem afW{J:Jb}{ψ:S3->Int}{c:Int}{r:List Int}{t:S3}(h:¬decide (J.g.getD c.toNat 0>=0)=true)(ha:jX J.D t c=false):y9 J ψ (c::r) t=((J.s.getD c.toNat 0).toNat:Int)*y9 J ψ r t:=by
 rw[y9,Bv,a0o h,zV,qJ (φ':=fun _=>y9 J ψ r t) (fun a _=>by rw[a8b ha]),Bz,a9a]
theorem ab3{J:Jb}{ψ:S3->Int}{c:Int}{r:List Int}{t:S3}(h:¬decide (J.g.getD c.toNat 0>=0)=true):y9 J ψ (c::r) t=eu (fun(j:Nat)=>y9 J ψ r (bM J.D t c j)) (List.range (J.s.getD c.toNat 0).toNat):=by
 rw[y9,Bv,a0o h,zV]
def Ae(J:Jb):List Int->Nat
 | []=>1
 |c::r=>(Bv J c).length*Ae J r
theorem EF{J:Jb}:∀(r:List Int) (t:S3),y9 J (fun _=>1) r t=(Ae J r:Int)
 | [],_=>rfl
 |c::r,t=>by
  rw[y9,qJ (φ':=fun _=>(Ae J r:Int)) (fun a _=>EF r _),Bz,Ae,aei]
section
variable {J:Jb} (hJ:jq J)
include hJ
theorem Yh{c:Int}(hc:gJ c J.s.length){j:Int}:j∈Bv J c↔(0<=j∧j<J.s.getD c.toNat 0)∧(0<=J.g.getD c.toNat 0->J.g.getD c.toNat 0=j):=by
 unfold Bv;split
 .rename_i h;have h:J.g.getD c.toNat 0>=0:=by simpa using h
  have:=hJ.gv c hc h;rw[a2D];constructor
  .rintro rfl;exact⟨⟨h,this⟩,fun _=>rfl⟩
  exact fun h2=>(h2.2 h).symm
 rename_i h;have h:¬J.g.getD c.toNat 0>=0:=by simpa using h
 rw[a0H];constructor
 .rintro⟨k,h1,rfl⟩;rw[a4L]at h1;exact⟨⟨by omega,by omega⟩,fun h2=>absurd h2 h⟩
 rintro⟨h1,_⟩;exact⟨j.toNat,a4L.2 (by omega),by omega⟩
theorem a8c{c:Int}(hc:gJ c J.s.length):1<=(Bv J c).length∧(Bv J c).length<=(J.s.getD c.toNat 0).toNat:=by
 have hz:=hJ.bU.sz _ (dB (s:=J.s) (k:=c.toNat) (by have:=hc.1;have:=hc.2;omega));unfold Bv;split
 .exact⟨a0x _,by show 1<=_;omega⟩
 rw[a4K,a9a];exact⟨by omega,a0x _⟩
theorem JK:∀{r:List Int},(∀c∈r,gJ c J.s.length)->1<=Ae J r∧Ae J r<=wO J.s r
 | [],_=>⟨a0x _,a0x _⟩
 |c::r,h=>by
  obtain⟨h1,h2⟩:=a8c hJ (h c (by simp));obtain⟨h3,h4⟩:=JK (r:=r) fun c hc=>h c (by simp[hc]);exact⟨aha h1 h3,aha h2 h4⟩
end
def plc(J:Jb):List Int->List Int->List (List Int)
 | [],q=>[q]
 |c::r,q=>(Bv J c).flatMap fun j=>plc J r (q.set c.toNat j)
def Vx(D:List Dg)(q:List Int):List Int->S3->S3
 | [],t=>t
 |c::r,t=>Vx D q r (bM D t c (q.getD c.toNat 0))
theorem zW{q:List Int}{i k:Nat}{v:Int}:(q.set i v).getD k 0=if k=i∧i<q.length then v else q.getD k 0:=by
 simp only[List.getD,a9I];by_cases h:i=k
 .subst h;by_cases h2:i<q.length
  .simp[h2]
  simp[h2,a4B (show q.length<=i by omega)]
 rw[a0o (fun e:k=i∧i<q.length=>h e.1.symm)];simp[h]
theorem Nj{J:Jb}:∀{r q q':List Int},q'∈plc J r q->q'.length=q.length∧∀k,k∉r.map Int.toNat->q'.getD k 0=q.getD k 0
 | [],q,q',h=>by rw[plc,a2D]at h;subst h;exact⟨rfl,fun _ _=>rfl⟩
 |c::r,q,q',h=>by
  rw[plc,ae2]at h;obtain⟨j,_,h2⟩:=h;obtain⟨h3,h4⟩:=Nj h2;refine⟨by rw[h3,a4O],fun k hk=>?_⟩;rw[a4D,a1J,adJ]at hk;rw[h4 k hk.2,zW,a0o (fun h=>hk.1 h.1)]
section
variable {J:Jb} {n:Nat}
structure a0k(n:Nat)(r:List Int):Prop where
 nd:r.Nodup
 mem:∀c∈r,gJ c n
theorem a0k.tail{c:Int}{r:List Int}(h:a0k n (c::r)):a0k n r∧c.toNat∉r.map Int.toNat∧gJ c n:=by
 have h1:=a4J.1 h.nd;have hc:=h.mem c (by simp);refine⟨⟨h1.2,fun c hc=>h.mem c (by simp[hc])⟩,fun h2=>?_,hc⟩;obtain⟨d,h3,h4⟩:=a0H.1 h2;have hd:=h.mem d (by simp[h3]);have:d=c:=by have:=hc.1;have:=hd.1;omega
 exact h1.1 (this▸h3)
theorem a2l(ψ:S3->Int):∀{r:List Int} (q:List Int) (t:S3),a0k q.length r->y9 J ψ r t=eu (fun q'=>ψ (Vx J.D q' r t)) (plc J r q)
 | [],q,t,_=>by simp[y9,plc,Vx,eu]
 |c::r,q,t,ho=>by
  obtain⟨h1,h2,h3⟩:=ho.tail;rw[y9,plc,TW];refine qJ fun j _=>?_;rw[a2l ψ (q.set c.toNat j) _ (by rw[a4O];exact h1)];refine qJ fun q' hq=>?_;rw[Vx,(Nj hq).2 _ h2,zW,a0u ⟨rfl,by have:=h3.1;have:=h3.2;omega⟩]
theorem Vy:∀{r q q':List Int},a0k q.length r->(q'∈plc J r q↔q'.length=q.length∧(∀k,k∉r.map Int.toNat->q'.getD k 0=q.getD k 0)∧∀c∈r,q'.getD c.toNat 0∈Bv J c)
 | [],q,q',_=>by
  rw[plc,a2D];constructor
  .rintro rfl;exact⟨rfl,fun _ _=>rfl,fun _ h=>by cases h⟩
  rintro⟨h1,h2,_⟩;exact(pI (d:=0) h1).2 fun i _=>h2 i (by simp)
 |c::r,q,q',ho=>by
  obtain⟨h1,h2,h3⟩:=ho.tail;have hl:c.toNat<q.length:=by have:=h3.1;have:=h3.2;omega
  rw[plc,ae2];constructor
  .rintro⟨j,hj,h4⟩;obtain⟨h5,h6,h7⟩:=(Vy (by rw[a4O];exact h1)).1 h4;refine⟨by rw[h5,a4O],fun k hk=>?_,fun d hd=>?_⟩
   .rw[a4D,a1J,adJ]at hk;rw[h6 k hk.2,zW,a0o (fun h=>hk.1 h.1)]
   rcases a1J.1 hd with rfl|hd
   .rw[h6 _ h2,zW,a0u ⟨rfl,hl⟩];exact hj
   exact h7 d hd
  rintro⟨h4,h5,h6⟩;refine⟨q'.getD c.toNat 0,h6 c (by simp),(Vy (by rw[a4O];exact h1)).2 ⟨by rw[a4O];exact h4,fun k hk=>?_,fun d hd=>h6 d (by simp[hd])⟩⟩;rw[zW];split
  .rename_i h;rw[h.1]
  rename_i h;exact h5 k (by rw[a4D,a1J,adJ];exact⟨fun e=>h ⟨e,hl⟩,hk⟩)
theorem a0l(c:Int):(Bv J c).Nodup:=by
 unfold Bv;split
 .simp
 rw[List.Nodup,agd];exact List.nodup_range.imp fun h e=>h (by omega)
theorem TY:∀{r q:List Int},a0k q.length r->(plc J r q).Nodup
 | [],q,_=>by simp[plc]
 |c::r,q,ho=>by
  obtain⟨h1,h2,h3⟩:=ho.tail;have hl:c.toNat<q.length:=by have:=h3.1;have:=h3.2;omega
  rw[plc,List.Nodup,List.pairwise_flatMap];refine⟨fun j _=>TY (by rw[a4O];exact h1),(a0l (J:=J) c).imp fun{a b} hab x hx y hy e=>?_⟩;subst e;have e1:=(Nj hx).2 _ h2;have e2:=(Nj hy).2 _ h2;rw[zW,a0u ⟨rfl,hl⟩]at e1 e2;exact hab (e1.symm.trans e2)
end
def Iw(J:Jb):List (List Int):=((List.range (xZ J.s)).map fun(k:Nat)=>iw J.s k).filter fun q=>decide (ov J.g q=q)
section
variable {J:Jb} (hJ:jq J)
include hJ
theorem Vz{q:List Int}(hq:q.length=J.s.length):ov J.g q=q↔∀k,k<J.s.length->0<=J.g.getD k 0->J.g.getD k 0=q.getD k 0:=by
 have hg:=hJ.gl;have hl:(ov J.g q).length=q.length:=by simp[ov,aea,hg,hq]
 rw[pI (d:=0) hl];constructor
 .intro h k hk h0;have:=h k (by rw[hl,hq];exact hk);rw[JG (by rw[hg,hq]),a0u (by rw[hg];exact hk),a0u h0]at this;exact this
 intro h k hk;rw[hl,hq]at hk;rw[JG (by rw[hg,hq]),a0u (by rw[hg];exact hk)];split
 .exact h k hk ‹_›
 rfl
theorem Nk{q:List Int}:q∈(List.range (xZ J.s)).map (fun(k:Nat)=>iw J.s k)↔jK J.s q=true:=by
 have hc:(xZ J.s:Int)=bC J.s:=by
  have:=jo hJ.bU.sz;unfold xZ;omega
 constructor
 .intro h;obtain⟨k,_,rfl⟩:=a0H.1 h;exact uj _ hJ.bU.sz
 intro h;have:=DC h hJ.bU.sz;refine a0H.2 ⟨(jl J.s q).toNat,a4L.2 (by omega),?_⟩;rw[show((jl J.s q).toNat:Int)=jl J.s q by omega];exact Vd h hJ.bU.sz
theorem a3Z:((List.range (xZ J.s)).map (fun(k:Nat)=>iw J.s k)).Nodup:=by
 have hc:(xZ J.s:Int)=bC J.s:=by
  have:=jo hJ.bU.sz;unfold xZ;omega
 rw[List.Nodup,agd];refine List.Pairwise.imp_of_mem (fun{a b} ha hb h e=>h ?_) ae5;rw[a4L]at ha hb;have h1:=N9 hJ.bU.sz (n:=(a:Int)) (by omega) (by omega);have h2:=N9 hJ.bU.sz (n:=(b:Int)) (by omega) (by omega);have e:iw J.s (a:Int)=iw J.s (b:Int):=e;rw[e,h2]at h1;omega
theorem a8d:(plc J J.o (List.replicate J.s.length 0)).Perm (Iw J):=by
 obtain⟨o1,o2,o3⟩:=jq.o2 hJ;have ho:a0k (List.replicate J.s.length (0:Int)).length J.o:=⟨o1,fun c hc=>by rw[a7Y];exact o3 c hc⟩;unfold Iw;refine(a6L (TY ho) ((a3Z hJ).filter _)).2 fun q=>?_;rw[Vy ho,a8D,Nk hJ,a0N,a7Y];constructor
 .rintro⟨h1,h2,h3⟩;have key:∀k,k<J.s.length->(0<=q.getD k 0∧q.getD k 0<J.s.getD k 0)∧(0<=J.g.getD k 0->J.g.getD k 0=q.getD k 0):=fun k hk=>by
   have hc:gJ (k:Int) J.s.length:=aH hk;have:=h3 k (mF hJ.ord hc);rw[Yh hJ hc]at this;exact this
  exact⟨qo.2 ⟨h1,fun k hk=>(key k hk).1⟩,(Vz hJ h1).2 fun k hk=>(key k hk).2⟩
 rintro⟨h1,h2⟩;have hl:=rY h1;refine⟨hl,fun k hk=>?_,fun c hc=>?_⟩
 .have KA:J.s.length<=k:=by
   refine acr fun aQ=>hk ?_;exact a0H.2 ⟨(k:Int),mF hJ.ord (aH aQ),by simp⟩
  simp[List.getD,a4B (show q.length<=k by omega),a4B (show(List.replicate J.s.length (0:Int)).length<=k by simp;omega)]
 have qI:=o3 c hc;have aQ:c.toNat<J.s.length:=by have:=qI.1;have:=qI.2;omega
 rw[Yh hJ qI];exact⟨(qo.1 h1).2 _ aQ,(Vz hJ hl).1 h2 _ aQ⟩
theorem U0{q:List Int}(hq:jK J.s q=true):∀(r:List Int) (a:Nat) (t:S3),J.o.drop a=r->a<=J.o.length->Dp J a t->Dp J J.o.length (Vx J.D q r t)∧∀k,k<J.D.length->∀v,To (lC J.D k) q ((Vx J.D q r t).get k) v->To (lC J.D k) q (t.get k) v
 | [],a,t,hr,ha,hd=>by
  have:a=J.o.length:=by
   have:=congrArg List.length hr;rw[a3C,a5j]at this;omega
  subst this;exact⟨hd,fun _ _ _ h=>h⟩
 |c::r,a,t,hr,ha,hd=>by
  obtain⟨aQ,hoc,wU,G6,hci,qI⟩:=jq.at_ hJ hr;have YH:=(qo.1 hq).2 c.toNat (by have:=qI.1;have:=qI.2;omega);obtain⟨h1,h2⟩:=U0 hq r (a+1) _ wU aQ (nJ hJ hr hd YH);refine⟨h1,fun k hk v h=>?_⟩;have h4:=h2 k hk v h;rw[JD hJ.d3 t c _ hk]at h4;unfold LP at h4;split at h4
  .rename_i h5;obtain⟨h6,h7,_⟩:=Ip hJ hd hk h5;refine .step h6.1 ?_;rw[h7];exact h4
  exact h4
theorem Yi:Dp J 0 (eY J.D):=fun k hk=>by
 rw[wE hJ.d3 hk];exact⟨(hJ.dg k hk).t.root,a4Y _⟩
theorem afX{q:List Int}(hq:jK J.s q=true):aU J.D (Vx J.D q J.o (eY J.D))=J.D.map fun d=>kX d q:=by
 obtain⟨h1,h2⟩:=U0 hJ hq J.o 0 (eY J.D) aaC (a4Y _) (Yi hJ);unfold aU;refine(pI (d:=V0) (by simp)).2 fun k hk=>?_;rw[a4K,a9a]at hk;have hd:=hJ.dg k hk;have h3:=JF hJ h1 hk;have h4:=h2 k hk _ (.fin h3.1);rw[wE hJ.d3 hk]at h4;have h6:=h4.at_ hd.t (by rw[hd.s];exact hq) 6001 (by have:=hd.t.root.1;have:=hd.n;omega) hd.t.root;have e1:((List.range J.D.length).map fun k=>qp (lC J.D k) ((Vx J.D q J.o (eY J.D)).get k)).getD k V0=qp (lC J.D k) ((Vx J.D q J.o (eY J.D)).get k):=by simp[List.getD,hk]
 have e2:(J.D.map fun d=>kX d q).getD k V0=kX (lC J.D k) q:=by simp[List.getD,hk]
 rw[e1,e2];exact h6
theorem ab4(ψ:List V->Int):y9 J (fun t=>ψ (aU J.D t)) J.o (eY J.D)=eu (fun q=>ψ (J.D.map fun d=>kX d q)) (Iw J):=by
 obtain⟨o1,o2,o3⟩:=jq.o2 hJ;rw[a2l _ (List.replicate J.s.length 0) _ ⟨o1,fun c hc=>by rw[a7Y];exact o3 c hc⟩,JI _ (a8d hJ)];refine qJ fun q hq=>?_;unfold Iw at hq;rw[a8D,Nk hJ]at hq;rw[afX hJ hq.1]
end
end Go.Proofs.YtmobpoiejckagaaGreat
namespace Pv
open Go Tw
section
variable {X:l7} {P:Program} {kt:TypeId} {α:Type} [DecidableEq α] (C:pJ X P kt α)
theorem pJ.akL{l:List (α×PV X.Γ)}{x:α}{v:PV X.Γ}{j:Nat}(hb:Instr.sameBits 10000 (C.v x) (C.v x)=true)(hn:(l.map (·.1)).Nodup)(h:l[j]? = some (x,v)):a6h X P kt (C.es l) (C.tv x) (C.pv x) v j:=by
 obtain⟨hj,e⟩:=a05.1 h;have hxj:(l.map (·.1))[j]? = some x:=by simp[a0b hj,e]
 refine⟨C.v x,_,C.tv x,C.v x,C.ht x,C.hc false x,C.pk l,?_,?_,?_,C.ht x,hb⟩
 .have hu:∀(i:Nat) y,(l.map (·.1))[i]? = some y->decide (x=y)=(some i==some j):=fun i y hy=>by
   rw[a4T];simp only[a0N,a6v,a04];constructor
   .rintro rfl;have i1:=a05.1 hy;have i2:=a05.1 hxj;exact(aa2 hn (h₀:=i1.1) (h₁:=i2.1)).1 (i1.2.trans i2.2.symm)
   rintro rfl;rw[hxj]at hy;exact a9j hy
  refine C.find x _ (some j) ?_ hu;rw[a9Y];refine⟨by simpa using hj,by simp[e],fun i hi=>?_⟩;have hil:i<(l.map (·.1)).length:=by simp;omega
  rw[hu i _ (a0b hil)];simp;omega
 .simp[pJ.es,a0b hj,e]
 simp[a0b hj,e]
theorem pJ.newP{l:List (α×PV X.Γ)}{x:α}{v:PV X.Γ}(h:x∉l.map (·.1)):aer X P kt (C.es (l++[(x,v)])) (C.tv x) l.length:=by
 refine⟨C.v x,_,C.ht x,C.pk _,?_⟩;have hu:∀(i:Nat) y,((l++[(x,v)]).map (·.1))[i]? = some y->decide (x=y)=(some i==some l.length):=fun i y hy=>by
  rw[a4C]at hy;rcases a4E i l.length with hi|hi
  .rw[a0g (by simpa using hi)]at hy;have:¬x=y:=fun e=>h (e▸a4N hy);rw[aez this];have:¬i=l.length:=(by omega);simp[this]
  rw[a0G (by simpa using hi)]at hy;have Kw:i=l.length:=by
   have:=(a05.1 hy).1;simp at this;omega
  subst Kw;simp at hy;subst hy;simp
 refine C.find x _ (some l.length) ?_ hu;rw[a9Y];refine⟨by simp,by simp,fun i hi=>?_⟩;have hil:i<((l++[(x,v)]).map (·.1)).length:=by simp;omega
 rw[hu i _ (a0b hil)];simp;omega
abbrev pJ.im(m:List (α×Int)):List (PV X.Γ×PV X.Γ):=C.es (m.map fun e=>(e.1,.int .i64 e.2))
theorem pJ.qg(m:List (α×Int)):(C.im m).length=m.length:=by simp[pJ.im,pJ.es]
theorem pJ.BA(m:List (α×Int))(j:Nat):(C.im m)[j]? = (m[j]?).map fun e=>(C.pv e.1,.int .i64 e.2):=by
 simp[pJ.im,pJ.es,a4H];rfl
theorem zX{Y:l7}(m:List (α×Int)):((m.map fun e=>(e.1,(PV.int .i64 e.2:PV Y.Γ))).map (·.1))=m.map (·.1):=by simp
theorem afY{m:List (α×Int)}{j:Nat}{f:Int->Int}{v:Int}(h:∀e,m[j]? = some e->f e.2=v):Je (C.im m) j (.int .i64 v)=C.im (m.modify j fun e=>(e.1,f e.2)):=by
 unfold Je;refine a9Q fun i=>?_;rw[ae3,C.BA,C.BA,ae3];by_cases e:j=i
 .subst e;cases h2:m[j]? with
  |none=>simp[h2]
  |some x=>simp[h2,h x h2]
 simp[e]
theorem afZ{m:List (α×Int)}{x:α}{z v:Int}:Je (C.im m++[(C.pv x,.int .i64 z)]) (C.im m).length (.int .i64 v)=C.im (m++[(x,v)]):=by
 have:C.im (m++[(x,v)])=C.im m++[(C.pv x,.int .i64 v)]:=by simp[pJ.im,pJ.es]
 rw[this];unfold Je;generalize C.im m=l;refine a9Q fun i=>?_;rw[ae3];rcases Nat.lt_trichotomy i l.length with h|h|h
 .rw[a0g h,a0g h];simp[show ¬l.length=i by omega]
 .subst h;simp
 rw[a4B (by simp;omega),a4B (by simp;omega)];rfl
theorem pJ.VA{m:List (α×Int)}{k:α}{n:Int}(hb:Instr.sameBits 10000 (C.v k) (C.v k)=true)(hn:(m.map (·.1)).Nodup)(h:k∈m.map (·.1))(hw:∀e∈m,i64.wrap (e.2+n)=e.2+n) :
  ∃j old,qG X P kt (C.im m) (C.tv k) (.int .i64 old)∧a6h X P kt (C.im m) (C.tv k) (C.pv k) (.int .i64 old) j∧j<(C.im m).length∧Je (C.im m) j (.int .i64 (i64.wrap (old+n)))=C.im (bZ.sK m k n):=by
 have aQ:=a4S.2 h;have a6r:(m.map (·.1)).idxOf k<m.length:=by simpa using aQ
 have hk:m[(m.map (·.1)).idxOf k]? = some (k,m[(m.map (·.1)).idxOf k].2):=by
  rw[a0b a6r];have:=a8N aQ;rw[a9e]at this;exact congrArg some (aaD this rfl)
 have a2J:(k,m[(m.map (·.1)).idxOf k].2)∈m:=a4N hk;refine⟨(m.map (·.1)).idxOf k,m[(m.map (·.1)).idxOf k].2,C.found (by rw[zX];exact hn) (a0H.2 ⟨_,a2J,rfl⟩),C.akL hb (by rw[zX];exact hn) (by rw[a4H,hk];rfl),by rw[C.qg];exact a6r,?_⟩;rw[hw _ a2J];unfold bZ.sK;rw[a0u h];exact afY C (f:=fun x=>x+n) fun e he=>by rw[hk]at he;cases he;rfl
theorem pJ.VB{m:List (α×Int)}{k:α}{n:Int}(h:k∉m.map (·.1))(hw:i64.wrap (0+n)=n) :
  o9 X P kt (C.im m) (C.tv k)∧aer X P kt (C.im m++[(C.pv k,(PV.int .i64 0:PV X.Γ))]) (C.tv k) (C.im m).length∧(C.im m).length<(C.im m++[(C.pv k,(PV.int .i64 0:PV X.Γ))]).length∧Je (C.im m++[(C.pv k,.int .i64 0)]) (C.im m).length (.int .i64 (i64.wrap (0+n)))=C.im (bZ.sK m k n):=by
 refine⟨C.fresh (by rw[zX];exact h),?_,by simp,?_⟩
 .have:=C.newP (l:=m.map fun e=>(e.1,(PV.int .i64 e.2:PV X.Γ))) (x:=k) (v:=.int .i64 0) (by rw[zX];exact h);rw[C.qg];simpa[pJ.im,pJ.es]using this
 rw[hw,afZ];unfold bZ.sK;rw[a0o h]
end
end Pv
namespace Go.Proofs.YtmobpoiejckagaaGreat
open Go Tw Pv bZ
abbrev wSk(H:List (PB aG))(s:S3)(r:Int)(x:List (Nat×PE aG)):aS aG:=⟨[(1,xi r),(2,.val (.ptr 2 0 5)),(3,.val (.ptr 1 0 5)),(4,.val (.ptr 3 0 1)),(5,.val (.ptr 4 0 1)),(6,.loc 0 0)]++x,[s.ps],H⟩
def QX(D:List Dg)(t:S3):List Int->Nat
 | []=>0
 |c::r=>if jX D t c=true then 0 else QX D t r+1
def QY(J:Jb)(t:S3)(i:Int):Int⊕Int:=if decide (i<(J.o.length:Int))=true then(if(!(jX J.D t (J.o.getD i.toNat 0)))=true then .inl (i64.wrap (i+1))else .inr i)else .inr i
theorem a8e{J:Jb}(hJ:jq J)(t:S3):∀(r:List Int) (a:Nat),J.o.drop a=r->a<=J.o.length->itF (QY J t) (r.length+1) (a:Int)=some ((a+QX J.D t r:Nat):Int)
 | [],a,hr,ha=>by
  have:a=J.o.length:=by
   have:=congrArg List.length hr;rw[a3C,a5j]at this;omega
  have e:QY J t (a:Int)=.inr (a:Int):=by unfold QY;rw[a0o (by simp;omega)]
  rw[a5j,itF,e];rfl
 |c::r,a,hr,ha=>by
  obtain⟨aQ,hoc,wU,_⟩:=jq.at_ hJ hr;have hl:=hJ.bU.len;have RJ:=(jq.o2 hJ).2.1;have e:QY J t (a:Int)=if(!(jX J.D t c))=true then .inl (i64.wrap ((a:Int)+1))else .inr (a:Int):=by
   unfold QY;rw[a0u (by simp;omega),a4Z,hoc]
  rw[a4v,itF,e];cases h:jX J.D t c
  .simp only[aal,a2k];have ew:i64.wrap ((a:Int)+1)=((a+1:Nat):Int):=by rw[fJ (by omega) (by omega)];omega
   have:=a8e hJ t r (a+1) wU aQ;simp only[ew,QX,h];rw[this];simp;omega
  simp[QX,h]
theorem apI{M f:Nat}{J:Jb}(hJ:jq J){t:S3}{x:Mk}(r:List Int){a:Nat}(hr:J.o.drop a=r)(ha:a<=J.o.length)(hd:Dp J a t):Px (M+1) 126 0 7 (wSk (HM0 J f x) t a []) (.exit 0) (wSk (HM0 J f x) t ((a+QX J.D t r:Nat):Int) [(32,xl false)]):=by
 have QH:=a8e hJ t r a hr ha;have RJ:=(jq.o2 hJ).2.1;have hl:=hJ.bU.len;refine a03 (st:=fun i=>wSk (HM0 J f x) t i []) (g:=QY J t) (out:=fun i=>(.exit 0,wSk (HM0 J f x) t i [(32,xl false)])) (fun i=>0<=i∧i<=J.o.length) QH (by kernel_rfl) (by have:=congrArg List.length hr;rw[a3C]at this;unfold LL;omega) ⟨by omega,by omega⟩ ?_ ?_
 .intro i i1 hi e;unfold QY at e;split at e
  .rename_i c;have c:i<(J.o.length:Int):=(by simpa using c);split at e
   .cases e;rw[fJ (by omega) (by omega)];omega
   cases e
  cases e
 intro i m i' hi ih;have hs:=a7V (M:=M) (f:=f) (a:=[]) (cc:=[]) (H:=[]) J t (J.o.getD i.toNat 0) hJ.d3 (fun k hk h=>⟨by simpa using h,(hd k hk).1.1⟩);by_cases c:i<(J.o.length:Int)
 .have t1:decide (i<(J.o.length:Int))=true:=by simpa using c
  have i1:gJ i J.o.length:=⟨hi.1,c⟩;cases hq:jX J.D t (J.o.getD i.toNat 0)
  .have e:QY J t i=.inl (i64.wrap (i+1)):=by unfold QY;rw[a0u t1,hq];rfl
   rw[hq]at hs;have g:=ih _ e;rw[e];exact aO gy (.b t1 (.o i1 (.fr [] hs (.b (rfl:(!false)=true) (.go g)))))
  have e:QY J t i=.inr i:=by unfold QY;rw[a0u t1,hq];rfl
  rw[hq]at hs;rw[e];dsimp only[Du];exact aO gy (.b t1 (.o i1 (.fr [] hs (.b (rfl:(!true)=false) .ex))))
 have t1:decide (i<(J.o.length:Int))=false:=by simpa using c
 have e:QY J t i=.inr i:=by unfold QY;rw[a0o (by rw[t1];simp)]
 rw[e];dsimp only[Du];exact aO gy (.b t1 .ex)
theorem apJ{M f:Nat}(u:Int){J:Jb}(hJ:jq J){t:S3}{x:Mk}(r:List Int){a:Nat}(hr:J.o.drop a=r)(ha:a<=J.o.length)(hd:Dp J a t):Px (M+1) 126 0 8 (wSk (HM1 J f u x) t a []) (.exit 0) (wSk (HM1 J f u x) t ((a+QX J.D t r:Nat):Int) [(32,xl false)]):=by
 have QH:=a8e hJ t r a hr ha;have RJ:=(jq.o2 hJ).2.1;have hl:=hJ.bU.len;refine a03 (st:=fun i=>wSk (HM1 J f u x) t i []) (g:=QY J t) (out:=fun i=>(.exit 0,wSk (HM1 J f u x) t i [(32,xl false)])) (fun i=>0<=i∧i<=J.o.length) QH (by kernel_rfl) (by have:=congrArg List.length hr;rw[a3C]at this;unfold LL;omega) ⟨by omega,by omega⟩ ?_ ?_
 .intro i i1 hi e;unfold QY at e;split at e
  .rename_i c;have c:i<(J.o.length:Int):=(by simpa using c);split at e
   .cases e;rw[fJ (by omega) (by omega)];omega
   cases e
  cases e
 intro i m i' hi ih;have hs:=a7V (M:=M) (f:=f) (a:=[]) (cc:=[.ptr 0 0 1]) (H:=[.aF [.int .u8 u]]) J t (J.o.getD i.toNat 0) hJ.d3 (fun k hk h=>⟨by simpa using h,(hd k hk).1.1⟩);by_cases c:i<(J.o.length:Int)
 .have t1:decide (i<(J.o.length:Int))=true:=by simpa using c
  have i1:gJ i J.o.length:=⟨hi.1,c⟩;cases hq:jX J.D t (J.o.getD i.toNat 0)
  .have e:QY J t i=.inl (i64.wrap (i+1)):=by unfold QY;rw[a0u t1,hq];rfl
   rw[hq]at hs;have g:=ih _ e;rw[e];exact aO gy (.b t1 (.o i1 (.fr [5] hs (.b (rfl:(!false)=true) (.go g)))))
  have e:QY J t i=.inr i:=by unfold QY;rw[a0u t1,hq];rfl
  rw[hq]at hs;rw[e];dsimp only[Du];exact aO gy (.b t1 (.o i1 (.fr [5] hs (.b (rfl:(!true)=false) .ex))))
 have t1:decide (i<(J.o.length:Int))=false:=by simpa using c
 have e:QY J t i=.inr i:=by unfold QY;rw[a0o (by rw[t1];simp)]
 rw[e];dsimp only[Du];exact aO gy (.b t1 .ex)
open Go Tw Pv bZ
theorem VD{J:Jb}(hJ:jq J){op:List V->V}{x:Mk}:∀(r:List Int) (a:Nat) (t:S3),J.o.drop a=r->a<=J.o.length->Dp J a t->jE J op r t x=jE J op (r.drop (QX J.D t r)) t x∧a+QX J.D t r<=J.o.length∧Dp J (a+QX J.D t r) t∧∀c r',r.drop (QX J.D t r)=c::r'->jX J.D t c=true
 | [],a,t,hr,ha,hd=>⟨rfl,ha,hd,fun _ _ h=>by cases h⟩
 |c::r,a,t,hr,ha,hd=>by
  obtain⟨aQ,hoc,wU,_⟩:=jq.at_ hJ hr;cases h:jX J.D t c
  .obtain⟨q1,q2,q3,q4⟩:=VD hJ (op:=op) (x:=x) r (a+1) t wU aQ (Vt hJ hr hd h);have e:QX J.D t (c::r)=QX J.D t r+1:=(by simp[QX,h]);rw[e];refine⟨?_,by omega,by rw[show a+(QX J.D t r+1)=a+1+QX J.D t r by omega];exact q3,q4⟩;rw[List.drop_succ_cons,<-q1]
   conv=>lhs;unfold jE
   rw[a0o (by rw[h];simp)]
  have e:QX J.D t (c::r)=0:=by simp[QX,h]
  rw[e];exact⟨rfl,ha,hd,fun c' r' h2=>by cases h2;exact h⟩
theorem VE{J:Jb}(hJ:jq J):∀(r:List Int) (n:Nat),(∀c∈r,gJ c J.s.length)->wO J.s (r.drop n)<=wO J.s r
 | [],n,_=>by simp
 |c::r,0,_=>a0x _
 |c::r,n+1,h=>by
  have h1:=VE hJ r n fun c hc=>h c (by simp[hc]);have hi:=h c (by simp);have hz:=hJ.bU.sz _ (dB (s:=J.s) (k:=c.toNat) (by have:=hi.1;have:=hi.2;omega));have:wO J.s r<=(J.s.getD c.toNat 0).toNat*wO J.s r:=adU _ (by omega);rw[List.drop_succ_cons];simp only[wO];omega
abbrev ab5(J:Jb)(f:Nat)(t:S3)(c:Int)(a:Int)(m:Mk)(ks:List Int)(i:Int)(y:List (Nat×PE aG)):aS aG:=⟨[(1,xi a),(2,.val (.ptr 2 0 5)),(3,.val (.ptr 1 0 5)),(4,.val (.ptr 3 0 1)),(5,.val (.ptr 4 0 1)),(6,.loc 0 0),(9,xi c),(13,.loc 1 0),(93,xi (J.s.getD c.toNat 0)),(94,xi i)]++y,[t.ps,[.int .i64 c,.own 9]],aaY J f m++[oI false false ks]⟩
theorem apK{M f:Nat}{J:Jb}(hJ:jq J){op:List V->V}{r:List Int}{t:S3}{c a:Int}(x:Mk)(hc:gJ c J.s.length)(Q:Nat->Mk->Prop)(h0:Q 0 x)(hq:∀j y,j<(J.s.getD c.toNat 0).toNat->Q j y->Q (j+1) (jE J op r (bM J.D t c j) y).2)
  (hk:∀j:Nat,j<(J.s.getD c.toNat 0).toNat->∀k,k<J.D.length->a2g (lC J.D k) (t.get k) c j)
  (hf:∀(j:Nat) y,j<(J.s.getD c.toNat 0).toNat->Q j y->aW X0 Qp (bT (M+1)) (.fn 126 [] pM) [.agg (bM J.D t c j).ps,.int .i64 (i64.wrap (a+1))] (HM0 J f y) (.int .i64 (jE J op r (bM J.D t c j) y).1) (aaY J f (jE J op r (bM J.D t c j) y).2)) :
  Px (M+1) 126 1 7 (ab5 J f t c a x [] 0 []) (.exit 2) (ab5 J f t c a (aT (Vr J.D (jE J op r) t c) (J.s.getD c.toNat 0).toNat 0 ([],x)).2 (aT (Vr J.D (jE J op r) t c) (J.s.getD c.toNat 0).toNat 0 ([],x)).1 (((J.s.getD c.toNat 0).toNat:Nat):Int) [(95,xl false)]):=by
 have hz:=hJ.bU.sz _ (dB (s:=J.s) (k:=c.toNat) (by have:=hc.1;have:=hc.2;omega));refine yH (σ:=List Int×Mk) (N:=(J.s.getD c.toNat 0).toNat) (g:=Vr J.D (jE J op r) t c) (s0:=([],x)) (st:=fun i y=>ab5 J f t c a y.2 y.1 i []) (fin:=fun y=>ab5 J f t c a y.2 y.1 (((J.s.getD c.toNat 0).toNat:Nat):Int) [(95,xl false)]) (fun j y=>y.1.length=j∧Q j y.2) (by kernel_rfl) (by unfold ah;omega) ⟨rfl,h0⟩ (fun j y hj hy=>⟨by simp[Vr,hy.1],hq j y.2 hj hy.2⟩) (fun j y hj hy m e p g=>?_) (fun y _=>?_)
 .have h1:=hf j y.2 hj hy.2;have ha:=JC (M:=M) (f:=f) (a:=[]) (cc:=[]) (H:=[]) J t c j hJ.d3 (hk j hj);have t1:decide ((j:Int)<J.s.getD c.toNat 0)=true:=by rw[a0N];omega
  have h3:=hy.1;unfold Vr at g;generalize jE J op r (bM J.D t c j) y.2=z at h1 g;obtain⟨v,z⟩:=z;exact aO gy (.b t1 (.fr [] ha (.fr [0,1,2,3,4,7,8] h1 (.o (show y.1.length+[v].length<=ah by simp only[a3J];unfold ah;omega) (.goG [.gc [10,11,13]] g)))))
 .have t1:decide ((((J.s.getD c.toNat 0).toNat:Nat):Int)<J.s.getD c.toNat 0)=false:=by rw[a2H];omega
  exact aO gy (.b t1 .ex)
open Go Tw Pv bZ
theorem Yj{k:List (S3×Int)}{t:S3}(hn:(k.map (·.1)).Nodup)(h:t∈k.map (·.1)):qG X0 Qp 148 (Io k) (.agg [.int .i64 t.a,.int .i64 t.b,.int .i64 t.c]) (.int .i64 (knS k t)):=by
 refine kS.found (x:=t) (by rw[a5D];exact hn) ?_;obtain⟨e,he,rfl⟩:=a0H.1 h;refine a0H.2 ⟨e,he,?_⟩;have:knS k e.1=e.2:=by
  have:k.find? (fun y=>decide (y.1=e.1))=some e:=by
   clear h
   induction k with
   |nil=>cases he
   |cons y l ih=>
    rw[a4D,a4J]at hn;rw[ah1];rcases a1J.1 he with rfl|he
    .simp
    have:¬y.1=e.1:=fun h=>hn.1 (a0H.2 ⟨e,he,h.symm⟩);rw[aez this];exact ih hn.2 he
  unfold knS;rw[this];rfl
 rw[this]
abbrev ag0(J:Jb)(op:List V->V)(f:Nat)(m:Nat)(r:List Int):Prop:=∀(a:Nat) (t:S3) (x:Mk),J.o.drop a=r->a<=J.o.length->Dp J a t->XOk J op x->x.e.length+wO J.s r<=ah->x.n.length+wO J.s r<=ah ->
  aW X0 Qp (bT m) (.fn 126 [] pM) [.agg t.ps,.int .i64 (a:Int)] (HM0 J f x) (.int .i64 (jE J op r t x).1) (aaY J f (jE J op r t x).2)
abbrev ag2(J:Jb)(f:Nat)(x:Mk)(v:V):List (PB aG):=[.map (Io x.k),.cells [lI J.s,lI J.o,.own 8,.own 6,.int .i64 0],.aF (J.ps (.fn f [] [])),.aF [.fn 126 [] pM],.aF [.map 0],.gone,QA x.n,.list true true 39 [v],Qz (x.e++[v])]
abbrev akM(J:Jb)(f:Nat)(x:Mk)(t:S3)(b:Br):List (PB aG):=[.map (Io x.k++[(.agg t.ps,.int .i64 (x.n.length:Int))]),.cells [lI J.s,lI J.o,.own 7,.own 11,.int .i64 0],.aF (J.ps (.fn f [] [])),.aF [.fn 126 [] pM],.aF [.map 0],.gone,.gone,Qz x.e,.gone,.gone,.list true true 105 [b],QA (x.n++[b])]
theorem adL{N f:Nat}{J:Jb}(hJ:jq J){op:List V->V}(jr:oL J op)(hs:∀l:List V,l.length=J.D.length->aW X0 Qp (bT (N+1)) (.fn f [] []) [lV l] [] (.agg (op l).ps) [])(r:List Int)(rec:∀c r',c::r' <:+ r->ag0 J op f (N+1) r'):ag0 J op f (N+2) r:=by
 intro a t x hr ha hd hx CV yw;unfold ah at CV yw;have RJ:=(jq.o2 hJ).2.1;have hl6:=hJ.bU.len;have lsk:=apI (M:=N) (f:=f) hJ (x:=x) r hr ha hd;obtain⟨q1,q2,q3,q4⟩:=VD hJ (op:=op) (x:=x) r a t hr ha hd;have hw:=VE hJ r (QX J.D t r) (fun c hc=>(jq.o2 hJ).2.2 c (a5q (by rw[hr];exact hc)));rw[q1];generalize QX J.D t r=n at lsk q1 q2 q3 q4 hw;have Gw:J.o.drop (a+n)=r.drop n:=by rw[<-hr,afJ]
 have a8f:r.drop n <:+ r:=List.drop_suffix _ _;have GU:=congrArg List.length Gw;rw[a3C]at GU;clear q1 hr;generalize a+n=i at lsk q2 q3 Gw GU;generalize r.drop n=r0 at q4 hw Gw a8f GU;cases r0 with
 |nil=>
  have e0:i=J.o.length:=by rw[a5j]at GU;omega
  have t0:((i:Int)==(J.o.length:Int))=true:=by rw[e0];simp
  rw[e0]at q3;have qE:(aU J.D t).length=J.D.length:=by simp[aU]
  have hce:=a2h (M:=N) (f:=f) J t hJ.d3 (fun k hk=>(JF hJ q3 hk).2);have hv:=hs (aU J.D t) qE;simp only[wO]at hw;have hb:x.e.length+[op (aU J.D t)].length<=ah:=by simp only[a3J];unfold ah;omega
  have h1:aW X0 Qp (bT (N+2)) (.fn 126 [] pM) [.agg t.ps,.int .i64 (a:Int)] (HM0 J f x) (.int .i64 (i64.wrap (0-((x.e++[op (aU J.D t)]).length:Int)))) (ag2 J f x (op (aU J.D t))):=
   fV gy (first:=[]) (cap:=pM) (.w lsk (.b t0 (.fr [] hce (.fr [] hv (.o hb .er)))))
  exact aW.gs hX h1 [.mv 6,.gc [8,9]] (by kernel_rfl)
 |cons c r'=>
  have t0:((i:Int)==(J.o.length:Int))=false:=by rw[a4v]at GU;simp;omega
  obtain⟨aQ,hoc,wU,G6,hci,qI⟩:=jq.at_ hJ Gw;have Bo:=q4 c r' rfl;have rc:=rec c r' a8f;have ia:gJ (i:Int) J.o.length:=⟨by omega,by omega⟩;have JL:J.o.getD (i:Int).toNat 0=c:=by rw[a4Z];exact hoc
  have ig:gJ (J.o.getD (i:Int).toNat 0) J.g.length:=by rw[JL,hJ.gl];exact qI
  have hz:=hJ.bU.sz _ (dB (s:=J.s) (k:=c.toNat) (by have:=qI.1;have:=qI.2;omega));have hri:∀c'∈r',gJ c' J.s.length:=fun c' h=>(jq.o2 hJ).2.2 c' (by rw[<-wU]at h;exact a5q h);have hw0:=Vp hJ.bU.sz hri;have hw1:wO J.s r'<=(J.s.getD c.toNat 0).toNat*wO J.s r':=adU _ (by omega);have ew:i64.wrap ((i:Int)+1)=((i+1:Nat):Int):=by rw[fJ (by omega) (by omega)];omega
  simp only[wO]at hw;unfold jE;rw[a0u Bo];cases tg:decide (J.g.getD c.toNat 0>=0)
  .rw[a0o (by simp)];have tg':decide (J.g.getD (J.o.getD (i:Int).toNat 0).toNat 0>=0)=false:=by rw[JL];exact tg
   by_cases hk:t∈x.k.map (·.1)
   .rw[a0u hk];have hF:qG X0 Qp 148 (Io x.k) (.agg [.int .i64 t.a,.int .i64 t.b,.int .i64 t.c]) (.int .i64 (knS x.k t)):=Yj hx.nd hk;have h1:aW X0 Qp (bT (N+2)) (.fn 126 [] pM) [.agg t.ps,.int .i64 (a:Int)] (HM0 J f x) (.int .i64 (knS x.k t)) (HM0 J f x):=
     fV gy (first:=[]) (cap:=pM) (.w lsk (.b t0 (.o ia (.o ig (.b tg' (.c (.int .i64 (knS x.k t)) [] hF (.b (rfl:true=true) .er)))))))
    exact aW.gs hX h1 [.mv 5,.mv 6] (by kernel_rfl)
   rw[a0o hk];have hm2:=Vu hJ Gw q3 Bo;have hF:o9 X0 Qp 148 (Io x.k) (.agg [.int .i64 t.a,.int .i64 t.b,.int .i64 t.c]):=kS.fresh (x:=t) (by simpa using hk);have is:gJ (J.o.getD (i:Int).toNat 0) J.s.length:=by rw[JL];exact qI
   have YK:∀j,j<(J.s.getD c.toNat 0).toNat->j*wO J.s r'+wO J.s r'<=(J.s.getD c.toNat 0).toNat*wO J.s r':=fun j hj=>by
    have:(j+1)*wO J.s r'<=(J.s.getD c.toNat 0).toNat*wO J.s r':=a3r _ hj;rw[a3l]at this;omega
   let Q:Nat->Mk->Prop:=fun j y=>XOk J op y∧y.e.length<=x.e.length+j*wO J.s r'∧y.n.length+j<=x.n.length+j*wO J.s r'∧∀e∈y.k,e∈x.k∨Dp J (i+1) e.1
   have hq:∀j y,j<(J.s.getD c.toNat 0).toNat->Q j y->Q (j+1) (jE J op r' (bM J.D t c j) y).2:=fun j y hj hy=>by
    obtain⟨y1,y2,y3,y4⟩:=hy;have YK:=YK j hj;have h:=TN hJ op jr r' (i+1) (bM J.D t c j) y wU aQ (nJ hJ Gw q3 ⟨by omega,by omega⟩) y1 (by omega) (by omega);have h3:=h.el;have h4:=h.nl;refine⟨h.ok,by rw[a3l];omega,by rw[a3l];omega,fun e he=>?_⟩;rcases h.ks e he with h5|h5
    .exact y4 e h5
    exact .inr h5
   have lp:=apK (M:=N) (f:=f) hJ (op:=op) (r:=r') (t:=t) (c:=c) (a:=(i:Int)) x qI Q ⟨hx,by simp,by simp,fun e he=>.inl he⟩ hq (fun j hj k hk=>JE hJ q3 ⟨by omega,by omega⟩ hk) (fun j y hj hy=>by
    obtain⟨y1,y2,y3,y4⟩:=hy;have YK:=YK j hj;rw[ew];exact rc (i+1) (bM J.D t c j) y wU aQ (nJ hJ Gw q3 ⟨by omega,by omega⟩) y1 (by unfold ah;omega) (by unfold ah;omega))
   have inv:=dw (g:=Vr J.D (jE J op r') t c) (m:=(J.s.getD c.toNat 0).toNat) (k:=0) (s:=([],x)) (fun j y=>Q j y.2) ⟨hx,by simp,by simp,fun e he=>.inl he⟩ (fun j y _ hj hy=>hq j y.2 (by omega) hy);rw[a3H]at inv;simp only[];generalize aT (Vr J.D (jE J op r') t c) (J.s.getD c.toNat 0).toNat 0 ([],x)=y at lp inv;obtain⟨ks,m⟩:=y;obtain⟨y1,y2,y3,y4⟩:=inv;have hnk:t∉m.k.map (·.1):=fun h=>by
    obtain⟨e,he,e2⟩:=a0H.1 h;rcases y4 e he with h1|h1
    .exact hk (a0H.2 ⟨e,h1,e2⟩)
    rw[e2]at h1;exact a0i hJ Gw Bo h1
   have hF2:o9 X0 Qp 148 (Io m.k) (.agg [.int .i64 t.a,.int .i64 t.b,.int .i64 t.c]):=kS.fresh (x:=t) (by simpa using hnk);have ek:Io m.k++[(.agg t.ps,.int .i64 (m.n.length:Int))]=Io (m.k++[(t,(m.n.length:Int))]):=by
    unfold Io pJ.es;rw[a4C,a4C];rfl
   have hF3:qG X0 Qp 148 (Io m.k++[(.agg t.ps,.int .i64 (m.n.length:Int))]) (.agg [.int .i64 t.a,.int .i64 t.b,.int .i64 t.c]) (.int .i64 (m.n.length:Int)):=by
    refine(congrArg (fun l:List (PV aG×PV aG)=>qG X0 Qp 148 l (.agg [.int .i64 t.a,.int .i64 t.b,.int .i64 t.c]) (.int .i64 (m.n.length:Int))) ek).mpr ?_;refine kS.found (x:=t) ?_ ?_
    .rw[a5D,show((fun e:S3×PV X0.Γ=>e.1)∘fun e:S3×Int=>(e.1,(PV.int .i64 e.2:PV X0.Γ)))=fun e=>e.1 from rfl,a4C];exact DV y1.nd hnk
    simp
   have hb:m.n.length+[(⟨c,ks⟩:Br)].length<=ah:=by
    simp only[a3J];have y3:m.n.length+(J.s.getD c.toNat 0).toNat<=x.n.length+(J.s.getD c.toNat 0).toNat*wO J.s r':=y3;unfold ah;omega
   have h1:aW X0 Qp (bT (N+2)) (.fn 126 [] pM) [.agg t.ps,.int .i64 (a:Int)] (HM0 J f x) (.int .i64 (m.n.length:Int)) (akM J f m t ⟨c,ks⟩):=by
    subst JL;exact fV gy (first:=[]) (cap:=pM) (.w lsk (.b t0 (.o ia (.o ig (.b tg' (.q (.bool false) hF (.b (rfl:false=false) (.o is (.wG [.mv 5,.mv 6,.a3h 1 1 3] lp (.q (.bool false) (kS.ck t) (.o hF2 (.o hb (.c (.int .i64 (m.n.length:Int)) [] hF3 .er)))))))))))))
   have h2:=aW.gs hX h1 [.gc [7,11]] (v':=.int .i64 (m.n.length:Int)) (H2:=[.map (Io m.k++[(.agg t.ps,.int .i64 (m.n.length:Int))]),.cells [lI J.s,lI J.o,.own 7,.own 8,.int .i64 0],.aF (J.ps (.fn f [] [])),.aF [.fn 126 [] pM],.aF [.map 0],.gone,.gone,Qz m.e,QA (m.n++[⟨c,ks⟩])]) (by kernel_rfl);exact(congrArg (fun l:List (PV aG×PV aG)=>aW X0 Qp (bT (N+2)) (.fn 126 [] pM) [.agg t.ps,.int .i64 (a:Int)] (HM0 J f x) (.int .i64 (m.n.length:Int)) [.map l,.cells [lI J.s,lI J.o,.own 7,.own 8,.int .i64 0],.aF (J.ps (.fn f [] [])),.aF [.fn 126 [] pM],.aF [.map 0],.gone,.gone,Qz m.e,QA (m.n++[⟨c,ks⟩])]) ek).mp h2
  rw[a0u rfl];have tg':decide (J.g.getD (J.o.getD (i:Int).toNat 0).toNat 0>=0)=true:=by rw[JL];exact tg
  have hg:0<=J.g.getD c.toNat 0:=by simpa using tg
  have haf:=JC (M:=N) (f:=f) (a:=[]) (cc:=[]) (H:=[]) J t c (J.g.getD c.toNat 0) hJ.d3 (fun k hk=>JE hJ q3 ⟨hg,hJ.gv c qI hg⟩ hk);have h2:=rc (i+1) (bM J.D t c (J.g.getD c.toNat 0)) x wU aQ (nJ hJ Gw q3 ⟨hg,hJ.gv c qI hg⟩) hx (by unfold ah;omega) (by unfold ah;omega);rw[<-ew]at h2;subst JL;exact fV gy (first:=[]) (cap:=pM) (.w lsk (.b t0 (.o ia (.o ig (.b tg' (.fr [] haf (.fr [0,1,2,3,4,5,6] h2 .er)))))))
theorem apP{N f:Nat}{J:Jb}(hJ:jq J){op:List V->V}(jr:oL J op)(hs:∀m,N<=m->∀l:List V,l.length=J.D.length->aW X0 Qp (bT m) (.fn f [] []) [lV l] [] (.agg (op l).ps) []):∀(F:Nat) (r:List Int),r.length<=F->ag0 J op f (N+F+2) r:=by
 intro F
 induction F with
 |zero=>
  intro r hF;refine adL hJ jr (hs _ (by omega)) r fun c r' h=>?_;have:=h.length_le;rw[a4v]at this;omega
 |succ F ih=>
  intro r hF;refine adL (N:=N+F+1) hJ jr (hs _ (by omega)) r fun c r' h=>ih r' ?_;have:=h.length_le;rw[a4v]at this;omega
open Go Tw Pv bZ
abbrev ab7(J:Jb)(f:Nat)(u:Int)(t:S3)(c:Int)(a:Int)(m:Mk)(ks:List Int)(i:Int)(y:List (Nat×PE aG)):aS aG:=⟨[(1,xi a),(2,.val (.ptr 2 0 5)),(3,.val (.ptr 1 0 5)),(4,.val (.ptr 3 0 1)),(5,.val (.ptr 4 0 1)),(6,.loc 0 0),(9,xi c),(13,.loc 1 0),(93,xi (J.s.getD c.toNat 0)),(94,xi i)]++y,[t.ps,[.int .i64 c,.own 10]],aaZ J f u m++[oI false false ks]⟩
theorem apQ{M f:Nat}{u:Int}{J:Jb}(hJ:jq J){op:List V->V}{r:List Int}{t:S3}{c a:Int}(x:Mk)(hc:gJ c J.s.length)(Q:Nat->Mk->Prop)(h0:Q 0 x)(hq:∀j y,j<(J.s.getD c.toNat 0).toNat->Q j y->Q (j+1) (jE J op r (bM J.D t c j) y).2)
  (hk:∀j:Nat,j<(J.s.getD c.toNat 0).toNat->∀k,k<J.D.length->a2g (lC J.D k) (t.get k) c j)
  (hf:∀(j:Nat) y,j<(J.s.getD c.toNat 0).toNat->Q j y->aW X0 Qp (bT (M+1)) (.fn 126 [] pM) [.agg (bM J.D t c j).ps,.int .i64 (i64.wrap (a+1))] (HM1 J f u y) (.int .i64 (jE J op r (bM J.D t c j) y).1) (aaZ J f u (jE J op r (bM J.D t c j) y).2)) :
  Px (M+1) 126 1 8 (ab7 J f u t c a x [] 0 []) (.exit 2) (ab7 J f u t c a (aT (Vr J.D (jE J op r) t c) (J.s.getD c.toNat 0).toNat 0 ([],x)).2 (aT (Vr J.D (jE J op r) t c) (J.s.getD c.toNat 0).toNat 0 ([],x)).1 (((J.s.getD c.toNat 0).toNat:Nat):Int) [(95,xl false)]):=by
 have hz:=hJ.bU.sz _ (dB (s:=J.s) (k:=c.toNat) (by have:=hc.1;have:=hc.2;omega));refine yH (σ:=List Int×Mk) (N:=(J.s.getD c.toNat 0).toNat) (g:=Vr J.D (jE J op r) t c) (s0:=([],x)) (st:=fun i y=>ab7 J f u t c a y.2 y.1 i []) (fin:=fun y=>ab7 J f u t c a y.2 y.1 (((J.s.getD c.toNat 0).toNat:Nat):Int) [(95,xl false)]) (fun j y=>y.1.length=j∧Q j y.2) (by kernel_rfl) (by unfold ah;omega) ⟨rfl,h0⟩ (fun j y hj hy=>⟨by simp[Vr,hy.1],hq j y.2 hj hy.2⟩) (fun j y hj hy m e p g=>?_) (fun y _=>?_)
 .have h1:=hf j y.2 hj hy.2;have ha:=JC (M:=M) (f:=f) (a:=[]) (cc:=[.ptr 0 0 1]) (H:=[.aF [.int .u8 u]]) J t c j hJ.d3 (hk j hj);have t1:decide ((j:Int)<J.s.getD c.toNat 0)=true:=by rw[a0N];omega
  have h3:=hy.1;unfold Vr at g;generalize jE J op r (bM J.D t c j) y.2=z at h1 g;obtain⟨v,z⟩:=z;exact aO gy (.b t1 (.fr [5] ha (.fr [0,1,2,3,4,5,8,9] h1 (.o (show y.1.length+[v].length<=ah by simp only[a3J];unfold ah;omega) (.goG [.gc [11,12,14]] g)))))
 .have t1:decide ((((J.s.getD c.toNat 0).toNat:Nat):Int)<J.s.getD c.toNat 0)=false:=by rw[a2H];omega
  exact aO gy (.b t1 .ex)
abbrev ag3(J:Jb)(op:List V->V)(f:Nat)(u:Int)(m:Nat)(r:List Int):Prop:=∀(a:Nat) (t:S3) (x:Mk),J.o.drop a=r->a<=J.o.length->Dp J a t->XOk J op x->x.e.length+wO J.s r<=ah->x.n.length+wO J.s r<=ah ->
  aW X0 Qp (bT m) (.fn 126 [] pM) [.agg t.ps,.int .i64 (a:Int)] (HM1 J f u x) (.int .i64 (jE J op r t x).1) (aaZ J f u (jE J op r t x).2)
abbrev ag4(J:Jb)(f:Nat)(u:Int)(x:Mk)(v:V):List (PB aG):=[.map (Io x.k),.cells [lI J.s,lI J.o,.own 9,.own 7,.int .i64 0],.aF (J.ps (.fn f [] [.ptr 5 0 1])),.aF [.fn 126 [] pM],.aF [.map 0],.aF [.int .u8 u],.gone,QA x.n,.list true true 39 [v],Qz (x.e++[v])]
abbrev akO(J:Jb)(f:Nat)(u:Int)(x:Mk)(t:S3)(b:Br):List (PB aG):=[.map (Io x.k++[(.agg t.ps,.int .i64 (x.n.length:Int))]),.cells [lI J.s,lI J.o,.own 8,.own 12,.int .i64 0],.aF (J.ps (.fn f [] [.ptr 5 0 1])),.aF [.fn 126 [] pM],.aF [.map 0],.aF [.int .u8 u],.gone,.gone,Qz x.e,.gone,.gone,.list true true 105 [b],QA (x.n++[b])]
theorem adM{N f:Nat}(u:Int){J:Jb}(hJ:jq J){op:List V->V}(jr:oL J op)(hs:∀l:List V,l.length=J.D.length->aW X0 Qp (bT (N+1)) (.fn f [] [.ptr 0 0 1]) [lV l] [.aF [.int .u8 u]] (.agg (op l).ps) [.aF [.int .u8 u]])(r:List Int)(rec:∀c r',c::r' <:+ r->ag3 J op f u (N+1) r'):ag3 J op f u (N+2) r:=by
 intro a t x hr ha hd hx CV yw;unfold ah at CV yw;have RJ:=(jq.o2 hJ).2.1;have hl6:=hJ.bU.len;have lsk:=apJ (M:=N) (f:=f) u hJ (x:=x) r hr ha hd;obtain⟨q1,q2,q3,q4⟩:=VD hJ (op:=op) (x:=x) r a t hr ha hd;have hw:=VE hJ r (QX J.D t r) (fun c hc=>(jq.o2 hJ).2.2 c (a5q (by rw[hr];exact hc)));rw[q1];generalize QX J.D t r=n at lsk q1 q2 q3 q4 hw;have Gw:J.o.drop (a+n)=r.drop n:=by rw[<-hr,afJ]
 have a8f:r.drop n <:+ r:=List.drop_suffix _ _;have GU:=congrArg List.length Gw;rw[a3C]at GU;clear q1 hr;generalize a+n=i at lsk q2 q3 Gw GU;generalize r.drop n=r0 at q4 hw Gw a8f GU;cases r0 with
 |nil=>
  have e0:i=J.o.length:=by rw[a5j]at GU;omega
  have t0:((i:Int)==(J.o.length:Int))=true:=by rw[e0];simp
  rw[e0]at q3;have qE:(aU J.D t).length=J.D.length:=by simp[aU]
  have hce:=aaX (M:=N) (f:=f) (u:=u) J t hJ.d3 (fun k hk=>(JF hJ q3 hk).2);have hv:=hs (aU J.D t) qE;simp only[wO]at hw;have hb:x.e.length+[op (aU J.D t)].length<=ah:=by simp only[a3J];unfold ah;omega
  have h1:aW X0 Qp (bT (N+2)) (.fn 126 [] pM) [.agg t.ps,.int .i64 (a:Int)] (HM1 J f u x) (.int .i64 (i64.wrap (0-((x.e++[op (aU J.D t)]).length:Int)))) (ag4 J f u x (op (aU J.D t))):=
   fV gy (first:=[]) (cap:=pM) (.w lsk (.b t0 (.fr [5] hce (.fr [5] hv (.o hb .er)))))
  exact aW.gs hX h1 [.mv 7,.gc [9,10]] (by kernel_rfl)
 |cons c r'=>
  have t0:((i:Int)==(J.o.length:Int))=false:=by rw[a4v]at GU;simp;omega
  obtain⟨aQ,hoc,wU,G6,hci,qI⟩:=jq.at_ hJ Gw;have Bo:=q4 c r' rfl;have rc:=rec c r' a8f;have ia:gJ (i:Int) J.o.length:=⟨by omega,by omega⟩;have JL:J.o.getD (i:Int).toNat 0=c:=by rw[a4Z];exact hoc
  have ig:gJ (J.o.getD (i:Int).toNat 0) J.g.length:=by rw[JL,hJ.gl];exact qI
  have hz:=hJ.bU.sz _ (dB (s:=J.s) (k:=c.toNat) (by have:=qI.1;have:=qI.2;omega));have hri:∀c'∈r',gJ c' J.s.length:=fun c' h=>(jq.o2 hJ).2.2 c' (by rw[<-wU]at h;exact a5q h);have hw0:=Vp hJ.bU.sz hri;have hw1:wO J.s r'<=(J.s.getD c.toNat 0).toNat*wO J.s r':=adU _ (by omega);have ew:i64.wrap ((i:Int)+1)=((i+1:Nat):Int):=by rw[fJ (by omega) (by omega)];omega
  simp only[wO]at hw;unfold jE;rw[a0u Bo];cases tg:decide (J.g.getD c.toNat 0>=0)
  .rw[a0o (by simp)];have tg':decide (J.g.getD (J.o.getD (i:Int).toNat 0).toNat 0>=0)=false:=by rw[JL];exact tg
   by_cases hk:t∈x.k.map (·.1)
   .rw[a0u hk];have hF:qG X0 Qp 148 (Io x.k) (.agg [.int .i64 t.a,.int .i64 t.b,.int .i64 t.c]) (.int .i64 (knS x.k t)):=Yj hx.nd hk;have h1:aW X0 Qp (bT (N+2)) (.fn 126 [] pM) [.agg t.ps,.int .i64 (a:Int)] (HM1 J f u x) (.int .i64 (knS x.k t)) (HM1 J f u x):=
     fV gy (first:=[]) (cap:=pM) (.w lsk (.b t0 (.o ia (.o ig (.b tg' (.c (.int .i64 (knS x.k t)) [] hF (.b (rfl:true=true) .er)))))))
    exact aW.gs hX h1 [.mv 6,.mv 7] (by kernel_rfl)
   rw[a0o hk];have hm2:=Vu hJ Gw q3 Bo;have hF:o9 X0 Qp 148 (Io x.k) (.agg [.int .i64 t.a,.int .i64 t.b,.int .i64 t.c]):=kS.fresh (x:=t) (by simpa using hk);have is:gJ (J.o.getD (i:Int).toNat 0) J.s.length:=by rw[JL];exact qI
   have YK:∀j,j<(J.s.getD c.toNat 0).toNat->j*wO J.s r'+wO J.s r'<=(J.s.getD c.toNat 0).toNat*wO J.s r':=fun j hj=>by
    have:(j+1)*wO J.s r'<=(J.s.getD c.toNat 0).toNat*wO J.s r':=a3r _ hj;rw[a3l]at this;omega
   let Q:Nat->Mk->Prop:=fun j y=>XOk J op y∧y.e.length<=x.e.length+j*wO J.s r'∧y.n.length+j<=x.n.length+j*wO J.s r'∧∀e∈y.k,e∈x.k∨Dp J (i+1) e.1
   have hq:∀j y,j<(J.s.getD c.toNat 0).toNat->Q j y->Q (j+1) (jE J op r' (bM J.D t c j) y).2:=fun j y hj hy=>by
    obtain⟨y1,y2,y3,y4⟩:=hy;have YK:=YK j hj;have h:=TN hJ op jr r' (i+1) (bM J.D t c j) y wU aQ (nJ hJ Gw q3 ⟨by omega,by omega⟩) y1 (by omega) (by omega);have h3:=h.el;have h4:=h.nl;refine⟨h.ok,by rw[a3l];omega,by rw[a3l];omega,fun e he=>?_⟩;rcases h.ks e he with h5|h5
    .exact y4 e h5
    exact .inr h5
   have lp:=apQ (M:=N) (f:=f) (u:=u) hJ (op:=op) (r:=r') (t:=t) (c:=c) (a:=(i:Int)) x qI Q ⟨hx,by simp,by simp,fun e he=>.inl he⟩ hq (fun j hj k hk=>JE hJ q3 ⟨by omega,by omega⟩ hk) (fun j y hj hy=>by
    obtain⟨y1,y2,y3,y4⟩:=hy;have YK:=YK j hj;rw[ew];exact rc (i+1) (bM J.D t c j) y wU aQ (nJ hJ Gw q3 ⟨by omega,by omega⟩) y1 (by unfold ah;omega) (by unfold ah;omega))
   have inv:=dw (g:=Vr J.D (jE J op r') t c) (m:=(J.s.getD c.toNat 0).toNat) (k:=0) (s:=([],x)) (fun j y=>Q j y.2) ⟨hx,by simp,by simp,fun e he=>.inl he⟩ (fun j y _ hj hy=>hq j y.2 (by omega) hy);rw[a3H]at inv;simp only[];generalize aT (Vr J.D (jE J op r') t c) (J.s.getD c.toNat 0).toNat 0 ([],x)=y at lp inv;obtain⟨ks,m⟩:=y;obtain⟨y1,y2,y3,y4⟩:=inv;have hnk:t∉m.k.map (·.1):=fun h=>by
    obtain⟨e,he,e2⟩:=a0H.1 h;rcases y4 e he with h1|h1
    .exact hk (a0H.2 ⟨e,h1,e2⟩)
    rw[e2]at h1;exact a0i hJ Gw Bo h1
   have hF2:o9 X0 Qp 148 (Io m.k) (.agg [.int .i64 t.a,.int .i64 t.b,.int .i64 t.c]):=kS.fresh (x:=t) (by simpa using hnk);have ek:Io m.k++[(.agg t.ps,.int .i64 (m.n.length:Int))]=Io (m.k++[(t,(m.n.length:Int))]):=by
    unfold Io pJ.es;rw[a4C,a4C];rfl
   have hF3:qG X0 Qp 148 (Io m.k++[(.agg t.ps,.int .i64 (m.n.length:Int))]) (.agg [.int .i64 t.a,.int .i64 t.b,.int .i64 t.c]) (.int .i64 (m.n.length:Int)):=by
    refine(congrArg (fun l:List (PV aG×PV aG)=>qG X0 Qp 148 l (.agg [.int .i64 t.a,.int .i64 t.b,.int .i64 t.c]) (.int .i64 (m.n.length:Int))) ek).mpr ?_;refine kS.found (x:=t) ?_ ?_
    .rw[a5D,show((fun e:S3×PV X0.Γ=>e.1)∘fun e:S3×Int=>(e.1,(PV.int .i64 e.2:PV X0.Γ)))=fun e=>e.1 from rfl,a4C];exact DV y1.nd hnk
    simp
   have hb:m.n.length+[(⟨c,ks⟩:Br)].length<=ah:=by
    simp only[a3J];have y3:m.n.length+(J.s.getD c.toNat 0).toNat<=x.n.length+(J.s.getD c.toNat 0).toNat*wO J.s r':=y3;unfold ah;omega
   have h1:aW X0 Qp (bT (N+2)) (.fn 126 [] pM) [.agg t.ps,.int .i64 (a:Int)] (HM1 J f u x) (.int .i64 (m.n.length:Int)) (akO J f u m t ⟨c,ks⟩):=by
    subst JL;exact fV gy (first:=[]) (cap:=pM) (.w lsk (.b t0 (.o ia (.o ig (.b tg' (.q (.bool false) hF (.b (rfl:false=false) (.o is (.wG [.mv 6,.mv 7,.a3h 1 1 3] lp (.q (.bool false) (kS.ck t) (.o hF2 (.o hb (.c (.int .i64 (m.n.length:Int)) [] hF3 .er)))))))))))))
   have h2:=aW.gs hX h1 [.gc [8,12]] (v':=.int .i64 (m.n.length:Int)) (H2:=[.map (Io m.k++[(.agg t.ps,.int .i64 (m.n.length:Int))]),.cells [lI J.s,lI J.o,.own 8,.own 9,.int .i64 0],.aF (J.ps (.fn f [] [.ptr 5 0 1])),.aF [.fn 126 [] pM],.aF [.map 0],.aF [.int .u8 u],.gone,.gone,Qz m.e,QA (m.n++[⟨c,ks⟩])]) (by kernel_rfl);exact(congrArg (fun l:List (PV aG×PV aG)=>aW X0 Qp (bT (N+2)) (.fn 126 [] pM) [.agg t.ps,.int .i64 (a:Int)] (HM1 J f u x) (.int .i64 (m.n.length:Int)) [.map l,.cells [lI J.s,lI J.o,.own 8,.own 9,.int .i64 0],.aF (J.ps (.fn f [] [.ptr 5 0 1])),.aF [.fn 126 [] pM],.aF [.map 0],.aF [.int .u8 u],.gone,.gone,Qz m.e,QA (m.n++[⟨c,ks⟩])]) ek).mp h2
  rw[a0u rfl];have tg':decide (J.g.getD (J.o.getD (i:Int).toNat 0).toNat 0>=0)=true:=by rw[JL];exact tg
  have hg:0<=J.g.getD c.toNat 0:=by simpa using tg
  have haf:=JC (M:=N) (f:=f) (a:=[]) (cc:=[.ptr 0 0 1]) (H:=[.aF [.int .u8 u]]) J t c (J.g.getD c.toNat 0) hJ.d3 (fun k hk=>JE hJ q3 ⟨hg,hJ.gv c qI hg⟩ hk);have h2:=rc (i+1) (bM J.D t c (J.g.getD c.toNat 0)) x wU aQ (nJ hJ Gw q3 ⟨hg,hJ.gv c qI hg⟩) hx (by unfold ah;omega) (by unfold ah;omega);rw[<-ew]at h2;subst JL;exact fV gy (first:=[]) (cap:=pM) (.w lsk (.b t0 (.o ia (.o ig (.b tg' (.fr [5] haf (.fr [0,1,2,3,4,5,6,7] h2 .er)))))))
theorem apR{N f:Nat}(u:Int){J:Jb}(hJ:jq J){op:List V->V}(jr:oL J op)(hs:∀m,N<=m->∀l:List V,l.length=J.D.length->aW X0 Qp (bT m) (.fn f [] [.ptr 0 0 1]) [lV l] [.aF [.int .u8 u]] (.agg (op l).ps) [.aF [.int .u8 u]]):∀(F:Nat) (r:List Int),r.length<=F->ag3 J op f u (N+F+2) r:=by
 intro F
 induction F with
 |zero=>
  intro r hF;refine adM u hJ jr (hs _ (by omega)) r fun c r' h=>?_;have:=h.length_le;rw[a4v]at this;omega
 |succ F ih=>
  intro r hF;refine adM (N:=N+F+1) u hJ jr (hs _ (by omega)) r fun c r' h=>ih r' ?_;have:=h.length_le;rw[a4v]at this;omega
end Go.Proofs.YtmobpoiejckagaaGreat
namespace Pv
open Go Tw
section
variable {X:l7} {P:Program}
theorem aW.akP(hX:bP X P){call:bf}{fv v:PV X.Γ}{xs:List (PV X.Γ)}{H H0 H1:List (PB X.Γ)}(gs:List G)(hs:aW X P call fv xs H0 v H1)(hg:lN H.length gs (⟨[],[],H⟩:aS X.Γ)=some ⟨[],[],H0⟩):aW X P call fv xs H v H1:=by
 intro A m h tf sJ hr hf hx;obtain⟨m2,q1,q2,q3⟩:=nM hX hg A (fun b=>b∈bD m) h.length m ⟨[],[],h,[]⟩ ⟨⟨hr,rfl,fun k c hk=>(by simp at hk),.nil⟩,fun b hb=>.inl hb,fun b hb=>(by cases hb),a0x _⟩;have up:Up m m2:=fun i mb hi=>q3 i mb (by rw[<-hr.len];exact(a05.1 hi).1) hi;obtain⟨w,h',ws,m1,k1,k2,k3,k4,k5,k6⟩:=hs A m2 h tf sJ q1.st.heap (hf.step q2 up) (hx.step q2 up);refine⟨w,h',ws,m1,k1,k2,k3,q2.trans k4,fun i mb hi=>?_,fun b hb=>?_⟩
 .rcases up i mb hi with g|g
  .exact k5 i mb g
  rcases k5 i _ g with g|g<;>exact .inr g
 have hb:=k6 b hb;rcases q1.own b hb with g|g
 .exact g
 have:=q1.st.heap.inb hb;have:b<h.length:=this;omega
end
end Pv
namespace Go.Proofs.YtmobpoiejckagaaGreat
open Go Tw Pv bZ
theorem Nl{n:Nat}(hO:Ok n Il)(l:List Int)(hl:l.length<=ah):aW X0 Qp (bT n) (.fn 125 [] []) [.dF 3 l false] [] (lI l) []:=
 have h0:=oN.aaH hX (hO 125 [.dF 3 l false] (.own 0) (lsI l) [l.length<=ah] (by kernel_rfl) (List.forall_mem_singleton.2 hl)) rfl rfl rfl rfl
 aW.cut hX (aW.fzR hX h0 [0] (v':=lI l) rfl (by decide)) rfl rfl rfl rfl
abbrev apS(J:Jb)(f:Nat)(x:Mk):List (PB aG):=[.map (Io x.k),.cells [lI J.s,lI J.o,.own 7,.own 8,.int .i64 0],.cells (J.ps (.fn f [] [])),.cells [.fn 126 [] pM],.cells [.map 0],.gone,.gone,Qz x.e,QA x.n]
theorem ab8{m f:Nat}(hO:Ok m Il)(J:Jb)(st:S3)(z:Int×Mk)
  (c1:aW X0 Qp (bT m) (.fn 125 [] []) [.dF 3 J.s false] [] (lI J.s) [])
  (c2:aW X0 Qp (bT m) (.fn 125 [] []) [.dF 3 J.o false] [] (lI J.o) [])
  (c3:aW X0 Qp (bT m) (.fn 130 [] []) [.agg (J.ps (.fn f [] []))] [] (.agg st.ps) [])
  (c5:aW X0 Qp (bT m) (.fn 126 [] pM) [.agg st.ps,.int .i64 (0:Int)] [.map [],.cells [lI J.s,lI J.o,.nil .slc,.nil .slc,.int .i64 0],.aF (J.ps (.fn f [] [])),.aF [.fn 126 [] pM],.aF [.map 0]] (.int .i64 z.1) (aaY J f z.2))
  (hr:Ew ⟨J.s,J.o,z.2.e,z.2.n,z.1⟩) (p1:J.s.length<=ah) (p2:J.o.length<=2^20) (p3:z.2.e.length<=ah) (p4:((bH ⟨J.s,J.o,z.2.e,z.2.n,z.1⟩).2 != 0)=false->ClP (bH ⟨J.s,J.o,z.2.e,z.2.n,z.1⟩).1) :
  aW X0 Qp (bT (m+1)) (.fn 80 [] []) [.agg (J.ps (.fn f [] []))] [] (dA.put (zT ⟨J.s,J.o,z.2.e,z.2.n,z.1⟩).1) []:=by
 obtain⟨v,e,n,k⟩:=z;have h0:aW X0 Qp (bT (m+1)) (.fn 80 [] []) [.agg (J.ps (.fn f [] []))] [] (dA.put (zT ⟨J.s,J.o,e,n,v⟩).1) ([]++[.cells (J.ps (.fn f [] [])),.cells [lI J.s,lI J.o,.own 7,.own 8,.int .i64 v],.map (Io k),.cells [.map 2],.cells [.fn 126 [] [.ptr 0 0 5,.ptr 1 0 5,.ptr 4 0 1,.ptr 3 0 1]],.gone,.gone,.gone,.gone]):=
  fV hO (first:=[]) (cap:=[]) (.fr [] c1 (.fr [] c2 (.fr [] c3 (.QK (H2:=apS J f ⟨e,n,k⟩) [2,1,0,4,3] [2,3,4] c5 (.o hr (.o p1 (.o p2 (.o p3 (.o p4 .er)))))))))
 exact aW.cut hX h0 rfl rfl rfl rfl
theorem ag5{N f:Nat}{J:Jb}(hJ:jq J){op:List V->V}(jr:oL J op)(hs:∀m,N<=m->∀l:List V,l.length=J.D.length->aW X0 Qp (bT m) (.fn f [] []) [lV l] [] (.agg (op l).ps) [])(hO:∀m,N<=m->Ok m Il){m:Nat}(hm:N+J.o.length+2<=m):aW X0 Qp (bT (m+1)) (.fn 80 [] []) [.agg (J.ps (.fn f [] []))] [] (dA.put (kY J op)) []:=by
 have hl:=hJ.bU.len;have RJ:=(jq.o2 hJ).2.1;have hw:=DT hJ.bU.sz hJ.ord;have hmn:=hJ.bU.many;have c1:=Nl (n:=m) (hO m (by omega)) J.s (by unfold ah;omega);have c2:=Nl (n:=m) (hO m (by omega)) J.o (by unfold ah;omega);obtain⟨m',rfl⟩:∃m',m=m'+1:=⟨m-1,by omega⟩;have c3:=a0h (M:=m') (f:=f) (a:=[]) (cc:=[]) (H:=[]) J hJ.d3;have c4:=apP (N:=m'+1-J.o.length-2) (f:=f) hJ jr (fun m2 h2=>hs m2 (by omega)) J.o.length J.o (a0x _) 0 (eY J.D) ⟨[],[],[]⟩ aaC (a4Y _) (fun k hk=>by
  rw[wE hJ.d3 hk];exact⟨(hJ.dg k hk).t.root,a4Y _⟩) ⟨⟨fun i hi=>(by simp at hi),fun i hi=>(by simp at hi),fun i hi=>(by simp at hi)⟩,fun e he=>(by cases he),a5v,fun v hv=>(by cases hv),fun b hb=>(by cases hb)⟩ (by show 0+wO J.s J.o<=ah;unfold ah;omega) (by show 0+wO J.s J.o<=ah;unfold ah;omega)
 rw[show m'+1-J.o.length-2+J.o.length+2=m'+1 by omega]at c4;have c5:=aW.akP hX (H:=[.map [],.cells [lI J.s,lI J.o,.nil .slc,.nil .slc,.int .i64 0],.aF (J.ps (.fn f [] [])),.aF [.fn 126 [] pM],.aF [.map 0]]) [.UL 1 2 39,.UL 1 3 105] c4 (by kernel_rfl);obtain⟨h1,h2,h3⟩:=wF hJ jr;have hr:=a81 hJ jr;have h4:(bH (jY J op)).2=0:=by rw[(Iq hJ jr).1]
 have h5:=xE hr (by unfold ah;omega) (by show J.s.length<=ah;unfold ah;omega) (by show J.o.length<=ah;unfold ah;omega) h4;have p1:J.s.length<=ah:=by unfold ah;omega
 have p2:J.o.length<=2^20:=by omega
 have p3:(jY J op).aI.length<=ah:=by unfold ah;omega
 have p4:((bH (jY J op)).2 != 0)=false->ClP (bH (jY J op)).1:=fun _=>by rw[h5.1];exact h5.2
 exact ab8 (hO (m'+1) (by omega)) J (eY J.D) (jE J op J.o (eY J.D) ⟨[],[],[]⟩) c1 c2 c3 c5 hr p1 p2 p3 p4
abbrev apT(J:Jb)(f:Nat)(u:Int)(x:Mk):List (PB aG):=[.map (Io x.k),.cells [lI J.s,lI J.o,.own 8,.own 9,.int .i64 0],.cells (J.ps (.fn f [] [.ptr 5 0 1])),.cells [.fn 126 [] pM],.cells [.map 0],.aF [.int .u8 u],.gone,.gone,Qz x.e,QA x.n]
theorem ab9{m f:Nat}(u:Int)(hO:Ok m Il)(J:Jb)(st:S3)(z:Int×Mk)
  (c1:aW X0 Qp (bT m) (.fn 125 [] []) [.dF 3 J.s false] [] (lI J.s) [])
  (c2:aW X0 Qp (bT m) (.fn 125 [] []) [.dF 3 J.o false] [] (lI J.o) [])
  (c3:aW X0 Qp (bT m) (.fn 130 [] []) [.agg (J.ps (.fn f [] [.ptr 0 0 1]))] [.aF [.int .u8 u]] (.agg st.ps) [.aF [.int .u8 u]])
  (c5:aW X0 Qp (bT m) (.fn 126 [] pM) [.agg st.ps,.int .i64 (0:Int)] [.map [],.cells [lI J.s,lI J.o,.nil .slc,.nil .slc,.int .i64 0],.aF (J.ps (.fn f [] [.ptr 5 0 1])),.aF [.fn 126 [] pM],.aF [.map 0],.aF [.int .u8 u]] (.int .i64 z.1) (aaZ J f u z.2))
  (hr:Ew ⟨J.s,J.o,z.2.e,z.2.n,z.1⟩) (p1:J.s.length<=ah) (p2:J.o.length<=2^20) (p3:z.2.e.length<=ah) (p4:((bH ⟨J.s,J.o,z.2.e,z.2.n,z.1⟩).2 != 0)=false->ClP (bH ⟨J.s,J.o,z.2.e,z.2.n,z.1⟩).1) :
  aW X0 Qp (bT (m+1)) (.fn 80 [] []) [.agg (J.ps (.fn f [] [.ptr 0 0 1]))] [.aF [.int .u8 u]] (dA.put (zT ⟨J.s,J.o,z.2.e,z.2.n,z.1⟩).1) [.aF [.int .u8 u]]:=by
 obtain⟨v,e,n,k⟩:=z;have h0:aW X0 Qp (bT (m+1)) (.fn 80 [] []) [.agg (J.ps (.fn f [] [.ptr 0 0 1]))] [.aF [.int .u8 u]] (dA.put (zT ⟨J.s,J.o,e,n,v⟩).1) ([.aF [.int .u8 u]]++[.cells (J.ps (.fn f [] [.ptr 0 0 1])),.cells [lI J.s,lI J.o,.own 8,.own 9,.int .i64 v],.map (Io k),.cells [.map 3],.cells [.fn 126 [] [.ptr 1 0 5,.ptr 2 0 5,.ptr 5 0 1,.ptr 4 0 1]],.gone,.gone,.gone,.gone]):=
  fV hO (first:=[]) (cap:=[]) (.fr [] c1 (.fr [] c2 (.fr [0] c3 (.QK (H2:=apT J f u ⟨e,n,k⟩) [3,2,1,5,4,0] [2,3,4] c5 (.o hr (.o p1 (.o p2 (.o p3 (.o p4 .er)))))))))
 exact aW.cut hX h0 rfl rfl rfl rfl
theorem ag6{N f:Nat}(u:Int){J:Jb}(hJ:jq J){op:List V->V}(jr:oL J op)(hs:∀m,N<=m->∀l:List V,l.length=J.D.length->aW X0 Qp (bT m) (.fn f [] [.ptr 0 0 1]) [lV l] [.aF [.int .u8 u]] (.agg (op l).ps) [.aF [.int .u8 u]])(hO:∀m,N<=m->Ok m Il){m:Nat}(hm:N+J.o.length+2<=m):aW X0 Qp (bT (m+1)) (.fn 80 [] []) [.agg (J.ps (.fn f [] [.ptr 0 0 1]))] [.aF [.int .u8 u]] (dA.put (kY J op)) [.aF [.int .u8 u]]:=by
 have hl:=hJ.bU.len;have RJ:=(jq.o2 hJ).2.1;have hw:=DT hJ.bU.sz hJ.ord;have hmn:=hJ.bU.many;have c1:=Nl (n:=m) (hO m (by omega)) J.s (by unfold ah;omega);have c2:=Nl (n:=m) (hO m (by omega)) J.o (by unfold ah;omega);obtain⟨m',rfl⟩:∃m',m=m'+1:=⟨m-1,by omega⟩;have c3:=a0h (M:=m') (f:=f) (a:=[]) (cc:=[.ptr 0 0 1]) (H:=[.aF [.int .u8 u]]) J hJ.d3;have c4:=apR (N:=m'+1-J.o.length-2) (f:=f) u hJ jr (fun m2 h2=>hs m2 (by omega)) J.o.length J.o (a0x _) 0 (eY J.D) ⟨[],[],[]⟩ aaC (a4Y _) (fun k hk=>by
  rw[wE hJ.d3 hk];exact⟨(hJ.dg k hk).t.root,a4Y _⟩) ⟨⟨fun i hi=>(by simp at hi),fun i hi=>(by simp at hi),fun i hi=>(by simp at hi)⟩,fun e he=>(by cases he),a5v,fun v hv=>(by cases hv),fun b hb=>(by cases hb)⟩ (by show 0+wO J.s J.o<=ah;unfold ah;omega) (by show 0+wO J.s J.o<=ah;unfold ah;omega)
 rw[show m'+1-J.o.length-2+J.o.length+2=m'+1 by omega]at c4;have c5:=aW.akP hX (H:=[.map [],.cells [lI J.s,lI J.o,.nil .slc,.nil .slc,.int .i64 0],.aF (J.ps (.fn f [] [.ptr 5 0 1])),.aF [.fn 126 [] pM],.aF [.map 0],.aF [.int .u8 u]]) [.UL 1 2 39,.UL 1 3 105] c4 (by kernel_rfl);obtain⟨h1,h2,h3⟩:=wF hJ jr;have hr:=a81 hJ jr;have h4:(bH (jY J op)).2=0:=by rw[(Iq hJ jr).1]
 have h5:=xE hr (by unfold ah;omega) (by show J.s.length<=ah;unfold ah;omega) (by show J.o.length<=ah;unfold ah;omega) h4;have p1:J.s.length<=ah:=by unfold ah;omega
 have p2:J.o.length<=2^20:=by omega
 have p3:(jY J op).aI.length<=ah:=by unfold ah;omega
 have p4:((bH (jY J op)).2 != 0)=false->ClP (bH (jY J op)).1:=fun _=>by rw[h5.1];exact h5.2
 exact ab9 u (hO (m'+1) (by omega)) J (eY J.D) (jE J op J.o (eY J.D) ⟨[],[],[]⟩) c1 c2 c3 c5 hr p1 p2 p3 p4
end Go.Proofs.YtmobpoiejckagaaGreat
namespace Pv
open Go Tw
section
variable {P:Program} {T:qQ} {call:bf} {cd:vJ} {L f:Nat} {fl nt:Nat}
def oM:Code->Bool
 |.rangeFunc ..=>false
 |.region _ ops _=>(Au ops).isNone
 |.seq a b=>oM a&&oM b
 |.cond _ a b=>oM a&&oM b
 |.block _ b=>oM b
 |.scope b=>oM b
 |.loop b=>oM b
 |_=>true
theorem a8h:∀(c:Code) {s s':St} {e:Ex} {Q:Ex->St->Prop},oM c=true->exec P T call L f false fl nt c s=some (e,s')->Q e s'->fH P T call cd L f fl nt c s Q:=by
 intro c
 induction c with
 |region id ops draw=>
  intro s s' e Q hn h hq;simp only[oM,Option.isNone_iff_eq_none]at hn;simp only[fH,hn];exact⟨_,_,h,hq⟩
 |seq x y WQ ihy=>
  intro s s' e Q hn h hq;simp only[oM,a1D]at hn;simp only[fH];simp only[exec]at h;split at h
  .rename_i s1 hx;exact WQ hn.1 hx (ihy hn.2 h hq)
  rename_i iI;refine WQ hn.1 h ?_;cases e with
  |norm=>exact(iI s' h).elim
  |exit i=>exact hq
  |ret=>exact hq
 |cond c x y WQ ihy=>
  intro s s' e Q hn h hq;simp only[oM,a1D]at hn;simp only[fH];simp only[exec]at h;split at h
  .rename_i hc;simp only[hc];exact WQ hn.1 h hq
  .rename_i hc;simp only[hc];exact ihy hn.2 h hq
  cases h
 |block id b ih=>
  intro s s' e Q hn h hq;simp only[oM]at hn;simp only[fH];simp only[exec]at h;split at h
  .rename_i i s1 hb;cases h;exact ih hn hb hq
  rename_i iI;refine ih hn h ?_;cases e with
  |exit i=>exact(iI i s' h).elim
  |norm=>exact hq
  |ret=>exact hq
 |scope b ih=>
  intro s s' e Q hn h hq;simp only[oM]at hn;simp only[fH];simp only[exec]at h;exact ih hn h hq
 |loop b ih=>
  intro s s' e Q hn h hq;simp only[oM]at hn;simp only[fH];simp only[exec]at h;have:∀(k:Nat) {s:St},iter (fun s=>exec P T call L f false fl nt b (kE (T.eU f (dZ b)) s)) k s=some (e,s')->H6 (fun s Q=>fH P T call cd L f fl nt b (kE (T.eU f (dZ b)) s) Q) k s Q:=by
   intro k
   induction k with
   |zero=>intro s h;simp[iter]at h
   |succ k ihk=>
    intro s h;simp only[iter]at h;split at h
    .rename_i s1 h1;exact ih hn h1 (ihk h)
    rename_i iI;refine ih hn h ?_;cases e with
    |norm=>exact(iI s' h).elim
    |exit i=>exact hq
    |ret=>exact hq
  exact this L h
 |rangeFunc=>intro s s' e Q hn;cases hn
 |_=>
  intro s s' e Q hn h hq;simp only[fH];exact⟨_,_,h,hq⟩
end
section
variable {X:l7} {P:Program} {T:qQ} {call:bf} {cd:vJ} {L f nt B:Nat}
def aK(X:l7)(P:Program)(T:qQ)(call:bf)(cd:vJ)(L f nt B:Nat)(c:Code)(ps:aS X.Γ)(Q:Ex->aS X.Γ->Prop):Prop:=
 ∀(A W:Nat->Prop) (fl:Nat) (m:List MB) (ts:St) (R:Ex->St->Prop),SR X P A W fl m ps ts->(∀e iP ps1 m1,Q e ps1->SR X P A W fl m1 ps1 iP->Fr m ts.heap m1 iP.heap->MZ B m m1->R e iP)->fH P T call cd L f fl nt c ts R
theorem aK.mono{c:Code}{ps:aS X.Γ}{Q Q':Ex->aS X.Γ->Prop}(hq:∀e s,Q e s->Q' e s)(h:aK X P T call cd L f nt B c ps Q):aK X P T call cd L f nt B c ps Q':=fun A W fl m ts R hS hR=>
 h A W fl m ts R hS fun e iP ps1 m1 a1=>hR e iP ps1 m1 (hq _ _ a1)
theorem dS.dem{c:Code}{ps ps1:aS X.Γ}{e:Ex}{Q:Ex->aS X.Γ->Prop}(hn:oM c=true)(h:dS X P T call L f false nt B c ps e ps1)(hq:Q e ps1):aK X P T call cd L f nt B c ps Q:=fun A W fl m ts R hS hR=>by
 obtain⟨iP,m1,h1,h2,h3,h4⟩:=h A W fl m ts hS;exact a8h c hn h1 (hR _ _ ps1 m1 hq h2 h3 h4)
theorem aK.seq{a b:Code}{ps:aS X.Γ}{Q R:Ex->aS X.Γ->Prop}(ha:aK X P T call cd L f nt B a ps R)(hb:∀s,R .norm s->aK X P T call cd L f nt B b s Q)(he:∀i s,R (.exit i) s->Q (.exit i) s)(hr:∀s,R .ret s->Q .ret s):aK X P T call cd L f nt B (.seq a b) ps Q:=fun A W fl m ts R' hS hR=>by
 simp only[fH];refine ha A W fl m ts _ hS fun e iP ps1 m1 a1 a2 a3 a4=>?_;cases e with
 |norm=>exact hb ps1 a1 A W fl m1 iP R' a2 fun e ts2 CU m2 b1 b2 b3 b4=>hR e ts2 CU m2 b1 b2 (a3.trans b3) (a4.trans b4)
 |exit i=>exact hR _ _ ps1 m1 (he _ _ a1) a2 a3 a4
 |ret=>exact hR _ _ ps1 m1 (hr _ a1) a2 a3 a4
theorem aK.block{id:Nat}{b:Code}{ps:aS X.Γ}{Q:Ex->aS X.Γ->Prop}(h:aK X P T call cd L f nt B b ps fun e s=>Q (match e with|.exit i=>if i=id then .norm else .exit i|e=>e) s):aK X P T call cd L f nt B (.block id b) ps Q:=fun A W fl m ts R hS hR=>by
 simp only[fH];exact h A W fl m ts _ hS fun e iP ps1 m1 a1 a2 a3 a4=>hR _ iP ps1 m1 a1 a2 a3 a4
theorem aK.loop{b:Code}{Q:Ex->aS X.Γ->Prop}(I:Nat->aS X.Γ->Prop)
  (h:∀k s,I k s->aK X P T call cd L f nt B b (gW X (T.eU f (dZ b)) s) fun e s=>match e with|.norm=>∃j,j<k∧I j s|e=>Q e s) {k:Nat} {ps:aS X.Γ} (hi:I k ps) (hk:k<L):aK X P T call cd L f nt B (.loop b) ps Q:=fun A W fl m ts R hS hR=>by
 simp only[fH];have key:∀(n k:Nat) (ps:aS X.Γ) (m1:List MB) (iP:St),k<n->I k ps->SR X P A W fl m1 ps iP->Fr m ts.heap m1 iP.heap->MZ B m m1->H6 (fun s Q=>fH P T call cd L f fl nt b (kE (T.eU f (dZ b)) s) Q) n iP R:=by
  intro n
  induction n with
  |zero=>intro k ps m ts hk;omega
  |succ n ih=>
   intro k ps m1 iP hk hi hS hF hU;simp only[H6];refine h k ps hi A W fl m1 _ _ (hS.head _) fun e ts2 CU m2 a1 a2 a3 a4=>?_;have a3:Fr m1 iP.heap m2 ts2.heap:=a3;cases e with
   |norm=>
    obtain⟨j,hj,Am⟩:=a1;exact ih j CU m2 ts2 (by omega) Am a2 (hF.trans a3) (hU.trans a4)
   |exit i=>exact hR _ _ CU m2 a1 a2 (hF.trans a3) (hU.trans a4)
   |ret=>exact hR _ _ CU m2 a1 a2 (hF.trans a3) (hU.trans a4)
 exact key L k ps m ts hk hi hS .refl Up.refl.b
theorem aK.cond{c:Operand}{a b:Code}{ps:aS X.Γ}{t:Bool}{Q:Ex->aS X.Γ->Prop}(hc:Ad ps.env c=some (.bool t))(h:aK X P T call cd L f nt B (if t then a else b) ps Q):aK X P T call cd L f nt B (.cond c a b) ps Q:=fun A W fl m ts R hS=>by
 obtain⟨x,g1,g2⟩:=jB hS.st.env hc;have hx:x=.bool t:=by
  cases g2 with
  |bool=>rfl
  |gone hi _ _=>simp[bn]at hi
 subst hx;simp only[fH,g1];cases t with
 |true=>exact h A W fl m ts R hS
 |false=>exact h A W fl m ts R hS
theorem aK.next{id it nx mo b r n:Nat}{seen:List Nat}{ops:Array Oper}{draw:Bool}{o1 o2:Oper}{ps:aS X.Γ}{es:List (PV X.Γ×PV X.Γ)}{Q:Ex->aS X.Γ->Prop}(hn:Au ops=some (it,nx,o1,o2))(hd:nx<nt)(ZP:mo<nt)
  (h2:o2.op=.extract (.tmp nx) 0) (h3:o2.dst=some mo) (h4:o2.guard=none)
  (QH:Ad ps.env (.tmp it)=some (.iter b)) (hb:ps.heap[b]? = some (.dn r n seen)) (hr:KI X ps.heap r=some es) (hl:es.length=n)
  (wH:(∀j,j<n->j∈seen)->Q .norm { ps with env:=jm (T.iG f id) ((mo,.val (.bool false))::(nx,.val (.dM [.bool false]))::ps.env) })
  (pick:∀j e,j∉seen->es[j]? = some e->Q .norm { ps with env:=jm (T.iG f id) ((mo,.val (.bool true))::(nx,.val (.dM [.bool true,e.1,e.2]))::ps.env),heap:=ps.heap.set b (.dn r n (j::seen)) }) :
  aK X P T call cd L f nt B (.region id ops draw) ps Q:=fun A W fl m ts R hS hR0=>by
 obtain⟨x,g1,g2⟩:=jB hS.st.env QH;obtain⟨mb,q1,q2⟩:=hS.st.heap.at_ b _ hb;obtain⟨cr,gq,q3,z1,z2,z3⟩:=Dj hS.st.heap hr;cases mb with
 |gu cb=>
   obtain⟨c,p1,p2,p3⟩:=q2;have:=p3 cr (by rcases q3 with q|⟨q,_⟩;exact .inl q;exact .inr q);subst this;cases g2 with
   |gone hi e _=>simp only[bn,a04]at hi;subst hi;rw[q1]at e;cases e
   |iter e1=>
    rw[q1]at e1;cases e1;have apU:dR it ts.env=some (.val (.iter cb)):=by
     unfold qV at g1;split at g1
     .rename_i v hv;cases g1;exact hv
     .cases g1
    have run:∀(s:St) (t:Bool) (vs:List TV),lH P call (fun d=>T.Ue f d) fl nt ops [o2] (s.put (some nx) (.val (.dM (.bool t::vs))))=some ({ s with env:=(mo,.val (.bool t))::(nx,.val (.dM (.bool t::vs)))::s.env },[cZ]):=by
     intro s t vs;have e1:NG nt o2=true:=(by simp[NG,h3,ZP]);have e2:∀env,CQ ops env o2=some true:=fun env=>(by simp[CQ,h4]);simp only[lH,e1,e2,a9f,a2u,a3q,pV,h2];simp[St.put,IJ,dR,h3,kC,cZ,yZ]
    simp only[fH,hn];refine⟨hd,cb,cr,n,seen,gq,apU,p1,z1,by rw[<-z2];exact hl,fun FM=>?_,fun j e hj he=>?_⟩
    .refine⟨_,_,run ts false [],hR0 _ _ { ps with env:=_ } m (wH FM) ?_ .refl Up.refl.b⟩;have hS2:vw X P A m { ps with env:=(mo,.val (.bool false))::(nx,.val (.dM [.bool false]))::ps.env } { ts with env:=(mo,.val (.bool false))::(nx,.val (.dM [.bool false]))::ts.env }:=
      ⟨hS.st.heap,hS.st.llen,hS.st.loc,.cons (.bool false) (.cons (bY.cons (.bool false) .nil |> fun h=>.dM h.1 h.2) hS.st.env)⟩
     exact SR.pick ⟨hS2,hS.own,hS.ws,hS.fl⟩ _
    .have aQ:j<es.length:=by rw[z2];exact(a05.1 he).1
     have hej:=a0b aQ;have hv:=z3 j _ _ hej he;have hcb:=(a05.1 p1).1;obtain⟨u1,u2⟩:=hS.st.heap.set (pb:=.dn r n (j::seen)) (hb:=.dn cr n (j::seen)) q1 (c:=cb) rfl (fun cs hc=>by simp[aV,p1]at hc) fun hF=>⟨cr,by simp[hcb],p2,p3⟩;refine⟨_,_,run _ true [e.1,e.2],hR0 _ _ { ps with env:=_,heap:=_ } m (pick j _ hj hej) ?_ u2 Up.refl.b⟩;have hS1:=hS.st.step u1 u2 .refl;have hS2:vw X P A m { ps with env:=(mo,.val (.bool true))::(nx,.val (.dM [.bool true,es[j].1,es[j].2]))::ps.env,heap:=ps.heap.set b (.dn r n (j::seen)) } { ts with env:=(mo,.val (.bool true))::(nx,.val (.dM [.bool true,e.1,e.2]))::ts.env,heap:=ts.heap.set cb (.dn cr n (j::seen)),ws:=kC fl [.h cb] ts.ws }:=
      ⟨hS1.heap,hS1.llen,hS1.loc,.cons (.bool true) (.cons (bY.cons (.bool true) (bY.cons (oh hv.1) (bY.cons (oh hv.2) .nil)) |> fun h=>.dM h.1 h.2) hS1.env)⟩
     refine SR.pick ⟨hS2,hS.own,fun b2 yw=>?_,by simpa using hS.fl⟩ _;rcases oV.1 yw with h5|⟨h5,h6⟩
     .exact hS.ws b2 h5
     .simp at h5;subst h5;exact(hS.own _ (bg q1 rfl)).resolve_right (by omega)
 |_=>exact q2.elim
def abb(X:l7)(P:Program)(cd:vJ)(fv:PV X.Γ)(xs:List (PV X.Γ))(H:List (PB X.Γ))(K:PV X.Γ->List (PB X.Γ)->Prop):Prop:=
 ∀(A:Nat->Prop) (m:List MB) (h:List HB) (tf:TV) (sJ:List TV) (R:TV->List HB->List Nat->Prop),HR X P A m H h->VR X P (AA A m) m h fv tf->bY X P (AA A m) m h xs sJ ->
  (∀w h1 ws m1 v H1,K v H1->HR X P A m1 H1 h1->VR X P (AA A m1) m1 h1 v w->Fr m h m1 h1->Up m m1->(∀b∈ws,b∈bD m)->R w h1 ws)->cd tf sJ h R
theorem a2m{n:Nat}{t:FnT}{first xs cap:List (PV X.Γ)}{H:List (PB X.Γ)}{K:PV X.Γ->List (PB X.Γ)->Prop}(hX:bP X P)(ht:Ud P f=some t)
  (hE:aK X P T (lF P T L n) D6 L f t.nt H.length t.body ⟨lG X 0 (first++xs++cap),[],H⟩ fun e s=>(e=.norm∨e=.ret)∧∃us,Fh X P s t.results=some us∧K (ZH X us) s.heap):abb X P (vg P T (lF P T L n) L) (.fn f first cap) xs H K:=by
 intro A m h tf sJ R hr hf O9 hR;cases hf with
 |gone hi _ _=>simp[bn]at hi
 |fn p1 p2 p3 p4=>
  rename_i a' c';have Fb:=(bY.app ⟨p1,p2⟩ O9).app ⟨p3,p4⟩;refine⟨t,ht,hE A (fun b=>b∈bD m) _ m _ _ ⟨⟨hr,rfl,fun k cs hk=>by simp at hk,N7 Fb⟩,fun b h1=>.inl h1,fun b hb=>(by cases hb),a0x _⟩ fun e iP ps1 m1 ⟨he,us,hus,hk⟩ h3 h4 h5=>?_⟩;obtain⟨ws,g1,g2⟩:=J7 hX h3.st hus;refine⟨he,ws,g1,hR _ _ _ m1 _ _ hk h3.st.heap (V6 g2) h4 (fun i mb hi=>h5 i mb ?_ hi) h3.ws⟩;rw[<-hr.len];exact(a05.1 hi).1
theorem aK.range(hX:bP X P){g:Operand}{qs:Array Nat}{uX body:Code}{ps:aS X.Γ}{f1:FuncId}{a1 b1:List (PV X.Γ)}{K:PV X.Γ->List (PB X.Γ)->Prop}{Q:Ex->aS X.Γ->Prop}
  (hg:Ad ps.env g=some (.fn f1 a1 b1)) (hd:T.din.contains f1=true) (FM:(ps.env.all fun p=>ZX p.2)=true)
  (apV:abb X P cd (.fn f1 a1 b1) [.kZ (ps.heap.length+1)] (ps.heap++[.mark]++[.loop true f nt ps.env qs.toList uX body none]) K)
  (hk:∀v H1,K v H1->∃rd f2 QC e2 CU a2 b2 jP e,H1[ps.heap.length+1]? = some (.loop rd f2 QC e2 CU a2 b2 jP)∧Rk rd jP=some e∧Q e { ps with heap:=H1.set (ps.heap.length+1) (.loop false f2 QC e2 CU a2 b2 (some .skip)) }) :
  aK X P T call cd L f nt B (.rangeFunc g qs uX body) ps Q:=by
 intro A W fl m ts R hS hR;obtain⟨tg,g1,g2⟩:=jB hS.st.env hg;have hm:=hS.st.heap.len;obtain⟨p1,p2,p3⟩:=hS.st.heap.push (pb:=.mark) (hb:=.mark) (mb:=.gu ts.heap.length) (.inl rfl) (by simp[BR]);obtain⟨q1,q2,q3⟩:=p1.push (pb:=.loop true f nt ps.env qs.toList uX body none) (hb:=.loop true f nt ts.env qs.toList uX body none) (mb:=.gu (ts.heap.length+1)) (.inl (by simp[MB.own])) (by
  refine⟨ts.env,by simp,?_⟩;refine ku.step (m:=m) (h:=ts.heap) (A:=A) ?_ ?_ hS.st.env
  .have r2:Fr (m++[MB.gu ts.heap.length]) (ts.heap++[HB.mark]) (m++[MB.gu ts.heap.length]++[MB.gu (ts.heap.length+1)]) (ts.heap++[HB.mark]++[HB.loop true f nt ts.env qs.toList uX body none]):=by
    refine⟨by simp,fun b hb _=>by rw[a0g hb],fun b hb=>?_,fun b cs hc=>⟨cs,?_,a0x _⟩⟩
    .rw[jk,a2L,kJ]at hb;rcases hb with hb|hb
     .exact .inl hb
     .simp[MB.own]at hb;subst hb;exact .inr (by simp)
    .rw[fO (a0g (gX hc)),hc]
   exact p2.trans r2
  .exact p3.trans (wZ _))
 have hF:=p2.trans q2;have hU:=p3.trans q3;have hyl:VR X P (AA A (m++[MB.gu ts.heap.length]++[MB.gu (ts.heap.length+1)])) (m++[MB.gu ts.heap.length]++[MB.gu (ts.heap.length+1)]) (ts.heap++[HB.mark]++[HB.loop true f nt ts.env qs.toList uX body none]) (.kZ (ps.heap.length+1)) (.kZ (ts.heap.length+1)):=by
  refine .kZ ?_;rw[<-hm,a0G (by simp)];simp
 have hg':∃a1' b1',tg=.fn f1 a1' b1':=by
  cases g2 with
  |gone hi _ _=>simp[bn]at hi
  |fn _ _ _ _=>exact⟨_,_,rfl⟩
 obtain⟨a1',b1',rfl⟩:=hg';have apY:a5L T ts.env g=true:=by unfold a5L;rw[g1];exact hd
 simp only[fH,apY,a2k];refine⟨f1,a1',b1',g1,a6M hS.st.env FM,?_⟩;rw[show ts.heap++[HB.mark,HB.loop true f nt ts.env qs.toList uX body none]=ts.heap++[HB.mark]++[HB.loop true f nt ts.env qs.toList uX body none] by simp];refine apV A _ _ _ [.kZ (ts.heap.length+1)] _ q1 (g2.step hF hU) (.cons hyl .nil) fun w h1 ws m1 v H1 OV c2 c3 c4 c5 c6=>?_;obtain⟨rd,f2,QC,e2,CU,a2,b2,jP,e,hl,hj,hq⟩:=hk v H1 OV;have hm1:m1[ps.heap.length+1]? = some (.gu (ts.heap.length+1)):=by
  rcases c5 (ps.heap.length+1) (.gu (ts.heap.length+1)) (by rw[<-hm,a0G (by simp)];simp)with e|e
  .exact e
  .obtain⟨mb,k1,k2⟩:=c2.at_ _ _ hl;rw[e]at k1;cases k1;exact k2.elim
 obtain⟨mb,k1,k2⟩:=c2.at_ _ _ hl;rw[hm1]at k1;cases k1;obtain⟨e2',k3,k4⟩:=k2;obtain⟨s1,s2⟩:=c2.set (i:=ps.heap.length+1) (c:=ts.heap.length+1) (pb:=.loop false f2 QC e2 CU a2 b2 (some .skip)) (hb:=.loop false f2 QC e2' CU a2 b2 (some .skip)) hm1 rfl (fun cs hc=>by unfold aV at hc;rw[k3]at hc;cases hc) (fun hF=>⟨e2',by rw[a1u (a05.1 k3).1],k4.step hF .refl⟩);have hF2:=hF.trans (c4.trans s2);have hU2:=hU.trans c5;refine⟨_,_,_,_,_,_,_,_,e,k3,hj,hR _ _ _ m1 hq ⟨?_,fun b hb=>?_,fun b hb=>?_,?_⟩ hF2 hU2.b⟩
 .have q:=hS.st.step s1 hF2 hU2;exact⟨q.heap,q.llen,q.loc,q.env⟩
 .rcases hF2.new b hb with k|k
  .exact hS.own b k
  .exact .inr (a5e hS.fl k)
 .rcases wz hb with k|⟨k,k'⟩
  .exact hS.ws b k
  .obtain⟨b',qR,e⟩:=a0H.1 k;cases e;rcases hF.new b (c6 b qR)with k2|k2
   .rcases hS.own b k2 with k3|k3
    .exact k3
    .omega
   .have:=hS.fl;omega
 .exact a5e hS.fl hF2.len
end
section
variable {X:l7} {P:Program} {A B:Nat->Prop} {m m' m1:List MB} {h h':List HB} {g:Nat->Option Nat}
def BQ:List (PB X.Γ)->Bool
 | []=>true
 |.aF _::H=>BQ H
 |.iL _::H=>BQ H
 |.gone::H=>BQ H
 |_=>false
theorem Yk:∀{H:List (PB X.Γ)},BQ H=true->∀(i:Nat) b,H[i]? = some b->BQ [b]=true
 | [],_,i,b,h=>by simp at h
 |a::H,hn,i,b,h=>by
  cases i with
  |zero=>simp at h;subst h;cases a<;>simp_all [BQ]
  |succ i=>
   have Eb:BQ H=true:=by cases a<;>simp_all [BQ]
   exact Yk Eb i b (by simpa using h)
theorem a0m{H:List (PB X.Γ)}(hn:BQ H=true)(hr:HR X P A m H h):bD m=[]:=by
 refine a6x.2 fun b hb=>?_;obtain⟨i,mb,h1,h2⟩:=kL hb;have hl:i<H.length:=by rw[<-hr.len];exact(a05.1 h1).1
 obtain⟨MP,g1,g2⟩:=hr.at_ i _ (a0b hl);rw[h1]at g1;cases g1;have h3:=Yk hn i _ (a0b hl);generalize H[i]=b9 at g2 h3;cases b9<;>first|(cases h3;done)|skip
 all_goals (cases mb<;>first|exact g2.elim|cases h2)
theorem Qh{v:PV X.Γ}{t:TV}(h:rH v=some t):(∀l,BX t l=l)∧(∀g,nV g t=some t)∧∀fl,LG fl t=t:=by
 cases v<;>simp only[rH,a04,reduceCtorEq]at h<;>subst h<;>exact⟨fun _=>rfl,fun _=>rfl,fun _=>rfl⟩
theorem yK:∀{vs:List (PV X.Γ)} {ts:List TV},iQ vs=some ts->(∀l,BX.F9 ts l=l)∧∀g,nV.zB g ts=some ts
 | [],ts,h=>by simp only[iQ,a04]at h;subst h;exact⟨fun _=>rfl,fun _=>rfl⟩
 |v::vs,ts,h=>by
  simp only[iQ]at h;split at h
  .rename_i a b h1 h2;cases h;have e1:=Qh h1;have e2:=yK h2;exact⟨fun l=>by simp only[BX.F9,e2.1,e1.1],fun g=>by simp only[nV.zB,e1.2.1,e2.2]⟩
  cases h
theorem Nq{v:PV X.Γ}{t:TV}(h:qy v=some t):(∀l,BX t l=l)∧(∀g,nV g t=some t)∧∀fl,LG fl t=t:=by
 unfold qy at h;split at h
 .simp only[a07]at h;obtain⟨ts,h1,rfl⟩:=h;have e:=yK h1;exact⟨fun l=>by simp only[BX,e.1],fun g=>by simp only[nV,e.2,a0B],fun _=>rfl⟩
 exact Qh h
def a4b(X:l7)(P:Program)(nK:Bool)(u:PV X.Γ)(Hs:List (PB X.Γ))(tv:Nat->TV)(tN:List HB):Prop:=
 ∀(A:Nat->Prop) (m:List MB) (h h1:List HB) (w:TV),HR X P A m Hs h1->VR X P (AA A m) m h1 u w->(∀b,b∈bD m->h.length<=b)->Om nK h w h1=some (tv h.length,h++tN)
theorem DY(hX:bP X P){T:qQ}{L n f:Nat}{t:FnT}{first xs cap:List (PV X.Γ)}{H N:List (PB X.Γ)}{v:PV X.Γ}{tv:Nat->TV}{tN:List HB}(hd:T.dem.contains f=true)(hx:T.exts.contains f=false)(ht:Ud P f=some t)(hN:BQ H=true)
  (Ot:∀A m h,HR X P A m H h->∃m1,HR X P A m1 (H++N) (h++tN)∧VR X P (AA A m1) m1 (h++tN) v (tv h.length)∧Fr m h m1 (h++tN)∧Up m m1)
  (hE:aK X P T (lF P T L n) (vg P T (lF P T L n) L) L f t.nt H.length t.body ⟨lG X 0 (first++xs++cap),[],H⟩ fun e s=>(e=.norm∨e=.ret)∧∃us,Fh X P s t.results=some us∧a4b X P (T.a9p.contains f) (ZH X us) s.heap tv tN):aW X P (lF P T L (n+1)) (.fn f first cap) xs H v (H++N):=by
 intro A m h tf sJ hr hf O9;cases hf with
 |gone hi _ _=>simp[bn]at hi
 |fn p1 p2 p3 p4=>
  rename_i a' c';have Fb:=(bY.app ⟨p1,p2⟩ O9).app ⟨p3,p4⟩;have hb:=a0m hN hr;have hS:SR X P A (fun _=>False) h.length m ⟨lG X 0 (first++xs++cap),[],H⟩ ⟨nZ 0 (a'++sJ++c'),[],h,[]⟩:=
   ⟨⟨hr,rfl,fun k cs hk=>by simp at hk,N7 Fb⟩,fun b h1=>(by rw[hb]at h1;cases h1),fun b hb=>(by cases hb),a0x _⟩
  have hO:WX P T (lF P T L n) L f t (a'++sJ++c') h (tv h.length,h++tN):=by
   refine hE A _ _ m _ _ hS fun e iP ps1 m1 ⟨he,us,hus,hpv⟩ h3 h4 h5=>?_;obtain⟨ws,g1,g2⟩:=J7 hX h3.st hus;exact⟨he,ws,g1,a6x.2 fun b hb=>h3.ws b hb,hpv A m1 h iP.heap _ h3.st.heap (V6 g2) fun b hb=>(h3.own b hb).resolve_left id⟩
  obtain⟨m1,q1,q2,q3,q4⟩:=Ot A m h hr;refine⟨tv h.length,h++tN,[],m1,?_,q1,q2,q3,q4,fun b hb=>by cases hb⟩;simp only[lF,hx,hd,a2u,a3q,a2k];exact a9J ht hO
theorem a0n{nK:Bool}{u:PV X.Γ}{Hs:List (PB X.Γ)}{tu:TV}(hu:qy u=some tu)(ht:∀cs,tu≠.dM cs):a4b X P nK u Hs (fun _=>tu) []:=fun A m h h1 w hr hw _=>by
 have:=jT hw hu;subst this;obtain⟨e1,e2,e3⟩:=Nq hu;have e4:UA h.length w=w:=by
  cases w with
  |dM cs=>exact absurd rfl (ht cs)
  |_=>exact e3 h.length
 unfold Om;simp only[e1,wV,e2,D7,e4,abV,a5R]
theorem abd(hX:bP X P){T:qQ}{L n f:Nat}{t:FnT}{first xs cap:List (PV X.Γ)}{H:List (PB X.Γ)}{v:PV X.Γ}{tv:TV}(hd:T.dem.contains f=true)(hx:T.exts.contains f=false)(ht:Ud P f=some t)(hN:BQ H=true)(hv:qy v=some tv)
  (hE:aK X P T (lF P T L n) (vg P T (lF P T L n) L) L f t.nt H.length t.body ⟨lG X 0 (first++xs++cap),[],H⟩ fun e s=>(e=.norm∨e=.ret)∧∃us,Fh X P s t.results=some us∧ZH X us=v):aW X P (lF P T L (n+1)) (.fn f first cap) xs H v H:=by
 have:=DY (N:=[]) (v:=v) (tv:=fun _=>tv) (tN:=[]) hX hd hx ht hN (fun A m h hr=>⟨m,by simpa using hr,oh hv,by simpa using Fr.refl,.refl⟩) (hE.mono fun e s ⟨h1,us,h2,h3⟩=>⟨h1,us,h2,by rw[h3];exact a0n hv fun cs hc=>by subst hc;cases v<;>simp[qy,rH]at hv⟩)
 rwa [a5R]at this
def xH:List (PV X.Γ×PV X.Γ)->Option (List (TV×TV))
 | []=>some []
 |(k,v)::r=>match qy k,qy v,xH r with
  |some k,some v,some r=>some ((k,v)::r)
  |_,_,_=>none
theorem Yl:∀{es:List (PV X.Γ×PV X.Γ)} {gq Nr:List (TV×TV)},xH es=some Nr->es.length=gq.length->(∀(i:Nat) x y,es[i]? = some x->gq[i]? = some y->qy x.1=some y.1∧qy x.2=some y.2)->gq=Nr
 | [],gq,Nr,h,hl,_=>by
  simp only[xH,a04]at h;subst h;exact a4a hl.symm
 |(k,v)::r,gq,Nr,h,hl,he=>by
  cases gq with
  |nil=>simp at hl
  |cons y gq=>
   simp only[xH]at h;split at h
   .rename_i a b c h1 h2 h3;cases h;have e0:=he 0 _ _ rfl rfl;have e1:y.1=a:=by have:=e0.1.symm.trans h1;exact a9j this
    have e2:y.2=b:=by have:=e0.2.symm.trans h2;exact a9j this
    have e3:=Yl h3 (by simpa using hl) fun i x z hx hz=>he (i+1) x z (by simpa using hx) (by simpa using hz);rw[e3,<-e1,<-e2]
   cases h
theorem Qi:∀{es:List (PV X.Γ×PV X.Γ)} {Nr:List (TV×TV)},xH es=some Nr->es.length=Nr.length∧∀(i:Nat) x y,es[i]? = some x->Nr[i]? = some y->qy x.1=some y.1∧qy x.2=some y.2
 | [],Nr,h=>by simp only[xH,a04]at h;subst h;exact⟨rfl,by simp⟩
 |(k,v)::r,Nr,h=>by
  simp only[xH]at h;split at h
  .rename_i a b c h1 h2 h3;cases h;obtain⟨i1,i2⟩:=Qi h3;refine⟨by simp[i1],fun i x y hx hy=>?_⟩;cases i with
   |zero=>simp at hx hy;subst hx;subst hy;exact⟨h1,h2⟩
   |succ i=>exact i2 i x y (by simpa using hx) (by simpa using hy)
  cases h
theorem U1:∀{es:List (PV X.Γ×PV X.Γ)} {Nr:List (TV×TV)},xH es=some Nr->(∀l,a9E.a14 Nr l=l)∧∀g,Tw.pO g Nr=some Nr
 | [],Nr,h=>by simp only[xH,a04]at h;subst h;exact⟨fun _=>rfl,fun _=>rfl⟩
 |(k,v)::r,Nr,h=>by
  simp only[xH]at h;split at h
  .rename_i a b c h1 h2 h3;cases h;have e1:=Nq h1;have e2:=Nq h2;have e3:=U1 h3;exact⟨fun l=>by simp only[a9E.a14,e1.1,e2.1,e3.1],fun g=>by simp only[Tw.pO,e1.2.1,e2.2.1,e3.2]⟩
  cases h
theorem Qj{h h1:List HB}{c:Nat}(hc:h.length<=c)(hr:∀l,a9E h1[c]? l=l):wV h1 h.length 5000 [c] []=[c]∧WS h.length [c] c=some h.length:=by
 have e1:Nat.blt c h.length=false:=by
  cases e:Nat.blt c h.length with
  |false=>rfl
  |true=>have:=agY e;omega
 constructor
 .simp only[wV,e1,a5S,Bool.or_false,hr]
 simp only[WS,e1,a5Q,Nat.beq_refl,a0B,a3H]
theorem a8i{nK:Bool}{r:Nat}{Hs:List (PB X.Γ)}{es:List (PV X.Γ×PV X.Γ)}{Nr:List (TV×TV)}(hm:Hs[r]? = some (.map es))(he:xH es=some Nr):a4b X P nK (.map r) Hs (fun n=>.map n) [.map (Sj Nr)]:=fun A m h h1 w hr hw hn=>by
 obtain⟨mb,g1,g2⟩:=hr.at_ r _ hm;cases mb with
 |gu c=>
  obtain⟨gq,g3,g4,g5⟩:=g2;have:=Yl he g4 g5;subst this;have hw:w=.map c:=by
   cases hw with
   |map e=>rw[g1]at e;cases e;rfl
   |gone hi e _=>simp only[bn,a04]at hi;subst hi;rw[g1]at e;cases e
  subst hw;have hc:=hn c (bg g1 rfl);obtain⟨e1,e2⟩:=U1 he;obtain⟨k1,k2⟩:=Qj (h:=h) (h1:=h1) hc fun l=>by rw[g3];exact e1 l
  unfold Om;simp only[BX,k1,nV,k2,a0B,D7,g3,uN,e2,UA,LG,a4D,abV,QI]
 |_=>exact g2.elim
theorem a8j(hX:bP X P){T:qQ}{L n f:Nat}{t:FnT}{first xs cap:List (PV X.Γ)}{H:List (PB X.Γ)}{es0:List (PV X.Γ×PV X.Γ)}{a4c:List (TV×TV)}(hd:T.dem.contains f=true)(hx:T.exts.contains f=false)(ht:Ud P f=some t)(hN:BQ H=true)(h0:xH es0=some a4c)
  (hE:aK X P T (lF P T L n) (vg P T (lF P T L n) L) L f t.nt H.length t.body ⟨lG X 0 (first++xs++cap),[],H⟩ fun e s=>(e=.norm∨e=.ret)∧∃us,Fh X P s t.results=some us∧∃r es Nr,ZH X us=.map r∧s.heap[r]? = some (.map es)∧xH es=some Nr∧Sj Nr=a4c):aW X P (lF P T L (n+1)) (.fn f first cap) xs H (.map H.length) (H++[.map es0]):=by
 refine DY (tv:=fun n=>.map n) (tN:=[.map a4c]) hX hd hx ht hN (fun A m h hr=>?_) (hE.mono fun e s ⟨h1,us,h2,r,es,Nr,h3,h4,h5,h6⟩=>⟨h1,us,h2,by rw[h3,<-h6];exact a8i h4 h5⟩);obtain⟨p1,p2,p3⟩:=hr.push (pb:=.map es0) (hb:=.map a4c) (mb:=.gu h.length) (.inl rfl) ⟨a4c,by simp,(Qi h0).1,(Qi h0).2⟩;exact⟨_,p1,.map (by rw[<-hr.len];simp),p2,p3⟩
theorem Ym(hX:bP X P){A:Nat->Prop}{m:List MB}{Hs:List (PB X.Γ)}{h1:List HB}{i ty:Nat}{k ex:Bool}{l:List (X.Γ ty)}{w:TV}{LQ:List TV}(hr:HR X P A m Hs h1)(hi:Hs[i]? = some (.list k ex ty l))(hl:l≠[])(hc:iQ (EO X ty l)=some LQ)(hw:VR X P (AA A m) m h1 (.own i) w) :
  ∃c sz e kk,w=.slc c 0 l.length l.length sz e∧dG P ty=some sz∧c∈bD m∧h1[c]? = some (.cells kk LQ)∧kk≠.ro:=by
 obtain⟨mb,g1,g2⟩:=hr.at_ i _ hi;cases mb with
 |dF x=>
  have hwx:w=x:=by
   cases hw with
   |own e _=>rw[g1]at e;cases e;rfl
   |gone hi e _=>simp only[bn,a04]at hi;subst hi;rw[g1]at e;cases e
  subst hwx;cases(g2:LR X P (AA A m) m h1 k ex ty l w)with
  |nil=>exact absurd rfl hl
  |emp=>exact absurd rfl hl
  |some _ q2 q3 q4 q5 q6 q7 q8 q9=>
   have hv:=eG.vrs q9 q8;have RI:=FZ hv hc;subst RI;exact⟨_,_,_,_,rfl,q2,bg g1 (by simp only[MB.own];rw[a0o (by simpa using hl)]),q4,q5⟩
 |_=>exact g2.elim
theorem a8k(hX:bP X P){i ty sz:Nat}{k ex:Bool}{l:List (X.Γ ty)}{Hs:List (PB X.Γ)}{LQ:List TV}(hi:Hs[i]? = some (.list k ex ty l))(hl:l≠[])(hc:iQ (EO X ty l)=some LQ)(hs:dG P ty=some sz):a4b X P true (.own i) Hs (fun n=>.slc n 0 l.length l.length sz false) [.nK (Sl LQ)]:=fun A m h h1 w hr hw hn=>by
 obtain⟨c,sz',e,kk,rfl,g1,g2,g3,g4⟩:=Ym hX hr hi hl hc hw;rw[hs]at g1;cases g1;have qE:=hn c g2;obtain⟨e1,e2⟩:=yK hc;obtain⟨k1,k2⟩:=Qj (h:=h) (h1:=h1) qE fun l=>by rw[g3];exact e1 l
 have e3:QI true (.cells kk LQ)=.nK (Sl LQ):=by cases kk<;>first|rfl|exact absurd rfl g4
 unfold Om;simp only[BX,k1,nV,k2,a0B,D7,g3,uN,e2,UA,LG,a4D,abV,e3,Nat.lt_irrefl,a3q]
theorem a8l(hX:bP X P){i ty sz:Nat}{k ex:Bool}{l:List (X.Γ ty)}{Hs:List (PB X.Γ)}{LQ:List TV}{p:PV X.Γ}{tp:TV}(hi:Hs[i]? = some (.list k ex ty l))(hl:l≠[])(hc:iQ (EO X ty l)=some LQ)(hs:dG P ty=some sz)(hp:qy p=some tp):a4b X P false (.dM [.own i,p]) Hs (fun n=>.dM [.slc n 0 l.length l.length sz false,tp]) [.cells .last LQ]:=fun A m h h1 w hr hw hn=>by
 cases hw with
 |gone hi _ _=>simp[bn]at hi
 |dM a1 a2=>
  rename_i cs';obtain⟨x,r,rfl,v0,v1⟩:=bY.inv (⟨a1,a2⟩:bY X P _ _ _ _ _);obtain⟨y,r,rfl,v2,v3⟩:=v1.inv;have:=v3.inv0;subst this;have:=jT v2 hp;subst this;obtain⟨c,sz',e,kk,rfl,g1,g2,g3,g4⟩:=Ym hX hr hi hl hc v0;rw[hs]at g1;cases g1;have qE:=hn c g2;obtain⟨e1,e2⟩:=yK hc;obtain⟨q1,q2,q3⟩:=Nq hp;obtain⟨k1,k2⟩:=Qj (h:=h) (h1:=h1) qE fun l=>by rw[g3];exact e1 l
  have e3:QI false (.cells kk LQ)=.cells .last LQ:=by cases kk<;>first|rfl|exact absurd rfl g4
  unfold Om;have q4:LG h.length (.slc h.length 0 l.length l.length sz e)=.slc h.length 0 l.length l.length sz false:=by simp only[LG,Nat.lt_irrefl,a3q]
  simp only[BX,BX.F9,q1,k1,nV,nV.zB,q2,k2,a0B,D7,g3,uN,e2,UA,q3,q4,a4D,abV,e3]
theorem abe{H:List (PB X.Γ)}{n sz:Nat}{cs:List (PV X.Γ)}{ts:List TV}(h0:UF cs=some ts){A m h}(hr:HR X P A m H h):∃m1,HR X P A m1 (H++[.nK cs]) (h++[.nK ts])∧VR X P (AA A m1) m1 (h++[.nK ts]) (.slc H.length 0 n n sz false) (.slc h.length 0 n n sz false)∧Fr m h m1 (h++[.nK ts])∧Up m m1:=by
 obtain⟨p1,p2,p3⟩:=hr.push (pb:=.nK cs) (hb:=.nK ts) (mb:=.gu h.length) (.inl rfl) ⟨ts,by simp,h0⟩;exact⟨_,p1,.slc (by rw[<-hr.len];simp),p2,p3⟩
theorem Yn{ty sz:Nat}:∀{l:List (X.Γ ty)},(∀(j:Nat) a,l[j]? = some a->(X.enc ty a).length=sz)->(EO X ty l).length=l.length*sz∧∀(j:Nat) a (i:Nat) c,l[j]? = some a->(X.enc ty a)[i]? = some c->(EO X ty l)[j*sz+i]? = some c
 | [],_=>⟨by simp[EO],by simp⟩
 |a::l,he=>by
  obtain⟨h1,h2⟩:=Yn (l:=l) fun j b hb=>he (j+1) b (by simpa using hb);have h0:=he 0 a rfl;refine⟨by simp only[EO,a1t,h0,h1,a4v,a3l,ab6];omega,fun j b i c hb hc=>?_⟩;cases j with
  |zero=>
   simp at hb;subst hb;simp only[EO,aco,a3H];rw[a0g (a05.1 hc).1];exact hc
  |succ j=>
   simp only[EO];rw[a0G (by rw[h0,a3l];omega),h0,show(j+1)*sz+i-sz=j*sz+i by rw[a3l];omega];exact h2 j b i c (by simpa using hb) hc
theorem a4d{ty sz:Nat}{l:List (X.Γ ty)}{LQ:List TV}{A m h}(he:∀(j:Nat) a,l[j]? = some a->(X.enc ty a).length=sz)(hc:iQ (EO X ty l)=some LQ):LQ.length=l.length*sz∧eG X P A m h ty l LQ 0 sz:=by
 have hv:=G5 (X:=X) (P:=P) (A:=A) (m:=m) (h:=h) hc;obtain⟨h1,h2⟩:=Yn he;have hl:LQ.length=l.length*sz:=by rw[<-hv.1,h1]
 exact⟨hl,he,by rw[hl];omega,fun j a i c v a1 a2 a3=>hv.2 (j*sz+i) c v (h2 j a i c a1 a2) (by rw[a3H]at a3;exact a3)⟩
theorem abf(hX:bP X P){H:List (PB X.Γ)}{ty sz:Nat}{l:List (X.Γ ty)}{LQ:List TV}{p:PV X.Γ}{tp:TV}(hl:l≠[])(hc:iQ (EO X ty l)=some LQ)(hs:dG P ty=some sz)(h0:0<sz)(he:∀(j:Nat) a,l[j]? = some a->(X.enc ty a).length=sz)(hp:qy p=some tp){A m h}(hr:HR X P A m H h) :
  ∃m1,HR X P A m1 (H++[.list false false ty l]) (h++[.cells .last LQ])∧VR X P (AA A m1) m1 (h++[.cells .last LQ]) (.dM [.own H.length,p]) (.dM [.slc h.length 0 l.length l.length sz false,tp])∧Fr m h m1 (h++[.cells .last LQ])∧Up m m1:=by
 obtain⟨p1,p2,p3⟩:=hr.push (pb:=.list false false ty l) (hb:=.cells .last LQ) (mb:=.dF (.slc h.length 0 l.length l.length sz false)) (.inl (by simp only[MB.own];rw[a0o (by simpa using hl)])) (by
  obtain⟨r1,r2⟩:=a4d (A:=AA A (m++[MB.dF (.slc h.length 0 l.length l.length sz false)])) (m:=m++[MB.dF (.slc h.length 0 l.length l.length sz false)]) (h:=h++[.cells .last LQ]) (P:=P) he hc;exact LR.some (kk:=.last) (cs:=LQ) hl hs h0 (by simp) (by simp) (by simp) (by simp) r1 r2)
 exact⟨_,p1,bY.cons (.own (by rw[<-hr.len];simp) rfl) (.cons (oh hp) .nil) |> fun h=>.dM h.1 h.2,p2,p3⟩
end
def eH:Code->Code
 |.seq a _=>a
 |.block _ b=>b
 |.loop b=>b
 |.scope b=>b
 |.cond _ a _=>a
 |c=>c
def eP:Code->Code
 |.seq _ b=>b
 |.cond _ _ b=>b
 |c=>c
def a8m:Code->Array Oper
 |.region _ o _=>o
 |_=>#[]
def U2(P:Program)(f:Nat):FnT:=match Ud P f with
 |some t=>t
 |none=>⟨0,.skip,[]⟩
def VF(ops:Array Oper)(it nx mo:Nat):Bool:=match Au ops with
 |some (a,b,_,o2)=>a==it&&b==nx&&(match o2.op,o2.dst,o2.guard with
  |.extract (.tmp k) 0,some d,none=>k==nx&&d==mo
  |_,_,_=>false)
 |none=>false
theorem a4e{ops:Array Oper}{it nx mo:Nat}(h:VF ops it nx mo=true):∃o1 o2,Au ops=some (it,nx,o1,o2)∧o2.op=.extract (.tmp nx) 0∧o2.dst=some mo∧o2.guard=none:=by
 unfold VF at h;split at h
 .rename_i a b o1 o2 e;simp only[a1D,a6v]at h;obtain⟨⟨rfl,rfl⟩,h⟩:=h;split at h
  .rename_i k d e1 e2 e3;simp only[a1D,a6v]at h;obtain⟨rfl,rfl⟩:=h;exact⟨o1,o2,e,e1,e2,e3⟩
  cases h
 cases h
section
variable {X:l7} {P:Program} {T:qQ} {call:bf} {cd:vJ} {fM:fA X.Γ} {L f nt B:Nat}
theorem zY(hX:bP X P)(hO:jM X P call fM){c:Code}{ps ps1:aS X.Γ}{an:PT X.Γ}{o:OT (Ex×aS X.Γ)}{e:Ex}(hk:jS X P T fM (aW X P call) (dS X P T call L f false nt B) B L f false nt c ps an aeV=o)(ht:Fp (fun r=>r=(e,ps1)) an o):dS X P T call L f false nt B c ps e ps1:=by
 obtain⟨y,h1,h2⟩:=ht.aI;subst h2;rw[<-hk]at h1;exact Xo hX hO h1
theorem a2n{n j:Nat}{seen:List Nat}(hj:j<n)(hn:j∉seen):((List.range n).filter fun i=>!(j::seen).contains i).length<((List.range n).filter fun i=>!seen.contains i).length:=by
 have e:((List.range n).filter fun i=>!(j::seen).contains i)=((List.range n).filter fun i=>!seen.contains i).filter fun i=>!(i==j):=by
  rw[List.filter_filter];refine List.filter_congr fun i _=>?_;rw[ahd];cases i==j<;>simp
 rw[e];refine List.length_filter_lt_length_iff_exists.2 ⟨j,a8D.2 ⟨a4L.2 hj,by simpa using hn⟩,by simp⟩
end
section
variable {X:l7} {P:Program} {T:qQ} {call:bf} {cd:vJ} {L f nt B:Nat}
theorem aK.ghost(hX:bP X P){gs:List G}{c:Code}{ps ps1:aS X.Γ}{Q:Ex->aS X.Γ->Prop}(hg:lN B gs ps=some ps1)(h:aK X P T call cd L f nt B c ps1 Q):aK X P T call cd L f nt B c ps Q:=fun A W fl m ts R hS hR=>by
 obtain⟨m2,q1,q2,q3⟩:=nM hX hg A W fl m ts hS;exact h A W fl m2 ts R q1 fun e iP ps1 m1 a1 a2 a3 a4=>hR e iP ps1 m1 a1 a2 (q2.trans a3) (q3.trans a4)
theorem Qk(hX:bP X P){x:Code}{i0 i1 id it nx mo b r n:Nat}{ops:Array Oper}{draw:Bool}{s0:aS X.Γ}{es:List (PV X.Γ×PV X.Γ)}{Q:aS X.Γ->Prop}(I:List Nat->aS X.Γ->Prop)
  (hnx:VF ops it nx mo=true) (hd:nx<nt) (ZP:mo<nt) (hl:es.length=n) (hL:n<L) (hI:I [] s0)
  (hinv:∀seen s,I seen s->∃gs s',lN B gs (gW X (T.eU f (dZ (.seq (.region id ops draw) (.seq (.cond (.tmp mo) .skip (.exit i0)) (.block i1 x))))) s)=some s'∧Ad s'.env (.tmp it)=some (.iter b)∧s'.heap[b]? = some (.dn r n seen)∧KI X s'.heap r=some es ∧
   ((∀j,j<n->j∈seen)->Ad (jm (T.iG f id) ((mo,.val (.bool false))::(nx,.val (.dM [.bool false]))::s'.env)) (.tmp mo)=some (.bool false)∧Q { s' with env:=jm (T.iG f id) ((mo,.val (.bool false))::(nx,.val (.dM [.bool false]))::s'.env) }) ∧
   ∀j e,j∉seen->es[j]? = some e->Ad (jm (T.iG f id) ((mo,.val (.bool true))::(nx,.val (.dM [.bool true,e.1,e.2]))::s'.env)) (.tmp mo)=some (.bool true) ∧
    aK X P T call cd L f nt B x { s' with env:=jm (T.iG f id) ((mo,.val (.bool true))::(nx,.val (.dM [.bool true,e.1,e.2]))::s'.env),heap:=s'.heap.set b (.dn r n (j::seen)) } fun e s=>(e=.norm∨e=.exit i1)∧I (j::seen) s) :
  aK X P T call cd L f nt B (.block i0 (.loop (.seq (.region id ops draw) (.seq (.cond (.tmp mo) .skip (.exit i0)) (.block i1 x))))) s0 fun e s=>e=.norm∧Q s:=by
 obtain⟨o1,o2,hn,h2,h3,h4⟩:=a4e hnx;have skp:∀{s:aS X.Γ} {Q':Ex->aS X.Γ->Prop},Q' .norm s->aK X P T call cd L f nt B .skip s Q':=fun{s Q'} hq=>by
  intro A W fl m ts R hS hR;simp only[fH];exact⟨_,_,rfl,hR _ _ s m hq hS .refl Up.refl.b⟩
 have ext:∀{i:Nat} {s:aS X.Γ} {Q':Ex->aS X.Γ->Prop},Q' (.exit i) s->aK X P T call cd L f nt B (.exit i) s Q':=fun{i s Q'} hq=>by
  intro A W fl m ts R hS hR;simp only[fH];exact⟨_,_,rfl,hR _ _ s m hq hS .refl Up.refl.b⟩
 refine aK.block ?_;refine aK.loop (fun k s=>∃seen,I seen s∧k=((List.range n).filter fun i=>!seen.contains i).length) (fun k s hi=>?_) (k:=n) ⟨[],hI,by rw[show((List.range n).filter fun i=>!([]:List Nat).contains i)=List.range n from aef.2 fun a _=>rfl,a9a]⟩ hL;obtain⟨seen,hi,rfl⟩:=hi;obtain⟨gs,s',e1,e2,e3,e4,e5,e6⟩:=hinv seen s hi;refine aK.ghost hX e1 ?_;refine aK.seq (R:=fun e s=>e=.norm∧(((∀j,j<n->j∈seen)∧s={ s' with env:=jm (T.iG f id) ((mo,.val (.bool false))::(nx,.val (.dM [.bool false]))::s'.env) })∨∃j e,j∉seen∧es[j]? = some e∧s={ s' with env:=jm (T.iG f id) ((mo,.val (.bool true))::(nx,.val (.dM [.bool true,e.1,e.2]))::s'.env),heap:=s'.heap.set b (.dn r n (j::seen)) })) ?_ (fun s hs=>?_) (fun i s h=>by cases h.1) (fun s h=>by cases h.1)
 .exact aK.next hn hd ZP h2 h3 h4 e2 e3 e4 hl (fun ho=>⟨rfl,.inl ⟨ho,rfl⟩⟩) (fun j e hj he=>⟨rfl,.inr ⟨j,e,hj,he,rfl⟩⟩)
 .obtain⟨_,⟨h5,rfl⟩|⟨j,e,hj,he,rfl⟩⟩:=hs
  .obtain⟨m1,q1⟩:=e5 h5;refine aK.seq (R:=fun e s=>e=.exit i0∧s={ s' with env:=jm (T.iG f id) ((mo,.val (.bool false))::(nx,.val (.dM [.bool false]))::s'.env) }) (aK.cond (t:=false) m1 (ext ⟨rfl,rfl⟩)) (fun s h=>by cases h.1) (fun i s h=>?_) (fun s h=>by cases h.1);obtain⟨h7,rfl⟩:=h;cases h7;dsimp only;rw[a0u rfl];exact⟨rfl,q1⟩
  .obtain⟨m2,hx⟩:=e6 j e hj he;have hjn:j<n:=by rw[<-hl];exact(a05.1 he).1
   refine aK.seq (R:=fun e1 s=>e1=.norm∧s={ s' with env:=jm (T.iG f id) ((mo,.val (.bool true))::(nx,.val (.dM [.bool true,e.1,e.2]))::s'.env),heap:=s'.heap.set b (.dn r n (j::seen)) }) (aK.cond (t:=true) m2 (skp ⟨rfl,rfl⟩)) (fun s h=>?_) (fun i s h=>by cases h.1) (fun s h=>by cases h.1);obtain⟨_,rfl⟩:=h;refine aK.block ?_;refine hx.mono fun e s h=>?_;obtain⟨h1|h1,h2⟩:=h
   .subst h1;exact⟨_,a2n hjn hj,j::seen,h2,rfl⟩
   .subst h1;dsimp only;rw[a0u rfl];exact⟨_,a2n hjn hj,j::seen,h2,rfl⟩
theorem VG(hX:bP X P){x:Code}{i0 i1 id it nx mo b r n:Nat}{ops:Array Oper}{draw:Bool}{s0:aS X.Γ}{es:List (PV X.Γ×PV X.Γ)}{Q:aS X.Γ->Prop}(I:List Nat->aS X.Γ->Prop)
  (hnx:VF ops it nx mo=true) (hd:nx<nt) (ZP:mo<nt) (hl:es.length=n) (hL:n<L) (hI:I [] s0)
  (hinv:∀seen s,I seen s->∃s',gW X (T.eU f (dZ (.seq (.region id ops draw) (.seq (.cond (.tmp mo) .skip (.exit i0)) (.block i1 x))))) s=s'∧Ad s'.env (.tmp it)=some (.iter b)∧s'.heap[b]? = some (.dn r n seen)∧KI X s'.heap r=some es ∧
   ((∀j,j<n->j∈seen)->Ad (jm (T.iG f id) ((mo,.val (.bool false))::(nx,.val (.dM [.bool false]))::s'.env)) (.tmp mo)=some (.bool false)∧Q { s' with env:=jm (T.iG f id) ((mo,.val (.bool false))::(nx,.val (.dM [.bool false]))::s'.env) }) ∧
   ∀j e,j∉seen->es[j]? = some e->Ad (jm (T.iG f id) ((mo,.val (.bool true))::(nx,.val (.dM [.bool true,e.1,e.2]))::s'.env)) (.tmp mo)=some (.bool true) ∧
    aK X P T call cd L f nt B x { s' with env:=jm (T.iG f id) ((mo,.val (.bool true))::(nx,.val (.dM [.bool true,e.1,e.2]))::s'.env),heap:=s'.heap.set b (.dn r n (j::seen)) } fun e s=>(e=.norm∨e=.exit i1)∧I (j::seen) s) :
  aK X P T call cd L f nt B (.block i0 (.loop (.seq (.region id ops draw) (.seq (.cond (.tmp mo) .skip (.exit i0)) (.block i1 x))))) s0 fun e s=>e=.norm∧Q s:=
 Qk hX I hnx hd ZP hl hL hI fun seen s hi=>let ⟨s',e1,h⟩:=hinv seen s hi;⟨[],s',congrArg some e1,h⟩
end
end Pv
namespace Go.Proofs.YtmobpoiejckagaaGreat
open Go Tw Pv bZ
theorem akS(x:V):Instr.sameBits 10000 (kV.v x) (kV.v x)=true:=by
 show Instr.sameBits 10000 (.agg #[.int .u8 x.f,.int .i64 x.n]) (.agg #[.int .u8 x.f,.int .i64 x.n])=true;simp[Instr.sameBits]
theorem a8n(x:S3):Instr.sameBits 10000 (kS.v x) (kS.v x)=true:=by
 show Instr.sameBits 10000 (.agg #[.int .i64 x.a,.int .i64 x.b,.int .i64 x.c]) (.agg #[.int .i64 x.a,.int .i64 x.b,.int .i64 x.c])=true;simp[Instr.sameBits]
abbrev iD:V:=⟨0,1⟩
def akT:fA aG:=cO 79 (a1 vsA) vA (fun p=>p.getD 0 V0) (fun p=>[0<p.length]) Il
theorem apZ:Gd akT:=Ya.add fun n hO p hp=>aN hO (.o (aH (hp _ (.head _))) .rr)
def akU:fA aG:=cO 89 aeY vA (fun p=>iD) np akT
theorem aq0:Gd akU:=apZ.add fun n hO p hp=>aN hO .rr
def a8o:fA aG:=cO 169 (a1 vA) tA (fun p=>decide (p=iD)) np akU
theorem akV:Gd a8o:=aq0.add fun n hO p hp=>aN hO (.q (.bool (decide (p=iD))) (eqV (.tmp 3) (.tmp 4) p iD) .rr)
def nO(l:List V):Bool:=l.all fun v=>decide (v=iD)
def dJ(l:List V):V:=if nO l=true then iD else V0
theorem aq1{n:Nat}(hO:Ok n a8o)(l:List V)(hl:l.length<=ah):aW X0 Qp (bT (n+4)) (.fn 168 [] []) [.fn 169 [] [],lV l] [] (tA.put (nO l)) []:=by
 have hs:∀v:V,aW X0 Qp (bT n) (.fn 169 [] []) [.agg v.ps] [] (tA.put (decide (v=iD))) []:=fun v=>oN.a0f hX (first:=[]) (cap:=[]) (hO 169 [.agg v.ps] (tA.put (decide (v=iD))) [] [] (by kernel_rfl) (fun p h=>by cases h)) rfl rfl rfl rfl;have h1:∀v:V,aW X0 Qp (bT (n+1)) (.fn 201 [] [.ptr 0 0 1]) [.agg v.ps] [.cells [.fn 169 [] []]] (tA.put (!(decide (v=iD)))) [.cells [.fn 169 [] []]]:=fun v=>
  jy gy (first:=[]) (.fr [] (hs v) .sr)
 have h2:=afi (n:=n+2) (by omega) (f:=201) (a:=[]) (c:=[.ptr 0 0 1]) (H:=[.cells [.fn 169 [] []]]) (g:=fun v=>!(decide (v=iD))) h1 l hl;rw[Jm]at h2;unfold nO;rw[<-Eu l fun v=>decide (v=iD)];exact aW.drop hX (Dn hX gy (first:=[]) (cap:=[]) (H1:=[.cells [.fn 169 [] []]]) (by kernel_rfl) (.k h2 .sr)) rfl rfl
def qP:fA aG:=cO 117 (a1 vsA) vA dJ (fun l=>[l.length<=ah]) a8o
theorem L8:Gd qP:=akV.deep 4 fun n hn hO l hp=>by
 have hs:=aq1 (n:=n-4) (hO (n-4) (by omega)) l (hp _ (.head _));rw[show n-4+4=n by omega]at hs;show oN X0 Qp _ _ _ (vA.put (dJ l)) _;unfold dJ;exact aN (hO n (by omega)) (.fr [] hs (.ss .rr .rr))
abbrev Yo:Code:=(U2 Qp 87).body
abbrev QZ:Code:=(U2 Qp 136).body
abbrev a8p(J:Jb)(f:Nat):List (Nat×PE aG):=[(2,.val (.nil .map)),(3,.val (.ptr 2 0 1)),(8,.val (.fn 136 [.agg (J.ps (.fn f [] []))] []))]
abbrev LRC(J:Jb)(f:Nat)(rd:Bool)(jP:Option Code):PB aG:=.loop rd 87 (Cj Qp 87) (a8p J f) [9,10] (xG Qp 87) (Bf Qp 87) jP
abbrev HQc(J:Jb)(f:Nat)(t:List (V×Int)):List (PB aG):=[.cells (J.ps (.fn f [] [])),.map (kV.im t),.cells [.map 1]]
abbrev Rf(J:Jb)(f:Nat)(rd:Bool)(jP:Option Code)(t:List (V×Int)):List (PB aG):=HQc J f t++[.mark,LRC J f rd jP]
theorem a8q(l:List V):decide (dJ l=iD)=nO l:=by
 unfold dJ;cases nO l<;>decide
def yT(l:List V)(w:Int)(t:List (V×Int)):List (V×Int):=if nO (l.drop 1)=true then sK t (l.getD 0 V0) w else t
structure Tal(t:List (V×Int)):Prop where
 nd:(t.map (·.1)).Nodup
 pos:∀e∈t,0<e.2
 bnd:∀e∈t,e.2<=2000
theorem aq3{n:Nat}(hO:Ok n qP)(J:Jb)(f:Nat){t:List (V×Int)}(ht:Tal t)(l:List V){w:Int}(h0:0<l.length)(hl:l.length<=ah)(hw:0<w∧w<=2000):aW X0 Qp (bT (n+1)) (.kZ 4) [lV l,.int .i64 w] (Rf J f true none t) (.bool true) (Rf J f true none (yT l w t)):=by
 have q1:dS X0 Qp T (bT n) LL 87 true (Cj Qp 87) 5 (xG Qp 87) ⟨uF (a8p J f) [9,10] [lV l,.int .i64 w],[],Rf J f true none t⟩ .norm ⟨[(3,.val (.ptr 2 0 1)),(4,.val (lV l)),(5,.val (.int .i64 w))],[],Rf J f true none t⟩:=yG hX hO (by kernel_rfl) .xx;have i0:gJ 0 l.length:=aH h0;have a1:(1:Int)<=l.length:=by omega
 have e1:(l.take l.length)=l:=aaE;have c1:decide (dJ ((l.take ((l.length:Int).toNat)).drop (1:Int).toNat)=iD)=nO (l.drop 1):=by
  rw[a8q];simp
 have a2:((l.take ((l.length:Int).toNat)).drop (1:Int).toNat).length<=ah:=by simp;omega
 have ev:=eqV (.tmp 13) (.tmp 14) (dJ ((l.take ((l.length:Int).toNat)).drop (1:Int).toNat)) iD;have z01:(0:Int)<=1:=by decide
 have z02:(l.length:Int)<=(l.length:Int):=a9s _;unfold yT;cases hc:nO (l.drop 1)
 .rw[hc]at c1;rw[a0o (by simp)];have q2:dS X0 Qp T (bT n) LL 87 true (Cj Qp 87) 5 (Bf Qp 87) ⟨[(3,.val (.ptr 2 0 1)),(4,.val (lV l)),(5,.val (.int .i64 w))],[],Rf J f false none t⟩ .norm ⟨[(3,.val (.ptr 2 0 1)),(4,.val (lV l)),(5,.val (.int .i64 w)),(15,xl false)],[],Rf J f false none t⟩:=
   yG hX hO (by kernel_rfl) (.o z01 (.o a1 (.o z02 (.o a2 (.q (.bool (decide (dJ ((l.take ((l.length:Int).toNat)).drop (1:Int).toNat)=iD))) ev (.b c1 .xx))))))
  exact I7 hX (l:=4) rfl rfl (by kernel_rfl) q1 rfl q2 rfl
 rw[hc]at c1;rw[a0u rfl];by_cases hk:l.getD 0 V0∈t.map (·.1)
 .obtain⟨j,old,g1,g2,g3,g4⟩:=kV.VA (akS _) ht.nd hk (n:=w) fun e he=>fJ (by have:=ht.pos e he;omega) (by have:=ht.bnd e he;omega);have q2:dS X0 Qp T (bT n) LL 87 true (Cj Qp 87) 5 (Bf Qp 87) ⟨[(3,.val (.ptr 2 0 1)),(4,.val (lV l)),(5,.val (.int .i64 w))],[],Rf J f false none t⟩ .norm ⟨[],[],[.cells (J.ps (.fn f [] [])),.map (Je (kV.im t) j (.int .i64 (i64.wrap (old+w)))),.cells [.map 1],.mark,LRC J f false none]⟩:=
   yG hX hO (by kernel_rfl) (.o z01 (.o a1 (.o z02 (.o a2 (.q (.bool (decide (dJ ((l.take ((l.length:Int).toNat)).drop (1:Int).toNat)=iD))) ev (.b c1 (.o i0 (.c (.int .i64 old) [] g1 (.a (.call (.int .i64 old) []) (.a (.ix j) (.o g2 (.o g3 .xx))))))))))))
  rw[g4]at q2;exact I7 hX (l:=4) rfl rfl (by kernel_rfl) q1 rfl q2 rfl
 obtain⟨g1,g2,g3,g4⟩:=kV.VB hk (n:=w) (by rw[Int.zero_add];exact fJ (by omega) (by omega));have q2:dS X0 Qp T (bT n) LL 87 true (Cj Qp 87) 5 (Bf Qp 87) ⟨[(3,.val (.ptr 2 0 1)),(4,.val (lV l)),(5,.val (.int .i64 w))],[],Rf J f false none t⟩ .norm ⟨[],[],[.cells (J.ps (.fn f [] [])),.map (Je (kV.im t++[(.agg (l.getD 0 V0).ps,.int .i64 0)]) (kV.im t).length (.int .i64 (i64.wrap (0+w)))),.cells [.map 1],.mark,LRC J f false none]⟩:=
  yG hX hO (by kernel_rfl) (.o z01 (.o a1 (.o z02 (.o a2 (.q (.bool (decide (dJ ((l.take ((l.length:Int).toNat)).drop (1:Int).toNat)=iD))) ev (.b c1 (.o i0 (.q (.bool false) g1 (.a .calm (.o (kV.ck (l.getD 0 V0)) (.o g1 (.o g2 (.o g3 .xx)))))))))))))
 have g4:Je (kV.im t++[(.agg (l.getD 0 V0).ps,.int .i64 0)]) (kV.im t).length (.int .i64 (i64.wrap (0+w)))=kV.im (sK t (l.getD 0 V0) w):=g4;rw[g4]at q2;exact I7 hX (l:=4) rfl rfl (by kernel_rfl) q1 rfl q2 rfl
open Go Tw Pv bZ
abbrev HN(J:Jb)(f:Nat)(t:List (V×Int))(now:List (S3×Int)):List (PB aG):=Rf J f true none t++[.map (kS.im now)]
abbrev bLB:Code:=eH (eH (eP (eH (eP (eP QZ)))))
abbrev bB1:Code:=eH (eH (eP (eP bLB)))
abbrev bIB:Code:=eH (eH (eP (eH (eP (eP bB1)))))
abbrev bX:Code:=eH (eP (eP bIB))
abbrev bL2:Code:=eH (eH (eP (eP (eP (eP QZ)))))
abbrev bX2:Code:=eH (eP (eP bL2))
abbrev a4f(J:Jb)(c:Int)(a:Int):List (Nat×PE aG):=[(1,.val (.kZ 4)),(2,.loc 0 0),(6,xi c),(7,.val (.map 6)),(21,xL 3 J.o),(22,xi J.o.length),(23,xi a),(29,.val (.iter 7))]
abbrev HI(J:Jb)(f:Nat)(t:List (V×Int))(now next:List (S3×Int))(seen:List Nat):List (PB aG):=HN J f t now++[.map (kS.im next),.dn 5 now.length seen]
structure NI(J:Jb)(a:Nat)(m:List (S3×Int)):Prop where
 nd:(m.map (·.1)).Nodup
 pos:∀e∈m,0<e.2
 dp:∀e∈m,Dp J a e.1
theorem NI.add{J:Jb}{a:Nat}{m:List (S3×Int)}(h:NI J a m){s:S3}{n:Int}(hs:Dp J a s)(hn:0<n):NI J a (sK m s n):=
 ⟨Gg h.nd s n,Qg hn h.pos,fun e he=>by
  rcases a88 he with e1|⟨e',h1,h2⟩
  .rw[e1];exact hs
  .rw[<-h2];exact h.dp e' h1⟩
theorem BD{κ:Type}[DecidableEq κ](q:Int):∀m:List (κ×Int),dH (fun _=>q) m=dH (fun _=>1) m*q
 | []=>by simp[dH]
 |e::m=>by simp only[dH,BD q m,ahb,acj]
theorem Iy{κ:Type}[DecidableEq κ]:∀{m:List (κ×Int)},(∀e∈m,0<e.2)->0<=dH (fun _=>1) m∧∀e∈m,e.2<=dH (fun _=>1) m
 | [],_=>⟨a9s _,fun e he=>by cases he⟩
 |x::m,h=>by
  obtain⟨h1,h2⟩:=Iy (m:=m) fun e he=>h e (by simp[he]);have h0:=h x (by simp);simp only[dH,acj];refine⟨by omega,fun e he=>?_⟩;rcases a1J.1 he with rfl|he
  .omega
  have:=h2 e he;omega
theorem a8s{κ:Type}[DecidableEq κ]{m:List (κ×Int)}{q:Nat}(hp:∀e∈m,0<e.2)(hq:1<=q)(hs:dH (fun _=>(q:Int)) m<=2000):∀e∈m,e.2<=2000:=fun e he=>by
 obtain⟨h1,h2⟩:=Iy hp;rw[BD]at hs;have h3:=h2 e he;have:dH (fun _=>1) m<=dH (fun _=>1) m*(q:Int):=by
  have:=a98 (show(1:Int)<=q by omega) h1;omega
 omega
theorem Yp{J:Jb}(r:List Int)(m:List (S3×Int)):dH (y9 J (fun _=>1) r) m=dH (fun _=>(Ae J r:Int)) m:=by
 induction m with
 |nil=>rfl
 |cons e m ih=>simp only[dH,ih,EF]
theorem EJ{J:Jb}{a:Nat}{r:List Int}{m:List (S3×Int)}(h:NI J a m)(hq:1<=Ae J r){s:S3}{n b:Int}(hn:0<n)(hs:dH (fun _=>(Ae J r:Int)) m+n*(Ae J r:Int)<=b)(hb:b<=2000):n<=2000∧(∀e∈m,e.2<=2000)∧∀e∈m,i64.wrap (e.2+n)=e.2+n:=by
 obtain⟨h1,h2⟩:=Iy h.pos;have h3:0<=dH (fun _=>(Ae J r:Int)) m:=by rw[BD];exact ag7 h1 (by omega)
 have h4:n<=n*(Ae J r:Int):=by
  have:=a98 (show(1:Int)<=Ae J r by omega) (show 0<=n by omega);omega
 have h5:0<=n*(Ae J r:Int):=by omega
 have h6:=a8s h.pos hq (show dH (fun _=>(Ae J r:Int)) m<=2000 by omega);refine⟨by omega,h6,fun e he=>?_⟩;have:=h6 e he;have:=h.pos e he;exact fJ (by omega) (by omega)
theorem a2o{now:List (S3×Int)}{j:Nat}{st:S3}{w:Int}(h:now[j]? = some (st,w)):(kS.im now).length=now.length∧(kS.im now)[j]? = some (.agg st.ps,.int .i64 w):=by
 refine⟨kS.qg now,?_⟩;rw[kS.BA,h];rfl
section
variable {n:Nat} {J:Jb} (hJ:jq J) {f:Nat} (t:List (V×Int)) (now:List (S3×Int)) (seen:List Nat) {a:Nat} {c:Int} {r:List Int} {st:S3} {w:Int} {j:Nat}
abbrev sX(J:Jb)(f:Nat)(t:List (V×Int))(now next:List (S3×Int))(c:Int)(a:Int)(st:S3)(w:Int)(js:List Nat):aS aG:=⟨jm (T.iG 136 7) ((31,.val (.bool true))::(30,.val (.dM [.bool true,.agg st.ps,.int .i64 w]))::a4f J c a),[J.ps (.fn f [] [])],HI J f t now next js⟩
abbrev sZ(J:Jb)(f:Nat)(t:List (V×Int))(now next:List (S3×Int))(c:Int)(a:Int)(st:S3)(js:List Nat):aS aG:=⟨a4f J c a,[J.ps (.fn f [] []),st.ps],HI J f t now next js⟩
abbrev wDi(J:Jb)(f:Nat)(t:List (V×Int))(now:List (S3×Int))(c:Int)(a:Int)(st:S3)(w:Int)(js:List Nat)(next:List (S3×Int))(i:Int)(x:List (Nat×PE aG)):aS aG:=⟨[(1,.val (.kZ 4)),(2,.loc 0 0),(6,xi c),(7,.val (.map 6)),(8,.loc 1 0),(9,xi w),(21,xL 3 J.o),(22,xi J.o.length),(23,xi a),(29,.val (.iter 7)),(75,xi (J.s.getD c.toNat 0)),(76,xi i)]++x,[J.ps (.fn f [] []),st.ps],HI J f t now next js⟩
include hJ
theorem lDi(hr:J.o.drop a=c::r)(hd:Dp J a st)(hw:0<w){next:List (S3×Int)}(hN:NI J (a+1) next)(hg:¬decide (J.g.getD c.toNat 0>=0)=true)(hb:dH (fun _=>(Ae J r:Int)) next+w*(Ae J (c::r):Int)<=2000)(js:List Nat) :
  ∃next',NI J (a+1) next'∧(∀ψ,dH (y9 J ψ r) next'=dH (y9 J ψ r) next+w*y9 J ψ (c::r) st) ∧
   Px (n+1) 136 2 5 (wDi J f t now c a st w js next 0 []) (.exit 5) (wDi J f t now c a st w js next' ((J.s.getD c.toNat 0).toNat:Nat) [(77,xl false)]):=by
 obtain⟨aQ,hoc,wU,G6,hci,qI⟩:=jq.at_ hJ hr;have hz:=hJ.bU.sz _ (dB (s:=J.s) (k:=c.toNat) (by have:=qI.1;have:=qI.2;omega));have hri:∀c'∈r,gJ c' J.s.length:=fun c' h=>(jq.o2 hJ).2.2 c' (by rw[<-wU]at h;exact a5q h);have hq:=(JK hJ hri).1;have qE:(Ae J (c::r):Int)=((J.s.getD c.toNat 0).toNat:Int)*(Ae J r:Int):=by
  have:(Bv J c).length=(J.s.getD c.toNat 0).toNat:=by unfold Bv;rw[a0o hg];simp
  rw[Ae,this,aei]
 let g:Nat->List (S3×Int)->List (S3×Int):=fun k y=>sK y (bM J.D st c k) w
 have inv:=dw (g:=g) (m:=(J.s.getD c.toNat 0).toNat) (k:=0) (s:=next) (fun k y=>NI J (a+1) y∧∀ψ,dH (y9 J ψ r) y=dH (y9 J ψ r) next+w*eu (fun(j:Nat)=>y9 J ψ r (bM J.D st c j)) (List.range k)) ⟨hN,fun ψ=>by simp[eu]⟩ (fun k y _ hk hy=>by
  obtain⟨h1,h2⟩:=hy;refine⟨h1.add (nJ hJ hr hd ⟨by omega,by omega⟩) hw,fun ψ=>?_⟩;show dH (y9 J ψ r) (sK y _ w)=_;rw[zU,h2 ψ,adK,Iu,Int.mul_add];simp only[eu,Int.add_zero];omega)
 rw[a3H]at inv;refine⟨_,inv.1,fun ψ=>by rw[inv.2 ψ,ab3 hg],?_⟩;have bound:∀k y,k<(J.s.getD c.toNat 0).toNat->(∀ψ,dH (y9 J ψ r) y=dH (y9 J ψ r) next+w*eu (fun(j:Nat)=>y9 J ψ r (bM J.D st c j)) (List.range k))->dH (fun _=>(Ae J r:Int)) y+w*(Ae J r:Int)<=2000:=fun k y hk hy=>by
  have h1:=hy fun _=>1;rw[Yp,Yp,qJ (φ':=fun _=>(Ae J r:Int)) (fun _ _=>EF r _),Bz,a9a]at h1;rw[h1];rw[qE]at hb;have h2:((k:Int)+1)*(Ae J r:Int)<=((J.s.getD c.toNat 0).toNat:Int)*(Ae J r:Int):=aa8 (by omega) (by omega);have h3:=a98 h2 (show 0<=w by omega);rw[ahb,Int.mul_add,Int.one_mul]at h3;omega
 refine yH (σ:=List (S3×Int)) (N:=(J.s.getD c.toNat 0).toNat) (g:=g) (s0:=next) (st:=fun i y=>wDi J f t now c a st w js y i []) (fin:=fun y=>wDi J f t now c a st w js y (((J.s.getD c.toNat 0).toNat:Nat):Int) [(77,xl false)]) (fun k y=>NI J (a+1) y∧∀ψ,dH (y9 J ψ r) y=dH (y9 J ψ r) next+w*eu (fun(j:Nat)=>y9 J ψ r (bM J.D st c j)) (List.range k)) (by kernel_rfl) (by unfold ah;omega) ⟨hN,fun ψ=>by simp[eu]⟩ (fun k y hk hy=>?_) (fun k y hk hy m e p g9=>?_) (fun y _=>?_)
 .obtain⟨h1,h2⟩:=hy;refine⟨h1.add (nJ hJ hr hd ⟨by omega,by omega⟩) hw,fun ψ=>?_⟩;show dH (y9 J ψ r) (sK y _ w)=_;rw[zU,h2 ψ,adK,Iu,Int.mul_add];simp only[eu,Int.add_zero];omega
 .obtain⟨h1,h2⟩:=hy;obtain⟨b1,b2,b3⟩:=EJ h1 hq (s:=bM J.D st c k) hw (bound k y hk h2) (a9s _);have t1:decide ((k:Int)<J.s.getD c.toNat 0)=true:=by rw[a0N];omega
  have ha:=JC (M:=n) (f:=f) (a:=[]) (cc:=[]) (H:=[]) J st c k hJ.d3 fun i hi=>JE hJ hd ⟨by omega,by omega⟩ hi;have g9:dN X0 Qp T (bT (n+1)) LL 136 false _ 5 _ m (wDi J f t now c a st w js (sK y (bM J.D st c k) w) _ []) e p:=g9;by_cases hk:bM J.D st c k∈y.map (·.1)
  .obtain⟨jj,old,g1,g2,g3,g4⟩:=kS.VA (a8n _) h1.nd hk (n:=w) b3;unfold wDi HI at g9;rw[<-g4]at g9;exact aO gy (.b t1 (.fr [] ha (.c (.int .i64 old) [] g1 (.a (.call (.int .i64 old) []) (.a (.ix jj) (.o g2 (.o g3 (.go g9))))))))
  .obtain⟨g1,g2,g3,g4⟩:=kS.VB hk (n:=w) (by rw[Int.zero_add];exact fJ (by omega) (by omega));unfold wDi HI at g9;rw[<-g4]at g9;exact aO gy (.b t1 (.fr [] ha (.q (.bool false) g1 (.a .calm (.o (kS.ck (bM J.D st c k)) (.o g1 (.o g2 (.o g3 (.go g9)))))))))
 .have t1:decide ((((J.s.getD c.toNat 0).toNat:Nat):Int)<J.s.getD c.toNat 0)=false:=by rw[a2H];omega
  exact aO gy (.b t1 .ex)
end
open Go Tw Pv bZ
abbrev sH(J:Jb)(f:Nat)(t:List (V×Int))(now next:List (S3×Int))(c:Int)(a:Int)(js:List Nat):aS aG:=⟨a4f J c a,[J.ps (.fn f [] [])],HI J f t now next js⟩
section
variable {n:Nat} {J:Jb} (hJ:jq J) {f:Nat} (t:List (V×Int)) (now:List (S3×Int)) (seen:List Nat) {a:Nat} {c:Int} {r:List Int} {st:S3} {w:Int} {j:Nat}
include hJ
theorem akW(hr:J.o.drop a=c::r)(hd:Dp J a st)(hw:0<w){next:List (S3×Int)}(hN:NI J (a+1) next)(hj:now[j]? = some (st,w))(hb:dH (fun _=>(Ae J r:Int)) next+w*(Ae J (c::r):Int)<=2000) :
  ∃next' e s',NI J (a+1) next'∧(∀ψ,dH (y9 J ψ r) next'=dH (y9 J ψ r) next+w*y9 J ψ (c::r) st)∧(e=.norm∨e=.exit 3) ∧
   dS X0 Qp T (bT (n+1)) LL 136 false (Cj Qp 136) 5 bX (sX J f t now next c a st w (j::seen)) e s' ∧
   gW X0 (T.eU 136 (dZ bIB)) s'=sH J f t now next' c a (j::seen):=by
 obtain⟨aQ,hoc,wU,G6,hci,qI⟩:=jq.at_ hJ hr;have hz:=hJ.bU.sz _ (dB (s:=J.s) (k:=c.toNat) (by have:=qI.1;have:=qI.2;omega));have hri:∀c'∈r,gJ c' J.s.length:=fun c' h=>(jq.o2 hJ).2.2 c' (by rw[<-wU]at h;exact a5q h);have hq:=(JK hJ hri).1;have hcG:gJ c J.g.length:=by rw[hJ.gl];exact qI
 have ho:=a2o hj;by_cases hg:decide (J.g.getD c.toNat 0>=0)=true
 .have hl1:(Ae J (c::r):Int)=Ae J r:=by rw[Ae,Bv,a0u hg];simp
  rw[hl1]at hb;have hgv:0<=J.g.getD c.toNat 0:=by simpa using hg
  have ZP:=nJ hJ hr hd ⟨hgv,hJ.gv c qI hgv⟩;obtain⟨b1,b2,b3⟩:=EJ hN hq (s:=st) hw hb (a9s _);have ha:=JC (M:=n) (f:=f) (a:=[]) (cc:=[]) (H:=[]) J st c (J.g.getD c.toNat 0) hJ.d3 fun i hi=>JE hJ hd ⟨hgv,hJ.gv c qI hgv⟩ hi;refine⟨sK next (bM J.D st c (J.g.getD c.toNat 0)) w,.exit 3,sZ J f t now (sK next (bM J.D st c (J.g.getD c.toNat 0)) w) c a st (j::seen),hN.add ZP hw,fun ψ=>by rw[zU,a3Y hg],.inr rfl,?_,by kernel_rfl⟩;unfold sZ HI;by_cases hk:bM J.D st c (J.g.getD c.toNat 0)∈next.map (·.1)
  .obtain⟨jj,old,g1,g2,g3,g4⟩:=kS.VA (a8n _) hN.nd hk (n:=w) b3;rw[<-g4];exact zY hX gy (by kernel_rfl) (.c (.dM [.agg st.ps,.int .i64 w]) [] ho (.o qI (.o hcG (.b hg (.fr [] ha (.c (.int .i64 old) [] g1 (.a (.call (.int .i64 old) []) (.a (.ix jj) (.o g2 (.o g3 (.r rfl)))))))))))
  .obtain⟨g1,g2,g3,g4⟩:=kS.VB hk (n:=w) (by rw[Int.zero_add];exact fJ (by omega) (by omega));rw[<-g4];exact zY hX gy (by kernel_rfl) (.c (.dM [.agg st.ps,.int .i64 w]) [] ho (.o qI (.o hcG (.b hg (.fr [] ha (.q (.bool false) g1 (.a .calm (.o (kS.ck (bM J.D st c (J.g.getD c.toNat 0))) (.o g1 (.o g2 (.o g3 (.r rfl))))))))))))
 have hg':decide (J.g.getD c.toNat 0>=0)=false:=by simpa using hg
 have vH:((J.s.getD c.toNat 0).toNat:Int)=J.s.getD c.toNat 0:=by omega
 have qE:(Ae J (c::r):Int)=J.s.getD c.toNat 0*(Ae J r:Int):=by
  have:(Bv J c).length=(J.s.getD c.toNat 0).toNat:=by unfold Bv;rw[a0o hg];simp
  rw[Ae,this,aei,vH]
 have hs:=a7V (M:=n) (f:=f) (a:=[]) (cc:=[]) (H:=[]) J st c hJ.d3 (fun k hk h=>⟨by simpa using h,(hd k hk).1.1⟩);cases Bo:jX J.D st c
 .rw[Bo]at hs;have ZP:=Vt hJ hr hd Bo;have hm:0<w*J.s.getD c.toNat 0:=Int.mul_pos hw (by omega);rw[qE,<-Int.mul_assoc]at hb;obtain⟨b1,b2,b3⟩:=EJ hN hq (s:=st) hm hb (a9s _);have hwm:i64.wrap (w*J.s.getD c.toNat 0)=w*J.s.getD c.toNat 0:=fJ (by omega) (by omega);refine⟨sK next st (w*J.s.getD c.toNat 0),.exit 3,sZ J f t now (sK next st (w*J.s.getD c.toNat 0)) c a st (j::seen),hN.add ZP hm,fun ψ=>by rw[zU,afW hg Bo,vH,Int.mul_assoc],.inr rfl,?_,by kernel_rfl⟩;unfold sZ HI;by_cases hk:st∈next.map (·.1)
  .obtain⟨jj,old,g1,g2,g3,g4⟩:=kS.VA (a8n _) hN.nd hk (n:=w*J.s.getD c.toNat 0) b3;rw[<-g4,<-hwm];exact zY hX gy (by kernel_rfl) (.c (.dM [.agg st.ps,.int .i64 w]) [] ho (.o qI (.o hcG (.b hg' (.fr [] hs (.b (rfl:(!false)=true) (.c (.int .i64 old) [] g1 (.a (.call (.int .i64 old) []) (.a (.ix jj) (.o g2 (.o g3 (.r rfl))))))))))))
  .obtain⟨g1,g2,g3,g4⟩:=kS.VB hk (n:=w*J.s.getD c.toNat 0) (by rw[Int.zero_add];exact hwm);rw[<-g4,<-hwm];exact zY hX gy (by kernel_rfl) (.c (.dM [.agg st.ps,.int .i64 w]) [] ho (.o qI (.o hcG (.b hg' (.fr [] hs (.b (rfl:(!false)=true) (.q (.bool false) g1 (.a .calm (.o (kS.ck st) (.o g1 (.o g2 (.o g3 (.r rfl)))))))))))))
 .rw[Bo]at hs;obtain⟨next',h1,h2,h3⟩:=lDi (n:=n) hJ (f:=f) t now hr hd hw hN hg hb (j::seen);refine⟨next',.norm,_,h1,h2,.inl rfl,zY (ps1:=wDi J f t now c a st w (j::seen) next' ((J.s.getD c.toNat 0).toNat:Nat) [(77,xl false)]) hX gy (by kernel_rfl) (.c (.dM [.agg st.ps,.int .i64 w]) [] ho (.o qI (.o hcG (.b hg' (.fr [] hs (.b (rfl:(!true)=false) (.w h3 (.r rfl)))))))),by kernel_rfl⟩
end
end Go.Proofs.YtmobpoiejckagaaGreat
namespace Pv
open Go Tw
section
variable {X:l7} {P:Program} {T:qQ} {call:bf} {cd:vJ} {L f nt B:Nat}
theorem aK.BF{a b:Code}{ps s1:aS X.Γ}{Q:Ex->aS X.Γ->Prop}(hn:oM a=true)(ha:dS X P T call L f false nt B a ps .norm s1)(hb:aK X P T call cd L f nt B b s1 Q):aK X P T call cd L f nt B (.seq a b) ps Q:=
 aK.seq (R:=fun e s=>e=.norm∧s=s1) (dS.dem hn ha ⟨rfl,rfl⟩) (fun s h=>by obtain⟨_,rfl⟩:=h;exact hb) (fun i s h=>by cases h.1) (fun s h=>by cases h.1)
theorem aK.step{c:Code}{ps:aS X.Γ}{e:Ex}{ps1:aS X.Γ}{Q:Ex->aS X.Γ->Prop}(hn:oM c=true)(ha:dS X P T call L f false nt B c ps e ps1)(hq:Q e ps1):aK X P T call cd L f nt B c ps Q:=dS.dem hn ha hq
end
end Pv
namespace Go.Proofs.YtmobpoiejckagaaGreat
open Go Tw Pv bZ
theorem L9{α:Type}[DecidableEq α](φ:α->Int)(p:α->Bool):∀l:List α,eu φ l=eu φ (l.filter p)+eu φ (l.filter fun a=>!p a)
 | []=>rfl
 |a::l=>by
  rw[eu,L9 φ p l];cases h:p a
  .rw[adh (by simp[h]),adp (by simp[h]),eu];omega
  rw[adp h,adh (by simp[h]),eu];omega
theorem VH{α:Type}[DecidableEq α]{φ:α->Int}:∀{l:List α},(∀a∈l,0<=φ a)->0<=eu φ l
 | [],_=>a9s _
 |a::l,h=>by
  have:=VH (l:=l) fun b hb=>h b (by simp[hb]);have:=h a (by simp);rw[eu];omega
theorem JM{n:Nat}{l:List Nat}(hn:l.Nodup)(hl:∀j∈l,j<n):((List.range n).filter fun j=>l.contains j).Perm l:=
 (a6L (List.nodup_range.filter _) hn).2 fun j=>by
  rw[a8D,a4L,List.contains_iff_mem];exact⟨fun h=>h.2,fun h=>⟨hl j h,h⟩⟩
theorem VI{n:Nat}{φ:Nat->Int}{l:List Nat}(hn:l.Nodup)(hl:∀j∈l,j<n)(hp:∀j,j<n->0<=φ j):eu φ l<=eu φ (List.range n):=by
 rw[L9 φ (fun j=>l.contains j) (List.range n),JI φ (JM hn hl)];have:=VH (φ:=φ) (l:=(List.range n).filter fun j=>!l.contains j) fun j hj=>hp j (a4L.1 (a8D.1 hj).1);omega
theorem Ql{n:Nat}{φ:Nat->Int}{l:List Nat}(hn:l.Nodup)(hl:∀j∈l,j<n)(ha:∀j,j<n->j∈l):eu φ l=eu φ (List.range n):=
 (JI φ ((a6L ae5 hn).2 fun j=>⟨fun h=>ha j (a4L.1 h),fun h=>a4L.2 (hl j h)⟩)).symm
abbrev nowAt(now:List (S3×Int))(j:Nat):S3×Int:=now.getD j (⟨0,0,0⟩,0)
theorem Iz{φ:S3->Int}(now:List (S3×Int)):eu (fun j=>(nowAt now j).2*φ (nowAt now j).1) (List.range now.length)=dH φ now:=by
 have h1:dH φ now=eu (fun e:S3×Int=>e.2*φ e.1) now:=by
  induction now with
  |nil=>rfl
  |cons e m ih=>simp only[dH,eu,ih]
 have h2:now=(List.range now.length).map fun j=>nowAt now j:=by
  refine(pI (d:=(⟨⟨0,0,0⟩,0⟩:S3×Int)) (by simp)).2 fun k hk=>?_;simp[List.getD,hk]
 rw[h1]
 conv=>rhs;rw[h2]
 rw[zV]
theorem Yq{now:List (S3×Int)}{j:Nat}{e:S3×Int}(h:now[j]? = some e):nowAt now j=e∧j<now.length∧e∈now:=by
 obtain⟨h1,h2⟩:=a05.1 h;exact⟨by simp[nowAt,List.getD,h],h1,h2▸a4Q h1⟩
section
variable {n:Nat} {J:Jb} (hJ:jq J) {f:Nat} (t:List (V×Int)) (now:List (S3×Int)) {a:Nat} {c:Int} {r:List Int}
def InS(J:Jb)(f:Nat)(t:List (V×Int))(now:List (S3×Int))(a:Nat)(c:Int)(r:List Int)(seen:List Nat)(s:aS aG):Prop:=
 seen.Nodup∧(∀j∈seen,j<now.length)∧∃next,NI J (a+1) next∧(∀ψ,dH (y9 J ψ r) next=eu (fun j=>(nowAt now j).2*y9 J ψ (c::r) (nowAt now j).1) seen)∧gW X0 (T.eU 136 (dZ bIB)) s=sH J f t now next c a seen
structure yL(J:Jb)(a:Nat)(now:List (S3×Int)):Prop where
 i:NI J a now
 s:∀ψ,dH (y9 J ψ (J.o.drop a)) now=y9 J ψ J.o (eY J.D)
include hJ
theorem ag8:(Ae J J.o:Int)<=2000:=by
 have h1:=(JK hJ (jq.o2 hJ).2.2).2;have hw:=DT hJ.bU.sz hJ.ord;have hm:=hJ.bU.many;omega
theorem Ns(h:yL J a now):dH (fun _=>(Ae J (J.o.drop a):Int)) now<=2000:=by
 have:=h.s fun _=>1;rw[Yp,EF]at this;have:=ag8 hJ;omega
theorem Yr(a:Nat):1<=Ae J (J.o.drop a):=(JK hJ fun c hc=>(jq.o2 hJ).2.2 c (a5q hc)).1
theorem a2p(h:yL J a now):now.length<=2000∧∀e∈now,e.2<=2000:=by
 have h1:=a8s h.i.pos (Yr hJ a) (Ns hJ now h);obtain⟨h2,h3⟩:=Iy h.i.pos;have h4:=Ns hJ now h;rw[BD]at h4;have h5:=a98 (show(1:Int)<=Ae J (J.o.drop a) by have:=Yr hJ a;omega) h2;have h6:∀{m:List (S3×Int)},(∀e∈m,0<e.2)->(m.length:Int)<=dH (fun _=>1) m:=by
  intro m
  induction m with
  |nil=>intro _;exact a9s _
  |cons e m ih=>
   intro hp;have:=ih fun e he=>hp e (by simp[he]);have:=hp e (by simp);simp only[dH,a4v,acj];omega
 have:=h6 h.i.pos;exact⟨by omega,h1⟩
set_option maxRecDepth 20000 in
theorem inLoop(hr:J.o.drop a=c::r)(h:yL J a now):aK X0 Qp T (bT (n+1)) D6 LL 136 (Cj Qp 136) 5 (.block 2 (.loop bIB)) (sH J f t now [] c a [])
  fun e s=>e=.norm∧∃next seen,NI J (a+1) next∧(∀ψ,dH (y9 J ψ r) next=dH (y9 J ψ (c::r)) now)∧s={ sH J f t now next c a seen with env:=jm (T.iG 136 7) ((31,.val (.bool false))::(30,.val (.dM [.bool false]))::a4f J c a) }:=by
 have e0:bIB=.seq (.region 7 (a8m (eH bIB)) false) (.seq (.cond (.tmp 31) .skip (.exit 2)) (.block 3 bX)):=by kernel_rfl
 rw[e0];have hlen:=a2p hJ now h;have hlL:(kS.im now).length=now.length:=kS.qg now;have hql:=(JK hJ (r:=c::r) fun c' hc=>(jq.o2 hJ).2.2 c' (by rw[<-hr]at hc;exact a5q hc)).1;refine VG hX (n:=now.length) (b:=7) (r:=5) (it:=29) (nx:=30) (mo:=31) (es:=kS.im now) (fun seen s=>InS J f t now a c r seen s) (by kernel_rfl) (a7e (by kernel_rfl)) (a7e (by kernel_rfl)) hlL (by unfold LL;omega)
  ⟨a5v,(fun j hj=>(by cases hj)),[],⟨a5v,(fun e he=>(by cases he)),(fun e he=>(by cases he))⟩,(fun ψ=>rfl),(by kernel_rfl)⟩ (fun seen s hi=>?_)
 obtain⟨jH,aQ,next,h1,h2,h3⟩:=hi;rw[<-e0];refine⟨_,h3,by kernel_rfl,by kernel_rfl,by kernel_rfl,fun ho=>⟨by kernel_rfl,next,seen,h1,fun ψ=>?_,rfl⟩,fun j e hj he=>⟨by kernel_rfl,?_⟩⟩
 .rw[h2,Ql jH aQ ho,Iz]
 .rw[kS.BA,a07]at he;obtain⟨⟨st,w⟩,sG,rfl⟩:=he;obtain⟨q1,q2,q3⟩:=Yq sG;have Gi:(j::seen).Nodup:=a4J.2 ⟨hj,jH⟩;have Gj:∀k∈j::seen,k<now.length:=fun k hk=>by
   rcases a1J.1 hk with rfl|hk
   .exact q2
   .exact aQ k hk
  have hb:dH (fun _=>(Ae J r:Int)) next+w*(Ae J (c::r):Int)<=2000:=by
   have e1:=h2 fun _=>1;rw[Yp]at e1;have e2:=VI (φ:=fun j=>(nowAt now j).2*y9 J (fun _=>1) (c::r) (nowAt now j).1) Gi Gj fun k hk=>by
    have:=h.i.pos _ (dK (d:=(⟨⟨0,0,0⟩,0⟩:S3×Int)) hk);rw[EF];exact ag7 (afq this) (Int.natCast_nonneg _)
   rw[Iz,eu,q1]at e2;have e3:=Ns hJ now h;rw[hr]at e3;rw[Yp]at e2;have e4:y9 J (fun _=>1) (c::r) st=(Ae J (c::r):Int):=EF _ _;simp only[e4]at e2;omega
  obtain⟨next',e',s',g1,g2,g3,g4,g5⟩:=akW (n:=n) hJ (f:=f) t now seen (st:=st) (w:=w) (j:=j) hr (h.i.dp _ q3) (h.i.pos _ q3) h1 sG hb;refine aK.step (by kernel_rfl) g4 ⟨g3,Gi,Gj,next',g1,fun ψ=>?_,g5⟩;rw[g2,h2,eu,q1,ah4]
end
open Go Tw Pv bZ
abbrev akY(J:Jb)(a:Int)(x:List (Nat×PE aG)):List (Nat×PE aG):=[(1,.val (.kZ 4)),(2,.loc 0 0),(4,.val (.map 5)),(21,xL 3 J.o),(22,xi J.o.length),(23,xi a)]++x
abbrev VJ(J:Jb)(f:Nat)(t:List (V×Int))(now:List (S3×Int))(a:Int)(x:List (Nat×PE aG)):aS aG:=⟨akY J a x,[J.ps (.fn f [] [])],HN J f t now⟩
abbrev ntE:Nat:=Cj Qp 136
abbrev ExE(n:Nat)(c:Code)(s:aS aG)(e:Ex)(s':aS aG):Prop:=dS X0 Qp T (bT (n+1)) LL 136 false ntE 5 c s e s'
abbrev ExD(n:Nat)(c:Code)(s:aS aG)(Q:Ex->aS aG->Prop):Prop:=aK X0 Qp T (bT (n+1)) D6 LL 136 ntE 5 c s Q
section
variable {n:Nat} {J:Jb} (hJ:jq J) {f:Nat} (t:List (V×Int)) {now:List (S3×Int)} {a:Nat}
include hJ
set_option maxRecDepth 20000 in
theorem ag9(h:yL J a now)(aQ:a<J.o.length):ExD n bLB (VJ J f t now a []) fun e s=>e=.norm∧∃JO,yL J (a+1) JO∧lN 5 [.gc [6]] (gW X0 (T.eU 136 (dZ bLB)) s)=some (VJ J f t JO ((a+1:Nat):Int) []):=by
 have hr:J.o.drop a=J.o.getD a 0::J.o.drop (a+1):=by
  rw[a6p aQ];simp[List.getD,a0b aQ]
 have RJ:J.o.length<=6:=by rw[(jq.o2 hJ).2.1];exact hJ.bU.len
 have t1:decide ((a:Int)<(J.o.length:Int))=true:=bF aQ;have e0:bLB=.seq (eH bLB) (.seq (.cond (.tmp 24) .skip (.exit 0)) (.seq (.block 1 bB1) (eP (eP (eP bLB))))):=by kernel_rfl
 have e1:bB1=.seq (eH bB1) (.seq (eH (eP bB1)) (.seq (.seq (eH (eH (eP (eP bB1)))) (.block 2 (.loop bIB))) (eP (eP (eP bB1))))):=by kernel_rfl
 have x3:ExE n (eH bLB) (VJ J f t now a []) .norm (VJ J f t now a [(24,.val (.bool (decide ((a:Int)<(J.o.length:Int)))))]):=zY hX gy (by kernel_rfl) (.r rfl);have hc:Ad (VJ J f t now a [(24,.val (.bool (decide ((a:Int)<(J.o.length:Int)))))]).env (.tmp 24)=some (.bool true):=by rw[<-t1];kernel_rfl
 have i1:gJ (a:Int) J.o.length:=aH aQ;have x4:ExE n (eH bB1) (VJ J f t now a [(24,.val (.bool (decide ((a:Int)<(J.o.length:Int)))))]) .norm ⟨[(1,.val (.kZ 4)),(2,.loc 0 0),(4,.val (.map 5)),(6,xi (J.o.getD a 0)),(21,xL 3 J.o),(22,xi J.o.length),(23,xi a)],[J.ps (.fn f [] [])],HN J f t now⟩:=zY hX gy (by kernel_rfl) (.o i1 (.r rfl));have x5:ExE n (eH (eP bB1)) ⟨[(1,.val (.kZ 4)),(2,.loc 0 0),(4,.val (.map 5)),(6,xi (J.o.getD a 0)),(21,xL 3 J.o),(22,xi J.o.length),(23,xi a)],[J.ps (.fn f [] [])],HN J f t now⟩ .norm ⟨[(1,.val (.kZ 4)),(2,.loc 0 0),(4,.val (.map 5)),(6,xi (J.o.getD a 0)),(7,.val (.map 6)),(21,xL 3 J.o),(22,xi J.o.length),(23,xi a)],[J.ps (.fn f [] [])],HN J f t now++[.map []]⟩:=zY hX gy (by kernel_rfl) (.r rfl);have x6:ExE n (eH (eH (eP (eP bB1)))) ⟨[(1,.val (.kZ 4)),(2,.loc 0 0),(4,.val (.map 5)),(6,xi (J.o.getD a 0)),(7,.val (.map 6)),(21,xL 3 J.o),(22,xi J.o.length),(23,xi a)],[J.ps (.fn f [] [])],HN J f t now++[.map []]⟩ .norm ⟨a4f J (J.o.getD a 0) a,[J.ps (.fn f [] [])],HN J f t now++[.map (kS.im []),.dn 5 (kS.im now).length []]⟩:=zY hX gy (by kernel_rfl) (.r rfl);rw[kS.qg now]at x6;rw[e0];refine aK.BF (by kernel_rfl) x3 (aK.seq (R:=fun e s=>e=.norm∧s=VJ J f t now a [(24,.val (.bool (decide ((a:Int)<(J.o.length:Int)))))]) (aK.cond (t:=true) hc (aK.step (by kernel_rfl) (zY hX gy (an:=.n) (by kernel_rfl) (.r rfl)) ⟨rfl,rfl⟩)) (fun s hs=>?_) (fun i s h=>by cases h.1) (fun s h=>by cases h.1));obtain⟨_,rfl⟩:=hs;refine aK.seq (R:=fun e s=>e=.norm∧∃next seen,yL J (a+1) next∧s=⟨[(1,.val (.kZ 4)),(2,.loc 0 0),(4,.val (.map 6)),(21,xL 3 J.o),(22,xi J.o.length),(23,xi a)],[J.ps (.fn f [] [])],HI J f t now next seen⟩) ?_ (fun s hs=>?_) (fun i s h=>by cases h.1) (fun s h=>by cases h.1)
 .refine aK.block ?_;rw[e1];refine(aK.BF (by kernel_rfl) x4 (aK.BF (by kernel_rfl) x5 (aK.seq (R:=fun e s=>e=.norm∧∃next seen,NI J (a+1) next∧(∀ψ,dH (y9 J ψ (J.o.drop (a+1))) next=dH (y9 J ψ (J.o.getD a 0::J.o.drop (a+1))) now)∧s={ sH J f t now next (J.o.getD a 0) a seen with env:=jm (T.iG 136 7) ((31,.val (.bool false))::(30,.val (.dM [.bool false]))::a4f J (J.o.getD a 0) a) }) (Q:=fun e s=>e=.norm∧∃next seen,yL J (a+1) next∧s=⟨[(1,.val (.kZ 4)),(2,.loc 0 0),(4,.val (.map 6)),(21,xL 3 J.o),(22,xi J.o.length),(23,xi a)],[J.ps (.fn f [] [])],HI J f t now next seen⟩) (aK.BF (by kernel_rfl) x6 (inLoop (n:=n) hJ t now hr h)) (fun s hs=>?_) (fun i s h=>by cases h.1) (fun s h=>by cases h.1)))).mono fun e s h=>?_
  .obtain⟨_,next,seen,g1,g2,rfl⟩:=hs;refine aK.step (by kernel_rfl) (zY (ps1:=⟨[(1,.val (.kZ 4)),(2,.loc 0 0),(4,.val (.map 6)),(21,xL 3 J.o),(22,xi J.o.length),(23,xi a)],[J.ps (.fn f [] [])],HI J f t now next seen⟩) hX gy (an:=.n) (by kernel_rfl) (.r rfl)) ⟨rfl,next,seen,⟨g1,fun ψ=>?_⟩,rfl⟩;rw[g2,<-hr,h.s]
  obtain⟨rfl,h2⟩:=h;exact⟨rfl,h2⟩
 obtain⟨_,next,seen,g1,rfl⟩:=hs;refine aK.step (by kernel_rfl) (zY (ps1:=⟨[(1,.val (.kZ 4)),(2,.loc 0 0),(4,.val (.map 6)),(21,xL 3 J.o),(22,xi J.o.length),(23,xi (i64.wrap ((a:Int)+1)))],[J.ps (.fn f [] [])],HI J f t now next seen⟩) hX gy (an:=.n) (by kernel_rfl) (.r rfl)) ⟨rfl,next,g1,?_⟩;rw[yF (by unfold ah;omega)]
 kernel_rfl
set_option maxRecDepth 20000 in
theorem a8t:ExD n bLB (VJ J f t now J.o.length []) fun e s=>e=.exit 0∧s=VJ J f t now J.o.length [(24,.val (.bool (decide ((J.o.length:Int)<(J.o.length:Int)))))]:=by
 have t1:decide ((J.o.length:Int)<(J.o.length:Int))=false:=fF _;have e0:bLB=.seq (eH bLB) (.seq (.cond (.tmp 24) .skip (.exit 0)) (.seq (.block 1 bB1) (eP (eP (eP bLB))))):=by kernel_rfl
 have x3:ExE n (eH bLB) (VJ J f t now J.o.length []) .norm (VJ J f t now J.o.length [(24,.val (.bool (decide ((J.o.length:Int)<(J.o.length:Int)))))]):=zY hX gy (by kernel_rfl) (.r rfl);have hc:Ad (VJ J f t now J.o.length [(24,.val (.bool (decide ((J.o.length:Int)<(J.o.length:Int)))))]).env (.tmp 24)=some (.bool false):=by rw[<-t1];kernel_rfl
 rw[e0];refine aK.BF (by kernel_rfl) x3 (aK.seq (R:=fun e s=>e=.exit 0∧s=VJ J f t now J.o.length [(24,.val (.bool (decide ((J.o.length:Int)<(J.o.length:Int)))))]) (aK.cond (t:=false) hc (aK.step (by kernel_rfl) (zY hX gy (an:=.n) (by kernel_rfl) (.r rfl)) ⟨rfl,rfl⟩)) (fun s hs=>by cases hs.1) (fun i s h=>h) (fun s h=>by cases h.1))
set_option maxRecDepth 20000 in
theorem abh(h:yL J 0 now):ExD n (.block 0 (.loop bLB)) (VJ J f t now 0 []) fun e s=>e=.norm∧∃JO,yL J J.o.length JO∧s=VJ J f t JO J.o.length [(24,.val (.bool (decide ((J.o.length:Int)<(J.o.length:Int)))))]:=by
 have RJ:J.o.length<=6:=by rw[(jq.o2 hJ).2.1];exact hJ.bU.len
 refine aK.block ?_;refine aK.loop (fun k s=>∃a JO gs,a+k=J.o.length∧yL J a JO∧lN 5 gs (gW X0 (T.eU 136 (dZ bLB)) s)=some (VJ J f t JO (a:Int) [])) (fun k s hi=>?_) (k:=J.o.length) ⟨0,now,[],by omega,h,by kernel_rfl⟩ (by unfold LL;omega);obtain⟨a,JO,gs,hk,h1,h2⟩:=hi;refine aK.ghost hX h2 ?_;rcases a4E a J.o.length with aQ|EX
 .refine(ag9 (n:=n) hJ t h1 aQ).mono fun e s h3=>?_;obtain⟨rfl,aq9,h4,h5⟩:=h3;exact⟨k-1,by omega,a+1,aq9,_,by omega,h4,h5⟩
 have:a=J.o.length:=by omega
 subst this;refine(a8t (n:=n) hJ t).mono fun e s h3=>?_;obtain⟨rfl,rfl⟩:=h3;dsimp only;rw[a0u rfl];exact⟨rfl,JO,h1,rfl⟩
end
open Go Tw Pv bZ
def Yt(φ:V->Int)(l:List V):Int:=if nO (l.drop 1)=true then φ (l.getD 0 V0)else 0
theorem aga(φ:V->Int)(l:List V)(w:Int)(t:List (V×Int)):dH φ (yT l w t)=dH φ t+w*Yt φ l:=by
 unfold yT Yt;cases nO (l.drop 1)
 .rw[a0o (by simp),a0o (by simp)];omega
 rw[a0u rfl,a0u rfl,zU]
abbrev sH2(J:Jb)(f:Nat)(t:List (V×Int))(now:List (S3×Int))(seen:List Nat):aS aG:=⟨[(1,.val (.kZ 4)),(2,.loc 0 0),(94,.val (.iter 6))],[J.ps (.fn f [] [])],Rf J f true none t++[.map (kS.im now),.dn 5 now.length seen]⟩
structure a0p(t:List (V×Int)):Prop where
 nd:(t.map (·.1)).Nodup
 pos:∀e∈t,0<e.2
theorem a0p.y{t:List (V×Int)}(h:a0p t)(l:List V){w:Int}(hw:0<w):a0p (yT l w t):=by
 unfold yT;split
 .exact⟨Gg h.nd _ _,Qg hw h.pos⟩
 exact h
section
variable {n:Nat} {J:Jb} (hJ:jq J) {f:Nat} {now:List (S3×Int)}
def aqa(J:Jb)(f:Nat)(now:List (S3×Int))(seen:List Nat)(s:aS aG):Prop:=
 seen.Nodup∧(∀j∈seen,j<now.length)∧∃t,a0p t∧(∀φ,dH φ t=eu (fun j=>(nowAt now j).2*Yt φ (aU J.D (nowAt now j).1)) seen)∧gW X0 (T.eU 136 (dZ bL2)) s=sH2 J f t now seen
theorem akZ(l:List V):0<=Yt (fun _=>1) l∧Yt (fun _=>1) l<=1:=by
 unfold Yt;split<;>simp
include hJ
theorem agb(h:yL J J.o.length now){seen:List Nat}(jH:seen.Nodup)(aQ:∀j∈seen,j<now.length){t:List (V×Int)}(ht:a0p t)(hs:∀φ,dH φ t=eu (fun j=>(nowAt now j).2*Yt φ (aU J.D (nowAt now j).1)) seen):Tal t:=by
 refine⟨ht.nd,ht.pos,fun e he=>?_⟩;have h1:=(Iy ht.pos).2 e he;have hp:∀j,j<now.length->0<(nowAt now j).2:=fun k hk=>h.i.pos _ (dK (d:=(⟨⟨0,0,0⟩,0⟩:S3×Int)) hk);have h2:=VI (φ:=fun j=>(nowAt now j).2*Yt (fun _=>1) (aU J.D (nowAt now j).1)) jH aQ fun k hk=>ag7 (afq (hp k hk)) (akZ _).1;have h3:eu (fun j=>(nowAt now j).2*Yt (fun _=>1) (aU J.D (nowAt now j).1)) (List.range now.length)<=eu (fun j=>(nowAt now j).2*1) (List.range now.length):=by
  have:∀l:List Nat,(∀j∈l,j<now.length)->eu (fun j=>(nowAt now j).2*Yt (fun _=>1) (aU J.D (nowAt now j).1)) l<=eu (fun j=>(nowAt now j).2*1) l:=by
   intro l
   induction l with
   |nil=>intro _;exact a9s _
   |cons j l ih=>
    intro hl;have:=ih fun k hk=>hl k (by simp[hk]);have:=a98 (akZ (aU J.D (nowAt now j).1)).2 (afq (hp j (hl j (by simp))));simp only[eu];omega
  exact this _ fun j hj=>a4L.1 hj
 rw[Iz (φ:=fun _=>1)]at h3;have h4:=Ns hJ now h;rw[List.drop_length]at h4;have h4:dH (fun _=>1) now<=2000:=h4;rw[<-hs]at h2;omega
set_option maxRecDepth 20000 in
theorem a4g(hO:Ok n qP)(h:yL J J.o.length now)(hD:0<J.D.length):aK X0 Qp T (bT (n+1)) D6 LL 136 ntE 5 (.block 7 (.loop bL2)) (sH2 J f [] now [])
  fun e s=>e=.norm∧∃t seen,a0p t∧(∀φ,dH φ t=dH (fun st=>Yt φ (aU J.D st)) now)∧s={ sH2 J f t now seen with env:=jm (T.iG 136 23) ((96,.val (.bool false))::(95,.val (.dM [.bool false]))::(sH2 J f t now seen).env) }:=by
 have e0:bL2=.seq (.region 23 (a8m (eH bL2)) false) (.seq (.cond (.tmp 96) .skip (.exit 7)) (.block 8 bX2)):=by kernel_rfl
 rw[e0];have hlen:=a2p hJ now h;refine VG hX (n:=now.length) (b:=6) (r:=5) (it:=94) (nx:=95) (mo:=96) (es:=kS.im now) (fun seen s=>aqa J f now seen s) (by kernel_rfl) (a7e (by kernel_rfl)) (a7e (by kernel_rfl)) (kS.qg now) (by unfold LL;omega)
  ⟨a5v,(fun j hj=>(by cases hj)),[],⟨a5v,(fun e he=>(by cases he))⟩,(fun φ=>rfl),(by kernel_rfl)⟩ (fun seen s hi=>?_)
 obtain⟨jH,aQ,t,h1,h2,h3⟩:=hi;rw[<-e0];refine⟨_,h3,by kernel_rfl,by kernel_rfl,by kernel_rfl,fun ho=>⟨by kernel_rfl,t,seen,h1,fun φ=>?_,rfl⟩,fun j e hj he=>⟨by kernel_rfl,?_⟩⟩
 .rw[h2,Ql jH aQ ho,Iz (φ:=fun st=>Yt φ (aU J.D st))]
 .rw[kS.BA,a07]at he;obtain⟨⟨st,w⟩,sG,rfl⟩:=he;obtain⟨q1,q2,q3⟩:=Yq sG;have Gi:(j::seen).Nodup:=a4J.2 ⟨hj,jH⟩;have Gj:∀k∈j::seen,k<now.length:=fun k hk=>by
   rcases a1J.1 hk with rfl|hk
   .exact q2
   .exact aQ k hk
  have ho:=a2o sG;have qE:(aU J.D st).length=J.D.length:=by simp[aU]
  have hw:=h.i.pos _ q3;have hc:=a2h (M:=n) (f:=f) J st hJ.d3 fun k hk=>(JF hJ (h.i.dp _ q3) hk).2;have hd3:=hJ.d3;have hy:=aq3 (n:=n) hO J f (agb hJ h jH aQ h1 h2) (aU J.D st) (w:=w) (by omega) (by unfold ah;omega) ⟨hw,hlen.2 _ q3⟩;refine aK.step (e:=.norm) (by kernel_rfl) (zY (ps1:=⟨[(1,.val (.kZ 4)),(2,.loc 0 0),(94,.val (.iter 6)),(106,xl false)],[J.ps (.fn f [] []),st.ps],Rf J f true none (yT (aU J.D st) w t)++[.map (kS.im now),.dn 5 now.length (j::seen)]⟩) hX gy (by kernel_rfl) (.c (.dM [.agg st.ps,.int .i64 w]) [] ho (.fr [] hc (.fr [0,1,2,3,4] hy (.b (rfl:(!true)=false) (.r rfl)))))) ⟨.inl rfl,Gi,Gj,yT (aU J.D st) w t,h1.y _ hw,fun φ=>?_,by kernel_rfl⟩;rw[aga,h2,eu,q1,ah4]
def a8u(J:Jb)(t:List (V×Int)):Prop:=a0p t∧∀φ,dH φ t=eu (fun q=>Yt φ (J.D.map fun d=>kX d q)) (Iw J)
omit hJ in
theorem a4h(hJ:jq J):yL J 0 [(eY J.D,1)]:=by
 refine⟨⟨by simp,fun e he=>?_,fun e he=>?_⟩,fun ψ=>?_⟩
 .rw[a2D.1 he];show(0:Int)<1;decide
 .rw[a2D.1 he];exact Yi hJ
 simp[dH]
set_option maxRecDepth 20000 in
theorem al0(hO:Ok n qP)(hD:0<J.D.length):abb X0 Qp (vg Qp T (bT (n+1)) LL) (.fn 136 [.agg (J.ps (.fn f [] []))] []) [.kZ 4] (Rf J f true none []) fun v H1=>∃(t:List (V×Int)) (G:List (PB aG)),a8u J t∧H1=Rf J f true none t++G:=by
 refine a2m (t:=U2 Qp 136) hX (by kernel_rfl) ?_;have e0:(U2 Qp 136).body=.seq (eH QZ) (.seq (eH (eP QZ)) (.seq (.seq (eH (eH (eP (eP QZ)))) (.block 0 (.loop bLB))) (.seq (eH (eP (eP (eP QZ)))) (.block 7 (.loop bL2))))):=by kernel_rfl
 rw[e0];have hs:=a0h (M:=n) (f:=f) (a:=[]) (cc:=[]) (H:=[]) J hJ.d3;have hf:o9 X0 Qp 148 (kS.es []) (kS.tv (eY J.D)):=kS.fresh (x:=eY J.D) (by simp);have x0:ExE n (eH QZ) ⟨lG X0 0 [.agg (J.ps (.fn f [] [])),.kZ 4],[],Rf J f true none []⟩ .norm ⟨[(1,.val (.kZ 4)),(2,.loc 0 0)],[J.ps (.fn f [] [])],Rf J f true none []⟩:=zY hX gy (an:=.n) (by kernel_rfl) (.r rfl);have x1:ExE n (eH (eP QZ)) ⟨[(1,.val (.kZ 4)),(2,.loc 0 0)],[J.ps (.fn f [] [])],Rf J f true none []⟩ .norm ⟨[(1,.val (.kZ 4)),(2,.loc 0 0),(4,.val (.map 5))],[J.ps (.fn f [] [])],HN J f [] [(eY J.D,1)]⟩:=zY hX gy (by kernel_rfl) (.fr [] hs (.q (.bool false) (kS.ck (eY J.D)) (.o hf (.r rfl))));have x2:ExE n (eH (eH (eP (eP QZ)))) ⟨[(1,.val (.kZ 4)),(2,.loc 0 0),(4,.val (.map 5))],[J.ps (.fn f [] [])],HN J f [] [(eY J.D,1)]⟩ .norm (VJ J f [] [(eY J.D,1)] 0 []):=zY hX gy (an:=.n) (by kernel_rfl) (.r rfl);refine aK.BF (by kernel_rfl) x0 (aK.BF (by kernel_rfl) x1 (aK.seq (R:=fun e s=>e=.norm∧∃JO,yL J J.o.length JO∧s=VJ J f [] JO J.o.length [(24,.val (.bool (decide ((J.o.length:Int)<(J.o.length:Int)))))]) (aK.BF (by kernel_rfl) x2 (abh (n:=n) hJ [] (a4h hJ))) (fun s h=>?_) (fun i s h=>by cases h.1) (fun s h=>by cases h.1)));obtain⟨_,now,h1,rfl⟩:=h;have x3:ExE n (eH (eP (eP (eP QZ)))) (VJ J f [] now J.o.length [(24,.val (.bool (decide ((J.o.length:Int)<(J.o.length:Int)))))]) .norm ⟨[(1,.val (.kZ 4)),(2,.loc 0 0),(94,.val (.iter 6))],[J.ps (.fn f [] [])],Rf J f true none []++[.map (kS.im now),.dn 5 (kS.im now).length []]⟩:=zY hX gy (an:=.n) (by kernel_rfl) (.r rfl);rw[kS.qg now]at x3;refine aK.BF (by kernel_rfl) x3 ((a4g hJ hO h1 hD).mono fun e s h=>?_);obtain⟨rfl,t,seen,g1,g2,rfl⟩:=h;refine⟨.inl rfl,[],by kernel_rfl,t,[.map (kS.im now),.dn 5 now.length seen],⟨g1,fun φ=>?_⟩,rfl⟩;rw[g2];have:=h1.s fun st=>Yt φ (aU J.D st);rw[List.drop_length]at this;rw[<-ab4 hJ (Yt φ)];exact this
end
open Go Tw Pv bZ
def Qm(J:Jb):List (List V):=(Iw J).map fun q=>J.D.map fun d=>kX d q
def nC(J:Jb):List V:=((Qm J).filter fun l=>nO (l.drop 1)).map fun l=>l.getD 0 V0
abbrev Yu(e:V×Int):List Int:=S9 e.1.tv
def dP(J:Jb):List (V×Int):=zC Yu (Bq (nC J))
theorem a2q(φ:V->Int):∀L:List (List V),eu (Yt φ) L=eu φ ((L.filter fun l=>nO (l.drop 1)).map fun l=>l.getD 0 V0)
 | []=>rfl
 |l::L=>by
  rw[eu,a2q φ L];unfold Yt;cases h:nO (l.drop 1)
  .rw[a0o (by simp),adh (by rw[h];simp)];omega
  rw[a0u rfl,adp (by rw[h]),a4D,eu]
theorem key_inj{l:List (V×Int)}(hn:(l.map (·.1)).Nodup):∀a∈l,∀b∈l,Yu a=Yu b->a=b:=fun a ha b hb h=>by
 have h1:a.1=b.1:=by
  have h:[a.1.f,a.1.n]=[b.1.f,b.1.n]:=h;simp only[aek,and_true]at h;obtain⟨⟨a1,a2⟩,_⟩:=a;obtain⟨⟨b1,b2⟩,_⟩:=b;simp only at h;rw[h.1,h.2]
 have h2:=ED hn ha;have h3:=ED hn hb;rw[h1,h3]at h2;exact aaD h1 h2.symm
theorem a8v{J:Jb}{t:List (V×Int)}(h:a8u J t):t.Perm (Bq (nC J)):=by
 obtain⟨f1,f2⟩:=Gh (nC J);refine Vw h.1.nd f1 h.1.pos f2 fun φ=>?_;rw[h.2,TR];unfold nC;rw[<-a2q];unfold Qm;rw[zV]
theorem a8w{J:Jb}{t:List (V×Int)}(h:a8u J t):zC Yu t=dP J:=Fq (a8v h) (key_inj h.1.nd)
abbrev abj(e:V×Int):TV×TV:=(e.1.tv,.int .i64 e.2)
theorem VK:∀t:List (V×Int),xH (kV.im t)=some (t.map abj)
 | []=>rfl
 |e::t=>by
  have:=VK t;show(match qy (kV.pv e.1),qy (PV.int .i64 e.2:PV aG),xH (kV.im t)with
   |some k,some v,some r=>some ((k,v)::r)
   |_,_,_=>none)=_
  rw[this];rfl
section
variable {n:Nat} {J:Jb} (hJ:jq J) {f:Nat}
include hJ
set_option maxRecDepth 20000 in
theorem Qn(hO:Ok n qP)(hD:0<J.D.length):aW X0 Qp (bT (n+2)) (.fn 87 [] []) [.agg (J.ps (.fn f [] []))] [] (.map 0) [.map (kV.im (dP J))]:=by
 refine a8j (X:=X0) (P:=Qp) (T:=T) (L:=LL) (n:=n+1) (f:=87) (first:=[]) (cap:=[]) (H:=[]) (t:=U2 Qp 87) (es0:=kV.im (dP J)) (a4c:=(dP J).map abj) hX (by kernel_rfl) (by kernel_rfl) (by kernel_rfl) rfl (VK _) ?_;have e0:(U2 Qp 87).body=.seq (eH Yo) (.seq (eH (eP Yo)) (.seq (.seq (eH (eH (eP (eP Yo)))) (.block 0 (.rangeFunc (.tmp 8) #[9,10] (xG Qp 87) (Bf Qp 87)))) (.seq (eH (eP (eP (eP Yo)))) .ret))):=by kernel_rfl
 rw[e0];have x0:dS X0 Qp T (bT (n+1)) LL 87 false (Cj Qp 87) 0 (eH Yo) ⟨lG X0 0 [.agg (J.ps (.fn f [] []))],[],[]⟩ .norm ⟨[(1,.val (.ptr 0 0 5)),(2,.val (.nil .map))],[],[.cells (J.ps (.fn f [] []))]⟩:=zY hX gy (an:=.n) (by kernel_rfl) (.r rfl);have x1:dS X0 Qp T (bT (n+1)) LL 87 false (Cj Qp 87) 0 (eH (eP Yo)) ⟨[(1,.val (.ptr 0 0 5)),(2,.val (.nil .map))],[],[.cells (J.ps (.fn f [] []))]⟩ .norm ⟨[(1,.val (.ptr 0 0 5)),(2,.val (.nil .map)),(3,.val (.ptr 2 0 1))],[],HQc J f []⟩:=zY hX gy (an:=.n) (by kernel_rfl) (.r rfl);have x2:dS X0 Qp T (bT (n+1)) LL 87 false (Cj Qp 87) 0 (eH (eH (eP (eP Yo)))) ⟨[(1,.val (.ptr 0 0 5)),(2,.val (.nil .map)),(3,.val (.ptr 2 0 1))],[],HQc J f []⟩ .norm ⟨a8p J f,[],HQc J f []⟩:=zY hX gy (an:=.n) (by kernel_rfl) (.r rfl);refine aK.BF (by kernel_rfl) x0 (aK.BF (by kernel_rfl) x1 (aK.seq (R:=fun e s=>e=.norm∧∃(t:List (V×Int)) (G:List (PB aG)),a8u J t∧s=⟨a8p J f,[],Rf J f false (some .skip) t++G⟩) (aK.BF (by kernel_rfl) x2 (aK.block ?_)) (fun s h=>?_) (fun i s h=>by cases h.1) (fun s h=>by cases h.1)))
 .refine aK.range (f1:=136) (a1:=[.agg (J.ps (.fn f [] []))]) (b1:=[]) (K:=fun v H1=>∃(t:List (V×Int)) (G:List (PB aG)),a8u J t∧H1=Rf J f true none t++G) hX rfl (by kernel_rfl) (by kernel_rfl) (al0 hJ hO hD) (fun v H1 hk=>?_);obtain⟨t,G,h1,rfl⟩:=hk;exact⟨true,_,_,_,_,_,_,none,.norm,rfl,rfl,rfl,t,G,h1,rfl⟩
 obtain⟨_,t,G,h1,rfl⟩:=h;have x3:dS X0 Qp T (bT (n+1)) LL 87 false (Cj Qp 87) 0 (.seq (eH (eP (eP (eP Yo)))) .ret) ⟨a8p J f,[],Rf J f false (some .skip) t++G⟩ .ret ⟨[(2,.val (.map 1))],[],Rf J f false (some .skip) t++G⟩:=zY hX gy (an:=.n) (by kernel_rfl) (.r rfl);refine aK.step (by kernel_rfl) x3 ⟨.inr rfl,[.map 1],by kernel_rfl,1,kV.im t,t.map abj,rfl,rfl,VK t,?_⟩;unfold Sj;rw[TU (g:=abj) (key:=Yu) (a8a:=fun e=>S9 e.1) (fun _=>rfl),a8w h1]
end
open Go Tw Pv bZ
abbrev Qo(t:List (V×Int))(j:Nat):V×Int:=t.getD j (V0,0)
theorem VL{t:List (V×Int)}{j:Nat}{e:V×Int}(h:t[j]? = some e):Qo t j=e∧j<t.length∧e∈t:=by
 obtain⟨h1,h2⟩:=a05.1 h;exact⟨by simp[Qo,List.getD,h],h1,h2▸a4Q h1⟩
theorem agc(t:List (V×Int)):t=(List.range t.length).map fun j=>Qo t j:=
 (pI (d:=((V0,0):V×Int)) (by simp)).2 fun k hk=>by simp[List.getD,hk]
theorem Yv(t:List (V×Int)):eu (fun j=>(Qo t j).2) (List.range t.length)=dH (fun _=>1) t:=by
 have h1:dH (fun _=>1) t=eu (fun e:V×Int=>e.2) t:=by
  induction t with
  |nil=>rfl
  |cons e m ih=>simp only[dH,eu,ih,acj]
 rw[h1]
 conv=>rhs;rw[agc t]
 rw[zV]
theorem BG{t:List (V×Int)}{j:Nat}{v:V}{w:Int}(h:t[j]? = some (v,w)):(kV.im t).length=t.length∧(kV.im t)[j]? = some (.agg v.ps,.int .i64 w):=by
 refine⟨kV.qg t,?_⟩;rw[kV.BA,h];rfl
structure JQ(t:List (V×Int)):Prop where
 pos:∀e∈t,0<e.2
 tot:dH (fun _=>1) t<=2000
theorem JQ.len{t:List (V×Int)}(h:JQ t):t.length<=2000:=by
 have h6:∀{m:List (V×Int)},(∀e∈m,0<e.2)->(m.length:Int)<=dH (fun _=>1) m:=by
  intro m
  induction m with
  |nil=>intro _;exact a9s _
  |cons e m ih=>
   intro hp;have:=ih fun e he=>hp e (by simp[he]);have:=hp e (by simp);simp only[dH,a4v,acj];omega
 have:=h6 h.pos;have:=h.tot;omega
abbrev a4i:Code:=(U2 Qp 90).body
abbrev lpA:Code:=eH (eH (eP (eH (eP a4i))))
abbrev xA:Code:=eH (eP (eP lpA))
abbrev sA(t:List (V×Int))(z:Int)(js:List Nat):aS aG:=⟨[(2,xi z),(6,.val (.iter 1))],[],[.iL (kV.im t),.dn 0 t.length js]⟩
section
variable {n:Nat} {t:List (V×Int)}
set_option maxRecDepth 20000 in
theorem aqb(h:JQ t):aW X0 Qp (bT (n+1)) (.fn 90 [] []) [.map 0] [.iL (kV.im t)] (.int .i64 (dH (fun _=>1) t)) [.iL (kV.im t)]:=by
 refine abd (X:=X0) (P:=Qp) (T:=T) (L:=LL) (n:=n) (f:=90) (first:=[]) (cap:=[]) (xs:=[.map 0]) (H:=[.iL (kV.im t)]) (v:=.int .i64 (dH (fun _=>1) t)) (t:=U2 Qp 90) (tv:=.int .i64 (dH (fun _=>1) t)) hX (by kernel_rfl) (by kernel_rfl) (by kernel_rfl) rfl rfl ?_;have e0:(U2 Qp 90).body=.seq (eH a4i) (.seq (.seq (eH (eH (eP a4i))) (.block 0 (.loop lpA))) (.seq (eH (eP (eP a4i))) .ret)):=by kernel_rfl
 have e1:lpA=.seq (.region 2 (a8m (eH lpA)) false) (.seq (.cond (.tmp 8) .skip (.exit 0)) (.block 1 xA)):=by kernel_rfl
 have x0:dS X0 Qp T (bT n) LL 90 false (Cj Qp 90) 1 (eH a4i) ⟨lG X0 0 [.map 0],[],[.iL (kV.im t)]⟩ .norm ⟨[(0,.val (.map 0)),(2,xi 0)],[],[.iL (kV.im t)]⟩:=zY hX gy (an:=.n) (by kernel_rfl) (.r rfl);have x1:dS X0 Qp T (bT n) LL 90 false (Cj Qp 90) 1 (eH (eH (eP a4i))) ⟨[(0,.val (.map 0)),(2,xi 0)],[],[.iL (kV.im t)]⟩ .norm ⟨[(2,xi 0),(6,.val (.iter 1))],[],[.iL (kV.im t),.dn 0 (kV.im t).length []]⟩:=zY hX gy (an:=.n) (by kernel_rfl) (.r rfl);rw[kV.qg t]at x1;have hlen:=h.len;have hpj:∀j,j<t.length->0<(Qo t j).2:=fun k hk=>h.pos _ (dK (d:=((V0,0):V×Int)) hk);rw[e0];refine aK.BF (by kernel_rfl) x0 (aK.seq (R:=fun e s=>e=.norm∧∃seen,s={ sA t (dH (fun _=>1) t) seen with env:=jm (T.iG 90 2) ((8,.val (.bool false))::(7,.val (.dM [.bool false]))::(sA t (dH (fun _=>1) t) seen).env) }) (aK.BF (by kernel_rfl) x1 ?_) (fun s hs=>?_) (fun i s h=>by cases h.1) (fun s h=>by cases h.1))
 .rw[e1];refine VG hX (n:=t.length) (b:=1) (r:=0) (it:=6) (nx:=7) (mo:=8) (es:=kV.im t) (fun seen s=>seen.Nodup∧(∀j∈seen,j<t.length)∧gW X0 (T.eU 90 (dZ lpA)) s=sA t (eu (fun j=>(Qo t j).2) seen) seen) (by kernel_rfl) (a7e (by kernel_rfl)) (a7e (by kernel_rfl)) (kV.qg t) (by unfold LL;omega)
   ⟨a5v,(fun j hj=>(by cases hj)),(by kernel_rfl)⟩ (fun seen s hi=>?_)
  obtain⟨jH,aQ,h3⟩:=hi;rw[<-e1];refine⟨_,h3,by kernel_rfl,by kernel_rfl,by kernel_rfl,fun ho=>⟨by kernel_rfl,seen,?_⟩,fun j e hj he=>⟨by kernel_rfl,?_⟩⟩
  .rw[Ql jH aQ ho,Yv]
  rw[kV.BA,a07]at he;obtain⟨⟨v,w⟩,sG,rfl⟩:=he;obtain⟨q1,q2,q3⟩:=VL sG;have Gi:(j::seen).Nodup:=a4J.2 ⟨hj,jH⟩;have Gj:∀k∈j::seen,k<t.length:=fun k hk=>by
   rcases a1J.1 hk with rfl|hk
   .exact q2
   exact aQ k hk
  have hb:=VI (φ:=fun j=>(Qo t j).2) Gi Gj fun k hk=>afq (hpj k hk);have Aa:=VH (φ:=fun j=>(Qo t j).2) (l:=seen) fun k hk=>afq (hpj k (aQ k hk));rw[Yv,eu,q1]at hb;have ht:=h.tot;have hw:=h.pos _ q3;have YG:i64.wrap (eu (fun j=>(Qo t j).2) seen+w)=eu (fun j=>(Qo t j).2) (j::seen):=by
   rw[fJ (by have:(0:Int)<w:=hw;omega) (by have:w+eu (fun j=>(Qo t j).2) seen<=dH (fun _=>1) t:=hb;omega),eu,q1,ah4]
  refine aK.step (e:=.norm) (by kernel_rfl) (zY (ps1:=⟨[(2,xi (i64.wrap (eu (fun j=>(Qo t j).2) seen+w))),(6,.val (.iter 1))],[],[.iL (kV.im t),.dn 0 t.length (j::seen)]⟩) hX gy (by kernel_rfl) (.c (.dM [.agg v.ps,.int .i64 w]) [] (BG sG) (.r rfl))) ⟨.inl rfl,Gi,Gj,?_⟩;rw[YG]
  kernel_rfl
 obtain⟨_,seen,rfl⟩:=hs;exact aK.step (by kernel_rfl) (zY (e:=.ret) (ps1:=⟨[(2,xi (dH (fun _=>1) t))],[],[.iL (kV.im t),.dn 0 t.length seen]⟩) hX gy (an:=.n) (by kernel_rfl) (.r rfl)) ⟨.inr rfl,[.int .i64 (dH (fun _=>1) t)],by kernel_rfl,rfl⟩
end
end Go.Proofs.YtmobpoiejckagaaGreat
