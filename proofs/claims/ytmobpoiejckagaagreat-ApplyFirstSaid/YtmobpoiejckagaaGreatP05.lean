/- Part 6 of a proof: At the first place the diagram has the cell, and at no place before it; for all diagrams, and a cell of theirs by a number. -/
import Derived.Test.YtmobpoiejckagaaGreatP04
set_option linter.constructorNameAsVariable false
set_option linter.unusedVariables false
set_option linter.unusedSimpArgs false
set_option linter.unusedSectionVars false
open Go.IntKind (i64)
noncomputable section
namespace Go.Proofs.YtmobpoiejckagaaGreat
open Go Tw Pv cO
theorem Xz{d:Dg}(h:aW d=0):∀i,i<d.aj.length->∀k,k<(fC d i).aA.length->d.aG.idxOf (fC d i).var+1<=Ee d.aG d.aj ((fC d i).aA.getD k 0):=by
 intro i hi k hk;unfold aW at h;split at h
 .rename_i c;rw[h]at c;cases c
 split at h
 .cases h
 split at h
 .cases h
 rename_i c;have c:lu d=true:=by simpa using c
 unfold lu at c;split at c
 rotate_left
 .cases c
 split at c
 rotate_left
 .cases c
 rename_i c2;have:=dL.1 c2 i hi;unfold Zr at this;split at this
 .cases this
 split at this
 .cases this
 split at this
 .rename_i c3;have:=dL.1 c3 k hk;unfold cLk at this;split at this
  .cases this
  rw[a2H,Mc,Mc]at this;have e6:Ee d.aG d.aj ((i:Nat):Int)=d.aG.idxOf (fC d i).var:=by unfold Ee;rw[a0g (by omega),a4v]
  rw[e6]at this;show d.aG.idxOf (fC d i).var+1<=Ee d.aG d.aj ((d.aj.getD i kN).aA.getD k 0);omega
 cases this
theorem ZB{d:Dg}(h:Bj d):∀(F:Nat) (r:Int) (x:Cs),ji d r d.aj.length->NOk d.ay x.n->NOk d.ay (bW d F r x).2.n
 | 0,_,_,_,hx=>hx
 |F+1,r,x,hr,hx=>by
  unfold bW;by_cases c:r<0
  .rw[a0i (by simpa using c)];exact hx
  rw[a0g (by simpa using c)];split
  .exact hx
  have aQ:r.toNat<d.aj.length:=by have:=hr.1;omega
  have Kt:∀j,j<(aP d r).length->ji d ((aP d r).getD j 0) d.aj.length:=fun j hj=>by
   have h9:=h.zy r.toNat aQ j hj;have h8:=h9.1;have h8:(aP d r).getD j 0<(r.toNat:Int):=h8;exact⟨by omega,h9.2⟩
  have inv:=dD (g:=BI d F r) (m:=(aP d r).length) (k:=0) (s:=(List.replicate (aP d r).length 0,x)) (fun _ y=>y.1.length=(aP d r).length∧NOk d.ay y.2.n) ⟨by simp,hx⟩ (fun j y _ hj hy=>⟨by simp[BI,hy.1],ZB h F _ y.2 (Kt j (by omega)) hy.2⟩);show NOk d.ay (dh (aT (BI d F r) (aP d r).length 0 (List.replicate (aP d r).length 0,x)).2.n (au d r).var (aT (BI d F r) (aP d r).length 0 (List.replicate (aP d r).length 0,x)).1);generalize aT (BI d F r) (aP d r).length 0 (List.replicate (aP d r).length 0,x)=y at inv;intro b hb;unfold dh at hb;split at hb
  .exact inv.2 b hb
  split at hb
  .exact inv.2 b hb
  rcases a2X.1 hb with hb|hb
  .exact inv.2 b hb
  rw[a2J.1 hb];refine⟨h.var r.toNat aQ,?_⟩;show(y.1.length:Int)=d.ay.getD (au d r).var.toNat 0;rw[inv.1];exact h.ksz r.toNat aQ
theorem a7f{n:Nat}(hn:1<=n)(v:Int):((List.replicate n v).all fun x=>x==(List.replicate n v).getD 0 0)=true∧(List.replicate n v).getD 0 0=v:=by
 obtain⟨k,rfl⟩:∃k,n=k+1:=⟨n-1,by omega⟩;simp[adI]
theorem XA{d:Dg}{l:List V}(h:Bj d)(P7:jR d.ay.length d.aG=true)(hk:∀i,i<d.aj.length->∀k,k<(fC d i).aA.length->d.aG.idxOf (fC d i).var+1<=Ee d.aG d.aj ((fC d i).aA.getD k 0)):∀(r:List Int) (a:Nat) (p:List Int) (v:Int) (x:Cs) (F:Nat),d.aG.drop a=r->a<=d.aG.length->gU d.ay p=true->Di d x->Xy d x->NOk d.ay x.n->ji d v d.aj.length->a<=Ee d.aG d.aj v->1<=F->v+1<F->(∀q,gU d.ay q=true->Agr d.ay r q p->To d q v (l.getD (fB d.ay q).toNat V0))->oL d.ay l r p (x.e,x.n)=((bW d F v x).1,((bW d F v x).2.e,(bW d F v x).2.n))
 | [],a,p,v,x,F,hr,ha,hp,_,_,_,hv,Kt,hF1,hF,hto=>by
  obtain⟨F,rfl⟩:∃k,F=k+1:=⟨F-1,by omega⟩;have:a=d.aG.length:=by
   have:=congrArg List.length hr;rw[a3H,a4x]at this;omega
  subst this;have hv0:v<0:=by
   rcases Int.lt_or_le v 0 with c|c
   .exact c
   exfalso;unfold Ee at Kt;rw[a0g (by omega)]at Kt;have aQ:v.toNat<d.aj.length:=by have:=hv.1;omega
   have hm:=mQ P7 (h.var v.toNat aQ);have:=a4g.2 hm;have:d.aG.idxOf (d.aj.getD v.toNat kN).var<d.aG.length:=this;omega
  have t:=hto p hp (fun _ _ _=>rfl);have e:l.getD (fB d.ay p).toNat V0=pI d v:=(To.fin hv0:To d p v _).det t |>.symm
  unfold bW;rw[a0i (by simpa using hv0)];show(i64.wrap (-1-(x.e.idxOf (l.getD (fB d.ay p).toNat V0):Nat)),(gV x.e (l.getD (fB d.ay p).toNat V0),x.n))=_;rw[e]
 |c::r,a,p,v,x,F,hr,ha,hp,hx,hi,hno,hv,Kt,hF1,hF,hto=>by
  have aQ:a<d.aG.length:=by
   have:=congrArg List.length hr;rw[a3H,a3S]at this;omega
  have hd:=a6q aQ;rw[hr]at hd;obtain⟨hc,wE⟩:=List.cons.inj hd;have ho:=P7;unfold jR at ho;rw[a1E]at ho;have Fv:c∈d.aG:=by rw[hc];exact a4h aQ
  have qG:gQ c d.ay.length:=⟨(ho.2.1 c Fv).1,(ho.2.1 c Fv).2⟩;have hia:d.aG.idxOf c=a:=by rw[hc];exact ho.2.2.idxOf_getElem a aQ
  have qg:c.toNat<d.ay.length:=by have:=qG.1;have:=qG.2;omega
  have hz:=h.dw.sz _ (dG (s:=d.ay) (k:=c.toNat) qg);have Eo:=ku hp;have hcr:c∉r:=by
   have:(d.aG.drop a).Nodup:=ho.2.2.sublist (List.drop_sublist _ _);rw[hr]at this;exact(a3Z.1 this).1
  have EW:∀j:Nat,j<(d.ay.getD c.toNat 0).toNat->gU d.ay (p.set c.toNat j)=true:=fun j hj=>X8 hp qG ⟨by omega,by omega⟩;simp only[oL];by_cases uV:0<=v∧(au d v).var=c
  .obtain⟨hv0,hvc⟩:=uV;have a3l:v.toNat<d.aj.length:=by have:=hv.1;omega
   have JF:((aP d v).length:Int)=d.ay.getD c.toNat 0:=by rw[<-hvc];exact h.ksz v.toNat a3l
   have hkn:(d.ay.getD c.toNat 0).toNat=(aP d v).length:=(by omega);have BD:∀j,j<(aP d v).length->(aP d v).getD j 0<v:=fun j hj=>by
    have h9:=(h.zy v.toNat a3l j hj).1;have h9:(aP d v).getD j 0<(v.toNat:Int):=h9;omega
   have hrf:∀j,j<(aP d v).length->ji d ((aP d v).getD j 0) d.aj.length:=fun j hj=>⟨by have:=BD j hj;have:=hv.1;omega,(h.zy v.toNat a3l j hj).2⟩;have ak0:∀j,j<(aP d v).length->a+1<=Ee d.aG d.aj ((aP d v).getD j 0):=fun j hj=>by
    have:=hk v.toNat a3l j hj;have:d.aG.idxOf (au d v).var+1<=Ee d.aG d.aj ((aP d v).getD j 0):=this;rw[hvc,hia]at this;exact this
   have ak1:∀j:Nat,j<(aP d v).length->∀q,gU d.ay q=true->Agr d.ay r q (p.set c.toNat j)->To d q ((aP d v).getD j 0) (l.getD (fB d.ay q).toNat V0):=fun j hj q hq hag=>by
    have Ym:q.getD c.toNat 0=j:=by
     have:=hag c.toNat qg (by rw[agB qG.1];exact hcr);rw[this,List.getD,a1V (by omega)];rfl
    have t0:=hto q hq (Agr.back qG hag);revert t0;generalize l.getD (fB d.ay q).toNat V0=w;intro t0;cases t0 with
    |fin h9=>omega
    |step _ t=>
     rw[hvc,Ym,a4v]at t;exact t
   rw[hkn];by_cases Oi:v∈x.k.map (·.1)
   .-- known
    have hKn:Kn d x v:=by unfold Kn;rw[a0g (by omega)];exact Oi
    obtain⟨F',rfl⟩:∃k,F=k+1:=⟨F-1,by omega⟩;rw[Md hKn];obtain⟨i1,i2,i3⟩:=hi v Oi;have inv:=dD (g:=KU (oL d.ay l r) c p) (m:=(aP d v).length) (k:=0) (s:=([],(x.e,x.n))) (fun k y=>y=(((aP d v).map (uT d x)).take k,(x.e,x.n))) (by simp) (fun j y _ hj hy=>by
     have hj:j<(aP d v).length:=(by omega);subst hy;have ih:=XA h P7 hk r (a+1) (p.set c.toNat j) ((aP d v).getD j 0) x (F'+1) wE.symm aQ (EW j (by omega)) hx hi hno (hrf j hj) (ak0 j hj) (by omega) (by have:=BD j hj;omega) (ak1 j hj);rw[Md (i1 j hj)]at ih;unfold KU;rw[ih];refine acM ?_ rfl;show(((aP d v).map (uT d x)).take j)++[uT d x ((aP d v).getD j 0)]=_;have hjm:j<((aP d v).map (uT d x)).length:=(by simpa using hj);rw[a5j hjm];simp[List.getD,a0b hj])
    rw[a3O]at inv;rw[inv,a8D (by simp)];rw[hvc]at i2 i3;obtain⟨n1,n2⟩:=Xr h.dw.sz hno qG (ks:=(aP d v).map (uT d x)) (by simpa using JF);show(UC x.n c _,(x.e,uS x.n c _))=_;rw[<-n1,<-n2,i2,i3];unfold uT;rw[a0g (by omega)]
   obtain⟨F',rfl⟩:∃k,F=k+1:=⟨F-1,by omega⟩;have key:∀j,j<=(aP d v).length->(aT (KU (oL d.ay l r) c p) j 0 ([],(x.e,x.n)))=((aT (BI d F' v) j 0 (List.replicate (aP d v).length 0,x)).1.take j,((aT (BI d F' v) j 0 (List.replicate (aP d v).length 0,x)).2.e,(aT (BI d F' v) j 0 (List.replicate (aP d v).length 0,x)).2.n))∧(aT (BI d F' v) j 0 (List.replicate (aP d v).length 0,x)).1.length=(aP d v).length∧(Di d (aT (BI d F' v) j 0 (List.replicate (aP d v).length 0,x)).2∧v∉(aT (BI d F' v) j 0 (List.replicate (aP d v).length 0,x)).2.k.map (·.1))∧Xy d (aT (BI d F' v) j 0 (List.replicate (aP d v).length 0,x)).2∧NOk d.ay (aT (BI d F' v) j 0 (List.replicate (aP d v).length 0,x)).2.n:=by
    intro j
    induction j with
    |zero=>intro _;exact⟨rfl,by simp[aT],⟨hx,Oi⟩,hi,hno⟩
    |succ j ih=>
     intro hj;have hj:j<(aP d v).length:=hj;obtain⟨q1,q2,⟨q3,q3'⟩,q4,q5⟩:=ih (by omega);rw[tK,tK,a3O];generalize aT (BI d F' v) j 0 (List.replicate (aP d v).length 0,x)=y at q1 q2 q3 q3' q4 q5;rw[q1];have Vm:=BD j hj;have ih2:=XA h P7 hk r (a+1) (p.set c.toNat j) ((aP d v).getD j 0) y.2 F' wE.symm aQ (EW j (by omega)) q3 q4 q5 (hrf j hj) (ak0 j hj) (by omega) (by omega) (ak1 j hj);refine⟨?_,by simp[BI,q2],⟨OV h F' _ y.2 q3 (hrf j hj),Xk F' _ v y.2 Vm q3' (by omega) (fun i hi k hk=>(h.zy i hi k hk).1) (fun h5=>⟨h5,(hrf j hj).1⟩)⟩,(ZA h F' _ y.2 (by omega) (by omega) (hrf j hj) q3 q4).1,ZB h F' _ y.2 (hrf j hj) q5⟩;unfold KU;rw[ih2];refine acM ?_ rfl;show y.1.take j++[(bW d F' ((aP d v).getD j 0) y.2).1]=(y.1.set j (bW d F' ((aP d v).getD j 0) y.2).1).take (j+1);rw[a5j (by simp;omega),List.take_set_of_le (a0V _),List.getElem_set_self]
   obtain⟨q1,q2,⟨q3,q3'⟩,q4,q5⟩:=key _ (a0V _);rw[q1];have e:bW d (F'+1) v x=(dZ (aT (BI d F' v) (aP d v).length 0 (List.replicate (aP d v).length 0,x)).2.n (au d v).var (aT (BI d F' v) (aP d v).length 0 (List.replicate (aP d v).length 0,x)).1,⟨(aT (BI d F' v) (aP d v).length 0 (List.replicate (aP d v).length 0,x)).2.e,dh (aT (BI d F' v) (aP d v).length 0 (List.replicate (aP d v).length 0,x)).2.n (au d v).var (aT (BI d F' v) (aP d v).length 0 (List.replicate (aP d v).length 0,x)).1,(aT (BI d F' v) (aP d v).length 0 (List.replicate (aP d v).length 0,x)).2.k++[(v,dZ (aT (BI d F' v) (aP d v).length 0 (List.replicate (aP d v).length 0,x)).2.n (au d v).var (aT (BI d F' v) (aP d v).length 0 (List.replicate (aP d v).length 0,x)).1)]⟩):=by
    rw[bW,a0g (by simpa using hv0),a0g (by simpa using Oi)]
   rw[e];generalize aT (BI d F' v) (aP d v).length 0 (List.replicate (aP d v).length 0,x)=y at q2 q5;rw[a8D (by omega),hvc];obtain⟨n1,n2⟩:=Xr h.dw.sz q5 qG (ks:=y.1) (by rw[q2];exact JF);rw[n1,n2]
  -- asked later,or an end
  have ak2:a+1<=Ee d.aG d.aj v:=by
   unfold Ee at Kt ⊢;split
   .omega
   rename_i c1;rw[a0g c1]at Kt;have iC:d.aG.idxOf (d.aj.getD v.toNat kN).var≠a:=fun e=>by
    apply uV;refine⟨by omega,?_⟩;have a3l:v.toNat<d.aj.length:=by have:=hv.1;omega
    have hm:=mQ P7 (h.var v.toNat a3l);have h1:=a8t (a4g.2 hm);have e:d.aG.idxOf (fC d v.toNat).var=a:=e;show(fC d v.toNat).var=c;rw[hc,<-h1];congr 1
   omega
  obtain⟨z1,z2,z3⟩:=ZA h F v x hF1 hF hv hx hi;have Qs:=OV h F v x hx hv;have adY:=ZB h F v x hv hno;have ak3:bW d F v (bW d F v x).2=((bW d F v x).1,(bW d F v x).2):=by
   have e:∀y,Kn d y v->uT d y v=(bW d F v x).1->bW d F v y=((bW d F v x).1,y):=fun y h1 h2=>by
    obtain⟨F',rfl⟩:∃k,F=k+1:=⟨F-1,by omega⟩;rw[Md h1,h2]
   exact e _ z2 z3
  have ak4:∀j:Nat,∀q,gU d.ay q=true->Agr d.ay r q (p.set c.toNat j)->To d q v (l.getD (fB d.ay q).toNat V0):=fun j q hq hag=>hto q hq (Agr.back qG hag);have inv:=dD (g:=KU (oL d.ay l r) c p) (m:=(d.ay.getD c.toNat 0).toNat) (k:=0) (s:=([],(x.e,x.n))) (fun k y=>(k=0∧y=([],(x.e,x.n)))∨(0<k∧y=(List.replicate k (bW d F v x).1,((bW d F v x).2.e,(bW d F v x).2.n)))) (.inl ⟨rfl,rfl⟩) (fun j y _ hj hy=>by
   right;refine⟨by omega,?_⟩;rcases hy with⟨rfl,rfl⟩|⟨h0,rfl⟩
   .have ih:=XA h P7 hk r (a+1) (p.set c.toNat ((0:Nat):Int)) v x F wE.symm aQ (EW 0 (by omega)) hx hi hno hv ak2 hF1 hF (ak4 0);unfold KU;rw[ih];rfl
   have ih:=XA h P7 hk r (a+1) (p.set c.toNat ((j:Nat):Int)) v (bW d F v x).2 F wE.symm aQ (EW j (by omega)) Qs z1 adY hv ak2 hF1 hF (ak4 j);rw[ak3]at ih;unfold KU;rw[ih];refine acM ?_ rfl;show List.replicate j _++[_]=_;rw[List.replicate_succ'])
  rw[a3O]at inv;rcases inv with⟨h0,_⟩|⟨h0,e⟩
  .omega
  rw[e];obtain⟨f1,f2⟩:=a7f (n:=(d.ay.getD c.toNat 0).toNat) (by omega) (bW d F v x).1;show(UC _ c _,(_,uS _ c _))=_;unfold UC uS;rw[a0i f1,a0i f1,f2]
theorem XB{d:Dg}(hl:aW d=0)(ho:d.aG.length<=ah)(he:d.aI.length<=ah):eU d=FC d.ay d.aG (cellsD d)∧OfP d.ay d.aG (cellsD d):=by
 obtain⟨h,hn⟩:=kE ho he (by rw[hl];rfl);have hf:(bU d.ay d.aG != 0)=false:=by
  unfold aW at hl;split at hl
  .rename_i c;rw[hl]at c;cases c
  rename_i c;simpa using c
 obtain⟨dw,P7⟩:=jJ.1 (show bU d.ay d.aG=0 by simpa using hf);have hlen:((cellsD d).length:Int)=aY d.ay:=by unfold cellsD;rw[a4a,a8E,dw.a9J]
 have hr:=h.root;have hr1:=hr.1;have hto:∀q,gU d.ay q=true->To d q d.root ((cellsD d).getD (fB d.ay q).toNat V0):=fun q hq=>by
  have hrn:=pF hq dw.sz;have t:=To.of h hq 6001 d.root (by omega) hr;have e:(cellsD d).getD (fB d.ay q).toNat V0=pG d q:=by
   have aQ:(fB d.ay q).toNat<EI d.ay:=by unfold EI;omega
   unfold cellsD;rw[List.getD,a0b (by simpa using aQ)];simp only[a8Y,List.getElem_range,a4F];rw[show(((fB d.ay q).toNat:Nat):Int)=fB d.ay q by omega,LY hq dw.sz]
  rw[e];exact t
 have key:=XA (l:=cellsD d) h P7 (Xz hl) d.aG 0 (List.replicate d.ay.length 0) d.root Zu 6002 rfl (a4t _) (P5 dw.sz) UA (fun v hv=>by cases hv) (fun b hb=>by cases hb) hr (a4t _) (by omega) (by omega) (fun q hq _=>hto q hq);refine⟨?_,⟨dw,P7,hlen⟩⟩;have key:oL d.ay (cellsD d) d.aG (List.replicate d.ay.length 0) ([],[])=_:=key;unfold eU FC;rw[key]
open Go Tw Pv cO
theorem XC(k:Int):KR (i64.wrap k):=by
 have e:i64.wrap k=if k%(2^64:Int)>=(2^63:Int)then k%(2^64:Int)-2^64 else k%(2^64:Int):=by
  show(if(true&&decide (k%(2^64:Int)>=(2^63:Int)))=true then _ else _)=_;by_cases c:k%(2^64:Int)>=(2^63:Int)
  .rw[a0i (by simpa using c),a0i c];rfl
  rw[a0g (by simpa using c),a0g c];rfl
 rw[e];unfold KR;split<;>constructor<;>omega
open Go Tw Pv cO
def ad1:eX aF:=cu 121 (a1 dA) iA (fun p=>(vM p).2) (fun p=>[Kq p,p.ay.length<=ah,p.aG.length<=2^20,p.aI.length+1<=ah]) acW
theorem ak5:Gd ad1:=ajY.add fun n hO p hp=>aO hO (.o (hp _ (.head _)) (.o (hp _ (.tail _ (.head _))) (.o (hp _ (.tail _ (.tail _ (.head _)))) (.o (hp _ (.tail _ (.tail _ (.tail _ (.head _))))) .rr))))
def zC(d:Dg):Dg×Int:=if((bF d).2 != 0)=true then(oJ,(bF d).2)else(eU (bF d).1.d,0)
def a7g:eX aF:=cu 108 (a1 dA) (dR (a2 dA iA)) (fun p=>zC p) (fun p=>[Kq p,p.ay.length<=ah,p.aG.length<=2^20,p.aI.length<=ah,((bF p).2 != 0)=false->ClP (bF p).1]) ad1
theorem ad2:Gd a7g:=ak5.add fun n hO p hp=>aO hO (.o (hp _ (.tail _ (.head _))) (.o (hp _ (.tail _ (.tail _ (.head _)))) (.o (hp _ (.tail _ (.tail _ (.tail _ (.head _))))) (.sh (fun _=>.rn (.dI [.agg [.nil .slc,.nil .slc,.nil .slc,.nil .slc,.int .i64 0],.int .i64 (bF p).2]) rfl) fun h=>.o (hp _ (.tail _ (.tail _ (.tail _ (.tail _ (.head _))))) h) .rr))))
def ak6:eX aF:=cu 77 (a3 iA iA iA) tA (fun p=>(if decide (p.2.2>=p.1)=true then decide (p.2.2<=p.2.1)else false)) np a7g
theorem aoW:Gd ak6:=ad2.add fun n hO p hp=>aO hO (.ss .rr .rr)
def a1z:eX aF:=cu 123 (a2 (a5W frA) dA) tA (fun p=>(if decide (p.2.ay=p.1.1)=true then decide (p.2.aG=p.1.2)else false)) (fun p=>[p.2.ay.length<=ah,p.2.aG.length<=ah]) ak6
theorem ak7:Gd a1z:=aoW.add fun n hO p hp=>aO hO (.o (hp _ (.head _)) (.ss (.o (hp _ (.tail _ (.head _))) .rr) .rr))
end Go.Proofs.YtmobpoiejckagaaGreat
namespace Pv
open Go Tw
variable {X:kH} {P:Program}
theorem oh.ZC(hX:bK X P){call:bf}{f:FuncId}{first xs cap vs:List (PV X.Γ)}{v v':PV X.Γ}{ext ext':List (PB X.Γ)}(hc:oh X P call f vs v ext)(hv:views [] (first++xs++cap)=some vs)(hs:qQ X 0 ext=some ext')
  (e:shift 0 v=v') (he:(if xu v||ext.any (hasB X)then aZ (kM.jX (first++xs++cap)) []else [])=([]:List (PB X.Γ))):aX X P call (.fn f first cap) xs [] v' ext':=by
 subst e;intro A m h tf rU hr hf hx;cases hf with
 |gone hi _ _=>simp[bn]at hi
 |fn p1 p2 p3 p4=>
  obtain⟨w,h',m1,c1,c2,c3,c4,c5⟩:=GR hX hc hr hv hs ⟨p1,p2⟩ hx ⟨p3,p4⟩;rw[he]at c2;exact⟨w,h',[],m1,c1,c2,c3,c4,c5,fun b hb=>by cases hb⟩
end Pv
namespace Go.Proofs.YtmobpoiejckagaaGreat
open Go Tw Pv cO
def a3m{α:Type}(g:α->Bool)(i:Nat)(x:α)(s:Unit):Unit⊕(Nat×α×Unit):=if(g x)=true then .inr (i,x,s)else .inl ()
def afl{α:Type}(d:α)(g:α->Bool)(l:List α):Int:=if(jT (lX (a3m g) l 0 ()))=true then -1 else(((CW (0,d,()) (lX (a3m g) l 0 ())).1:Int))
theorem a7h{α:Type}(g:α->Bool):∀(l:List α) (i:Nat),jT (lX (a3m g) l i ())=!(l.any g)
 | [],i=>rfl
 |x::l,i=>by
  simp only[lX,a3m,ad6];cases g x
  .simpa using a7h g l (i+1)
  simp[jT]
theorem afm{α:Type}(d:α)(g:α->Bool)(l:List α):decide (afl d g l>=0)=l.any g:=by
 have:=a7h g l 0;unfold afl;rw[this];cases l.any g<;>simp
theorem fK{α:Type}{l:List α}{k:Nat}{d:α}(h:k<l.length):l.getD k d∈l:=by simp[List.getD,a0b h]
abbrev afn(f:Nat)(a c:List (PV aF))(H:List (PB aF))(l:List Dg)(i:Int)(x:List (Nat×PE aF)):aS aF:=⟨[(0,xL 26 l),(1,.val (.fn f a c)),(7,xi l.length),(8,xi i)]++x,[],H⟩
def ak8(f:Nat)(a c:List (PV aF))(H:List (PB aF))(l:List Dg):Unit⊕(Nat×Dg×Unit)->Ex×aS aF
 |.inl _=>(.exit 0,afn f a c H l l.length [(9,xl false)])
 |.inr r=>(.ret,⟨[(4,xi r.1)],[],H⟩)
theorem aoX{n f:Nat}{a c:List (PV aF)}{H:List (PB aF)}{g:Dg->Bool}(l:List Dg)(hf:∀x∈l,aX X0 Qp (bP n) (.fn f a c) [.agg x.ps] H (.bool (g x)) H)(hl:l.length<=ah):aX X0 Qp (bP (n+1)) (.fn 204 [] []) [lDg l,.fn f a c] H (iA.put (afl oJ g l)) H:=by
 have lp:OG n 204 0 H.length (afn f a c H l 0 []) (ak8 f a c H l (lX (a3m g) l 0 ())).1 (ak8 f a c H l (lX (a3m g) l 0 ())).2:=
  WJ (st:=fun i _=>afn f a c H l i []) oJ (fun _ _=>True) (by kernel_rfl) hl OE trivial (fun k s n hk _ ih=>aN fZ (.b (bD hk) (.o (aH hk) (.k (hf (l.getD k oJ) (fK hk)) (.ls (.ou nofun) (.nx (ih _ trivial))))))) (fun s _=>aN fZ (.b (fF l.length) (.ou nofun)))
 exact jd fZ (first:=[]) (cap:=[]) (.szh (fun h=>.w (jP lp () h) .sr) (fun h=>.w (jQ lp (0,oJ,()) h) .sr))
theorem aoY{n f:Nat}{a c:List (PV aF)}{H:List (PB aF)}{g:Dg->Bool}(l:List Dg)(hf:∀x∈l,aX X0 Qp (bP n) (.fn f a c) [.agg x.ps] H (.bool (g x)) H)(hl:l.length<=ah):aX X0 Qp (bP (n+2)) (.fn 173 [] []) [lDg l,.fn f a c] H (tA.put (l.any g)) H:=by
 rw[<-afm oJ g l];have h1:=aoX l hf hl;exact jd fZ (first:=[]) (cap:=[]) (.k h1 .sr)
def Ht(f:List Int×List Int)(d:Dg):Bool:=if decide (d.ay=f.1)=true then decide (d.aG=f.2)else false
abbrev a7i(f:List Int×List Int):PV aF:=.fn 123 [.agg [lI f.1,lI f.2]] []
structure rV(d:Dg):Prop where
 r:Kq d
 s:d.ay.length<=ah
 o:d.aG.length<=2^20
 e:d.aI.length+1<=ah
theorem aoZ{n:Nat}(hO:Ok n a1z)(f:List Int×List Int)(l:List Dg)(hp:∀d∈l,rV d)(hl:l.length<=ah):aX X0 Qp (bP (n+4)) (.fn 122 [] []) [a7i f,lDg l] [] (tA.put (l.all (Ht f))) []:=by
 have hs:∀d∈l,aX X0 Qp (bP n) (a7i f) [.agg d.ps] [] (tA.put (Ht f d)) []:=fun d hd=>oh.ZC hX (first:=[.agg [lI f.1,lI f.2]]) (cap:=[]) (hO 123 [.agg [lI f.1,lI f.2],.agg d.ps] (tA.put (Ht f d)) [] [d.ay.length<=ah,d.aG.length<=ah] (by kernel_rfl) (fun p h=>by
  have h9:=hp d hd;have h8:=h9.o;rcases a2e.1 h with rfl|h
  .exact h9.s
  rw[a2J.1 h];exact h8)) rfl rfl rfl rfl
 have h1:∀d∈l,aX X0 Qp (bP (n+1)) (.fn 174 [] [.ptr 0 0 1]) [.agg d.ps] [.cells [a7i f]] (tA.put (!(Ht f d))) [.cells [a7i f]]:=fun d hd=>
  jd fZ (first:=[]) (.fr [] (hs d hd) .sr)
 have h2:=aoY l h1 hl;rw[<-DU l (Ht f)];exact aX.drop hX (CV hX fZ (first:=[]) (cap:=[]) (H1:=[.cells [a7i f]]) (by kernel_rfl) (.k h2 .sr)) rfl rfl
abbrev wCk(l:List Dg)(i:Int)(x:List (Nat×PE aF)):aS aF:=⟨[(0,xL 26 l),(6,xL 26 l),(7,xi l.length),(8,xi i)]++x,[],[]⟩
abbrev cCk(l:List Dg)(k:Nat):Bool:=(vM (l.getD k oJ)).2 != 0
def zCk(l:List Dg):Unit⊕Nat->Ex×aS aF
 |.inl _=>(.exit 0,wCk l l.length [(9,xl false)])
 |.inr k=>(.ret,⟨[(2,xi (vM (l.getD k oJ)).2)],[(l.getD k oJ).ps],[]⟩)
theorem lCk{n:Nat}(hO:Ok n a1z){l:List Dg}(hp:∀d∈l,rV d)(hl:l.length<=ah):Lp n 76 0 (wCk l 0 []) (zCk l (bG (cCk l) l.length)).1 (zCk l (bG (cCk l) l.length)).2:=by
 refine iZ (st:=fun i _=>wCk l i []) (g:=gS (cCk l)) (out:=zCk l) (fun _ _=>True) (by kernel_rfl) hl trivial (fun k u m hk _ ih=>?_) (fun _ _=>?_)
 .have h9:=hp _ (fK (d:=oJ) hk);unfold gS cCk;exact aN hO (.b (bD hk) (.o (aH hk) (.o h9.r (.o h9.s (.o h9.o (.o h9.e (.ls (.ou nofun) (.nx (ih _ trivial)))))))))
 exact aN hO (.b (fF l.length) (.ou nofun))
def bQ(l:List Dg):Int:=if jT (bG (cCk l) l.length)=true then(if(!(l.all (Ht ((l.getD 0 oJ).ay,(l.getD 0 oJ).aG))))=true then 2 else 0)else(vM (l.getD (CW 0 (bG (cCk l) l.length)) oJ)).2
def ak9:eX aF:=cu 76 (a1 ao8) iA bQ (fun l=>[∀d∈l,rV d,0<l.length∧l.length<=ah]) a1z
theorem ap2:Gd ak9:=ak7.deep 4 fun n hn hO l hp=>by
 have h1:∀d∈l,rV d:=hp _ (.head _);have h2:0<l.length∧l.length<=ah:=hp _ (.tail _ (.head _));have hs:=aoZ (n:=n-4) (hO (n-4) (by omega)) ((l.getD 0 oJ).ay,(l.getD 0 oJ).aG) l h1 h2.2;rw[show n-4+4=n by omega]at hs;have i0:gQ 0 l.length:=⟨by omega,by omega⟩;have hl:=lCk (hO n (by omega)) h1 h2.2;show oh X0 Qp _ _ _ (iA.put (bQ l)) _;unfold bQ;exact aO (hO n (by omega)) (.zh (fun h=>.w (jP hl () h) (.o i0 (.o i0 (.fr [] hs (.ss .rr .rr))))) (fun h=>.w (jQ hl 0 h) .rr))
open Go Tw Pv cO
theorem a7j{n:Int}(h:0<=n∧n<=6):n=0∨n=1∨n=2∨n=3∨n=4∨n=5∨n=6:=by omega
theorem a7k:(0:Int)<=32:=by decide
def ad3:eX aF:=cu 206 (a2 pA pA) (dR (a2 pA pA)) (fun p=>(0,p.2)) (fun p=>[p.1=1,0<=p.2∧p.2<=6]) ak9
theorem akb:Gd ad3:=ap2.add fun n hO p hp=>by
 obtain⟨a,b⟩:=p;have h1:a=1:=hp _ (.head _);have h2:0<=b∧b<=6:=hp _ (.tail _ (.head _));subst h1;rcases a7j h2 with rfl|rfl|rfl|rfl|rfl|rfl|rfl
 all_goals exact aO hO (.o a7k (.o a7k (.o a7k (.o a7k (.o a7k .rr)))))
def ad4:eX aF:=cu 175 (a2 pA pA) (dR (a2 pA pA)) (fun p=>(0,p.2)) (fun p=>[p.1=1,0<=p.2∧p.2<=6]) ad3
theorem akc:Gd ad4:=akb.add fun n hO p hp=>aO hO (.o (hp _ (.head _)) (.o (hp _ (.tail _ (.head _))) .rr))
def Hu:eX aF:=cu 124 (a2 pW iA) pW (fun p=>List.replicate p.2.toNat (-1)) (fun p=>[p.1=[-1],0<=p.2∧p.2<=6]) ad4
theorem XD:Gd Hu:=akc.add fun n hO p hp=>by
 obtain⟨a,b⟩:=p;have h1:a=[-1]:=hp _ (.head _);have h2:0<=b∧b<=6:=hp _ (.tail _ (.head _));subst h1;rcases a7j h2 with rfl|rfl|rfl|rfl|rfl|rfl|rfl
 .exact aO hO (.b (rfl:decide ((0:Int)<0)=false) (.o (rfl:(1:Int)=1) (.o (⟨by decide,by decide⟩:(0:Int)<=0∧(0:Int)<=6) (.b (rfl:decide ((0:Int)>0)=false) (.b (rfl:decide ((0:Int)>9223372036854775807)=false) (.o (rfl:(0:Int)=0) (.o (show(0:Int)<=0 by decide) (.o (show(0:Int)<=(ah:Int) by decide) (.m 8 le8 (.b (rfl:decide ((0:Int)<0)=false) .rr))))))))))
 .exact aO hO (.b (rfl:decide ((1:Int)<0)=false) (.o (rfl:(1:Int)=1) (.o (⟨by decide,by decide⟩:(0:Int)<=1∧(1:Int)<=6) (.b (rfl:decide ((0:Int)>0)=false) (.b (rfl:decide ((1:Int)>9223372036854775807)=false) (.o (rfl:(1:Int)=1) (.o (show(0:Int)<=1 by decide) (.o (show(1:Int)<=(ah:Int) by decide) (.m 8 le8 (.b (rfl:decide ((1:Int)<1)=false) .rr))))))))))
 .exact aO hO (.b (rfl:decide ((2:Int)<0)=false) (.o (rfl:(1:Int)=1) (.o (⟨by decide,by decide⟩:(0:Int)<=2∧(2:Int)<=6) (.b (rfl:decide ((0:Int)>0)=false) (.b (rfl:decide ((2:Int)>9223372036854775807)=false) (.o (rfl:(2:Int)=2) (.o (show(0:Int)<=2 by decide) (.o (show(2:Int)<=(ah:Int) by decide) (.m 8 le8 (.b (rfl:decide ((1:Int)<2)=true) (.o (show(0:Int)<=1 by decide) (.o (show(1:Int)<=2 by decide) (.o (show(2:Int)<=2 by decide) (.o (show(0:Int)<=0 by decide) (.o (show(0:Int)<=1 by decide) (.o (show(1:Int)<=2 by decide) (.b (rfl:decide ((2:Int)<2)=false) .rr)))))))))))))))))
 .exact aO hO (.b (rfl:decide ((3:Int)<0)=false) (.o (rfl:(1:Int)=1) (.o (⟨by decide,by decide⟩:(0:Int)<=3∧(3:Int)<=6) (.b (rfl:decide ((0:Int)>0)=false) (.b (rfl:decide ((3:Int)>9223372036854775807)=false) (.o (rfl:(3:Int)=3) (.o (show(0:Int)<=3 by decide) (.o (show(3:Int)<=(ah:Int) by decide) (.m 8 le8 (.b (rfl:decide ((1:Int)<3)=true) (.o (show(0:Int)<=1 by decide) (.o (show(1:Int)<=3 by decide) (.o (show(3:Int)<=3 by decide) (.o (show(0:Int)<=0 by decide) (.o (show(0:Int)<=1 by decide) (.o (show(1:Int)<=3 by decide) (.b (rfl:decide ((2:Int)<3)=true) (.o (show(0:Int)<=2 by decide) (.o (show(2:Int)<=3 by decide) (.o (show(3:Int)<=3 by decide) (.o (show(0:Int)<=0 by decide) (.o (show(0:Int)<=2 by decide) (.o (show(2:Int)<=3 by decide) (.b (rfl:decide ((3:Int)<3)=false) .rr))))))))))))))))))))))))
 .exact aO hO (.b (rfl:decide ((4:Int)<0)=false) (.o (rfl:(1:Int)=1) (.o (⟨by decide,by decide⟩:(0:Int)<=4∧(4:Int)<=6) (.b (rfl:decide ((0:Int)>0)=false) (.b (rfl:decide ((4:Int)>9223372036854775807)=false) (.o (rfl:(4:Int)=4) (.o (show(0:Int)<=4 by decide) (.o (show(4:Int)<=(ah:Int) by decide) (.m 8 le8 (.b (rfl:decide ((1:Int)<4)=true) (.o (show(0:Int)<=1 by decide) (.o (show(1:Int)<=4 by decide) (.o (show(4:Int)<=4 by decide) (.o (show(0:Int)<=0 by decide) (.o (show(0:Int)<=1 by decide) (.o (show(1:Int)<=4 by decide) (.b (rfl:decide ((2:Int)<4)=true) (.o (show(0:Int)<=2 by decide) (.o (show(2:Int)<=4 by decide) (.o (show(4:Int)<=4 by decide) (.o (show(0:Int)<=0 by decide) (.o (show(0:Int)<=2 by decide) (.o (show(2:Int)<=4 by decide) (.b (rfl:decide ((4:Int)<4)=false) .rr))))))))))))))))))))))))
 .exact aO hO (.b (rfl:decide ((5:Int)<0)=false) (.o (rfl:(1:Int)=1) (.o (⟨by decide,by decide⟩:(0:Int)<=5∧(5:Int)<=6) (.b (rfl:decide ((0:Int)>0)=false) (.b (rfl:decide ((5:Int)>9223372036854775807)=false) (.o (rfl:(5:Int)=5) (.o (show(0:Int)<=5 by decide) (.o (show(5:Int)<=(ah:Int) by decide) (.m 8 le8 (.b (rfl:decide ((1:Int)<5)=true) (.o (show(0:Int)<=1 by decide) (.o (show(1:Int)<=5 by decide) (.o (show(5:Int)<=5 by decide) (.o (show(0:Int)<=0 by decide) (.o (show(0:Int)<=1 by decide) (.o (show(1:Int)<=5 by decide) (.b (rfl:decide ((2:Int)<5)=true) (.o (show(0:Int)<=2 by decide) (.o (show(2:Int)<=5 by decide) (.o (show(5:Int)<=5 by decide) (.o (show(0:Int)<=0 by decide) (.o (show(0:Int)<=2 by decide) (.o (show(2:Int)<=5 by decide) (.b (rfl:decide ((4:Int)<5)=true) (.o (show(0:Int)<=4 by decide) (.o (show(4:Int)<=5 by decide) (.o (show(5:Int)<=5 by decide) (.o (show(0:Int)<=0 by decide) (.o (show(0:Int)<=4 by decide) (.o (show(4:Int)<=5 by decide) (.b (rfl:decide ((5:Int)<5)=false) .rr)))))))))))))))))))))))))))))))
 .exact aO hO (.b (rfl:decide ((6:Int)<0)=false) (.o (rfl:(1:Int)=1) (.o (⟨by decide,by decide⟩:(0:Int)<=6∧(6:Int)<=6) (.b (rfl:decide ((0:Int)>0)=false) (.b (rfl:decide ((6:Int)>9223372036854775807)=false) (.o (rfl:(6:Int)=6) (.o (show(0:Int)<=6 by decide) (.o (show(6:Int)<=(ah:Int) by decide) (.m 8 le8 (.b (rfl:decide ((1:Int)<6)=true) (.o (show(0:Int)<=1 by decide) (.o (show(1:Int)<=6 by decide) (.o (show(6:Int)<=6 by decide) (.o (show(0:Int)<=0 by decide) (.o (show(0:Int)<=1 by decide) (.o (show(1:Int)<=6 by decide) (.b (rfl:decide ((2:Int)<6)=true) (.o (show(0:Int)<=2 by decide) (.o (show(2:Int)<=6 by decide) (.o (show(6:Int)<=6 by decide) (.o (show(0:Int)<=0 by decide) (.o (show(0:Int)<=2 by decide) (.o (show(2:Int)<=6 by decide) (.b (rfl:decide ((4:Int)<6)=true) (.o (show(0:Int)<=4 by decide) (.o (show(4:Int)<=6 by decide) (.o (show(6:Int)<=6 by decide) (.o (show(0:Int)<=0 by decide) (.o (show(0:Int)<=4 by decide) (.o (show(4:Int)<=6 by decide) (.b (rfl:decide ((6:Int)<6)=false) .rr)))))))))))))))))))))))))))))))
open Go Tw Pv cO
structure S3 where
 a:Int
 b:Int
 c:Int
 deriving DecidableEq
abbrev S3.ps(s:S3):List (PV aF):=[.int .i64 s.a,.int .i64 s.b,.int .i64 s.c]
def S3.get(s:S3):Nat->Int
 | 0=>s.a
 | 1=>s.b
 |_=>s.c
def S3.set(s:S3)(k:Nat)(v:Int):S3:=match k with
 | 0=>⟨v,s.b,s.c⟩
 | 1=>⟨s.a,v,s.c⟩
 |_=>⟨s.a,s.b,v⟩
structure Jb where
 s:List Int
 o:List Int
 D:List Dg
 g:List Int
abbrev Jb.ps(J:Jb)(op:PV aF):List (PV aF):=[lI J.s,lI J.o,lDg J.D,lI J.g,op]
def kL(d:Dg)(x c:Int):Bool:=if decide (x>=0)=true then((au d x).var==c)else false
def KW(d:Dg)(x c g:Int):Int:=if kL d x c=true then(au d x).aA.getD g.toNat 0 else x
theorem aam{d:Dg}{x c:Int}(e:decide (x>=0)=false):kL d x c=false:=by unfold kL;rw[e];rfl
theorem a7l{d:Dg}{x c:Int}(e:decide (x>=0)=true):kL d x c=((au d x).var==c):=by unfold kL;rw[e];rfl
abbrev kT(D:List Dg)(k:Nat):Dg:=D.getD k oJ
def jL(D:List Dg)(s:S3)(c:Int):Bool:=!(jT (bG (fun k=>kL (kT D k) (s.get k) c) D.length))
def bJ(D:List Dg)(s:S3)(c g:Int):S3:=aT (fun k y=>y.set k (KW (kT D k) (y.get k) c g)) D.length 0 s
def fG(D:List Dg):S3:=aT (fun k y=>y.set k (kT D k).root) D.length 0 ⟨0,0,0⟩
theorem three{k n:Nat}(h:k<n)(hn:n<=3):k=0∨k=1∨k=2:=by omega
theorem m3{n:Nat}(h:n<=3):n<=ah:=by unfold ah;omega
section
variable {M f:Nat} {a cc:List (PV aF)} {H:List (PB aF)}
abbrev wAs(J:Jb)(op:PV aF)(H:List (PB aF))(s:S3)(c:Int)(i:Int)(x:List (Nat×PE aF)):aS aF:=⟨[(2,xi c),(4,.loc 1 0),(10,xL 26 J.D),(11,xi J.D.length),(12,xi i)]++x,[J.ps op,s.ps],H⟩
def zAs(J:Jb)(op:PV aF)(H:List (PB aF))(s:S3)(c:Int):Unit⊕Nat->Ex×aS aF
 |.inl _=>(.exit 0,wAs J op H s c J.D.length [(13,xl false)])
 |.inr k=>(.ret,⟨[(6,xl true)],[J.ps op,s.ps,(kT J.D k).ps],H⟩)
theorem lAs(J:Jb)(s:S3)(c:Int)(hD:J.D.length<=3)(hr:∀k,k<J.D.length->decide (s.get k>=0)=true->gQ (s.get k) (kT J.D k).aj.length):OG M 127 0 H.length (wAs J (.fn f a cc) H s c 0 []) (zAs J (.fn f a cc) H s c (bG (fun k=>kL (kT J.D k) (s.get k) c) J.D.length)).1 (zAs J (.fn f a cc) H s c (bG (fun k=>kL (kT J.D k) (s.get k) c) J.D.length)).2:=by
 refine iZ (st:=fun i _=>wAs J (.fn f a cc) H s c i []) (g:=gS (fun k=>kL (kT J.D k) (s.get k) c)) (out:=zAs J (.fn f a cc) H s c) (fun _ _=>True) (by kernel_rfl) (m3 hD) trivial (fun k u m hk _ ih=>?_) (fun _ _=>?_)
 .have h1:=hr k hk;have hg:gS (fun k=>kL (kT J.D k) (s.get k) c) k u=if kL (kT J.D k) (s.get k) c=true then .inr k else .inl u:=rfl
  cases e:decide (s.get k>=0)
  .rw[aam e,a0g (by simp)]at hg;rw[hg];rcases three hk hD with rfl|rfl|rfl
   all_goals exact aN fZ (.b (bD hk) (.o (aH hk) (.b e (.nx (ih _ trivial)))))
  rw[a7l e]at hg;rw[hg];rcases three hk hD with rfl|rfl|rfl
  all_goals exact aN fZ (.b (bD hk) (.o (aH hk) (.b e (.o (h1 e) (.ls (.ou nofun) (.nx (ih _ trivial)))))))
 exact aN fZ (.b (fF J.D.length) (.ou nofun))
theorem a7m(J:Jb)(s:S3)(c:Int)(hD:J.D.length<=3)(hr:∀k,k<J.D.length->decide (s.get k>=0)=true->gQ (s.get k) (kT J.D k).aj.length):aX X0 Qp (bP (M+1)) (.fn 127 [] []) [.agg (J.ps (.fn f a cc)),.agg s.ps,.int .i64 c] H (.bool (jL J.D s c)) H:=by
 have lp:=lAs (M:=M) (f:=f) (a:=a) (cc:=cc) (H:=H) J s c hD hr;unfold jL;cases h:jT (bG (fun k=>kL (kT J.D k) (s.get k) c) J.D.length)
 .exact fP fZ (first:=[]) (cap:=[]) (.w (jQ lp 0 h) .er)
 exact fP fZ (first:=[]) (cap:=[]) (.w (jP lp () h) .er)
abbrev wAf(J:Jb)(op:PV aF)(H:List (PB aF))(s:S3)(c g:Int)(i:Int)(x:List (Nat×PE aF)):aS aF:=⟨[(2,xi c),(3,xi g),(5,.loc 1 0),(8,.loc 2 0),(12,xL 26 J.D),(13,xi J.D.length),(14,xi i)]++x,[J.ps op,s.ps,[.int .i64 0,.int .i64 0,.int .i64 0]],H⟩
structure a1A(d:Dg)(x c g:Int):Prop where
 n:decide (x>=0)=true->gQ x d.aj.length
 k:kL d x c=true->gQ g (au d x).aA.length
theorem Je(J:Jb)(s:S3)(c g:Int)(hD:J.D.length<=3)(hr:∀k,k<J.D.length->a1A (kT J.D k) (s.get k) c g):aX X0 Qp (bP (M+1)) (.fn 129 [] []) [.agg (J.ps (.fn f a cc)),.agg s.ps,.int .i64 c,.int .i64 g] H (.agg (bJ J.D s c g).ps) H:=by
 have lp:OG M 129 0 H.length (wAf J (.fn f a cc) H s c g 0 []) (.exit 0) (wAf J (.fn f a cc) H (bJ J.D s c g) c g J.D.length [(15,xl false)]):=by
  refine yg (σ:=S3) (N:=J.D.length) (g:=fun k y=>y.set k (KW (kT J.D k) (y.get k) c g)) (s0:=s) (st:=fun i y=>wAf J (.fn f a cc) H y c g i []) (fin:=fun y=>wAf J (.fn f a cc) H y c g J.D.length [(15,xl false)]) (fun j y=>∀k,j<=k->k<J.D.length->y.get k=s.get k) (by kernel_rfl) (m3 hD) (fun _ _ _=>rfl) (fun j y hj hy=>?_) (fun j y hj hy m e p g9=>?_) (fun y _=>?_)
  .intro k hk mO;rw[<-hy k (by omega) mO];rcases three mO hD with rfl|rfl|rfl<;>rcases three hj hD with rfl|rfl|rfl<;>first|rfl|omega
  .have h1:=hr j hj;rw[<-hy j (a0V _) hj]at h1;obtain⟨h1,h2⟩:=h1;unfold KW at g9;rcases three hj hD with rfl|rfl|rfl
   all_goals
    cases e1:decide (y.get _>=0)
    .unfold kL at g9;rw[e1]at g9;exact aN fZ (.b (bD hj) (.o (aH hj) (.b e1 (.go g9))))
    .have h3:=h1 e1;cases e2:(au (kT J.D _) (y.get _)).var==c
     .unfold kL at g9;rw[e1,a0i rfl,e2]at g9;exact aN fZ (.b (bD hj) (.o (aH hj) (.b e1 (.o h3 (.b e2 (.go g9))))))
     .unfold kL at g9 h2;rw[e1,a0i rfl,e2]at g9 h2;exact aN fZ (.b (bD hj) (.o (aH hj) (.b e1 (.o h3 (.b e2 (.o h3 (.o (h2 rfl) (.go g9))))))))
  exact aN fZ (.b (fF J.D.length) .ex)
 exact fP fZ (first:=[]) (cap:=[]) (.w lp .er)
abbrev wSt(J:Jb)(op:PV aF)(H:List (PB aF))(s:S3)(i:Int)(x:List (Nat×PE aF)):aS aF:=⟨[(2,.loc 1 0),(6,xL 26 J.D),(7,xi J.D.length),(8,xi i)]++x,[J.ps op,s.ps],H⟩
theorem ZE(J:Jb)(hD:J.D.length<=3):aX X0 Qp (bP (M+1)) (.fn 130 [] []) [.agg (J.ps (.fn f a cc))] H (.agg (fG J.D).ps) H:=by
 have lp:OG M 130 0 H.length (wSt J (.fn f a cc) H ⟨0,0,0⟩ 0 []) (.exit 0) (wSt J (.fn f a cc) H (fG J.D) J.D.length [(9,xl false)]):=by
  refine yg (σ:=S3) (N:=J.D.length) (g:=fun k y=>y.set k (kT J.D k).root) (s0:=⟨0,0,0⟩) (st:=fun i y=>wSt J (.fn f a cc) H y i []) (fin:=fun y=>wSt J (.fn f a cc) H y J.D.length [(9,xl false)]) (fun _ _=>True) (by kernel_rfl) (m3 hD) trivial (fun _ _ _ _=>trivial) (fun j y hj _ m e p g9=>?_) (fun y _=>?_)
  .rcases three hj hD with rfl|rfl|rfl
   all_goals exact aN fZ (.b (bD hj) (.o (aH hj) (.go g9)))
  exact aN fZ (.b (fF J.D.length) .ex)
 exact fP fZ (first:=[]) (cap:=[]) (.w lp .er)
end
end Go.Proofs.YtmobpoiejckagaaGreat
namespace Pv
open Go Tw
section
variable {X:kH} {P:Program}
theorem aX.fzR(hX:bK X P){call:bf}{fv:PV X.Γ}{xs:List (PV X.Γ)}{H H1:List (PB X.Γ)}{v v':PV X.Γ}(hs:aX X P call fv xs H v H1)(is:List Nat)(hv:views H1 [v]=some [v'])(ho:∀i,i∈kM.jX [v]->i∈is):aX X P call fv xs H v' (aZ is H1):=by
 intro A m h tf rU hr hf hx;obtain⟨w,h',ws,m1,k1,k2,k3,k4,k5,k6⟩:=hs A m h tf rU hr hf hx;have hF:=iw (h:=h') is m1;have w1:=(l7 (m':=bT is m1) hX k2 (.cons k3 .nil) hv ho).mono fun b hb=>FA.gone k2 hb;obtain⟨x,r,e,h1,_⟩:=w1.inv;cases e;exact⟨w,h',ws,bT is m1,k1,k2.aZ is,h1,k4.trans hF.1,k5.trans hF.2,k6⟩
end
end Pv
namespace Go.Proofs.YtmobpoiejckagaaGreat
open Go Tw Pv cO
def aU(D:List Dg)(s:S3):List V:=(List.range D.length).map fun k=>pI (kT D k) (s.get k)
def gCe(D:List Dg)(s:S3)(k:Nat)(l:List V):List V:=l++[pI (kT D k) (s.get k)]
theorem a7n(D:List Dg)(s:S3):aT (gCe D s) D.length 0 []=aU D s:=by
 have:=dD (g:=gCe D s) (m:=D.length) (k:=0) (s:=[]) (fun k l=>l=(List.range k).map fun k=>pI (kT D k) (s.get k)) rfl (fun j l _ _ e=>by rw[gCe,e,adi,a3T];rfl);rw[a3O]at this;exact this
abbrev wCe(J:Jb)(op:PV aF)(H:List (PB aF))(s:S3)(l:List V)(i:Int)(x:List (Nat×PE aF)):aS aF:=⟨[(3,.loc 1 0),(4,.val (.own H.length)),(8,xL 26 J.D),(9,xi J.D.length),(10,xi i)]++x,[J.ps op,s.ps],H++[.list false false 39 l]⟩
theorem a1B{M f:Nat}(J:Jb)(s:S3)(hD:J.D.length<=3)(hr:∀k,k<J.D.length->gQ (jB (s.get k)) (kT J.D k).aI.length):aX X0 Qp (bP (M+1)) (.fn 128 [] []) [.agg (J.ps (.fn f [] [])),.agg s.ps] [] (lV (aU J.D s)) []:=by
 have lp:OG M 128 0 0 (wCe J (.fn f [] []) [] s [] 0 []) (.exit 0) (wCe J (.fn f [] []) [] s (aU J.D s) J.D.length [(11,xl false)]):=by
  rw[<-a7n J.D s];refine yg (σ:=List V) (N:=J.D.length) (g:=gCe J.D s) (s0:=[]) (st:=fun i l=>wCe J (.fn f [] []) [] s l i []) (fin:=fun l=>wCe J (.fn f [] []) [] s l J.D.length [(11,xl false)]) (fun k l=>l.length=k) (by kernel_rfl) (m3 hD) rfl (fun j y hj hy=>by simp[gCe,hy]) (fun j y hj hy m e p g9=>?_) (fun y _=>?_)
  .have h1:=hr j hj;have h2:y.length+[pI (kT J.D j) (s.get j)].length<=ah:=by rw[hy,a3P];exact m3 (by omega)
   rcases three hj hD with rfl|rfl|rfl
   all_goals exact aN fZ (.b (bD hj) (.o (aH hj) (.o h1 (.o h2 (.goG [.gc [2]] g9)))))
  exact aN fZ (.b (fF J.D.length) .ex)
 have h0:aX X0 Qp (bP (M+1)) (.fn 128 [] []) [.agg (J.ps (.fn f [] [])),.agg s.ps] [] (.own 0) ([]++[.list false false 39 (aU J.D s)]):=fP fZ (first:=[]) (cap:=[]) (.wG [.IG 4 39] lp .er);exact aX.cut hX (aX.fzR hX h0 [0] (v':=lV (aU J.D s)) rfl (by decide)) rfl rfl rfl rfl
theorem aan{M f:Nat}{u:Int}(J:Jb)(s:S3)(hD:J.D.length<=3)(hr:∀k,k<J.D.length->gQ (jB (s.get k)) (kT J.D k).aI.length):aX X0 Qp (bP (M+1)) (.fn 128 [] []) [.agg (J.ps (.fn f [] [.ptr 0 0 1])),.agg s.ps] [.aC [.int .u8 u]] (lV (aU J.D s)) [.aC [.int .u8 u]]:=by
 have lp:OG M 128 0 1 (wCe J (.fn f [] [.ptr 0 0 1]) [.aC [.int .u8 u]] s [] 0 []) (.exit 0) (wCe J (.fn f [] [.ptr 0 0 1]) [.aC [.int .u8 u]] s (aU J.D s) J.D.length [(11,xl false)]):=by
  rw[<-a7n J.D s];refine yg (σ:=List V) (N:=J.D.length) (g:=gCe J.D s) (s0:=[]) (st:=fun i l=>wCe J (.fn f [] [.ptr 0 0 1]) [.aC [.int .u8 u]] s l i []) (fin:=fun l=>wCe J (.fn f [] [.ptr 0 0 1]) [.aC [.int .u8 u]] s l J.D.length [(11,xl false)]) (fun k l=>l.length=k) (by kernel_rfl) (m3 hD) rfl (fun j y hj hy=>by simp[gCe,hy]) (fun j y hj hy m e p g9=>?_) (fun y _=>?_)
  .have h1:=hr j hj;have h2:y.length+[pI (kT J.D j) (s.get j)].length<=ah:=by rw[hy,a3P];exact m3 (by omega)
   rcases three hj hD with rfl|rfl|rfl
   all_goals exact aN fZ (.b (bD hj) (.o (aH hj) (.o h1 (.o h2 (.goG [.gc [3]] g9)))))
  exact aN fZ (.b (fF J.D.length) .ex)
 have h0:aX X0 Qp (bP (M+1)) (.fn 128 [] []) [.agg (J.ps (.fn f [] [.ptr 0 0 1])),.agg s.ps] [.aC [.int .u8 u]] (.own 1) ([.aC [.int .u8 u]]++[.list false false 39 (aU J.D s)]):=fP fZ (first:=[]) (cap:=[]) (.wG [.IG 4 39] lp .er);exact aX.cut hX (aX.fzR hX h0 [1] (v':=lV (aU J.D s)) rfl (by decide)) rfl rfl rfl rfl
open Go Tw Pv cO
def S3.l(s:S3):List Int:=[s.a,s.b,s.c]
theorem uSt:Tryz.prog.underlying 148=some (.array 3 3):=by kernel_rfl
theorem akd(a b:S3):aB Qp (Op.equal 148 (.agg (Dh .i64 a.l)) (.agg (Dh .i64 b.l)))=some (decide (a=b)):=by
 have:=Bo (P:=Qp) 9998 (k:=.i64) (l:=a.l) (l':=b.l) uSt (by kernel_rfl) a2V (by kernel_rfl) rfl rfl;refine Eq.trans this ?_;obtain⟨a1,a2,a3⟩:=a;obtain⟨b1,b2,b3⟩:=b;simp[S3.l]
def kS:oK X0 Qp 148 S3 where
 pv x:=.agg x.ps
 tv x:=.agg [.int .i64 x.a,.int .i64 x.b,.int .i64 x.c]
 v x:=.agg (Dh .i64 x.l)
 hp _:=rfl
 ht _:=rfl
 hc em x:=by kernel_rfl
 hf x l:=af7 uSt akd x l
 hk:=af8 uSt akd
structure Mk where
 e:List V
 n:List Br
 k:List (S3×Int)
def UE(D:List Dg)(f:S3->Mk->Int×Mk)(s:S3)(c:Int)(j:Nat)(y:List Int×Mk):List Int×Mk:=(y.1++[(f (bJ D s c j) y.2).1],(f (bJ D s c j) y.2).2)
def knS(k:List (S3×Int))(s:S3):Int:=((k.find? fun e=>decide (e.1=s)).map (·.2)).getD 0
def jC(J:Jb)(op:List V->V):List Int->S3->Mk->Int×Mk
 | [],s,x=>(i64.wrap (0-((x.e++[op (aU J.D s)]).length:Int)),{ x with e:=x.e++[op (aU J.D s)] })
 |c::r,s,x=>if jL J.D s c=true then(if decide (J.g.getD c.toNat 0>=0)=true then jC J op r (bJ J.D s c (J.g.getD c.toNat 0)) x
   else if s∈x.k.map (·.1)then(knS x.k s,x)
   else
    let y:=aT (UE J.D (jC J op r) s c) (J.s.getD c.toNat 0).toNat 0 ([],x)
    ((y.2.n.length:Int),⟨y.2.e,y.2.n++[⟨c,y.1⟩],y.2.k++[(s,(y.2.n.length:Int))]⟩))
  else jC J op r s x
abbrev Hw(k:List (S3×Int)):List (PV aF×PV aF):=kS.es (k.map fun e=>(e.1,.int .i64 e.2))
abbrev pM:List (PV aF):=[.ptr 2 0 5,.ptr 1 0 5,.ptr 3 0 1,.ptr 4 0 1]
abbrev HM0(J:Jb)(f:Nat)(x:Mk):List (PB aF):=[.map (Hw x.k),.cells [lI J.s,lI J.o,.own 5,.own 6,.int .i64 0],.aC (J.ps (.fn f [] [])),.aC [.fn 126 [] pM],.aC [.map 0],PS x.e,PU x.n]
abbrev aao(J:Jb)(f:Nat)(x:Mk):List (PB aF):=[.map (Hw x.k),.cells [lI J.s,lI J.o,.own 7,.own 8,.int .i64 0],.aC (J.ps (.fn f [] [])),.aC [.fn 126 [] pM],.aC [.map 0],.gone,.gone,PS x.e,PU x.n]
abbrev HM1(J:Jb)(f:Nat)(u:Int)(x:Mk):List (PB aF):=[.map (Hw x.k),.cells [lI J.s,lI J.o,.own 6,.own 7,.int .i64 0],.aC (J.ps (.fn f [] [.ptr 5 0 1])),.aC [.fn 126 [] pM],.aC [.map 0],.aC [.int .u8 u],PS x.e,PU x.n]
abbrev aap(J:Jb)(f:Nat)(u:Int)(x:Mk):List (PB aF):=[.map (Hw x.k),.cells [lI J.s,lI J.o,.own 8,.own 9,.int .i64 0],.aC (J.ps (.fn f [] [.ptr 5 0 1])),.aC [.fn 126 [] pM],.aC [.map 0],.aC [.int .u8 u],.gone,.gone,PS x.e,PU x.n]
open Go Tw Pv cO
theorem S3.jl{s:S3}{i k:Nat}{v:Int}(hi:i<3)(hk:k<3):(s.set i v).get k=if k=i then v else s.get k:=by
 match i,k,hi,hk with
 | 0,0,_,_=>rfl
 | 0,1,_,_=>rfl
 | 0,2,_,_=>rfl
 | 1,0,_,_=>rfl
 | 1,1,_,_=>rfl
 | 1,2,_,_=>rfl
 | 2,0,_,_=>rfl
 | 2,1,_,_=>rfl
 | 2,2,_,_=>rfl
 |i+3,_,h,_=>omega
 |_,k+3,_,h=>omega
theorem Jf{D:List Dg}(hD:D.length<=3)(t:S3)(c g:Int){k:Nat}(hk:k<D.length):(bJ D t c g).get k=KW (kT D k) (t.get k) c g:=by
 have:=dD (g:=fun k (y:S3)=>y.set k (KW (kT D k) (y.get k) c g)) (m:=D.length) (k:=0) (s:=t) (fun j y=>∀k,k<D.length->y.get k=if k<j then KW (kT D k) (t.get k) c g else t.get k) (fun k _=>by rw[a0g (by omega)]) (fun j y _ hj hy k hk=>by
  rw[S3.jl (by omega) (by omega)];by_cases e:k=j
  .subst e;rw[a0i rfl,a0i (by omega),hy k hk,a0g (by omega)]
  rw[a0g e,hy k hk];by_cases e2:k<j
  .rw[a0i e2,a0i (by omega)]
  rw[a0g e2,a0g (by omega)])
 have h:=this k hk;rw[a0i (by omega)]at h;exact h
theorem Dj{D:List Dg}{t:S3}{c:Int}:jL D t c=true↔∃k,k<D.length∧kL (kT D k) (t.get k) c=true:=by
 unfold jL;constructor
 .intro h;refine abI fun h2=>?_;have:jT (bG (fun k=>kL (kT D k) (t.get k) c) D.length)=true:=dL.2 fun k hk=>by
   cases e:kL (kT D k) (t.get k) c
   .rfl
   exact absurd ⟨k,hk,e⟩ h2
  rw[this]at h;cases h
 rintro⟨k,hk,h⟩;cases e:jT (bG (fun k=>kL (kT D k) (t.get k) c) D.length)
 .rfl
 have:=dL.1 e k hk;rw[h]at this;cases this
theorem DX{d:Dg}{x c:Int}:kL d x c=true↔0<=x∧(au d x).var=c:=by
 unfold kL;split
 .rename_i h;simp at h;simp[h]
 rename_i h;simp at h;simp;omega
structure DJ(J:Jb)(d:Dg):Prop where
 t:Bj d
 n:d.aj.length<=6000
 s:d.ay=J.s
 o:d.aG=J.o
 rk:∀i,i<d.aj.length->∀k,k<(fC d i).aA.length->d.aG.idxOf (fC d i).var+1<=Ee d.aG d.aj ((fC d i).aA.getD k 0)
 two:∀i,i<d.aj.length->2<=(fC d i).aA.length
structure jU(J:Jb):Prop where
 d3:J.D.length<=3
 dw:rW J.s
 ord:jR J.s.length J.o=true
 dg:∀k,k<J.D.length->DJ J (kT J.D k)
 gl:J.g.length=J.s.length
 gv:∀c,gQ c J.s.length->0<=J.g.getD c.toNat 0->J.g.getD c.toNat 0<J.s.getD c.toNat 0
def Dp(J:Jb)(a:Nat)(t:S3):Prop:=∀k,k<J.D.length->ji (kT J.D k) (t.get k) (kT J.D k).aj.length∧a<=Ee J.o (kT J.D k).aj (t.get k)
theorem Dp.le{J:Jb}{a b:Nat}{t:S3}(h:Dp J a t)(hb:b<=a):Dp J b t:=fun k hk=>⟨(h k hk).1,by have:=(h k hk).2;omega⟩
section
variable {J:Jb} (hJ:jU J) {a:Nat} {t:S3} {c:Int} {r:List Int}
include hJ
theorem jU.o2:J.o.Nodup∧J.o.length=J.s.length∧∀c∈J.o,gQ c J.s.length:=by
 have ho:=hJ.ord;unfold jR at ho;rw[a1E]at ho;exact⟨ho.2.2,ho.1,fun c hc=>⟨(ho.2.1 c hc).1,(ho.2.1 c hc).2⟩⟩
theorem jU.at_(hr:J.o.drop a=c::r):a<J.o.length∧J.o.getD a 0=c∧J.o.drop (a+1)=r∧c∈J.o∧J.o.idxOf c=a∧gQ c J.s.length:=by
 have aQ:a<J.o.length:=by
  have:=congrArg List.length hr;rw[a3H,a3S]at this;omega
 have hd:=a6q aQ;rw[hr]at hd;obtain⟨hc,wE⟩:=List.cons.inj hd;have Fv:c∈J.o:=by rw[hc];exact a4h aQ
 obtain⟨h1,h2,h3⟩:=jU.o2 hJ;exact⟨aQ,by rw[hc];simp[List.getD,a0b aQ],wE.symm,Fv,by rw[hc];exact h1.idxOf_getElem a aQ,h3 c Fv⟩
theorem ZF(hr:J.o.drop a=c::r)(h:jL J.D t c=true):¬Dp J (a+1) t:=fun hd=>by
 obtain⟨k,hk,h1⟩:=Dj.1 h;obtain⟨x0,hv⟩:=DX.1 h1;have:=(hd k hk).2;unfold Ee at this;rw[a0g (by omega)]at this;have e:((kT J.D k).aj.getD (t.get k).toNat kN).var=c:=hv;rw[e,(jU.at_ hJ hr).2.2.2.2.1]at this;omega
theorem a1C(hr:J.o.drop a=c::r)(hd:Dp J a t){k:Nat}(hk:k<J.D.length)(hn:kL (kT J.D k) (t.get k) c=false):a+1<=Ee J.o (kT J.D k).aj (t.get k):=by
 have h1:=(hd k hk).2;have h2:=jU.at_ hJ hr;by_cases x0:t.get k<0
 .unfold Ee;rw[a0i x0];omega
 have iC:((kT J.D k).aj.getD (t.get k).toNat kN).var≠c:=fun e=>by
  have:kL (kT J.D k) (t.get k) c=true:=DX.2 ⟨by omega,e⟩;rw[hn]at this;cases this
 unfold Ee at h1 ⊢;rw[a0g x0]at h1 ⊢;rcases a3V a (J.o.idxOf ((kT J.D k).aj.getD (t.get k).toNat kN).var)with h3|h3
 .exact h3
 exfalso;have e:J.o.idxOf ((kT J.D k).aj.getD (t.get k).toNat kN).var=a:=by omega
 have aQ:J.o.idxOf ((kT J.D k).aj.getD (t.get k).toNat kN).var<J.o.length:=by rw[e];exact h2.1
 have g:J.o.getD (J.o.idxOf ((kT J.D k).aj.getD (t.get k).toNat kN).var) 0=((kT J.D k).aj.getD (t.get k).toNat kN).var:=by
  rw[List.getD,a0b aQ,a4F];exact a8t aQ
 rw[e,h2.2.1]at g;exact iC g.symm
theorem UF(hr:J.o.drop a=c::r)(hd:Dp J a t)(h:jL J.D t c=false):Dp J (a+1) t:=fun k hk=>by
 refine⟨(hd k hk).1,a1C hJ hr hd hk ?_⟩;cases e:kL (kT J.D k) (t.get k) c
 .rfl
 .have:=Dj.2 ⟨k,hk,e⟩;rw[h]at this;cases this
theorem Hy(hd:Dp J a t){k:Nat}(hk:k<J.D.length)(h:kL (kT J.D k) (t.get k) c=true):gQ (t.get k) (kT J.D k).aj.length∧(au (kT J.D k) (t.get k)).var=c∧((au (kT J.D k) (t.get k)).aA.length:Int)=J.s.getD c.toNat 0:=by
 obtain⟨x0,hv⟩:=DX.1 h;have hr:gQ (t.get k) (kT J.D k).aj.length:=⟨x0,(hd k hk).1.1⟩;have hdj:=hJ.dg k hk;have:=hdj.t.ksz (t.get k).toNat (by have:=hr.2;omega);refine⟨hr,hv,?_⟩;have e:(au (kT J.D k) (t.get k))=fC (kT J.D k) (t.get k).toNat:=rfl;rw[e,this,<-e,hv,hdj.s]
theorem mJ(hr:J.o.drop a=c::r)(hd:Dp J a t){j:Int}(hj:0<=j∧j<J.s.getD c.toNat 0):Dp J (a+1) (bJ J.D t c j):=fun k hk=>by
 rw[Jf hJ.d3 t c j hk];unfold KW;split
 .rename_i h;obtain⟨h1,h2,h3⟩:=Hy hJ hd hk h;have hdj:=hJ.dg k hk;have aQ:(t.get k).toNat<(kT J.D k).aj.length:=by have:=h1.1;have:=h1.2;omega
  have JF:j.toNat<(fC (kT J.D k) (t.get k).toNat).aA.length:=by
   have h3:((fC (kT J.D k) (t.get k).toNat).aA.length:Int)=J.s.getD c.toNat 0:=h3;omega
  have g1:=hdj.t.zy (t.get k).toNat aQ j.toNat JF;have g2:=hdj.rk (t.get k).toNat aQ j.toNat JF;refine⟨⟨by have:=g1.1;show(fC (kT J.D k) (t.get k).toNat).aA.getD j.toNat 0<_;omega,g1.2⟩,?_⟩;have e:(fC (kT J.D k) (t.get k).toNat).var=c:=h2;rw[hdj.o,e,(jU.at_ hJ hr).2.2.2.2.1]at g2;exact g2
 .rename_i h;exact⟨(hd k hk).1,a1C hJ hr hd hk (by simpa using h)⟩
theorem Jg(hd:Dp J a t){j:Int}(hj:0<=j∧j<J.s.getD c.toNat 0){k:Nat}(hk:k<J.D.length):a1A (kT J.D k) (t.get k) c j:=by
 refine⟨fun h=>⟨by simpa using h,(hd k hk).1.1⟩,fun h=>?_⟩;have:=(Hy hJ hd hk h).2.2;exact⟨hj.1,by rw[this];exact hj.2⟩
theorem UG(hr:J.o.drop a=c::r)(hd:Dp J a t)(h:jL J.D t c=true):2<=(J.s.getD c.toNat 0).toNat:=by
 obtain⟨k,hk,h1⟩:=Dj.1 h;obtain⟨h2,h3,h4⟩:=Hy hJ hd hk h1;have:=(hJ.dg k hk).two (t.get k).toNat (by have:=h2.1;have:=h2.2;omega);have h4:((fC (kT J.D k) (t.get k).toNat).aA.length:Int)=J.s.getD c.toNat 0:=h4;omega
theorem Jh(hd:Dp J J.o.length t){k:Nat}(hk:k<J.D.length):t.get k<0∧gQ (jB (t.get k)) (kT J.D k).aI.length:=by
 have h1:=hd k hk;have:t.get k<0:=by
  refine abI fun h=>?_;have h2:=h1.2;unfold Ee at h2;rw[a0g h]at h2;have hdj:=hJ.dg k hk;have aQ:(t.get k).toNat<(kT J.D k).aj.length:=by have:=h1.1.1;omega
  have hv:=hdj.t.var (t.get k).toNat aQ;rw[hdj.s]at hv;have:=a4g.2 (mQ hJ.ord hv);have e:(fC (kT J.D k) (t.get k).toNat).var=((kT J.D k).aj.getD (t.get k).toNat kN).var:=rfl;rw[e]at this;omega
 exact⟨this,h1.1.2 this⟩
end
open Go Tw Pv cO
def ov(g q:List Int):List Int:=List.zipWith (fun a b=>if 0<=a then a else b) g q
theorem UH{g q:List Int}{k:Nat}(h:g.length=q.length):(ov g q).getD k 0=if k<g.length then(if 0<=g.getD k 0 then g.getD k 0 else q.getD k 0)else 0:=by
 unfold ov;by_cases hk:k<g.length
 .rw[a0i hk];simp[List.getD,List.getElem?_zipWith,a0b hk,a0b (show k<q.length by omega)]
 rw[a0g hk];simp[List.getD,List.getElem?_zipWith,a3R (show g.length<=k by omega)]
def a7q(J:Jb)(op:List V->V)(q:List Int)(t:S3)(v:V):Prop:=∃l:List V,l.length=J.D.length∧(∀k,k<J.D.length->To (kT J.D k) (ov J.g q) (t.get k) (l.getD k V0))∧v=op l
def Sem(J:Jb)(op:List V->V)(v:Int)(t:S3)(x:EN):Prop:=∀Z:Dg,Z.aI.length<2^61->x.1 <+: Z.aI->x.2 <+: Z.aj->∀q,gU J.s q=true->∃u,To Z q v u∧a7q J op q t u
theorem Sem.mono{J:Jb}{op:List V->V}{v:Int}{t:S3}{x y:EN}(h:Sem J op v t x)(hp:P6 x y):Sem J op v t y:=fun Z hZ h1 h2=>h Z hZ (hp.1.trans h1) (hp.2.trans h2)
abbrev Mk.en(x:Mk):EN:=(x.e,x.n)
def Ji(v:V):Prop:=vOk v=true∧0<=v.f
structure XOk(J:Jb)(op:List V->V)(x:Mk):Prop where
 v:PtV J.s J.o x.en
 k:∀e∈x.k,gQ e.2 x.n.length∧jL J.D e.1 (x.n.getD e.2.toNat kN).var=true∧Sem J op e.2 e.1 x.en
 nd:(x.k.map (·.1)).Nodup
 e:∀v∈x.e,Ji v
 w:∀b∈x.n,∀v∈b.aA,KR v
structure a3n(J:Jb)(op:List V->V)(a:Nat)(w:Nat)(t:S3)(x:Mk)(z:Int×Mk):Prop where
 pre:P6 x.en z.2.en
 el:z.2.e.length<=x.e.length+w
 nl:z.2.n.length+1<=x.n.length+w
 ok:XOk J op z.2
 rf:BF J.o z.2.en z.1 z.2.n.length a
 sm:Sem J op z.1 t z.2.en
 ks:∀e∈z.2.k,e∈x.k∨Dp J a e.1
 w:KR z.1
theorem XOk.mono{J:Jb}{op:List V->V}{x:Mk}{e:List V}(h:XOk J op x)(hp:x.e <+: e)(he:∀v∈e,Ji v):XOk J op { x with e:=e }:=by
 have hq:P6 x.en (e,x.n):=⟨hp,a4r⟩;exact⟨⟨h.v.var,h.v.ksz,fun i hi k hk=>(h.v.zy i hi k hk).mono hq (a0V _) (a8S hi) (a0V _)⟩,fun e he=>⟨(h.k e he).1,(h.k e he).2.1,(h.k e he).2.2.mono hq⟩,h.nd,he,h.w⟩
theorem P9{J:Jb}(hJ:jU J){op:List V->V}{q:List Int}{t:S3}{a:Nat}(hd:Dp J a t){c j:Int}{u:V}(hj:(ov J.g q).getD c.toNat 0=j)(h:a7q J op q (bJ J.D t c j) u):a7q J op q t u:=by
 obtain⟨l,h1,h2,h3⟩:=h;refine⟨l,h1,fun k hk=>?_,h3⟩;have h4:=h2 k hk;rw[Jf hJ.d3 t c j hk]at h4;unfold KW at h4;split at h4
 .rename_i h5;obtain⟨h6,h7,_⟩:=Hy hJ hd hk h5;refine .step h6.1 ?_;rw[h7,hj];exact h4
 exact h4
def wV(J:Jb)(op:List V->V):Prop:=∀t,Dp J J.o.length t->Ji (op (aU J.D t))
theorem aaq{J:Jb}(hJ:jU J)(op:List V->V)(kG:wV J op){t:S3}{x:Mk}(hd:Dp J J.o.length t)(hx:XOk J op x)(hb:x.e.length+1<=2^60):a3n J op J.o.length 1 t x (jC J op [] t x):=by
 have e0:i64.wrap (0-((x.e++[op (aU J.D t)]).length:Int))=-1-(x.e.length:Int):=by
  rw[a1X,a3P,eP (by omega) (by omega)];omega
 obtain⟨_,e2⟩:=Xv (k:=x.e.length) (by omega);have hp:x.e <+: x.e++[op (aU J.D t)]:=a8u _ _;show a3n J op J.o.length 1 t x (i64.wrap (0-((x.e++[op (aU J.D t)]).length:Int)),_);rw[e0];refine⟨⟨hp,a4r⟩,by simp,a0V _,hx.mono hp (fun v hv=>by rcases a2X.1 hv with hv|hv;exact hx.e v hv;rw[a2J.1 hv];exact kG t hd),⟨fun _=>?_,?_,?_⟩,fun Z hZ g1 g2 q hq=>?_,fun e he=>.inl he,⟨by show _<=-1-(x.e.length:Int);omega,by show -1-(x.e.length:Int)<_;omega⟩⟩
 .rw[e2];exact⟨by omega,by simp;omega⟩
 .show -1-(x.e.length:Int)<_;omega
 .unfold Ee;rw[a0i (by show -1-(x.e.length:Int)<0;omega)];exact a0V _
 have h1:=To.fin (d:=Z) (q:=q) (r:=-1-(x.e.length:Int)) (by omega);rw[e2,a4v]at h1;have g1:x.e++[op (aU J.D t)] <+: Z.aI:=g1;have e3:Z.aI.getD x.e.length V0=op (aU J.D t):=by
  rw[Hq g1 (by simp)];simp[List.getD]
 rw[e3]at h1;refine⟨_,h1,aU J.D t,by simp[aU],fun k hk=>?_,rfl⟩;have h2:=Jh hJ hd hk;have e4:(aU J.D t).getD k V0=pI (kT J.D k) (t.get k):=by simp[aU,List.getD,hk]
 rw[e4];exact .fin h2.1
theorem Dk{α:Type}{l:List α}{a:α}(h:l.Nodup)(ha:a∉l):(l++[a]).Nodup:=by
 rw[a8w];exact⟨h,by simp,fun x hx y hy e=>by simp at hy;subst hy;subst e;exact ha hx⟩
theorem Jj{α:Type}{l:List α}{x d:α}{j:Nat}:(l++[x]).getD j d=if j<l.length then l.getD j d else if j=l.length then x else d:=by
 split
 .rename_i h;simp[List.getD,a0c h]
 rename_i h;split
 .rename_i h2;subst h2;simp[List.getD]
 rename_i h2;rw[List.getD,a3R (by simp;omega)];rfl
theorem SA{J:Jb}(hJ:jU J)(op:List V->V)(kG:wV J op):∀(r:List Int) (a:Nat) (t:S3) (x:Mk),J.o.drop a=r->a<=J.o.length->Dp J a t->XOk J op x->x.e.length+wO J.s r<=2^60->x.n.length+wO J.s r<=2^60->a3n J op a (wO J.s r) t x (jC J op r t x)
 | [],a,t,x,hr,ha,hd,hx,hb,xP=>by
  have:a=J.o.length:=by
   have:=congrArg List.length hr;rw[a3H,a4x]at this;omega
  subst this;exact aaq hJ op kG hd hx hb
 |c::r,a,t,x,hr,ha,hd,hx,hb,xP=>by
  obtain⟨aQ,hoc,wE,Fv,hci,qG⟩:=jU.at_ hJ hr;have hz:=hJ.dw.sz _ (dG (s:=J.s) (k:=c.toNat) (by have:=qG.1;have:=qG.2;omega));have hri:∀c'∈r,gQ c' J.s.length:=fun c' h=>(jU.o2 hJ).2.2 c' (by rw[<-wE]at h;exact a4P h);have hw:=UD hJ.dw.sz hri;have hw1:wO J.s r<=(J.s.getD c.toNat 0).toNat*wO J.s r:=adp _ (by omega);simp only[wO]at hb xP ⊢;have up:∀{t':S3} {z:Int×Mk},a3n J op (a+1) (wO J.s r) t' x z->(∀q u,gU J.s q=true->a7q J op q t' u->a7q J op q t u)->a3n J op a ((J.s.getD c.toNat 0).toNat*wO J.s r) t x z:=fun{t' z} h hs=>
   ⟨h.pre,by have:=h.el;omega,by have:=h.nl;omega,h.ok,h.rf.mono P6.rfl (a0V _) (a0V _) (by omega),fun Z hZ g1 g2 q hq=>let ⟨u,u1,u2⟩:=h.sm Z hZ g1 g2 q hq;⟨u,u1,hs q u hq u2⟩,fun e he=>(h.ks e he).imp id fun h=>h.le (by omega),h.w⟩
  unfold jC;cases AL:jL J.D t c
  .rw[a0g (by simp)];exact up (SA hJ op kG r (a+1) t x wE aQ (UF hJ hr hd AL) hx (by omega) (by omega)) fun _ _ _ h=>h
  rw[a0i rfl];by_cases hg:J.g.getD c.toNat 0>=0
  .rw[a0i (by simpa using hg)];refine up (SA hJ op kG r (a+1) _ x wE aQ (mJ hJ hr hd ⟨hg,hJ.gv c qG hg⟩) hx (by omega) (by omega)) fun q u hq h=>P9 hJ hd ?_ h;rw[UH (by rw[hJ.gl,ku hq]),a0i (by rw[hJ.gl];have:=qG.1;have:=qG.2;omega),a0i hg]
  rw[a0g (by simpa using hg)];by_cases hk:t∈x.k.map (·.1)
  .rw[a0i hk];obtain⟨e,he,rfl⟩:=a1d.1 hk;have hkn:knS x.k e.1=e.2:=by
    have:x.k.find? (fun y=>decide (y.1=e.1))=some e:=by
     have jm:=hx.nd;clear hb up hk AL hd;generalize x.k=l at he jm
     induction l with
     |nil=>cases he
     |cons y l ih=>
      rw[agx];rcases a2e.1 he with rfl|he
      .simp
      have:¬y.1=e.1:=fun h=>by
       rw[a3U,a3Z]at jm;exact jm.1 (a1d.2 ⟨e,he,h.symm⟩)
      rw[ael this];rw[a3U,a3Z]at jm;exact ih he jm.2
    unfold knS;rw[this];rfl
   rw[hkn];obtain⟨k1,k2,k3⟩:=hx.k e he;have hmul:2*1<=(J.s.getD c.toNat 0).toNat*wO J.s r:=agI (UG hJ hr hd AL) hw;refine⟨P6.rfl,by show x.e.length<=_;omega,by show x.n.length+1<=_;omega,hx,⟨fun h=>by have:=k1.1;show gQ _ _;exact absurd h (by omega),k1.2,?_⟩,k3,fun _ h=>.inl h,⟨by have:=k1.1;show _<=e.2;omega,by have:=k1.2;show e.2<_;omega⟩⟩;obtain⟨k,hk,h1⟩:=Dj.1 k2;obtain⟨x0,hv⟩:=DX.1 h1;have h2:=(hd k hk).2;unfold Ee at h2 ⊢;rw[a0g (by omega)]at h2;have k10:=k1.1;rw[a0g (show ¬e.2<0 by omega)];have hv:((kT J.D k).aj.getD (e.1.get k).toNat kN).var=(x.n.getD e.2.toNat kN).var:=hv;rw[hv]at h2;exact h2
  rw[a0g hk];have hm2:=UG hJ hr hd AL;have Yd:∀j,j<(J.s.getD c.toNat 0).toNat->j*wO J.s r+wO J.s r<=(J.s.getD c.toNat 0).toNat*wO J.s r:=fun j hj=>by
   have:(j+1)*wO J.s r<=(J.s.getD c.toNat 0).toNat*wO J.s r:=a3r _ hj;rw[a2Z]at this;omega
  have inv:=dD (g:=UE J.D (jC J op r) t c) (m:=(J.s.getD c.toNat 0).toNat) (k:=0) (s:=([],x)) (fun k y=>y.1.length=k∧P6 x.en y.2.en∧y.2.e.length<=x.e.length+k*wO J.s r∧y.2.n.length+k<=x.n.length+k*wO J.s r∧XOk J op y.2∧(∀e∈y.2.k,e∈x.k∨Dp J (a+1) e.1)∧(∀v∈y.1,KR v)∧∀j:Nat,j<k->BF J.o y.2.en (y.1.getD j 0) y.2.n.length (a+1)∧Sem J op (y.1.getD j 0) (bJ J.D t c j) y.2.en)
   ⟨rfl,P6.rfl,by simp,by simp,hx,fun _ h=>.inl h,(fun v hv=>by cases hv),fun j hj=>by omega⟩ (fun j y _ hj hy=>by
    obtain⟨y1,y2,y3,y4,y5,y6,y8,y7⟩:=hy;have Yd:=Yd j (by omega);have h:=SA hJ op kG r (a+1) (bJ J.D t c j) y.2 wE aQ (mJ hJ hr hd ⟨by omega,by omega⟩) y5 (by omega) (by omega);refine⟨by simp[UE,y1],y2.trans h.pre,?_,?_,h.ok,fun e he=>?_,fun v hv=>?_,fun j' Eb=>?_⟩
    .have:=h.el;show(jC J op r (bJ J.D t c j) y.2).2.e.length<=_;rw[a2Z];omega
    .have:=h.nl;show(jC J op r (bJ J.D t c j) y.2).2.n.length+_<=_;rw[a2Z];omega
    .rcases h.ks e he with h1|h1
     .exact y6 e h1
     .exact .inr h1
    .have hv:v∈y.1++[(jC J op r (bJ J.D t c j) y.2).1]:=hv;rcases a2X.1 hv with hv|hv
     .exact y8 v hv
     .rw[a2J.1 hv];exact h.w
    .have e1:(UE J.D (jC J op r) t c j y).1.getD j' 0=if j'<j then y.1.getD j' 0 else(jC J op r (bJ J.D t c j) y.2).1:=by
      show(y.1++[_]).getD j' 0=_;rw[Jj,y1];split
      .rfl
      .rw[a0i (by omega)]
     rw[e1];by_cases e:j'<j
     .rw[a0i e];obtain⟨a1,a2⟩:=y7 j' e;exact⟨a1.mono h.pre h.pre.2.length_le (a0V _) (a0V _),a2.mono h.pre⟩
     .rw[a0g e];have e:j'=j:=(by omega);subst e;exact⟨h.rf,h.sm⟩)
  rw[a3O]at inv;simp only[];generalize aT (UE J.D (jC J op r) t c) (J.s.getD c.toNat 0).toNat 0 ([],x)=y at inv;obtain⟨ks,m⟩:=y;obtain⟨y1,y2,y3,y4,y5,y6,y8,y7⟩:=inv;have y1:ks.length=(J.s.getD c.toNat 0).toNat:=y1;have hp:P6 m.en (m.e,m.n++[(⟨c,ks⟩:Br)]):=⟨a4r,a8u _ _⟩;have fQ:(m.n++[(⟨c,ks⟩:Br)]).getD m.n.length kN=⟨c,ks⟩:=by simp[List.getD]
  have a4G:Sem J op (m.n.length:Int) t (m.e,m.n++[(⟨c,ks⟩:Br)]):=fun Z hZ g1 g2 q hq=>by
   have g2:m.n++[(⟨c,ks⟩:Br)] <+: Z.aj:=g2;have Ym:=(jI.1 hq).2 c.toNat (by have:=qG.1;have:=qG.2;omega);have hj:(q.getD c.toNat 0).toNat<(J.s.getD c.toNat 0).toNat:=(by omega);obtain⟨u,u1,u2⟩:=(y7 _ hj).2 Z hZ g1 ((a8u _ _).trans g2) q hq;have en:au Z (m.n.length:Int)=⟨c,ks⟩:=by
    show Z.aj.getD (m.n.length:Int).toNat kN=_;rw[a4v,Hq g2 (by simp),fQ]
   refine⟨u,.step (by omega) (by rw[en];exact u1),P9 hJ hd ?_ u2⟩;rw[UH (by rw[hJ.gl,ku hq]),a0i (by rw[hJ.gl];have:=qG.1;have:=qG.2;omega),a0g (by omega)];omega
  have hv2:PtV J.s J.o (m.e,m.n++[(⟨c,ks⟩:Br)]):=by
   have hg:∀i,i<(m.n++[(⟨c,ks⟩:Br)]).length->(i<m.n.length∧(m.n++[(⟨c,ks⟩:Br)]).getD i kN=m.n.getD i kN)∨(i=m.n.length∧(m.n++[(⟨c,ks⟩:Br)]).getD i kN=⟨c,ks⟩):=fun i hi=>by
    simp only[a1X,a3P]at hi;rcases a3V i m.n.length with h|h
    .exact .inl ⟨h,by rw[Jj,a0i h]⟩
    exact .inr ⟨by omega,by rw[show i=m.n.length by omega,fQ]⟩
   refine⟨fun i hi=>?_,fun i hi=>?_,fun i hi k hk=>?_⟩
   .rcases hg i hi with⟨h1,h2⟩|⟨h1,h2⟩
    .show gQ ((m.n++[_]).getD i kN).var _;rw[h2];exact y5.v.var i h1
    show gQ ((m.n++[_]).getD i kN).var _;rw[h2];exact qG
   .rcases hg i hi with⟨h1,h2⟩|⟨h1,h2⟩
    .show(((m.n++[_]).getD i kN).aA.length:Int)=J.s.getD ((m.n++[_]).getD i kN).var.toNat 0;rw[h2];exact y5.v.ksz i h1
    show(((m.n++[_]).getD i kN).aA.length:Int)=J.s.getD ((m.n++[_]).getD i kN).var.toNat 0;rw[h2];show(ks.length:Int)=J.s.getD c.toNat 0;omega
   rcases hg i hi with⟨h1,h2⟩|⟨h1,h2⟩
   .have hk:k<((m.n++[(⟨c,ks⟩:Br)]).getD i kN).aA.length:=hk;show BF J.o _ (((m.n++[(⟨c,ks⟩:Br)]).getD i kN).aA.getD k 0) i (J.o.idxOf ((m.n++[(⟨c,ks⟩:Br)]).getD i kN).var+1);rw[h2]at hk ⊢;exact(y5.v.zy i h1 k hk).mono hp (a0V _) (a8S h1) (a0V _)
   have hk:k<((m.n++[(⟨c,ks⟩:Br)]).getD i kN).aA.length:=hk;show BF J.o _ (((m.n++[(⟨c,ks⟩:Br)]).getD i kN).aA.getD k 0) i (J.o.idxOf ((m.n++[(⟨c,ks⟩:Br)]).getD i kN).var+1);rw[h2]at hk ⊢;have hk:k<ks.length:=hk;subst h1;show BF J.o _ (ks.getD k 0) m.n.length (J.o.idxOf c+1);rw[hci];exact(y7 k (by omega)).1.mono hp (a0V _) (a0V _) (a0V _)
  have y5:XOk J op m:=y5;have y6:∀e∈m.k,e∈x.k∨Dp J (a+1) e.1:=y6;refine⟨y2.trans hp,y3,?_,⟨hv2,fun e he=>?_,?_,y5.e,fun b hb=>?_⟩,⟨fun h=>?_,?_,?_⟩,a4G,fun e he=>?_,⟨by show _<=(m.n.length:Int);omega,by have y4:m.n.length+_<=x.n.length+_:=y4;show(m.n.length:Int)<_;omega⟩⟩
  .show(m.n++[_]).length+1<=_;rw[a1X,a3P];have y4:m.n.length+(J.s.getD c.toNat 0).toNat<=x.n.length+(J.s.getD c.toNat 0).toNat*wO J.s r:=y4;omega
  .rcases a2X.1 he with he|he
   .obtain⟨k1,k2,k3⟩:=y5.k e he;have aQ:e.2.toNat<m.n.length:=by have:=k1.1;have:=k1.2;omega
    refine⟨⟨k1.1,?_⟩,?_,k3.mono hp⟩
    .have:=k1.2;show e.2<((m.n++[_]).length:Int);rw[a1X];omega
    show jL J.D e.1 ((m.n++[_]).getD e.2.toNat kN).var=true;rw[Jj,a0i aQ];exact k2
   rw[a2J.1 he];refine⟨⟨by omega,by show(m.n.length:Int)<((m.n++[_]).length:Int);rw[a1X,a3P];omega⟩,?_,a4G⟩;show jL J.D t ((m.n++[_]).getD (m.n.length:Int).toNat kN).var=true;rw[a4v,fQ];exact AL
  .rw[a3T];refine Dk y5.nd fun h=>?_;obtain⟨e,he,e2⟩:=a1d.1 h;rcases y6 e he with h1|h1
   .exact hk (a1d.2 ⟨e,h1,e2⟩)
   rw[e2]at h1;exact ZF hJ hr AL h1
  .have hb:b∈m.n++[(⟨c,ks⟩:Br)]:=hb;rcases a2X.1 hb with hb|hb
   .exact y5.w b hb
   rw[a2J.1 hb];exact y8
  .exact absurd h (by show ¬((m.n.length:Int)<0);omega)
  .show(m.n.length:Int)<((m.n++[_]).length:Int);rw[a1X,a3P];omega
  .show a<=Ee J.o (m.n++[_]) (m.n.length:Int);unfold Ee;rw[a0g (by omega),a4v,fQ];show a<=J.o.idxOf c;omega
  rcases a2X.1 he with he|he
  .rcases y6 e he with h1|h1
   .exact .inl h1
   exact .inr (h1.le (by omega))
  rw[a2J.1 he];exact .inr hd
open Go Tw Pv cO
def pJ(J:Jb)(op:List V->V):Dg:=⟨J.s,J.o,(jC J op J.o (fG J.D) ⟨[],[],[]⟩).2.e,(jC J op J.o (fG J.D) ⟨[],[],[]⟩).2.n,(jC J op J.o (fG J.D) ⟨[],[],[]⟩).1⟩
def Jk(J:Jb)(op:List V->V):Dg:=(zC (pJ J op)).1
theorem zD{D:List Dg}(hD:D.length<=3){k:Nat}(hk:k<D.length):(fG D).get k=(kT D k).root:=by
 have:=dD (g:=fun k (y:S3)=>y.set k (kT D k).root) (m:=D.length) (k:=0) (s:=⟨0,0,0⟩) (fun j y=>∀k,k<j->y.get k=(kT D k).root) (fun k hk=>by omega) (fun j y _ hj hy k hk=>by
  rw[S3.jl (by omega) (by omega)];by_cases e:k=j
  .rw[a0i e,e]
  rw[a0g e];exact hy k (by omega))
 exact this k (by omega)
theorem a7r{J:Jb}(hJ:jU J){op:List V->V}(kG:wV J op):a3n J op 0 (wO J.s J.o) (fG J.D) ⟨[],[],[]⟩ (jC J op J.o (fG J.D) ⟨[],[],[]⟩):=by
 have hw:=FD hJ.dw.sz hJ.ord;have hm:=hJ.dw.many;refine SA hJ op kG J.o 0 (fG J.D) ⟨[],[],[]⟩ (aaE) (a4t _) (fun k hk=>?_) ⟨⟨fun i hi=>(by simp at hi),fun i hi=>(by simp at hi),fun i hi=>(by simp at hi)⟩,fun e he=>(by cases he),a5F,fun v hv=>(by cases hv),fun b hb=>(by cases hb)⟩ (by show 0+wO J.s J.o<=_;omega) (by show 0+wO J.s J.o<=_;omega);rw[zD hJ.d3 hk];exact⟨(hJ.dg k hk).t.root,a4t _⟩
theorem Jl{J:Jb}(hJ:jU J){op:List V->V}(kG:wV J op):aW (pJ J op)=0∧(pJ J op).aI.length<=2000∧∀v∈(pJ J op).aI,Ji v:=by
 have h:=a7r hJ kG;have hw:=FD hJ.dw.sz hJ.ord;have hm:=hJ.dw.many;have h1:(pJ J op).aI.length<=0+wO J.s J.o:=h.el;have h2:(pJ J op).aj.length+1<=0+wO J.s J.o:=h.nl;refine⟨Sr (by unfold ah;omega) ?_ (fun v hv=>(h.ok.e v hv).1) (by omega) h.ok.v h.rf,by omega,h.ok.e⟩;have:bU J.s J.o=0:=jJ.2 ⟨hJ.dw,hJ.ord⟩;show(bU J.s J.o != 0)=false;rw[this];rfl
theorem a7s{J:Jb}(hJ:jU J){op:List V->V}(kG:wV J op):Kq (pJ J op):=by
 have h:=a7r hJ kG;exact⟨fun i hi k hk=>h.ok.w _ (Xi hi) _ (dG hk),h.w,fun v hv=>(h.ok.e v hv).2⟩
theorem XE{J:Jb}(hJ:jU J){op:List V->V}(kG:wV J op):bF (pJ J op)=(yI (pJ J op),0)∧Jk J op=FC J.s J.o (cellsD (pJ J op)):=by
 obtain⟨h1,h2,h3⟩:=Jl hJ kG;have hr:=a7s hJ kG;have ho:=(jU.o2 hJ).2.1;have hl:=hJ.dw.len;have e:=J9 hr (by unfold ah;omega);rw[h1]at e;have hf:¬(bU (pJ J op).ay (pJ J op).aG != 0)=true:=by
  have:bU J.s J.o=0:=jJ.2 ⟨hJ.dw,hJ.ord⟩;show ¬(bU J.s J.o != 0)=true;rw[this];simp
 rw[a0g hf]at e;refine⟨e,?_⟩;unfold Jk zC;rw[e];show eU (pJ J op)=_;exact(XB h1 (by show J.o.length<=ah;unfold ah;omega) (by unfold ah;omega)).1
end Go.Proofs.YtmobpoiejckagaaGreat
namespace cO
open Tw
section
variable {κ:Type} [DecidableEq κ]
def rX(m:List (κ×Int))(k:κ)(n:Int):List (κ×Int):=
 if k∈m.map (·.1)then m.modify ((m.map (·.1)).idxOf k) (fun e=>(e.1,e.2+n))else m++[(k,n)]
def dF(φ:κ->Int):List (κ×Int)->Int
 | []=>0
 |e::m=>e.2*φ e.1+dF φ m
theorem XF(φ:κ->Int):∀a b:List (κ×Int),dF φ (a++b)=dF φ a+dF φ b
 | [],b=>by simp[dF]
 |e::a,b=>by simp only[List.cons_append,dF,XF φ a b];omega
theorem XG(φ:κ->Int){k:κ}{n:Int}:∀{m:List (κ×Int)},k∈m.map (·.1)->dF φ (m.modify ((m.map (·.1)).idxOf k) fun e=>(e.1,e.2+n))=dF φ m+n*φ k
 | [],h=>by simp at h
 |e::m,h=>by
  by_cases e1:e.1=k
  .have:((e::m).map (·.1)).idxOf k=0:=(by simp[ado,e1]);rw[this];simp only[List.modify_zero_cons,dF,adC,e1];omega
  have h2:k∈m.map (·.1):=by
   rw[a3U,a2e]at h;exact h.resolve_left fun h=>e1 h.symm
  have:((e::m).map (·.1)).idxOf k=(m.map (·.1)).idxOf k+1:=by
   simp[ado,agD.2 e1]
  rw[this];simp only[List.modify_succ_cons,dF,XG φ h2];omega
theorem zF(φ:κ->Int)(m:List (κ×Int))(k:κ)(n:Int):dF φ (rX m k n)=dF φ m+n*φ k:=by
 unfold rX;split
 .exact XG φ ‹_›
 rw[XF];simp[dF]
theorem XH{f:Int->Int}:∀(m:List (κ×Int)) (j:Nat),(m.modify j fun e=>(e.1,f e.2)).map (·.1)=m.map (·.1)
 | [],j=>by simp
 |e::m,0=>by simp
 |e::m,j+1=>by simp[XH m j]
theorem SB(m:List (κ×Int))(k:κ)(n:Int):(rX m k n).map (·.1)=if k∈m.map (·.1)then m.map (·.1)else m.map (·.1)++[k]:=by
 unfold rX;split
 .exact XH (f:=fun x=>x+n) m _
 simp
theorem FH{m:List (κ×Int)}(h:(m.map (·.1)).Nodup)(k:κ)(n:Int):((rX m k n).map (·.1)).Nodup:=by
 rw[SB];split
 .exact h
 rename_i h2;rw[a8w];exact⟨h,by simp,fun x hx y hy e=>by simp at hy;subst hy;subst e;exact h2 hx⟩
theorem a1D{f:κ×Int->κ×Int}:∀{m:List (κ×Int)} {j:Nat} {e:κ×Int},e∈m.modify j f->e∈m∨∃e'∈m,e=f e'
 | [],j,e,h=>by simp at h
 |x::m,0,e,h=>by
  rw[List.modify_zero_cons,a2e]at h;rcases h with h|h
  .exact .inr ⟨x,by simp,h⟩
  exact .inl (by simp[h])
 |x::m,j+1,e,h=>by
  rw[List.modify_succ_cons,a2e]at h;rcases h with h|h
  .exact .inl (by simp[h])
  rcases a1D h with h|⟨e',h1,h2⟩
  .exact .inl (by simp[h])
  exact .inr ⟨e',by simp[h1],h2⟩
theorem Pg{m:List (κ×Int)}{k:κ}{n:Int}(hn:0<n)(h:∀e∈m,0<e.2):∀e∈rX m k n,0<e.2:=fun e he=>by
 unfold rX at he;split at he
 .rcases a1D he with h1|⟨e',h1,rfl⟩
  .exact h e h1
  .have:=h e' h1;show 0<e'.2+n;omega
 .rcases a2X.1 he with h1|h1
  .exact h e h1
  .rw[a2J.1 h1];exact hn
theorem a7t{m:List (κ×Int)}{k:κ}{n:Int}{e:κ×Int}(he:e∈rX m k n):e.1=k∨∃e'∈m,e'.1=e.1:=by
 have:e.1∈(rX m k n).map (·.1):=a1d.2 ⟨e,he,rfl⟩;rw[SB]at this;split at this
 .obtain⟨e',h1,h2⟩:=a1d.1 this;exact .inr ⟨e',h1,h2⟩
 rcases a2X.1 this with h1|h1
 .obtain⟨e',h1,h2⟩:=a1d.1 h1;exact .inr ⟨e',h1,h2⟩
 exact .inl (by simpa using h1)
def ind(k:κ)(x:κ):Int:=if x=k then 1 else 0
theorem Me{k:κ}:∀{m:List (κ×Int)},k∉m.map (·.1)->dF (ind k) m=0
 | [],_=>rfl
 |e::m,h=>by
  rw[a3U,a2e,ada]at h;simp only[dF,Me h.2,ind,a0g (fun e1:e.1=k=>h.1 e1.symm)];omega
theorem DY:∀{m:List (κ×Int)} {e:κ×Int},(m.map (·.1)).Nodup->e∈m->dF (ind e.1) m=e.2
 |x::m,e,hn,h=>by
  rw[a3U,a3Z]at hn;rcases a2e.1 h with rfl|h
  .simp only[dF,Me hn.1,ind,a2j];omega
  have:¬x.1=e.1:=fun e1=>hn.1 (a1d.2 ⟨e,h,e1.symm⟩);simp only[dF,DY hn.2 h,ind,a0g this];omega
theorem XI{m:List (κ×Int)}(hn:(m.map (·.1)).Nodup)(hp:∀e∈m,0<e.2)(e:κ×Int):e∈m↔0<e.2∧dF (ind e.1) m=e.2:=by
 constructor
 .exact fun h=>⟨hp e h,DY hn h⟩
 rintro⟨h1,h2⟩;by_cases h:e.1∈m.map (·.1)
 .obtain⟨e',h3,h4⟩:=a1d.1 h;have:=DY hn h3;have h4:e'.1=e.1:=h4;rw[h4,h2]at this;have:e'=e:=acM h4 this.symm;rw[<-this];exact h3
 rw[Me h]at h2;omega
theorem Hz{β:Type}{f:κ×Int->β}{l:List (κ×Int)}(h:(l.map f).Nodup):l.Nodup:=by
 rw[List.Nodup,ag2]at h;exact h.imp fun{a b} h (e:a=b)=>h (congrArg f e)
theorem UJ{m m':List (κ×Int)}(h1:(m.map (·.1)).Nodup)(h2:(m'.map (·.1)).Nodup)(p1:∀e∈m,0<e.2)(p2:∀e∈m',0<e.2)(h:∀φ,dF φ m=dF φ m'):m.Perm m':=
 (a7c (Hz h1) (Hz h2)).2 fun e=>by rw[XI h1 p1,XI h2 p2,h]
theorem a3o(φ:κ->Int){m m':List (κ×Int)}(h:m.Perm m'):dF φ m=dF φ m':=by
 induction h with
 |nil=>rfl
 |cons x _ ih=>simp only[dF,ih]
 |swap x y l=>simp only[dF];omega
 |trans _ _ h1 h2=>exact h1.trans h2
def AO(l:List κ):List (κ×Int):=l.foldl (fun m k=>rX m k 1) []
def dV(φ:κ->Int):List κ->Int
 | []=>0
 |k::l=>φ k+dV φ l
theorem XJ(φ:κ->Int):∀(l:List κ) (m:List (κ×Int)),dF φ (l.foldl (fun m k=>rX m k 1) m)=dF φ m+dV φ l
 | [],m=>by simp[dV]
 |k::l,m=>by rw[ad9,XJ φ l,zF,dV];omega
theorem SC(φ:κ->Int)(l:List κ):dF φ (AO l)=dV φ l:=by
 unfold AO;rw[XJ];simp[dF]
theorem FI(l:List κ):((AO l).map (·.1)).Nodup∧∀e∈AO l,0<e.2:=by
 have:∀(l:List κ) (m:List (κ×Int)),(m.map (·.1)).Nodup->(∀e∈m,0<e.2)->((l.foldl (fun m k=>rX m k 1) m).map (·.1)).Nodup∧∀e∈l.foldl (fun m k=>rX m k 1) m,0<e.2:=by
  intro l
  induction l with
  |nil=>exact fun m h1 h2=>⟨h1,h2⟩
  |cons k l ih=>exact fun m h1 h2=>ih _ (FH h1 k 1) (Pg (by omega) h2)
 exact this l [] (by simp) (by simp)
theorem XK(k:κ):∀l:List κ,dV (ind k) l=(l.count k:Int)
 | []=>rfl
 |x::l=>by
  rw[dV,XK k l,List.count_cons,ind];by_cases e:x=k
  .simp[e];omega
  simp[e]
theorem Jm(φ:κ->Int){l l':List κ}(h:l.Perm l'):dV φ l=dV φ l':=by
 induction h with
 |nil=>rfl
 |cons x _ ih=>simp only[dV,ih]
 |swap x y l=>simp only[dV];omega
 |trans _ _ h1 h2=>exact h1.trans h2
theorem HY(φ:κ->Int):∀a b:List κ,dV φ (a++b)=dV φ a+dV φ b
 | [],b=>by simp[dV]
 |e::a,b=>by simp only[List.cons_append,dV,HY φ a b];omega
end
theorem Jo:∀a b:List Int,kY a b=true∨kY b a=true
 | [],_=>.inl rfl
 |_::_,[]=>.inr rfl
 |a::az,b::bs=>by
  simp only[kY];rcases Int.lt_trichotomy a b with h|h|h
  .simp[h]
  .subst h;simpa using Jo az bs
  simp[h]
theorem Dl:∀a b:List Int,kY a b=true->kY b a=true->a=b
 | [],[],_,_=>rfl
 | [],_::_,_,h=>by cases h
 |_::_,[],h,_=>by cases h
 |a::az,b::bs,h1,h2=>by
  simp only[kY]at h1 h2;rcases Int.lt_trichotomy a b with h|h|h
  .rw[a0g (by omega),a0i h]at h2;cases h2
  .subst h;simp at h1 h2;rw[Dl az bs h1 h2]
  rw[a0g (by omega),a0i h]at h1;cases h1
theorem lex_trans:∀a b c:List Int,kY a b=true->kY b c=true->kY a c=true
 | [],_,_,_,_=>rfl
 |_::_,[],_,h,_=>by cases h
 |_::_,_::_,[],_,h=>by cases h
 |a::az,b::bs,c::cs,h1,h2=>by
  simp only[kY]at h1 h2 ⊢;split at h1
  .split at h2
   .rw[a0i (by omega)]
   split at h2
   .cases h2
   rw[a0i (by omega)]
  split at h1
  .cases h1
  split at h2
  .rw[a0i (by omega)]
  split at h2
  .cases h2
  rw[a0g (by omega),a0g (by omega)];exact lex_trans az bs cs h1 h2
section
variable {α:Type} {key:α->List Int}
theorem SE{a b:α}(h:key a=key b->a=b):∀s:List α,Ec key a (Ec key b s)=Ec key b (Ec key a s)
 | []=>by
  by_cases e:a=b
  .rw[e]
  simp only[Ec];rcases Jo (key a) (key b)with h1|h1
  .have:kY (key b) (key a)=false:=by
    cases h2:kY (key b) (key a)
    .rfl
    exact absurd (h (Dl _ _ h1 h2)) e
   simp[h1,this]
  have:kY (key a) (key b)=false:=by
   cases h2:kY (key a) (key b)
   .rfl
   exact absurd (h (Dl _ _ h2 h1)) e
  simp[h1,this]
 |c::s=>by
  by_cases e:a=b
  .rw[e]
  have hx:kY (key a) (key b)=!kY (key b) (key a):=by
   rcases Jo (key a) (key b)with h1|h1
   .cases h2:kY (key b) (key a)
    .rw[h1];rfl
    exact absurd (h (Dl _ _ h1 h2)) e
   cases h2:kY (key a) (key b)
   .rw[h1];rfl
   exact absurd (h (Dl _ _ h2 h1)) e
  cases h1:kY (key a) (key c)<;>cases h2:kY (key b) (key c)
  .simp only[Ec,h1,h2,a2l,a3a,SE h s]
  .have h3:kY (key a) (key b)=false:=by
    cases h3:kY (key a) (key b)
    .rfl
    rw[lex_trans _ _ _ h3 h2]at h1;cases h1
   simp only[Ec,h1,h2,h3,a2l,a3a,a2j]
  .have h3:kY (key b) (key a)=false:=by
    cases h3:kY (key b) (key a)
    .rfl
    rw[lex_trans _ _ _ h3 h1]at h2;cases h2
   simp only[Ec,h1,h2,h3,a2l,a3a,a2j]
  cases h3:kY (key b) (key a)<;>rw[h3]at hx<;>simp[Ec,h1,h2,h3,hx]
theorem EJ{l l':List α}(h:l.Perm l')(hi:∀a∈l,∀b∈l,key a=key b->a=b):yX key l=yX key l':=by
 induction h with
 |nil=>rfl
 |cons x _ ih=>simp only[yX,ih fun a ha b hb=>hi a (by simp[ha]) b (by simp[hb])]
 |swap x y l=>exact SE (hi y (by simp) x (by simp)) _
 |trans h1 h2 i1 i2=>exact(i1 hi).trans (i2 fun a ha b hb=>hi a (h1.mem_iff.2 ha) b (h1.mem_iff.2 hb))
theorem SG{β:Type}{g:α->β}{a7u:β->List Int}(h:∀a,a7u (g a)=key a):∀l:List α,yX a7u (l.map g)=(yX key l).map g:=by
 have hi:∀(a:α) (s:List α),Ec a7u (g a) (s.map g)=(Ec key a s).map g:=by
  intro a s
  induction s with
  |nil=>rfl
  |cons c s ih=>
   simp only[a3U,Ec,h];split
   .rfl
   rw[a3U,ih]
 intro l
 induction l with
 |nil=>rfl
 |cons a l ih=>simp only[a3U,yX,ih,hi]
end
end cO
namespace Go.Proofs.YtmobpoiejckagaaGreat
open Go Tw Pv cO
def AP(J:Jb)(c:Int):List Int:=if decide (J.g.getD c.toNat 0>=0)=true then [J.g.getD c.toNat 0]else(List.range (J.s.getD c.toNat 0).toNat).map fun(j:Nat)=>(j:Int)
def xG(J:Jb)(ψ:S3->Int):List Int->S3->Int
 | [],t=>ψ t
 |c::r,t=>dV (fun j=>xG J ψ r (bJ J.D t c j)) (AP J c)
theorem zG{α β:Type}[DecidableEq α][DecidableEq β](φ:β->Int)(f:α->β):∀l:List α,dV φ (l.map f)=dV (fun a=>φ (f a)) l
 | []=>rfl
 |a::l=>by simp only[a3U,dV,zG φ f l]
theorem qm{α:Type}[DecidableEq α]{φ φ':α->Int}:∀{l:List α},(∀a∈l,φ a=φ' a)->dV φ l=dV φ' l
 | [],_=>rfl
 |a::l,h=>by rw[dV,dV,h a (by simp),qm fun b hb=>h b (by simp[hb])]
theorem SH{α β:Type}[DecidableEq α][DecidableEq β](φ:β->Int)(f:α->List β):∀l:List α,dV φ (l.flatMap f)=dV (fun a=>dV φ (f a)) l
 | []=>rfl
 |a::l=>by rw[List.flatMap_cons,HY,dV,SH φ f l]
theorem AQ{α:Type}[DecidableEq α](x:Int):∀l:List α,dV (fun _=>x) l=l.length*x
 | []=>by simp[dV]
 |a::l=>by rw[dV,AQ x l,a3S,Int.natCast_add,adC];omega
theorem S3.aas(s:S3)(k:Nat):s.set k (s.get k)=s:=by
 match k with
 | 0=>rfl
 | 1=>rfl
 |k+2=>rfl
theorem a7v{D:List Dg}{t:S3}{c:Int}(h:jL D t c=false)(g:Int):bJ D t c g=t:=by
 have hk:∀k,k<D.length->kL (kT D k) (t.get k) c=false:=fun k hk=>by
  cases e:kL (kT D k) (t.get k) c
  .rfl
  have:=Dj.2 ⟨k,hk,e⟩;rw[h]at this;cases this
 exact dD (g:=fun k (y:S3)=>y.set k (KW (kT D k) (y.get k) c g)) (m:=D.length) (k:=0) (s:=t) (fun _ y=>y=t) rfl (fun j y _ hj hy=>by
  subst hy;show y.set j (KW (kT D j) (y.get j) c g)=y;unfold KW;rw[hk j (by omega),a0g (by simp)];exact S3.aas y j)
theorem a3p{J:Jb}{ψ:S3->Int}{c:Int}{r:List Int}{t:S3}(h:decide (J.g.getD c.toNat 0>=0)=true):xG J ψ (c::r) t=xG J ψ r (bJ J.D t c (J.g.getD c.toNat 0)):=by
 rw[xG,AP,a0i h];simp[dV]
theorem afp{J:Jb}{ψ:S3->Int}{c:Int}{r:List Int}{t:S3}(h:¬decide (J.g.getD c.toNat 0>=0)=true)(ha:jL J.D t c=false):xG J ψ (c::r) t=((J.s.getD c.toNat 0).toNat:Int)*xG J ψ r t:=by
 rw[xG,AP,a0g h,zG,qm (φ':=fun _=>xG J ψ r t) (fun a _=>by rw[a7v ha]),AQ,a8E]
theorem aat{J:Jb}{ψ:S3->Int}{c:Int}{r:List Int}{t:S3}(h:¬decide (J.g.getD c.toNat 0>=0)=true):xG J ψ (c::r) t=dV (fun(j:Nat)=>xG J ψ r (bJ J.D t c j)) (List.range (J.s.getD c.toNat 0).toNat):=by
 rw[xG,AP,a0g h,zG]
def zO(J:Jb):List Int->Nat
 | []=>1
 |c::r=>(AP J c).length*zO J r
theorem DZ{J:Jb}:∀(r:List Int) (t:S3),xG J (fun _=>1) r t=(zO J r:Int)
 | [],_=>rfl
 |c::r,t=>by
  rw[xG,qm (φ':=fun _=>(zO J r:Int)) (fun a _=>DZ r _),AQ,zO,adN]
section
variable {J:Jb} (hJ:jU J)
include hJ
theorem XL{c:Int}(hc:gQ c J.s.length){j:Int}:j∈AP J c↔(0<=j∧j<J.s.getD c.toNat 0)∧(0<=J.g.getD c.toNat 0->J.g.getD c.toNat 0=j):=by
 unfold AP;split
 .rename_i h;have h:J.g.getD c.toNat 0>=0:=by simpa using h
  have:=hJ.gv c hc h;rw[a2J];constructor
  .rintro rfl;exact⟨⟨h,this⟩,fun _=>rfl⟩
  exact fun h2=>(h2.2 h).symm
 rename_i h;have h:¬J.g.getD c.toNat 0>=0:=by simpa using h
 rw[a1d];constructor
 .rintro⟨k,h1,rfl⟩;rw[a4b]at h1;exact⟨⟨by omega,by omega⟩,fun h2=>absurd h2 h⟩
 rintro⟨h1,_⟩;exact⟨j.toNat,a4b.2 (by omega),by omega⟩
theorem a7w{c:Int}(hc:gQ c J.s.length):1<=(AP J c).length∧(AP J c).length<=(J.s.getD c.toNat 0).toNat:=by
 have hz:=hJ.dw.sz _ (dG (s:=J.s) (k:=c.toNat) (by have:=hc.1;have:=hc.2;omega));unfold AP;split
 .exact⟨a0V _,by show 1<=_;omega⟩
 rw[a4a,a8E];exact⟨by omega,a0V _⟩
theorem Jp:∀{r:List Int},(∀c∈r,gQ c J.s.length)->1<=zO J r∧zO J r<=wO J.s r
 | [],_=>⟨a0V _,a0V _⟩
 |c::r,h=>by
  obtain⟨h1,h2⟩:=a7w hJ (h c (by simp));obtain⟨h3,h4⟩:=Jp (r:=r) fun c hc=>h c (by simp[hc]);exact⟨agI h1 h3,agI h2 h4⟩
end
def plc(J:Jb):List Int->List Int->List (List Int)
 | [],q=>[q]
 |c::r,q=>(AP J c).flatMap fun j=>plc J r (q.set c.toNat j)
def UK(D:List Dg)(q:List Int):List Int->S3->S3
 | [],t=>t
 |c::r,t=>UK D q r (bJ D t c (q.getD c.toNat 0))
theorem zH{q:List Int}{i k:Nat}{v:Int}:(q.set i v).getD k 0=if k=i∧i<q.length then v else q.getD k 0:=by
 simp only[List.getD,a9j];by_cases h:i=k
 .subst h;by_cases h2:i<q.length
  .simp[h2]
  simp[h2,a3R (show q.length<=i by omega)]
 rw[a0g (fun e:k=i∧i<q.length=>h e.1.symm)];simp[h]
theorem MC{J:Jb}:∀{r q q':List Int},q'∈plc J r q->q'.length=q.length∧∀k,k∉r.map Int.toNat->q'.getD k 0=q.getD k 0
 | [],q,q',h=>by rw[plc,a2J]at h;subst h;exact⟨rfl,fun _ _=>rfl⟩
 |c::r,q,q',h=>by
  rw[plc,adx]at h;obtain⟨j,_,h2⟩:=h;obtain⟨h3,h4⟩:=MC h2;refine⟨by rw[h3,a4e],fun k hk=>?_⟩;rw[a3U,a2e,ada]at hk;rw[h4 k hk.2,zH,a0g (fun h=>hk.1 h.1)]
section
variable {J:Jb} {n:Nat}
structure ZG(n:Nat)(r:List Int):Prop where
 nd:r.Nodup
 mem:∀c∈r,gQ c n
theorem ZG.tail{c:Int}{r:List Int}(h:ZG n (c::r)):ZG n r∧c.toNat∉r.map Int.toNat∧gQ c n:=by
 have h1:=a3Z.1 h.nd;have hc:=h.mem c (by simp);refine⟨⟨h1.2,fun c hc=>h.mem c (by simp[hc])⟩,fun h2=>?_,hc⟩;obtain⟨d,h3,h4⟩:=a1d.1 h2;have hd:=h.mem d (by simp[h3]);have:d=c:=by have:=hc.1;have:=hd.1;omega
 exact h1.1 (this▸h3)
theorem a1F(ψ:S3->Int):∀{r:List Int} (q:List Int) (t:S3),ZG q.length r->xG J ψ r t=dV (fun q'=>ψ (UK J.D q' r t)) (plc J r q)
 | [],q,t,_=>by simp[xG,plc,UK,dV]
 |c::r,q,t,ho=>by
  obtain⟨h1,h2,h3⟩:=ho.tail;rw[xG,plc,SH];refine qm fun j _=>?_;rw[a1F ψ (q.set c.toNat j) _ (by rw[a4e];exact h1)];refine qm fun q' hq=>?_;rw[UK,(MC hq).2 _ h2,zH,a0i ⟨rfl,by have:=h3.1;have:=h3.2;omega⟩]
theorem UL:∀{r q q':List Int},ZG q.length r->(q'∈plc J r q↔q'.length=q.length∧(∀k,k∉r.map Int.toNat->q'.getD k 0=q.getD k 0)∧∀c∈r,q'.getD c.toNat 0∈AP J c)
 | [],q,q',_=>by
  rw[plc,a2J];constructor
  .rintro rfl;exact⟨rfl,fun _ _=>rfl,fun _ h=>by cases h⟩
  rintro⟨h1,h2,_⟩;exact(rJ (d:=0) h1).2 fun i _=>h2 i (by simp)
 |c::r,q,q',ho=>by
  obtain⟨h1,h2,h3⟩:=ho.tail;have hl:c.toNat<q.length:=by have:=h3.1;have:=h3.2;omega
  rw[plc,adx];constructor
  .rintro⟨j,hj,h4⟩;obtain⟨h5,h6,h7⟩:=(UL (by rw[a4e];exact h1)).1 h4;refine⟨by rw[h5,a4e],fun k hk=>?_,fun d hd=>?_⟩
   .rw[a3U,a2e,ada]at hk;rw[h6 k hk.2,zH,a0g (fun h=>hk.1 h.1)]
   rcases a2e.1 hd with rfl|hd
   .rw[h6 _ h2,zH,a0i ⟨rfl,hl⟩];exact hj
   exact h7 d hd
  rintro⟨h4,h5,h6⟩;refine⟨q'.getD c.toNat 0,h6 c (by simp),(UL (by rw[a4e];exact h1)).2 ⟨by rw[a4e];exact h4,fun k hk=>?_,fun d hd=>h6 d (by simp[hd])⟩⟩;rw[zH];split
  .rename_i h;rw[h.1]
  rename_i h;exact h5 k (by rw[a3U,a2e,ada];exact⟨fun e=>h ⟨e,hl⟩,hk⟩)
theorem ZH(c:Int):(AP J c).Nodup:=by
 unfold AP;split
 .simp
 rw[List.Nodup,ag2];exact List.nodup_range.imp fun h e=>h (by omega)
theorem SI:∀{r q:List Int},ZG q.length r->(plc J r q).Nodup
 | [],q,_=>by simp[plc]
 |c::r,q,ho=>by
  obtain⟨h1,h2,h3⟩:=ho.tail;have hl:c.toNat<q.length:=by have:=h3.1;have:=h3.2;omega
  rw[plc,List.Nodup,List.pairwise_flatMap];refine⟨fun j _=>SI (by rw[a4e];exact h1),(ZH (J:=J) c).imp fun{a b} hab x hx y hy e=>?_⟩;subst e;have e1:=(MC hx).2 _ h2;have e2:=(MC hy).2 _ h2;rw[zH,a0i ⟨rfl,hl⟩]at e1 e2;exact hab (e1.symm.trans e2)
end
def Ef(J:Jb):List (List Int):=((List.range (EI J.s)).map fun(k:Nat)=>lY J.s k).filter fun q=>decide (ov J.g q=q)
section
variable {J:Jb} (hJ:jU J)
include hJ
theorem I4{q:List Int}(hq:q.length=J.s.length):ov J.g q=q↔∀k,k<J.s.length->0<=J.g.getD k 0->J.g.getD k 0=q.getD k 0:=by
 have hg:=hJ.gl;have hl:(ov J.g q).length=q.length:=by simp[ov,List.length_zipWith,hg,hq]
 rw[rJ (d:=0) hl];constructor
 .intro h k hk h0;have:=h k (by rw[hl,hq];exact hk);rw[UH (by rw[hg,hq]),a0i (by rw[hg];exact hk),a0i h0]at this;exact this
 intro h k hk;rw[hl,hq]at hk;rw[UH (by rw[hg,hq]),a0i (by rw[hg];exact hk)];split
 .exact h k hk ‹_›
 rfl
theorem MF{q:List Int}:q∈(List.range (EI J.s)).map (fun(k:Nat)=>lY J.s k)↔gU J.s q=true:=by
 have hc:(EI J.s:Int)=aY J.s:=by
  have:=iP hJ.dw.sz;unfold EI;omega
 constructor
 .intro h;obtain⟨k,_,rfl⟩:=a1d.1 h;exact zq _ hJ.dw.sz
 intro h;have:=pF h hJ.dw.sz;refine a1d.2 ⟨(fB J.s q).toNat,a4b.2 (by omega),?_⟩;rw[show((fB J.s q).toNat:Int)=fB J.s q by omega];exact LY h hJ.dw.sz
theorem a3q:((List.range (EI J.s)).map (fun(k:Nat)=>lY J.s k)).Nodup:=by
 have hc:(EI J.s:Int)=aY J.s:=by
  have:=iP hJ.dw.sz;unfold EI;omega
 rw[List.Nodup,ag2];refine List.Pairwise.imp_of_mem (fun{a b} ha hb h e=>h ?_) adA;rw[a4b]at ha hb;have h1:=H9 hJ.dw.sz (n:=(a:Int)) (by omega) (by omega);have h2:=H9 hJ.dw.sz (n:=(b:Int)) (by omega) (by omega);have e:lY J.s (a:Int)=lY J.s (b:Int):=e;rw[e,h2]at h1;omega
theorem a7x:(plc J J.o (List.replicate J.s.length 0)).Perm (Ef J):=by
 obtain⟨o1,o2,o3⟩:=jU.o2 hJ;have ho:ZG (List.replicate J.s.length (0:Int)).length J.o:=⟨o1,fun c hc=>by rw[a8O];exact o3 c hc⟩;unfold Ef;refine(a7c (SI ho) ((a3q hJ).filter _)).2 fun q=>?_;rw[UL ho,a7L,MF hJ,a1E,a8O];constructor
 .rintro⟨h1,h2,h3⟩;have key:∀k,k<J.s.length->(0<=q.getD k 0∧q.getD k 0<J.s.getD k 0)∧(0<=J.g.getD k 0->J.g.getD k 0=q.getD k 0):=fun k hk=>by
   have hc:gQ (k:Int) J.s.length:=aH hk;have:=h3 k (mQ hJ.ord hc);rw[XL hJ hc]at this;exact this
  exact⟨jI.2 ⟨h1,fun k hk=>(key k hk).1⟩,(I4 hJ h1).2 fun k hk=>(key k hk).2⟩
 rintro⟨h1,h2⟩;have hl:=ku h1;refine⟨hl,fun k hk=>?_,fun c hc=>?_⟩
 .have JF:J.s.length<=k:=by
   refine acy fun aQ=>hk ?_;exact a1d.2 ⟨(k:Int),mQ hJ.ord (aH aQ),by simp⟩
  simp[List.getD,a3R (show q.length<=k by omega),a3R (show(List.replicate J.s.length (0:Int)).length<=k by simp;omega)]
 have qG:=o3 c hc;have aQ:c.toNat<J.s.length:=by have:=qG.1;have:=qG.2;omega
 rw[XL hJ qG];exact⟨(jI.1 h1).2 _ aQ,(I4 hJ hl).1 h2 _ aQ⟩
theorem SK{q:List Int}(hq:gU J.s q=true):∀(r:List Int) (a:Nat) (t:S3),J.o.drop a=r->a<=J.o.length->Dp J a t->Dp J J.o.length (UK J.D q r t)∧∀k,k<J.D.length->∀v,To (kT J.D k) q ((UK J.D q r t).get k) v->To (kT J.D k) q (t.get k) v
 | [],a,t,hr,ha,hd=>by
  have:a=J.o.length:=by
   have:=congrArg List.length hr;rw[a3H,a4x]at this;omega
  subst this;exact⟨hd,fun _ _ _ h=>h⟩
 |c::r,a,t,hr,ha,hd=>by
  obtain⟨aQ,hoc,wE,Fv,hci,qG⟩:=jU.at_ hJ hr;have Ym:=(jI.1 hq).2 c.toNat (by have:=qG.1;have:=qG.2;omega);obtain⟨h1,h2⟩:=SK hq r (a+1) _ wE aQ (mJ hJ hr hd Ym);refine⟨h1,fun k hk v h=>?_⟩;have h4:=h2 k hk v h;rw[Jf hJ.d3 t c _ hk]at h4;unfold KW at h4;split at h4
  .rename_i h5;obtain⟨h6,h7,_⟩:=Hy hJ hd hk h5;refine .step h6.1 ?_;rw[h7];exact h4
  exact h4
theorem XM:Dp J 0 (fG J.D):=fun k hk=>by
 rw[zD hJ.d3 hk];exact⟨(hJ.dg k hk).t.root,a4t _⟩
theorem afq{q:List Int}(hq:gU J.s q=true):aU J.D (UK J.D q J.o (fG J.D))=J.D.map fun d=>pG d q:=by
 obtain⟨h1,h2⟩:=SK hJ hq J.o 0 (fG J.D) aaE (a4t _) (XM hJ);unfold aU;refine(rJ (d:=V0) (by simp)).2 fun k hk=>?_;rw[a4a,a8E]at hk;have hd:=hJ.dg k hk;have h3:=Jh hJ h1 hk;have h4:=h2 k hk _ (.fin h3.1);rw[zD hJ.d3 hk]at h4;have h6:=h4.at_ hd.t (by rw[hd.s];exact hq) 6001 (by have:=hd.t.root.1;have:=hd.n;omega) hd.t.root;have e1:((List.range J.D.length).map fun k=>pI (kT J.D k) ((UK J.D q J.o (fG J.D)).get k)).getD k V0=pI (kT J.D k) ((UK J.D q J.o (fG J.D)).get k):=by simp[List.getD,hk]
 have e2:(J.D.map fun d=>pG d q).getD k V0=pG (kT J.D k) q:=by simp[List.getD,hk]
 rw[e1,e2];exact h6
theorem aau(ψ:List V->Int):xG J (fun t=>ψ (aU J.D t)) J.o (fG J.D)=dV (fun q=>ψ (J.D.map fun d=>pG d q)) (Ef J):=by
 obtain⟨o1,o2,o3⟩:=jU.o2 hJ;rw[a1F _ (List.replicate J.s.length 0) _ ⟨o1,fun c hc=>by rw[a8O];exact o3 c hc⟩,Jm _ (a7x hJ)];refine qm fun q hq=>?_;unfold Ef at hq;rw[a7L,MF hJ]at hq;rw[afq hJ hq.1]
end
end Go.Proofs.YtmobpoiejckagaaGreat
namespace Pv
open Go Tw
section
variable {X:kH} {P:Program} {kt:TypeId} {α:Type} [DecidableEq α] (C:oK X P kt α)
theorem oK.ake{l:List (α×PV X.Γ)}{x:α}{v:PV X.Γ}{j:Nat}(hb:Instr.sameBits 10000 (C.v x) (C.v x)=true)(hn:(l.map (·.1)).Nodup)(h:l[j]? = some (x,v)):a5t X P kt (C.es l) (C.tv x) (C.pv x) v j:=by
 obtain⟨hj,e⟩:=a02.1 h;have hxj:(l.map (·.1))[j]? = some x:=by simp[a0b hj,e]
 refine⟨C.v x,_,C.tv x,C.v x,C.ht x,C.hc false x,C.pk l,?_,?_,?_,C.ht x,hb⟩
 .have hu:∀(i:Nat) y,(l.map (·.1))[i]? = some y->decide (x=y)=(some i==some j):=fun i y hy=>by
   rw[a4i];simp only[a1E,a6v,a01];constructor
   .rintro rfl;have i1:=a02.1 hy;have i2:=a02.1 hxj;exact(a9G hn (h₀:=i1.1) (h₁:=i2.1)).1 (i1.2.trans i2.2.symm)
   rintro rfl;rw[hxj]at hy;exact a8H hy
  refine C.find x _ (some j) ?_ hu;rw[a9t];refine⟨by simpa using hj,by simp[e],fun i hi=>?_⟩;have hil:i<(l.map (·.1)).length:=by simp;omega
  rw[hu i _ (a0b hil)];simp;omega
 .simp[oK.es,a0b hj,e]
 simp[a0b hj,e]
theorem oK.newP{l:List (α×PV X.Γ)}{x:α}{v:PV X.Γ}(h:x∉l.map (·.1)):adT X P kt (C.es (l++[(x,v)])) (C.tv x) l.length:=by
 refine⟨C.v x,_,C.ht x,C.pk _,?_⟩;have hu:∀(i:Nat) y,((l++[(x,v)]).map (·.1))[i]? = some y->decide (x=y)=(some i==some l.length):=fun i y hy=>by
  rw[a3T]at hy;rcases a3V i l.length with hi|hi
  .rw[a0c (by simpa using hi)]at hy;have:¬x=y:=fun e=>h (e▸a4f hy);rw[ael this];have:¬i=l.length:=(by omega);simp[this]
  rw[a19 (by simpa using hi)]at hy;have KE:i=l.length:=by
   have:=(a02.1 hy).1;simp at this;omega
  subst KE;simp at hy;subst hy;simp
 refine C.find x _ (some l.length) ?_ hu;rw[a9t];refine⟨by simp,by simp,fun i hi=>?_⟩;have hil:i<((l++[(x,v)]).map (·.1)).length:=by simp;omega
 rw[hu i _ (a0b hil)];simp;omega
abbrev oK.im(m:List (α×Int)):List (PV X.Γ×PV X.Γ):=C.es (m.map fun e=>(e.1,.int .i64 e.2))
theorem oK.oV(m:List (α×Int)):(C.im m).length=m.length:=by simp[oK.im,oK.es]
theorem oK.AU(m:List (α×Int))(j:Nat):(C.im m)[j]? = (m[j]?).map fun e=>(C.pv e.1,.int .i64 e.2):=by
 simp[oK.im,oK.es,a4d];rfl
theorem zI{Y:kH}(m:List (α×Int)):((m.map fun e=>(e.1,(PV.int .i64 e.2:PV Y.Γ))).map (·.1))=m.map (·.1):=by simp
theorem afr{m:List (α×Int)}{j:Nat}{f:Int->Int}{v:Int}(h:∀e,m[j]? = some e->f e.2=v):IJ (C.im m) j (.int .i64 v)=C.im (m.modify j fun e=>(e.1,f e.2)):=by
 unfold IJ;refine a9n fun i=>?_;rw[ady,C.AU,C.AU,ady];by_cases e:j=i
 .subst e;cases h2:m[j]? with
  |none=>simp[h2]
  |some x=>simp[h2,h x h2]
 simp[e]
theorem afs{m:List (α×Int)}{x:α}{z v:Int}:IJ (C.im m++[(C.pv x,.int .i64 z)]) (C.im m).length (.int .i64 v)=C.im (m++[(x,v)]):=by
 have:C.im (m++[(x,v)])=C.im m++[(C.pv x,.int .i64 v)]:=by simp[oK.im,oK.es]
 rw[this];unfold IJ;generalize C.im m=l;refine a9n fun i=>?_;rw[ady];rcases Nat.lt_trichotomy i l.length with h|h|h
 .rw[a0c h,a0c h];simp[show ¬l.length=i by omega]
 .subst h;simp
 rw[a3R (by simp;omega),a3R (by simp;omega)];rfl
theorem oK.UM{m:List (α×Int)}{k:α}{n:Int}(hb:Instr.sameBits 10000 (C.v k) (C.v k)=true)(hn:(m.map (·.1)).Nodup)(h:k∈m.map (·.1))(hw:∀e∈m,i64.wrap (e.2+n)=e.2+n) :
  ∃j old,qj X P kt (C.im m) (C.tv k) (.int .i64 old)∧a5t X P kt (C.im m) (C.tv k) (C.pv k) (.int .i64 old) j∧j<(C.im m).length∧IJ (C.im m) j (.int .i64 (i64.wrap (old+n)))=C.im (cO.rX m k n):=by
 have aQ:=a4g.2 h;have a5D:(m.map (·.1)).idxOf k<m.length:=by simpa using aQ
 have hk:m[(m.map (·.1)).idxOf k]? = some (k,m[(m.map (·.1)).idxOf k].2):=by
  rw[a0b a5D];have:=a8t aQ;rw[a8Y]at this;exact congrArg some (acM this rfl)
 have a1Z:(k,m[(m.map (·.1)).idxOf k].2)∈m:=a4f hk;refine⟨(m.map (·.1)).idxOf k,m[(m.map (·.1)).idxOf k].2,C.found (by rw[zI];exact hn) (a1d.2 ⟨_,a1Z,rfl⟩),C.ake hb (by rw[zI];exact hn) (by rw[a4d,hk];rfl),by rw[C.oV];exact a5D,?_⟩;rw[hw _ a1Z];unfold cO.rX;rw[a0i h];exact afr C (f:=fun x=>x+n) fun e he=>by rw[hk]at he;cases he;rfl
theorem oK.UN{m:List (α×Int)}{k:α}{n:Int}(h:k∉m.map (·.1))(hw:i64.wrap (0+n)=n) :
  nD X P kt (C.im m) (C.tv k)∧adT X P kt (C.im m++[(C.pv k,(PV.int .i64 0:PV X.Γ))]) (C.tv k) (C.im m).length∧(C.im m).length<(C.im m++[(C.pv k,(PV.int .i64 0:PV X.Γ))]).length∧IJ (C.im m++[(C.pv k,.int .i64 0)]) (C.im m).length (.int .i64 (i64.wrap (0+n)))=C.im (cO.rX m k n):=by
 refine⟨C.fresh (by rw[zI];exact h),?_,by simp,?_⟩
 .have:=C.newP (l:=m.map fun e=>(e.1,(PV.int .i64 e.2:PV X.Γ))) (x:=k) (v:=.int .i64 0) (by rw[zI];exact h);rw[C.oV];simpa[oK.im,oK.es]using this
 rw[hw,afs];unfold cO.rX;rw[a0g h]
end
end Pv
namespace Go.Proofs.YtmobpoiejckagaaGreat
open Go Tw Pv cO
abbrev wSk(H:List (PB aF))(s:S3)(r:Int)(x:List (Nat×PE aF)):aS aF:=⟨[(1,xi r),(2,.val (.ptr 2 0 5)),(3,.val (.ptr 1 0 5)),(4,.val (.ptr 3 0 1)),(5,.val (.ptr 4 0 1)),(6,.loc 0 0)]++x,[s.ps],H⟩
def Qj(D:List Dg)(t:S3):List Int->Nat
 | []=>0
 |c::r=>if jL D t c=true then 0 else Qj D t r+1
def Qk(J:Jb)(t:S3)(i:Int):Int⊕Int:=if decide (i<(J.o.length:Int))=true then(if(!(jL J.D t (J.o.getD i.toNat 0)))=true then .inl (i64.wrap (i+1))else .inr i)else .inr i
theorem a7y{J:Jb}(hJ:jU J)(t:S3):∀(r:List Int) (a:Nat),J.o.drop a=r->a<=J.o.length->itF (Qk J t) (r.length+1) (a:Int)=some ((a+Qj J.D t r:Nat):Int)
 | [],a,hr,ha=>by
  have:a=J.o.length:=by
   have:=congrArg List.length hr;rw[a3H,a4x]at this;omega
  have e:Qk J t (a:Int)=.inr (a:Int):=by unfold Qk;rw[a0g (by simp;omega)]
  rw[a4x,itF,e];rfl
 |c::r,a,hr,ha=>by
  obtain⟨aQ,hoc,wE,_⟩:=jU.at_ hJ hr;have hl:=hJ.dw.len;have QF:=(jU.o2 hJ).2.1;have e:Qk J t (a:Int)=if(!(jL J.D t c))=true then .inl (i64.wrap ((a:Int)+1))else .inr (a:Int):=by
   unfold Qk;rw[a0i (by simp;omega),a4v,hoc]
  rw[a3S,itF,e];cases h:jL J.D t c
  .simp only[aaw,a2j];have ew:i64.wrap ((a:Int)+1)=((a+1:Nat):Int):=by rw[eP (by omega) (by omega)];omega
   have:=a7y hJ t r (a+1) wE aQ;simp only[ew,Qj,h];rw[this];simp;omega
  simp[Qj,h]
theorem ap7{M f:Nat}{J:Jb}(hJ:jU J){t:S3}{x:Mk}(r:List Int){a:Nat}(hr:J.o.drop a=r)(ha:a<=J.o.length)(hd:Dp J a t):OG (M+1) 126 0 7 (wSk (HM0 J f x) t a []) (.exit 0) (wSk (HM0 J f x) t ((a+Qj J.D t r:Nat):Int) [(32,xl false)]):=by
 have Q8:=a7y hJ t r a hr ha;have QF:=(jU.o2 hJ).2.1;have hl:=hJ.dw.len;refine Zq (st:=fun i=>wSk (HM0 J f x) t i []) (g:=Qk J t) (out:=fun i=>(.exit 0,wSk (HM0 J f x) t i [(32,xl false)])) (fun i=>0<=i∧i<=J.o.length) Q8 (by kernel_rfl) (by have:=congrArg List.length hr;rw[a3H]at this;unfold LL;omega) ⟨by omega,by omega⟩ ?_ ?_
 .intro i i1 hi e;unfold Qk at e;split at e
  .rename_i c;have c:i<(J.o.length:Int):=(by simpa using c);split at e
   .cases e;rw[eP (by omega) (by omega)];omega
   cases e
  cases e
 intro i m i' hi ih;have hs:=a7m (M:=M) (f:=f) (a:=[]) (cc:=[]) (H:=[]) J t (J.o.getD i.toNat 0) hJ.d3 (fun k hk h=>⟨by simpa using h,(hd k hk).1.1⟩);by_cases c:i<(J.o.length:Int)
 .have t1:decide (i<(J.o.length:Int))=true:=by simpa using c
  have i1:gQ i J.o.length:=⟨hi.1,c⟩;cases hq:jL J.D t (J.o.getD i.toNat 0)
  .have e:Qk J t i=.inl (i64.wrap (i+1)):=by unfold Qk;rw[a0i t1,hq];rfl
   rw[hq]at hs;have g:=ih _ e;rw[e];exact aN fZ (.b t1 (.o i1 (.fr [] hs (.b (rfl:(!false)=true) (.go g)))))
  have e:Qk J t i=.inr i:=by unfold Qk;rw[a0i t1,hq];rfl
  rw[hq]at hs;rw[e];dsimp only[CX];exact aN fZ (.b t1 (.o i1 (.fr [] hs (.b (rfl:(!true)=false) .ex))))
 have t1:decide (i<(J.o.length:Int))=false:=by simpa using c
 have e:Qk J t i=.inr i:=by unfold Qk;rw[a0g (by rw[t1];simp)]
 rw[e];dsimp only[CX];exact aN fZ (.b t1 .ex)
theorem ap8{M f:Nat}(u:Int){J:Jb}(hJ:jU J){t:S3}{x:Mk}(r:List Int){a:Nat}(hr:J.o.drop a=r)(ha:a<=J.o.length)(hd:Dp J a t):OG (M+1) 126 0 8 (wSk (HM1 J f u x) t a []) (.exit 0) (wSk (HM1 J f u x) t ((a+Qj J.D t r:Nat):Int) [(32,xl false)]):=by
 have Q8:=a7y hJ t r a hr ha;have QF:=(jU.o2 hJ).2.1;have hl:=hJ.dw.len;refine Zq (st:=fun i=>wSk (HM1 J f u x) t i []) (g:=Qk J t) (out:=fun i=>(.exit 0,wSk (HM1 J f u x) t i [(32,xl false)])) (fun i=>0<=i∧i<=J.o.length) Q8 (by kernel_rfl) (by have:=congrArg List.length hr;rw[a3H]at this;unfold LL;omega) ⟨by omega,by omega⟩ ?_ ?_
 .intro i i1 hi e;unfold Qk at e;split at e
  .rename_i c;have c:i<(J.o.length:Int):=(by simpa using c);split at e
   .cases e;rw[eP (by omega) (by omega)];omega
   cases e
  cases e
 intro i m i' hi ih;have hs:=a7m (M:=M) (f:=f) (a:=[]) (cc:=[.ptr 0 0 1]) (H:=[.aC [.int .u8 u]]) J t (J.o.getD i.toNat 0) hJ.d3 (fun k hk h=>⟨by simpa using h,(hd k hk).1.1⟩);by_cases c:i<(J.o.length:Int)
 .have t1:decide (i<(J.o.length:Int))=true:=by simpa using c
  have i1:gQ i J.o.length:=⟨hi.1,c⟩;cases hq:jL J.D t (J.o.getD i.toNat 0)
  .have e:Qk J t i=.inl (i64.wrap (i+1)):=by unfold Qk;rw[a0i t1,hq];rfl
   rw[hq]at hs;have g:=ih _ e;rw[e];exact aN fZ (.b t1 (.o i1 (.fr [5] hs (.b (rfl:(!false)=true) (.go g)))))
  have e:Qk J t i=.inr i:=by unfold Qk;rw[a0i t1,hq];rfl
  rw[hq]at hs;rw[e];dsimp only[CX];exact aN fZ (.b t1 (.o i1 (.fr [5] hs (.b (rfl:(!true)=false) .ex))))
 have t1:decide (i<(J.o.length:Int))=false:=by simpa using c
 have e:Qk J t i=.inr i:=by unfold Qk;rw[a0g (by rw[t1];simp)]
 rw[e];dsimp only[CX];exact aN fZ (.b t1 .ex)
open Go Tw Pv cO
theorem UO{J:Jb}(hJ:jU J){op:List V->V}{x:Mk}:∀(r:List Int) (a:Nat) (t:S3),J.o.drop a=r->a<=J.o.length->Dp J a t->jC J op r t x=jC J op (r.drop (Qj J.D t r)) t x∧a+Qj J.D t r<=J.o.length∧Dp J (a+Qj J.D t r) t∧∀c r',r.drop (Qj J.D t r)=c::r'->jL J.D t c=true
 | [],a,t,hr,ha,hd=>⟨rfl,ha,hd,fun _ _ h=>by cases h⟩
 |c::r,a,t,hr,ha,hd=>by
  obtain⟨aQ,hoc,wE,_⟩:=jU.at_ hJ hr;cases h:jL J.D t c
  .obtain⟨q1,q2,q3,q4⟩:=UO hJ (op:=op) (x:=x) r (a+1) t wE aQ (UF hJ hr hd h);have e:Qj J.D t (c::r)=Qj J.D t r+1:=(by simp[Qj,h]);rw[e];refine⟨?_,by omega,by rw[show a+(Qj J.D t r+1)=a+1+Qj J.D t r by omega];exact q3,q4⟩;rw[List.drop_succ_cons,<-q1]
   conv=>lhs;unfold jC
   rw[a0g (by rw[h];simp)]
  have e:Qj J.D t (c::r)=0:=by simp[Qj,h]
  rw[e];exact⟨rfl,ha,hd,fun c' r' h2=>by cases h2;exact h⟩
theorem UQ{J:Jb}(hJ:jU J):∀(r:List Int) (n:Nat),(∀c∈r,gQ c J.s.length)->wO J.s (r.drop n)<=wO J.s r
 | [],n,_=>by simp
 |c::r,0,_=>a0V _
 |c::r,n+1,h=>by
  have h1:=UQ hJ r n fun c hc=>h c (by simp[hc]);have hi:=h c (by simp);have hz:=hJ.dw.sz _ (dG (s:=J.s) (k:=c.toNat) (by have:=hi.1;have:=hi.2;omega));have:wO J.s r<=(J.s.getD c.toNat 0).toNat*wO J.s r:=adp _ (by omega);rw[List.drop_succ_cons];simp only[wO];omega
abbrev aav(J:Jb)(f:Nat)(t:S3)(c:Int)(a:Int)(m:Mk)(ks:List Int)(i:Int)(y:List (Nat×PE aF)):aS aF:=⟨[(1,xi a),(2,.val (.ptr 2 0 5)),(3,.val (.ptr 1 0 5)),(4,.val (.ptr 3 0 1)),(5,.val (.ptr 4 0 1)),(6,.loc 0 0),(9,xi c),(13,.loc 1 0),(93,xi (J.s.getD c.toNat 0)),(94,xi i)]++y,[t.ps,[.int .i64 c,.own 9]],aao J f m++[oI false false ks]⟩
theorem ap9{M f:Nat}{J:Jb}(hJ:jU J){op:List V->V}{r:List Int}{t:S3}{c a:Int}(x:Mk)(hc:gQ c J.s.length)(Q:Nat->Mk->Prop)(h0:Q 0 x)(hq:∀j y,j<(J.s.getD c.toNat 0).toNat->Q j y->Q (j+1) (jC J op r (bJ J.D t c j) y).2)
  (hk:∀j:Nat,j<(J.s.getD c.toNat 0).toNat->∀k,k<J.D.length->a1A (kT J.D k) (t.get k) c j)
  (hf:∀(j:Nat) y,j<(J.s.getD c.toNat 0).toNat->Q j y->aX X0 Qp (bP (M+1)) (.fn 126 [] pM) [.agg (bJ J.D t c j).ps,.int .i64 (i64.wrap (a+1))] (HM0 J f y) (.int .i64 (jC J op r (bJ J.D t c j) y).1) (aao J f (jC J op r (bJ J.D t c j) y).2)) :
  OG (M+1) 126 1 7 (aav J f t c a x [] 0 []) (.exit 2) (aav J f t c a (aT (UE J.D (jC J op r) t c) (J.s.getD c.toNat 0).toNat 0 ([],x)).2 (aT (UE J.D (jC J op r) t c) (J.s.getD c.toNat 0).toNat 0 ([],x)).1 (((J.s.getD c.toNat 0).toNat:Nat):Int) [(95,xl false)]):=by
 have hz:=hJ.dw.sz _ (dG (s:=J.s) (k:=c.toNat) (by have:=hc.1;have:=hc.2;omega));refine yg (σ:=List Int×Mk) (N:=(J.s.getD c.toNat 0).toNat) (g:=UE J.D (jC J op r) t c) (s0:=([],x)) (st:=fun i y=>aav J f t c a y.2 y.1 i []) (fin:=fun y=>aav J f t c a y.2 y.1 (((J.s.getD c.toNat 0).toNat:Nat):Int) [(95,xl false)]) (fun j y=>y.1.length=j∧Q j y.2) (by kernel_rfl) (by unfold ah;omega) ⟨rfl,h0⟩ (fun j y hj hy=>⟨by simp[UE,hy.1],hq j y.2 hj hy.2⟩) (fun j y hj hy m e p g=>?_) (fun y _=>?_)
 .have h1:=hf j y.2 hj hy.2;have ha:=Je (M:=M) (f:=f) (a:=[]) (cc:=[]) (H:=[]) J t c j hJ.d3 (hk j hj);have t1:decide ((j:Int)<J.s.getD c.toNat 0)=true:=by rw[a1E];omega
  have h3:=hy.1;unfold UE at g;generalize jC J op r (bJ J.D t c j) y.2=z at h1 g;obtain⟨v,z⟩:=z;exact aN fZ (.b t1 (.fr [] ha (.fr [0,1,2,3,4,7,8] h1 (.o (show y.1.length+[v].length<=ah by simp only[a3P];unfold ah;omega) (.goG [.gc [10,11,13]] g)))))
 .have t1:decide ((((J.s.getD c.toNat 0).toNat:Nat):Int)<J.s.getD c.toNat 0)=false:=by rw[a2H];omega
  exact aN fZ (.b t1 .ex)
open Go Tw Pv cO
theorem XO{k:List (S3×Int)}{t:S3}(hn:(k.map (·.1)).Nodup)(h:t∈k.map (·.1)):qj X0 Qp 148 (Hw k) (.agg [.int .i64 t.a,.int .i64 t.b,.int .i64 t.c]) (.int .i64 (knS k t)):=by
 refine kS.found (x:=t) (by rw[a6r];exact hn) ?_;obtain⟨e,he,rfl⟩:=a1d.1 h;refine a1d.2 ⟨e,he,?_⟩;have:knS k e.1=e.2:=by
  have:k.find? (fun y=>decide (y.1=e.1))=some e:=by
   clear h
   induction k with
   |nil=>cases he
   |cons y l ih=>
    rw[a3U,a3Z]at hn;rw[agx];rcases a2e.1 he with rfl|he
    .simp
    have:¬y.1=e.1:=fun h=>hn.1 (a1d.2 ⟨e,he,h.symm⟩);rw[ael this];exact ih hn.2 he
  unfold knS;rw[this];rfl
 rw[this]
abbrev aft(J:Jb)(op:List V->V)(f:Nat)(m:Nat)(r:List Int):Prop:=∀(a:Nat) (t:S3) (x:Mk),J.o.drop a=r->a<=J.o.length->Dp J a t->XOk J op x->x.e.length+wO J.s r<=ah->x.n.length+wO J.s r<=ah ->
  aX X0 Qp (bP m) (.fn 126 [] pM) [.agg t.ps,.int .i64 (a:Int)] (HM0 J f x) (.int .i64 (jC J op r t x).1) (aao J f (jC J op r t x).2)
abbrev afu(J:Jb)(f:Nat)(x:Mk)(v:V):List (PB aF):=[.map (Hw x.k),.cells [lI J.s,lI J.o,.own 8,.own 6,.int .i64 0],.aC (J.ps (.fn f [] [])),.aC [.fn 126 [] pM],.aC [.map 0],.gone,PU x.n,.list true true 39 [v],PS (x.e++[v])]
abbrev akf(J:Jb)(f:Nat)(x:Mk)(t:S3)(b:Br):List (PB aF):=[.map (Hw x.k++[(.agg t.ps,.int .i64 (x.n.length:Int))]),.cells [lI J.s,lI J.o,.own 7,.own 11,.int .i64 0],.aC (J.ps (.fn f [] [])),.aC [.fn 126 [] pM],.aC [.map 0],.gone,.gone,PS x.e,.gone,.gone,.list true true 105 [b],PU (x.n++[b])]
theorem ad7{N f:Nat}{J:Jb}(hJ:jU J){op:List V->V}(kG:wV J op)(hs:∀l:List V,l.length=J.D.length->aX X0 Qp (bP (N+1)) (.fn f [] []) [lV l] [] (.agg (op l).ps) [])(r:List Int)(rec:∀c r',c::r' <:+ r->aft J op f (N+1) r'):aft J op f (N+2) r:=by
 intro a t x hr ha hd hx BU xP;unfold ah at BU xP;have QF:=(jU.o2 hJ).2.1;have hl6:=hJ.dw.len;have lsk:=ap7 (M:=N) (f:=f) hJ (x:=x) r hr ha hd;obtain⟨q1,q2,q3,q4⟩:=UO hJ (op:=op) (x:=x) r a t hr ha hd;have hw:=UQ hJ r (Qj J.D t r) (fun c hc=>(jU.o2 hJ).2.2 c (a4P (by rw[hr];exact hc)));rw[q1];generalize Qj J.D t r=n at lsk q1 q2 q3 q4 hw;have FY:J.o.drop (a+n)=r.drop n:=by rw[<-hr,afF]
 have a7z:r.drop n <:+ r:=List.drop_suffix _ _;have Gi:=congrArg List.length FY;rw[a3H]at Gi;clear q1 hr;generalize a+n=i at lsk q2 q3 FY Gi;generalize r.drop n=r0 at q4 hw FY a7z Gi;cases r0 with
 |nil=>
  have e0:i=J.o.length:=by rw[a4x]at Gi;omega
  have t0:((i:Int)==(J.o.length:Int))=true:=by rw[e0];simp
  rw[e0]at q3;have qg:(aU J.D t).length=J.D.length:=by simp[aU]
  have hce:=a1B (M:=N) (f:=f) J t hJ.d3 (fun k hk=>(Jh hJ q3 hk).2);have hv:=hs (aU J.D t) qg;simp only[wO]at hw;have hb:x.e.length+[op (aU J.D t)].length<=ah:=by simp only[a3P];unfold ah;omega
  have h1:aX X0 Qp (bP (N+2)) (.fn 126 [] pM) [.agg t.ps,.int .i64 (a:Int)] (HM0 J f x) (.int .i64 (i64.wrap (0-((x.e++[op (aU J.D t)]).length:Int)))) (afu J f x (op (aU J.D t))):=
   fP fZ (first:=[]) (cap:=pM) (.w lsk (.b t0 (.fr [] hce (.fr [] hv (.o hb .er)))))
  exact aX.gs hX h1 [.mv 6,.gc [8,9]] (by kernel_rfl)
 |cons c r'=>
  have t0:((i:Int)==(J.o.length:Int))=false:=by rw[a3S]at Gi;simp;omega
  obtain⟨aQ,hoc,wE,Fv,hci,qG⟩:=jU.at_ hJ FY;have AL:=q4 c r' rfl;have rc:=rec c r' a7z;have ia:gQ (i:Int) J.o.length:=⟨by omega,by omega⟩;have Jq:J.o.getD (i:Int).toNat 0=c:=by rw[a4v];exact hoc
  have ig:gQ (J.o.getD (i:Int).toNat 0) J.g.length:=by rw[Jq,hJ.gl];exact qG
  have hz:=hJ.dw.sz _ (dG (s:=J.s) (k:=c.toNat) (by have:=qG.1;have:=qG.2;omega));have hri:∀c'∈r',gQ c' J.s.length:=fun c' h=>(jU.o2 hJ).2.2 c' (by rw[<-wE]at h;exact a4P h);have hw0:=UD hJ.dw.sz hri;have hw1:wO J.s r'<=(J.s.getD c.toNat 0).toNat*wO J.s r':=adp _ (by omega);have ew:i64.wrap ((i:Int)+1)=((i+1:Nat):Int):=by rw[eP (by omega) (by omega)];omega
  simp only[wO]at hw;unfold jC;rw[a0i AL];cases tg:decide (J.g.getD c.toNat 0>=0)
  .rw[a0g (by simp)];have tg':decide (J.g.getD (J.o.getD (i:Int).toNat 0).toNat 0>=0)=false:=by rw[Jq];exact tg
   by_cases hk:t∈x.k.map (·.1)
   .rw[a0i hk];have hF:qj X0 Qp 148 (Hw x.k) (.agg [.int .i64 t.a,.int .i64 t.b,.int .i64 t.c]) (.int .i64 (knS x.k t)):=XO hx.nd hk;have h1:aX X0 Qp (bP (N+2)) (.fn 126 [] pM) [.agg t.ps,.int .i64 (a:Int)] (HM0 J f x) (.int .i64 (knS x.k t)) (HM0 J f x):=
     fP fZ (first:=[]) (cap:=pM) (.w lsk (.b t0 (.o ia (.o ig (.b tg' (.c (.int .i64 (knS x.k t)) [] hF (.b (rfl:true=true) .er)))))))
    exact aX.gs hX h1 [.mv 5,.mv 6] (by kernel_rfl)
   rw[a0g hk];have hm2:=UG hJ FY q3 AL;have hF:nD X0 Qp 148 (Hw x.k) (.agg [.int .i64 t.a,.int .i64 t.b,.int .i64 t.c]):=kS.fresh (x:=t) (by simpa using hk);have is:gQ (J.o.getD (i:Int).toNat 0) J.s.length:=by rw[Jq];exact qG
   have Yd:∀j,j<(J.s.getD c.toNat 0).toNat->j*wO J.s r'+wO J.s r'<=(J.s.getD c.toNat 0).toNat*wO J.s r':=fun j hj=>by
    have:(j+1)*wO J.s r'<=(J.s.getD c.toNat 0).toNat*wO J.s r':=a3r _ hj;rw[a2Z]at this;omega
   let Q:Nat->Mk->Prop:=fun j y=>XOk J op y∧y.e.length<=x.e.length+j*wO J.s r'∧y.n.length+j<=x.n.length+j*wO J.s r'∧∀e∈y.k,e∈x.k∨Dp J (i+1) e.1
   have hq:∀j y,j<(J.s.getD c.toNat 0).toNat->Q j y->Q (j+1) (jC J op r' (bJ J.D t c j) y).2:=fun j y hj hy=>by
    obtain⟨y1,y2,y3,y4⟩:=hy;have Yd:=Yd j hj;have h:=SA hJ op kG r' (i+1) (bJ J.D t c j) y wE aQ (mJ hJ FY q3 ⟨by omega,by omega⟩) y1 (by omega) (by omega);have h3:=h.el;have h4:=h.nl;refine⟨h.ok,by rw[a2Z];omega,by rw[a2Z];omega,fun e he=>?_⟩;rcases h.ks e he with h5|h5
    .exact y4 e h5
    exact .inr h5
   have lp:=ap9 (M:=N) (f:=f) hJ (op:=op) (r:=r') (t:=t) (c:=c) (a:=(i:Int)) x qG Q ⟨hx,by simp,by simp,fun e he=>.inl he⟩ hq (fun j hj k hk=>Jg hJ q3 ⟨by omega,by omega⟩ hk) (fun j y hj hy=>by
    obtain⟨y1,y2,y3,y4⟩:=hy;have Yd:=Yd j hj;rw[ew];exact rc (i+1) (bJ J.D t c j) y wE aQ (mJ hJ FY q3 ⟨by omega,by omega⟩) y1 (by unfold ah;omega) (by unfold ah;omega))
   have inv:=dD (g:=UE J.D (jC J op r') t c) (m:=(J.s.getD c.toNat 0).toNat) (k:=0) (s:=([],x)) (fun j y=>Q j y.2) ⟨hx,by simp,by simp,fun e he=>.inl he⟩ (fun j y _ hj hy=>hq j y.2 (by omega) hy);rw[a3O]at inv;simp only[];generalize aT (UE J.D (jC J op r') t c) (J.s.getD c.toNat 0).toNat 0 ([],x)=y at lp inv;obtain⟨ks,m⟩:=y;obtain⟨y1,y2,y3,y4⟩:=inv;have hnk:t∉m.k.map (·.1):=fun h=>by
    obtain⟨e,he,e2⟩:=a1d.1 h;rcases y4 e he with h1|h1
    .exact hk (a1d.2 ⟨e,h1,e2⟩)
    rw[e2]at h1;exact ZF hJ FY AL h1
   have hF2:nD X0 Qp 148 (Hw m.k) (.agg [.int .i64 t.a,.int .i64 t.b,.int .i64 t.c]):=kS.fresh (x:=t) (by simpa using hnk);have ek:Hw m.k++[(.agg t.ps,.int .i64 (m.n.length:Int))]=Hw (m.k++[(t,(m.n.length:Int))]):=by
    unfold Hw oK.es;rw[a3T,a3T];rfl
   have hF3:qj X0 Qp 148 (Hw m.k++[(.agg t.ps,.int .i64 (m.n.length:Int))]) (.agg [.int .i64 t.a,.int .i64 t.b,.int .i64 t.c]) (.int .i64 (m.n.length:Int)):=by
    refine(congrArg (fun l:List (PV aF×PV aF)=>qj X0 Qp 148 l (.agg [.int .i64 t.a,.int .i64 t.b,.int .i64 t.c]) (.int .i64 (m.n.length:Int))) ek).mpr ?_;refine kS.found (x:=t) ?_ ?_
    .rw[a6r,show((fun e:S3×PV X0.Γ=>e.1)∘fun e:S3×Int=>(e.1,(PV.int .i64 e.2:PV X0.Γ)))=fun e=>e.1 from rfl,a3T];exact Dk y1.nd hnk
    simp
   have hb:m.n.length+[(⟨c,ks⟩:Br)].length<=ah:=by
    simp only[a3P];have y3:m.n.length+(J.s.getD c.toNat 0).toNat<=x.n.length+(J.s.getD c.toNat 0).toNat*wO J.s r':=y3;unfold ah;omega
   have h1:aX X0 Qp (bP (N+2)) (.fn 126 [] pM) [.agg t.ps,.int .i64 (a:Int)] (HM0 J f x) (.int .i64 (m.n.length:Int)) (akf J f m t ⟨c,ks⟩):=by
    subst Jq;exact fP fZ (first:=[]) (cap:=pM) (.w lsk (.b t0 (.o ia (.o ig (.b tg' (.q (.bool false) hF (.b (rfl:false=false) (.o is (.wG [.mv 5,.mv 6,.a2y 1 1 3] lp (.q (.bool false) (kS.ck t) (.o hF2 (.o hb (.c (.int .i64 (m.n.length:Int)) [] hF3 .er)))))))))))))
   have h2:=aX.gs hX h1 [.gc [7,11]] (v':=.int .i64 (m.n.length:Int)) (H2:=[.map (Hw m.k++[(.agg t.ps,.int .i64 (m.n.length:Int))]),.cells [lI J.s,lI J.o,.own 7,.own 8,.int .i64 0],.aC (J.ps (.fn f [] [])),.aC [.fn 126 [] pM],.aC [.map 0],.gone,.gone,PS m.e,PU (m.n++[⟨c,ks⟩])]) (by kernel_rfl);exact(congrArg (fun l:List (PV aF×PV aF)=>aX X0 Qp (bP (N+2)) (.fn 126 [] pM) [.agg t.ps,.int .i64 (a:Int)] (HM0 J f x) (.int .i64 (m.n.length:Int)) [.map l,.cells [lI J.s,lI J.o,.own 7,.own 8,.int .i64 0],.aC (J.ps (.fn f [] [])),.aC [.fn 126 [] pM],.aC [.map 0],.gone,.gone,PS m.e,PU (m.n++[⟨c,ks⟩])]) ek).mp h2
  rw[a0i rfl];have tg':decide (J.g.getD (J.o.getD (i:Int).toNat 0).toNat 0>=0)=true:=by rw[Jq];exact tg
  have hg:0<=J.g.getD c.toNat 0:=by simpa using tg
  have haf:=Je (M:=N) (f:=f) (a:=[]) (cc:=[]) (H:=[]) J t c (J.g.getD c.toNat 0) hJ.d3 (fun k hk=>Jg hJ q3 ⟨hg,hJ.gv c qG hg⟩ hk);have h2:=rc (i+1) (bJ J.D t c (J.g.getD c.toNat 0)) x wE aQ (mJ hJ FY q3 ⟨hg,hJ.gv c qG hg⟩) hx (by unfold ah;omega) (by unfold ah;omega);rw[<-ew]at h2;subst Jq;exact fP fZ (first:=[]) (cap:=pM) (.w lsk (.b t0 (.o ia (.o ig (.b tg' (.fr [] haf (.fr [0,1,2,3,4,5,6] h2 .er)))))))
theorem apd{N f:Nat}{J:Jb}(hJ:jU J){op:List V->V}(kG:wV J op)(hs:∀m,N<=m->∀l:List V,l.length=J.D.length->aX X0 Qp (bP m) (.fn f [] []) [lV l] [] (.agg (op l).ps) []):∀(F:Nat) (r:List Int),r.length<=F->aft J op f (N+F+2) r:=by
 intro F
 induction F with
 |zero=>
  intro r hF;refine ad7 hJ kG (hs _ (by omega)) r fun c r' h=>?_;have:=h.length_le;rw[a3S]at this;omega
 |succ F ih=>
  intro r hF;refine ad7 (N:=N+F+1) hJ kG (hs _ (by omega)) r fun c r' h=>ih r' ?_;have:=h.length_le;rw[a3S]at this;omega
open Go Tw Pv cO
abbrev aax(J:Jb)(f:Nat)(u:Int)(t:S3)(c:Int)(a:Int)(m:Mk)(ks:List Int)(i:Int)(y:List (Nat×PE aF)):aS aF:=⟨[(1,xi a),(2,.val (.ptr 2 0 5)),(3,.val (.ptr 1 0 5)),(4,.val (.ptr 3 0 1)),(5,.val (.ptr 4 0 1)),(6,.loc 0 0),(9,xi c),(13,.loc 1 0),(93,xi (J.s.getD c.toNat 0)),(94,xi i)]++y,[t.ps,[.int .i64 c,.own 10]],aap J f u m++[oI false false ks]⟩
theorem ape{M f:Nat}{u:Int}{J:Jb}(hJ:jU J){op:List V->V}{r:List Int}{t:S3}{c a:Int}(x:Mk)(hc:gQ c J.s.length)(Q:Nat->Mk->Prop)(h0:Q 0 x)(hq:∀j y,j<(J.s.getD c.toNat 0).toNat->Q j y->Q (j+1) (jC J op r (bJ J.D t c j) y).2)
  (hk:∀j:Nat,j<(J.s.getD c.toNat 0).toNat->∀k,k<J.D.length->a1A (kT J.D k) (t.get k) c j)
  (hf:∀(j:Nat) y,j<(J.s.getD c.toNat 0).toNat->Q j y->aX X0 Qp (bP (M+1)) (.fn 126 [] pM) [.agg (bJ J.D t c j).ps,.int .i64 (i64.wrap (a+1))] (HM1 J f u y) (.int .i64 (jC J op r (bJ J.D t c j) y).1) (aap J f u (jC J op r (bJ J.D t c j) y).2)) :
  OG (M+1) 126 1 8 (aax J f u t c a x [] 0 []) (.exit 2) (aax J f u t c a (aT (UE J.D (jC J op r) t c) (J.s.getD c.toNat 0).toNat 0 ([],x)).2 (aT (UE J.D (jC J op r) t c) (J.s.getD c.toNat 0).toNat 0 ([],x)).1 (((J.s.getD c.toNat 0).toNat:Nat):Int) [(95,xl false)]):=by
 have hz:=hJ.dw.sz _ (dG (s:=J.s) (k:=c.toNat) (by have:=hc.1;have:=hc.2;omega));refine yg (σ:=List Int×Mk) (N:=(J.s.getD c.toNat 0).toNat) (g:=UE J.D (jC J op r) t c) (s0:=([],x)) (st:=fun i y=>aax J f u t c a y.2 y.1 i []) (fin:=fun y=>aax J f u t c a y.2 y.1 (((J.s.getD c.toNat 0).toNat:Nat):Int) [(95,xl false)]) (fun j y=>y.1.length=j∧Q j y.2) (by kernel_rfl) (by unfold ah;omega) ⟨rfl,h0⟩ (fun j y hj hy=>⟨by simp[UE,hy.1],hq j y.2 hj hy.2⟩) (fun j y hj hy m e p g=>?_) (fun y _=>?_)
 .have h1:=hf j y.2 hj hy.2;have ha:=Je (M:=M) (f:=f) (a:=[]) (cc:=[.ptr 0 0 1]) (H:=[.aC [.int .u8 u]]) J t c j hJ.d3 (hk j hj);have t1:decide ((j:Int)<J.s.getD c.toNat 0)=true:=by rw[a1E];omega
  have h3:=hy.1;unfold UE at g;generalize jC J op r (bJ J.D t c j) y.2=z at h1 g;obtain⟨v,z⟩:=z;exact aN fZ (.b t1 (.fr [5] ha (.fr [0,1,2,3,4,5,8,9] h1 (.o (show y.1.length+[v].length<=ah by simp only[a3P];unfold ah;omega) (.goG [.gc [11,12,14]] g)))))
 .have t1:decide ((((J.s.getD c.toNat 0).toNat:Nat):Int)<J.s.getD c.toNat 0)=false:=by rw[a2H];omega
  exact aN fZ (.b t1 .ex)
abbrev afv(J:Jb)(op:List V->V)(f:Nat)(u:Int)(m:Nat)(r:List Int):Prop:=∀(a:Nat) (t:S3) (x:Mk),J.o.drop a=r->a<=J.o.length->Dp J a t->XOk J op x->x.e.length+wO J.s r<=ah->x.n.length+wO J.s r<=ah ->
  aX X0 Qp (bP m) (.fn 126 [] pM) [.agg t.ps,.int .i64 (a:Int)] (HM1 J f u x) (.int .i64 (jC J op r t x).1) (aap J f u (jC J op r t x).2)
abbrev afw(J:Jb)(f:Nat)(u:Int)(x:Mk)(v:V):List (PB aF):=[.map (Hw x.k),.cells [lI J.s,lI J.o,.own 9,.own 7,.int .i64 0],.aC (J.ps (.fn f [] [.ptr 5 0 1])),.aC [.fn 126 [] pM],.aC [.map 0],.aC [.int .u8 u],.gone,PU x.n,.list true true 39 [v],PS (x.e++[v])]
abbrev akh(J:Jb)(f:Nat)(u:Int)(x:Mk)(t:S3)(b:Br):List (PB aF):=[.map (Hw x.k++[(.agg t.ps,.int .i64 (x.n.length:Int))]),.cells [lI J.s,lI J.o,.own 8,.own 12,.int .i64 0],.aC (J.ps (.fn f [] [.ptr 5 0 1])),.aC [.fn 126 [] pM],.aC [.map 0],.aC [.int .u8 u],.gone,.gone,PS x.e,.gone,.gone,.list true true 105 [b],PU (x.n++[b])]
theorem ad8{N f:Nat}(u:Int){J:Jb}(hJ:jU J){op:List V->V}(kG:wV J op)(hs:∀l:List V,l.length=J.D.length->aX X0 Qp (bP (N+1)) (.fn f [] [.ptr 0 0 1]) [lV l] [.aC [.int .u8 u]] (.agg (op l).ps) [.aC [.int .u8 u]])(r:List Int)(rec:∀c r',c::r' <:+ r->afv J op f u (N+1) r'):afv J op f u (N+2) r:=by
 intro a t x hr ha hd hx BU xP;unfold ah at BU xP;have QF:=(jU.o2 hJ).2.1;have hl6:=hJ.dw.len;have lsk:=ap8 (M:=N) (f:=f) u hJ (x:=x) r hr ha hd;obtain⟨q1,q2,q3,q4⟩:=UO hJ (op:=op) (x:=x) r a t hr ha hd;have hw:=UQ hJ r (Qj J.D t r) (fun c hc=>(jU.o2 hJ).2.2 c (a4P (by rw[hr];exact hc)));rw[q1];generalize Qj J.D t r=n at lsk q1 q2 q3 q4 hw;have FY:J.o.drop (a+n)=r.drop n:=by rw[<-hr,afF]
 have a7z:r.drop n <:+ r:=List.drop_suffix _ _;have Gi:=congrArg List.length FY;rw[a3H]at Gi;clear q1 hr;generalize a+n=i at lsk q2 q3 FY Gi;generalize r.drop n=r0 at q4 hw FY a7z Gi;cases r0 with
 |nil=>
  have e0:i=J.o.length:=by rw[a4x]at Gi;omega
  have t0:((i:Int)==(J.o.length:Int))=true:=by rw[e0];simp
  rw[e0]at q3;have qg:(aU J.D t).length=J.D.length:=by simp[aU]
  have hce:=aan (M:=N) (f:=f) (u:=u) J t hJ.d3 (fun k hk=>(Jh hJ q3 hk).2);have hv:=hs (aU J.D t) qg;simp only[wO]at hw;have hb:x.e.length+[op (aU J.D t)].length<=ah:=by simp only[a3P];unfold ah;omega
  have h1:aX X0 Qp (bP (N+2)) (.fn 126 [] pM) [.agg t.ps,.int .i64 (a:Int)] (HM1 J f u x) (.int .i64 (i64.wrap (0-((x.e++[op (aU J.D t)]).length:Int)))) (afw J f u x (op (aU J.D t))):=
   fP fZ (first:=[]) (cap:=pM) (.w lsk (.b t0 (.fr [5] hce (.fr [5] hv (.o hb .er)))))
  exact aX.gs hX h1 [.mv 7,.gc [9,10]] (by kernel_rfl)
 |cons c r'=>
  have t0:((i:Int)==(J.o.length:Int))=false:=by rw[a3S]at Gi;simp;omega
  obtain⟨aQ,hoc,wE,Fv,hci,qG⟩:=jU.at_ hJ FY;have AL:=q4 c r' rfl;have rc:=rec c r' a7z;have ia:gQ (i:Int) J.o.length:=⟨by omega,by omega⟩;have Jq:J.o.getD (i:Int).toNat 0=c:=by rw[a4v];exact hoc
  have ig:gQ (J.o.getD (i:Int).toNat 0) J.g.length:=by rw[Jq,hJ.gl];exact qG
  have hz:=hJ.dw.sz _ (dG (s:=J.s) (k:=c.toNat) (by have:=qG.1;have:=qG.2;omega));have hri:∀c'∈r',gQ c' J.s.length:=fun c' h=>(jU.o2 hJ).2.2 c' (by rw[<-wE]at h;exact a4P h);have hw0:=UD hJ.dw.sz hri;have hw1:wO J.s r'<=(J.s.getD c.toNat 0).toNat*wO J.s r':=adp _ (by omega);have ew:i64.wrap ((i:Int)+1)=((i+1:Nat):Int):=by rw[eP (by omega) (by omega)];omega
  simp only[wO]at hw;unfold jC;rw[a0i AL];cases tg:decide (J.g.getD c.toNat 0>=0)
  .rw[a0g (by simp)];have tg':decide (J.g.getD (J.o.getD (i:Int).toNat 0).toNat 0>=0)=false:=by rw[Jq];exact tg
   by_cases hk:t∈x.k.map (·.1)
   .rw[a0i hk];have hF:qj X0 Qp 148 (Hw x.k) (.agg [.int .i64 t.a,.int .i64 t.b,.int .i64 t.c]) (.int .i64 (knS x.k t)):=XO hx.nd hk;have h1:aX X0 Qp (bP (N+2)) (.fn 126 [] pM) [.agg t.ps,.int .i64 (a:Int)] (HM1 J f u x) (.int .i64 (knS x.k t)) (HM1 J f u x):=
     fP fZ (first:=[]) (cap:=pM) (.w lsk (.b t0 (.o ia (.o ig (.b tg' (.c (.int .i64 (knS x.k t)) [] hF (.b (rfl:true=true) .er)))))))
    exact aX.gs hX h1 [.mv 6,.mv 7] (by kernel_rfl)
   rw[a0g hk];have hm2:=UG hJ FY q3 AL;have hF:nD X0 Qp 148 (Hw x.k) (.agg [.int .i64 t.a,.int .i64 t.b,.int .i64 t.c]):=kS.fresh (x:=t) (by simpa using hk);have is:gQ (J.o.getD (i:Int).toNat 0) J.s.length:=by rw[Jq];exact qG
   have Yd:∀j,j<(J.s.getD c.toNat 0).toNat->j*wO J.s r'+wO J.s r'<=(J.s.getD c.toNat 0).toNat*wO J.s r':=fun j hj=>by
    have:(j+1)*wO J.s r'<=(J.s.getD c.toNat 0).toNat*wO J.s r':=a3r _ hj;rw[a2Z]at this;omega
   let Q:Nat->Mk->Prop:=fun j y=>XOk J op y∧y.e.length<=x.e.length+j*wO J.s r'∧y.n.length+j<=x.n.length+j*wO J.s r'∧∀e∈y.k,e∈x.k∨Dp J (i+1) e.1
   have hq:∀j y,j<(J.s.getD c.toNat 0).toNat->Q j y->Q (j+1) (jC J op r' (bJ J.D t c j) y).2:=fun j y hj hy=>by
    obtain⟨y1,y2,y3,y4⟩:=hy;have Yd:=Yd j hj;have h:=SA hJ op kG r' (i+1) (bJ J.D t c j) y wE aQ (mJ hJ FY q3 ⟨by omega,by omega⟩) y1 (by omega) (by omega);have h3:=h.el;have h4:=h.nl;refine⟨h.ok,by rw[a2Z];omega,by rw[a2Z];omega,fun e he=>?_⟩;rcases h.ks e he with h5|h5
    .exact y4 e h5
    exact .inr h5
   have lp:=ape (M:=N) (f:=f) (u:=u) hJ (op:=op) (r:=r') (t:=t) (c:=c) (a:=(i:Int)) x qG Q ⟨hx,by simp,by simp,fun e he=>.inl he⟩ hq (fun j hj k hk=>Jg hJ q3 ⟨by omega,by omega⟩ hk) (fun j y hj hy=>by
    obtain⟨y1,y2,y3,y4⟩:=hy;have Yd:=Yd j hj;rw[ew];exact rc (i+1) (bJ J.D t c j) y wE aQ (mJ hJ FY q3 ⟨by omega,by omega⟩) y1 (by unfold ah;omega) (by unfold ah;omega))
   have inv:=dD (g:=UE J.D (jC J op r') t c) (m:=(J.s.getD c.toNat 0).toNat) (k:=0) (s:=([],x)) (fun j y=>Q j y.2) ⟨hx,by simp,by simp,fun e he=>.inl he⟩ (fun j y _ hj hy=>hq j y.2 (by omega) hy);rw[a3O]at inv;simp only[];generalize aT (UE J.D (jC J op r') t c) (J.s.getD c.toNat 0).toNat 0 ([],x)=y at lp inv;obtain⟨ks,m⟩:=y;obtain⟨y1,y2,y3,y4⟩:=inv;have hnk:t∉m.k.map (·.1):=fun h=>by
    obtain⟨e,he,e2⟩:=a1d.1 h;rcases y4 e he with h1|h1
    .exact hk (a1d.2 ⟨e,h1,e2⟩)
    rw[e2]at h1;exact ZF hJ FY AL h1
   have hF2:nD X0 Qp 148 (Hw m.k) (.agg [.int .i64 t.a,.int .i64 t.b,.int .i64 t.c]):=kS.fresh (x:=t) (by simpa using hnk);have ek:Hw m.k++[(.agg t.ps,.int .i64 (m.n.length:Int))]=Hw (m.k++[(t,(m.n.length:Int))]):=by
    unfold Hw oK.es;rw[a3T,a3T];rfl
   have hF3:qj X0 Qp 148 (Hw m.k++[(.agg t.ps,.int .i64 (m.n.length:Int))]) (.agg [.int .i64 t.a,.int .i64 t.b,.int .i64 t.c]) (.int .i64 (m.n.length:Int)):=by
    refine(congrArg (fun l:List (PV aF×PV aF)=>qj X0 Qp 148 l (.agg [.int .i64 t.a,.int .i64 t.b,.int .i64 t.c]) (.int .i64 (m.n.length:Int))) ek).mpr ?_;refine kS.found (x:=t) ?_ ?_
    .rw[a6r,show((fun e:S3×PV X0.Γ=>e.1)∘fun e:S3×Int=>(e.1,(PV.int .i64 e.2:PV X0.Γ)))=fun e=>e.1 from rfl,a3T];exact Dk y1.nd hnk
    simp
   have hb:m.n.length+[(⟨c,ks⟩:Br)].length<=ah:=by
    simp only[a3P];have y3:m.n.length+(J.s.getD c.toNat 0).toNat<=x.n.length+(J.s.getD c.toNat 0).toNat*wO J.s r':=y3;unfold ah;omega
   have h1:aX X0 Qp (bP (N+2)) (.fn 126 [] pM) [.agg t.ps,.int .i64 (a:Int)] (HM1 J f u x) (.int .i64 (m.n.length:Int)) (akh J f u m t ⟨c,ks⟩):=by
    subst Jq;exact fP fZ (first:=[]) (cap:=pM) (.w lsk (.b t0 (.o ia (.o ig (.b tg' (.q (.bool false) hF (.b (rfl:false=false) (.o is (.wG [.mv 6,.mv 7,.a2y 1 1 3] lp (.q (.bool false) (kS.ck t) (.o hF2 (.o hb (.c (.int .i64 (m.n.length:Int)) [] hF3 .er)))))))))))))
   have h2:=aX.gs hX h1 [.gc [8,12]] (v':=.int .i64 (m.n.length:Int)) (H2:=[.map (Hw m.k++[(.agg t.ps,.int .i64 (m.n.length:Int))]),.cells [lI J.s,lI J.o,.own 8,.own 9,.int .i64 0],.aC (J.ps (.fn f [] [.ptr 5 0 1])),.aC [.fn 126 [] pM],.aC [.map 0],.aC [.int .u8 u],.gone,.gone,PS m.e,PU (m.n++[⟨c,ks⟩])]) (by kernel_rfl);exact(congrArg (fun l:List (PV aF×PV aF)=>aX X0 Qp (bP (N+2)) (.fn 126 [] pM) [.agg t.ps,.int .i64 (a:Int)] (HM1 J f u x) (.int .i64 (m.n.length:Int)) [.map l,.cells [lI J.s,lI J.o,.own 8,.own 9,.int .i64 0],.aC (J.ps (.fn f [] [.ptr 5 0 1])),.aC [.fn 126 [] pM],.aC [.map 0],.aC [.int .u8 u],.gone,.gone,PS m.e,PU (m.n++[⟨c,ks⟩])]) ek).mp h2
  rw[a0i rfl];have tg':decide (J.g.getD (J.o.getD (i:Int).toNat 0).toNat 0>=0)=true:=by rw[Jq];exact tg
  have hg:0<=J.g.getD c.toNat 0:=by simpa using tg
  have haf:=Je (M:=N) (f:=f) (a:=[]) (cc:=[.ptr 0 0 1]) (H:=[.aC [.int .u8 u]]) J t c (J.g.getD c.toNat 0) hJ.d3 (fun k hk=>Jg hJ q3 ⟨hg,hJ.gv c qG hg⟩ hk);have h2:=rc (i+1) (bJ J.D t c (J.g.getD c.toNat 0)) x wE aQ (mJ hJ FY q3 ⟨hg,hJ.gv c qG hg⟩) hx (by unfold ah;omega) (by unfold ah;omega);rw[<-ew]at h2;subst Jq;exact fP fZ (first:=[]) (cap:=pM) (.w lsk (.b t0 (.o ia (.o ig (.b tg' (.fr [5] haf (.fr [0,1,2,3,4,5,6,7] h2 .er)))))))
theorem apf{N f:Nat}(u:Int){J:Jb}(hJ:jU J){op:List V->V}(kG:wV J op)(hs:∀m,N<=m->∀l:List V,l.length=J.D.length->aX X0 Qp (bP m) (.fn f [] [.ptr 0 0 1]) [lV l] [.aC [.int .u8 u]] (.agg (op l).ps) [.aC [.int .u8 u]]):∀(F:Nat) (r:List Int),r.length<=F->afv J op f u (N+F+2) r:=by
 intro F
 induction F with
 |zero=>
  intro r hF;refine ad8 u hJ kG (hs _ (by omega)) r fun c r' h=>?_;have:=h.length_le;rw[a3S]at this;omega
 |succ F ih=>
  intro r hF;refine ad8 (N:=N+F+1) u hJ kG (hs _ (by omega)) r fun c r' h=>ih r' ?_;have:=h.length_le;rw[a3S]at this;omega
end Go.Proofs.YtmobpoiejckagaaGreat
namespace Pv
open Go Tw
section
variable {X:kH} {P:Program}
theorem aX.aki(hX:bK X P){call:bf}{fv v:PV X.Γ}{xs:List (PV X.Γ)}{H H0 H1:List (PB X.Γ)}(gs:List G)(hs:aX X P call fv xs H0 v H1)(hg:kZ H.length gs (⟨[],[],H⟩:aS X.Γ)=some ⟨[],[],H0⟩):aX X P call fv xs H v H1:=by
 intro A m h tf rU hr hf hx;obtain⟨m2,q1,q2,q3⟩:=mP hX hg A (fun b=>b∈bC m) h.length m ⟨[],[],h,[]⟩ ⟨⟨hr,rfl,fun k c hk=>(by simp at hk),.nil⟩,fun b hb=>.inl hb,fun b hb=>(by cases hb),a0V _⟩;have up:Up m m2:=fun i mb hi=>q3 i mb (by rw[<-hr.len];exact(a02.1 hi).1) hi;obtain⟨w,h',ws,m1,k1,k2,k3,k4,k5,k6⟩:=hs A m2 h tf rU q1.st.heap (hf.step q2 up) (hx.step q2 up);refine⟨w,h',ws,m1,k1,k2,k3,q2.trans k4,fun i mb hi=>?_,fun b hb=>?_⟩
 .rcases up i mb hi with g|g
  .exact k5 i mb g
  rcases k5 i _ g with g|g<;>exact .inr g
 have hb:=k6 b hb;rcases q1.own b hb with g|g
 .exact g
 have:=q1.st.heap.inb hb;have:b<h.length:=this;omega
end
end Pv
namespace Go.Proofs.YtmobpoiejckagaaGreat
open Go Tw Pv cO
theorem MG{n:Nat}(hO:Ok n Hu)(l:List Int)(hl:l.length<=ah):aX X0 Qp (bP n) (.fn 125 [] []) [.dn 3 l false] [] (lI l) []:=
 have h0:=oh.aa6 hX (hO 125 [.dn 3 l false] (.own 0) (lsI l) [l.length<=ah] (by kernel_rfl) (List.forall_mem_singleton.2 hl)) rfl rfl rfl rfl
 aX.cut hX (aX.fzR hX h0 [0] (v':=lI l) rfl (by decide)) rfl rfl rfl rfl
abbrev apg(J:Jb)(f:Nat)(x:Mk):List (PB aF):=[.map (Hw x.k),.cells [lI J.s,lI J.o,.own 7,.own 8,.int .i64 0],.cells (J.ps (.fn f [] [])),.cells [.fn 126 [] pM],.cells [.map 0],.gone,.gone,PS x.e,PU x.n]
theorem aay{m f:Nat}(hO:Ok m Hu)(J:Jb)(st:S3)(z:Int×Mk)
  (c1:aX X0 Qp (bP m) (.fn 125 [] []) [.dn 3 J.s false] [] (lI J.s) [])
  (c2:aX X0 Qp (bP m) (.fn 125 [] []) [.dn 3 J.o false] [] (lI J.o) [])
  (c3:aX X0 Qp (bP m) (.fn 130 [] []) [.agg (J.ps (.fn f [] []))] [] (.agg st.ps) [])
  (c5:aX X0 Qp (bP m) (.fn 126 [] pM) [.agg st.ps,.int .i64 (0:Int)] [.map [],.cells [lI J.s,lI J.o,.nil .slc,.nil .slc,.int .i64 0],.aC (J.ps (.fn f [] [])),.aC [.fn 126 [] pM],.aC [.map 0]] (.int .i64 z.1) (aao J f z.2))
  (hr:Kq ⟨J.s,J.o,z.2.e,z.2.n,z.1⟩) (p1:J.s.length<=ah) (p2:J.o.length<=2^20) (p3:z.2.e.length<=ah) (p4:((bF ⟨J.s,J.o,z.2.e,z.2.n,z.1⟩).2 != 0)=false->ClP (bF ⟨J.s,J.o,z.2.e,z.2.n,z.1⟩).1) :
  aX X0 Qp (bP (m+1)) (.fn 80 [] []) [.agg (J.ps (.fn f [] []))] [] (dA.put (zC ⟨J.s,J.o,z.2.e,z.2.n,z.1⟩).1) []:=by
 obtain⟨v,e,n,k⟩:=z;have h0:aX X0 Qp (bP (m+1)) (.fn 80 [] []) [.agg (J.ps (.fn f [] []))] [] (dA.put (zC ⟨J.s,J.o,e,n,v⟩).1) ([]++[.cells (J.ps (.fn f [] [])),.cells [lI J.s,lI J.o,.own 7,.own 8,.int .i64 v],.map (Hw k),.cells [.map 2],.cells [.fn 126 [] [.ptr 0 0 5,.ptr 1 0 5,.ptr 4 0 1,.ptr 3 0 1]],.gone,.gone,.gone,.gone]):=
  fP hO (first:=[]) (cap:=[]) (.fr [] c1 (.fr [] c2 (.fr [] c3 (.Qb (H2:=apg J f ⟨e,n,k⟩) [2,1,0,4,3] [2,3,4] c5 (.o hr (.o p1 (.o p2 (.o p3 (.o p4 .er)))))))))
 exact aX.cut hX h0 rfl rfl rfl rfl
theorem afx{N f:Nat}{J:Jb}(hJ:jU J){op:List V->V}(kG:wV J op)(hs:∀m,N<=m->∀l:List V,l.length=J.D.length->aX X0 Qp (bP m) (.fn f [] []) [lV l] [] (.agg (op l).ps) [])(hO:∀m,N<=m->Ok m Hu){m:Nat}(hm:N+J.o.length+2<=m):aX X0 Qp (bP (m+1)) (.fn 80 [] []) [.agg (J.ps (.fn f [] []))] [] (dA.put (Jk J op)) []:=by
 have hl:=hJ.dw.len;have QF:=(jU.o2 hJ).2.1;have hw:=FD hJ.dw.sz hJ.ord;have hmn:=hJ.dw.many;have c1:=MG (n:=m) (hO m (by omega)) J.s (by unfold ah;omega);have c2:=MG (n:=m) (hO m (by omega)) J.o (by unfold ah;omega);obtain⟨m',rfl⟩:∃m',m=m'+1:=⟨m-1,by omega⟩;have c3:=ZE (M:=m') (f:=f) (a:=[]) (cc:=[]) (H:=[]) J hJ.d3;have c4:=apd (N:=m'+1-J.o.length-2) (f:=f) hJ kG (fun m2 h2=>hs m2 (by omega)) J.o.length J.o (a0V _) 0 (fG J.D) ⟨[],[],[]⟩ aaE (a4t _) (fun k hk=>by
  rw[zD hJ.d3 hk];exact⟨(hJ.dg k hk).t.root,a4t _⟩) ⟨⟨fun i hi=>(by simp at hi),fun i hi=>(by simp at hi),fun i hi=>(by simp at hi)⟩,fun e he=>(by cases he),a5F,fun v hv=>(by cases hv),fun b hb=>(by cases hb)⟩ (by show 0+wO J.s J.o<=ah;unfold ah;omega) (by show 0+wO J.s J.o<=ah;unfold ah;omega)
 rw[show m'+1-J.o.length-2+J.o.length+2=m'+1 by omega]at c4;have c5:=aX.aki hX (H:=[.map [],.cells [lI J.s,lI J.o,.nil .slc,.nil .slc,.int .i64 0],.aC (J.ps (.fn f [] [])),.aC [.fn 126 [] pM],.aC [.map 0]]) [.U6 1 2 39,.U6 1 3 105] c4 (by kernel_rfl);obtain⟨h1,h2,h3⟩:=Jl hJ kG;have hr:=a7s hJ kG;have h4:(bF (pJ J op)).2=0:=by rw[(XE hJ kG).1]
 have h5:=wS hr (by unfold ah;omega) (by show J.s.length<=ah;unfold ah;omega) (by show J.o.length<=ah;unfold ah;omega) h4;have p1:J.s.length<=ah:=by unfold ah;omega
 have p2:J.o.length<=2^20:=by omega
 have p3:(pJ J op).aI.length<=ah:=by unfold ah;omega
 have p4:((bF (pJ J op)).2 != 0)=false->ClP (bF (pJ J op)).1:=fun _=>by rw[h5.1];exact h5.2
 exact aay (hO (m'+1) (by omega)) J (fG J.D) (jC J op J.o (fG J.D) ⟨[],[],[]⟩) c1 c2 c3 c5 hr p1 p2 p3 p4
abbrev aph(J:Jb)(f:Nat)(u:Int)(x:Mk):List (PB aF):=[.map (Hw x.k),.cells [lI J.s,lI J.o,.own 8,.own 9,.int .i64 0],.cells (J.ps (.fn f [] [.ptr 5 0 1])),.cells [.fn 126 [] pM],.cells [.map 0],.aC [.int .u8 u],.gone,.gone,PS x.e,PU x.n]
theorem aaz{m f:Nat}(u:Int)(hO:Ok m Hu)(J:Jb)(st:S3)(z:Int×Mk)
  (c1:aX X0 Qp (bP m) (.fn 125 [] []) [.dn 3 J.s false] [] (lI J.s) [])
  (c2:aX X0 Qp (bP m) (.fn 125 [] []) [.dn 3 J.o false] [] (lI J.o) [])
  (c3:aX X0 Qp (bP m) (.fn 130 [] []) [.agg (J.ps (.fn f [] [.ptr 0 0 1]))] [.aC [.int .u8 u]] (.agg st.ps) [.aC [.int .u8 u]])
  (c5:aX X0 Qp (bP m) (.fn 126 [] pM) [.agg st.ps,.int .i64 (0:Int)] [.map [],.cells [lI J.s,lI J.o,.nil .slc,.nil .slc,.int .i64 0],.aC (J.ps (.fn f [] [.ptr 5 0 1])),.aC [.fn 126 [] pM],.aC [.map 0],.aC [.int .u8 u]] (.int .i64 z.1) (aap J f u z.2))
  (hr:Kq ⟨J.s,J.o,z.2.e,z.2.n,z.1⟩) (p1:J.s.length<=ah) (p2:J.o.length<=2^20) (p3:z.2.e.length<=ah) (p4:((bF ⟨J.s,J.o,z.2.e,z.2.n,z.1⟩).2 != 0)=false->ClP (bF ⟨J.s,J.o,z.2.e,z.2.n,z.1⟩).1) :
  aX X0 Qp (bP (m+1)) (.fn 80 [] []) [.agg (J.ps (.fn f [] [.ptr 0 0 1]))] [.aC [.int .u8 u]] (dA.put (zC ⟨J.s,J.o,z.2.e,z.2.n,z.1⟩).1) [.aC [.int .u8 u]]:=by
 obtain⟨v,e,n,k⟩:=z;have h0:aX X0 Qp (bP (m+1)) (.fn 80 [] []) [.agg (J.ps (.fn f [] [.ptr 0 0 1]))] [.aC [.int .u8 u]] (dA.put (zC ⟨J.s,J.o,e,n,v⟩).1) ([.aC [.int .u8 u]]++[.cells (J.ps (.fn f [] [.ptr 0 0 1])),.cells [lI J.s,lI J.o,.own 8,.own 9,.int .i64 v],.map (Hw k),.cells [.map 3],.cells [.fn 126 [] [.ptr 1 0 5,.ptr 2 0 5,.ptr 5 0 1,.ptr 4 0 1]],.gone,.gone,.gone,.gone]):=
  fP hO (first:=[]) (cap:=[]) (.fr [] c1 (.fr [] c2 (.fr [0] c3 (.Qb (H2:=aph J f u ⟨e,n,k⟩) [3,2,1,5,4,0] [2,3,4] c5 (.o hr (.o p1 (.o p2 (.o p3 (.o p4 .er)))))))))
 exact aX.cut hX h0 rfl rfl rfl rfl
theorem afy{N f:Nat}(u:Int){J:Jb}(hJ:jU J){op:List V->V}(kG:wV J op)(hs:∀m,N<=m->∀l:List V,l.length=J.D.length->aX X0 Qp (bP m) (.fn f [] [.ptr 0 0 1]) [lV l] [.aC [.int .u8 u]] (.agg (op l).ps) [.aC [.int .u8 u]])(hO:∀m,N<=m->Ok m Hu){m:Nat}(hm:N+J.o.length+2<=m):aX X0 Qp (bP (m+1)) (.fn 80 [] []) [.agg (J.ps (.fn f [] [.ptr 0 0 1]))] [.aC [.int .u8 u]] (dA.put (Jk J op)) [.aC [.int .u8 u]]:=by
 have hl:=hJ.dw.len;have QF:=(jU.o2 hJ).2.1;have hw:=FD hJ.dw.sz hJ.ord;have hmn:=hJ.dw.many;have c1:=MG (n:=m) (hO m (by omega)) J.s (by unfold ah;omega);have c2:=MG (n:=m) (hO m (by omega)) J.o (by unfold ah;omega);obtain⟨m',rfl⟩:∃m',m=m'+1:=⟨m-1,by omega⟩;have c3:=ZE (M:=m') (f:=f) (a:=[]) (cc:=[.ptr 0 0 1]) (H:=[.aC [.int .u8 u]]) J hJ.d3;have c4:=apf (N:=m'+1-J.o.length-2) (f:=f) u hJ kG (fun m2 h2=>hs m2 (by omega)) J.o.length J.o (a0V _) 0 (fG J.D) ⟨[],[],[]⟩ aaE (a4t _) (fun k hk=>by
  rw[zD hJ.d3 hk];exact⟨(hJ.dg k hk).t.root,a4t _⟩) ⟨⟨fun i hi=>(by simp at hi),fun i hi=>(by simp at hi),fun i hi=>(by simp at hi)⟩,fun e he=>(by cases he),a5F,fun v hv=>(by cases hv),fun b hb=>(by cases hb)⟩ (by show 0+wO J.s J.o<=ah;unfold ah;omega) (by show 0+wO J.s J.o<=ah;unfold ah;omega)
 rw[show m'+1-J.o.length-2+J.o.length+2=m'+1 by omega]at c4;have c5:=aX.aki hX (H:=[.map [],.cells [lI J.s,lI J.o,.nil .slc,.nil .slc,.int .i64 0],.aC (J.ps (.fn f [] [.ptr 5 0 1])),.aC [.fn 126 [] pM],.aC [.map 0],.aC [.int .u8 u]]) [.U6 1 2 39,.U6 1 3 105] c4 (by kernel_rfl);obtain⟨h1,h2,h3⟩:=Jl hJ kG;have hr:=a7s hJ kG;have h4:(bF (pJ J op)).2=0:=by rw[(XE hJ kG).1]
 have h5:=wS hr (by unfold ah;omega) (by show J.s.length<=ah;unfold ah;omega) (by show J.o.length<=ah;unfold ah;omega) h4;have p1:J.s.length<=ah:=by unfold ah;omega
 have p2:J.o.length<=2^20:=by omega
 have p3:(pJ J op).aI.length<=ah:=by unfold ah;omega
 have p4:((bF (pJ J op)).2 != 0)=false->ClP (bF (pJ J op)).1:=fun _=>by rw[h5.1];exact h5.2
 exact aaz u (hO (m'+1) (by omega)) J (fG J.D) (jC J op J.o (fG J.D) ⟨[],[],[]⟩) c1 c2 c3 c5 hr p1 p2 p3 p4
end Go.Proofs.YtmobpoiejckagaaGreat
namespace Pv
open Go Tw
section
variable {P:Program} {T:qC} {call:bf} {cd:uX} {L f:Nat} {fl nt:Nat}
def nO:Code->Bool
 |.rangeFunc ..=>false
 |.region _ ops _=>(A8 ops).isNone
 |.seq a b=>nO a&&nO b
 |.cond _ a b=>nO a&&nO b
 |.block _ b=>nO b
 |.scope b=>nO b
 |.loop b=>nO b
 |_=>true
theorem a7B:∀(c:Code) {s s':St} {e:Ex} {Q:Ex->St->Prop},nO c=true->exec P T call L f false fl nt c s=some (e,s')->Q e s'->fE P T call cd L f fl nt c s Q:=by
 intro c
 induction c with
 |region id ops draw=>
  intro s s' e Q hn h hq;simp only[nO,Option.isNone_iff_eq_none]at hn;simp only[fE,hn];exact⟨_,_,h,hq⟩
 |seq x y VI ihy=>
  intro s s' e Q hn h hq;simp only[nO,a2a]at hn;simp only[fE];simp only[exec]at h;split at h
  .rename_i s1 hx;exact VI hn.1 hx (ihy hn.2 h hq)
  rename_i iC;refine VI hn.1 h ?_;cases e with
  |norm=>exact(iC s' h).elim
  |exit i=>exact hq
  |ret=>exact hq
 |cond c x y VI ihy=>
  intro s s' e Q hn h hq;simp only[nO,a2a]at hn;simp only[fE];simp only[exec]at h;split at h
  .rename_i hc;simp only[hc];exact VI hn.1 h hq
  .rename_i hc;simp only[hc];exact ihy hn.2 h hq
  cases h
 |block id b ih=>
  intro s s' e Q hn h hq;simp only[nO]at hn;simp only[fE];simp only[exec]at h;split at h
  .rename_i i s1 hb;cases h;exact ih hn hb hq
  rename_i iC;refine ih hn h ?_;cases e with
  |exit i=>exact(iC i s' h).elim
  |norm=>exact hq
  |ret=>exact hq
 |scope b ih=>
  intro s s' e Q hn h hq;simp only[nO]at hn;simp only[fE];simp only[exec]at h;exact ih hn h hq
 |loop b ih=>
  intro s s' e Q hn h hq;simp only[nO]at hn;simp only[fE];simp only[exec]at h;have:∀(k:Nat) {s:St},iter (fun s=>exec P T call L f false fl nt b (jS (T.eH f (dU b)) s)) k s=some (e,s')->Gp (fun s Q=>fE P T call cd L f fl nt b (jS (T.eH f (dU b)) s) Q) k s Q:=by
   intro k
   induction k with
   |zero=>intro s h;simp[iter]at h
   |succ k ihk=>
    intro s h;simp only[iter]at h;split at h
    .rename_i s1 h1;exact ih hn h1 (ihk h)
    rename_i iC;refine ih hn h ?_;cases e with
    |norm=>exact(iC s' h).elim
    |exit i=>exact hq
    |ret=>exact hq
  exact this L h
 |rangeFunc=>intro s s' e Q hn;cases hn
 |_=>
  intro s s' e Q hn h hq;simp only[fE];exact⟨_,_,h,hq⟩
end
section
variable {X:kH} {P:Program} {T:qC} {call:bf} {cd:uX} {L f nt B:Nat}
def aK(X:kH)(P:Program)(T:qC)(call:bf)(cd:uX)(L f nt B:Nat)(c:Code)(ps:aS X.Γ)(Q:Ex->aS X.Γ->Prop):Prop:=
 ∀(A W:Nat->Prop) (fl:Nat) (m:List MB) (ts:St) (R:Ex->St->Prop),SR X P A W fl m ps ts->(∀e iH ps1 m1,Q e ps1->SR X P A W fl m1 ps1 iH->Fr m ts.heap m1 iH.heap->LV B m m1->R e iH)->fE P T call cd L f fl nt c ts R
theorem aK.mono{c:Code}{ps:aS X.Γ}{Q Q':Ex->aS X.Γ->Prop}(hq:∀e s,Q e s->Q' e s)(h:aK X P T call cd L f nt B c ps Q):aK X P T call cd L f nt B c ps Q':=fun A W fl m ts R hS hR=>
 h A W fl m ts R hS fun e iH ps1 m1 a1=>hR e iH ps1 m1 (hq _ _ a1)
theorem dN.dem{c:Code}{ps ps1:aS X.Γ}{e:Ex}{Q:Ex->aS X.Γ->Prop}(hn:nO c=true)(h:dN X P T call L f false nt B c ps e ps1)(hq:Q e ps1):aK X P T call cd L f nt B c ps Q:=fun A W fl m ts R hS hR=>by
 obtain⟨iH,m1,h1,h2,h3,h4⟩:=h A W fl m ts hS;exact a7B c hn h1 (hR _ _ ps1 m1 hq h2 h3 h4)
theorem aK.seq{a b:Code}{ps:aS X.Γ}{Q R:Ex->aS X.Γ->Prop}(ha:aK X P T call cd L f nt B a ps R)(hb:∀s,R .norm s->aK X P T call cd L f nt B b s Q)(he:∀i s,R (.exit i) s->Q (.exit i) s)(hr:∀s,R .ret s->Q .ret s):aK X P T call cd L f nt B (.seq a b) ps Q:=fun A W fl m ts R' hS hR=>by
 simp only[fE];refine ha A W fl m ts _ hS fun e iH ps1 m1 a1 a2 a3 a4=>?_;cases e with
 |norm=>exact hb ps1 a1 A W fl m1 iH R' a2 fun e ts2 BQ m2 b1 b2 b3 b4=>hR e ts2 BQ m2 b1 b2 (a3.trans b3) (a4.trans b4)
 |exit i=>exact hR _ _ ps1 m1 (he _ _ a1) a2 a3 a4
 |ret=>exact hR _ _ ps1 m1 (hr _ a1) a2 a3 a4
theorem aK.block{id:Nat}{b:Code}{ps:aS X.Γ}{Q:Ex->aS X.Γ->Prop}(h:aK X P T call cd L f nt B b ps fun e s=>Q (match e with|.exit i=>if i=id then .norm else .exit i|e=>e) s):aK X P T call cd L f nt B (.block id b) ps Q:=fun A W fl m ts R hS hR=>by
 simp only[fE];exact h A W fl m ts _ hS fun e iH ps1 m1 a1 a2 a3 a4=>hR _ iH ps1 m1 a1 a2 a3 a4
theorem aK.loop{b:Code}{Q:Ex->aS X.Γ->Prop}(I:Nat->aS X.Γ->Prop)
  (h:∀k s,I k s->aK X P T call cd L f nt B b (gG X (T.eH f (dU b)) s) fun e s=>match e with|.norm=>∃j,j<k∧I j s|e=>Q e s) {k:Nat} {ps:aS X.Γ} (hi:I k ps) (hk:k<L):aK X P T call cd L f nt B (.loop b) ps Q:=fun A W fl m ts R hS hR=>by
 simp only[fE];have key:∀(n k:Nat) (ps:aS X.Γ) (m1:List MB) (iH:St),k<n->I k ps->SR X P A W fl m1 ps iH->Fr m ts.heap m1 iH.heap->LV B m m1->Gp (fun s Q=>fE P T call cd L f fl nt b (jS (T.eH f (dU b)) s) Q) n iH R:=by
  intro n
  induction n with
  |zero=>intro k ps m ts hk;omega
  |succ n ih=>
   intro k ps m1 iH hk hi hS hF hU;simp only[Gp];refine h k ps hi A W fl m1 _ _ (hS.head _) fun e ts2 BQ m2 a1 a2 a3 a4=>?_;have a3:Fr m1 iH.heap m2 ts2.heap:=a3;cases e with
   |norm=>
    obtain⟨j,hj,zX⟩:=a1;exact ih j BQ m2 ts2 (by omega) zX a2 (hF.trans a3) (hU.trans a4)
   |exit i=>exact hR _ _ BQ m2 a1 a2 (hF.trans a3) (hU.trans a4)
   |ret=>exact hR _ _ BQ m2 a1 a2 (hF.trans a3) (hU.trans a4)
 exact key L k ps m ts hk hi hS .refl Up.refl.b
theorem aK.cond{c:Operand}{a b:Code}{ps:aS X.Γ}{t:Bool}{Q:Ex->aS X.Γ->Prop}(hc:zN ps.env c=some (.bool t))(h:aK X P T call cd L f nt B (if t then a else b) ps Q):aK X P T call cd L f nt B (.cond c a b) ps Q:=fun A W fl m ts R hS=>by
 obtain⟨x,g1,g2⟩:=jf hS.st.env hc;have hx:x=.bool t:=by
  cases g2 with
  |bool=>rfl
  |gone hi _ _=>simp[bn]at hi
 subst hx;simp only[fE,g1];cases t with
 |true=>exact h A W fl m ts R hS
 |false=>exact h A W fl m ts R hS
theorem aK.next{id it nx mo b r n:Nat}{seen:List Nat}{ops:Array Oper}{draw:Bool}{o1 o2:Oper}{ps:aS X.Γ}{es:List (PV X.Γ×PV X.Γ)}{Q:Ex->aS X.Γ->Prop}(hn:A8 ops=some (it,nx,o1,o2))(hd:nx<nt)(hd2:mo<nt)
  (h2:o2.op=.extract (.tmp nx) 0) (h3:o2.dst=some mo) (h4:o2.guard=none)
  (Q8:zN ps.env (.tmp it)=some (.iter b)) (hb:ps.heap[b]? = some (.cZ r n seen)) (hr:JL X ps.heap r=some es) (hl:es.length=n)
  (vV:(∀j,j<n->j∈seen)->Q .norm { ps with env:=iY (T.iy f id) ((mo,.val (.bool false))::(nx,.val (.dI [.bool false]))::ps.env) })
  (pick:∀j e,j∉seen->es[j]? = some e->Q .norm { ps with env:=iY (T.iy f id) ((mo,.val (.bool true))::(nx,.val (.dI [.bool true,e.1,e.2]))::ps.env),heap:=ps.heap.set b (.cZ r n (j::seen)) }) :
  aK X P T call cd L f nt B (.region id ops draw) ps Q:=fun A W fl m ts R hS hR0=>by
 obtain⟨x,g1,g2⟩:=jf hS.st.env Q8;obtain⟨mb,q1,q2⟩:=hS.st.heap.at_ b _ hb;obtain⟨cr,fU,q3,z1,z2,z3⟩:=CQ hS.st.heap hr;cases mb with
 |fV cb=>
   obtain⟨c,p1,p2,p3⟩:=q2;have:=p3 cr (by rcases q3 with q|⟨q,_⟩;exact .inl q;exact .inr q);subst this;cases g2 with
   |gone hi e _=>simp only[bn,a01]at hi;subst hi;rw[q1]at e;cases e
   |iter e1=>
    rw[q1]at e1;cases e1;have apj:dM it ts.env=some (.val (.iter cb)):=by
     unfold qH at g1;split at g1
     .rename_i v hv;cases g1;exact hv
     .cases g1
    have run:∀(s:St) (t:Bool) (vs:List TV),kU P call (fun d=>T.Tq f d) fl nt ops [o2] (s.put (some nx) (.val (.dI (.bool t::vs))))=some ({ s with env:=(mo,.val (.bool t))::(nx,.val (.dI (.bool t::vs)))::s.env },[bY]):=by
     intro s t vs;have e1:MS nt o2=true:=(by simp[MS,h3,hd2]);have e2:∀env,BO ops env o2=some true:=fun env=>(by simp[BO,h4]);simp only[kU,e1,e2,a8C,a2l,a3a,oP,h2];simp[St.put,Ib,dM,h3,jO,bY,yJ]
    simp only[fE,hn];refine⟨hd,cb,cr,n,seen,fU,apj,p1,z1,by rw[<-z2];exact hl,fun EX=>?_,fun j e hj he=>?_⟩
    .refine⟨_,_,run ts false [],hR0 _ _ { ps with env:=_ } m (vV EX) ?_ .refl Up.refl.b⟩;have hS2:uQ X P A m { ps with env:=(mo,.val (.bool false))::(nx,.val (.dI [.bool false]))::ps.env } { ts with env:=(mo,.val (.bool false))::(nx,.val (.dI [.bool false]))::ts.env }:=
      ⟨hS.st.heap,hS.st.llen,hS.st.loc,.cons (.bool false) (.cons (bV.cons (.bool false) .nil |> fun h=>.dI h.1 h.2) hS.st.env)⟩
     exact SR.pick ⟨hS2,hS.own,hS.ws,hS.fl⟩ _
    .have aQ:j<es.length:=by rw[z2];exact(a02.1 he).1
     have hej:=a0b aQ;have hv:=z3 j _ _ hej he;have hcb:=(a02.1 p1).1;obtain⟨u1,u2⟩:=hS.st.heap.set (pb:=.cZ r n (j::seen)) (hb:=.cZ cr n (j::seen)) q1 (c:=cb) rfl (fun cs hc=>by simp[aV,p1]at hc) fun hF=>⟨cr,by simp[hcb],p2,p3⟩;refine⟨_,_,run _ true [e.1,e.2],hR0 _ _ { ps with env:=_,heap:=_ } m (pick j _ hj hej) ?_ u2 Up.refl.b⟩;have hS1:=hS.st.step u1 u2 .refl;have hS2:uQ X P A m { ps with env:=(mo,.val (.bool true))::(nx,.val (.dI [.bool true,es[j].1,es[j].2]))::ps.env,heap:=ps.heap.set b (.cZ r n (j::seen)) } { ts with env:=(mo,.val (.bool true))::(nx,.val (.dI [.bool true,e.1,e.2]))::ts.env,heap:=ts.heap.set cb (.cZ cr n (j::seen)),ws:=jO fl [.h cb] ts.ws }:=
      ⟨hS1.heap,hS1.llen,hS1.loc,.cons (.bool true) (.cons (bV.cons (.bool true) (bV.cons (nH hv.1) (bV.cons (nH hv.2) .nil)) |> fun h=>.dI h.1 h.2) hS1.env)⟩
     refine SR.pick ⟨hS2,hS.own,fun b2 xP=>?_,by simpa using hS.fl⟩ _;rcases nX.1 xP with h5|⟨h5,h6⟩
     .exact hS.ws b2 h5
     .simp at h5;subst h5;exact(hS.own _ (bg q1 rfl)).resolve_right (by omega)
 |_=>exact q2.elim
def aaA(X:kH)(P:Program)(cd:uX)(fv:PV X.Γ)(xs:List (PV X.Γ))(H:List (PB X.Γ))(K:PV X.Γ->List (PB X.Γ)->Prop):Prop:=
 ∀(A:Nat->Prop) (m:List MB) (h:List HB) (tf:TV) (rU:List TV) (R:TV->List HB->List Nat->Prop),HR X P A m H h->VR X P (AA A m) m h fv tf->bV X P (AA A m) m h xs rU ->
  (∀w h1 ws m1 v H1,K v H1->HR X P A m1 H1 h1->VR X P (AA A m1) m1 h1 v w->Fr m h m1 h1->Up m m1->(∀b∈ws,b∈bC m)->R w h1 ws)->cd tf rU h R
theorem a1G{n:Nat}{t:FnT}{first xs cap:List (PV X.Γ)}{H:List (PB X.Γ)}{K:PV X.Γ->List (PB X.Γ)->Prop}(hX:bK X P)(ht:Tn P f=some t)
  (hE:aK X P T (kQ P T L n) Ce L f t.nt H.length t.body ⟨kR X 0 (first++xs++cap),[],H⟩ fun e s=>(e=.norm∨e=.ret)∧∃us,ED X P s t.results=some us∧K (Z8 X us) s.heap):aaA X P (uO P T (kQ P T L n) L) (.fn f first cap) xs H K:=by
 intro A m h tf rU R hr hf Nw hR;cases hf with
 |gone hi _ _=>simp[bn]at hi
 |fn p1 p2 p3 p4=>
  rename_i a' c';have Ey:=(bV.app ⟨p1,p2⟩ Nw).app ⟨p3,p4⟩;refine⟨t,ht,hE A (fun b=>b∈bC m) _ m _ _ ⟨⟨hr,rfl,fun k cs hk=>by simp at hk,LW Ey⟩,fun b h1=>.inl h1,fun b hb=>(by cases hb),a0V _⟩ fun e iH ps1 m1 ⟨he,us,hus,hk⟩ h3 h4 h5=>?_⟩;obtain⟨ws,g1,g2⟩:=Iz hX h3.st hus;refine⟨he,ws,g1,hR _ _ _ m1 _ _ hk h3.st.heap (Uj g2) h4 (fun i mb hi=>h5 i mb ?_ hi) h3.ws⟩;rw[<-hr.len];exact(a02.1 hi).1
theorem aK.range(hX:bK X P){g:Operand}{qs:Array Nat}{uJ body:Code}{ps:aS X.Γ}{f1:FuncId}{a1 b1:List (PV X.Γ)}{K:PV X.Γ->List (PB X.Γ)->Prop}{Q:Ex->aS X.Γ->Prop}
  (hg:zN ps.env g=some (.fn f1 a1 b1)) (hd:T.din.contains f1=true) (EX:(ps.env.all fun p=>Zm p.2)=true)
  (apk:aaA X P cd (.fn f1 a1 b1) [.kF (ps.heap.length+1)] (ps.heap++[.mark]++[.loop true f nt ps.env qs.toList uJ body none]) K)
  (hk:∀v H1,K v H1->∃rd f2 PX e2 BQ a2 b2 jD e,H1[ps.heap.length+1]? = some (.loop rd f2 PX e2 BQ a2 b2 jD)∧Qr rd jD=some e∧Q e { ps with heap:=H1.set (ps.heap.length+1) (.loop false f2 PX e2 BQ a2 b2 (some .skip)) }) :
  aK X P T call cd L f nt B (.rangeFunc g qs uJ body) ps Q:=by
 intro A W fl m ts R hS hR;obtain⟨tg,g1,g2⟩:=jf hS.st.env hg;have hm:=hS.st.heap.len;obtain⟨p1,p2,p3⟩:=hS.st.heap.push (pb:=.mark) (hb:=.mark) (mb:=.fV ts.heap.length) (.inl rfl) (by simp[BR]);obtain⟨q1,q2,q3⟩:=p1.push (pb:=.loop true f nt ps.env qs.toList uJ body none) (hb:=.loop true f nt ts.env qs.toList uJ body none) (mb:=.fV (ts.heap.length+1)) (.inl (by simp[MB.own])) (by
  refine⟨ts.env,by simp,?_⟩;refine jM.step (m:=m) (h:=ts.heap) (A:=A) ?_ ?_ hS.st.env
  .have r2:Fr (m++[MB.fV ts.heap.length]) (ts.heap++[HB.mark]) (m++[MB.fV ts.heap.length]++[MB.fV (ts.heap.length+1)]) (ts.heap++[HB.mark]++[HB.loop true f nt ts.env qs.toList uJ body none]):=by
    refine⟨by simp,fun b hb _=>by rw[a0c hb],fun b hb=>?_,fun b cs hc=>⟨cs,?_,a0V _⟩⟩
    .rw[iW,a2X,jY]at hb;rcases hb with hb|hb
     .exact .inl hb
     .simp[MB.own]at hb;subst hb;exact .inr (by simp)
    .rw[fM (a0c (gJ hc)),hc]
   exact p2.trans r2
  .exact p3.trans (wK _))
 have hF:=p2.trans q2;have hU:=p3.trans q3;have hyl:VR X P (AA A (m++[MB.fV ts.heap.length]++[MB.fV (ts.heap.length+1)])) (m++[MB.fV ts.heap.length]++[MB.fV (ts.heap.length+1)]) (ts.heap++[HB.mark]++[HB.loop true f nt ts.env qs.toList uJ body none]) (.kF (ps.heap.length+1)) (.kF (ts.heap.length+1)):=by
  refine .kF ?_;rw[<-hm,a19 (by simp)];simp
 have hg':∃a1' b1',tg=.fn f1 a1' b1':=by
  cases g2 with
  |gone hi _ _=>simp[bn]at hi
  |fn _ _ _ _=>exact⟨_,_,rfl⟩
 obtain⟨a1',b1',rfl⟩:=hg';have apn:a4X T ts.env g=true:=by unfold a4X;rw[g1];exact hd
 simp only[fE,apn,a2j];refine⟨f1,a1',b1',g1,a5Y hS.st.env EX,?_⟩;rw[show ts.heap++[HB.mark,HB.loop true f nt ts.env qs.toList uJ body none]=ts.heap++[HB.mark]++[HB.loop true f nt ts.env qs.toList uJ body none] by simp];refine apk A _ _ _ [.kF (ts.heap.length+1)] _ q1 (g2.step hF hU) (.cons hyl .nil) fun w h1 ws m1 v H1 Oi c2 c3 c4 c5 c6=>?_;obtain⟨rd,f2,PX,e2,BQ,a2,b2,jD,e,hl,hj,hq⟩:=hk v H1 Oi;have hm1:m1[ps.heap.length+1]? = some (.fV (ts.heap.length+1)):=by
  rcases c5 (ps.heap.length+1) (.fV (ts.heap.length+1)) (by rw[<-hm,a19 (by simp)];simp)with e|e
  .exact e
  .obtain⟨mb,k1,k2⟩:=c2.at_ _ _ hl;rw[e]at k1;cases k1;exact k2.elim
 obtain⟨mb,k1,k2⟩:=c2.at_ _ _ hl;rw[hm1]at k1;cases k1;obtain⟨e2',k3,k4⟩:=k2;obtain⟨s1,s2⟩:=c2.set (i:=ps.heap.length+1) (c:=ts.heap.length+1) (pb:=.loop false f2 PX e2 BQ a2 b2 (some .skip)) (hb:=.loop false f2 PX e2' BQ a2 b2 (some .skip)) hm1 rfl (fun cs hc=>by unfold aV at hc;rw[k3]at hc;cases hc) (fun hF=>⟨e2',by rw[a1V (a02.1 k3).1],k4.step hF .refl⟩);have hF2:=hF.trans (c4.trans s2);have hU2:=hU.trans c5;refine⟨_,_,_,_,_,_,_,_,e,k3,hj,hR _ _ _ m1 hq ⟨?_,fun b hb=>?_,fun b hb=>?_,?_⟩ hF2 hU2.b⟩
 .have q:=hS.st.step s1 hF2 hU2;exact⟨q.heap,q.llen,q.loc,q.env⟩
 .rcases hF2.new b hb with k|k
  .exact hS.own b k
  .exact .inr (a4E hS.fl k)
 .rcases vS hb with k|⟨k,k'⟩
  .exact hS.ws b k
  .obtain⟨b',qE,e⟩:=a1d.1 k;cases e;rcases hF.new b (c6 b qE)with k2|k2
   .rcases hS.own b k2 with k3|k3
    .exact k3
    .omega
   .have:=hS.fl;omega
 .exact a4E hS.fl hF2.len
end
section
variable {X:kH} {P:Program} {A B:Nat->Prop} {m m' m1:List MB} {h h':List HB} {g:Nat->Option Nat}
def Bq:List (PB X.Γ)->Bool
 | []=>true
 |.aC _::H=>Bq H
 |.iE _::H=>Bq H
 |.gone::H=>Bq H
 |_=>false
theorem XP:∀{H:List (PB X.Γ)},Bq H=true->∀(i:Nat) b,H[i]? = some b->Bq [b]=true
 | [],_,i,b,h=>by simp at h
 |a::H,hn,i,b,h=>by
  cases i with
  |zero=>simp at h;subst h;cases a<;>simp_all [Bq]
  |succ i=>
   have Dv:Bq H=true:=by cases a<;>simp_all [Bq]
   exact XP Dv i b (by simpa using h)
theorem ZI{H:List (PB X.Γ)}(hn:Bq H=true)(hr:HR X P A m H h):bC m=[]:=by
 refine a6V.2 fun b hb=>?_;obtain⟨i,mb,h1,h2⟩:=jZ hb;have hl:i<H.length:=by rw[<-hr.len];exact(a02.1 h1).1
 obtain⟨LH,g1,g2⟩:=hr.at_ i _ (a0b hl);rw[h1]at g1;cases g1;have h3:=XP hn i _ (a0b hl);generalize H[i]=b9 at g2 h3;cases b9<;>first|(cases h3;done)|skip
 all_goals (cases mb<;>first|exact g2.elim|cases h2)
theorem Ph{v:PV X.Γ}{t:TV}(h:qP v=some t):(∀l,Bz t l=l)∧(∀g,mZ g t=some t)∧∀fl,KJ fl t=t:=by
 cases v<;>simp only[qP,a01,reduceCtorEq]at h<;>subst h<;>exact⟨fun _=>rfl,fun _=>rfl,fun _=>rfl⟩
theorem yj:∀{vs:List (PV X.Γ)} {ts:List TV},iI vs=some ts->(∀l,Bz.Eu ts l=l)∧∀g,mZ.yV g ts=some ts
 | [],ts,h=>by simp only[iI,a01]at h;subst h;exact⟨fun _=>rfl,fun _=>rfl⟩
 |v::vs,ts,h=>by
  simp only[iI]at h;split at h
  .rename_i a b h1 h2;cases h;have e1:=Ph h1;have e2:=yj h2;exact⟨fun l=>by simp only[Bz.Eu,e2.1,e1.1],fun g=>by simp only[mZ.yV,e1.2.1,e2.2]⟩
  cases h
theorem MH{v:PV X.Γ}{t:TV}(h:pR v=some t):(∀l,Bz t l=l)∧(∀g,mZ g t=some t)∧∀fl,KJ fl t=t:=by
 unfold pR at h;split at h
 .simp only[a06]at h;obtain⟨ts,h1,rfl⟩:=h;have e:=yj h1;exact⟨fun l=>by simp only[Bz,e.1],fun g=>by simp only[mZ,e.2,a0U],fun _=>rfl⟩
 exact Ph h
def a3s(X:kH)(P:Program)(mM:Bool)(u:PV X.Γ)(Hs:List (PB X.Γ))(tv:Nat->TV)(tN:List HB):Prop:=
 ∀(A:Nat->Prop) (m:List MB) (h h1:List HB) (w:TV),HR X P A m Hs h1->VR X P (AA A m) m h1 u w->(∀b,b∈bC m->h.length<=b)->NQ mM h w h1=some (tv h.length,h++tN)
theorem Dn(hX:bK X P){T:qC}{L n f:Nat}{t:FnT}{first xs cap:List (PV X.Γ)}{H N:List (PB X.Γ)}{v:PV X.Γ}{tv:Nat->TV}{tN:List HB}(hd:T.dem.contains f=true)(hx:T.exts.contains f=false)(ht:Tn P f=some t)(hN:Bq H=true)
  (NT:∀A m h,HR X P A m H h->∃m1,HR X P A m1 (H++N) (h++tN)∧VR X P (AA A m1) m1 (h++tN) v (tv h.length)∧Fr m h m1 (h++tN)∧Up m m1)
  (hE:aK X P T (kQ P T L n) (uO P T (kQ P T L n) L) L f t.nt H.length t.body ⟨kR X 0 (first++xs++cap),[],H⟩ fun e s=>(e=.norm∨e=.ret)∧∃us,ED X P s t.results=some us∧a3s X P (T.a8J.contains f) (Z8 X us) s.heap tv tN):aX X P (kQ P T L (n+1)) (.fn f first cap) xs H v (H++N):=by
 intro A m h tf rU hr hf Nw;cases hf with
 |gone hi _ _=>simp[bn]at hi
 |fn p1 p2 p3 p4=>
  rename_i a' c';have Ey:=(bV.app ⟨p1,p2⟩ Nw).app ⟨p3,p4⟩;have hb:=ZI hN hr;have hS:SR X P A (fun _=>False) h.length m ⟨kR X 0 (first++xs++cap),[],H⟩ ⟨ni 0 (a'++rU++c'),[],h,[]⟩:=
   ⟨⟨hr,rfl,fun k cs hk=>by simp at hk,LW Ey⟩,fun b h1=>(by rw[hb]at h1;cases h1),fun b hb=>(by cases hb),a0V _⟩
  have hO:VQ P T (kQ P T L n) L f t (a'++rU++c') h (tv h.length,h++tN):=by
   refine hE A _ _ m _ _ hS fun e iH ps1 m1 ⟨he,us,hus,hpv⟩ h3 h4 h5=>?_;obtain⟨ws,g1,g2⟩:=Iz hX h3.st hus;exact⟨he,ws,g1,a6V.2 fun b hb=>h3.ws b hb,hpv A m1 h iH.heap _ h3.st.heap (Uj g2) fun b hb=>(h3.own b hb).resolve_left id⟩
  obtain⟨m1,q1,q2,q3,q4⟩:=NT A m h hr;refine⟨tv h.length,h++tN,[],m1,?_,q1,q2,q3,q4,fun b hb=>by cases hb⟩;simp only[kQ,hx,hd,a2l,a3a,a2j];exact a97 ht hO
theorem ZJ{mM:Bool}{u:PV X.Γ}{Hs:List (PB X.Γ)}{tu:TV}(hu:pR u=some tu)(ht:∀cs,tu≠.dI cs):a3s X P mM u Hs (fun _=>tu) []:=fun A m h h1 w hr hw _=>by
 have:=jH hw hu;subst this;obtain⟨e1,e2,e3⟩:=MH hu;have e4:TW h.length w=w:=by
  cases w with
  |dI cs=>exact absurd rfl (ht cs)
  |_=>exact e3 h.length
 unfold NQ;simp only[e1,wF,e2,Ci,e4,abq,a5J]
theorem aaB(hX:bK X P){T:qC}{L n f:Nat}{t:FnT}{first xs cap:List (PV X.Γ)}{H:List (PB X.Γ)}{v:PV X.Γ}{tv:TV}(hd:T.dem.contains f=true)(hx:T.exts.contains f=false)(ht:Tn P f=some t)(hN:Bq H=true)(hv:pR v=some tv)
  (hE:aK X P T (kQ P T L n) (uO P T (kQ P T L n) L) L f t.nt H.length t.body ⟨kR X 0 (first++xs++cap),[],H⟩ fun e s=>(e=.norm∨e=.ret)∧∃us,ED X P s t.results=some us∧Z8 X us=v):aX X P (kQ P T L (n+1)) (.fn f first cap) xs H v H:=by
 have:=Dn (N:=[]) (v:=v) (tv:=fun _=>tv) (tN:=[]) hX hd hx ht hN (fun A m h hr=>⟨m,by simpa using hr,nH hv,by simpa using Fr.refl,.refl⟩) (hE.mono fun e s ⟨h1,us,h2,h3⟩=>⟨h1,us,h2,by rw[h3];exact ZJ hv fun cs hc=>by subst hc;cases v<;>simp[pR,qP]at hv⟩)
 rwa [a5J]at this
def wW:List (PV X.Γ×PV X.Γ)->Option (List (TV×TV))
 | []=>some []
 |(k,v)::r=>match pR k,pR v,wW r with
  |some k,some v,some r=>some ((k,v)::r)
  |_,_,_=>none
theorem XQ:∀{es:List (PV X.Γ×PV X.Γ)} {fU MI:List (TV×TV)},wW es=some MI->es.length=fU.length->(∀(i:Nat) x y,es[i]? = some x->fU[i]? = some y->pR x.1=some y.1∧pR x.2=some y.2)->fU=MI
 | [],fU,MI,h,hl,_=>by
  simp only[wW,a01]at h;subst h;exact a3Q hl.symm
 |(k,v)::r,fU,MI,h,hl,he=>by
  cases fU with
  |nil=>simp at hl
  |cons y fU=>
   simp only[wW]at h;split at h
   .rename_i a b c h1 h2 h3;cases h;have e0:=he 0 _ _ rfl rfl;have e1:y.1=a:=by have:=e0.1.symm.trans h1;exact a8H this
    have e2:y.2=b:=by have:=e0.2.symm.trans h2;exact a8H this
    have e3:=XQ h3 (by simpa using hl) fun i x z hx hz=>he (i+1) x z (by simpa using hx) (by simpa using hz);rw[e3,<-e1,<-e2]
   cases h
theorem Pj:∀{es:List (PV X.Γ×PV X.Γ)} {MI:List (TV×TV)},wW es=some MI->es.length=MI.length∧∀(i:Nat) x y,es[i]? = some x->MI[i]? = some y->pR x.1=some y.1∧pR x.2=some y.2
 | [],MI,h=>by simp only[wW,a01]at h;subst h;exact⟨rfl,by simp⟩
 |(k,v)::r,MI,h=>by
  simp only[wW]at h;split at h
  .rename_i a b c h1 h2 h3;cases h;obtain⟨i1,i2⟩:=Pj h3;refine⟨by simp[i1],fun i x y hx hy=>?_⟩;cases i with
   |zero=>simp at hx hy;subst hx;subst hy;exact⟨h1,h2⟩
   |succ i=>exact i2 i x y (by simpa using hx) (by simpa using hy)
  cases h
theorem SL:∀{es:List (PV X.Γ×PV X.Γ)} {MI:List (TV×TV)},wW es=some MI->(∀l,a8Z.a0x MI l=l)∧∀g,Tw.oM g MI=some MI
 | [],MI,h=>by simp only[wW,a01]at h;subst h;exact⟨fun _=>rfl,fun _=>rfl⟩
 |(k,v)::r,MI,h=>by
  simp only[wW]at h;split at h
  .rename_i a b c h1 h2 h3;cases h;have e1:=MH h1;have e2:=MH h2;have e3:=SL h3;exact⟨fun l=>by simp only[a8Z.a0x,e1.1,e2.1,e3.1],fun g=>by simp only[Tw.oM,e1.2.1,e2.2.1,e3.2]⟩
  cases h
theorem Pm{h h1:List HB}{c:Nat}(hc:h.length<=c)(hr:∀l,a8Z h1[c]? l=l):wF h1 h.length 5000 [c] []=[c]∧VK h.length [c] c=some h.length:=by
 have e1:Nat.blt c h.length=false:=by
  cases e:Nat.blt c h.length with
  |false=>rfl
  |true=>have:=agu e;omega
 constructor
 .simp only[wF,e1,a5e,Bool.or_false,hr]
 simp only[VK,e1,a5c,Nat.beq_refl,a0U,a3O]
theorem a7C{mM:Bool}{r:Nat}{Hs:List (PB X.Γ)}{es:List (PV X.Γ×PV X.Γ)}{MI:List (TV×TV)}(hm:Hs[r]? = some (.map es))(he:wW es=some MI):a3s X P mM (.map r) Hs (fun n=>.map n) [.map (QV MI)]:=fun A m h h1 w hr hw hn=>by
 obtain⟨mb,g1,g2⟩:=hr.at_ r _ hm;cases mb with
 |fV c=>
  obtain⟨fU,g3,g4,g5⟩:=g2;have:=XQ he g4 g5;subst this;have hw:w=.map c:=by
   cases hw with
   |map e=>rw[g1]at e;cases e;rfl
   |gone hi e _=>simp only[bn,a01]at hi;subst hi;rw[g1]at e;cases e
  subst hw;have hc:=hn c (bg g1 rfl);obtain⟨e1,e2⟩:=SL he;obtain⟨k1,k2⟩:=Pm (h:=h) (h1:=h1) hc fun l=>by rw[g3];exact e1 l
  unfold NQ;simp only[Bz,k1,mZ,k2,a0U,Ci,g3,uy,e2,TW,KJ,a3U,abq,Q9]
 |_=>exact g2.elim
theorem a7D(hX:bK X P){T:qC}{L n f:Nat}{t:FnT}{first xs cap:List (PV X.Γ)}{H:List (PB X.Γ)}{es0:List (PV X.Γ×PV X.Γ)}{a3t:List (TV×TV)}(hd:T.dem.contains f=true)(hx:T.exts.contains f=false)(ht:Tn P f=some t)(hN:Bq H=true)(h0:wW es0=some a3t)
  (hE:aK X P T (kQ P T L n) (uO P T (kQ P T L n) L) L f t.nt H.length t.body ⟨kR X 0 (first++xs++cap),[],H⟩ fun e s=>(e=.norm∨e=.ret)∧∃us,ED X P s t.results=some us∧∃r es MI,Z8 X us=.map r∧s.heap[r]? = some (.map es)∧wW es=some MI∧QV MI=a3t):aX X P (kQ P T L (n+1)) (.fn f first cap) xs H (.map H.length) (H++[.map es0]):=by
 refine Dn (tv:=fun n=>.map n) (tN:=[.map a3t]) hX hd hx ht hN (fun A m h hr=>?_) (hE.mono fun e s ⟨h1,us,h2,r,es,MI,h3,h4,h5,h6⟩=>⟨h1,us,h2,by rw[h3,<-h6];exact a7C h4 h5⟩);obtain⟨p1,p2,p3⟩:=hr.push (pb:=.map es0) (hb:=.map a3t) (mb:=.fV h.length) (.inl rfl) ⟨a3t,by simp,(Pj h0).1,(Pj h0).2⟩;exact⟨_,p1,.map (by rw[<-hr.len];simp),p2,p3⟩
theorem XR(hX:bK X P){A:Nat->Prop}{m:List MB}{Hs:List (PB X.Γ)}{h1:List HB}{i ty:Nat}{k ex:Bool}{l:List (X.Γ ty)}{w:TV}{KX:List TV}(hr:HR X P A m Hs h1)(hi:Hs[i]? = some (.list k ex ty l))(hl:l≠[])(hc:iI (Ed X ty l)=some KX)(hw:VR X P (AA A m) m h1 (.own i) w) :
  ∃c sz e kk,w=.slc c 0 l.length l.length sz e∧dB P ty=some sz∧c∈bC m∧h1[c]? = some (.cells kk KX)∧kk≠.ro:=by
 obtain⟨mb,g1,g2⟩:=hr.at_ i _ hi;cases mb with
 |dn x=>
  have hwx:w=x:=by
   cases hw with
   |own e _=>rw[g1]at e;cases e;rfl
   |gone hi e _=>simp only[bn,a01]at hi;subst hi;rw[g1]at e;cases e
  subst hwx;cases(g2:LR X P (AA A m) m h1 k ex ty l w)with
  |nil=>exact absurd rfl hl
  |emp=>exact absurd rfl hl
  |some _ q2 q3 q4 q5 q6 q7 q8 q9=>
   have hv:=eu.vrs q9 q8;have QE:=Fj hv hc;subst QE;exact⟨_,_,_,_,rfl,q2,bg g1 (by simp only[MB.own];rw[a0g (by simpa using hl)]),q4,q5⟩
 |_=>exact g2.elim
theorem a7E(hX:bK X P){i ty sz:Nat}{k ex:Bool}{l:List (X.Γ ty)}{Hs:List (PB X.Γ)}{KX:List TV}(hi:Hs[i]? = some (.list k ex ty l))(hl:l≠[])(hc:iI (Ed X ty l)=some KX)(hs:dB P ty=some sz):a3s X P true (.own i) Hs (fun n=>.slc n 0 l.length l.length sz false) [.mM (QW KX)]:=fun A m h h1 w hr hw hn=>by
 obtain⟨c,sz',e,kk,rfl,g1,g2,g3,g4⟩:=XR hX hr hi hl hc hw;rw[hs]at g1;cases g1;have qg:=hn c g2;obtain⟨e1,e2⟩:=yj hc;obtain⟨k1,k2⟩:=Pm (h:=h) (h1:=h1) qg fun l=>by rw[g3];exact e1 l
 have e3:Q9 true (.cells kk KX)=.mM (QW KX):=by cases kk<;>first|rfl|exact absurd rfl g4
 unfold NQ;simp only[Bz,k1,mZ,k2,a0U,Ci,g3,uy,e2,TW,KJ,a3U,abq,e3,Nat.lt_irrefl,a3a]
theorem a7F(hX:bK X P){i ty sz:Nat}{k ex:Bool}{l:List (X.Γ ty)}{Hs:List (PB X.Γ)}{KX:List TV}{p:PV X.Γ}{tp:TV}(hi:Hs[i]? = some (.list k ex ty l))(hl:l≠[])(hc:iI (Ed X ty l)=some KX)(hs:dB P ty=some sz)(hp:pR p=some tp):a3s X P false (.dI [.own i,p]) Hs (fun n=>.dI [.slc n 0 l.length l.length sz false,tp]) [.cells .last KX]:=fun A m h h1 w hr hw hn=>by
 cases hw with
 |gone hi _ _=>simp[bn]at hi
 |dI a1 a2=>
  rename_i cs';obtain⟨x,r,rfl,v0,v1⟩:=bV.inv (⟨a1,a2⟩:bV X P _ _ _ _ _);obtain⟨y,r,rfl,v2,v3⟩:=v1.inv;have:=v3.inv0;subst this;have:=jH v2 hp;subst this;obtain⟨c,sz',e,kk,rfl,g1,g2,g3,g4⟩:=XR hX hr hi hl hc v0;rw[hs]at g1;cases g1;have qg:=hn c g2;obtain⟨e1,e2⟩:=yj hc;obtain⟨q1,q2,q3⟩:=MH hp;obtain⟨k1,k2⟩:=Pm (h:=h) (h1:=h1) qg fun l=>by rw[g3];exact e1 l
  have e3:Q9 false (.cells kk KX)=.cells .last KX:=by cases kk<;>first|rfl|exact absurd rfl g4
  unfold NQ;have q4:KJ h.length (.slc h.length 0 l.length l.length sz e)=.slc h.length 0 l.length l.length sz false:=by simp only[KJ,Nat.lt_irrefl,a3a]
  simp only[Bz,Bz.Eu,q1,k1,mZ,mZ.yV,q2,k2,a0U,Ci,g3,uy,e2,TW,q3,q4,a3U,abq,e3]
theorem aaC{H:List (PB X.Γ)}{n sz:Nat}{cs:List (PV X.Γ)}{ts:List TV}(h0:U1 cs=some ts){A m h}(hr:HR X P A m H h):∃m1,HR X P A m1 (H++[.mM cs]) (h++[.mM ts])∧VR X P (AA A m1) m1 (h++[.mM ts]) (.slc H.length 0 n n sz false) (.slc h.length 0 n n sz false)∧Fr m h m1 (h++[.mM ts])∧Up m m1:=by
 obtain⟨p1,p2,p3⟩:=hr.push (pb:=.mM cs) (hb:=.mM ts) (mb:=.fV h.length) (.inl rfl) ⟨ts,by simp,h0⟩;exact⟨_,p1,.slc (by rw[<-hr.len];simp),p2,p3⟩
theorem XT{ty sz:Nat}:∀{l:List (X.Γ ty)},(∀(j:Nat) a,l[j]? = some a->(X.enc ty a).length=sz)->(Ed X ty l).length=l.length*sz∧∀(j:Nat) a (i:Nat) c,l[j]? = some a->(X.enc ty a)[i]? = some c->(Ed X ty l)[j*sz+i]? = some c
 | [],_=>⟨by simp[Ed],by simp⟩
 |a::l,he=>by
  obtain⟨h1,h2⟩:=XT (l:=l) fun j b hb=>he (j+1) b (by simpa using hb);have h0:=he 0 a rfl;refine⟨by simp only[Ed,a1X,h0,h1,a3S,a2Z,abl];omega,fun j b i c hb hc=>?_⟩;cases j with
  |zero=>
   simp at hb;subst hb;simp only[Ed,abM,a3O];rw[a0c (a02.1 hc).1];exact hc
  |succ j=>
   simp only[Ed];rw[a19 (by rw[h0,a2Z];omega),h0,show(j+1)*sz+i-sz=j*sz+i by rw[a2Z];omega];exact h2 j b i c (by simpa using hb) hc
theorem a3u{ty sz:Nat}{l:List (X.Γ ty)}{KX:List TV}{A m h}(he:∀(j:Nat) a,l[j]? = some a->(X.enc ty a).length=sz)(hc:iI (Ed X ty l)=some KX):KX.length=l.length*sz∧eu X P A m h ty l KX 0 sz:=by
 have hv:=Fq (X:=X) (P:=P) (A:=A) (m:=m) (h:=h) hc;obtain⟨h1,h2⟩:=XT he;have hl:KX.length=l.length*sz:=by rw[<-hv.1,h1]
 exact⟨hl,he,by rw[hl];omega,fun j a i c v a1 a2 a3=>hv.2 (j*sz+i) c v (h2 j a i c a1 a2) (by rw[a3O]at a3;exact a3)⟩
theorem aaD(hX:bK X P){H:List (PB X.Γ)}{ty sz:Nat}{l:List (X.Γ ty)}{KX:List TV}{p:PV X.Γ}{tp:TV}(hl:l≠[])(hc:iI (Ed X ty l)=some KX)(hs:dB P ty=some sz)(h0:0<sz)(he:∀(j:Nat) a,l[j]? = some a->(X.enc ty a).length=sz)(hp:pR p=some tp){A m h}(hr:HR X P A m H h) :
  ∃m1,HR X P A m1 (H++[.list false false ty l]) (h++[.cells .last KX])∧VR X P (AA A m1) m1 (h++[.cells .last KX]) (.dI [.own H.length,p]) (.dI [.slc h.length 0 l.length l.length sz false,tp])∧Fr m h m1 (h++[.cells .last KX])∧Up m m1:=by
 obtain⟨p1,p2,p3⟩:=hr.push (pb:=.list false false ty l) (hb:=.cells .last KX) (mb:=.dn (.slc h.length 0 l.length l.length sz false)) (.inl (by simp only[MB.own];rw[a0g (by simpa using hl)])) (by
  obtain⟨r1,r2⟩:=a3u (A:=AA A (m++[MB.dn (.slc h.length 0 l.length l.length sz false)])) (m:=m++[MB.dn (.slc h.length 0 l.length l.length sz false)]) (h:=h++[.cells .last KX]) (P:=P) he hc;exact LR.some (kk:=.last) (cs:=KX) hl hs h0 (by simp) (by simp) (by simp) (by simp) r1 r2)
 exact⟨_,p1,bV.cons (.own (by rw[<-hr.len];simp) rfl) (.cons (nH hp) .nil) |> fun h=>.dI h.1 h.2,p2,p3⟩
end
def eF:Code->Code
 |.seq a _=>a
 |.block _ b=>b
 |.loop b=>b
 |.scope b=>b
 |.cond _ a _=>a
 |c=>c
def eG:Code->Code
 |.seq _ b=>b
 |.cond _ _ b=>b
 |c=>c
def a7G:Code->Array Oper
 |.region _ o _=>o
 |_=>#[]
def SN(P:Program)(f:Nat):FnT:=match Tn P f with
 |some t=>t
 |none=>⟨0,.skip,[]⟩
def UR(ops:Array Oper)(it nx mo:Nat):Bool:=match A8 ops with
 |some (a,b,_,o2)=>a==it&&b==nx&&(match o2.op,o2.dst,o2.guard with
  |.extract (.tmp k) 0,some d,none=>k==nx&&d==mo
  |_,_,_=>false)
 |none=>false
theorem a3v{ops:Array Oper}{it nx mo:Nat}(h:UR ops it nx mo=true):∃o1 o2,A8 ops=some (it,nx,o1,o2)∧o2.op=.extract (.tmp nx) 0∧o2.dst=some mo∧o2.guard=none:=by
 unfold UR at h;split at h
 .rename_i a b o1 o2 e;simp only[a2a,a6v]at h;obtain⟨⟨rfl,rfl⟩,h⟩:=h;split at h
  .rename_i k d e1 e2 e3;simp only[a2a,a6v]at h;obtain⟨rfl,rfl⟩:=h;exact⟨o1,o2,e,e1,e2,e3⟩
  cases h
 cases h
section
variable {X:kH} {P:Program} {T:qC} {call:bf} {cd:uX} {fH:eX X.Γ} {L f nt B:Nat}
theorem zJ(hX:bK X P)(hO:jw X P call fH){c:Code}{ps ps1:aS X.Γ}{an:PT X.Γ}{o:OT (Ex×aS X.Γ)}{e:Ex}(hk:jG X P T fH (aX X P call) (dN X P T call L f false nt B) B L f false nt c ps an aem=o)(ht:Fp (fun r=>r=(e,ps1)) an o):dN X P T call L f false nt B c ps e ps1:=by
 obtain⟨y,h1,h2⟩:=ht.aI;subst h2;rw[<-hk]at h1;exact WH hX hO h1
theorem a1H{n j:Nat}{seen:List Nat}(hj:j<n)(hn:j∉seen):((List.range n).filter fun i=>!(j::seen).contains i).length<((List.range n).filter fun i=>!seen.contains i).length:=by
 have e:((List.range n).filter fun i=>!(j::seen).contains i)=((List.range n).filter fun i=>!seen.contains i).filter fun i=>!(i==j):=by
  rw[List.filter_filter];refine List.filter_congr fun i _=>?_;rw[agK];cases i==j<;>simp
 rw[e];refine List.length_filter_lt_length_iff_exists.2 ⟨j,a7L.2 ⟨a4b.2 hj,by simpa using hn⟩,by simp⟩
end
section
variable {X:kH} {P:Program} {T:qC} {call:bf} {cd:uX} {L f nt B:Nat}
theorem aK.ghost(hX:bK X P){gs:List G}{c:Code}{ps ps1:aS X.Γ}{Q:Ex->aS X.Γ->Prop}(hg:kZ B gs ps=some ps1)(h:aK X P T call cd L f nt B c ps1 Q):aK X P T call cd L f nt B c ps Q:=fun A W fl m ts R hS hR=>by
 obtain⟨m2,q1,q2,q3⟩:=mP hX hg A W fl m ts hS;exact h A W fl m2 ts R q1 fun e iH ps1 m1 a1 a2 a3 a4=>hR e iH ps1 m1 a1 a2 (q2.trans a3) (q3.trans a4)
theorem Pn(hX:bK X P){x:Code}{i0 i1 id it nx mo b r n:Nat}{ops:Array Oper}{draw:Bool}{s0:aS X.Γ}{es:List (PV X.Γ×PV X.Γ)}{Q:aS X.Γ->Prop}(I:List Nat->aS X.Γ->Prop)
  (hnx:UR ops it nx mo=true) (hd:nx<nt) (hd2:mo<nt) (hl:es.length=n) (hL:n<L) (hI:I [] s0)
  (hinv:∀seen s,I seen s->∃gs s',kZ B gs (gG X (T.eH f (dU (.seq (.region id ops draw) (.seq (.cond (.tmp mo) .skip (.exit i0)) (.block i1 x))))) s)=some s'∧zN s'.env (.tmp it)=some (.iter b)∧s'.heap[b]? = some (.cZ r n seen)∧JL X s'.heap r=some es ∧
   ((∀j,j<n->j∈seen)->zN (iY (T.iy f id) ((mo,.val (.bool false))::(nx,.val (.dI [.bool false]))::s'.env)) (.tmp mo)=some (.bool false)∧Q { s' with env:=iY (T.iy f id) ((mo,.val (.bool false))::(nx,.val (.dI [.bool false]))::s'.env) }) ∧
   ∀j e,j∉seen->es[j]? = some e->zN (iY (T.iy f id) ((mo,.val (.bool true))::(nx,.val (.dI [.bool true,e.1,e.2]))::s'.env)) (.tmp mo)=some (.bool true) ∧
    aK X P T call cd L f nt B x { s' with env:=iY (T.iy f id) ((mo,.val (.bool true))::(nx,.val (.dI [.bool true,e.1,e.2]))::s'.env),heap:=s'.heap.set b (.cZ r n (j::seen)) } fun e s=>(e=.norm∨e=.exit i1)∧I (j::seen) s) :
  aK X P T call cd L f nt B (.block i0 (.loop (.seq (.region id ops draw) (.seq (.cond (.tmp mo) .skip (.exit i0)) (.block i1 x))))) s0 fun e s=>e=.norm∧Q s:=by
 obtain⟨o1,o2,hn,h2,h3,h4⟩:=a3v hnx;have skp:∀{s:aS X.Γ} {Q':Ex->aS X.Γ->Prop},Q' .norm s->aK X P T call cd L f nt B .skip s Q':=fun{s Q'} hq=>by
  intro A W fl m ts R hS hR;simp only[fE];exact⟨_,_,rfl,hR _ _ s m hq hS .refl Up.refl.b⟩
 have ext:∀{i:Nat} {s:aS X.Γ} {Q':Ex->aS X.Γ->Prop},Q' (.exit i) s->aK X P T call cd L f nt B (.exit i) s Q':=fun{i s Q'} hq=>by
  intro A W fl m ts R hS hR;simp only[fE];exact⟨_,_,rfl,hR _ _ s m hq hS .refl Up.refl.b⟩
 refine aK.block ?_;refine aK.loop (fun k s=>∃seen,I seen s∧k=((List.range n).filter fun i=>!seen.contains i).length) (fun k s hi=>?_) (k:=n) ⟨[],hI,by rw[show((List.range n).filter fun i=>!([]:List Nat).contains i)=List.range n from agF.2 fun a _=>rfl,a8E]⟩ hL;obtain⟨seen,hi,rfl⟩:=hi;obtain⟨gs,s',e1,e2,e3,e4,e5,e6⟩:=hinv seen s hi;refine aK.ghost hX e1 ?_;refine aK.seq (R:=fun e s=>e=.norm∧(((∀j,j<n->j∈seen)∧s={ s' with env:=iY (T.iy f id) ((mo,.val (.bool false))::(nx,.val (.dI [.bool false]))::s'.env) })∨∃j e,j∉seen∧es[j]? = some e∧s={ s' with env:=iY (T.iy f id) ((mo,.val (.bool true))::(nx,.val (.dI [.bool true,e.1,e.2]))::s'.env),heap:=s'.heap.set b (.cZ r n (j::seen)) })) ?_ (fun s hs=>?_) (fun i s h=>by cases h.1) (fun s h=>by cases h.1)
 .exact aK.next hn hd hd2 h2 h3 h4 e2 e3 e4 hl (fun ho=>⟨rfl,.inl ⟨ho,rfl⟩⟩) (fun j e hj he=>⟨rfl,.inr ⟨j,e,hj,he,rfl⟩⟩)
 .obtain⟨_,⟨h5,rfl⟩|⟨j,e,hj,he,rfl⟩⟩:=hs
  .obtain⟨m1,q1⟩:=e5 h5;refine aK.seq (R:=fun e s=>e=.exit i0∧s={ s' with env:=iY (T.iy f id) ((mo,.val (.bool false))::(nx,.val (.dI [.bool false]))::s'.env) }) (aK.cond (t:=false) m1 (ext ⟨rfl,rfl⟩)) (fun s h=>by cases h.1) (fun i s h=>?_) (fun s h=>by cases h.1);obtain⟨h7,rfl⟩:=h;cases h7;dsimp only;rw[a0i rfl];exact⟨rfl,q1⟩
  .obtain⟨m2,hx⟩:=e6 j e hj he;have hjn:j<n:=by rw[<-hl];exact(a02.1 he).1
   refine aK.seq (R:=fun e1 s=>e1=.norm∧s={ s' with env:=iY (T.iy f id) ((mo,.val (.bool true))::(nx,.val (.dI [.bool true,e.1,e.2]))::s'.env),heap:=s'.heap.set b (.cZ r n (j::seen)) }) (aK.cond (t:=true) m2 (skp ⟨rfl,rfl⟩)) (fun s h=>?_) (fun i s h=>by cases h.1) (fun s h=>by cases h.1);obtain⟨_,rfl⟩:=h;refine aK.block ?_;refine hx.mono fun e s h=>?_;obtain⟨h1|h1,h2⟩:=h
   .subst h1;exact⟨_,a1H hjn hj,j::seen,h2,rfl⟩
   .subst h1;dsimp only;rw[a0i rfl];exact⟨_,a1H hjn hj,j::seen,h2,rfl⟩
theorem UU(hX:bK X P){x:Code}{i0 i1 id it nx mo b r n:Nat}{ops:Array Oper}{draw:Bool}{s0:aS X.Γ}{es:List (PV X.Γ×PV X.Γ)}{Q:aS X.Γ->Prop}(I:List Nat->aS X.Γ->Prop)
  (hnx:UR ops it nx mo=true) (hd:nx<nt) (hd2:mo<nt) (hl:es.length=n) (hL:n<L) (hI:I [] s0)
  (hinv:∀seen s,I seen s->∃s',gG X (T.eH f (dU (.seq (.region id ops draw) (.seq (.cond (.tmp mo) .skip (.exit i0)) (.block i1 x))))) s=s'∧zN s'.env (.tmp it)=some (.iter b)∧s'.heap[b]? = some (.cZ r n seen)∧JL X s'.heap r=some es ∧
   ((∀j,j<n->j∈seen)->zN (iY (T.iy f id) ((mo,.val (.bool false))::(nx,.val (.dI [.bool false]))::s'.env)) (.tmp mo)=some (.bool false)∧Q { s' with env:=iY (T.iy f id) ((mo,.val (.bool false))::(nx,.val (.dI [.bool false]))::s'.env) }) ∧
   ∀j e,j∉seen->es[j]? = some e->zN (iY (T.iy f id) ((mo,.val (.bool true))::(nx,.val (.dI [.bool true,e.1,e.2]))::s'.env)) (.tmp mo)=some (.bool true) ∧
    aK X P T call cd L f nt B x { s' with env:=iY (T.iy f id) ((mo,.val (.bool true))::(nx,.val (.dI [.bool true,e.1,e.2]))::s'.env),heap:=s'.heap.set b (.cZ r n (j::seen)) } fun e s=>(e=.norm∨e=.exit i1)∧I (j::seen) s) :
  aK X P T call cd L f nt B (.block i0 (.loop (.seq (.region id ops draw) (.seq (.cond (.tmp mo) .skip (.exit i0)) (.block i1 x))))) s0 fun e s=>e=.norm∧Q s:=
 Pn hX I hnx hd hd2 hl hL hI fun seen s hi=>let ⟨s',e1,h⟩:=hinv seen s hi;⟨[],s',congrArg some e1,h⟩
end
end Pv
namespace Go.Proofs.YtmobpoiejckagaaGreat
open Go Tw Pv cO
theorem akl(x:V):Instr.sameBits 10000 (kV.v x) (kV.v x)=true:=by
 show Instr.sameBits 10000 (.agg #[.int .u8 x.f,.int .i64 x.n]) (.agg #[.int .u8 x.f,.int .i64 x.n])=true;simp[Instr.sameBits]
theorem a7H(x:S3):Instr.sameBits 10000 (kS.v x) (kS.v x)=true:=by
 show Instr.sameBits 10000 (.agg #[.int .i64 x.a,.int .i64 x.b,.int .i64 x.c]) (.agg #[.int .i64 x.a,.int .i64 x.b,.int .i64 x.c])=true;simp[Instr.sameBits]
abbrev lC:V:=⟨0,1⟩
def akm:eX aF:=cu 79 (a1 vsA) vA (fun p=>p.getD 0 V0) (fun p=>[0<p.length]) Hu
theorem apo:Gd akm:=XD.add fun n hO p hp=>aO hO (.o (aH (hp _ (.head _))) .rr)
def akn:eX aF:=cu 89 aep vA (fun p=>lC) np akm
theorem apq:Gd akn:=apo.add fun n hO p hp=>aO hO .rr
def a7I:eX aF:=cu 169 (a1 vA) tA (fun p=>decide (p=lC)) np akn
theorem ako:Gd a7I:=apq.add fun n hO p hp=>aO hO (.q (.bool (decide (p=lC))) (eqV (.tmp 3) (.tmp 4) p lC) .rr)
def ql(l:List V):Bool:=l.all fun v=>decide (v=lC)
def nP(l:List V):V:=if ql l=true then lC else V0
theorem apr{n:Nat}(hO:Ok n a7I)(l:List V)(hl:l.length<=ah):aX X0 Qp (bP (n+4)) (.fn 168 [] []) [.fn 169 [] [],lV l] [] (tA.put (ql l)) []:=by
 have hs:∀v:V,aX X0 Qp (bP n) (.fn 169 [] []) [.agg v.ps] [] (tA.put (decide (v=lC))) []:=fun v=>oh.ZC hX (first:=[]) (cap:=[]) (hO 169 [.agg v.ps] (tA.put (decide (v=lC))) [] [] (by kernel_rfl) (fun p h=>by cases h)) rfl rfl rfl rfl;have h1:∀v:V,aX X0 Qp (bP (n+1)) (.fn 201 [] [.ptr 0 0 1]) [.agg v.ps] [.cells [.fn 169 [] []]] (tA.put (!(decide (v=lC)))) [.cells [.fn 169 [] []]]:=fun v=>
  jd fZ (first:=[]) (.fr [] (hs v) .sr)
 have h2:=aeJ (n:=n+2) (by omega) (f:=201) (a:=[]) (c:=[.ptr 0 0 1]) (H:=[.cells [.fn 169 [] []]]) (g:=fun v=>!(decide (v=lC))) h1 l hl;rw[IY]at h2;unfold ql;rw[<-DU l fun v=>decide (v=lC)];exact aX.drop hX (CV hX fZ (first:=[]) (cap:=[]) (H1:=[.cells [.fn 169 [] []]]) (by kernel_rfl) (.k h2 .sr)) rfl rfl
def qB:eX aF:=cu 117 (a1 vsA) vA nP (fun l=>[l.length<=ah]) a7I
theorem Kv:Gd qB:=ako.deep 4 fun n hn hO l hp=>by
 have hs:=apr (n:=n-4) (hO (n-4) (by omega)) l (hp _ (.head _));rw[show n-4+4=n by omega]at hs;show oh X0 Qp _ _ _ (vA.put (nP l)) _;unfold nP;exact aO (hO n (by omega)) (.fr [] hs (.ss .rr .rr))
abbrev XU:Code:=(SN Qp 87).body
abbrev Ql:Code:=(SN Qp 136).body
abbrev a7J(J:Jb)(f:Nat):List (Nat×PE aF):=[(2,.val (.nil .map)),(3,.val (.ptr 2 0 1)),(8,.val (.fn 136 [.agg (J.ps (.fn f [] []))] []))]
abbrev LRC(J:Jb)(f:Nat)(rd:Bool)(jD:Option Code):PB aF:=.loop rd 87 (BG Qp 87) (a7J J f) [9,10] (wU Qp 87) (Aw Qp 87) jD
abbrev HQc(J:Jb)(f:Nat)(t:List (V×Int)):List (PB aF):=[.cells (J.ps (.fn f [] [])),.map (kV.im t),.cells [.map 1]]
abbrev Qm(J:Jb)(f:Nat)(rd:Bool)(jD:Option Code)(t:List (V×Int)):List (PB aF):=HQc J f t++[.mark,LRC J f rd jD]
theorem a7K(l:List V):decide (nP l=lC)=ql l:=by
 unfold nP;cases ql l<;>decide
def yT(l:List V)(w:Int)(t:List (V×Int)):List (V×Int):=if ql (l.drop 1)=true then rX t (l.getD 0 V0) w else t
structure Tal(t:List (V×Int)):Prop where
 nd:(t.map (·.1)).Nodup
 pos:∀e∈t,0<e.2
 bnd:∀e∈t,e.2<=2000
theorem apt{n:Nat}(hO:Ok n qB)(J:Jb)(f:Nat){t:List (V×Int)}(ht:Tal t)(l:List V){w:Int}(h0:0<l.length)(hl:l.length<=ah)(hw:0<w∧w<=2000):aX X0 Qp (bP (n+1)) (.kF 4) [lV l,.int .i64 w] (Qm J f true none t) (.bool true) (Qm J f true none (yT l w t)):=by
 have q1:dN X0 Qp T (bP n) LL 87 true (BG Qp 87) 5 (wU Qp 87) ⟨ug (a7J J f) [9,10] [lV l,.int .i64 w],[],Qm J f true none t⟩ .norm ⟨[(3,.val (.ptr 2 0 1)),(4,.val (lV l)),(5,.val (.int .i64 w))],[],Qm J f true none t⟩:=yc hX hO (by kernel_rfl) .xx;have i0:gQ 0 l.length:=aH h0;have a1:(1:Int)<=l.length:=by omega
 have e1:(l.take l.length)=l:=abk;have c1:decide (nP ((l.take ((l.length:Int).toNat)).drop (1:Int).toNat)=lC)=ql (l.drop 1):=by
  rw[a7K];simp
 have a2:((l.take ((l.length:Int).toNat)).drop (1:Int).toNat).length<=ah:=by simp;omega
 have ev:=eqV (.tmp 13) (.tmp 14) (nP ((l.take ((l.length:Int).toNat)).drop (1:Int).toNat)) lC;have z01:(0:Int)<=1:=by decide
 have z02:(l.length:Int)<=(l.length:Int):=a96 _;unfold yT;cases hc:ql (l.drop 1)
 .rw[hc]at c1;rw[a0g (by simp)];have q2:dN X0 Qp T (bP n) LL 87 true (BG Qp 87) 5 (Aw Qp 87) ⟨[(3,.val (.ptr 2 0 1)),(4,.val (lV l)),(5,.val (.int .i64 w))],[],Qm J f false none t⟩ .norm ⟨[(3,.val (.ptr 2 0 1)),(4,.val (lV l)),(5,.val (.int .i64 w)),(15,xl false)],[],Qm J f false none t⟩:=
   yc hX hO (by kernel_rfl) (.o z01 (.o a1 (.o z02 (.o a2 (.q (.bool (decide (nP ((l.take ((l.length:Int).toNat)).drop (1:Int).toNat)=lC))) ev (.b c1 .xx))))))
  exact GX hX (l:=4) rfl rfl (by kernel_rfl) q1 rfl q2 rfl
 rw[hc]at c1;rw[a0i rfl];by_cases hk:l.getD 0 V0∈t.map (·.1)
 .obtain⟨j,old,g1,g2,g3,g4⟩:=kV.UM (akl _) ht.nd hk (n:=w) fun e he=>eP (by have:=ht.pos e he;omega) (by have:=ht.bnd e he;omega);have q2:dN X0 Qp T (bP n) LL 87 true (BG Qp 87) 5 (Aw Qp 87) ⟨[(3,.val (.ptr 2 0 1)),(4,.val (lV l)),(5,.val (.int .i64 w))],[],Qm J f false none t⟩ .norm ⟨[],[],[.cells (J.ps (.fn f [] [])),.map (IJ (kV.im t) j (.int .i64 (i64.wrap (old+w)))),.cells [.map 1],.mark,LRC J f false none]⟩:=
   yc hX hO (by kernel_rfl) (.o z01 (.o a1 (.o z02 (.o a2 (.q (.bool (decide (nP ((l.take ((l.length:Int).toNat)).drop (1:Int).toNat)=lC))) ev (.b c1 (.o i0 (.c (.int .i64 old) [] g1 (.a (.call (.int .i64 old) []) (.a (.ix j) (.o g2 (.o g3 .xx))))))))))))
  rw[g4]at q2;exact GX hX (l:=4) rfl rfl (by kernel_rfl) q1 rfl q2 rfl
 obtain⟨g1,g2,g3,g4⟩:=kV.UN hk (n:=w) (by rw[Int.zero_add];exact eP (by omega) (by omega));have q2:dN X0 Qp T (bP n) LL 87 true (BG Qp 87) 5 (Aw Qp 87) ⟨[(3,.val (.ptr 2 0 1)),(4,.val (lV l)),(5,.val (.int .i64 w))],[],Qm J f false none t⟩ .norm ⟨[],[],[.cells (J.ps (.fn f [] [])),.map (IJ (kV.im t++[(.agg (l.getD 0 V0).ps,.int .i64 0)]) (kV.im t).length (.int .i64 (i64.wrap (0+w)))),.cells [.map 1],.mark,LRC J f false none]⟩:=
  yc hX hO (by kernel_rfl) (.o z01 (.o a1 (.o z02 (.o a2 (.q (.bool (decide (nP ((l.take ((l.length:Int).toNat)).drop (1:Int).toNat)=lC))) ev (.b c1 (.o i0 (.q (.bool false) g1 (.a .calm (.o (kV.ck (l.getD 0 V0)) (.o g1 (.o g2 (.o g3 .xx)))))))))))))
 have g4:IJ (kV.im t++[(.agg (l.getD 0 V0).ps,.int .i64 0)]) (kV.im t).length (.int .i64 (i64.wrap (0+w)))=kV.im (rX t (l.getD 0 V0) w):=g4;rw[g4]at q2;exact GX hX (l:=4) rfl rfl (by kernel_rfl) q1 rfl q2 rfl
open Go Tw Pv cO
abbrev HN(J:Jb)(f:Nat)(t:List (V×Int))(now:List (S3×Int)):List (PB aF):=Qm J f true none t++[.map (kS.im now)]
abbrev ZK:Code:=eF (eF (eG (eF (eG (eG Ql)))))
abbrev bB1:Code:=eF (eF (eG (eG ZK)))
abbrev bIB:Code:=eF (eF (eG (eF (eG (eG bB1)))))
abbrev bX:Code:=eF (eG (eG bIB))
abbrev bL2:Code:=eF (eF (eG (eG (eG (eG Ql)))))
abbrev bX2:Code:=eF (eG (eG bL2))
abbrev a3w(J:Jb)(c:Int)(a:Int):List (Nat×PE aF):=[(1,.val (.kF 4)),(2,.loc 0 0),(6,xi c),(7,.val (.map 6)),(21,xL 3 J.o),(22,xi J.o.length),(23,xi a),(29,.val (.iter 7))]
abbrev HI(J:Jb)(f:Nat)(t:List (V×Int))(now next:List (S3×Int))(seen:List Nat):List (PB aF):=HN J f t now++[.map (kS.im next),.cZ 5 now.length seen]
structure NI(J:Jb)(a:Nat)(m:List (S3×Int)):Prop where
 nd:(m.map (·.1)).Nodup
 pos:∀e∈m,0<e.2
 dp:∀e∈m,Dp J a e.1
theorem NI.add{J:Jb}{a:Nat}{m:List (S3×Int)}(h:NI J a m){s:S3}{n:Int}(hs:Dp J a s)(hn:0<n):NI J a (rX m s n):=
 ⟨FH h.nd s n,Pg hn h.pos,fun e he=>by
  rcases a7t he with e1|⟨e',h1,h2⟩
  .rw[e1];exact hs
  .rw[<-h2];exact h.dp e' h1⟩
theorem AV{κ:Type}[DecidableEq κ](q:Int):∀m:List (κ×Int),dF (fun _=>q) m=dF (fun _=>1) m*q
 | []=>by simp[dF]
 |e::m=>by simp only[dF,AV q m,adC,abL]
theorem I5{κ:Type}[DecidableEq κ]:∀{m:List (κ×Int)},(∀e∈m,0<e.2)->0<=dF (fun _=>1) m∧∀e∈m,e.2<=dF (fun _=>1) m
 | [],_=>⟨a96 _,fun e he=>by cases he⟩
 |x::m,h=>by
  obtain⟨h1,h2⟩:=I5 (m:=m) fun e he=>h e (by simp[he]);have h0:=h x (by simp);simp only[dF,abL];refine⟨by omega,fun e he=>?_⟩;rcases a2e.1 he with rfl|he
  .omega
  have:=h2 e he;omega
theorem a7M{κ:Type}[DecidableEq κ]{m:List (κ×Int)}{q:Nat}(hp:∀e∈m,0<e.2)(hq:1<=q)(hs:dF (fun _=>(q:Int)) m<=2000):∀e∈m,e.2<=2000:=fun e he=>by
 obtain⟨h1,h2⟩:=I5 hp;rw[AV]at hs;have h3:=h2 e he;have:dF (fun _=>1) m<=dF (fun _=>1) m*(q:Int):=by
  have:=a8v (show(1:Int)<=q by omega) h1;omega
 omega
theorem XV{J:Jb}(r:List Int)(m:List (S3×Int)):dF (xG J (fun _=>1) r) m=dF (fun _=>(zO J r:Int)) m:=by
 induction m with
 |nil=>rfl
 |cons e m ih=>simp only[dF,ih,DZ]
theorem Ea{J:Jb}{a:Nat}{r:List Int}{m:List (S3×Int)}(h:NI J a m)(hq:1<=zO J r){s:S3}{n b:Int}(hn:0<n)(hs:dF (fun _=>(zO J r:Int)) m+n*(zO J r:Int)<=b)(hb:b<=2000):n<=2000∧(∀e∈m,e.2<=2000)∧∀e∈m,i64.wrap (e.2+n)=e.2+n:=by
 obtain⟨h1,h2⟩:=I5 h.pos;have h3:0<=dF (fun _=>(zO J r:Int)) m:=by rw[AV];exact adu h1 (by omega)
 have h4:n<=n*(zO J r:Int):=by
  have:=a8v (show(1:Int)<=zO J r by omega) (show 0<=n by omega);omega
 have h5:0<=n*(zO J r:Int):=by omega
 have h6:=a7M h.pos hq (show dF (fun _=>(zO J r:Int)) m<=2000 by omega);refine⟨by omega,h6,fun e he=>?_⟩;have:=h6 e he;have:=h.pos e he;exact eP (by omega) (by omega)
theorem a1I{now:List (S3×Int)}{j:Nat}{st:S3}{w:Int}(h:now[j]? = some (st,w)):(kS.im now).length=now.length∧(kS.im now)[j]? = some (.agg st.ps,.int .i64 w):=by
 refine⟨kS.oV now,?_⟩;rw[kS.AU,h];rfl
section
variable {n:Nat} {J:Jb} (hJ:jU J) {f:Nat} (t:List (V×Int)) (now:List (S3×Int)) (seen:List Nat) {a:Nat} {c:Int} {r:List Int} {st:S3} {w:Int} {j:Nat}
abbrev sX(J:Jb)(f:Nat)(t:List (V×Int))(now next:List (S3×Int))(c:Int)(a:Int)(st:S3)(w:Int)(js:List Nat):aS aF:=⟨iY (T.iy 136 7) ((31,.val (.bool true))::(30,.val (.dI [.bool true,.agg st.ps,.int .i64 w]))::a3w J c a),[J.ps (.fn f [] [])],HI J f t now next js⟩
abbrev sZ(J:Jb)(f:Nat)(t:List (V×Int))(now next:List (S3×Int))(c:Int)(a:Int)(st:S3)(js:List Nat):aS aF:=⟨a3w J c a,[J.ps (.fn f [] []),st.ps],HI J f t now next js⟩
abbrev wDi(J:Jb)(f:Nat)(t:List (V×Int))(now:List (S3×Int))(c:Int)(a:Int)(st:S3)(w:Int)(js:List Nat)(next:List (S3×Int))(i:Int)(x:List (Nat×PE aF)):aS aF:=⟨[(1,.val (.kF 4)),(2,.loc 0 0),(6,xi c),(7,.val (.map 6)),(8,.loc 1 0),(9,xi w),(21,xL 3 J.o),(22,xi J.o.length),(23,xi a),(29,.val (.iter 7)),(75,xi (J.s.getD c.toNat 0)),(76,xi i)]++x,[J.ps (.fn f [] []),st.ps],HI J f t now next js⟩
include hJ
theorem lDi(hr:J.o.drop a=c::r)(hd:Dp J a st)(hw:0<w){next:List (S3×Int)}(hN:NI J (a+1) next)(hg:¬decide (J.g.getD c.toNat 0>=0)=true)(hb:dF (fun _=>(zO J r:Int)) next+w*(zO J (c::r):Int)<=2000)(js:List Nat) :
  ∃next',NI J (a+1) next'∧(∀ψ,dF (xG J ψ r) next'=dF (xG J ψ r) next+w*xG J ψ (c::r) st) ∧
   OG (n+1) 136 2 5 (wDi J f t now c a st w js next 0 []) (.exit 5) (wDi J f t now c a st w js next' ((J.s.getD c.toNat 0).toNat:Nat) [(77,xl false)]):=by
 obtain⟨aQ,hoc,wE,Fv,hci,qG⟩:=jU.at_ hJ hr;have hz:=hJ.dw.sz _ (dG (s:=J.s) (k:=c.toNat) (by have:=qG.1;have:=qG.2;omega));have hri:∀c'∈r,gQ c' J.s.length:=fun c' h=>(jU.o2 hJ).2.2 c' (by rw[<-wE]at h;exact a4P h);have hq:=(Jp hJ hri).1;have qg:(zO J (c::r):Int)=((J.s.getD c.toNat 0).toNat:Int)*(zO J r:Int):=by
  have:(AP J c).length=(J.s.getD c.toNat 0).toNat:=by unfold AP;rw[a0g hg];simp
  rw[zO,this,adN]
 let g:Nat->List (S3×Int)->List (S3×Int):=fun k y=>rX y (bJ J.D st c k) w
 have inv:=dD (g:=g) (m:=(J.s.getD c.toNat 0).toNat) (k:=0) (s:=next) (fun k y=>NI J (a+1) y∧∀ψ,dF (xG J ψ r) y=dF (xG J ψ r) next+w*dV (fun(j:Nat)=>xG J ψ r (bJ J.D st c j)) (List.range k)) ⟨hN,fun ψ=>by simp[dV]⟩ (fun k y _ hk hy=>by
  obtain⟨h1,h2⟩:=hy;refine⟨h1.add (mJ hJ hr hd ⟨by omega,by omega⟩) hw,fun ψ=>?_⟩;show dF (xG J ψ r) (rX y _ w)=_;rw[zF,h2 ψ,adi,HY,Int.mul_add];simp only[dV,Int.add_zero];omega)
 rw[a3O]at inv;refine⟨_,inv.1,fun ψ=>by rw[inv.2 ψ,aat hg],?_⟩;have bound:∀k y,k<(J.s.getD c.toNat 0).toNat->(∀ψ,dF (xG J ψ r) y=dF (xG J ψ r) next+w*dV (fun(j:Nat)=>xG J ψ r (bJ J.D st c j)) (List.range k))->dF (fun _=>(zO J r:Int)) y+w*(zO J r:Int)<=2000:=fun k y hk hy=>by
  have h1:=hy fun _=>1;rw[XV,XV,qm (φ':=fun _=>(zO J r:Int)) (fun _ _=>DZ r _),AQ,a8E]at h1;rw[h1];rw[qg]at hb;have h2:((k:Int)+1)*(zO J r:Int)<=((J.s.getD c.toNat 0).toNat:Int)*(zO J r:Int):=a8I (by omega) (by omega);have h3:=a8v h2 (show 0<=w by omega);rw[adC,Int.mul_add,Int.one_mul]at h3;omega
 refine yg (σ:=List (S3×Int)) (N:=(J.s.getD c.toNat 0).toNat) (g:=g) (s0:=next) (st:=fun i y=>wDi J f t now c a st w js y i []) (fin:=fun y=>wDi J f t now c a st w js y (((J.s.getD c.toNat 0).toNat:Nat):Int) [(77,xl false)]) (fun k y=>NI J (a+1) y∧∀ψ,dF (xG J ψ r) y=dF (xG J ψ r) next+w*dV (fun(j:Nat)=>xG J ψ r (bJ J.D st c j)) (List.range k)) (by kernel_rfl) (by unfold ah;omega) ⟨hN,fun ψ=>by simp[dV]⟩ (fun k y hk hy=>?_) (fun k y hk hy m e p g9=>?_) (fun y _=>?_)
 .obtain⟨h1,h2⟩:=hy;refine⟨h1.add (mJ hJ hr hd ⟨by omega,by omega⟩) hw,fun ψ=>?_⟩;show dF (xG J ψ r) (rX y _ w)=_;rw[zF,h2 ψ,adi,HY,Int.mul_add];simp only[dV,Int.add_zero];omega
 .obtain⟨h1,h2⟩:=hy;obtain⟨b1,b2,b3⟩:=Ea h1 hq (s:=bJ J.D st c k) hw (bound k y hk h2) (a96 _);have t1:decide ((k:Int)<J.s.getD c.toNat 0)=true:=by rw[a1E];omega
  have ha:=Je (M:=n) (f:=f) (a:=[]) (cc:=[]) (H:=[]) J st c k hJ.d3 fun i hi=>Jg hJ hd ⟨by omega,by omega⟩ hi;have g9:dJ X0 Qp T (bP (n+1)) LL 136 false _ 5 _ m (wDi J f t now c a st w js (rX y (bJ J.D st c k) w) _ []) e p:=g9;by_cases hk:bJ J.D st c k∈y.map (·.1)
  .obtain⟨jj,old,g1,g2,g3,g4⟩:=kS.UM (a7H _) h1.nd hk (n:=w) b3;unfold wDi HI at g9;rw[<-g4]at g9;exact aN fZ (.b t1 (.fr [] ha (.c (.int .i64 old) [] g1 (.a (.call (.int .i64 old) []) (.a (.ix jj) (.o g2 (.o g3 (.go g9))))))))
  .obtain⟨g1,g2,g3,g4⟩:=kS.UN hk (n:=w) (by rw[Int.zero_add];exact eP (by omega) (by omega));unfold wDi HI at g9;rw[<-g4]at g9;exact aN fZ (.b t1 (.fr [] ha (.q (.bool false) g1 (.a .calm (.o (kS.ck (bJ J.D st c k)) (.o g1 (.o g2 (.o g3 (.go g9)))))))))
 .have t1:decide ((((J.s.getD c.toNat 0).toNat:Nat):Int)<J.s.getD c.toNat 0)=false:=by rw[a2H];omega
  exact aN fZ (.b t1 .ex)
end
open Go Tw Pv cO
abbrev sH(J:Jb)(f:Nat)(t:List (V×Int))(now next:List (S3×Int))(c:Int)(a:Int)(js:List Nat):aS aF:=⟨a3w J c a,[J.ps (.fn f [] [])],HI J f t now next js⟩
section
variable {n:Nat} {J:Jb} (hJ:jU J) {f:Nat} (t:List (V×Int)) (now:List (S3×Int)) (seen:List Nat) {a:Nat} {c:Int} {r:List Int} {st:S3} {w:Int} {j:Nat}
include hJ
theorem akp(hr:J.o.drop a=c::r)(hd:Dp J a st)(hw:0<w){next:List (S3×Int)}(hN:NI J (a+1) next)(hj:now[j]? = some (st,w))(hb:dF (fun _=>(zO J r:Int)) next+w*(zO J (c::r):Int)<=2000) :
  ∃next' e s',NI J (a+1) next'∧(∀ψ,dF (xG J ψ r) next'=dF (xG J ψ r) next+w*xG J ψ (c::r) st)∧(e=.norm∨e=.exit 3) ∧
   dN X0 Qp T (bP (n+1)) LL 136 false (BG Qp 136) 5 bX (sX J f t now next c a st w (j::seen)) e s' ∧
   gG X0 (T.eH 136 (dU bIB)) s'=sH J f t now next' c a (j::seen):=by
 obtain⟨aQ,hoc,wE,Fv,hci,qG⟩:=jU.at_ hJ hr;have hz:=hJ.dw.sz _ (dG (s:=J.s) (k:=c.toNat) (by have:=qG.1;have:=qG.2;omega));have hri:∀c'∈r,gQ c' J.s.length:=fun c' h=>(jU.o2 hJ).2.2 c' (by rw[<-wE]at h;exact a4P h);have hq:=(Jp hJ hri).1;have hcG:gQ c J.g.length:=by rw[hJ.gl];exact qG
 have ho:=a1I hj;by_cases hg:decide (J.g.getD c.toNat 0>=0)=true
 .have hl1:(zO J (c::r):Int)=zO J r:=by rw[zO,AP,a0i hg];simp
  rw[hl1]at hb;have hgv:0<=J.g.getD c.toNat 0:=by simpa using hg
  have hd2:=mJ hJ hr hd ⟨hgv,hJ.gv c qG hgv⟩;obtain⟨b1,b2,b3⟩:=Ea hN hq (s:=st) hw hb (a96 _);have ha:=Je (M:=n) (f:=f) (a:=[]) (cc:=[]) (H:=[]) J st c (J.g.getD c.toNat 0) hJ.d3 fun i hi=>Jg hJ hd ⟨hgv,hJ.gv c qG hgv⟩ hi;refine⟨rX next (bJ J.D st c (J.g.getD c.toNat 0)) w,.exit 3,sZ J f t now (rX next (bJ J.D st c (J.g.getD c.toNat 0)) w) c a st (j::seen),hN.add hd2 hw,fun ψ=>by rw[zF,a3p hg],.inr rfl,?_,by kernel_rfl⟩;unfold sZ HI;by_cases hk:bJ J.D st c (J.g.getD c.toNat 0)∈next.map (·.1)
  .obtain⟨jj,old,g1,g2,g3,g4⟩:=kS.UM (a7H _) hN.nd hk (n:=w) b3;rw[<-g4];exact zJ hX fZ (by kernel_rfl) (.c (.dI [.agg st.ps,.int .i64 w]) [] ho (.o qG (.o hcG (.b hg (.fr [] ha (.c (.int .i64 old) [] g1 (.a (.call (.int .i64 old) []) (.a (.ix jj) (.o g2 (.o g3 (.r rfl)))))))))))
  .obtain⟨g1,g2,g3,g4⟩:=kS.UN hk (n:=w) (by rw[Int.zero_add];exact eP (by omega) (by omega));rw[<-g4];exact zJ hX fZ (by kernel_rfl) (.c (.dI [.agg st.ps,.int .i64 w]) [] ho (.o qG (.o hcG (.b hg (.fr [] ha (.q (.bool false) g1 (.a .calm (.o (kS.ck (bJ J.D st c (J.g.getD c.toNat 0))) (.o g1 (.o g2 (.o g3 (.r rfl))))))))))))
 have hg':decide (J.g.getD c.toNat 0>=0)=false:=by simpa using hg
 have uU:((J.s.getD c.toNat 0).toNat:Int)=J.s.getD c.toNat 0:=by omega
 have qg:(zO J (c::r):Int)=J.s.getD c.toNat 0*(zO J r:Int):=by
  have:(AP J c).length=(J.s.getD c.toNat 0).toNat:=by unfold AP;rw[a0g hg];simp
  rw[zO,this,adN,uU]
 have hs:=a7m (M:=n) (f:=f) (a:=[]) (cc:=[]) (H:=[]) J st c hJ.d3 (fun k hk h=>⟨by simpa using h,(hd k hk).1.1⟩);cases AL:jL J.D st c
 .rw[AL]at hs;have hd2:=UF hJ hr hd AL;have hm:0<w*J.s.getD c.toNat 0:=Int.mul_pos hw (by omega);rw[qg,<-agN]at hb;obtain⟨b1,b2,b3⟩:=Ea hN hq (s:=st) hm hb (a96 _);have hwm:i64.wrap (w*J.s.getD c.toNat 0)=w*J.s.getD c.toNat 0:=eP (by omega) (by omega);refine⟨rX next st (w*J.s.getD c.toNat 0),.exit 3,sZ J f t now (rX next st (w*J.s.getD c.toNat 0)) c a st (j::seen),hN.add hd2 hm,fun ψ=>by rw[zF,afp hg AL,uU,agN],.inr rfl,?_,by kernel_rfl⟩;unfold sZ HI;by_cases hk:st∈next.map (·.1)
  .obtain⟨jj,old,g1,g2,g3,g4⟩:=kS.UM (a7H _) hN.nd hk (n:=w*J.s.getD c.toNat 0) b3;rw[<-g4,<-hwm];exact zJ hX fZ (by kernel_rfl) (.c (.dI [.agg st.ps,.int .i64 w]) [] ho (.o qG (.o hcG (.b hg' (.fr [] hs (.b (rfl:(!false)=true) (.c (.int .i64 old) [] g1 (.a (.call (.int .i64 old) []) (.a (.ix jj) (.o g2 (.o g3 (.r rfl))))))))))))
  .obtain⟨g1,g2,g3,g4⟩:=kS.UN hk (n:=w*J.s.getD c.toNat 0) (by rw[Int.zero_add];exact hwm);rw[<-g4,<-hwm];exact zJ hX fZ (by kernel_rfl) (.c (.dI [.agg st.ps,.int .i64 w]) [] ho (.o qG (.o hcG (.b hg' (.fr [] hs (.b (rfl:(!false)=true) (.q (.bool false) g1 (.a .calm (.o (kS.ck st) (.o g1 (.o g2 (.o g3 (.r rfl)))))))))))))
 .rw[AL]at hs;obtain⟨next',h1,h2,h3⟩:=lDi (n:=n) hJ (f:=f) t now hr hd hw hN hg hb (j::seen);refine⟨next',.norm,_,h1,h2,.inl rfl,zJ (ps1:=wDi J f t now c a st w (j::seen) next' ((J.s.getD c.toNat 0).toNat:Nat) [(77,xl false)]) hX fZ (by kernel_rfl) (.c (.dI [.agg st.ps,.int .i64 w]) [] ho (.o qG (.o hcG (.b hg' (.fr [] hs (.b (rfl:(!true)=false) (.w h3 (.r rfl)))))))),by kernel_rfl⟩
end
end Go.Proofs.YtmobpoiejckagaaGreat
namespace Pv
open Go Tw
section
variable {X:kH} {P:Program} {T:qC} {call:bf} {cd:uX} {L f nt B:Nat}
theorem aK.AX{a b:Code}{ps s1:aS X.Γ}{Q:Ex->aS X.Γ->Prop}(hn:nO a=true)(ha:dN X P T call L f false nt B a ps .norm s1)(hb:aK X P T call cd L f nt B b s1 Q):aK X P T call cd L f nt B (.seq a b) ps Q:=
 aK.seq (R:=fun e s=>e=.norm∧s=s1) (dN.dem hn ha ⟨rfl,rfl⟩) (fun s h=>by obtain⟨_,rfl⟩:=h;exact hb) (fun i s h=>by cases h.1) (fun s h=>by cases h.1)
theorem aK.step{c:Code}{ps:aS X.Γ}{e:Ex}{ps1:aS X.Γ}{Q:Ex->aS X.Γ->Prop}(hn:nO c=true)(ha:dN X P T call L f false nt B c ps e ps1)(hq:Q e ps1):aK X P T call cd L f nt B c ps Q:=dN.dem hn ha hq
end
end Pv
namespace Go.Proofs.YtmobpoiejckagaaGreat
open Go Tw Pv cO
theorem Kw{α:Type}[DecidableEq α](φ:α->Int)(p:α->Bool):∀l:List α,dV φ l=dV φ (l.filter p)+dV φ (l.filter fun a=>!p a)
 | []=>rfl
 |a::l=>by
  rw[dV,Kw φ p l];cases h:p a
  .rw[acS (by simp[h]),acY (by simp[h]),dV];omega
  rw[acY h,acS (by simp[h]),dV];omega
theorem UW{α:Type}[DecidableEq α]{φ:α->Int}:∀{l:List α},(∀a∈l,0<=φ a)->0<=dV φ l
 | [],_=>a96 _
 |a::l,h=>by
  have:=UW (l:=l) fun b hb=>h b (by simp[hb]);have:=h a (by simp);rw[dV];omega
theorem Jr{n:Nat}{l:List Nat}(hn:l.Nodup)(hl:∀j∈l,j<n):((List.range n).filter fun j=>l.contains j).Perm l:=
 (a7c (List.nodup_range.filter _) hn).2 fun j=>by
  rw[a7L,a4b,List.contains_iff_mem];exact⟨fun h=>h.2,fun h=>⟨hl j h,h⟩⟩
theorem UY{n:Nat}{φ:Nat->Int}{l:List Nat}(hn:l.Nodup)(hl:∀j∈l,j<n)(hp:∀j,j<n->0<=φ j):dV φ l<=dV φ (List.range n):=by
 rw[Kw φ (fun j=>l.contains j) (List.range n),Jm φ (Jr hn hl)];have:=UW (φ:=φ) (l:=(List.range n).filter fun j=>!l.contains j) fun j hj=>hp j (a4b.1 (a7L.1 hj).1);omega
theorem Po{n:Nat}{φ:Nat->Int}{l:List Nat}(hn:l.Nodup)(hl:∀j∈l,j<n)(ha:∀j,j<n->j∈l):dV φ l=dV φ (List.range n):=
 (Jm φ ((a7c adA hn).2 fun j=>⟨fun h=>ha j (a4b.1 h),fun h=>a4b.2 (hl j h)⟩)).symm
abbrev nowAt(now:List (S3×Int))(j:Nat):S3×Int:=now.getD j (⟨0,0,0⟩,0)
theorem I7{φ:S3->Int}(now:List (S3×Int)):dV (fun j=>(nowAt now j).2*φ (nowAt now j).1) (List.range now.length)=dF φ now:=by
 have h1:dF φ now=dV (fun e:S3×Int=>e.2*φ e.1) now:=by
  induction now with
  |nil=>rfl
  |cons e m ih=>simp only[dF,dV,ih]
 have h2:now=(List.range now.length).map fun j=>nowAt now j:=by
  refine(rJ (d:=(⟨⟨0,0,0⟩,0⟩:S3×Int)) (by simp)).2 fun k hk=>?_;simp[List.getD,hk]
 rw[h1]
 conv=>rhs;rw[h2]
 rw[zG]
theorem XW{now:List (S3×Int)}{j:Nat}{e:S3×Int}(h:now[j]? = some e):nowAt now j=e∧j<now.length∧e∈now:=by
 obtain⟨h1,h2⟩:=a02.1 h;exact⟨by simp[nowAt,List.getD,h],h1,h2▸a4h h1⟩
section
variable {n:Nat} {J:Jb} (hJ:jU J) {f:Nat} (t:List (V×Int)) (now:List (S3×Int)) {a:Nat} {c:Int} {r:List Int}
def InS(J:Jb)(f:Nat)(t:List (V×Int))(now:List (S3×Int))(a:Nat)(c:Int)(r:List Int)(seen:List Nat)(s:aS aF):Prop:=
 seen.Nodup∧(∀j∈seen,j<now.length)∧∃next,NI J (a+1) next∧(∀ψ,dF (xG J ψ r) next=dV (fun j=>(nowAt now j).2*xG J ψ (c::r) (nowAt now j).1) seen)∧gG X0 (T.eH 136 (dU bIB)) s=sH J f t now next c a seen
structure yt(J:Jb)(a:Nat)(now:List (S3×Int)):Prop where
 i:NI J a now
 s:∀ψ,dF (xG J ψ (J.o.drop a)) now=xG J ψ J.o (fG J.D)
include hJ
theorem afA:(zO J J.o:Int)<=2000:=by
 have h1:=(Jp hJ (jU.o2 hJ).2.2).2;have hw:=FD hJ.dw.sz hJ.ord;have hm:=hJ.dw.many;omega
theorem MJ(h:yt J a now):dF (fun _=>(zO J (J.o.drop a):Int)) now<=2000:=by
 have:=h.s fun _=>1;rw[XV,DZ]at this;have:=afA hJ;omega
theorem XY(a:Nat):1<=zO J (J.o.drop a):=(Jp hJ fun c hc=>(jU.o2 hJ).2.2 c (a4P hc)).1
theorem a1J(h:yt J a now):now.length<=2000∧∀e∈now,e.2<=2000:=by
 have h1:=a7M h.i.pos (XY hJ a) (MJ hJ now h);obtain⟨h2,h3⟩:=I5 h.i.pos;have h4:=MJ hJ now h;rw[AV]at h4;have h5:=a8v (show(1:Int)<=zO J (J.o.drop a) by have:=XY hJ a;omega) h2;have h6:∀{m:List (S3×Int)},(∀e∈m,0<e.2)->(m.length:Int)<=dF (fun _=>1) m:=by
  intro m
  induction m with
  |nil=>intro _;exact a96 _
  |cons e m ih=>
   intro hp;have:=ih fun e he=>hp e (by simp[he]);have:=hp e (by simp);simp only[dF,a3S,abL];omega
 have:=h6 h.i.pos;exact⟨by omega,h1⟩
set_option maxRecDepth 20000 in
theorem inLoop(hr:J.o.drop a=c::r)(h:yt J a now):aK X0 Qp T (bP (n+1)) Ce LL 136 (BG Qp 136) 5 (.block 2 (.loop bIB)) (sH J f t now [] c a [])
  fun e s=>e=.norm∧∃next seen,NI J (a+1) next∧(∀ψ,dF (xG J ψ r) next=dF (xG J ψ (c::r)) now)∧s={ sH J f t now next c a seen with env:=iY (T.iy 136 7) ((31,.val (.bool false))::(30,.val (.dI [.bool false]))::a3w J c a) }:=by
 have e0:bIB=.seq (.region 7 (a7G (eF bIB)) false) (.seq (.cond (.tmp 31) .skip (.exit 2)) (.block 3 bX)):=by kernel_rfl
 rw[e0];have hlen:=a1J hJ now h;have hlL:(kS.im now).length=now.length:=kS.oV now;have hql:=(Jp hJ (r:=c::r) fun c' hc=>(jU.o2 hJ).2.2 c' (by rw[<-hr]at hc;exact a4P hc)).1;refine UU hX (n:=now.length) (b:=7) (r:=5) (it:=29) (nx:=30) (mo:=31) (es:=kS.im now) (fun seen s=>InS J f t now a c r seen s) (by kernel_rfl) (a7p (by kernel_rfl)) (a7p (by kernel_rfl)) hlL (by unfold LL;omega)
  ⟨a5F,(fun j hj=>(by cases hj)),[],⟨a5F,(fun e he=>(by cases he)),(fun e he=>(by cases he))⟩,(fun ψ=>rfl),(by kernel_rfl)⟩ (fun seen s hi=>?_)
 obtain⟨jm,aQ,next,h1,h2,h3⟩:=hi;rw[<-e0];refine⟨_,h3,by kernel_rfl,by kernel_rfl,by kernel_rfl,fun ho=>⟨by kernel_rfl,next,seen,h1,fun ψ=>?_,rfl⟩,fun j e hj he=>⟨by kernel_rfl,?_⟩⟩
 .rw[h2,Po jm aQ ho,I7]
 .rw[kS.AU,a06]at he;obtain⟨⟨st,w⟩,rQ,rfl⟩:=he;obtain⟨q1,q2,q3⟩:=XW rQ;have FK:(j::seen).Nodup:=a3Z.2 ⟨hj,jm⟩;have FM:∀k∈j::seen,k<now.length:=fun k hk=>by
   rcases a2e.1 hk with rfl|hk
   .exact q2
   .exact aQ k hk
  have hb:dF (fun _=>(zO J r:Int)) next+w*(zO J (c::r):Int)<=2000:=by
   have e1:=h2 fun _=>1;rw[XV]at e1;have e2:=UY (φ:=fun j=>(nowAt now j).2*xG J (fun _=>1) (c::r) (nowAt now j).1) FK FM fun k hk=>by
    have:=h.i.pos _ (fK (d:=(⟨⟨0,0,0⟩,0⟩:S3×Int)) hk);rw[DZ];exact adu (afe this) (Int.natCast_nonneg _)
   rw[I7,dV,q1]at e2;have e3:=MJ hJ now h;rw[hr]at e3;rw[XV]at e2;have e4:xG J (fun _=>1) (c::r) st=(zO J (c::r):Int):=DZ _ _;simp only[e4]at e2;omega
  obtain⟨next',e',s',g1,g2,g3,g4,g5⟩:=akp (n:=n) hJ (f:=f) t now seen (st:=st) (w:=w) (j:=j) hr (h.i.dp _ q3) (h.i.pos _ q3) h1 rQ hb;refine aK.step (by kernel_rfl) g4 ⟨g3,FK,FM,next',g1,fun ψ=>?_,g5⟩;rw[g2,h2,dV,q1,agz]
end
open Go Tw Pv cO
abbrev akr(J:Jb)(a:Int)(x:List (Nat×PE aF)):List (Nat×PE aF):=[(1,.val (.kF 4)),(2,.loc 0 0),(4,.val (.map 5)),(21,xL 3 J.o),(22,xi J.o.length),(23,xi a)]++x
abbrev UZ(J:Jb)(f:Nat)(t:List (V×Int))(now:List (S3×Int))(a:Int)(x:List (Nat×PE aF)):aS aF:=⟨akr J a x,[J.ps (.fn f [] [])],HN J f t now⟩
abbrev ntE:Nat:=BG Qp 136
abbrev ExE(n:Nat)(c:Code)(s:aS aF)(e:Ex)(s':aS aF):Prop:=dN X0 Qp T (bP (n+1)) LL 136 false ntE 5 c s e s'
abbrev ExD(n:Nat)(c:Code)(s:aS aF)(Q:Ex->aS aF->Prop):Prop:=aK X0 Qp T (bP (n+1)) Ce LL 136 ntE 5 c s Q
section
variable {n:Nat} {J:Jb} (hJ:jU J) {f:Nat} (t:List (V×Int)) {now:List (S3×Int)} {a:Nat}
include hJ
set_option maxRecDepth 20000 in
theorem afB(h:yt J a now)(aQ:a<J.o.length):ExD n ZK (UZ J f t now a []) fun e s=>e=.norm∧∃Js,yt J (a+1) Js∧kZ 5 [.gc [6]] (gG X0 (T.eH 136 (dU ZK)) s)=some (UZ J f t Js ((a+1:Nat):Int) []):=by
 have hr:J.o.drop a=J.o.getD a 0::J.o.drop (a+1):=by
  rw[a6q aQ];simp[List.getD,a0b aQ]
 have QF:J.o.length<=6:=by rw[(jU.o2 hJ).2.1];exact hJ.dw.len
 have t1:decide ((a:Int)<(J.o.length:Int))=true:=bD aQ;have e0:ZK=.seq (eF ZK) (.seq (.cond (.tmp 24) .skip (.exit 0)) (.seq (.block 1 bB1) (eG (eG (eG ZK))))):=by kernel_rfl
 have e1:bB1=.seq (eF bB1) (.seq (eF (eG bB1)) (.seq (.seq (eF (eF (eG (eG bB1)))) (.block 2 (.loop bIB))) (eG (eG (eG bB1))))):=by kernel_rfl
 have x3:ExE n (eF ZK) (UZ J f t now a []) .norm (UZ J f t now a [(24,.val (.bool (decide ((a:Int)<(J.o.length:Int)))))]):=zJ hX fZ (by kernel_rfl) (.r rfl);have hc:zN (UZ J f t now a [(24,.val (.bool (decide ((a:Int)<(J.o.length:Int)))))]).env (.tmp 24)=some (.bool true):=by rw[<-t1];kernel_rfl
 have i1:gQ (a:Int) J.o.length:=aH aQ;have x4:ExE n (eF bB1) (UZ J f t now a [(24,.val (.bool (decide ((a:Int)<(J.o.length:Int)))))]) .norm ⟨[(1,.val (.kF 4)),(2,.loc 0 0),(4,.val (.map 5)),(6,xi (J.o.getD a 0)),(21,xL 3 J.o),(22,xi J.o.length),(23,xi a)],[J.ps (.fn f [] [])],HN J f t now⟩:=zJ hX fZ (by kernel_rfl) (.o i1 (.r rfl));have x5:ExE n (eF (eG bB1)) ⟨[(1,.val (.kF 4)),(2,.loc 0 0),(4,.val (.map 5)),(6,xi (J.o.getD a 0)),(21,xL 3 J.o),(22,xi J.o.length),(23,xi a)],[J.ps (.fn f [] [])],HN J f t now⟩ .norm ⟨[(1,.val (.kF 4)),(2,.loc 0 0),(4,.val (.map 5)),(6,xi (J.o.getD a 0)),(7,.val (.map 6)),(21,xL 3 J.o),(22,xi J.o.length),(23,xi a)],[J.ps (.fn f [] [])],HN J f t now++[.map []]⟩:=zJ hX fZ (by kernel_rfl) (.r rfl);have x6:ExE n (eF (eF (eG (eG bB1)))) ⟨[(1,.val (.kF 4)),(2,.loc 0 0),(4,.val (.map 5)),(6,xi (J.o.getD a 0)),(7,.val (.map 6)),(21,xL 3 J.o),(22,xi J.o.length),(23,xi a)],[J.ps (.fn f [] [])],HN J f t now++[.map []]⟩ .norm ⟨a3w J (J.o.getD a 0) a,[J.ps (.fn f [] [])],HN J f t now++[.map (kS.im []),.cZ 5 (kS.im now).length []]⟩:=zJ hX fZ (by kernel_rfl) (.r rfl);rw[kS.oV now]at x6;rw[e0];refine aK.AX (by kernel_rfl) x3 (aK.seq (R:=fun e s=>e=.norm∧s=UZ J f t now a [(24,.val (.bool (decide ((a:Int)<(J.o.length:Int)))))]) (aK.cond (t:=true) hc (aK.step (by kernel_rfl) (zJ hX fZ (an:=.n) (by kernel_rfl) (.r rfl)) ⟨rfl,rfl⟩)) (fun s hs=>?_) (fun i s h=>by cases h.1) (fun s h=>by cases h.1));obtain⟨_,rfl⟩:=hs;refine aK.seq (R:=fun e s=>e=.norm∧∃next seen,yt J (a+1) next∧s=⟨[(1,.val (.kF 4)),(2,.loc 0 0),(4,.val (.map 6)),(21,xL 3 J.o),(22,xi J.o.length),(23,xi a)],[J.ps (.fn f [] [])],HI J f t now next seen⟩) ?_ (fun s hs=>?_) (fun i s h=>by cases h.1) (fun s h=>by cases h.1)
 .refine aK.block ?_;rw[e1];refine(aK.AX (by kernel_rfl) x4 (aK.AX (by kernel_rfl) x5 (aK.seq (R:=fun e s=>e=.norm∧∃next seen,NI J (a+1) next∧(∀ψ,dF (xG J ψ (J.o.drop (a+1))) next=dF (xG J ψ (J.o.getD a 0::J.o.drop (a+1))) now)∧s={ sH J f t now next (J.o.getD a 0) a seen with env:=iY (T.iy 136 7) ((31,.val (.bool false))::(30,.val (.dI [.bool false]))::a3w J (J.o.getD a 0) a) }) (Q:=fun e s=>e=.norm∧∃next seen,yt J (a+1) next∧s=⟨[(1,.val (.kF 4)),(2,.loc 0 0),(4,.val (.map 6)),(21,xL 3 J.o),(22,xi J.o.length),(23,xi a)],[J.ps (.fn f [] [])],HI J f t now next seen⟩) (aK.AX (by kernel_rfl) x6 (inLoop (n:=n) hJ t now hr h)) (fun s hs=>?_) (fun i s h=>by cases h.1) (fun s h=>by cases h.1)))).mono fun e s h=>?_
  .obtain⟨_,next,seen,g1,g2,rfl⟩:=hs;refine aK.step (by kernel_rfl) (zJ (ps1:=⟨[(1,.val (.kF 4)),(2,.loc 0 0),(4,.val (.map 6)),(21,xL 3 J.o),(22,xi J.o.length),(23,xi a)],[J.ps (.fn f [] [])],HI J f t now next seen⟩) hX fZ (an:=.n) (by kernel_rfl) (.r rfl)) ⟨rfl,next,seen,⟨g1,fun ψ=>?_⟩,rfl⟩;rw[g2,<-hr,h.s]
  obtain⟨rfl,h2⟩:=h;exact⟨rfl,h2⟩
 obtain⟨_,next,seen,g1,rfl⟩:=hs;refine aK.step (by kernel_rfl) (zJ (ps1:=⟨[(1,.val (.kF 4)),(2,.loc 0 0),(4,.val (.map 6)),(21,xL 3 J.o),(22,xi J.o.length),(23,xi (i64.wrap ((a:Int)+1)))],[J.ps (.fn f [] [])],HI J f t now next seen⟩) hX fZ (an:=.n) (by kernel_rfl) (.r rfl)) ⟨rfl,next,g1,?_⟩;rw[y9 (by unfold ah;omega)]
 kernel_rfl
set_option maxRecDepth 20000 in
theorem a7N:ExD n ZK (UZ J f t now J.o.length []) fun e s=>e=.exit 0∧s=UZ J f t now J.o.length [(24,.val (.bool (decide ((J.o.length:Int)<(J.o.length:Int)))))]:=by
 have t1:decide ((J.o.length:Int)<(J.o.length:Int))=false:=fF _;have e0:ZK=.seq (eF ZK) (.seq (.cond (.tmp 24) .skip (.exit 0)) (.seq (.block 1 bB1) (eG (eG (eG ZK))))):=by kernel_rfl
 have x3:ExE n (eF ZK) (UZ J f t now J.o.length []) .norm (UZ J f t now J.o.length [(24,.val (.bool (decide ((J.o.length:Int)<(J.o.length:Int)))))]):=zJ hX fZ (by kernel_rfl) (.r rfl);have hc:zN (UZ J f t now J.o.length [(24,.val (.bool (decide ((J.o.length:Int)<(J.o.length:Int)))))]).env (.tmp 24)=some (.bool false):=by rw[<-t1];kernel_rfl
 rw[e0];refine aK.AX (by kernel_rfl) x3 (aK.seq (R:=fun e s=>e=.exit 0∧s=UZ J f t now J.o.length [(24,.val (.bool (decide ((J.o.length:Int)<(J.o.length:Int)))))]) (aK.cond (t:=false) hc (aK.step (by kernel_rfl) (zJ hX fZ (an:=.n) (by kernel_rfl) (.r rfl)) ⟨rfl,rfl⟩)) (fun s hs=>by cases hs.1) (fun i s h=>h) (fun s h=>by cases h.1))
set_option maxRecDepth 20000 in
theorem aaF(h:yt J 0 now):ExD n (.block 0 (.loop ZK)) (UZ J f t now 0 []) fun e s=>e=.norm∧∃Js,yt J J.o.length Js∧s=UZ J f t Js J.o.length [(24,.val (.bool (decide ((J.o.length:Int)<(J.o.length:Int)))))]:=by
 have QF:J.o.length<=6:=by rw[(jU.o2 hJ).2.1];exact hJ.dw.len
 refine aK.block ?_;refine aK.loop (fun k s=>∃a Js gs,a+k=J.o.length∧yt J a Js∧kZ 5 gs (gG X0 (T.eH 136 (dU ZK)) s)=some (UZ J f t Js (a:Int) [])) (fun k s hi=>?_) (k:=J.o.length) ⟨0,now,[],by omega,h,by kernel_rfl⟩ (by unfold LL;omega);obtain⟨a,Js,gs,hk,h1,h2⟩:=hi;refine aK.ghost hX h2 ?_;rcases a3V a J.o.length with aQ|En
 .refine(afB (n:=n) hJ t h1 aQ).mono fun e s h3=>?_;obtain⟨rfl,apz,h4,h5⟩:=h3;exact⟨k-1,by omega,a+1,apz,_,by omega,h4,h5⟩
 have:a=J.o.length:=by omega
 subst this;refine(a7N (n:=n) hJ t).mono fun e s h3=>?_;obtain⟨rfl,rfl⟩:=h3;dsimp only;rw[a0i rfl];exact⟨rfl,Js,h1,rfl⟩
end
open Go Tw Pv cO
def XZ(φ:V->Int)(l:List V):Int:=if ql (l.drop 1)=true then φ (l.getD 0 V0)else 0
theorem afC(φ:V->Int)(l:List V)(w:Int)(t:List (V×Int)):dF φ (yT l w t)=dF φ t+w*XZ φ l:=by
 unfold yT XZ;cases ql (l.drop 1)
 .rw[a0g (by simp),a0g (by simp)];omega
 rw[a0i rfl,a0i rfl,zF]
abbrev sH2(J:Jb)(f:Nat)(t:List (V×Int))(now:List (S3×Int))(seen:List Nat):aS aF:=⟨[(1,.val (.kF 4)),(2,.loc 0 0),(94,.val (.iter 6))],[J.ps (.fn f [] [])],Qm J f true none t++[.map (kS.im now),.cZ 5 now.length seen]⟩
structure ZL(t:List (V×Int)):Prop where
 nd:(t.map (·.1)).Nodup
 pos:∀e∈t,0<e.2
theorem ZL.y{t:List (V×Int)}(h:ZL t)(l:List V){w:Int}(hw:0<w):ZL (yT l w t):=by
 unfold yT;split
 .exact⟨FH h.nd _ _,Pg hw h.pos⟩
 exact h
section
variable {n:Nat} {J:Jb} (hJ:jU J) {f:Nat} {now:List (S3×Int)}
def apA(J:Jb)(f:Nat)(now:List (S3×Int))(seen:List Nat)(s:aS aF):Prop:=
 seen.Nodup∧(∀j∈seen,j<now.length)∧∃t,ZL t∧(∀φ,dF φ t=dV (fun j=>(nowAt now j).2*XZ φ (aU J.D (nowAt now j).1)) seen)∧gG X0 (T.eH 136 (dU bL2)) s=sH2 J f t now seen
theorem aks(l:List V):0<=XZ (fun _=>1) l∧XZ (fun _=>1) l<=1:=by
 unfold XZ;split<;>simp
include hJ
theorem afD(h:yt J J.o.length now){seen:List Nat}(jm:seen.Nodup)(aQ:∀j∈seen,j<now.length){t:List (V×Int)}(ht:ZL t)(hs:∀φ,dF φ t=dV (fun j=>(nowAt now j).2*XZ φ (aU J.D (nowAt now j).1)) seen):Tal t:=by
 refine⟨ht.nd,ht.pos,fun e he=>?_⟩;have h1:=(I5 ht.pos).2 e he;have hp:∀j,j<now.length->0<(nowAt now j).2:=fun k hk=>h.i.pos _ (fK (d:=(⟨⟨0,0,0⟩,0⟩:S3×Int)) hk);have h2:=UY (φ:=fun j=>(nowAt now j).2*XZ (fun _=>1) (aU J.D (nowAt now j).1)) jm aQ fun k hk=>adu (afe (hp k hk)) (aks _).1;have h3:dV (fun j=>(nowAt now j).2*XZ (fun _=>1) (aU J.D (nowAt now j).1)) (List.range now.length)<=dV (fun j=>(nowAt now j).2*1) (List.range now.length):=by
  have:∀l:List Nat,(∀j∈l,j<now.length)->dV (fun j=>(nowAt now j).2*XZ (fun _=>1) (aU J.D (nowAt now j).1)) l<=dV (fun j=>(nowAt now j).2*1) l:=by
   intro l
   induction l with
   |nil=>intro _;exact a96 _
   |cons j l ih=>
    intro hl;have:=ih fun k hk=>hl k (by simp[hk]);have:=a8v (aks (aU J.D (nowAt now j).1)).2 (afe (hp j (hl j (by simp))));simp only[dV];omega
  exact this _ fun j hj=>a4b.1 hj
 rw[I7 (φ:=fun _=>1)]at h3;have h4:=MJ hJ now h;rw[List.drop_length]at h4;have h4:dF (fun _=>1) now<=2000:=h4;rw[<-hs]at h2;omega
set_option maxRecDepth 20000 in
theorem a3x(hO:Ok n qB)(h:yt J J.o.length now)(hD:0<J.D.length):aK X0 Qp T (bP (n+1)) Ce LL 136 ntE 5 (.block 7 (.loop bL2)) (sH2 J f [] now [])
  fun e s=>e=.norm∧∃t seen,ZL t∧(∀φ,dF φ t=dF (fun st=>XZ φ (aU J.D st)) now)∧s={ sH2 J f t now seen with env:=iY (T.iy 136 23) ((96,.val (.bool false))::(95,.val (.dI [.bool false]))::(sH2 J f t now seen).env) }:=by
 have e0:bL2=.seq (.region 23 (a7G (eF bL2)) false) (.seq (.cond (.tmp 96) .skip (.exit 7)) (.block 8 bX2)):=by kernel_rfl
 rw[e0];have hlen:=a1J hJ now h;refine UU hX (n:=now.length) (b:=6) (r:=5) (it:=94) (nx:=95) (mo:=96) (es:=kS.im now) (fun seen s=>apA J f now seen s) (by kernel_rfl) (a7p (by kernel_rfl)) (a7p (by kernel_rfl)) (kS.oV now) (by unfold LL;omega)
  ⟨a5F,(fun j hj=>(by cases hj)),[],⟨a5F,(fun e he=>(by cases he))⟩,(fun φ=>rfl),(by kernel_rfl)⟩ (fun seen s hi=>?_)
 obtain⟨jm,aQ,t,h1,h2,h3⟩:=hi;rw[<-e0];refine⟨_,h3,by kernel_rfl,by kernel_rfl,by kernel_rfl,fun ho=>⟨by kernel_rfl,t,seen,h1,fun φ=>?_,rfl⟩,fun j e hj he=>⟨by kernel_rfl,?_⟩⟩
 .rw[h2,Po jm aQ ho,I7 (φ:=fun st=>XZ φ (aU J.D st))]
 .rw[kS.AU,a06]at he;obtain⟨⟨st,w⟩,rQ,rfl⟩:=he;obtain⟨q1,q2,q3⟩:=XW rQ;have FK:(j::seen).Nodup:=a3Z.2 ⟨hj,jm⟩;have FM:∀k∈j::seen,k<now.length:=fun k hk=>by
   rcases a2e.1 hk with rfl|hk
   .exact q2
   .exact aQ k hk
  have ho:=a1I rQ;have qg:(aU J.D st).length=J.D.length:=by simp[aU]
  have hw:=h.i.pos _ q3;have hc:=a1B (M:=n) (f:=f) J st hJ.d3 fun k hk=>(Jh hJ (h.i.dp _ q3) hk).2;have hd3:=hJ.d3;have hy:=apt (n:=n) hO J f (afD hJ h jm aQ h1 h2) (aU J.D st) (w:=w) (by omega) (by unfold ah;omega) ⟨hw,hlen.2 _ q3⟩;refine aK.step (e:=.norm) (by kernel_rfl) (zJ (ps1:=⟨[(1,.val (.kF 4)),(2,.loc 0 0),(94,.val (.iter 6)),(106,xl false)],[J.ps (.fn f [] []),st.ps],Qm J f true none (yT (aU J.D st) w t)++[.map (kS.im now),.cZ 5 now.length (j::seen)]⟩) hX fZ (by kernel_rfl) (.c (.dI [.agg st.ps,.int .i64 w]) [] ho (.fr [] hc (.fr [0,1,2,3,4] hy (.b (rfl:(!true)=false) (.r rfl)))))) ⟨.inl rfl,FK,FM,yT (aU J.D st) w t,h1.y _ hw,fun φ=>?_,by kernel_rfl⟩;rw[afC,h2,dV,q1,agz]
def a7O(J:Jb)(t:List (V×Int)):Prop:=ZL t∧∀φ,dF φ t=dV (fun q=>XZ φ (J.D.map fun d=>pG d q)) (Ef J)
omit hJ in
theorem a3y(hJ:jU J):yt J 0 [(fG J.D,1)]:=by
 refine⟨⟨by simp,fun e he=>?_,fun e he=>?_⟩,fun ψ=>?_⟩
 .rw[a2J.1 he];show(0:Int)<1;decide
 .rw[a2J.1 he];exact XM hJ
 simp[dF]
set_option maxRecDepth 20000 in
theorem akt(hO:Ok n qB)(hD:0<J.D.length):aaA X0 Qp (uO Qp T (bP (n+1)) LL) (.fn 136 [.agg (J.ps (.fn f [] []))] []) [.kF 4] (Qm J f true none []) fun v H1=>∃(t:List (V×Int)) (G:List (PB aF)),a7O J t∧H1=Qm J f true none t++G:=by
 refine a1G (t:=SN Qp 136) hX (by kernel_rfl) ?_;have e0:(SN Qp 136).body=.seq (eF Ql) (.seq (eF (eG Ql)) (.seq (.seq (eF (eF (eG (eG Ql)))) (.block 0 (.loop ZK))) (.seq (eF (eG (eG (eG Ql)))) (.block 7 (.loop bL2))))):=by kernel_rfl
 rw[e0];have hs:=ZE (M:=n) (f:=f) (a:=[]) (cc:=[]) (H:=[]) J hJ.d3;have hf:nD X0 Qp 148 (kS.es []) (kS.tv (fG J.D)):=kS.fresh (x:=fG J.D) (by simp);have x0:ExE n (eF Ql) ⟨kR X0 0 [.agg (J.ps (.fn f [] [])),.kF 4],[],Qm J f true none []⟩ .norm ⟨[(1,.val (.kF 4)),(2,.loc 0 0)],[J.ps (.fn f [] [])],Qm J f true none []⟩:=zJ hX fZ (an:=.n) (by kernel_rfl) (.r rfl);have x1:ExE n (eF (eG Ql)) ⟨[(1,.val (.kF 4)),(2,.loc 0 0)],[J.ps (.fn f [] [])],Qm J f true none []⟩ .norm ⟨[(1,.val (.kF 4)),(2,.loc 0 0),(4,.val (.map 5))],[J.ps (.fn f [] [])],HN J f [] [(fG J.D,1)]⟩:=zJ hX fZ (by kernel_rfl) (.fr [] hs (.q (.bool false) (kS.ck (fG J.D)) (.o hf (.r rfl))));have x2:ExE n (eF (eF (eG (eG Ql)))) ⟨[(1,.val (.kF 4)),(2,.loc 0 0),(4,.val (.map 5))],[J.ps (.fn f [] [])],HN J f [] [(fG J.D,1)]⟩ .norm (UZ J f [] [(fG J.D,1)] 0 []):=zJ hX fZ (an:=.n) (by kernel_rfl) (.r rfl);refine aK.AX (by kernel_rfl) x0 (aK.AX (by kernel_rfl) x1 (aK.seq (R:=fun e s=>e=.norm∧∃Js,yt J J.o.length Js∧s=UZ J f [] Js J.o.length [(24,.val (.bool (decide ((J.o.length:Int)<(J.o.length:Int)))))]) (aK.AX (by kernel_rfl) x2 (aaF (n:=n) hJ [] (a3y hJ))) (fun s h=>?_) (fun i s h=>by cases h.1) (fun s h=>by cases h.1)));obtain⟨_,now,h1,rfl⟩:=h;have x3:ExE n (eF (eG (eG (eG Ql)))) (UZ J f [] now J.o.length [(24,.val (.bool (decide ((J.o.length:Int)<(J.o.length:Int)))))]) .norm ⟨[(1,.val (.kF 4)),(2,.loc 0 0),(94,.val (.iter 6))],[J.ps (.fn f [] [])],Qm J f true none []++[.map (kS.im now),.cZ 5 (kS.im now).length []]⟩:=zJ hX fZ (an:=.n) (by kernel_rfl) (.r rfl);rw[kS.oV now]at x3;refine aK.AX (by kernel_rfl) x3 ((a3x hJ hO h1 hD).mono fun e s h=>?_);obtain⟨rfl,t,seen,g1,g2,rfl⟩:=h;refine⟨.inl rfl,[],by kernel_rfl,t,[.map (kS.im now),.cZ 5 now.length seen],⟨g1,fun φ=>?_⟩,rfl⟩;rw[g2];have:=h1.s fun st=>XZ φ (aU J.D st);rw[List.drop_length]at this;rw[<-aau hJ (XZ φ)];exact this
end
open Go Tw Pv cO
def V3(J:Jb):List (List V):=(Ef J).map fun q=>J.D.map fun d=>pG d q
def nR(J:Jb):List V:=((V3 J).filter fun l=>ql (l.drop 1)).map fun l=>l.getD 0 V0
abbrev Y0(e:V×Int):List Int:=QS e.1.tv
def dW(J:Jb):List (V×Int):=yX Y0 (AO (nR J))
theorem a1K(φ:V->Int):∀L:List (List V),dV (XZ φ) L=dV φ ((L.filter fun l=>ql (l.drop 1)).map fun l=>l.getD 0 V0)
 | []=>rfl
 |l::L=>by
  rw[dV,a1K φ L];unfold XZ;cases h:ql (l.drop 1)
  .rw[a0g (by simp),acS (by rw[h];simp)];omega
  rw[a0i rfl,acY (by rw[h]),a3U,dV]
theorem key_inj{l:List (V×Int)}(hn:(l.map (·.1)).Nodup):∀a∈l,∀b∈l,Y0 a=Y0 b->a=b:=fun a ha b hb h=>by
 have h1:a.1=b.1:=by
  have h:[a.1.f,a.1.n]=[b.1.f,b.1.n]:=h;simp only[ae0,and_true]at h;obtain⟨⟨a1,a2⟩,_⟩:=a;obtain⟨⟨b1,b2⟩,_⟩:=b;simp only at h;rw[h.1,h.2]
 have h2:=DY hn ha;have h3:=DY hn hb;rw[h1,h3]at h2;exact acM h1 h2.symm
theorem a7P{J:Jb}{t:List (V×Int)}(h:a7O J t):t.Perm (AO (nR J)):=by
 obtain⟨f1,f2⟩:=FI (nR J);refine UJ h.1.nd f1 h.1.pos f2 fun φ=>?_;rw[h.2,SC];unfold nR;rw[<-a1K];unfold V3;rw[zG]
theorem a7Q{J:Jb}{t:List (V×Int)}(h:a7O J t):yX Y0 t=dW J:=EJ (a7P h) (key_inj h.1.nd)
abbrev aaG(e:V×Int):TV×TV:=(e.1.tv,.int .i64 e.2)
theorem V4:∀t:List (V×Int),wW (kV.im t)=some (t.map aaG)
 | []=>rfl
 |e::t=>by
  have:=V4 t;show(match pR (kV.pv e.1),pR (PV.int .i64 e.2:PV aF),wW (kV.im t)with
   |some k,some v,some r=>some ((k,v)::r)
   |_,_,_=>none)=_
  rw[this];rfl
section
variable {n:Nat} {J:Jb} (hJ:jU J) {f:Nat}
include hJ
set_option maxRecDepth 20000 in
theorem Pq(hO:Ok n qB)(hD:0<J.D.length):aX X0 Qp (bP (n+2)) (.fn 87 [] []) [.agg (J.ps (.fn f [] []))] [] (.map 0) [.map (kV.im (dW J))]:=by
 refine a7D (X:=X0) (P:=Qp) (T:=T) (L:=LL) (n:=n+1) (f:=87) (first:=[]) (cap:=[]) (H:=[]) (t:=SN Qp 87) (es0:=kV.im (dW J)) (a3t:=(dW J).map aaG) hX (by kernel_rfl) (by kernel_rfl) (by kernel_rfl) rfl (V4 _) ?_;have e0:(SN Qp 87).body=.seq (eF XU) (.seq (eF (eG XU)) (.seq (.seq (eF (eF (eG (eG XU)))) (.block 0 (.rangeFunc (.tmp 8) #[9,10] (wU Qp 87) (Aw Qp 87)))) (.seq (eF (eG (eG (eG XU)))) .ret))):=by kernel_rfl
 rw[e0];have x0:dN X0 Qp T (bP (n+1)) LL 87 false (BG Qp 87) 0 (eF XU) ⟨kR X0 0 [.agg (J.ps (.fn f [] []))],[],[]⟩ .norm ⟨[(1,.val (.ptr 0 0 5)),(2,.val (.nil .map))],[],[.cells (J.ps (.fn f [] []))]⟩:=zJ hX fZ (an:=.n) (by kernel_rfl) (.r rfl);have x1:dN X0 Qp T (bP (n+1)) LL 87 false (BG Qp 87) 0 (eF (eG XU)) ⟨[(1,.val (.ptr 0 0 5)),(2,.val (.nil .map))],[],[.cells (J.ps (.fn f [] []))]⟩ .norm ⟨[(1,.val (.ptr 0 0 5)),(2,.val (.nil .map)),(3,.val (.ptr 2 0 1))],[],HQc J f []⟩:=zJ hX fZ (an:=.n) (by kernel_rfl) (.r rfl);have x2:dN X0 Qp T (bP (n+1)) LL 87 false (BG Qp 87) 0 (eF (eF (eG (eG XU)))) ⟨[(1,.val (.ptr 0 0 5)),(2,.val (.nil .map)),(3,.val (.ptr 2 0 1))],[],HQc J f []⟩ .norm ⟨a7J J f,[],HQc J f []⟩:=zJ hX fZ (an:=.n) (by kernel_rfl) (.r rfl);refine aK.AX (by kernel_rfl) x0 (aK.AX (by kernel_rfl) x1 (aK.seq (R:=fun e s=>e=.norm∧∃(t:List (V×Int)) (G:List (PB aF)),a7O J t∧s=⟨a7J J f,[],Qm J f false (some .skip) t++G⟩) (aK.AX (by kernel_rfl) x2 (aK.block ?_)) (fun s h=>?_) (fun i s h=>by cases h.1) (fun s h=>by cases h.1)))
 .refine aK.range (f1:=136) (a1:=[.agg (J.ps (.fn f [] []))]) (b1:=[]) (K:=fun v H1=>∃(t:List (V×Int)) (G:List (PB aF)),a7O J t∧H1=Qm J f true none t++G) hX rfl (by kernel_rfl) (by kernel_rfl) (akt hJ hO hD) (fun v H1 hk=>?_);obtain⟨t,G,h1,rfl⟩:=hk;exact⟨true,_,_,_,_,_,_,none,.norm,rfl,rfl,rfl,t,G,h1,rfl⟩
 obtain⟨_,t,G,h1,rfl⟩:=h;have x3:dN X0 Qp T (bP (n+1)) LL 87 false (BG Qp 87) 0 (.seq (eF (eG (eG (eG XU)))) .ret) ⟨a7J J f,[],Qm J f false (some .skip) t++G⟩ .ret ⟨[(2,.val (.map 1))],[],Qm J f false (some .skip) t++G⟩:=zJ hX fZ (an:=.n) (by kernel_rfl) (.r rfl);refine aK.step (by kernel_rfl) x3 ⟨.inr rfl,[.map 1],by kernel_rfl,1,kV.im t,t.map aaG,rfl,rfl,V4 t,?_⟩;unfold QV;rw[SG (g:=aaG) (key:=Y0) (a7u:=fun e=>QS e.1) (fun _=>rfl),a7Q h1]
end
open Go Tw Pv cO
abbrev Px(t:List (V×Int))(j:Nat):V×Int:=t.getD j (V0,0)
theorem V5{t:List (V×Int)}{j:Nat}{e:V×Int}(h:t[j]? = some e):Px t j=e∧j<t.length∧e∈t:=by
 obtain⟨h1,h2⟩:=a02.1 h;exact⟨by simp[Px,List.getD,h],h1,h2▸a4h h1⟩
theorem afE(t:List (V×Int)):t=(List.range t.length).map fun j=>Px t j:=
 (rJ (d:=((V0,0):V×Int)) (by simp)).2 fun k hk=>by simp[List.getD,hk]
theorem Y1(t:List (V×Int)):dV (fun j=>(Px t j).2) (List.range t.length)=dF (fun _=>1) t:=by
 have h1:dF (fun _=>1) t=dV (fun e:V×Int=>e.2) t:=by
  induction t with
  |nil=>rfl
  |cons e m ih=>simp only[dF,dV,ih,abL]
 rw[h1]
 conv=>rhs;rw[afE t]
 rw[zG]
theorem AY{t:List (V×Int)}{j:Nat}{v:V}{w:Int}(h:t[j]? = some (v,w)):(kV.im t).length=t.length∧(kV.im t)[j]? = some (.agg v.ps,.int .i64 w):=by
 refine⟨kV.oV t,?_⟩;rw[kV.AU,h];rfl
structure Jt(t:List (V×Int)):Prop where
 pos:∀e∈t,0<e.2
 tot:dF (fun _=>1) t<=2000
theorem Jt.len{t:List (V×Int)}(h:Jt t):t.length<=2000:=by
 have h6:∀{m:List (V×Int)},(∀e∈m,0<e.2)->(m.length:Int)<=dF (fun _=>1) m:=by
  intro m
  induction m with
  |nil=>intro _;exact a96 _
  |cons e m ih=>
   intro hp;have:=ih fun e he=>hp e (by simp[he]);have:=hp e (by simp);simp only[dF,a3S,abL];omega
 have:=h6 h.pos;have:=h.tot;omega
abbrev a3z:Code:=(SN Qp 90).body
abbrev lpA:Code:=eF (eF (eG (eF (eG a3z))))
abbrev xA:Code:=eF (eG (eG lpA))
abbrev sA(t:List (V×Int))(z:Int)(js:List Nat):aS aF:=⟨[(2,xi z),(6,.val (.iter 1))],[],[.iE (kV.im t),.cZ 0 t.length js]⟩
section
variable {n:Nat} {t:List (V×Int)}
set_option maxRecDepth 20000 in
theorem apB(h:Jt t):aX X0 Qp (bP (n+1)) (.fn 90 [] []) [.map 0] [.iE (kV.im t)] (.int .i64 (dF (fun _=>1) t)) [.iE (kV.im t)]:=by
 refine aaB (X:=X0) (P:=Qp) (T:=T) (L:=LL) (n:=n) (f:=90) (first:=[]) (cap:=[]) (xs:=[.map 0]) (H:=[.iE (kV.im t)]) (v:=.int .i64 (dF (fun _=>1) t)) (t:=SN Qp 90) (tv:=.int .i64 (dF (fun _=>1) t)) hX (by kernel_rfl) (by kernel_rfl) (by kernel_rfl) rfl rfl ?_;have e0:(SN Qp 90).body=.seq (eF a3z) (.seq (.seq (eF (eF (eG a3z))) (.block 0 (.loop lpA))) (.seq (eF (eG (eG a3z))) .ret)):=by kernel_rfl
 have e1:lpA=.seq (.region 2 (a7G (eF lpA)) false) (.seq (.cond (.tmp 8) .skip (.exit 0)) (.block 1 xA)):=by kernel_rfl
 have x0:dN X0 Qp T (bP n) LL 90 false (BG Qp 90) 1 (eF a3z) ⟨kR X0 0 [.map 0],[],[.iE (kV.im t)]⟩ .norm ⟨[(0,.val (.map 0)),(2,xi 0)],[],[.iE (kV.im t)]⟩:=zJ hX fZ (an:=.n) (by kernel_rfl) (.r rfl);have x1:dN X0 Qp T (bP n) LL 90 false (BG Qp 90) 1 (eF (eF (eG a3z))) ⟨[(0,.val (.map 0)),(2,xi 0)],[],[.iE (kV.im t)]⟩ .norm ⟨[(2,xi 0),(6,.val (.iter 1))],[],[.iE (kV.im t),.cZ 0 (kV.im t).length []]⟩:=zJ hX fZ (an:=.n) (by kernel_rfl) (.r rfl);rw[kV.oV t]at x1;have hlen:=h.len;have hpj:∀j,j<t.length->0<(Px t j).2:=fun k hk=>h.pos _ (fK (d:=((V0,0):V×Int)) hk);rw[e0];refine aK.AX (by kernel_rfl) x0 (aK.seq (R:=fun e s=>e=.norm∧∃seen,s={ sA t (dF (fun _=>1) t) seen with env:=iY (T.iy 90 2) ((8,.val (.bool false))::(7,.val (.dI [.bool false]))::(sA t (dF (fun _=>1) t) seen).env) }) (aK.AX (by kernel_rfl) x1 ?_) (fun s hs=>?_) (fun i s h=>by cases h.1) (fun s h=>by cases h.1))
 .rw[e1];refine UU hX (n:=t.length) (b:=1) (r:=0) (it:=6) (nx:=7) (mo:=8) (es:=kV.im t) (fun seen s=>seen.Nodup∧(∀j∈seen,j<t.length)∧gG X0 (T.eH 90 (dU lpA)) s=sA t (dV (fun j=>(Px t j).2) seen) seen) (by kernel_rfl) (a7p (by kernel_rfl)) (a7p (by kernel_rfl)) (kV.oV t) (by unfold LL;omega)
   ⟨a5F,(fun j hj=>(by cases hj)),(by kernel_rfl)⟩ (fun seen s hi=>?_)
  obtain⟨jm,aQ,h3⟩:=hi;rw[<-e1];refine⟨_,h3,by kernel_rfl,by kernel_rfl,by kernel_rfl,fun ho=>⟨by kernel_rfl,seen,?_⟩,fun j e hj he=>⟨by kernel_rfl,?_⟩⟩
  .rw[Po jm aQ ho,Y1]
  rw[kV.AU,a06]at he;obtain⟨⟨v,w⟩,rQ,rfl⟩:=he;obtain⟨q1,q2,q3⟩:=V5 rQ;have FK:(j::seen).Nodup:=a3Z.2 ⟨hj,jm⟩;have FM:∀k∈j::seen,k<t.length:=fun k hk=>by
   rcases a2e.1 hk with rfl|hk
   .exact q2
   exact aQ k hk
  have hb:=UY (φ:=fun j=>(Px t j).2) FK FM fun k hk=>afe (hpj k hk);have zL:=UW (φ:=fun j=>(Px t j).2) (l:=seen) fun k hk=>afe (hpj k (aQ k hk));rw[Y1,dV,q1]at hb;have ht:=h.tot;have hw:=h.pos _ q3;have Yb:i64.wrap (dV (fun j=>(Px t j).2) seen+w)=dV (fun j=>(Px t j).2) (j::seen):=by
   rw[eP (by have:(0:Int)<w:=hw;omega) (by have:w+dV (fun j=>(Px t j).2) seen<=dF (fun _=>1) t:=hb;omega),dV,q1,agz]
  refine aK.step (e:=.norm) (by kernel_rfl) (zJ (ps1:=⟨[(2,xi (i64.wrap (dV (fun j=>(Px t j).2) seen+w))),(6,.val (.iter 1))],[],[.iE (kV.im t),.cZ 0 t.length (j::seen)]⟩) hX fZ (by kernel_rfl) (.c (.dI [.agg v.ps,.int .i64 w]) [] (AY rQ) (.r rfl))) ⟨.inl rfl,FK,FM,?_⟩;rw[Yb]
  kernel_rfl
 obtain⟨_,seen,rfl⟩:=hs;exact aK.step (by kernel_rfl) (zJ (e:=.ret) (ps1:=⟨[(2,xi (dF (fun _=>1) t))],[],[.iE (kV.im t),.cZ 0 t.length seen]⟩) hX fZ (an:=.n) (by kernel_rfl) (.r rfl)) ⟨.inr rfl,[.int .i64 (dF (fun _=>1) t)],by kernel_rfl,rfl⟩
end
open Go Tw Pv cO
abbrev ZM:Code:=(SN Qp 88).body
abbrev lpB:Code:=eF (eF (eG (eF (eG ZM))))
abbrev xB:Code:=eF (eG (eG lpB))
def Dq(t:List (V×Int))(js:List Nat):List Int:=(js.reverse.filter fun j=>!decide ((Px t j).1.f>0)).map fun j=>(Px t j).1.n
def fOf(t:List (V×Int))(js:List Nat):Bool:=js.any fun j=>decide ((Px t j).1.f>0)
theorem a3A(t:List (V×Int))(j:Nat)(js:List Nat):Dq t (j::js)=Dq t js++(if decide ((Px t j).1.f>0)=true then []else [(Px t j).1.n]):=by
 unfold Dq;rw[List.reverse_cons,List.filter_append,a3T];congr 1;cases h:decide ((Px t j).1.f>0)
 .rw[acY (by rw[h];rfl),a0g (by simp)];rfl
 rw[acS (by rw[h];simp),a0i rfl];rfl
def lH(t:List (V×Int)):List Int:=gK ((t.filter fun e=>!decide (e.1.f>0)).map fun e=>e.1.n)
def uI(t:List (V×Int)):Bool:=t.any fun e=>decide (e.1.f>0)
theorem ZN{l l':List Int}(h:l.Perm l'):gK l=gK l':=by
 unfold gK;have hs:∀l:List Int,(l.mergeSort fun x y=>decide (x<=y)).Pairwise fun a b=>decide (a<=b)=true:=fun l=>
  List.pairwise_mergeSort (fun a b c h1 h2=>by simp at *;omega) (fun a b=>by simp;omega) l
 exact List.Perm.eq_of_pairwise (le:=fun a b=>decide (a<=b)=true) (fun a b _ _ h1 h2=>by simp at h1 h2;omega) (hs l) (hs l') ((adL l _).trans (h.trans (adL l' _).symm))
theorem afG{t:List (V×Int)}{js:List Nat}(hn:js.Nodup)(hl:∀j∈js,j<t.length)(ha:∀j,j<t.length->j∈js):gK (Dq t js)=lH t∧fOf t js=uI t:=by
 have hp:(js.reverse).Perm (List.range t.length):=(List.reverse_perm js).trans ((a7c hn adA).2 fun j=>⟨fun h=>a4b.2 (hl j h),fun h=>ha j (a4b.1 h)⟩);constructor
 .refine ZN ?_;unfold Dq;have e:((t.filter fun e=>!decide (e.1.f>0)).map fun e=>e.1.n)=((List.range t.length).filter fun j=>!decide ((Px t j).1.f>0)).map fun j=>(Px t j).1.n:=by
   conv=>lhs;rw[afE t]
   rw[List.filter_map,a6r];rfl
  rw[e];exact(hp.filter _).map _
 unfold fOf uI;rw[a4i,ags,ags];constructor
 .rintro⟨j,hj,h⟩;exact⟨Px t j,fK (d:=((V0,0):V×Int)) (hl j hj),h⟩
 rintro⟨e,he,h⟩;obtain⟨j,hj,rfl⟩:=a4m.1 he;exact⟨j,ha j hj,by rw[(V5 (a0b hj)).1];exact h⟩
abbrev sBl(t:List (V×Int))(l:List Int)(b:Bool)(js:List Nat):aS aF:=match l with
 | []=>⟨[(2,.val (.nil .slc)),(3,xl b),(6,.val (.iter 1))],[],[.iE (kV.im t),.cZ 0 t.length js]⟩
 |x::l=>⟨[(2,.val (.own 2)),(3,xl b),(6,.val (.iter 1))],[],[.iE (kV.im t),.cZ 0 t.length js,.list false false 3 (x::l)]⟩
theorem afH{n:Nat}:aX X0 Qp (bP (n+1)) (.fn 137 [] []) [.nil .slc] [] (.dI []) []:=by
 intro A m h tf rU hr hf hx;obtain⟨x,r,rfl,h1,h2⟩:=hx.inv;have:=h2.inv0;subst this;have htf:=hf.Un;subst htf;have hx:x=.nil .slc:=jH h1 rfl;subst hx;exact⟨.dI [],h,[],m,rfl,hr,.dI rfl (fun i x y hx=>by simp at hx),.refl,.refl,fun b hb=>by cases hb⟩
section
variable {n:Nat} {t:List (V×Int)}
set_option maxRecDepth 20000 in
theorem aaH(h:Jt t):aK X0 Qp T (bP (n+1)) (uO Qp T (bP (n+1)) LL) LL 88 (BG Qp 88) 1 (.block 0 (.loop lpB)) (sBl t [] false [])
  fun e s=>e=.norm∧∃l seen,gK l=lH t∧s={ sBl t l (uI t) seen with env:=iY (T.iy 88 2) ((8,.val (.bool false))::(7,.val (.dI [.bool false]))::(sBl t l (uI t) seen).env) }:=by
 have e1:lpB=.seq (.region 2 (a7G (eF lpB)) false) (.seq (.cond (.tmp 8) .skip (.exit 0)) (.block 1 xB)):=by kernel_rfl
 have hlen:=h.len;rw[e1];refine Pn hX (n:=t.length) (b:=1) (r:=0) (it:=6) (nx:=7) (mo:=8) (es:=kV.im t) (fun seen s=>seen.Nodup∧(∀j∈seen,j<t.length)∧∃gs,kZ 1 gs (gG X0 (T.eH 88 (dU lpB)) s)=some (sBl t (Dq t seen) (fOf t seen) seen)) (by kernel_rfl) (a7p (by kernel_rfl)) (a7p (by kernel_rfl)) (kV.oV t) (by unfold LL;omega)
  ⟨a5F,(fun j hj=>(by cases hj)),[],(by kernel_rfl)⟩ (fun seen s hi=>?_)
 obtain⟨jm,aQ,gs,h3⟩:=hi;rw[<-e1];refine⟨gs,_,h3,?_,?_,?_,fun ho=>?_,fun j e hj he=>?_⟩
 .cases Dq t seen<;>kernel_rfl
 .cases Dq t seen<;>kernel_rfl
 .cases Dq t seen<;>kernel_rfl
 .obtain⟨a1,a2⟩:=afG jm aQ ho;refine⟨?_,Dq t seen,seen,a1,?_⟩
  .cases Dq t seen<;>kernel_rfl
  .rw[a2]
 .rw[kV.AU,a06]at he;obtain⟨⟨v,w⟩,rQ,rfl⟩:=he;obtain⟨q1,q2,q3⟩:=V5 rQ;have FK:(j::seen).Nodup:=a3Z.2 ⟨hj,jm⟩;have FM:∀k∈j::seen,k<t.length:=fun k hk=>by
   rcases a2e.1 hk with rfl|hk
   .exact q2
   .exact aQ k hk
  have hll:(Dq t seen).length<=2000:=by
   have h1:(Dq t seen).length<=seen.length:=by
    unfold Dq;rw[a4a];exact a4E (a8Q ..) (by simp)
   have h2:seen.length<=t.length:=by
    have:=(Jr jm aQ).length_eq;have h3:=a8Q (fun j=>seen.contains j) (List.range t.length);rw[a8E]at h3;omega
   omega
  have Dv:=a3A t j seen;have hf2:fOf t (j::seen)=(decide (v.f>0)||fOf t seen):=by unfold fOf;rw[ad6,q1]
  rw[q1]at Dv;generalize fOf t seen=b at hf2;have Dv:Dq t (j::seen)=Dq t seen++(if decide (v.f>0)=true then []else [v.n]):=Dv;generalize Dq t seen=l at Dv hll;cases hv:decide (v.f>0)
  .rw[hv,a0g (by simp)]at Dv;rw[hv,agp]at hf2;have hv1:decide (v.f>0)=false:=hv;cases l with
   |nil=>
    have a1:[v.n].length<=ah:=by rw[a3P];unfold ah;omega
    refine⟨by kernel_rfl,aK.step (e:=.norm) (by kernel_rfl) (zJ (ps1:=⟨[(2,.val (.own 3)),(3,xl b),(6,.val (.iter 1))],[v.ps],[.iE (kV.im t),.cZ 0 t.length (j::seen),.list true true 3 [v.n],.list true false 3 [v.n]]⟩) hX fZ (by kernel_rfl) (.c (.dI [.agg v.ps,.int .i64 w]) [] (AY rQ) (.b hv1 (.o a1 (.r rfl))))) ⟨.inl rfl,FK,FM,[.flag 3,.gc [1,3]],?_⟩⟩;rw[Dv,hf2]
    kernel_rfl
   |cons x l=>
    have a1:(x::l).length+[v.n].length<=ah:=by rw[a3P];unfold ah;omega
    refine⟨by kernel_rfl,aK.step (e:=.norm) (by kernel_rfl) (zJ (ps1:=⟨[(2,.val (.own 4)),(3,xl b),(6,.val (.iter 1))],[v.ps],[.iE (kV.im t),.cZ 0 t.length (j::seen),.gone,.list true true 3 [v.n],.list false false 3 (x::l++[v.n])]⟩) hX fZ (by kernel_rfl) (.c (.dI [.agg v.ps,.int .i64 w]) [] (AY rQ) (.b hv1 (.o a1 (.r rfl))))) ⟨.inl rfl,FK,FM,[.gc [1,4]],?_⟩⟩;rw[Dv,hf2]
    kernel_rfl
  .rw[hv,a0i rfl,a5J]at Dv;rw[hv,Bool.true_or]at hf2;have hv1:decide (v.f>0)=true:=hv;cases l with
   |nil=>
    refine⟨by kernel_rfl,aK.step (e:=.exit 1) (by kernel_rfl) (zJ (ps1:=⟨[(2,.val (.nil .slc)),(3,xl true),(6,.val (.iter 1))],[v.ps],[.iE (kV.im t),.cZ 0 t.length (j::seen)]⟩) hX fZ (by kernel_rfl) (.c (.dI [.agg v.ps,.int .i64 w]) [] (AY rQ) (.b hv1 (.r rfl)))) ⟨.inr rfl,FK,FM,[],?_⟩⟩;rw[Dv,hf2]
    kernel_rfl
   |cons x l=>
    refine⟨by kernel_rfl,aK.step (e:=.exit 1) (by kernel_rfl) (zJ (ps1:=⟨[(2,.val (.own 2)),(3,xl true),(6,.val (.iter 1))],[v.ps],[.iE (kV.im t),.cZ 0 t.length (j::seen),.list false false 3 (x::l)]⟩) hX fZ (by kernel_rfl) (.c (.dI [.agg v.ps,.int .i64 w]) [] (AY rQ) (.b hv1 (.r rfl)))) ⟨.inr rfl,FK,FM,[],?_⟩⟩;rw[Dv,hf2]
    kernel_rfl
theorem E5:∀l:List Int,iI (Ed X0 3 l)=some (l.map fun n=>TV.int .i64 n)
 | []=>rfl
 |a::l=>by
  have:=E5 l;show(match qP (PV.int .i64 a:PV aF),iI (Ed X0 3 l)with
   |some a,some b=>some (a::b)
   |_,_=>none)=_
  rw[this];rfl
theorem a3B{mM:Bool}{b:Bool}{Hs:List (PB aF)}:a3s X0 Qp mM (.dI [.nil .slc,.bool b]) Hs (fun _=>.dI [.nil .slc,.bool b]) []:=fun A m h h1 w hr hw _=>by
 cases hw with
 |gone hi _ _=>simp[bn]at hi
 |dI a1 a2=>
  obtain⟨x,r,rfl,v0,v1⟩:=Pv.bV.inv (⟨a1,a2⟩:Pv.bV X0 Qp _ _ _ _ _);obtain⟨y,r,rfl,v2,v3⟩:=v1.inv;have:=v3.inv0;subst this;have:=jH v2 (show pR (PV.bool b:PV aF)=some (TV.bool b)from rfl);subst this;have:=jH v0 (show pR (PV.nil .slc:PV aF)=some (TV.nil .slc)from rfl);subst this;unfold NQ;simp only[Bz,Bz.Eu,wF,mZ,mZ.yV,Ci,TW,KJ,a3U,abq,a5J,a0U]
set_option maxRecDepth 20000 in
theorem adb(h:Jt t):(lH t=[]->aX X0 Qp (bP (n+2)) (.fn 88 [] []) [.map 0] [.iE (kV.im t)] (.dI [.nil .slc,.bool (uI t)]) [.iE (kV.im t)]) ∧
  (lH t≠[]->aX X0 Qp (bP (n+2)) (.fn 88 [] []) [.map 0] [.iE (kV.im t)] (.dI [.own 1,.bool (uI t)]) [.iE (kV.im t),.list false false 3 (lH t)]):=by
 have e0:(SN Qp 88).body=.seq (eF ZM) (.seq (.seq (eF (eF (eG ZM))) (.block 0 (.loop lpB))) (eG (eG ZM))):=by kernel_rfl
 have x0:dN X0 Qp T (bP (n+1)) LL 88 false (BG Qp 88) 1 (eF ZM) ⟨kR X0 0 [.map 0],[],[.iE (kV.im t)]⟩ .norm ⟨[(0,.val (.map 0)),(2,.val (.nil .slc)),(3,xl false)],[],[.iE (kV.im t)]⟩:=zJ hX fZ (an:=.n) (by kernel_rfl) (.r rfl);have x1:dN X0 Qp T (bP (n+1)) LL 88 false (BG Qp 88) 1 (eF (eF (eG ZM))) ⟨[(0,.val (.map 0)),(2,.val (.nil .slc)),(3,xl false)],[],[.iE (kV.im t)]⟩ .norm ⟨[(2,.val (.nil .slc)),(3,xl false),(6,.val (.iter 1))],[],[.iE (kV.im t),.cZ 0 (kV.im t).length []]⟩:=zJ hX fZ (an:=.n) (by kernel_rfl) (.r rfl);rw[kV.oV t]at x1;have run:∀Q:Ex->aS aF->Prop,(∀l seen,gK l=lH t->aK X0 Qp T (bP (n+1)) (uO Qp T (bP (n+1)) LL) LL 88 (BG Qp 88) 1 (eG (eG ZM)) { sBl t l (uI t) seen with env:=iY (T.iy 88 2) ((8,.val (.bool false))::(7,.val (.dI [.bool false]))::(sBl t l (uI t) seen).env) } Q) ->
   aK X0 Qp T (bP (n+1)) (uO Qp T (bP (n+1)) LL) LL 88 (BG Qp 88) 1 (SN Qp 88).body ⟨kR X0 0 [.map 0],[],[.iE (kV.im t)]⟩ Q:=fun Q hQ=>by
  rw[e0];refine aK.AX (by kernel_rfl) x0 (aK.seq (R:=fun e s=>e=.norm∧∃l seen,gK l=lH t∧s={ sBl t l (uI t) seen with env:=iY (T.iy 88 2) ((8,.val (.bool false))::(7,.val (.dI [.bool false]))::(sBl t l (uI t) seen).env) }) (aK.AX (by kernel_rfl) x1 (aaH (n:=n) h)) (fun s hs=>?_) (fun i s h=>by cases h.1) (fun s h=>by cases h.1));obtain⟨_,l,seen,h1,rfl⟩:=hs;exact hQ l seen h1
 have hlen:∀l:List Int,gK l=lH t->l.length<=2^20:=fun l hl=>by
  have h1:(gK l).length=l.length:=by unfold gK;rw[aa1]
  have h2:(lH t).length<=t.length:=by
   unfold lH gK;rw[aa1,a4a];exact a8Q ..
  have:=h.len;rw[hl]at h1;omega
 have apD:gK []=([]:List Int):=by simp[gK]
 constructor
 .intro hn;have:=Dn (X:=X0) (P:=Qp) (T:=T) (L:=LL) (n:=n+1) (f:=88) (first:=[]) (cap:=[]) (xs:=[.map 0]) (H:=[.iE (kV.im t)]) (N:=[]) (v:=.dI [.nil .slc,.bool (uI t)]) (tv:=fun _=>.dI [.nil .slc,.bool (uI t)]) (tN:=[]) (t:=SN Qp 88) hX (by kernel_rfl) (by kernel_rfl) (by kernel_rfl) rfl (fun A m h hr=>⟨m,by simpa using hr,Pv.bV.cons (.nil .slc) (.cons (.bool _) .nil) |> fun h=>.dI h.1 h.2,by simpa using Fr.refl,.refl⟩) (run _ fun l seen hl=>?_)
  .exact this
  .rw[hn]at hl;have qF:l=[]:=by
    have h1:(gK l).length=l.length:=by unfold gK;rw[aa1]
    rw[hl]at h1;exact a3Q h1.symm
   subst qF;exact aK.step (by kernel_rfl) (zJ (e:=.ret) (ps1:=⟨[(2,.val (.nil .slc)),(3,xl (uI t))],[],[.iE (kV.im t),.cZ 0 t.length seen]⟩) hX fZ (by kernel_rfl) (.fr [] (afH (n:=n)) (.r rfl))) ⟨.inr rfl,[.nil .slc,.bool (uI t)],by kernel_rfl,a3B⟩
 .intro hn;have:=Dn (X:=X0) (P:=Qp) (T:=T) (L:=LL) (n:=n+1) (f:=88) (first:=[]) (cap:=[]) (xs:=[.map 0]) (H:=[.iE (kV.im t)]) (N:=[.list false false 3 (lH t)]) (v:=.dI [.own 1,.bool (uI t)]) (tv:=fun n=>.dI [.slc n 0 (lH t).length (lH t).length 1 false,.bool (uI t)]) (tN:=[.cells .last ((lH t).map fun n=>TV.int .i64 n)]) (t:=SN Qp 88) hX (by kernel_rfl) (by kernel_rfl) (by kernel_rfl) rfl (fun A m h hr=>aaD hX (H:=[.iE (kV.im t)]) (ty:=3) (l:=lH t) hn (E5 _) Ko (by decide) (fun _ _ _=>rfl) rfl hr) (run _ fun l seen hl=>?_)
  .exact this
  .cases l with
   |nil=>rw[apD]at hl;exact absurd hl.symm hn
   |cons x l=>
    have hs:=acA (n:=n) (k:=false) (ex:=false) (x::l) (hlen _ hl);rw[hl]at hs;exact aK.step (by kernel_rfl) (zJ (e:=.ret) (ps1:=⟨[(2,.val (.own 2)),(3,xl (uI t))],[],[.iE (kV.im t),.cZ 0 t.length seen,.list false false 3 (lH t)]⟩) hX fZ (by kernel_rfl) (.fr [2] hs (.r rfl))) ⟨.inr rfl,[.own 2,.bool (uI t)],by kernel_rfl,a7F hX (i:=2) (ty:=3) (l:=lH t) rfl hn (E5 _) Ko rfl⟩
end
end Go.Proofs.YtmobpoiejckagaaGreat
