/- Part 6 of a proof: What Op2 makes has, at any place, the cell that value.Op2 returns of the cells there; for two diagrams that fit, and an operation. -/
import Derived.Test.YtmobpoiejckagaaGreatP04
set_option linter.constructorNameAsVariable false
set_option linter.unusedVariables false
set_option linter.unusedSimpArgs false
set_option linter.unusedSectionVars false
open Go.IntKind (i64)
noncomputable section
namespace Go.Proofs.YtmobpoiejckagaaGreat
open Go Tw Pv dh
theorem XK{d:Dg}(h:bD d=0):∀i,i<d.aj.length->∀k,k<(fA d i).ay.length->d.aG.idxOf (fA d i).var+1<=EC d.aG d.aj ((fA d i).ay.getD k 0):=by
 intro i hi k hk;unfold bD at h;split at h
 .rename_i c;rw[h]at c;cases c
 split at h
 .cases h
 split at h
 .cases h
 rename_i c;have c:lT d=true:=by simpa using c
 unfold lT at c;split at c
 rotate_left
 .cases c
 split at c
 rotate_left
 .cases c
 rename_i c2;have:=dK.1 c2 i hi;unfold ZK at this;split at this
 .cases this
 split at this
 .cases this
 split at this
 .rename_i c3;have:=dK.1 c3 k hk;unfold cLk at this;split at this
  .cases this
  rw[a3g,MP,MP]at this;have e6:EC d.aG d.aj ((i:Nat):Int)=d.aG.idxOf (fA d i).var:=by unfold EC;rw[a0o (by omega),a4L]
  rw[e6]at this;show d.aG.idxOf (fA d i).var+1<=EC d.aG d.aj ((d.aj.getD i kM).ay.getD k 0);omega
 cases this
theorem ZV{d:Dg}(h:BH d):∀(F:Nat) (r:Int) (x:Cs),jq d r d.aj.length->NOk d.aA x.n->NOk d.aA (bV d F r x).2.n
 | 0,_,_,_,hx=>hx
 |F+1,r,x,hr,hx=>by
  unfold bV;by_cases c:r<0
  .rw[a0p (by simpa using c)];exact hx
  rw[a0o (by simpa using c)];split
  .exact hx
  have aQ:r.toNat<d.aj.length:=by have:=hr.1;omega
  have KL:∀j,j<(aP d r).length->jq d ((aP d r).getD j 0) d.aj.length:=fun j hj=>by
   have h9:=h.zB r.toNat aQ j hj;have h8:=h9.1;have h8:(aP d r).getD j 0<(r.toNat:Int):=h8;exact⟨by omega,h9.2⟩
  have inv:=dF (g:=BO d F r) (m:=(aP d r).length) (k:=0) (s:=(List.replicate (aP d r).length 0,x)) (fun _ y=>y.1.length=(aP d r).length∧NOk d.aA y.2.n) ⟨by simp,hx⟩ (fun j y _ hj hy=>⟨by simp[BO,hy.1],ZV h F _ y.2 (KL j (by omega)) hy.2⟩);show NOk d.aA (dw (aT (BO d F r) (aP d r).length 0 (List.replicate (aP d r).length 0,x)).2.n (au d r).var (aT (BO d F r) (aP d r).length 0 (List.replicate (aP d r).length 0,x)).1);generalize aT (BO d F r) (aP d r).length 0 (List.replicate (aP d r).length 0,x)=y at inv;intro b hb;unfold dw at hb;split at hb
  .exact inv.2 b hb
  split at hb
  .exact inv.2 b hb
  rcases a3k.1 hb with hb|hb
  .exact inv.2 b hb
  rw[a2U.1 hb];refine⟨h.var r.toNat aQ,?_⟩;show(y.1.length:Int)=d.aA.getD (au d r).var.toNat 0;rw[inv.1];exact h.ksz r.toNat aQ
theorem a7q{n:Nat}(hn:1<=n)(v:Int):((List.replicate n v).all fun x=>x==(List.replicate n v).getD 0 0)=true∧(List.replicate n v).getD 0 0=v:=by
 obtain⟨k,rfl⟩:∃k,n=k+1:=⟨n-1,by omega⟩;simp[adO]
theorem XL{d:Dg}{l:List V}(h:BH d)(Px:jV d.aA.length d.aG=true)(hk:∀i,i<d.aj.length->∀k,k<(fA d i).ay.length->d.aG.idxOf (fA d i).var+1<=EC d.aG d.aj ((fA d i).ay.getD k 0)):∀(r:List Int) (a:Nat) (p:List Int) (v:Int) (x:Cs) (F:Nat),d.aG.drop a=r->a<=d.aG.length->jM d.aA p=true->Dv d x->XJ d x->NOk d.aA x.n->jq d v d.aj.length->a<=EC d.aG d.aj v->1<=F->v+1<F->(∀q,jM d.aA q=true->ZR d.aA r q p->To d q v (l.getD (ji d.aA q).toNat V0))->iO d.aA l r p (x.e,x.n)=((bV d F v x).1,((bV d F v x).2.e,(bV d F v x).2.n))
 | [],a,p,v,x,F,hr,ha,hp,_,_,_,hv,KL,hF1,hF,hto=>by
  obtain⟨F,rfl⟩:∃k,F=k+1:=⟨F-1,by omega⟩;have:a=d.aG.length:=by
   have:=congrArg List.length hr;rw[a4b,a4R]at this;omega
  subst this;have hv0:v<0:=by
   rcases Int.lt_or_le v 0 with c|c
   .exact c
   exfalso;unfold EC at KL;rw[a0o (by omega)]at KL;have aQ:v.toNat<d.aj.length:=by have:=hv.1;omega
   have hm:=lW Px (h.var v.toNat aQ);have:=a4F.2 hm;have:d.aG.idxOf (d.aj.getD v.toNat kM).var<d.aG.length:=this;omega
  have t:=hto p hp (fun _ _ _=>rfl);have e:l.getD (ji d.aA p).toNat V0=pW d v:=(To.fin hv0:To d p v _).det t |>.symm
  unfold bV;rw[a0p (by simpa using hv0)];show(i64.wrap (-1-(x.e.idxOf (l.getD (ji d.aA p).toNat V0):Nat)),(gK x.e (l.getD (ji d.aA p).toNat V0),x.n))=_;rw[e]
 |c::r,a,p,v,x,F,hr,ha,hp,hx,hi,Yr,hv,KL,hF1,hF,hto=>by
  have aQ:a<d.aG.length:=by
   have:=congrArg List.length hr;rw[a4b,a4i]at this;omega
  have hd:=a6D aQ;rw[hr]at hd;obtain⟨hc,wJ⟩:=List.cons.inj hd;have ho:=Px;unfold jV at ho;rw[a1Q]at ho;have FQ:c∈d.aG:=by rw[hc];exact a4z aQ
  have qA:gq c d.aA.length:=⟨(ho.2.1 c FQ).1,(ho.2.1 c FQ).2⟩;have hia:d.aG.idxOf c=a:=by rw[hc];exact ho.2.2.idxOf_getElem a aQ
  have qm:c.toNat<d.aA.length:=by have:=qA.1;have:=qA.2;omega
  have hz:=h.bY.sz _ (dn (s:=d.aA) (k:=c.toNat) qm);have Gg:=uH hp;have hcr:c∉r:=by
   have:(d.aG.drop a).Nodup:=ho.2.2.sublist (List.drop_sublist _ _);rw[hr]at this;exact(a4r.1 this).1
  have Fj:∀j:Nat,j<(d.aA.getD c.toNat 0).toNat->jM d.aA (p.set c.toNat j)=true:=fun j hj=>Xl hp qA ⟨by omega,by omega⟩;simp only[iO];by_cases uY:0<=v∧(au d v).var=c
  .obtain⟨hv0,hvc⟩:=uY;have a3y:v.toNat<d.aj.length:=by have:=hv.1;omega
   have JX:((aP d v).length:Int)=d.aA.getD c.toNat 0:=by rw[<-hvc];exact h.ksz v.toNat a3y
   have hkn:(d.aA.getD c.toNat 0).toNat=(aP d v).length:=(by omega);have BI:∀j,j<(aP d v).length->(aP d v).getD j 0<v:=fun j hj=>by
    have h9:=(h.zB v.toNat a3y j hj).1;have h9:(aP d v).getD j 0<(v.toNat:Int):=h9;omega
   have hrf:∀j,j<(aP d v).length->jq d ((aP d v).getD j 0) d.aj.length:=fun j hj=>⟨by have:=BI j hj;have:=hv.1;omega,(h.zB v.toNat a3y j hj).2⟩;have ak7:∀j,j<(aP d v).length->a+1<=EC d.aG d.aj ((aP d v).getD j 0):=fun j hj=>by
    have:=hk v.toNat a3y j hj;have:d.aG.idxOf (au d v).var+1<=EC d.aG d.aj ((aP d v).getD j 0):=this;rw[hvc,hia]at this;exact this
   have ak8:∀j:Nat,j<(aP d v).length->∀q,jM d.aA q=true->ZR d.aA r q (p.set c.toNat j)->To d q ((aP d v).getD j 0) (l.getD (ji d.aA q).toNat V0):=fun j hj q hq hag=>by
    have Yp:q.getD c.toNat 0=j:=by
     have:=hag c.toNat qm (by rw[agL qA.1];exact hcr);rw[this,List.getD,a2l (by omega)];rfl
    have t0:=hto q hq (ZR.back qA hag);revert t0;generalize l.getD (ji d.aA q).toNat V0=w;intro t0;cases t0 with
    |fin h9=>omega
    |step _ t=>
     rw[hvc,Yp,a4L]at t;exact t
   rw[hkn];by_cases Ox:v∈x.k.map (·.1)
   .-- known
    have hKn:Kn d x v:=by unfold Kn;rw[a0o (by omega)];exact Ox
    obtain⟨F',rfl⟩:∃k,F=k+1:=⟨F-1,by omega⟩;rw[MQ hKn];obtain⟨i1,i2,i3⟩:=hi v Ox;have inv:=dF (g:=BJ (iO d.aA l r) c p) (m:=(aP d v).length) (k:=0) (s:=([],(x.e,x.n))) (fun k y=>y=(((aP d v).map (uT d x)).take k,(x.e,x.n))) (by simp) (fun j y _ hj hy=>by
     have hj:j<(aP d v).length:=(by omega);subst hy;have ih:=XL h Px hk r (a+1) (p.set c.toNat j) ((aP d v).getD j 0) x (F'+1) wJ.symm aQ (Fj j (by omega)) hx hi Yr (hrf j hj) (ak7 j hj) (by omega) (by have:=BI j hj;omega) (ak8 j hj);rw[MQ (i1 j hj)]at ih;unfold BJ;rw[ih];refine aby ?_ rfl;show(((aP d v).map (uT d x)).take j)++[uT d x ((aP d v).getD j 0)]=_;have hjm:j<((aP d v).map (uT d x)).length:=(by simpa using hj);rw[a8p hjm];simp[List.getD,a0f hj])
    rw[a4e]at inv;rw[inv,a9K (by simp)];rw[hvc]at i2 i3;obtain⟨n1,n2⟩:=XF h.bY.sz Yr qA (ks:=(aP d v).map (uT d x)) (by simpa using JX);show(FW x.n c _,(x.e,qx x.n c _))=_;rw[<-n1,<-n2,i2,i3];unfold uT;rw[a0o (by omega)]
   obtain⟨F',rfl⟩:∃k,F=k+1:=⟨F-1,by omega⟩;have key:∀j,j<=(aP d v).length->(aT (BJ (iO d.aA l r) c p) j 0 ([],(x.e,x.n)))=((aT (BO d F' v) j 0 (List.replicate (aP d v).length 0,x)).1.take j,((aT (BO d F' v) j 0 (List.replicate (aP d v).length 0,x)).2.e,(aT (BO d F' v) j 0 (List.replicate (aP d v).length 0,x)).2.n))∧(aT (BO d F' v) j 0 (List.replicate (aP d v).length 0,x)).1.length=(aP d v).length∧(Dv d (aT (BO d F' v) j 0 (List.replicate (aP d v).length 0,x)).2∧v∉(aT (BO d F' v) j 0 (List.replicate (aP d v).length 0,x)).2.k.map (·.1))∧XJ d (aT (BO d F' v) j 0 (List.replicate (aP d v).length 0,x)).2∧NOk d.aA (aT (BO d F' v) j 0 (List.replicate (aP d v).length 0,x)).2.n:=by
    intro j
    induction j with
    |zero=>intro _;exact⟨rfl,by simp[aT],⟨hx,Ox⟩,hi,Yr⟩
    |succ j ih=>
     intro hj;have hj:j<(aP d v).length:=hj;obtain⟨q1,q2,⟨q3,q3'⟩,q4,q5⟩:=ih (by omega);rw[tJ,tJ,a4e];generalize aT (BO d F' v) j 0 (List.replicate (aP d v).length 0,x)=y at q1 q2 q3 q3' q4 q5;rw[q1];have VE:=BI j hj;have ih2:=XL h Px hk r (a+1) (p.set c.toNat j) ((aP d v).getD j 0) y.2 F' wJ.symm aQ (Fj j (by omega)) q3 q4 q5 (hrf j hj) (ak7 j hj) (by omega) (by omega) (ak8 j hj);refine⟨?_,by simp[BO,q2],⟨P8 h F' _ y.2 q3 (hrf j hj),Xy F' _ v y.2 VE q3' (by omega) (fun i hi k hk=>(h.zB i hi k hk).1) (fun h5=>⟨h5,(hrf j hj).1⟩)⟩,(ZU h F' _ y.2 (by omega) (by omega) (hrf j hj) q3 q4).1,ZV h F' _ y.2 (hrf j hj) q5⟩;unfold BJ;rw[ih2];refine aby ?_ rfl;show y.1.take j++[(bV d F' ((aP d v).getD j 0) y.2).1]=(y.1.set j (bV d F' ((aP d v).getD j 0) y.2).1).take (j+1);rw[a8p (by simp;omega),List.take_set_of_le (a1b _),List.getElem_set_self]
   obtain⟨q1,q2,⟨q3,q3'⟩,q4,q5⟩:=key _ (a1b _);rw[q1];have e:bV d (F'+1) v x=(dZ (aT (BO d F' v) (aP d v).length 0 (List.replicate (aP d v).length 0,x)).2.n (au d v).var (aT (BO d F' v) (aP d v).length 0 (List.replicate (aP d v).length 0,x)).1,⟨(aT (BO d F' v) (aP d v).length 0 (List.replicate (aP d v).length 0,x)).2.e,dw (aT (BO d F' v) (aP d v).length 0 (List.replicate (aP d v).length 0,x)).2.n (au d v).var (aT (BO d F' v) (aP d v).length 0 (List.replicate (aP d v).length 0,x)).1,(aT (BO d F' v) (aP d v).length 0 (List.replicate (aP d v).length 0,x)).2.k++[(v,dZ (aT (BO d F' v) (aP d v).length 0 (List.replicate (aP d v).length 0,x)).2.n (au d v).var (aT (BO d F' v) (aP d v).length 0 (List.replicate (aP d v).length 0,x)).1)]⟩):=by
    rw[bV,a0o (by simpa using hv0),a0o (by simpa using Ox)]
   rw[e];generalize aT (BO d F' v) (aP d v).length 0 (List.replicate (aP d v).length 0,x)=y at q2 q5;rw[a9K (by omega),hvc];obtain⟨n1,n2⟩:=XF h.bY.sz q5 qA (ks:=y.1) (by rw[q2];exact JX);rw[n1,n2]
  -- asked later,or an end
  have ak9:a+1<=EC d.aG d.aj v:=by
   unfold EC at KL ⊢;split
   .omega
   rename_i c1;rw[a0o c1]at KL;have iC:d.aG.idxOf (d.aj.getD v.toNat kM).var≠a:=fun e=>by
    apply uY;refine⟨by omega,?_⟩;have a3y:v.toNat<d.aj.length:=by have:=hv.1;omega
    have hm:=lW Px (h.var v.toNat a3y);have h1:=a8M (a4F.2 hm);have e:d.aG.idxOf (fA d v.toNat).var=a:=e;show(fA d v.toNat).var=c;rw[hc,<-h1];congr 1
   omega
  obtain⟨z1,z2,z3⟩:=ZU h F v x hF1 hF hv hx hi;have QF:=P8 h F v x hx hv;have ae9:=ZV h F v x hv Yr;have akb:bV d F v (bV d F v x).2=((bV d F v x).1,(bV d F v x).2):=by
   have e:∀y,Kn d y v->uT d y v=(bV d F v x).1->bV d F v y=((bV d F v x).1,y):=fun y h1 h2=>by
    obtain⟨F',rfl⟩:∃k,F=k+1:=⟨F-1,by omega⟩;rw[MQ h1,h2]
   exact e _ z2 z3
  have akc:∀j:Nat,∀q,jM d.aA q=true->ZR d.aA r q (p.set c.toNat j)->To d q v (l.getD (ji d.aA q).toNat V0):=fun j q hq hag=>hto q hq (ZR.back qA hag);have inv:=dF (g:=BJ (iO d.aA l r) c p) (m:=(d.aA.getD c.toNat 0).toNat) (k:=0) (s:=([],(x.e,x.n))) (fun k y=>(k=0∧y=([],(x.e,x.n)))∨(0<k∧y=(List.replicate k (bV d F v x).1,((bV d F v x).2.e,(bV d F v x).2.n)))) (.inl ⟨rfl,rfl⟩) (fun j y _ hj hy=>by
   right;refine⟨by omega,?_⟩;rcases hy with⟨rfl,rfl⟩|⟨h0,rfl⟩
   .have ih:=XL h Px hk r (a+1) (p.set c.toNat ((0:Nat):Int)) v x F wJ.symm aQ (Fj 0 (by omega)) hx hi Yr hv ak9 hF1 hF (akc 0);unfold BJ;rw[ih];rfl
   have ih:=XL h Px hk r (a+1) (p.set c.toNat ((j:Nat):Int)) v (bV d F v x).2 F wJ.symm aQ (Fj j (by omega)) QF z1 ae9 hv ak9 hF1 hF (akc j);rw[akb]at ih;unfold BJ;rw[ih];refine aby ?_ rfl;show List.replicate j _++[_]=_;rw[List.replicate_succ'])
  rw[a4e]at inv;rcases inv with⟨h0,_⟩|⟨h0,e⟩
  .omega
  rw[e];obtain⟨f1,f2⟩:=a7q (n:=(d.aA.getD c.toNat 0).toNat) (by omega) (bV d F v x).1;show(FW _ c _,(_,qx _ c _))=_;unfold FW qx;rw[a0p f1,a0p f1,f2]
theorem XM{d:Dg}(hl:bD d=0)(ho:d.aG.length<=ah)(he:d.aK.length<=ah):eP d=qy d.aA d.aG (cellsD d)∧OfP d.aA d.aG (cellsD d):=by
 obtain⟨h,hn⟩:=iW ho he (by rw[hl];rfl);have hf:(bW d.aA d.aG != 0)=false:=by
  unfold bD at hl;split at hl
  .rename_i c;rw[hl]at c;cases c
  rename_i c;simpa using c
 obtain⟨bY,Px⟩:=kN.1 (show bW d.aA d.aG=0 by simpa using hf);have hlen:((cellsD d).length:Int)=bg d.aA:=by unfold cellsD;rw[a4n,a8I,bY.a6v]
 have hr:=h.root;have hr1:=hr.1;have hto:∀q,jM d.aA q=true->To d q d.root ((cellsD d).getD (ji d.aA q).toNat V0):=fun q hq=>by
  have hrn:=Dj hq bY.sz;have t:=To.of h hq 6001 d.root (by omega) hr;have e:(cellsD d).getD (ji d.aA q).toNat V0=wW d q:=by
   have aQ:(ji d.aA q).toNat<EY d.aA:=by unfold EY;omega
   unfold cellsD;rw[List.getD,a0f (by simpa using aQ)];simp only[a8T,agU,a5e];rw[show(((ji d.aA q).toNat:Nat):Int)=ji d.aA q by omega,UF hq bY.sz]
  rw[e];exact t
 have key:=XL (l:=cellsD d) h Px (XK hl) d.aG 0 (List.replicate d.aA.length 0) d.root ZN 6002 rfl (a4K _) (Pm bY.sz) UQ (fun v hv=>by cases hv) (fun b hb=>by cases hb) hr (a4K _) (by omega) (by omega) (fun q hq _=>hto q hq);refine⟨?_,⟨bY,Px,hlen⟩⟩;have key:iO d.aA (cellsD d) d.aG (List.replicate d.aA.length 0) ([],[])=_:=key;unfold eP qy;rw[key]
open Go Tw Pv dh
theorem PD(k:Int):FV (i64.wrap k):=by
 have e:i64.wrap k=if k%(2^64:Int)>=(2^63:Int)then k%(2^64:Int)-2^64 else k%(2^64:Int):=by
  show(if(true&&decide (k%(2^64:Int)>=(2^63:Int)))=true then _ else _)=_;by_cases c:k%(2^64:Int)>=(2^63:Int)
  .rw[a0p (by simpa using c),a0p c];rfl
  rw[a0o (by simpa using c),a0o c];rfl
 rw[e];unfold FV;split<;>constructor<;>omega
def EnW(x:EN):Prop:=∀b∈x.2,∀k∈b.ay,FV k
theorem a7r{s:List Int}{l:List V}(hs:nJ s):∀(r p:List Int) (x:EN),(∀c∈r,gq c s.length)->EnW x->(iO s l r p x).2.2.length<2^61->EnW (iO s l r p x).2∧FV (iO s l r p x).1
 | [],p,x,_,hx,_=>⟨hx,PD _⟩
 |c::r,p,x,hr,hx,hE=>by
  have qA:=hr c (by simp);have hz:=hs _ (dn (s:=s) (k:=c.toNat) (by have:=qA.1;have:=qA.2;omega));have hN:=I9 (aT (BJ (iO s l r) c p) (s.getD c.toNat 0).toNat 0 ([],x)).2.2 c (aT (BJ (iO s l r) c p) (s.getD c.toNat 0).toNat 0 ([],x)).1;have hE:(qx (aT (BJ (iO s l r) c p) (s.getD c.toNat 0).toNat 0 ([],x)).2.2 c (aT (BJ (iO s l r) c p) (s.getD c.toNat 0).toNat 0 ([],x)).1).length<2^61:=hE;have inv:=dF (g:=BJ (iO s l r) c p) (m:=(s.getD c.toNat 0).toNat) (k:=0) (s:=([],x)) (fun k y=>y.1.length=k∧(y.2.2.length<2^61->EnW y.2∧∀v∈y.1,FV v)) ⟨rfl,fun _=>⟨hx,by simp⟩⟩ (fun j y _ hj hy=>by
   refine⟨by simp[BJ,hy.1],fun hE2=>?_⟩;have hE2:(iO s l r (p.set c.toNat j) y.2).2.2.length<2^61:=hE2;have hp:=(Po (s:=s) (l:=l) r (p.set c.toNat j) y.2).2.length_le;obtain⟨y1,y2⟩:=hy.2 (by omega);obtain⟨z1,z2⟩:=a7r hs r (p.set c.toNat j) y.2 (fun c hc=>hr c (by simp[hc])) y1 hE2;refine⟨z1,fun v hv=>?_⟩;have hv:v∈y.1++[(iO s l r (p.set c.toNat j) y.2).1]:=hv;rcases a3k.1 hv with hv|hv
   .exact y2 v hv
   rw[a2U.1 hv];exact z2)
  rw[a4e]at inv;simp only[iO];generalize aT (BJ (iO s l r) c p) (s.getD c.toNat 0).toNat 0 ([],x)=y at inv hN hE;obtain⟨ks,E,N⟩:=y;have hN:N <+: qx N c ks:=hN;have hE:(qx N c ks).length<2^61:=hE;obtain⟨i0,i1⟩:=inv;have i0:ks.length=(s.getD c.toNat 0).toNat:=i0;obtain⟨i1,i2⟩:=i1 (by have:=hN.length_le;show N.length<2^61;omega);have i1:∀b∈N,∀k∈b.ay,FV k:=i1;have i2:∀v∈ks,FV v:=i2;refine⟨fun b hb=>?_,?_⟩
  .have hb:b∈qx N c ks:=hb;unfold qx at hb;split at hb
   .exact i1 b hb
   split at hb
   .exact i1 b hb
   rcases a3k.1 hb with hb|hb
   .exact i1 b hb
   rw[a2U.1 hb];exact i2
  show FV (FW N c ks);by_cases hf:(ks.all fun x=>x==ks.getD 0 0)=true
  .rw[show FW N c ks=ks.getD 0 0 from a0p hf];exact i2 _ (dn (s:=ks) (k:=0) (by omega))
  rw[show FW N c ks=(N.idxOf (⟨c,ks⟩:Br):Nat)from a0o hf];have:=(UU (N:=N) (c:=c) hf).1;exact⟨by omega,by omega⟩
theorem aay{s o:List Int}{l:List V}(h:OfP s o l)(hv:∀v∈l,vOk v=true)(hf:∀v∈l,0<=v.f):Ez (qy s o l)∧lU (qy s o l)=0:=by
 obtain⟨hP,hn,ho⟩:=h.p;obtain⟨h1,h2,h3,h4,h5⟩:=FY h hv;have hw:=FX h.bY.sz h.ord;have hm:=h.bY.many;have hlen:=ZQ (l:=l) h.bY.sz o (List.replicate s.length 0) ([],[]) hP.ord;have QH:(iO s l o (List.replicate s.length 0) ([],[])).2.2.length+1<=0+wO s o:=hlen.2;obtain⟨w1,w2⟩:=a7r (l:=l) h.bY.sz o (List.replicate s.length 0) ([],[]) hP.ord (fun b hb=>by cases hb) (by omega);have hR:Ez (qy s o l):=⟨fun i hi k hk=>by
  have hb:fA (qy s o l) i∈(qy s o l).aj:=by
   show(qy s o l).aj.getD i kM∈_;rw[List.getD,a0f hi];exact a4z hi
  exact w1 _ hb _ (dn hk),w2,fun v hv=>hf v (h3 v hv)⟩
 refine⟨hR,?_⟩;obtain⟨ht,hn6⟩:=iW (d:=qy s o l) hP.afu (by unfold ah;omega) (by rw[h1];rfl);have hc:=(XM (d:=qy s o l) h1 hP.afu (by unfold ah;omega)).1;rw[Py h hv]at hc;have hd:=(SN ht hR (by omega) hn6).1 hc;unfold lU;rw[a0o (by rw[h1];decide),a0o (by rw[hd];decide)]
open Go Tw Pv dh
def adg:eY aF:=bZ 121 (a1 dA) iA (fun p=>(vP p).2) (fun p=>[Ez p,p.aA.length<=ah,p.aG.length<=2^20,p.aK.length+1<=ah]) ad7
theorem akd:Gd adg:=ak5.add fun n hO p hp=>aN hO (.o (hp _ (.head _)) (.o (hp _ (.tail _ (.head _))) (.o (hp _ (.tail _ (.tail _ (.head _)))) (.o (hp _ (.tail _ (.tail _ (.tail _ (.head _))))) .rr))))
def zG(d:Dg):Dg×Int:=if((bF d).2 != 0)=true then(jX,(bF d).2)else(eP (bF d).1.d,0)
def a7s:eY aF:=bZ 108 (a1 dA) (dQ (a2 dA iA)) (fun p=>zG p) (fun p=>[Ez p,p.aA.length<=ah,p.aG.length<=2^20,p.aK.length<=ah,((bF p).2 != 0)=false->ClP (bF p).1]) adg
theorem adh:Gd a7s:=akd.add fun n hO p hp=>aN hO (.o (hp _ (.tail _ (.head _))) (.o (hp _ (.tail _ (.tail _ (.head _)))) (.o (hp _ (.tail _ (.tail _ (.tail _ (.head _))))) (.sh (fun _=>.rn (.dI [.agg [.nil .slc,.nil .slc,.nil .slc,.nil .slc,.int .i64 0],.int .i64 (bF p).2]) rfl) fun h=>.o (hp _ (.tail _ (.tail _ (.tail _ (.tail _ (.head _))))) h) .rr))))
def ake:eY aF:=bZ 77 (a3 iA iA iA) tA (fun p=>(if decide (p.2.2>=p.1)=true then decide (p.2.2<=p.2.1)else false)) np a7s
theorem ap6:Gd ake:=adh.add fun n hO p hp=>aN hO (.ss .rr .rr)
def a1L:eY aF:=bZ 123 (a2 (a6l frA) dA) tA (fun p=>(if decide (p.2.aA=p.1.1)=true then decide (p.2.aG=p.1.2)else false)) (fun p=>[p.2.aA.length<=ah,p.2.aG.length<=ah]) ake
theorem akf:Gd a1L:=ap6.add fun n hO p hp=>aN hO (.o (hp _ (.head _)) (.ss (.o (hp _ (.tail _ (.head _))) .rr) .rr))
end Go.Proofs.YtmobpoiejckagaaGreat
namespace Pv
open Go Tw
variable {X:kQ} {P:Program}
theorem oq.ZW(hX:bM X P){call:aY}{f:FuncId}{first xs cap vs:List (PV X.Γ)}{v v':PV X.Γ}{ext ext':List (PB X.Γ)}(hc:oq X P call f vs v ext)(hv:views [] (first++xs++cap)=some vs)(hs:qX X 0 ext=some ext')
  (e:shift 0 v=v') (he:(if xH v||ext.any (hasB X)then aX (kU.kD (first++xs++cap)) []else [])=([]:List (PB X.Γ))):aW X P call (.fn f first cap) xs [] v' ext':=by
 subst e;intro A m h tf rW hr hf hx;cases hf with
 |gone hi _ _=>simp[bf]at hi
 |fn p1 p2 p3 p4=>
  obtain⟨w,h',m1,c1,c2,c3,c4,c5⟩:=Hl hX hc hr hv hs ⟨p1,p2⟩ hx ⟨p3,p4⟩;rw[he]at c2;exact⟨w,h',[],m1,c1,c2,c3,c4,c5,fun b hb=>by cases hb⟩
end Pv
namespace Go.Proofs.YtmobpoiejckagaaGreat
open Go Tw Pv dh
def a3z{α:Type}(g:α->Bool)(i:Nat)(x:α)(s:Unit):Unit⊕(Nat×α×Unit):=if(g x)=true then .inr (i,x,s)else .inl ()
def afw{α:Type}(d:α)(g:α->Bool)(l:List α):Int:=if(jS (mQ (a3z g) l 0 ()))=true then -1 else(((D6 (0,d,()) (mQ (a3z g) l 0 ())).1:Int))
theorem a7t{α:Type}(g:α->Bool):∀(l:List α) (i:Nat),jS (mQ (a3z g) l i ())=!(l.any g)
 | [],i=>rfl
 |x::l,i=>by
  simp only[mQ,a3z,adq];cases g x
  .simpa using a7t g l (i+1)
  simp[jS]
theorem afx{α:Type}(d:α)(g:α->Bool)(l:List α):decide (afw d g l>=0)=l.any g:=by
 have:=a7t g l 0;unfold afw;rw[this];cases l.any g<;>simp
theorem dS{α:Type}{l:List α}{k:Nat}{d:α}(h:k<l.length):l.getD k d∈l:=by simp[List.getD,a0f h]
abbrev afy(f:Nat)(a c:List (PV aF))(H:List (PB aF))(l:List Dg)(i:Int)(x:List (Nat×PE aF)):aS aF:=⟨[(0,xL 26 l),(1,.val (.fn f a c)),(7,xi l.length),(8,xi i)]++x,[],H⟩
def akg(f:Nat)(a c:List (PV aF))(H:List (PB aF))(l:List Dg):Unit⊕(Nat×Dg×Unit)->Ex×aS aF
 |.inl _=>(.exit 0,afy f a c H l l.length [(9,xl false)])
 |.inr r=>(.ret,⟨[(4,xi r.1)],[],H⟩)
theorem ap7{n f:Nat}{a c:List (PV aF)}{H:List (PB aF)}{g:Dg->Bool}(l:List Dg)(hf:∀x∈l,aW X0 Qp (bQ n) (.fn f a c) [.agg x.ps] H (.bool (g x)) H)(hl:l.length<=ah):aW X0 Qp (bQ (n+1)) (.fn 204 [] []) [lDg l,.fn f a c] H (iA.put (afw jX g l)) H:=by
 have lp:OU n 204 0 H.length (afy f a c H l 0 []) (akg f a c H l (mQ (a3z g) l 0 ())).1 (akg f a c H l (mQ (a3z g) l 0 ())).2:=
  X3 (st:=fun i _=>afy f a c H l i []) jX (fun _ _=>True) (by kernel_rfl) hl Qu trivial (fun k s n hk _ ih=>aO fV (.b (bC hk) (.o (aH hk) (.k (hf (l.getD k jX) (dS hk)) (.ls (.ou nofun) (.nx (ih _ trivial))))))) (fun s _=>aO fV (.b (fD l.length) (.ou nofun)))
 exact jk fV (first:=[]) (cap:=[]) (.szh (fun h=>.w (kG lp () h) .sr) (fun h=>.w (kH lp (0,jX,()) h) .sr))
theorem ap8{n f:Nat}{a c:List (PV aF)}{H:List (PB aF)}{g:Dg->Bool}(l:List Dg)(hf:∀x∈l,aW X0 Qp (bQ n) (.fn f a c) [.agg x.ps] H (.bool (g x)) H)(hl:l.length<=ah):aW X0 Qp (bQ (n+2)) (.fn 173 [] []) [lDg l,.fn f a c] H (tA.put (l.any g)) H:=by
 rw[<-afx jX g l];have h1:=ap7 l hf hl;exact jk fV (first:=[]) (cap:=[]) (.k h1 .sr)
def Dw(f:List Int×List Int)(d:Dg):Bool:=if decide (d.aA=f.1)=true then decide (d.aG=f.2)else false
abbrev a7u(f:List Int×List Int):PV aF:=.fn 123 [.agg [lI f.1,lI f.2]] []
structure oZ(d:Dg):Prop where
 r:Ez d
 s:d.aA.length<=ah
 o:d.aG.length<=2^20
 e:d.aK.length+1<=ah
theorem ap9{n:Nat}(hO:Ok n a1L)(f:List Int×List Int)(l:List Dg)(hp:∀d∈l,oZ d)(hl:l.length<=ah):aW X0 Qp (bQ (n+4)) (.fn 122 [] []) [a7u f,lDg l] [] (tA.put (l.all (Dw f))) []:=by
 have hs:∀d∈l,aW X0 Qp (bQ n) (a7u f) [.agg d.ps] [] (tA.put (Dw f d)) []:=fun d hd=>oq.ZW hX (first:=[.agg [lI f.1,lI f.2]]) (cap:=[]) (hO 123 [.agg [lI f.1,lI f.2],.agg d.ps] (tA.put (Dw f d)) [] [d.aA.length<=ah,d.aG.length<=ah] (by kernel_rfl) (fun p h=>by
  have h9:=hp d hd;have h8:=h9.o;rcases a2y.1 h with rfl|h
  .exact h9.s
  rw[a2U.1 h];exact h8)) rfl rfl rfl rfl
 have h1:∀d∈l,aW X0 Qp (bQ (n+1)) (.fn 174 [] [.ptr 0 0 1]) [.agg d.ps] [.cells [a7u f]] (tA.put (!(Dw f d))) [.cells [a7u f]]:=fun d hd=>
  jk fV (first:=[]) (.fr [] (hs d hd) .sr)
 have h2:=ap8 l h1 hl;rw[<-Eh l (Dw f)];exact aW.drop hX (D5 hX fV (first:=[]) (cap:=[]) (H1:=[.cells [a7u f]]) (by kernel_rfl) (.k h2 .sr)) rfl rfl
abbrev wCk(l:List Dg)(i:Int)(x:List (Nat×PE aF)):aS aF:=⟨[(0,xL 26 l),(6,xL 26 l),(7,xi l.length),(8,xi i)]++x,[],[]⟩
abbrev cCk(l:List Dg)(k:Nat):Bool:=(vP (l.getD k jX)).2 != 0
def zCk(l:List Dg):Unit⊕Nat->Ex×aS aF
 |.inl _=>(.exit 0,wCk l l.length [(9,xl false)])
 |.inr k=>(.ret,⟨[(2,xi (vP (l.getD k jX)).2)],[(l.getD k jX).ps],[]⟩)
theorem lCk{n:Nat}(hO:Ok n a1L){l:List Dg}(hp:∀d∈l,oZ d)(hl:l.length<=ah):Lp n 76 0 (wCk l 0 []) (zCk l (bG (cCk l) l.length)).1 (zCk l (bG (cCk l) l.length)).2:=by
 refine iV (st:=fun i _=>wCk l i []) (g:=gS (cCk l)) (out:=zCk l) (fun _ _=>True) (by kernel_rfl) hl trivial (fun k u m hk _ ih=>?_) (fun _ _=>?_)
 .have h9:=hp _ (dS (d:=jX) hk);unfold gS cCk;exact aO hO (.b (bC hk) (.o (aH hk) (.o h9.r (.o h9.s (.o h9.o (.o h9.e (.ls (.ou nofun) (.nx (ih _ trivial)))))))))
 exact aO hO (.b (fD l.length) (.ou nofun))
def bK(l:List Dg):Int:=if jS (bG (cCk l) l.length)=true then(if(!(l.all (Dw ((l.getD 0 jX).aA,(l.getD 0 jX).aG))))=true then 2 else 0)else(vP (l.getD (D6 0 (bG (cCk l) l.length)) jX)).2
def akh:eY aF:=bZ 76 (a1 ait) iA bK (fun l=>[∀d∈l,oZ d,0<l.length∧l.length<=ah]) a1L
theorem apc:Gd akh:=akf.deep 4 fun n hn hO l hp=>by
 have h1:∀d∈l,oZ d:=hp _ (.head _);have h2:0<l.length∧l.length<=ah:=hp _ (.tail _ (.head _));have hs:=ap9 (n:=n-4) (hO (n-4) (by omega)) ((l.getD 0 jX).aA,(l.getD 0 jX).aG) l h1 h2.2;rw[show n-4+4=n by omega]at hs;have i0:gq 0 l.length:=⟨by omega,by omega⟩;have hl:=lCk (hO n (by omega)) h1 h2.2;show oq X0 Qp _ _ _ (iA.put (bK l)) _;unfold bK;exact aN (hO n (by omega)) (.zh (fun h=>.w (kG hl () h) (.o i0 (.o i0 (.fr [] hs (.ss .rr .rr))))) (fun h=>.w (kH hl 0 h) .rr))
open Go Tw Pv dh
theorem a7w{n:Int}(h:0<=n∧n<=6):n=0∨n=1∨n=2∨n=3∨n=4∨n=5∨n=6:=by omega
theorem a7x:(0:Int)<=32:=by decide
def adi:eY aF:=bZ 206 (a2 pA pA) (dQ (a2 pA pA)) (fun p=>(0,p.2)) (fun p=>[p.1=1,0<=p.2∧p.2<=6]) akh
theorem aki:Gd adi:=apc.add fun n hO p hp=>by
 obtain⟨a,b⟩:=p;have h1:a=1:=hp _ (.head _);have h2:0<=b∧b<=6:=hp _ (.tail _ (.head _));subst h1;rcases a7w h2 with rfl|rfl|rfl|rfl|rfl|rfl|rfl
 all_goals exact aN hO (.o a7x (.o a7x (.o a7x (.o a7x (.o a7x .rr)))))
def adk:eY aF:=bZ 175 (a2 pA pA) (dQ (a2 pA pA)) (fun p=>(0,p.2)) (fun p=>[p.1=1,0<=p.2∧p.2<=6]) adi
theorem akj:Gd adk:=aki.add fun n hO p hp=>aN hO (.o (hp _ (.head _)) (.o (hp _ (.tail _ (.head _))) .rr))
def Ia:eY aF:=bZ 124 (a2 rO iA) rO (fun p=>List.replicate p.2.toNat (-1)) (fun p=>[p.1=[-1],0<=p.2∧p.2<=6]) adk
theorem XO:Gd Ia:=akj.add fun n hO p hp=>by
 obtain⟨a,b⟩:=p;have h1:a=[-1]:=hp _ (.head _);have h2:0<=b∧b<=6:=hp _ (.tail _ (.head _));subst h1;rcases a7w h2 with rfl|rfl|rfl|rfl|rfl|rfl|rfl
 .exact aN hO (.b (rfl:decide ((0:Int)<0)=false) (.o (rfl:(1:Int)=1) (.o (⟨by decide,by decide⟩:(0:Int)<=0∧(0:Int)<=6) (.b (rfl:decide ((0:Int)>0)=false) (.b (rfl:decide ((0:Int)>9223372036854775807)=false) (.o (rfl:(0:Int)=0) (.o (show(0:Int)<=0 by decide) (.o (show(0:Int)<=(ah:Int) by decide) (.m 8 le8 (.b (rfl:decide ((0:Int)<0)=false) .rr))))))))))
 .exact aN hO (.b (rfl:decide ((1:Int)<0)=false) (.o (rfl:(1:Int)=1) (.o (⟨by decide,by decide⟩:(0:Int)<=1∧(1:Int)<=6) (.b (rfl:decide ((0:Int)>0)=false) (.b (rfl:decide ((1:Int)>9223372036854775807)=false) (.o (rfl:(1:Int)=1) (.o (show(0:Int)<=1 by decide) (.o (show(1:Int)<=(ah:Int) by decide) (.m 8 le8 (.b (rfl:decide ((1:Int)<1)=false) .rr))))))))))
 .exact aN hO (.b (rfl:decide ((2:Int)<0)=false) (.o (rfl:(1:Int)=1) (.o (⟨by decide,by decide⟩:(0:Int)<=2∧(2:Int)<=6) (.b (rfl:decide ((0:Int)>0)=false) (.b (rfl:decide ((2:Int)>9223372036854775807)=false) (.o (rfl:(2:Int)=2) (.o (show(0:Int)<=2 by decide) (.o (show(2:Int)<=(ah:Int) by decide) (.m 8 le8 (.b (rfl:decide ((1:Int)<2)=true) (.o (show(0:Int)<=1 by decide) (.o (show(1:Int)<=2 by decide) (.o (show(2:Int)<=2 by decide) (.o (show(0:Int)<=0 by decide) (.o (show(0:Int)<=1 by decide) (.o (show(1:Int)<=2 by decide) (.b (rfl:decide ((2:Int)<2)=false) .rr)))))))))))))))))
 .exact aN hO (.b (rfl:decide ((3:Int)<0)=false) (.o (rfl:(1:Int)=1) (.o (⟨by decide,by decide⟩:(0:Int)<=3∧(3:Int)<=6) (.b (rfl:decide ((0:Int)>0)=false) (.b (rfl:decide ((3:Int)>9223372036854775807)=false) (.o (rfl:(3:Int)=3) (.o (show(0:Int)<=3 by decide) (.o (show(3:Int)<=(ah:Int) by decide) (.m 8 le8 (.b (rfl:decide ((1:Int)<3)=true) (.o (show(0:Int)<=1 by decide) (.o (show(1:Int)<=3 by decide) (.o (show(3:Int)<=3 by decide) (.o (show(0:Int)<=0 by decide) (.o (show(0:Int)<=1 by decide) (.o (show(1:Int)<=3 by decide) (.b (rfl:decide ((2:Int)<3)=true) (.o (show(0:Int)<=2 by decide) (.o (show(2:Int)<=3 by decide) (.o (show(3:Int)<=3 by decide) (.o (show(0:Int)<=0 by decide) (.o (show(0:Int)<=2 by decide) (.o (show(2:Int)<=3 by decide) (.b (rfl:decide ((3:Int)<3)=false) .rr))))))))))))))))))))))))
 .exact aN hO (.b (rfl:decide ((4:Int)<0)=false) (.o (rfl:(1:Int)=1) (.o (⟨by decide,by decide⟩:(0:Int)<=4∧(4:Int)<=6) (.b (rfl:decide ((0:Int)>0)=false) (.b (rfl:decide ((4:Int)>9223372036854775807)=false) (.o (rfl:(4:Int)=4) (.o (show(0:Int)<=4 by decide) (.o (show(4:Int)<=(ah:Int) by decide) (.m 8 le8 (.b (rfl:decide ((1:Int)<4)=true) (.o (show(0:Int)<=1 by decide) (.o (show(1:Int)<=4 by decide) (.o (show(4:Int)<=4 by decide) (.o (show(0:Int)<=0 by decide) (.o (show(0:Int)<=1 by decide) (.o (show(1:Int)<=4 by decide) (.b (rfl:decide ((2:Int)<4)=true) (.o (show(0:Int)<=2 by decide) (.o (show(2:Int)<=4 by decide) (.o (show(4:Int)<=4 by decide) (.o (show(0:Int)<=0 by decide) (.o (show(0:Int)<=2 by decide) (.o (show(2:Int)<=4 by decide) (.b (rfl:decide ((4:Int)<4)=false) .rr))))))))))))))))))))))))
 .exact aN hO (.b (rfl:decide ((5:Int)<0)=false) (.o (rfl:(1:Int)=1) (.o (⟨by decide,by decide⟩:(0:Int)<=5∧(5:Int)<=6) (.b (rfl:decide ((0:Int)>0)=false) (.b (rfl:decide ((5:Int)>9223372036854775807)=false) (.o (rfl:(5:Int)=5) (.o (show(0:Int)<=5 by decide) (.o (show(5:Int)<=(ah:Int) by decide) (.m 8 le8 (.b (rfl:decide ((1:Int)<5)=true) (.o (show(0:Int)<=1 by decide) (.o (show(1:Int)<=5 by decide) (.o (show(5:Int)<=5 by decide) (.o (show(0:Int)<=0 by decide) (.o (show(0:Int)<=1 by decide) (.o (show(1:Int)<=5 by decide) (.b (rfl:decide ((2:Int)<5)=true) (.o (show(0:Int)<=2 by decide) (.o (show(2:Int)<=5 by decide) (.o (show(5:Int)<=5 by decide) (.o (show(0:Int)<=0 by decide) (.o (show(0:Int)<=2 by decide) (.o (show(2:Int)<=5 by decide) (.b (rfl:decide ((4:Int)<5)=true) (.o (show(0:Int)<=4 by decide) (.o (show(4:Int)<=5 by decide) (.o (show(5:Int)<=5 by decide) (.o (show(0:Int)<=0 by decide) (.o (show(0:Int)<=4 by decide) (.o (show(4:Int)<=5 by decide) (.b (rfl:decide ((5:Int)<5)=false) .rr)))))))))))))))))))))))))))))))
 .exact aN hO (.b (rfl:decide ((6:Int)<0)=false) (.o (rfl:(1:Int)=1) (.o (⟨by decide,by decide⟩:(0:Int)<=6∧(6:Int)<=6) (.b (rfl:decide ((0:Int)>0)=false) (.b (rfl:decide ((6:Int)>9223372036854775807)=false) (.o (rfl:(6:Int)=6) (.o (show(0:Int)<=6 by decide) (.o (show(6:Int)<=(ah:Int) by decide) (.m 8 le8 (.b (rfl:decide ((1:Int)<6)=true) (.o (show(0:Int)<=1 by decide) (.o (show(1:Int)<=6 by decide) (.o (show(6:Int)<=6 by decide) (.o (show(0:Int)<=0 by decide) (.o (show(0:Int)<=1 by decide) (.o (show(1:Int)<=6 by decide) (.b (rfl:decide ((2:Int)<6)=true) (.o (show(0:Int)<=2 by decide) (.o (show(2:Int)<=6 by decide) (.o (show(6:Int)<=6 by decide) (.o (show(0:Int)<=0 by decide) (.o (show(0:Int)<=2 by decide) (.o (show(2:Int)<=6 by decide) (.b (rfl:decide ((4:Int)<6)=true) (.o (show(0:Int)<=4 by decide) (.o (show(4:Int)<=6 by decide) (.o (show(6:Int)<=6 by decide) (.o (show(0:Int)<=0 by decide) (.o (show(0:Int)<=4 by decide) (.o (show(4:Int)<=6 by decide) (.b (rfl:decide ((6:Int)<6)=false) .rr)))))))))))))))))))))))))))))))
open Go Tw Pv dh
structure S3 where
 a:Int
 b:Int
 c:Int
 deriving DecidableEq
abbrev S3.ps(s:S3):List (PV aF):=[.int .i64 s.a,.int .i64 s.b,.int .i64 s.c]
def S3.get(s:S3):Nat->Int
 | 0=>s.a
 | 1=>s.b
 |_=>s.c
def S3.set(s:S3)(k:Nat)(v:Int):S3:=match k with
 | 0=>⟨v,s.b,s.c⟩
 | 1=>⟨s.a,v,s.c⟩
 |_=>⟨s.a,s.b,v⟩
structure Jb where
 s:List Int
 o:List Int
 D:List Dg
 g:List Int
abbrev Jb.ps(J:Jb)(op:PV aF):List (PV aF):=[lI J.s,lI J.o,lDg J.D,lI J.g,op]
def kT(d:Dg)(x c:Int):Bool:=if decide (x>=0)=true then((au d x).var==c)else false
def Lj(d:Dg)(x c g:Int):Int:=if kT d x c=true then(au d x).ay.getD g.toNat 0 else x
theorem aaz{d:Dg}{x c:Int}(e:decide (x>=0)=false):kT d x c=false:=by unfold kT;rw[e];rfl
theorem a7y{d:Dg}{x c:Int}(e:decide (x>=0)=true):kT d x c=((au d x).var==c):=by unfold kT;rw[e];rfl
abbrev kW(D:List Dg)(k:Nat):Dg:=D.getD k jX
def jP(D:List Dg)(s:S3)(c:Int):Bool:=!(jS (bG (fun k=>kT (kW D k) (s.get k) c) D.length))
def bJ(D:List Dg)(s:S3)(c g:Int):S3:=aT (fun k y=>y.set k (Lj (kW D k) (y.get k) c g)) D.length 0 s
def eU(D:List Dg):S3:=aT (fun k y=>y.set k (kW D k).root) D.length 0 ⟨0,0,0⟩
theorem three{k n:Nat}(h:k<n)(hn:n<=3):k=0∨k=1∨k=2:=by omega
theorem m3{n:Nat}(h:n<=3):n<=ah:=by unfold ah;omega
section
variable {M f:Nat} {a cc:List (PV aF)} {H:List (PB aF)}
abbrev wAs(J:Jb)(op:PV aF)(H:List (PB aF))(s:S3)(c:Int)(i:Int)(x:List (Nat×PE aF)):aS aF:=⟨[(2,xi c),(4,.loc 1 0),(10,xL 26 J.D),(11,xi J.D.length),(12,xi i)]++x,[J.ps op,s.ps],H⟩
def zAs(J:Jb)(op:PV aF)(H:List (PB aF))(s:S3)(c:Int):Unit⊕Nat->Ex×aS aF
 |.inl _=>(.exit 0,wAs J op H s c J.D.length [(13,xl false)])
 |.inr k=>(.ret,⟨[(6,xl true)],[J.ps op,s.ps,(kW J.D k).ps],H⟩)
theorem lAs(J:Jb)(s:S3)(c:Int)(hD:J.D.length<=3)(hr:∀k,k<J.D.length->decide (s.get k>=0)=true->gq (s.get k) (kW J.D k).aj.length):OU M 127 0 H.length (wAs J (.fn f a cc) H s c 0 []) (zAs J (.fn f a cc) H s c (bG (fun k=>kT (kW J.D k) (s.get k) c) J.D.length)).1 (zAs J (.fn f a cc) H s c (bG (fun k=>kT (kW J.D k) (s.get k) c) J.D.length)).2:=by
 refine iV (st:=fun i _=>wAs J (.fn f a cc) H s c i []) (g:=gS (fun k=>kT (kW J.D k) (s.get k) c)) (out:=zAs J (.fn f a cc) H s c) (fun _ _=>True) (by kernel_rfl) (m3 hD) trivial (fun k u m hk _ ih=>?_) (fun _ _=>?_)
 .have h1:=hr k hk;have hg:gS (fun k=>kT (kW J.D k) (s.get k) c) k u=if kT (kW J.D k) (s.get k) c=true then .inr k else .inl u:=rfl
  cases e:decide (s.get k>=0)
  .rw[aaz e,a0o (by simp)]at hg;rw[hg];rcases three hk hD with rfl|rfl|rfl
   all_goals exact aO fV (.b (bC hk) (.o (aH hk) (.b e (.nx (ih _ trivial)))))
  rw[a7y e]at hg;rw[hg];rcases three hk hD with rfl|rfl|rfl
  all_goals exact aO fV (.b (bC hk) (.o (aH hk) (.b e (.o (h1 e) (.ls (.ou nofun) (.nx (ih _ trivial)))))))
 exact aO fV (.b (fD J.D.length) (.ou nofun))
theorem a7z(J:Jb)(s:S3)(c:Int)(hD:J.D.length<=3)(hr:∀k,k<J.D.length->decide (s.get k>=0)=true->gq (s.get k) (kW J.D k).aj.length):aW X0 Qp (bQ (M+1)) (.fn 127 [] []) [.agg (J.ps (.fn f a cc)),.agg s.ps,.int .i64 c] H (.bool (jP J.D s c)) H:=by
 have lp:=lAs (M:=M) (f:=f) (a:=a) (cc:=cc) (H:=H) J s c hD hr;unfold jP;cases h:jS (bG (fun k=>kT (kW J.D k) (s.get k) c) J.D.length)
 .exact fO fV (first:=[]) (cap:=[]) (.w (kH lp 0 h) .er)
 exact fO fV (first:=[]) (cap:=[]) (.w (kG lp () h) .er)
abbrev wAf(J:Jb)(op:PV aF)(H:List (PB aF))(s:S3)(c g:Int)(i:Int)(x:List (Nat×PE aF)):aS aF:=⟨[(2,xi c),(3,xi g),(5,.loc 1 0),(8,.loc 2 0),(12,xL 26 J.D),(13,xi J.D.length),(14,xi i)]++x,[J.ps op,s.ps,[.int .i64 0,.int .i64 0,.int .i64 0]],H⟩
structure a1M(d:Dg)(x c g:Int):Prop where
 n:decide (x>=0)=true->gq x d.aj.length
 k:kT d x c=true->gq g (au d x).ay.length
theorem Jq(J:Jb)(s:S3)(c g:Int)(hD:J.D.length<=3)(hr:∀k,k<J.D.length->a1M (kW J.D k) (s.get k) c g):aW X0 Qp (bQ (M+1)) (.fn 129 [] []) [.agg (J.ps (.fn f a cc)),.agg s.ps,.int .i64 c,.int .i64 g] H (.agg (bJ J.D s c g).ps) H:=by
 have lp:OU M 129 0 H.length (wAf J (.fn f a cc) H s c g 0 []) (.exit 0) (wAf J (.fn f a cc) H (bJ J.D s c g) c g J.D.length [(15,xl false)]):=by
  refine yu (σ:=S3) (N:=J.D.length) (g:=fun k y=>y.set k (Lj (kW J.D k) (y.get k) c g)) (s0:=s) (st:=fun i y=>wAf J (.fn f a cc) H y c g i []) (fin:=fun y=>wAf J (.fn f a cc) H y c g J.D.length [(15,xl false)]) (fun j y=>∀k,j<=k->k<J.D.length->y.get k=s.get k) (by kernel_rfl) (m3 hD) (fun _ _ _=>rfl) (fun j y hj hy=>?_) (fun j y hj hy m e p g9=>?_) (fun y _=>?_)
  .intro k hk kC;rw[<-hy k (by omega) kC];rcases three kC hD with rfl|rfl|rfl<;>rcases three hj hD with rfl|rfl|rfl<;>first|rfl|omega
  .have h1:=hr j hj;rw[<-hy j (a1b _) hj]at h1;obtain⟨h1,h2⟩:=h1;unfold Lj at g9;rcases three hj hD with rfl|rfl|rfl
   all_goals
    cases e1:decide (y.get _>=0)
    .unfold kT at g9;rw[e1]at g9;exact aO fV (.b (bC hj) (.o (aH hj) (.b e1 (.go g9))))
    .have h3:=h1 e1;cases e2:(au (kW J.D _) (y.get _)).var==c
     .unfold kT at g9;rw[e1,a0p rfl,e2]at g9;exact aO fV (.b (bC hj) (.o (aH hj) (.b e1 (.o h3 (.b e2 (.go g9))))))
     .unfold kT at g9 h2;rw[e1,a0p rfl,e2]at g9 h2;exact aO fV (.b (bC hj) (.o (aH hj) (.b e1 (.o h3 (.b e2 (.o h3 (.o (h2 rfl) (.go g9))))))))
  exact aO fV (.b (fD J.D.length) .ex)
 exact fO fV (first:=[]) (cap:=[]) (.w lp .er)
abbrev wSt(J:Jb)(op:PV aF)(H:List (PB aF))(s:S3)(i:Int)(x:List (Nat×PE aF)):aS aF:=⟨[(2,.loc 1 0),(6,xL 26 J.D),(7,xi J.D.length),(8,xi i)]++x,[J.ps op,s.ps],H⟩
theorem ZX(J:Jb)(hD:J.D.length<=3):aW X0 Qp (bQ (M+1)) (.fn 130 [] []) [.agg (J.ps (.fn f a cc))] H (.agg (eU J.D).ps) H:=by
 have lp:OU M 130 0 H.length (wSt J (.fn f a cc) H ⟨0,0,0⟩ 0 []) (.exit 0) (wSt J (.fn f a cc) H (eU J.D) J.D.length [(9,xl false)]):=by
  refine yu (σ:=S3) (N:=J.D.length) (g:=fun k y=>y.set k (kW J.D k).root) (s0:=⟨0,0,0⟩) (st:=fun i y=>wSt J (.fn f a cc) H y i []) (fin:=fun y=>wSt J (.fn f a cc) H y J.D.length [(9,xl false)]) (fun _ _=>True) (by kernel_rfl) (m3 hD) trivial (fun _ _ _ _=>trivial) (fun j y hj _ m e p g9=>?_) (fun y _=>?_)
  .rcases three hj hD with rfl|rfl|rfl
   all_goals exact aO fV (.b (bC hj) (.o (aH hj) (.go g9)))
  exact aO fV (.b (fD J.D.length) .ex)
 exact fO fV (first:=[]) (cap:=[]) (.w lp .er)
end
end Go.Proofs.YtmobpoiejckagaaGreat
namespace Pv
open Go Tw
section
variable {X:kQ} {P:Program}
theorem aW.fzR(hX:bM X P){call:aY}{fv:PV X.Γ}{xs:List (PV X.Γ)}{H H1:List (PB X.Γ)}{v v':PV X.Γ}(hs:aW X P call fv xs H v H1)(is:List Nat)(hv:views H1 [v]=some [v'])(ho:∀i,i∈kU.kD [v]->i∈is):aW X P call fv xs H v' (aX is H1):=by
 intro A m h tf rW hr hf hx;obtain⟨w,h',ws,m1,k1,k2,k3,k4,k5,k6⟩:=hs A m h tf rW hr hf hx;have hF:=iq (h:=h') is m1;have w1:=(lF (m':=bT is m1) hX k2 (.cons k3 .nil) hv ho).mono fun b hb=>FA.gone k2 hb;obtain⟨x,r,e,h1,_⟩:=w1.inv;cases e;exact⟨w,h',ws,bT is m1,k1,k2.aX is,h1,k4.trans hF.1,k5.trans hF.2,k6⟩
end
end Pv
namespace Go.Proofs.YtmobpoiejckagaaGreat
open Go Tw Pv dh
def aU(D:List Dg)(s:S3):List V:=(List.range D.length).map fun k=>pW (kW D k) (s.get k)
def gCe(D:List Dg)(s:S3)(k:Nat)(l:List V):List V:=l++[pW (kW D k) (s.get k)]
theorem a7A(D:List Dg)(s:S3):aT (gCe D s) D.length 0 []=aU D s:=by
 have:=dF (g:=gCe D s) (m:=D.length) (k:=0) (s:=[]) (fun k l=>l=(List.range k).map fun k=>pW (kW D k) (s.get k)) rfl (fun j l _ _ e=>by rw[gCe,e,adx,a4j];rfl);rw[a4e]at this;exact this
abbrev wCe(J:Jb)(op:PV aF)(H:List (PB aF))(s:S3)(l:List V)(i:Int)(x:List (Nat×PE aF)):aS aF:=⟨[(3,.loc 1 0),(4,.val (.own H.length)),(8,xL 26 J.D),(9,xi J.D.length),(10,xi i)]++x,[J.ps op,s.ps],H++[.list false false 39 l]⟩
theorem a1N{M f:Nat}(J:Jb)(s:S3)(hD:J.D.length<=3)(hr:∀k,k<J.D.length->gq (jD (s.get k)) (kW J.D k).aK.length):aW X0 Qp (bQ (M+1)) (.fn 128 [] []) [.agg (J.ps (.fn f [] [])),.agg s.ps] [] (lV (aU J.D s)) []:=by
 have lp:OU M 128 0 0 (wCe J (.fn f [] []) [] s [] 0 []) (.exit 0) (wCe J (.fn f [] []) [] s (aU J.D s) J.D.length [(11,xl false)]):=by
  rw[<-a7A J.D s];refine yu (σ:=List V) (N:=J.D.length) (g:=gCe J.D s) (s0:=[]) (st:=fun i l=>wCe J (.fn f [] []) [] s l i []) (fin:=fun l=>wCe J (.fn f [] []) [] s l J.D.length [(11,xl false)]) (fun k l=>l.length=k) (by kernel_rfl) (m3 hD) rfl (fun j y hj hy=>by simp[gCe,hy]) (fun j y hj hy m e p g9=>?_) (fun y _=>?_)
  .have h1:=hr j hj;have h2:y.length+[pW (kW J.D j) (s.get j)].length<=ah:=by rw[hy,a4f];exact m3 (by omega)
   rcases three hj hD with rfl|rfl|rfl
   all_goals exact aO fV (.b (bC hj) (.o (aH hj) (.o h1 (.o h2 (.goG [.gc [2]] g9)))))
  exact aO fV (.b (fD J.D.length) .ex)
 have h0:aW X0 Qp (bQ (M+1)) (.fn 128 [] []) [.agg (J.ps (.fn f [] [])),.agg s.ps] [] (.own 0) ([]++[.list false false 39 (aU J.D s)]):=fO fV (first:=[]) (cap:=[]) (.wG [.IY 4 39] lp .er);exact aW.cut hX (aW.fzR hX h0 [0] (v':=lV (aU J.D s)) rfl (by decide)) rfl rfl rfl rfl
theorem aaA{M f:Nat}{u:Int}(J:Jb)(s:S3)(hD:J.D.length<=3)(hr:∀k,k<J.D.length->gq (jD (s.get k)) (kW J.D k).aK.length):aW X0 Qp (bQ (M+1)) (.fn 128 [] []) [.agg (J.ps (.fn f [] [.ptr 0 0 1])),.agg s.ps] [.aC [.int .u8 u]] (lV (aU J.D s)) [.aC [.int .u8 u]]:=by
 have lp:OU M 128 0 1 (wCe J (.fn f [] [.ptr 0 0 1]) [.aC [.int .u8 u]] s [] 0 []) (.exit 0) (wCe J (.fn f [] [.ptr 0 0 1]) [.aC [.int .u8 u]] s (aU J.D s) J.D.length [(11,xl false)]):=by
  rw[<-a7A J.D s];refine yu (σ:=List V) (N:=J.D.length) (g:=gCe J.D s) (s0:=[]) (st:=fun i l=>wCe J (.fn f [] [.ptr 0 0 1]) [.aC [.int .u8 u]] s l i []) (fin:=fun l=>wCe J (.fn f [] [.ptr 0 0 1]) [.aC [.int .u8 u]] s l J.D.length [(11,xl false)]) (fun k l=>l.length=k) (by kernel_rfl) (m3 hD) rfl (fun j y hj hy=>by simp[gCe,hy]) (fun j y hj hy m e p g9=>?_) (fun y _=>?_)
  .have h1:=hr j hj;have h2:y.length+[pW (kW J.D j) (s.get j)].length<=ah:=by rw[hy,a4f];exact m3 (by omega)
   rcases three hj hD with rfl|rfl|rfl
   all_goals exact aO fV (.b (bC hj) (.o (aH hj) (.o h1 (.o h2 (.goG [.gc [3]] g9)))))
  exact aO fV (.b (fD J.D.length) .ex)
 have h0:aW X0 Qp (bQ (M+1)) (.fn 128 [] []) [.agg (J.ps (.fn f [] [.ptr 0 0 1])),.agg s.ps] [.aC [.int .u8 u]] (.own 1) ([.aC [.int .u8 u]]++[.list false false 39 (aU J.D s)]):=fO fV (first:=[]) (cap:=[]) (.wG [.IY 4 39] lp .er);exact aW.cut hX (aW.fzR hX h0 [1] (v':=lV (aU J.D s)) rfl (by decide)) rfl rfl rfl rfl
open Go Tw Pv dh
def S3.l(s:S3):List Int:=[s.a,s.b,s.c]
theorem uSt:Tryz.prog.underlying 148=some (.array 3 3):=by kernel_rfl
theorem akk(a b:S3):aB Qp (Op.equal 148 (.agg (Du .i64 a.l)) (.agg (Du .i64 b.l)))=some (decide (a=b)):=by
 have:=Bv (P:=Qp) 9998 (k:=.i64) (l:=a.l) (l':=b.l) uSt (by kernel_rfl) a3i (by kernel_rfl) rfl rfl;refine Eq.trans this ?_;obtain⟨a1,a2,a3⟩:=a;obtain⟨b1,b2,b3⟩:=b;simp[S3.l]
def kS:oQ X0 Qp 148 S3 where
 pv x:=.agg x.ps
 tv x:=.agg [.int .i64 x.a,.int .i64 x.b,.int .i64 x.c]
 v x:=.agg (Du .i64 x.l)
 hp _:=rfl
 ht _:=rfl
 hc em x:=by kernel_rfl
 hf x l:=afg uSt akk x l
 hk:=afh uSt akk
structure Mk where
 e:List V
 n:List Br
 k:List (S3×Int)
def UW(D:List Dg)(f:S3->Mk->Int×Mk)(s:S3)(c:Int)(j:Nat)(y:List Int×Mk):List Int×Mk:=(y.1++[(f (bJ D s c j) y.2).1],(f (bJ D s c j) y.2).2)
def knS(k:List (S3×Int))(s:S3):Int:=((k.find? fun e=>decide (e.1=s)).map (·.2)).getD 0
def jr(J:Jb)(op:List V->V):List Int->S3->Mk->Int×Mk
 | [],s,x=>(i64.wrap (0-((x.e++[op (aU J.D s)]).length:Int)),{ x with e:=x.e++[op (aU J.D s)] })
 |c::r,s,x=>if jP J.D s c=true then(if decide (J.g.getD c.toNat 0>=0)=true then jr J op r (bJ J.D s c (J.g.getD c.toNat 0)) x
   else if s∈x.k.map (·.1)then(knS x.k s,x)
   else
    let y:=aT (UW J.D (jr J op r) s c) (J.s.getD c.toNat 0).toNat 0 ([],x)
    ((y.2.n.length:Int),⟨y.2.e,y.2.n++[⟨c,y.1⟩],y.2.k++[(s,(y.2.n.length:Int))]⟩))
  else jr J op r s x
abbrev Ib(k:List (S3×Int)):List (PV aF×PV aF):=kS.es (k.map fun e=>(e.1,.int .i64 e.2))
abbrev pM:List (PV aF):=[.ptr 2 0 5,.ptr 1 0 5,.ptr 3 0 1,.ptr 4 0 1]
abbrev HM0(J:Jb)(f:Nat)(x:Mk):List (PB aF):=[.map (Ib x.k),.cells [lI J.s,lI J.o,.own 5,.own 6,.int .i64 0],.aC (J.ps (.fn f [] [])),.aC [.fn 126 [] pM],.aC [.map 0],Qa x.e,Qb x.n]
abbrev aaB(J:Jb)(f:Nat)(x:Mk):List (PB aF):=[.map (Ib x.k),.cells [lI J.s,lI J.o,.own 7,.own 8,.int .i64 0],.aC (J.ps (.fn f [] [])),.aC [.fn 126 [] pM],.aC [.map 0],.gone,.gone,Qa x.e,Qb x.n]
abbrev HM1(J:Jb)(f:Nat)(u:Int)(x:Mk):List (PB aF):=[.map (Ib x.k),.cells [lI J.s,lI J.o,.own 6,.own 7,.int .i64 0],.aC (J.ps (.fn f [] [.ptr 5 0 1])),.aC [.fn 126 [] pM],.aC [.map 0],.aC [.int .u8 u],Qa x.e,Qb x.n]
abbrev aaC(J:Jb)(f:Nat)(u:Int)(x:Mk):List (PB aF):=[.map (Ib x.k),.cells [lI J.s,lI J.o,.own 8,.own 9,.int .i64 0],.aC (J.ps (.fn f [] [.ptr 5 0 1])),.aC [.fn 126 [] pM],.aC [.map 0],.aC [.int .u8 u],.gone,.gone,Qa x.e,Qb x.n]
open Go Tw Pv dh
theorem S3.jy{s:S3}{i k:Nat}{v:Int}(hi:i<3)(hk:k<3):(s.set i v).get k=if k=i then v else s.get k:=by
 match i,k,hi,hk with
 | 0,0,_,_=>rfl
 | 0,1,_,_=>rfl
 | 0,2,_,_=>rfl
 | 1,0,_,_=>rfl
 | 1,1,_,_=>rfl
 | 1,2,_,_=>rfl
 | 2,0,_,_=>rfl
 | 2,1,_,_=>rfl
 | 2,2,_,_=>rfl
 |i+3,_,h,_=>omega
 |_,k+3,_,h=>omega
theorem Jr{D:List Dg}(hD:D.length<=3)(t:S3)(c g:Int){k:Nat}(hk:k<D.length):(bJ D t c g).get k=Lj (kW D k) (t.get k) c g:=by
 have:=dF (g:=fun k (y:S3)=>y.set k (Lj (kW D k) (y.get k) c g)) (m:=D.length) (k:=0) (s:=t) (fun j y=>∀k,k<D.length->y.get k=if k<j then Lj (kW D k) (t.get k) c g else t.get k) (fun k _=>by rw[a0o (by omega)]) (fun j y _ hj hy k hk=>by
  rw[S3.jy (by omega) (by omega)];by_cases e:k=j
  .subst e;rw[a0p rfl,a0p (by omega),hy k hk,a0o (by omega)]
  rw[a0o e,hy k hk];by_cases e2:k<j
  .rw[a0p e2,a0p (by omega)]
  rw[a0o e2,a0o (by omega)])
 have h:=this k hk;rw[a0p (by omega)]at h;exact h
theorem Dx{D:List Dg}{t:S3}{c:Int}:jP D t c=true↔∃k,k<D.length∧kT (kW D k) (t.get k) c=true:=by
 unfold jP;constructor
 .intro h;refine abW fun h2=>?_;have:jS (bG (fun k=>kT (kW D k) (t.get k) c) D.length)=true:=dK.2 fun k hk=>by
   cases e:kT (kW D k) (t.get k) c
   .rfl
   exact absurd ⟨k,hk,e⟩ h2
  rw[this]at h;cases h
 rintro⟨k,hk,h⟩;cases e:jS (bG (fun k=>kT (kW D k) (t.get k) c) D.length)
 .rfl
 have:=dK.1 e k hk;rw[h]at this;cases this
theorem Em{d:Dg}{x c:Int}:kT d x c=true↔0<=x∧(au d x).var=c:=by
 unfold kT;split
 .rename_i h;simp at h;simp[h]
 rename_i h;simp at h;simp;omega
structure DJ(J:Jb)(d:Dg):Prop where
 t:BH d
 n:d.aj.length<=6000
 s:d.aA=J.s
 o:d.aG=J.o
 rk:∀i,i<d.aj.length->∀k,k<(fA d i).ay.length->d.aG.idxOf (fA d i).var+1<=EC d.aG d.aj ((fA d i).ay.getD k 0)
 two:∀i,i<d.aj.length->2<=(fA d i).ay.length
structure jG(J:Jb):Prop where
 d3:J.D.length<=3
 bY:uS J.s
 ord:jV J.s.length J.o=true
 dg:∀k,k<J.D.length->DJ J (kW J.D k)
 gl:J.g.length=J.s.length
 gv:∀c,gq c J.s.length->0<=J.g.getD c.toNat 0->J.g.getD c.toNat 0<J.s.getD c.toNat 0
def Dp(J:Jb)(a:Nat)(t:S3):Prop:=∀k,k<J.D.length->jq (kW J.D k) (t.get k) (kW J.D k).aj.length∧a<=EC J.o (kW J.D k).aj (t.get k)
theorem Dp.le{J:Jb}{a b:Nat}{t:S3}(h:Dp J a t)(hb:b<=a):Dp J b t:=fun k hk=>⟨(h k hk).1,by have:=(h k hk).2;omega⟩
section
variable {J:Jb} (hJ:jG J) {a:Nat} {t:S3} {c:Int} {r:List Int}
include hJ
theorem jG.o2:J.o.Nodup∧J.o.length=J.s.length∧∀c∈J.o,gq c J.s.length:=by
 have ho:=hJ.ord;unfold jV at ho;rw[a1Q]at ho;exact⟨ho.2.2,ho.1,fun c hc=>⟨(ho.2.1 c hc).1,(ho.2.1 c hc).2⟩⟩
theorem jG.at_(hr:J.o.drop a=c::r):a<J.o.length∧J.o.getD a 0=c∧J.o.drop (a+1)=r∧c∈J.o∧J.o.idxOf c=a∧gq c J.s.length:=by
 have aQ:a<J.o.length:=by
  have:=congrArg List.length hr;rw[a4b,a4i]at this;omega
 have hd:=a6D aQ;rw[hr]at hd;obtain⟨hc,wJ⟩:=List.cons.inj hd;have FQ:c∈J.o:=by rw[hc];exact a4z aQ
 obtain⟨h1,h2,h3⟩:=jG.o2 hJ;exact⟨aQ,by rw[hc];simp[List.getD,a0f aQ],wJ.symm,FQ,by rw[hc];exact h1.idxOf_getElem a aQ,h3 c FQ⟩
theorem ZY(hr:J.o.drop a=c::r)(h:jP J.D t c=true):¬Dp J (a+1) t:=fun hd=>by
 obtain⟨k,hk,h1⟩:=Dx.1 h;obtain⟨x0,hv⟩:=Em.1 h1;have:=(hd k hk).2;unfold EC at this;rw[a0o (by omega)]at this;have e:((kW J.D k).aj.getD (t.get k).toNat kM).var=c:=hv;rw[e,(jG.at_ hJ hr).2.2.2.2.1]at this;omega
theorem a1O(hr:J.o.drop a=c::r)(hd:Dp J a t){k:Nat}(hk:k<J.D.length)(hn:kT (kW J.D k) (t.get k) c=false):a+1<=EC J.o (kW J.D k).aj (t.get k):=by
 have h1:=(hd k hk).2;have h2:=jG.at_ hJ hr;by_cases x0:t.get k<0
 .unfold EC;rw[a0p x0];omega
 have iC:((kW J.D k).aj.getD (t.get k).toNat kM).var≠c:=fun e=>by
  have:kT (kW J.D k) (t.get k) c=true:=Em.2 ⟨by omega,e⟩;rw[hn]at this;cases this
 unfold EC at h1 ⊢;rw[a0o x0]at h1 ⊢;rcases a4l a (J.o.idxOf ((kW J.D k).aj.getD (t.get k).toNat kM).var)with h3|h3
 .exact h3
 exfalso;have e:J.o.idxOf ((kW J.D k).aj.getD (t.get k).toNat kM).var=a:=by omega
 have aQ:J.o.idxOf ((kW J.D k).aj.getD (t.get k).toNat kM).var<J.o.length:=by rw[e];exact h2.1
 have g:J.o.getD (J.o.idxOf ((kW J.D k).aj.getD (t.get k).toNat kM).var) 0=((kW J.D k).aj.getD (t.get k).toNat kM).var:=by
  rw[List.getD,a0f aQ,a5e];exact a8M aQ
 rw[e,h2.2.1]at g;exact iC g.symm
theorem UY(hr:J.o.drop a=c::r)(hd:Dp J a t)(h:jP J.D t c=false):Dp J (a+1) t:=fun k hk=>by
 refine⟨(hd k hk).1,a1O hJ hr hd hk ?_⟩;cases e:kT (kW J.D k) (t.get k) c
 .rfl
 .have:=Dx.2 ⟨k,hk,e⟩;rw[h]at this;cases this
theorem Ic(hd:Dp J a t){k:Nat}(hk:k<J.D.length)(h:kT (kW J.D k) (t.get k) c=true):gq (t.get k) (kW J.D k).aj.length∧(au (kW J.D k) (t.get k)).var=c∧((au (kW J.D k) (t.get k)).ay.length:Int)=J.s.getD c.toNat 0:=by
 obtain⟨x0,hv⟩:=Em.1 h;have hr:gq (t.get k) (kW J.D k).aj.length:=⟨x0,(hd k hk).1.1⟩;have hdj:=hJ.dg k hk;have:=hdj.t.ksz (t.get k).toNat (by have:=hr.2;omega);refine⟨hr,hv,?_⟩;have e:(au (kW J.D k) (t.get k))=fA (kW J.D k) (t.get k).toNat:=rfl;rw[e,this,<-e,hv,hdj.s]
theorem mZ(hr:J.o.drop a=c::r)(hd:Dp J a t){j:Int}(hj:0<=j∧j<J.s.getD c.toNat 0):Dp J (a+1) (bJ J.D t c j):=fun k hk=>by
 rw[Jr hJ.d3 t c j hk];unfold Lj;split
 .rename_i h;obtain⟨h1,h2,h3⟩:=Ic hJ hd hk h;have hdj:=hJ.dg k hk;have aQ:(t.get k).toNat<(kW J.D k).aj.length:=by have:=h1.1;have:=h1.2;omega
  have JX:j.toNat<(fA (kW J.D k) (t.get k).toNat).ay.length:=by
   have h3:((fA (kW J.D k) (t.get k).toNat).ay.length:Int)=J.s.getD c.toNat 0:=h3;omega
  have g1:=hdj.t.zB (t.get k).toNat aQ j.toNat JX;have g2:=hdj.rk (t.get k).toNat aQ j.toNat JX;refine⟨⟨by have:=g1.1;show(fA (kW J.D k) (t.get k).toNat).ay.getD j.toNat 0<_;omega,g1.2⟩,?_⟩;have e:(fA (kW J.D k) (t.get k).toNat).var=c:=h2;rw[hdj.o,e,(jG.at_ hJ hr).2.2.2.2.1]at g2;exact g2
 .rename_i h;exact⟨(hd k hk).1,a1O hJ hr hd hk (by simpa using h)⟩
theorem Js(hd:Dp J a t){j:Int}(hj:0<=j∧j<J.s.getD c.toNat 0){k:Nat}(hk:k<J.D.length):a1M (kW J.D k) (t.get k) c j:=by
 refine⟨fun h=>⟨by simpa using h,(hd k hk).1.1⟩,fun h=>?_⟩;have:=(Ic hJ hd hk h).2.2;exact⟨hj.1,by rw[this];exact hj.2⟩
theorem UZ(hr:J.o.drop a=c::r)(hd:Dp J a t)(h:jP J.D t c=true):2<=(J.s.getD c.toNat 0).toNat:=by
 obtain⟨k,hk,h1⟩:=Dx.1 h;obtain⟨h2,h3,h4⟩:=Ic hJ hd hk h1;have:=(hJ.dg k hk).two (t.get k).toNat (by have:=h2.1;have:=h2.2;omega);have h4:((fA (kW J.D k) (t.get k).toNat).ay.length:Int)=J.s.getD c.toNat 0:=h4;omega
theorem Jt(hd:Dp J J.o.length t){k:Nat}(hk:k<J.D.length):t.get k<0∧gq (jD (t.get k)) (kW J.D k).aK.length:=by
 have h1:=hd k hk;have:t.get k<0:=by
  refine abW fun h=>?_;have h2:=h1.2;unfold EC at h2;rw[a0o h]at h2;have hdj:=hJ.dg k hk;have aQ:(t.get k).toNat<(kW J.D k).aj.length:=by have:=h1.1.1;omega
  have hv:=hdj.t.var (t.get k).toNat aQ;rw[hdj.s]at hv;have:=a4F.2 (lW hJ.ord hv);have e:(fA (kW J.D k) (t.get k).toNat).var=((kW J.D k).aj.getD (t.get k).toNat kM).var:=rfl;rw[e]at this;omega
 exact⟨this,h1.1.2 this⟩
end
open Go Tw Pv dh
def ov(g q:List Int):List Int:=List.zipWith (fun a b=>if 0<=a then a else b) g q
theorem Ju{g q:List Int}{k:Nat}(h:g.length=q.length):(ov g q).getD k 0=if k<g.length then(if 0<=g.getD k 0 then g.getD k 0 else q.getD k 0)else 0:=by
 unfold ov;by_cases hk:k<g.length
 .rw[a0p hk];simp[List.getD,List.getElem?_zipWith,a0f hk,a0f (show k<q.length by omega)]
 rw[a0o hk];simp[List.getD,List.getElem?_zipWith,a4h (show g.length<=k by omega)]
def a7D(J:Jb)(op:List V->V)(q:List Int)(t:S3)(v:V):Prop:=∃l:List V,l.length=J.D.length∧(∀k,k<J.D.length->To (kW J.D k) (ov J.g q) (t.get k) (l.getD k V0))∧v=op l
def Sem(J:Jb)(op:List V->V)(v:Int)(t:S3)(x:EN):Prop:=∀Z:Dg,Z.aK.length<2^61->x.1 <+: Z.aK->x.2 <+: Z.aj->∀q,jM J.s q=true->∃u,To Z q v u∧a7D J op q t u
theorem Sem.mono{J:Jb}{op:List V->V}{v:Int}{t:S3}{x y:EN}(h:Sem J op v t x)(hp:Pn x y):Sem J op v t y:=fun Z hZ h1 h2=>h Z hZ (hp.1.trans h1) (hp.2.trans h2)
abbrev Mk.en(x:Mk):EN:=(x.e,x.n)
def En(v:V):Prop:=vOk v=true∧0<=v.f
structure XOk(J:Jb)(op:List V->V)(x:Mk):Prop where
 v:PtV J.s J.o x.en
 k:∀e∈x.k,gq e.2 x.n.length∧jP J.D e.1 (x.n.getD e.2.toNat kM).var=true∧Sem J op e.2 e.1 x.en
 nd:(x.k.map (·.1)).Nodup
 e:∀v∈x.e,En v
 w:∀b∈x.n,∀v∈b.ay,FV v
structure a3A(J:Jb)(op:List V->V)(a:Nat)(w:Nat)(t:S3)(x:Mk)(z:Int×Mk):Prop where
 pre:Pn x.en z.2.en
 el:z.2.e.length<=x.e.length+w
 nl:z.2.n.length+1<=x.n.length+w
 ok:XOk J op z.2
 rf:BL J.o z.2.en z.1 z.2.n.length a
 sm:Sem J op z.1 t z.2.en
 ks:∀e∈z.2.k,e∈x.k∨Dp J a e.1
 w:FV z.1
theorem XOk.mono{J:Jb}{op:List V->V}{x:Mk}{e:List V}(h:XOk J op x)(hp:x.e <+: e)(he:∀v∈e,En v):XOk J op { x with e:=e }:=by
 have hq:Pn x.en (e,x.n):=⟨hp,a4w⟩;exact⟨⟨h.v.var,h.v.ksz,fun i hi k hk=>(h.v.zB i hi k hk).mono hq (a1b _) (a9f hi) (a1b _)⟩,fun e he=>⟨(h.k e he).1,(h.k e he).2.1,(h.k e he).2.2.mono hq⟩,h.nd,he,h.w⟩
theorem PG{J:Jb}(hJ:jG J){op:List V->V}{q:List Int}{t:S3}{a:Nat}(hd:Dp J a t){c j:Int}{u:V}(hj:(ov J.g q).getD c.toNat 0=j)(h:a7D J op q (bJ J.D t c j) u):a7D J op q t u:=by
 obtain⟨l,h1,h2,h3⟩:=h;refine⟨l,h1,fun k hk=>?_,h3⟩;have h4:=h2 k hk;rw[Jr hJ.d3 t c j hk]at h4;unfold Lj at h4;split at h4
 .rename_i h5;obtain⟨h6,h7,_⟩:=Ic hJ hd hk h5;refine .step h6.1 ?_;rw[h7,hj];exact h4
 exact h4
def pq(J:Jb)(op:List V->V):Prop:=∀t,Dp J J.o.length t->En (op (aU J.D t))
theorem aaD{J:Jb}(hJ:jG J)(op:List V->V)(jf:pq J op){t:S3}{x:Mk}(hd:Dp J J.o.length t)(hx:XOk J op x)(hb:x.e.length+1<=2^60):a3A J op J.o.length 1 t x (jr J op [] t x):=by
 have e0:i64.wrap (0-((x.e++[op (aU J.D t)]).length:Int))=-1-(x.e.length:Int):=by
  rw[a2j,a4f,fG (by omega) (by omega)];omega
 obtain⟨_,e2⟩:=Pq (k:=x.e.length) (by omega);have hp:x.e <+: x.e++[op (aU J.D t)]:=a8N _ _;show a3A J op J.o.length 1 t x (i64.wrap (0-((x.e++[op (aU J.D t)]).length:Int)),_);rw[e0];refine⟨⟨hp,a4w⟩,by simp,a1b _,hx.mono hp (fun v hv=>by rcases a3k.1 hv with hv|hv;exact hx.e v hv;rw[a2U.1 hv];exact jf t hd),⟨fun _=>?_,?_,?_⟩,fun Z hZ g1 g2 q hq=>?_,fun e he=>.inl he,⟨by show _<=-1-(x.e.length:Int);omega,by show -1-(x.e.length:Int)<_;omega⟩⟩
 .rw[e2];exact⟨by omega,by simp;omega⟩
 .show -1-(x.e.length:Int)<_;omega
 .unfold EC;rw[a0p (by show -1-(x.e.length:Int)<0;omega)];exact a1b _
 have h1:=To.fin (d:=Z) (q:=q) (r:=-1-(x.e.length:Int)) (by omega);rw[e2,a4L]at h1;have g1:x.e++[op (aU J.D t)] <+: Z.aK:=g1;have e3:Z.aK.getD x.e.length V0=op (aU J.D t):=by
  rw[zF g1 (by simp)];simp[List.getD]
 rw[e3]at h1;refine⟨_,h1,aU J.D t,by simp[aU],fun k hk=>?_,rfl⟩;have h2:=Jt hJ hd hk;have e4:(aU J.D t).getD k V0=pW (kW J.D k) (t.get k):=by simp[aU,List.getD,hk]
 rw[e4];exact .fin h2.1
theorem Dy{α:Type}{l:List α}{a:α}(h:l.Nodup)(ha:a∉l):(l++[a]).Nodup:=by
 rw[a8P];exact⟨h,by simp,fun x hx y hy e=>by simp at hy;subst hy;subst e;exact ha hx⟩
theorem Jv{α:Type}{l:List α}{x d:α}{j:Nat}:(l++[x]).getD j d=if j<l.length then l.getD j d else if j=l.length then x else d:=by
 split
 .rename_i h;simp[List.getD,a0j h]
 rename_i h;split
 .rename_i h2;subst h2;simp[List.getD]
 rename_i h2;rw[List.getD,a4h (by simp;omega)];rfl
theorem SY{J:Jb}(hJ:jG J)(op:List V->V)(jf:pq J op):∀(r:List Int) (a:Nat) (t:S3) (x:Mk),J.o.drop a=r->a<=J.o.length->Dp J a t->XOk J op x->x.e.length+wO J.s r<=2^60->x.n.length+wO J.s r<=2^60->a3A J op a (wO J.s r) t x (jr J op r t x)
 | [],a,t,x,hr,ha,hd,hx,hb,xX=>by
  have:a=J.o.length:=by
   have:=congrArg List.length hr;rw[a4b,a4R]at this;omega
  subst this;exact aaD hJ op jf hd hx hb
 |c::r,a,t,x,hr,ha,hd,hx,hb,xX=>by
  obtain⟨aQ,hoc,wJ,FQ,hci,qA⟩:=jG.at_ hJ hr;have hz:=hJ.bY.sz _ (dn (s:=J.s) (k:=c.toNat) (by have:=qA.1;have:=qA.2;omega));have hri:∀c'∈r,gq c' J.s.length:=fun c' h=>(jG.o2 hJ).2.2 c' (by rw[<-wJ]at h;exact a5Q h);have hw:=UR hJ.bY.sz hri;have hw1:wO J.s r<=(J.s.getD c.toNat 0).toNat*wO J.s r:=adC _ (by omega);simp only[wO]at hb xX ⊢;have up:∀{t':S3} {z:Int×Mk},a3A J op (a+1) (wO J.s r) t' x z->(∀q u,jM J.s q=true->a7D J op q t' u->a7D J op q t u)->a3A J op a ((J.s.getD c.toNat 0).toNat*wO J.s r) t x z:=fun{t' z} h hs=>
   ⟨h.pre,by have:=h.el;omega,by have:=h.nl;omega,h.ok,h.rf.mono Pn.rfl (a1b _) (a1b _) (by omega),fun Z hZ g1 g2 q hq=>let ⟨u,u1,u2⟩:=h.sm Z hZ g1 g2 q hq;⟨u,u1,hs q u hq u2⟩,fun e he=>(h.ks e he).imp id fun h=>h.le (by omega),h.w⟩
  unfold jr;cases AP:jP J.D t c
  .rw[a0o (by simp)];exact up (SY hJ op jf r (a+1) t x wJ aQ (UY hJ hr hd AP) hx (by omega) (by omega)) fun _ _ _ h=>h
  rw[a0p rfl];by_cases hg:J.g.getD c.toNat 0>=0
  .rw[a0p (by simpa using hg)];refine up (SY hJ op jf r (a+1) _ x wJ aQ (mZ hJ hr hd ⟨hg,hJ.gv c qA hg⟩) hx (by omega) (by omega)) fun q u hq h=>PG hJ hd ?_ h;rw[Ju (by rw[hJ.gl,uH hq]),a0p (by rw[hJ.gl];have:=qA.1;have:=qA.2;omega),a0p hg]
  rw[a0o (by simpa using hg)];by_cases hk:t∈x.k.map (·.1)
  .rw[a0p hk];obtain⟨e,he,rfl⟩:=a1l.1 hk;have hkn:knS x.k e.1=e.2:=by
    have:x.k.find? (fun y=>decide (y.1=e.1))=some e:=by
     have jA:=hx.nd;clear hb up hk AP hd;generalize x.k=l at he jA
     induction l with
     |nil=>cases he
     |cons y l ih=>
      rw[agH];rcases a2y.1 he with rfl|he
      .simp
      have:¬y.1=e.1:=fun h=>by
       rw[a4k,a4r]at jA;exact jA.1 (a1l.2 ⟨e,he,h.symm⟩)
      rw[aey this];rw[a4k,a4r]at jA;exact ih he jA.2
    unfold knS;rw[this];rfl
   rw[hkn];obtain⟨k1,k2,k3⟩:=hx.k e he;have hmul:2*1<=(J.s.getD c.toNat 0).toNat*wO J.s r:=agP (UZ hJ hr hd AP) hw;refine⟨Pn.rfl,by show x.e.length<=_;omega,by show x.n.length+1<=_;omega,hx,⟨fun h=>by have:=k1.1;show gq _ _;exact absurd h (by omega),k1.2,?_⟩,k3,fun _ h=>.inl h,⟨by have:=k1.1;show _<=e.2;omega,by have:=k1.2;show e.2<_;omega⟩⟩;obtain⟨k,hk,h1⟩:=Dx.1 k2;obtain⟨x0,hv⟩:=Em.1 h1;have h2:=(hd k hk).2;unfold EC at h2 ⊢;rw[a0o (by omega)]at h2;have k10:=k1.1;rw[a0o (show ¬e.2<0 by omega)];have hv:((kW J.D k).aj.getD (e.1.get k).toNat kM).var=(x.n.getD e.2.toNat kM).var:=hv;rw[hv]at h2;exact h2
  rw[a0o hk];have hm2:=UZ hJ hr hd AP;have Yt:∀j,j<(J.s.getD c.toNat 0).toNat->j*wO J.s r+wO J.s r<=(J.s.getD c.toNat 0).toNat*wO J.s r:=fun j hj=>by
   have:(j+1)*wO J.s r<=(J.s.getD c.toNat 0).toNat*wO J.s r:=a3X _ hj;rw[a3E]at this;omega
  have inv:=dF (g:=UW J.D (jr J op r) t c) (m:=(J.s.getD c.toNat 0).toNat) (k:=0) (s:=([],x)) (fun k y=>y.1.length=k∧Pn x.en y.2.en∧y.2.e.length<=x.e.length+k*wO J.s r∧y.2.n.length+k<=x.n.length+k*wO J.s r∧XOk J op y.2∧(∀e∈y.2.k,e∈x.k∨Dp J (a+1) e.1)∧(∀v∈y.1,FV v)∧∀j:Nat,j<k->BL J.o y.2.en (y.1.getD j 0) y.2.n.length (a+1)∧Sem J op (y.1.getD j 0) (bJ J.D t c j) y.2.en)
   ⟨rfl,Pn.rfl,by simp,by simp,hx,fun _ h=>.inl h,(fun v hv=>by cases hv),fun j hj=>by omega⟩ (fun j y _ hj hy=>by
    obtain⟨y1,y2,y3,y4,y5,y6,y8,y7⟩:=hy;have Yt:=Yt j (by omega);have h:=SY hJ op jf r (a+1) (bJ J.D t c j) y.2 wJ aQ (mZ hJ hr hd ⟨by omega,by omega⟩) y5 (by omega) (by omega);refine⟨by simp[UW,y1],y2.trans h.pre,?_,?_,h.ok,fun e he=>?_,fun v hv=>?_,fun j' DR=>?_⟩
    .have:=h.el;show(jr J op r (bJ J.D t c j) y.2).2.e.length<=_;rw[a3E];omega
    .have:=h.nl;show(jr J op r (bJ J.D t c j) y.2).2.n.length+_<=_;rw[a3E];omega
    .rcases h.ks e he with h1|h1
     .exact y6 e h1
     .exact .inr h1
    .have hv:v∈y.1++[(jr J op r (bJ J.D t c j) y.2).1]:=hv;rcases a3k.1 hv with hv|hv
     .exact y8 v hv
     .rw[a2U.1 hv];exact h.w
    .have e1:(UW J.D (jr J op r) t c j y).1.getD j' 0=if j'<j then y.1.getD j' 0 else(jr J op r (bJ J.D t c j) y.2).1:=by
      show(y.1++[_]).getD j' 0=_;rw[Jv,y1];split
      .rfl
      .rw[a0p (by omega)]
     rw[e1];by_cases e:j'<j
     .rw[a0p e];obtain⟨a1,a2⟩:=y7 j' e;exact⟨a1.mono h.pre h.pre.2.length_le (a1b _) (a1b _),a2.mono h.pre⟩
     .rw[a0o e];have e:j'=j:=(by omega);subst e;exact⟨h.rf,h.sm⟩)
  rw[a4e]at inv;simp only[];generalize aT (UW J.D (jr J op r) t c) (J.s.getD c.toNat 0).toNat 0 ([],x)=y at inv;obtain⟨ks,m⟩:=y;obtain⟨y1,y2,y3,y4,y5,y6,y8,y7⟩:=inv;have y1:ks.length=(J.s.getD c.toNat 0).toNat:=y1;have hp:Pn m.en (m.e,m.n++[(⟨c,ks⟩:Br)]):=⟨a4w,a8N _ _⟩;have fP:(m.n++[(⟨c,ks⟩:Br)]).getD m.n.length kM=⟨c,ks⟩:=by simp[List.getD]
  have a4V:Sem J op (m.n.length:Int) t (m.e,m.n++[(⟨c,ks⟩:Br)]):=fun Z hZ g1 g2 q hq=>by
   have g2:m.n++[(⟨c,ks⟩:Br)] <+: Z.aj:=g2;have Yp:=(pU.1 hq).2 c.toNat (by have:=qA.1;have:=qA.2;omega);have hj:(q.getD c.toNat 0).toNat<(J.s.getD c.toNat 0).toNat:=(by omega);obtain⟨u,u1,u2⟩:=(y7 _ hj).2 Z hZ g1 ((a8N _ _).trans g2) q hq;have en:au Z (m.n.length:Int)=⟨c,ks⟩:=by
    show Z.aj.getD (m.n.length:Int).toNat kM=_;rw[a4L,zF g2 (by simp),fP]
   refine⟨u,.step (by omega) (by rw[en];exact u1),PG hJ hd ?_ u2⟩;rw[Ju (by rw[hJ.gl,uH hq]),a0p (by rw[hJ.gl];have:=qA.1;have:=qA.2;omega),a0o (by omega)];omega
  have hv2:PtV J.s J.o (m.e,m.n++[(⟨c,ks⟩:Br)]):=by
   have hg:∀i,i<(m.n++[(⟨c,ks⟩:Br)]).length->(i<m.n.length∧(m.n++[(⟨c,ks⟩:Br)]).getD i kM=m.n.getD i kM)∨(i=m.n.length∧(m.n++[(⟨c,ks⟩:Br)]).getD i kM=⟨c,ks⟩):=fun i hi=>by
    simp only[a2j,a4f]at hi;rcases a4l i m.n.length with h|h
    .exact .inl ⟨h,by rw[Jv,a0p h]⟩
    exact .inr ⟨by omega,by rw[show i=m.n.length by omega,fP]⟩
   refine⟨fun i hi=>?_,fun i hi=>?_,fun i hi k hk=>?_⟩
   .rcases hg i hi with⟨h1,h2⟩|⟨h1,h2⟩
    .show gq ((m.n++[_]).getD i kM).var _;rw[h2];exact y5.v.var i h1
    show gq ((m.n++[_]).getD i kM).var _;rw[h2];exact qA
   .rcases hg i hi with⟨h1,h2⟩|⟨h1,h2⟩
    .show(((m.n++[_]).getD i kM).ay.length:Int)=J.s.getD ((m.n++[_]).getD i kM).var.toNat 0;rw[h2];exact y5.v.ksz i h1
    show(((m.n++[_]).getD i kM).ay.length:Int)=J.s.getD ((m.n++[_]).getD i kM).var.toNat 0;rw[h2];show(ks.length:Int)=J.s.getD c.toNat 0;omega
   rcases hg i hi with⟨h1,h2⟩|⟨h1,h2⟩
   .have hk:k<((m.n++[(⟨c,ks⟩:Br)]).getD i kM).ay.length:=hk;show BL J.o _ (((m.n++[(⟨c,ks⟩:Br)]).getD i kM).ay.getD k 0) i (J.o.idxOf ((m.n++[(⟨c,ks⟩:Br)]).getD i kM).var+1);rw[h2]at hk ⊢;exact(y5.v.zB i h1 k hk).mono hp (a1b _) (a9f h1) (a1b _)
   have hk:k<((m.n++[(⟨c,ks⟩:Br)]).getD i kM).ay.length:=hk;show BL J.o _ (((m.n++[(⟨c,ks⟩:Br)]).getD i kM).ay.getD k 0) i (J.o.idxOf ((m.n++[(⟨c,ks⟩:Br)]).getD i kM).var+1);rw[h2]at hk ⊢;have hk:k<ks.length:=hk;subst h1;show BL J.o _ (ks.getD k 0) m.n.length (J.o.idxOf c+1);rw[hci];exact(y7 k (by omega)).1.mono hp (a1b _) (a1b _) (a1b _)
  have y5:XOk J op m:=y5;have y6:∀e∈m.k,e∈x.k∨Dp J (a+1) e.1:=y6;refine⟨y2.trans hp,y3,?_,⟨hv2,fun e he=>?_,?_,y5.e,fun b hb=>?_⟩,⟨fun h=>?_,?_,?_⟩,a4V,fun e he=>?_,⟨by show _<=(m.n.length:Int);omega,by have y4:m.n.length+_<=x.n.length+_:=y4;show(m.n.length:Int)<_;omega⟩⟩
  .show(m.n++[_]).length+1<=_;rw[a2j,a4f];have y4:m.n.length+(J.s.getD c.toNat 0).toNat<=x.n.length+(J.s.getD c.toNat 0).toNat*wO J.s r:=y4;omega
  .rcases a3k.1 he with he|he
   .obtain⟨k1,k2,k3⟩:=y5.k e he;have aQ:e.2.toNat<m.n.length:=by have:=k1.1;have:=k1.2;omega
    refine⟨⟨k1.1,?_⟩,?_,k3.mono hp⟩
    .have:=k1.2;show e.2<((m.n++[_]).length:Int);rw[a2j];omega
    show jP J.D e.1 ((m.n++[_]).getD e.2.toNat kM).var=true;rw[Jv,a0p aQ];exact k2
   rw[a2U.1 he];refine⟨⟨by omega,by show(m.n.length:Int)<((m.n++[_]).length:Int);rw[a2j,a4f];omega⟩,?_,a4V⟩;show jP J.D t ((m.n++[_]).getD (m.n.length:Int).toNat kM).var=true;rw[a4L,fP];exact AP
  .rw[a4j];refine Dy y5.nd fun h=>?_;obtain⟨e,he,e2⟩:=a1l.1 h;rcases y6 e he with h1|h1
   .exact hk (a1l.2 ⟨e,h1,e2⟩)
   rw[e2]at h1;exact ZY hJ hr AP h1
  .have hb:b∈m.n++[(⟨c,ks⟩:Br)]:=hb;rcases a3k.1 hb with hb|hb
   .exact y5.w b hb
   rw[a2U.1 hb];exact y8
  .exact absurd h (by show ¬((m.n.length:Int)<0);omega)
  .show(m.n.length:Int)<((m.n++[_]).length:Int);rw[a2j,a4f];omega
  .show a<=EC J.o (m.n++[_]) (m.n.length:Int);unfold EC;rw[a0o (by omega),a4L,fP];show a<=J.o.idxOf c;omega
  rcases a3k.1 he with he|he
  .rcases y6 e he with h1|h1
   .exact .inl h1
   exact .inr (h1.le (by omega))
  rw[a2U.1 he];exact .inr hd
open Go Tw Pv dh
def jQ(J:Jb)(op:List V->V):Dg:=⟨J.s,J.o,(jr J op J.o (eU J.D) ⟨[],[],[]⟩).2.e,(jr J op J.o (eU J.D) ⟨[],[],[]⟩).2.n,(jr J op J.o (eU J.D) ⟨[],[],[]⟩).1⟩
def uU(J:Jb)(op:List V->V):Dg:=(zG (jQ J op)).1
def Dz(J:Jb)(op:List V->V):List V:=(List.range (EY J.s)).map fun(k:Nat)=>op (J.D.map fun d=>wW d (ov J.g (jT J.s k)))
theorem vY{D:List Dg}(hD:D.length<=3){k:Nat}(hk:k<D.length):(eU D).get k=(kW D k).root:=by
 have:=dF (g:=fun k (y:S3)=>y.set k (kW D k).root) (m:=D.length) (k:=0) (s:=⟨0,0,0⟩) (fun j y=>∀k,k<j->y.get k=(kW D k).root) (fun k hk=>by omega) (fun j y _ hj hy k hk=>by
  rw[S3.jy (by omega) (by omega)];by_cases e:k=j
  .rw[a0p e,e]
  rw[a0o e];exact hy k (by omega))
 exact this k (by omega)
theorem akl{J:Jb}(hJ:jG J){q:List Int}(hq:jM J.s q=true):jM J.s (ov J.g q)=true:=by
 have hl:=uH hq;refine pU.2 ⟨by simp[ov,adW,hJ.gl,hl],fun k hk=>?_⟩;rw[Ju (by rw[hJ.gl,hl]),a0p (by rw[hJ.gl];exact hk)];split
 .rename_i h;exact⟨h,hJ.gv (k:Int) (aH hk) h⟩
 exact(pU.1 hq).2 k hk
theorem a00{J:Jb}(hJ:jG J){op:List V->V}(jf:pq J op):a3A J op 0 (wO J.s J.o) (eU J.D) ⟨[],[],[]⟩ (jr J op J.o (eU J.D) ⟨[],[],[]⟩):=by
 have hw:=FX hJ.bY.sz hJ.ord;have hm:=hJ.bY.many;refine SY hJ op jf J.o 0 (eU J.D) ⟨[],[],[]⟩ (abx) (a4K _) (fun k hk=>?_) ⟨⟨fun i hi=>(by simp at hi),fun i hi=>(by simp at hi),fun i hi=>(by simp at hi)⟩,fun e he=>(by cases he),a5Y,fun v hv=>(by cases hv),fun b hb=>(by cases hb)⟩ (by show 0+wO J.s J.o<=_;omega) (by show 0+wO J.s J.o<=_;omega);rw[vY hJ.d3 hk];exact⟨(hJ.dg k hk).t.root,a4K _⟩
theorem vZ{J:Jb}(hJ:jG J){op:List V->V}(jf:pq J op):bD (jQ J op)=0∧(jQ J op).aK.length<=2000∧∀v∈(jQ J op).aK,En v:=by
 have h:=a00 hJ jf;have hw:=FX hJ.bY.sz hJ.ord;have hm:=hJ.bY.many;have h1:(jQ J op).aK.length<=0+wO J.s J.o:=h.el;have h2:(jQ J op).aj.length+1<=0+wO J.s J.o:=h.nl;refine⟨SS (by unfold ah;omega) ?_ (fun v hv=>(h.ok.e v hv).1) (by omega) h.ok.v h.rf,by omega,h.ok.e⟩;have:bW J.s J.o=0:=kN.2 ⟨hJ.bY,hJ.ord⟩;show(bW J.s J.o != 0)=false;rw[this];rfl
theorem a7E{J:Jb}(hJ:jG J){op:List V->V}(jf:pq J op):Ez (jQ J op):=by
 have h:=a00 hJ jf;exact⟨fun i hi k hk=>h.ok.w _ (Xw hi) _ (dn hk),h.w,fun v hv=>(h.ok.e v hv).2⟩
theorem Ie{J:Jb}(hJ:jG J){op:List V->V}(jf:pq J op):bF (jQ J op)=(yL (jQ J op),0)∧uU J op=qy J.s J.o (cellsD (jQ J op)):=by
 obtain⟨h1,h2,h3⟩:=vZ hJ jf;have hr:=a7E hJ jf;have ho:=(jG.o2 hJ).2.1;have hl:=hJ.bY.len;have e:=Jl hr (by unfold ah;omega);rw[h1]at e;have hf:¬(bW (jQ J op).aA (jQ J op).aG != 0)=true:=by
  have:bW J.s J.o=0:=kN.2 ⟨hJ.bY,hJ.ord⟩;show ¬(bW J.s J.o != 0)=true;rw[this];simp
 rw[a0o hf]at e;refine⟨e,?_⟩;unfold uU zG;rw[e];show eP (jQ J op)=_;exact(XM h1 (by show J.o.length<=ah;unfold ah;omega) (by unfold ah;omega)).1
theorem Tc{J:Jb}(hJ:jG J){op:List V->V}(jf:pq J op):cellsD (jQ J op)=Dz J op:=by
 obtain⟨h1,h2,h3⟩:=vZ hJ jf;have h:=a00 hJ jf;have ho:=(jG.o2 hJ).2.1;have hl:=hJ.bY.len;have ht:=(iW (d:=jQ J op) (by show J.o.length<=ah;unfold ah;omega) (by unfold ah;omega) (by rw[h1];rfl));unfold cellsD Dz;refine a4P fun k _=>?_;have hq:jM J.s (jT J.s k)=true:=vX _ hJ.bY.sz;obtain⟨u,u1,l,l1,l2,rfl⟩:=h.sm (jQ J op) (by omega) a4w a4w (jT J.s k) hq;have e1:=u1.at_ ht.1 hq 6001 (by have:=h.rf.2.1;have:=ht.2;show(jQ J op).root<_;have e:(jQ J op).aj.length=(jr J op J.o (eU J.D) ⟨[],[],[]⟩).2.n.length:=rfl;have e2:(jQ J op).root=(jr J op J.o (eU J.D) ⟨[],[],[]⟩).1:=rfl;omega) ht.1.root;show wW (jQ J op) (jT J.s k)=_;unfold wW;have e1:op l=(jQ J op).aK.getD (jD (ZL (jQ J op) (jT J.s k) 6001 (jQ J op).root)).toNat V0:=e1;rw[<-e1];congr 1;refine(oP (d:=V0) (by rw[l1,a4n])).2 fun i hi=>?_;rw[l1]at hi;have hd:=hJ.dg i hi;have h5:=l2 i hi;rw[vY hJ.d3 hi]at h5;have hov:jM (kW J.D i).aA (ov J.g (jT J.s k))=true:=by rw[hd.s];exact akl hJ hq
 have h6:=h5.at_ hd.t hov 6001 (by have:=hd.t.root.1;have:=hd.n;omega) hd.t.root;rw[h6];simp[List.getD,a4q,a0f hi,wW,atR]
theorem mk_eq{J:Jb}(hJ:jG J){op:List V->V}(jf:pq J op):uU J op=qy J.s J.o (Dz J op):=by
 rw[(Ie hJ jf).2,Tc hJ jf]
end Go.Proofs.YtmobpoiejckagaaGreat
namespace dh
open Tw
section
variable {κ:Type} [DecidableEq κ]
def rX(m:List (κ×Int))(k:κ)(n:Int):List (κ×Int):=
 if k∈m.map (·.1)then m.modify ((m.map (·.1)).idxOf k) (fun e=>(e.1,e.2+n))else m++[(k,n)]
def dG(φ:κ->Int):List (κ×Int)->Int
 | []=>0
 |e::m=>e.2*φ e.1+dG φ m
theorem XP(φ:κ->Int):∀a b:List (κ×Int),dG φ (a++b)=dG φ a+dG φ b
 | [],b=>by simp[dG]
 |e::a,b=>by simp only[List.cons_append,dG,XP φ a b];omega
theorem XQ(φ:κ->Int){k:κ}{n:Int}:∀{m:List (κ×Int)},k∈m.map (·.1)->dG φ (m.modify ((m.map (·.1)).idxOf k) fun e=>(e.1,e.2+n))=dG φ m+n*φ k
 | [],h=>by simp at h
 |e::m,h=>by
  by_cases e1:e.1=k
  .have:((e::m).map (·.1)).idxOf k=0:=(by simp[adA,e1]);rw[this];simp only[List.modify_zero_cons,dG,agQ,e1];omega
  have h2:k∈m.map (·.1):=by
   rw[a4k,a2y]at h;exact h.resolve_left fun h=>e1 h.symm
  have:((e::m).map (·.1)).idxOf k=(m.map (·.1)).idxOf k+1:=by
   simp[adA,agN.2 e1]
  rw[this];simp only[List.modify_succ_cons,dG,XQ φ h2];omega
theorem zH(φ:κ->Int)(m:List (κ×Int))(k:κ)(n:Int):dG φ (rX m k n)=dG φ m+n*φ k:=by
 unfold rX;split
 .exact XQ φ ‹_›
 rw[XP];simp[dG]
theorem XR{f:Int->Int}:∀(m:List (κ×Int)) (j:Nat),(m.modify j fun e=>(e.1,f e.2)).map (·.1)=m.map (·.1)
 | [],j=>by simp
 |e::m,0=>by simp
 |e::m,j+1=>by simp[XR m j]
theorem Td(m:List (κ×Int))(k:κ)(n:Int):(rX m k n).map (·.1)=if k∈m.map (·.1)then m.map (·.1)else m.map (·.1)++[k]:=by
 unfold rX;split
 .exact XR (f:=fun x=>x+n) m _
 simp
theorem FZ{m:List (κ×Int)}(h:(m.map (·.1)).Nodup)(k:κ)(n:Int):((rX m k n).map (·.1)).Nodup:=by
 rw[Td];split
 .exact h
 rename_i h2;rw[a8P];exact⟨h,by simp,fun x hx y hy e=>by simp at hy;subst hy;subst e;exact h2 hx⟩
theorem a1P{f:κ×Int->κ×Int}:∀{m:List (κ×Int)} {j:Nat} {e:κ×Int},e∈m.modify j f->e∈m∨∃e'∈m,e=f e'
 | [],j,e,h=>by simp at h
 |x::m,0,e,h=>by
  rw[List.modify_zero_cons,a2y]at h;rcases h with h|h
  .exact .inr ⟨x,by simp,h⟩
  exact .inl (by simp[h])
 |x::m,j+1,e,h=>by
  rw[List.modify_succ_cons,a2y]at h;rcases h with h|h
  .exact .inl (by simp[h])
  rcases a1P h with h|⟨e',h1,h2⟩
  .exact .inl (by simp[h])
  exact .inr ⟨e',by simp[h1],h2⟩
theorem PK{m:List (κ×Int)}{k:κ}{n:Int}(hn:0<n)(h:∀e∈m,0<e.2):∀e∈rX m k n,0<e.2:=fun e he=>by
 unfold rX at he;split at he
 .rcases a1P he with h1|⟨e',h1,rfl⟩
  .exact h e h1
  .have:=h e' h1;show 0<e'.2+n;omega
 .rcases a3k.1 he with h1|h1
  .exact h e h1
  .rw[a2U.1 h1];exact hn
theorem a7F{m:List (κ×Int)}{k:κ}{n:Int}{e:κ×Int}(he:e∈rX m k n):e.1=k∨∃e'∈m,e'.1=e.1:=by
 have:e.1∈(rX m k n).map (·.1):=a1l.2 ⟨e,he,rfl⟩;rw[Td]at this;split at this
 .obtain⟨e',h1,h2⟩:=a1l.1 this;exact .inr ⟨e',h1,h2⟩
 rcases a3k.1 this with h1|h1
 .obtain⟨e',h1,h2⟩:=a1l.1 h1;exact .inr ⟨e',h1,h2⟩
 exact .inl (by simpa using h1)
def ind(k:κ)(x:κ):Int:=if x=k then 1 else 0
theorem V3{k:κ}:∀{m:List (κ×Int)},k∉m.map (·.1)->dG (ind k) m=0
 | [],_=>rfl
 |e::m,h=>by
  rw[a4k,a2y,adw]at h;simp only[dG,V3 h.2,ind,a0o (fun e1:e.1=k=>h.1 e1.symm)];omega
theorem Ig:∀{m:List (κ×Int)} {e:κ×Int},(m.map (·.1)).Nodup->e∈m->dG (ind e.1) m=e.2
 |x::m,e,hn,h=>by
  rw[a4k,a4r]at hn;rcases a2y.1 h with rfl|h
  .simp only[dG,V3 hn.1,ind,a2w];omega
  have:¬x.1=e.1:=fun e1=>hn.1 (a1l.2 ⟨e,h,e1.symm⟩);simp only[dG,Ig hn.2 h,ind,a0o this];omega
theorem XT{m:List (κ×Int)}(hn:(m.map (·.1)).Nodup)(hp:∀e∈m,0<e.2)(e:κ×Int):e∈m↔0<e.2∧dG (ind e.1) m=e.2:=by
 constructor
 .exact fun h=>⟨hp e h,Ig hn h⟩
 rintro⟨h1,h2⟩;by_cases h:e.1∈m.map (·.1)
 .obtain⟨e',h3,h4⟩:=a1l.1 h;have:=Ig hn h3;have h4:e'.1=e.1:=h4;rw[h4,h2]at this;have:e'=e:=aby h4 this.symm;rw[<-this];exact h3
 rw[V3 h]at h2;omega
theorem Ih{β:Type}{f:κ×Int->β}{l:List (κ×Int)}(h:(l.map f).Nodup):l.Nodup:=by
 rw[List.Nodup,agi]at h;exact h.imp fun{a b} h (e:a=b)=>h (congrArg f e)
theorem V4{m m':List (κ×Int)}(h1:(m.map (·.1)).Nodup)(h2:(m'.map (·.1)).Nodup)(p1:∀e∈m,0<e.2)(p2:∀e∈m',0<e.2)(h:∀φ,dG φ m=dG φ m'):m.Perm m':=
 (a7n (Ih h1) (Ih h2)).2 fun e=>by rw[XT h1 p1,XT h2 p2,h]
theorem a3B(φ:κ->Int){m m':List (κ×Int)}(h:m.Perm m'):dG φ m=dG φ m':=by
 induction h with
 |nil=>rfl
 |cons x _ ih=>simp only[dG,ih]
 |swap x y l=>simp only[dG];omega
 |trans _ _ h1 h2=>exact h1.trans h2
def AQ(l:List κ):List (κ×Int):=l.foldl (fun m k=>rX m k 1) []
def dW(φ:κ->Int):List κ->Int
 | []=>0
 |k::l=>φ k+dW φ l
theorem XU(φ:κ->Int):∀(l:List κ) (m:List (κ×Int)),dG φ (l.foldl (fun m k=>rX m k 1) m)=dG φ m+dW φ l
 | [],m=>by simp[dW]
 |k::l,m=>by rw[adr,XU φ l,zH,dW];omega
theorem Tf(φ:κ->Int)(l:List κ):dG φ (AQ l)=dW φ l:=by
 unfold AQ;rw[XU];simp[dG]
theorem G5(l:List κ):((AQ l).map (·.1)).Nodup∧∀e∈AQ l,0<e.2:=by
 have:∀(l:List κ) (m:List (κ×Int)),(m.map (·.1)).Nodup->(∀e∈m,0<e.2)->((l.foldl (fun m k=>rX m k 1) m).map (·.1)).Nodup∧∀e∈l.foldl (fun m k=>rX m k 1) m,0<e.2:=by
  intro l
  induction l with
  |nil=>exact fun m h1 h2=>⟨h1,h2⟩
  |cons k l ih=>exact fun m h1 h2=>ih _ (FZ h1 k 1) (PK (by omega) h2)
 exact this l [] (by simp) (by simp)
theorem Jw(φ:κ->Int){l l':List κ}(h:l.Perm l'):dW φ l=dW φ l':=by
 induction h with
 |nil=>rfl
 |cons x _ ih=>simp only[dW,ih]
 |swap x y l=>simp only[dW];omega
 |trans _ _ h1 h2=>exact h1.trans h2
theorem Ii(φ:κ->Int):∀a b:List κ,dW φ (a++b)=dW φ a+dW φ b
 | [],b=>by simp[dW]
 |e::a,b=>by simp only[List.cons_append,dW,Ii φ a b];omega
end
theorem Jy:∀a b:List Int,lu a b=true∨lu b a=true
 | [],_=>.inl rfl
 |_::_,[]=>.inr rfl
 |a::az,b::bs=>by
  simp only[lu];rcases Int.lt_trichotomy a b with h|h|h
  .simp[h]
  .subst h;simpa using Jy az bs
  simp[h]
theorem DC:∀a b:List Int,lu a b=true->lu b a=true->a=b
 | [],[],_,_=>rfl
 | [],_::_,_,h=>by cases h
 |_::_,[],h,_=>by cases h
 |a::az,b::bs,h1,h2=>by
  simp only[lu]at h1 h2;rcases Int.lt_trichotomy a b with h|h|h
  .rw[a0o (by omega),a0p h]at h2;cases h2
  .subst h;simp at h1 h2;rw[DC az bs h1 h2]
  rw[a0o (by omega),a0p h]at h1;cases h1
theorem lex_trans:∀a b c:List Int,lu a b=true->lu b c=true->lu a c=true
 | [],_,_,_,_=>rfl
 |_::_,[],_,h,_=>by cases h
 |_::_,_::_,[],_,h=>by cases h
 |a::az,b::bs,c::cs,h1,h2=>by
  simp only[lu]at h1 h2 ⊢;split at h1
  .split at h2
   .rw[a0p (by omega)]
   split at h2
   .cases h2
   rw[a0p (by omega)]
  split at h1
  .cases h1
  split at h2
  .rw[a0p (by omega)]
  split at h2
  .cases h2
  rw[a0o (by omega),a0o (by omega)];exact lex_trans az bs cs h1 h2
section
variable {α:Type} {key:α->List Int}
theorem Ti{a b:α}(h:key a=key b->a=b):∀s:List α,Ew key a (Ew key b s)=Ew key b (Ew key a s)
 | []=>by
  by_cases e:a=b
  .rw[e]
  simp only[Ew];rcases Jy (key a) (key b)with h1|h1
  .have:lu (key b) (key a)=false:=by
    cases h2:lu (key b) (key a)
    .rfl
    exact absurd (h (DC _ _ h1 h2)) e
   simp[h1,this]
  have:lu (key a) (key b)=false:=by
   cases h2:lu (key a) (key b)
   .rfl
   exact absurd (h (DC _ _ h2 h1)) e
  simp[h1,this]
 |c::s=>by
  by_cases e:a=b
  .rw[e]
  have hx:lu (key a) (key b)=!lu (key b) (key a):=by
   rcases Jy (key a) (key b)with h1|h1
   .cases h2:lu (key b) (key a)
    .rw[h1];rfl
    exact absurd (h (DC _ _ h1 h2)) e
   cases h2:lu (key a) (key b)
   .rw[h1];rfl
   exact absurd (h (DC _ _ h2 h1)) e
  cases h1:lu (key a) (key c)<;>cases h2:lu (key b) (key c)
  .simp only[Ew,h1,h2,a2P,a3T,Ti h s]
  .have h3:lu (key a) (key b)=false:=by
    cases h3:lu (key a) (key b)
    .rfl
    rw[lex_trans _ _ _ h3 h2]at h1;cases h1
   simp only[Ew,h1,h2,h3,a2P,a3T,a2w]
  .have h3:lu (key b) (key a)=false:=by
    cases h3:lu (key b) (key a)
    .rfl
    rw[lex_trans _ _ _ h3 h1]at h2;cases h2
   simp only[Ew,h1,h2,h3,a2P,a3T,a2w]
  cases h3:lu (key b) (key a)<;>rw[h3]at hx<;>simp[Ew,h1,h2,h3,hx]
theorem EZ{l l':List α}(h:l.Perm l')(hi:∀a∈l,∀b∈l,key a=key b->a=b):zf key l=zf key l':=by
 induction h with
 |nil=>rfl
 |cons x _ ih=>simp only[zf,ih fun a ha b hb=>hi a (by simp[ha]) b (by simp[hb])]
 |swap x y l=>exact Ti (hi y (by simp) x (by simp)) _
 |trans h1 h2 i1 i2=>exact(i1 hi).trans (i2 fun a ha b hb=>hi a (h1.mem_iff.2 ha) b (h1.mem_iff.2 hb))
theorem Tj{β:Type}{g:α->β}{a7G:β->List Int}(h:∀a,a7G (g a)=key a):∀l:List α,zf a7G (l.map g)=(zf key l).map g:=by
 have hi:∀(a:α) (s:List α),Ew a7G (g a) (s.map g)=(Ew key a s).map g:=by
  intro a s
  induction s with
  |nil=>rfl
  |cons c s ih=>
   simp only[a4k,Ew,h];split
   .rfl
   rw[a4k,ih]
 intro l
 induction l with
 |nil=>rfl
 |cons a l ih=>simp only[a4k,zf,ih,hi]
end
end dh
namespace Go.Proofs.YtmobpoiejckagaaGreat
open Go Tw Pv dh
def AU(J:Jb)(c:Int):List Int:=if decide (J.g.getD c.toNat 0>=0)=true then [J.g.getD c.toNat 0]else(List.range (J.s.getD c.toNat 0).toNat).map fun(j:Nat)=>(j:Int)
def xK(J:Jb)(ψ:S3->Int):List Int->S3->Int
 | [],t=>ψ t
 |c::r,t=>dW (fun j=>xK J ψ r (bJ J.D t c j)) (AU J c)
theorem zI{α β:Type}[DecidableEq α][DecidableEq β](φ:β->Int)(f:α->β):∀l:List α,dW φ (l.map f)=dW (fun a=>φ (f a)) l
 | []=>rfl
 |a::l=>by simp only[a4k,dW,zI φ f l]
theorem qB{α:Type}[DecidableEq α]{φ φ':α->Int}:∀{l:List α},(∀a∈l,φ a=φ' a)->dW φ l=dW φ' l
 | [],_=>rfl
 |a::l,h=>by rw[dW,dW,h a (by simp),qB fun b hb=>h b (by simp[hb])]
theorem Tn{α β:Type}[DecidableEq α][DecidableEq β](φ:β->Int)(f:α->List β):∀l:List α,dW φ (l.flatMap f)=dW (fun a=>dW φ (f a)) l
 | []=>rfl
 |a::l=>by rw[List.flatMap_cons,Ii,dW,Tn φ f l]
theorem AV{α:Type}[DecidableEq α](x:Int):∀l:List α,dW (fun _=>x) l=l.length*x
 | []=>by simp[dW]
 |a::l=>by rw[dW,AV x l,a4i,Int.natCast_add,agQ];omega
theorem S3.aaE(s:S3)(k:Nat):s.set k (s.get k)=s:=by
 match k with
 | 0=>rfl
 | 1=>rfl
 |k+2=>rfl
theorem a7H{D:List Dg}{t:S3}{c:Int}(h:jP D t c=false)(g:Int):bJ D t c g=t:=by
 have hk:∀k,k<D.length->kT (kW D k) (t.get k) c=false:=fun k hk=>by
  cases e:kT (kW D k) (t.get k) c
  .rfl
  have:=Dx.2 ⟨k,hk,e⟩;rw[h]at this;cases this
 exact dF (g:=fun k (y:S3)=>y.set k (Lj (kW D k) (y.get k) c g)) (m:=D.length) (k:=0) (s:=t) (fun _ y=>y=t) rfl (fun j y _ hj hy=>by
  subst hy;show y.set j (Lj (kW D j) (y.get j) c g)=y;unfold Lj;rw[hk j (by omega),a0o (by simp)];exact S3.aaE y j)
theorem a3C{J:Jb}{ψ:S3->Int}{c:Int}{r:List Int}{t:S3}(h:decide (J.g.getD c.toNat 0>=0)=true):xK J ψ (c::r) t=xK J ψ r (bJ J.D t c (J.g.getD c.toNat 0)):=by
 rw[xK,AU,a0p h];simp[dW]
theorem afA{J:Jb}{ψ:S3->Int}{c:Int}{r:List Int}{t:S3}(h:¬decide (J.g.getD c.toNat 0>=0)=true)(ha:jP J.D t c=false):xK J ψ (c::r) t=((J.s.getD c.toNat 0).toNat:Int)*xK J ψ r t:=by
 rw[xK,AU,a0o h,zI,qB (φ':=fun _=>xK J ψ r t) (fun a _=>by rw[a7H ha]),AV,a8I]
theorem aaF{J:Jb}{ψ:S3->Int}{c:Int}{r:List Int}{t:S3}(h:¬decide (J.g.getD c.toNat 0>=0)=true):xK J ψ (c::r) t=dW (fun(j:Nat)=>xK J ψ r (bJ J.D t c j)) (List.range (J.s.getD c.toNat 0).toNat):=by
 rw[xK,AU,a0o h,zI]
def zS(J:Jb):List Int->Nat
 | []=>1
 |c::r=>(AU J c).length*zS J r
theorem Eo{J:Jb}:∀(r:List Int) (t:S3),xK J (fun _=>1) r t=(zS J r:Int)
 | [],_=>rfl
 |c::r,t=>by
  rw[xK,qB (φ':=fun _=>(zS J r:Int)) (fun a _=>Eo r _),AV,zS,adY]
section
variable {J:Jb} (hJ:jG J)
include hJ
theorem XV{c:Int}(hc:gq c J.s.length){j:Int}:j∈AU J c↔(0<=j∧j<J.s.getD c.toNat 0)∧(0<=J.g.getD c.toNat 0->J.g.getD c.toNat 0=j):=by
 unfold AU;split
 .rename_i h;have h:J.g.getD c.toNat 0>=0:=by simpa using h
  have:=hJ.gv c hc h;rw[a2U];constructor
  .rintro rfl;exact⟨⟨h,this⟩,fun _=>rfl⟩
  exact fun h2=>(h2.2 h).symm
 rename_i h;have h:¬J.g.getD c.toNat 0>=0:=by simpa using h
 rw[a1l];constructor
 .rintro⟨k,h1,rfl⟩;rw[a4s]at h1;exact⟨⟨by omega,by omega⟩,fun h2=>absurd h2 h⟩
 rintro⟨h1,_⟩;exact⟨j.toNat,a4s.2 (by omega),by omega⟩
theorem a7I{c:Int}(hc:gq c J.s.length):1<=(AU J c).length∧(AU J c).length<=(J.s.getD c.toNat 0).toNat:=by
 have hz:=hJ.bY.sz _ (dn (s:=J.s) (k:=c.toNat) (by have:=hc.1;have:=hc.2;omega));unfold AU;split
 .exact⟨a1b _,by show 1<=_;omega⟩
 rw[a4n,a8I];exact⟨by omega,a1b _⟩
theorem Jz:∀{r:List Int},(∀c∈r,gq c J.s.length)->1<=zS J r∧zS J r<=wO J.s r
 | [],_=>⟨a1b _,a1b _⟩
 |c::r,h=>by
  obtain⟨h1,h2⟩:=a7I hJ (h c (by simp));obtain⟨h3,h4⟩:=Jz (r:=r) fun c hc=>h c (by simp[hc]);exact⟨agP h1 h3,agP h2 h4⟩
end
def plc(J:Jb):List Int->List Int->List (List Int)
 | [],q=>[q]
 |c::r,q=>(AU J c).flatMap fun j=>plc J r (q.set c.toNat j)
def V5(D:List Dg)(q:List Int):List Int->S3->S3
 | [],t=>t
 |c::r,t=>V5 D q r (bJ D t c (q.getD c.toNat 0))
theorem zJ{q:List Int}{i k:Nat}{v:Int}:(q.set i v).getD k 0=if k=i∧i<q.length then v else q.getD k 0:=by
 simp only[List.getD,a9C];by_cases h:i=k
 .subst h;by_cases h2:i<q.length
  .simp[h2]
  simp[h2,a4h (show q.length<=i by omega)]
 rw[a0o (fun e:k=i∧i<q.length=>h e.1.symm)];simp[h]
theorem MR{J:Jb}:∀{r q q':List Int},q'∈plc J r q->q'.length=q.length∧∀k,k∉r.map Int.toNat->q'.getD k 0=q.getD k 0
 | [],q,q',h=>by rw[plc,a2U]at h;subst h;exact⟨rfl,fun _ _=>rfl⟩
 |c::r,q,q',h=>by
  rw[plc,adJ]at h;obtain⟨j,_,h2⟩:=h;obtain⟨h3,h4⟩:=MR h2;refine⟨by rw[h3,a4v],fun k hk=>?_⟩;rw[a4k,a2y,adw]at hk;rw[h4 k hk.2,zJ,a0o (fun h=>hk.1 h.1)]
section
variable {J:Jb} {n:Nat}
structure a01(n:Nat)(r:List Int):Prop where
 nd:r.Nodup
 mem:∀c∈r,gq c n
theorem a01.tail{c:Int}{r:List Int}(h:a01 n (c::r)):a01 n r∧c.toNat∉r.map Int.toNat∧gq c n:=by
 have h1:=a4r.1 h.nd;have hc:=h.mem c (by simp);refine⟨⟨h1.2,fun c hc=>h.mem c (by simp[hc])⟩,fun h2=>?_,hc⟩;obtain⟨d,h3,h4⟩:=a1l.1 h2;have hd:=h.mem d (by simp[h3]);have:d=c:=by have:=hc.1;have:=hd.1;omega
 exact h1.1 (this▸h3)
theorem a1R(ψ:S3->Int):∀{r:List Int} (q:List Int) (t:S3),a01 q.length r->xK J ψ r t=dW (fun q'=>ψ (V5 J.D q' r t)) (plc J r q)
 | [],q,t,_=>by simp[xK,plc,V5,dW]
 |c::r,q,t,ho=>by
  obtain⟨h1,h2,h3⟩:=ho.tail;rw[xK,plc,Tn];refine qB fun j _=>?_;rw[a1R ψ (q.set c.toNat j) _ (by rw[a4v];exact h1)];refine qB fun q' hq=>?_;rw[V5,(MR hq).2 _ h2,zJ,a0p ⟨rfl,by have:=h3.1;have:=h3.2;omega⟩]
theorem V6:∀{r q q':List Int},a01 q.length r->(q'∈plc J r q↔q'.length=q.length∧(∀k,k∉r.map Int.toNat->q'.getD k 0=q.getD k 0)∧∀c∈r,q'.getD c.toNat 0∈AU J c)
 | [],q,q',_=>by
  rw[plc,a2U];constructor
  .rintro rfl;exact⟨rfl,fun _ _=>rfl,fun _ h=>by cases h⟩
  rintro⟨h1,h2,_⟩;exact(oP (d:=0) h1).2 fun i _=>h2 i (by simp)
 |c::r,q,q',ho=>by
  obtain⟨h1,h2,h3⟩:=ho.tail;have hl:c.toNat<q.length:=by have:=h3.1;have:=h3.2;omega
  rw[plc,adJ];constructor
  .rintro⟨j,hj,h4⟩;obtain⟨h5,h6,h7⟩:=(V6 (by rw[a4v];exact h1)).1 h4;refine⟨by rw[h5,a4v],fun k hk=>?_,fun d hd=>?_⟩
   .rw[a4k,a2y,adw]at hk;rw[h6 k hk.2,zJ,a0o (fun h=>hk.1 h.1)]
   rcases a2y.1 hd with rfl|hd
   .rw[h6 _ h2,zJ,a0p ⟨rfl,hl⟩];exact hj
   exact h7 d hd
  rintro⟨h4,h5,h6⟩;refine⟨q'.getD c.toNat 0,h6 c (by simp),(V6 (by rw[a4v];exact h1)).2 ⟨by rw[a4v];exact h4,fun k hk=>?_,fun d hd=>h6 d (by simp[hd])⟩⟩;rw[zJ];split
  .rename_i h;rw[h.1]
  rename_i h;exact h5 k (by rw[a4k,a2y,adw];exact⟨fun e=>h ⟨e,hl⟩,hk⟩)
theorem a02(c:Int):(AU J c).Nodup:=by
 unfold AU;split
 .simp
 rw[List.Nodup,agi];exact List.nodup_range.imp fun h e=>h (by omega)
theorem Tq:∀{r q:List Int},a01 q.length r->(plc J r q).Nodup
 | [],q,_=>by simp[plc]
 |c::r,q,ho=>by
  obtain⟨h1,h2,h3⟩:=ho.tail;have hl:c.toNat<q.length:=by have:=h3.1;have:=h3.2;omega
  rw[plc,List.Nodup,List.pairwise_flatMap];refine⟨fun j _=>Tq (by rw[a4v];exact h1),(a02 (J:=J) c).imp fun{a b} hab x hx y hy e=>?_⟩;subst e;have e1:=(MR hx).2 _ h2;have e2:=(MR hy).2 _ h2;rw[zJ,a0p ⟨rfl,hl⟩]at e1 e2;exact hab (e1.symm.trans e2)
end
def XW(J:Jb):List (List Int):=((List.range (EY J.s)).map fun(k:Nat)=>jT J.s k).filter fun q=>decide (ov J.g q=q)
section
variable {J:Jb} (hJ:jG J)
include hJ
theorem a1S{q:List Int}(hq:q.length=J.s.length):ov J.g q=q↔∀k,k<J.s.length->0<=J.g.getD k 0->J.g.getD k 0=q.getD k 0:=by
 have hg:=hJ.gl;have hl:(ov J.g q).length=q.length:=by simp[ov,adW,hg,hq]
 rw[oP (d:=0) hl];constructor
 .intro h k hk h0;have:=h k (by rw[hl,hq];exact hk);rw[Ju (by rw[hg,hq]),a0p (by rw[hg];exact hk),a0p h0]at this;exact this
 intro h k hk;rw[hl,hq]at hk;rw[Ju (by rw[hg,hq]),a0p (by rw[hg];exact hk)];split
 .exact h k hk ‹_›
 rfl
theorem a1T{q:List Int}:q∈(List.range (EY J.s)).map (fun(k:Nat)=>jT J.s k)↔jM J.s q=true:=by
 have hc:(EY J.s:Int)=bg J.s:=by
  have:=je hJ.bY.sz;unfold EY;omega
 constructor
 .intro h;obtain⟨k,_,rfl⟩:=a1l.1 h;exact vX _ hJ.bY.sz
 intro h;have:=Dj h hJ.bY.sz;refine a1l.2 ⟨(ji J.s q).toNat,a4s.2 (by omega),?_⟩;rw[show((ji J.s q).toNat:Int)=ji J.s q by omega];exact UF h hJ.bY.sz
theorem a3D:((List.range (EY J.s)).map (fun(k:Nat)=>jT J.s k)).Nodup:=by
 have hc:(EY J.s:Int)=bg J.s:=by
  have:=je hJ.bY.sz;unfold EY;omega
 rw[List.Nodup,agi];refine List.Pairwise.imp_of_mem (fun{a b} ha hb h e=>h ?_) adM;rw[a4s]at ha hb;have h1:=ML hJ.bY.sz (n:=(a:Int)) (by omega) (by omega);have h2:=ML hJ.bY.sz (n:=(b:Int)) (by omega) (by omega);have e:jT J.s (a:Int)=jT J.s (b:Int):=e;rw[e,h2]at h1;omega
theorem a7J:(plc J J.o (List.replicate J.s.length 0)).Perm (XW J):=by
 obtain⟨o1,o2,o3⟩:=jG.o2 hJ;have ho:a01 (List.replicate J.s.length (0:Int)).length J.o:=⟨o1,fun c hc=>by rw[a8s];exact o3 c hc⟩;unfold XW;refine(a7n (Tq ho) ((a3D hJ).filter _)).2 fun q=>?_;rw[V6 ho,a8J,a1T hJ,a1Q,a8s];constructor
 .rintro⟨h1,h2,h3⟩;have key:∀k,k<J.s.length->(0<=q.getD k 0∧q.getD k 0<J.s.getD k 0)∧(0<=J.g.getD k 0->J.g.getD k 0=q.getD k 0):=fun k hk=>by
   have hc:gq (k:Int) J.s.length:=aH hk;have:=h3 k (lW hJ.ord hc);rw[XV hJ hc]at this;exact this
  exact⟨pU.2 ⟨h1,fun k hk=>(key k hk).1⟩,(a1S hJ h1).2 fun k hk=>(key k hk).2⟩
 rintro⟨h1,h2⟩;have hl:=uH h1;refine⟨hl,fun k hk=>?_,fun c hc=>?_⟩
 .have JX:J.s.length<=k:=by
   refine ad3 fun aQ=>hk ?_;exact a1l.2 ⟨(k:Int),lW hJ.ord (aH aQ),by simp⟩
  simp[List.getD,a4h (show q.length<=k by omega),a4h (show(List.replicate J.s.length (0:Int)).length<=k by simp;omega)]
 have qA:=o3 c hc;have aQ:c.toNat<J.s.length:=by have:=qA.1;have:=qA.2;omega
 rw[XV hJ qA];exact⟨(pU.1 h1).2 _ aQ,(a1S hJ hl).1 h2 _ aQ⟩
theorem Tt{q:List Int}(hq:jM J.s q=true):∀(r:List Int) (a:Nat) (t:S3),J.o.drop a=r->a<=J.o.length->Dp J a t->Dp J J.o.length (V5 J.D q r t)∧∀k,k<J.D.length->∀v,To (kW J.D k) q ((V5 J.D q r t).get k) v->To (kW J.D k) q (t.get k) v
 | [],a,t,hr,ha,hd=>by
  have:a=J.o.length:=by
   have:=congrArg List.length hr;rw[a4b,a4R]at this;omega
  subst this;exact⟨hd,fun _ _ _ h=>h⟩
 |c::r,a,t,hr,ha,hd=>by
  obtain⟨aQ,hoc,wJ,FQ,hci,qA⟩:=jG.at_ hJ hr;have Yp:=(pU.1 hq).2 c.toNat (by have:=qA.1;have:=qA.2;omega);obtain⟨h1,h2⟩:=Tt hq r (a+1) _ wJ aQ (mZ hJ hr hd Yp);refine⟨h1,fun k hk v h=>?_⟩;have h4:=h2 k hk v h;rw[Jr hJ.d3 t c _ hk]at h4;unfold Lj at h4;split at h4
  .rename_i h5;obtain⟨h6,h7,_⟩:=Ic hJ hd hk h5;refine .step h6.1 ?_;rw[h7];exact h4
  exact h4
theorem XY:Dp J 0 (eU J.D):=fun k hk=>by
 rw[vY hJ.d3 hk];exact⟨(hJ.dg k hk).t.root,a4K _⟩
theorem afB{q:List Int}(hq:jM J.s q=true):aU J.D (V5 J.D q J.o (eU J.D))=J.D.map fun d=>wW d q:=by
 obtain⟨h1,h2⟩:=Tt hJ hq J.o 0 (eU J.D) abx (a4K _) (XY hJ);unfold aU;refine(oP (d:=V0) (by simp)).2 fun k hk=>?_;rw[a4n,a8I]at hk;have hd:=hJ.dg k hk;have h3:=Jt hJ h1 hk;have h4:=h2 k hk _ (.fin h3.1);rw[vY hJ.d3 hk]at h4;have h6:=h4.at_ hd.t (by rw[hd.s];exact hq) 6001 (by have:=hd.t.root.1;have:=hd.n;omega) hd.t.root;have e1:((List.range J.D.length).map fun k=>pW (kW J.D k) ((V5 J.D q J.o (eU J.D)).get k)).getD k V0=pW (kW J.D k) ((V5 J.D q J.o (eU J.D)).get k):=by simp[List.getD,hk]
 have e2:(J.D.map fun d=>wW d q).getD k V0=wW (kW J.D k) q:=by simp[List.getD,hk]
 rw[e1,e2];exact h6
theorem aaG(ψ:List V->Int):xK J (fun t=>ψ (aU J.D t)) J.o (eU J.D)=dW (fun q=>ψ (J.D.map fun d=>wW d q)) (XW J):=by
 obtain⟨o1,o2,o3⟩:=jG.o2 hJ;rw[a1R _ (List.replicate J.s.length 0) _ ⟨o1,fun c hc=>by rw[a8s];exact o3 c hc⟩,Jw _ (a7J hJ)];refine qB fun q hq=>?_;unfold XW at hq;rw[a8J,a1T hJ]at hq;rw[afB hJ hq.1]
end
end Go.Proofs.YtmobpoiejckagaaGreat
namespace Pv
open Go Tw
section
variable {X:kQ} {P:Program} {kt:TypeId} {α:Type} [DecidableEq α] (C:oQ X P kt α)
theorem oQ.akm{l:List (α×PV X.Γ)}{x:α}{v:PV X.Γ}{j:Nat}(hb:Instr.sameBits 10000 (C.v x) (C.v x)=true)(hn:(l.map (·.1)).Nodup)(h:l[j]? = some (x,v)):a5I X P kt (C.es l) (C.tv x) (C.pv x) v j:=by
 obtain⟨hj,e⟩:=a0c.1 h;have hxj:(l.map (·.1))[j]? = some x:=by simp[a0f hj,e]
 refine⟨C.v x,_,C.tv x,C.v x,C.ht x,C.hc false x,C.pk l,?_,?_,?_,C.ht x,hb⟩
 .have hu:∀(i:Nat) y,(l.map (·.1))[i]? = some y->decide (x=y)=(some i==some j):=fun i y hy=>by
   rw[a4H];simp only[a1Q,a6H,a05];constructor
   .rintro rfl;have i1:=a0c.1 hy;have i2:=a0c.1 hxj;exact(aae hn (h₀:=i1.1) (h₁:=i2.1)).1 (i1.2.trans i2.2.symm)
   rintro rfl;rw[hxj]at hy;exact a94 hy
  refine C.find x _ (some j) ?_ hu;rw[a9R];refine⟨by simpa using hj,by simp[e],fun i hi=>?_⟩;have hil:i<(l.map (·.1)).length:=by simp;omega
  rw[hu i _ (a0f hil)];simp;omega
 .simp[oQ.es,a0f hj,e]
 simp[a0f hj,e]
theorem oQ.newP{l:List (α×PV X.Γ)}{x:α}{v:PV X.Γ}(h:x∉l.map (·.1)):ae4 X P kt (C.es (l++[(x,v)])) (C.tv x) l.length:=by
 refine⟨C.v x,_,C.ht x,C.pk _,?_⟩;have hu:∀(i:Nat) y,((l++[(x,v)]).map (·.1))[i]? = some y->decide (x=y)=(some i==some l.length):=fun i y hy=>by
  rw[a4j]at hy;rcases a4l i l.length with hi|hi
  .rw[a0j (by simpa using hi)]at hy;have:¬x=y:=fun e=>h (e▸a4u hy);rw[aey this];have:¬i=l.length:=(by omega);simp[this]
  rw[a1c (by simpa using hi)]at hy;have JV:i=l.length:=by
   have:=(a0c.1 hy).1;simp at this;omega
  subst JV;simp at hy;subst hy;simp
 refine C.find x _ (some l.length) ?_ hu;rw[a9R];refine⟨by simp,by simp,fun i hi=>?_⟩;have hil:i<((l++[(x,v)]).map (·.1)).length:=by simp;omega
 rw[hu i _ (a0f hil)];simp;omega
abbrev oQ.im(m:List (α×Int)):List (PV X.Γ×PV X.Γ):=C.es (m.map fun e=>(e.1,.int .i64 e.2))
theorem oQ.pJ(m:List (α×Int)):(C.im m).length=m.length:=by simp[oQ.im,oQ.es]
theorem oQ.AX(m:List (α×Int))(j:Nat):(C.im m)[j]? = (m[j]?).map fun e=>(C.pv e.1,.int .i64 e.2):=by
 simp[oQ.im,oQ.es,a4q];rfl
theorem zK{Y:kQ}(m:List (α×Int)):((m.map fun e=>(e.1,(PV.int .i64 e.2:PV Y.Γ))).map (·.1))=m.map (·.1):=by simp
theorem afC{m:List (α×Int)}{j:Nat}{f:Int->Int}{v:Int}(h:∀e,m[j]? = some e->f e.2=v):J3 (C.im m) j (.int .i64 v)=C.im (m.modify j fun e=>(e.1,f e.2)):=by
 unfold J3;refine a9D fun i=>?_;rw[adK,C.AX,C.AX,adK];by_cases e:j=i
 .subst e;cases h2:m[j]? with
  |none=>simp[h2]
  |some x=>simp[h2,h x h2]
 simp[e]
theorem afD{m:List (α×Int)}{x:α}{z v:Int}:J3 (C.im m++[(C.pv x,.int .i64 z)]) (C.im m).length (.int .i64 v)=C.im (m++[(x,v)]):=by
 have:C.im (m++[(x,v)])=C.im m++[(C.pv x,.int .i64 v)]:=by simp[oQ.im,oQ.es]
 rw[this];unfold J3;generalize C.im m=l;refine a9D fun i=>?_;rw[adK];rcases Nat.lt_trichotomy i l.length with h|h|h
 .rw[a0j h,a0j h];simp[show ¬l.length=i by omega]
 .subst h;simp
 rw[a4h (by simp;omega),a4h (by simp;omega)];rfl
theorem oQ.V7{m:List (α×Int)}{k:α}{n:Int}(hb:Instr.sameBits 10000 (C.v k) (C.v k)=true)(hn:(m.map (·.1)).Nodup)(h:k∈m.map (·.1))(hw:∀e∈m,i64.wrap (e.2+n)=e.2+n) :
  ∃j old,qp X P kt (C.im m) (C.tv k) (.int .i64 old)∧a5I X P kt (C.im m) (C.tv k) (C.pv k) (.int .i64 old) j∧j<(C.im m).length∧J3 (C.im m) j (.int .i64 (i64.wrap (old+n)))=C.im (dh.rX m k n):=by
 have aQ:=a4F.2 h;have a5S:(m.map (·.1)).idxOf k<m.length:=by simpa using aQ
 have hk:m[(m.map (·.1)).idxOf k]? = some (k,m[(m.map (·.1)).idxOf k].2):=by
  rw[a0f a5S];have:=a8M aQ;rw[a8T]at this;exact congrArg some (aby this rfl)
 have a2n:(k,m[(m.map (·.1)).idxOf k].2)∈m:=a4u hk;refine⟨(m.map (·.1)).idxOf k,m[(m.map (·.1)).idxOf k].2,C.found (by rw[zK];exact hn) (a1l.2 ⟨_,a2n,rfl⟩),C.akm hb (by rw[zK];exact hn) (by rw[a4q,hk];rfl),by rw[C.pJ];exact a5S,?_⟩;rw[hw _ a2n];unfold dh.rX;rw[a0p h];exact afC C (f:=fun x=>x+n) fun e he=>by rw[hk]at he;cases he;rfl
theorem oQ.V8{m:List (α×Int)}{k:α}{n:Int}(h:k∉m.map (·.1))(hw:i64.wrap (0+n)=n) :
  nP X P kt (C.im m) (C.tv k)∧ae4 X P kt (C.im m++[(C.pv k,(PV.int .i64 0:PV X.Γ))]) (C.tv k) (C.im m).length∧(C.im m).length<(C.im m++[(C.pv k,(PV.int .i64 0:PV X.Γ))]).length∧J3 (C.im m++[(C.pv k,.int .i64 0)]) (C.im m).length (.int .i64 (i64.wrap (0+n)))=C.im (dh.rX m k n):=by
 refine⟨C.fresh (by rw[zK];exact h),?_,by simp,?_⟩
 .have:=C.newP (l:=m.map fun e=>(e.1,(PV.int .i64 e.2:PV X.Γ))) (x:=k) (v:=.int .i64 0) (by rw[zK];exact h);rw[C.pJ];simpa[oQ.im,oQ.es]using this
 rw[hw,afD];unfold dh.rX;rw[a0o h]
end
end Pv
namespace Go.Proofs.YtmobpoiejckagaaGreat
open Go Tw Pv dh
abbrev wSk(H:List (PB aF))(s:S3)(r:Int)(x:List (Nat×PE aF)):aS aF:=⟨[(1,xi r),(2,.val (.ptr 2 0 5)),(3,.val (.ptr 1 0 5)),(4,.val (.ptr 3 0 1)),(5,.val (.ptr 4 0 1)),(6,.loc 0 0)]++x,[s.ps],H⟩
def Qx(D:List Dg)(t:S3):List Int->Nat
 | []=>0
 |c::r=>if jP D t c=true then 0 else Qx D t r+1
def Qy(J:Jb)(t:S3)(i:Int):Int⊕Int:=if decide (i<(J.o.length:Int))=true then(if(!(jP J.D t (J.o.getD i.toNat 0)))=true then .inl (i64.wrap (i+1))else .inr i)else .inr i
theorem a7K{J:Jb}(hJ:jG J)(t:S3):∀(r:List Int) (a:Nat),J.o.drop a=r->a<=J.o.length->itF (Qy J t) (r.length+1) (a:Int)=some ((a+Qx J.D t r:Nat):Int)
 | [],a,hr,ha=>by
  have:a=J.o.length:=by
   have:=congrArg List.length hr;rw[a4b,a4R]at this;omega
  have e:Qy J t (a:Int)=.inr (a:Int):=by unfold Qy;rw[a0o (by simp;omega)]
  rw[a4R,itF,e];rfl
 |c::r,a,hr,ha=>by
  obtain⟨aQ,hoc,wJ,_⟩:=jG.at_ hJ hr;have hl:=hJ.bY.len;have QW:=(jG.o2 hJ).2.1;have e:Qy J t (a:Int)=if(!(jP J.D t c))=true then .inl (i64.wrap ((a:Int)+1))else .inr (a:Int):=by
   unfold Qy;rw[a0p (by simp;omega),a4L,hoc]
  rw[a4i,itF,e];cases h:jP J.D t c
  .simp only[abw,a2w];have ew:i64.wrap ((a:Int)+1)=((a+1:Nat):Int):=by rw[fG (by omega) (by omega)];omega
   have:=a7K hJ t r (a+1) wJ aQ;simp only[ew,Qx,h];rw[this];simp;omega
  simp[Qx,h]
theorem aph{M f:Nat}{J:Jb}(hJ:jG J){t:S3}{x:Mk}(r:List Int){a:Nat}(hr:J.o.drop a=r)(ha:a<=J.o.length)(hd:Dp J a t):OU (M+1) 126 0 7 (wSk (HM0 J f x) t a []) (.exit 0) (wSk (HM0 J f x) t ((a+Qx J.D t r:Nat):Int) [(32,xl false)]):=by
 have Qj:=a7K hJ t r a hr ha;have QW:=(jG.o2 hJ).2.1;have hl:=hJ.bY.len;refine ZJ (st:=fun i=>wSk (HM0 J f x) t i []) (g:=Qy J t) (out:=fun i=>(.exit 0,wSk (HM0 J f x) t i [(32,xl false)])) (fun i=>0<=i∧i<=J.o.length) Qj (by kernel_rfl) (by have:=congrArg List.length hr;rw[a4b]at this;unfold LL;omega) ⟨by omega,by omega⟩ ?_ ?_
 .intro i i1 hi e;unfold Qy at e;split at e
  .rename_i c;have c:i<(J.o.length:Int):=(by simpa using c);split at e
   .cases e;rw[fG (by omega) (by omega)];omega
   cases e
  cases e
 intro i m i' hi ih;have hs:=a7z (M:=M) (f:=f) (a:=[]) (cc:=[]) (H:=[]) J t (J.o.getD i.toNat 0) hJ.d3 (fun k hk h=>⟨by simpa using h,(hd k hk).1.1⟩);by_cases c:i<(J.o.length:Int)
 .have t1:decide (i<(J.o.length:Int))=true:=by simpa using c
  have i1:gq i J.o.length:=⟨hi.1,c⟩;cases hq:jP J.D t (J.o.getD i.toNat 0)
  .have e:Qy J t i=.inl (i64.wrap (i+1)):=by unfold Qy;rw[a0p t1,hq];rfl
   rw[hq]at hs;have g:=ih _ e;rw[e];exact aO fV (.b t1 (.o i1 (.fr [] hs (.b (rfl:(!false)=true) (.go g)))))
  have e:Qy J t i=.inr i:=by unfold Qy;rw[a0p t1,hq];rfl
  rw[hq]at hs;rw[e];dsimp only[D7];exact aO fV (.b t1 (.o i1 (.fr [] hs (.b (rfl:(!true)=false) .ex))))
 have t1:decide (i<(J.o.length:Int))=false:=by simpa using c
 have e:Qy J t i=.inr i:=by unfold Qy;rw[a0o (by rw[t1];simp)]
 rw[e];dsimp only[D7];exact aO fV (.b t1 .ex)
theorem apj{M f:Nat}(u:Int){J:Jb}(hJ:jG J){t:S3}{x:Mk}(r:List Int){a:Nat}(hr:J.o.drop a=r)(ha:a<=J.o.length)(hd:Dp J a t):OU (M+1) 126 0 8 (wSk (HM1 J f u x) t a []) (.exit 0) (wSk (HM1 J f u x) t ((a+Qx J.D t r:Nat):Int) [(32,xl false)]):=by
 have Qj:=a7K hJ t r a hr ha;have QW:=(jG.o2 hJ).2.1;have hl:=hJ.bY.len;refine ZJ (st:=fun i=>wSk (HM1 J f u x) t i []) (g:=Qy J t) (out:=fun i=>(.exit 0,wSk (HM1 J f u x) t i [(32,xl false)])) (fun i=>0<=i∧i<=J.o.length) Qj (by kernel_rfl) (by have:=congrArg List.length hr;rw[a4b]at this;unfold LL;omega) ⟨by omega,by omega⟩ ?_ ?_
 .intro i i1 hi e;unfold Qy at e;split at e
  .rename_i c;have c:i<(J.o.length:Int):=(by simpa using c);split at e
   .cases e;rw[fG (by omega) (by omega)];omega
   cases e
  cases e
 intro i m i' hi ih;have hs:=a7z (M:=M) (f:=f) (a:=[]) (cc:=[.ptr 0 0 1]) (H:=[.aC [.int .u8 u]]) J t (J.o.getD i.toNat 0) hJ.d3 (fun k hk h=>⟨by simpa using h,(hd k hk).1.1⟩);by_cases c:i<(J.o.length:Int)
 .have t1:decide (i<(J.o.length:Int))=true:=by simpa using c
  have i1:gq i J.o.length:=⟨hi.1,c⟩;cases hq:jP J.D t (J.o.getD i.toNat 0)
  .have e:Qy J t i=.inl (i64.wrap (i+1)):=by unfold Qy;rw[a0p t1,hq];rfl
   rw[hq]at hs;have g:=ih _ e;rw[e];exact aO fV (.b t1 (.o i1 (.fr [5] hs (.b (rfl:(!false)=true) (.go g)))))
  have e:Qy J t i=.inr i:=by unfold Qy;rw[a0p t1,hq];rfl
  rw[hq]at hs;rw[e];dsimp only[D7];exact aO fV (.b t1 (.o i1 (.fr [5] hs (.b (rfl:(!true)=false) .ex))))
 have t1:decide (i<(J.o.length:Int))=false:=by simpa using c
 have e:Qy J t i=.inr i:=by unfold Qy;rw[a0o (by rw[t1];simp)]
 rw[e];dsimp only[D7];exact aO fV (.b t1 .ex)
open Go Tw Pv dh
theorem V9{J:Jb}(hJ:jG J){op:List V->V}{x:Mk}:∀(r:List Int) (a:Nat) (t:S3),J.o.drop a=r->a<=J.o.length->Dp J a t->jr J op r t x=jr J op (r.drop (Qx J.D t r)) t x∧a+Qx J.D t r<=J.o.length∧Dp J (a+Qx J.D t r) t∧∀c r',r.drop (Qx J.D t r)=c::r'->jP J.D t c=true
 | [],a,t,hr,ha,hd=>⟨rfl,ha,hd,fun _ _ h=>by cases h⟩
 |c::r,a,t,hr,ha,hd=>by
  obtain⟨aQ,hoc,wJ,_⟩:=jG.at_ hJ hr;cases h:jP J.D t c
  .obtain⟨q1,q2,q3,q4⟩:=V9 hJ (op:=op) (x:=x) r (a+1) t wJ aQ (UY hJ hr hd h);have e:Qx J.D t (c::r)=Qx J.D t r+1:=(by simp[Qx,h]);rw[e];refine⟨?_,by omega,by rw[show a+(Qx J.D t r+1)=a+1+Qx J.D t r by omega];exact q3,q4⟩;rw[List.drop_succ_cons,<-q1]
   conv=>lhs;unfold jr
   rw[a0o (by rw[h];simp)]
  have e:Qx J.D t (c::r)=0:=by simp[Qx,h]
  rw[e];exact⟨rfl,ha,hd,fun c' r' h2=>by cases h2;exact h⟩
theorem Va{J:Jb}(hJ:jG J):∀(r:List Int) (n:Nat),(∀c∈r,gq c J.s.length)->wO J.s (r.drop n)<=wO J.s r
 | [],n,_=>by simp
 |c::r,0,_=>a1b _
 |c::r,n+1,h=>by
  have h1:=Va hJ r n fun c hc=>h c (by simp[hc]);have hi:=h c (by simp);have hz:=hJ.bY.sz _ (dn (s:=J.s) (k:=c.toNat) (by have:=hi.1;have:=hi.2;omega));have:wO J.s r<=(J.s.getD c.toNat 0).toNat*wO J.s r:=adC _ (by omega);rw[List.drop_succ_cons];simp only[wO];omega
abbrev aaH(J:Jb)(f:Nat)(t:S3)(c:Int)(a:Int)(m:Mk)(ks:List Int)(i:Int)(y:List (Nat×PE aF)):aS aF:=⟨[(1,xi a),(2,.val (.ptr 2 0 5)),(3,.val (.ptr 1 0 5)),(4,.val (.ptr 3 0 1)),(5,.val (.ptr 4 0 1)),(6,.loc 0 0),(9,xi c),(13,.loc 1 0),(93,xi (J.s.getD c.toNat 0)),(94,xi i)]++y,[t.ps,[.int .i64 c,.own 9]],aaB J f m++[oI false false ks]⟩
theorem apk{M f:Nat}{J:Jb}(hJ:jG J){op:List V->V}{r:List Int}{t:S3}{c a:Int}(x:Mk)(hc:gq c J.s.length)(Q:Nat->Mk->Prop)(h0:Q 0 x)(hq:∀j y,j<(J.s.getD c.toNat 0).toNat->Q j y->Q (j+1) (jr J op r (bJ J.D t c j) y).2)
  (hk:∀j:Nat,j<(J.s.getD c.toNat 0).toNat->∀k,k<J.D.length->a1M (kW J.D k) (t.get k) c j)
  (hf:∀(j:Nat) y,j<(J.s.getD c.toNat 0).toNat->Q j y->aW X0 Qp (bQ (M+1)) (.fn 126 [] pM) [.agg (bJ J.D t c j).ps,.int .i64 (i64.wrap (a+1))] (HM0 J f y) (.int .i64 (jr J op r (bJ J.D t c j) y).1) (aaB J f (jr J op r (bJ J.D t c j) y).2)) :
  OU (M+1) 126 1 7 (aaH J f t c a x [] 0 []) (.exit 2) (aaH J f t c a (aT (UW J.D (jr J op r) t c) (J.s.getD c.toNat 0).toNat 0 ([],x)).2 (aT (UW J.D (jr J op r) t c) (J.s.getD c.toNat 0).toNat 0 ([],x)).1 (((J.s.getD c.toNat 0).toNat:Nat):Int) [(95,xl false)]):=by
 have hz:=hJ.bY.sz _ (dn (s:=J.s) (k:=c.toNat) (by have:=hc.1;have:=hc.2;omega));refine yu (σ:=List Int×Mk) (N:=(J.s.getD c.toNat 0).toNat) (g:=UW J.D (jr J op r) t c) (s0:=([],x)) (st:=fun i y=>aaH J f t c a y.2 y.1 i []) (fin:=fun y=>aaH J f t c a y.2 y.1 (((J.s.getD c.toNat 0).toNat:Nat):Int) [(95,xl false)]) (fun j y=>y.1.length=j∧Q j y.2) (by kernel_rfl) (by unfold ah;omega) ⟨rfl,h0⟩ (fun j y hj hy=>⟨by simp[UW,hy.1],hq j y.2 hj hy.2⟩) (fun j y hj hy m e p g=>?_) (fun y _=>?_)
 .have h1:=hf j y.2 hj hy.2;have ha:=Jq (M:=M) (f:=f) (a:=[]) (cc:=[]) (H:=[]) J t c j hJ.d3 (hk j hj);have t1:decide ((j:Int)<J.s.getD c.toNat 0)=true:=by rw[a1Q];omega
  have h3:=hy.1;unfold UW at g;generalize jr J op r (bJ J.D t c j) y.2=z at h1 g;obtain⟨v,z⟩:=z;exact aO fV (.b t1 (.fr [] ha (.fr [0,1,2,3,4,7,8] h1 (.o (show y.1.length+[v].length<=ah by simp only[a4f];unfold ah;omega) (.goG [.gc [10,11,13]] g)))))
 .have t1:decide ((((J.s.getD c.toNat 0).toNat:Nat):Int)<J.s.getD c.toNat 0)=false:=by rw[a3g];omega
  exact aO fV (.b t1 .ex)
open Go Tw Pv dh
theorem XZ{k:List (S3×Int)}{t:S3}(hn:(k.map (·.1)).Nodup)(h:t∈k.map (·.1)):qp X0 Qp 148 (Ib k) (.agg [.int .i64 t.a,.int .i64 t.b,.int .i64 t.c]) (.int .i64 (knS k t)):=by
 refine kS.found (x:=t) (by rw[a7X];exact hn) ?_;obtain⟨e,he,rfl⟩:=a1l.1 h;refine a1l.2 ⟨e,he,?_⟩;have:knS k e.1=e.2:=by
  have:k.find? (fun y=>decide (y.1=e.1))=some e:=by
   clear h
   induction k with
   |nil=>cases he
   |cons y l ih=>
    rw[a4k,a4r]at hn;rw[agH];rcases a2y.1 he with rfl|he
    .simp
    have:¬y.1=e.1:=fun h=>hn.1 (a1l.2 ⟨e,he,h.symm⟩);rw[aey this];exact ih hn.2 he
  unfold knS;rw[this];rfl
 rw[this]
abbrev afE(J:Jb)(op:List V->V)(f:Nat)(m:Nat)(r:List Int):Prop:=∀(a:Nat) (t:S3) (x:Mk),J.o.drop a=r->a<=J.o.length->Dp J a t->XOk J op x->x.e.length+wO J.s r<=ah->x.n.length+wO J.s r<=ah ->
  aW X0 Qp (bQ m) (.fn 126 [] pM) [.agg t.ps,.int .i64 (a:Int)] (HM0 J f x) (.int .i64 (jr J op r t x).1) (aaB J f (jr J op r t x).2)
abbrev afF(J:Jb)(f:Nat)(x:Mk)(v:V):List (PB aF):=[.map (Ib x.k),.cells [lI J.s,lI J.o,.own 8,.own 6,.int .i64 0],.aC (J.ps (.fn f [] [])),.aC [.fn 126 [] pM],.aC [.map 0],.gone,Qb x.n,.list true true 39 [v],Qa (x.e++[v])]
abbrev akn(J:Jb)(f:Nat)(x:Mk)(t:S3)(b:Br):List (PB aF):=[.map (Ib x.k++[(.agg t.ps,.int .i64 (x.n.length:Int))]),.cells [lI J.s,lI J.o,.own 7,.own 11,.int .i64 0],.aC (J.ps (.fn f [] [])),.aC [.fn 126 [] pM],.aC [.map 0],.gone,.gone,Qa x.e,.gone,.gone,.list true true 105 [b],Qb (x.n++[b])]
theorem ado{N f:Nat}{J:Jb}(hJ:jG J){op:List V->V}(jf:pq J op)(hs:∀l:List V,l.length=J.D.length->aW X0 Qp (bQ (N+1)) (.fn f [] []) [lV l] [] (.agg (op l).ps) [])(r:List Int)(rec:∀c r',c::r' <:+ r->afE J op f (N+1) r'):afE J op f (N+2) r:=by
 intro a t x hr ha hd hx Cc xX;unfold ah at Cc xX;have QW:=(jG.o2 hJ).2.1;have hl6:=hJ.bY.len;have lsk:=aph (M:=N) (f:=f) hJ (x:=x) r hr ha hd;obtain⟨q1,q2,q3,q4⟩:=V9 hJ (op:=op) (x:=x) r a t hr ha hd;have hw:=Va hJ r (Qx J.D t r) (fun c hc=>(jG.o2 hJ).2.2 c (a5Q (by rw[hr];exact hc)));rw[q1];generalize Qx J.D t r=n at lsk q1 q2 q3 q4 hw;have Gm:J.o.drop (a+n)=r.drop n:=by rw[<-hr,afK]
 have a7L:r.drop n <:+ r:=List.drop_suffix _ _;have Gy:=congrArg List.length Gm;rw[a4b]at Gy;clear q1 hr;generalize a+n=i at lsk q2 q3 Gm Gy;generalize r.drop n=r0 at q4 hw Gm a7L Gy;cases r0 with
 |nil=>
  have e0:i=J.o.length:=by rw[a4R]at Gy;omega
  have t0:((i:Int)==(J.o.length:Int))=true:=by rw[e0];simp
  rw[e0]at q3;have qm:(aU J.D t).length=J.D.length:=by simp[aU]
  have hce:=a1N (M:=N) (f:=f) J t hJ.d3 (fun k hk=>(Jt hJ q3 hk).2);have hv:=hs (aU J.D t) qm;simp only[wO]at hw;have hb:x.e.length+[op (aU J.D t)].length<=ah:=by simp only[a4f];unfold ah;omega
  have h1:aW X0 Qp (bQ (N+2)) (.fn 126 [] pM) [.agg t.ps,.int .i64 (a:Int)] (HM0 J f x) (.int .i64 (i64.wrap (0-((x.e++[op (aU J.D t)]).length:Int)))) (afF J f x (op (aU J.D t))):=
   fO fV (first:=[]) (cap:=pM) (.w lsk (.b t0 (.fr [] hce (.fr [] hv (.o hb .er)))))
  exact aW.gs hX h1 [.mv 6,.gc [8,9]] (by kernel_rfl)
 |cons c r'=>
  have t0:((i:Int)==(J.o.length:Int))=false:=by rw[a4i]at Gy;simp;omega
  obtain⟨aQ,hoc,wJ,FQ,hci,qA⟩:=jG.at_ hJ Gm;have AP:=q4 c r' rfl;have rc:=rec c r' a7L;have ia:gq (i:Int) J.o.length:=⟨by omega,by omega⟩;have JA:J.o.getD (i:Int).toNat 0=c:=by rw[a4L];exact hoc
  have ig:gq (J.o.getD (i:Int).toNat 0) J.g.length:=by rw[JA,hJ.gl];exact qA
  have hz:=hJ.bY.sz _ (dn (s:=J.s) (k:=c.toNat) (by have:=qA.1;have:=qA.2;omega));have hri:∀c'∈r',gq c' J.s.length:=fun c' h=>(jG.o2 hJ).2.2 c' (by rw[<-wJ]at h;exact a5Q h);have hw0:=UR hJ.bY.sz hri;have hw1:wO J.s r'<=(J.s.getD c.toNat 0).toNat*wO J.s r':=adC _ (by omega);have ew:i64.wrap ((i:Int)+1)=((i+1:Nat):Int):=by rw[fG (by omega) (by omega)];omega
  simp only[wO]at hw;unfold jr;rw[a0p AP];cases tg:decide (J.g.getD c.toNat 0>=0)
  .rw[a0o (by simp)];have tg':decide (J.g.getD (J.o.getD (i:Int).toNat 0).toNat 0>=0)=false:=by rw[JA];exact tg
   by_cases hk:t∈x.k.map (·.1)
   .rw[a0p hk];have hF:qp X0 Qp 148 (Ib x.k) (.agg [.int .i64 t.a,.int .i64 t.b,.int .i64 t.c]) (.int .i64 (knS x.k t)):=XZ hx.nd hk;have h1:aW X0 Qp (bQ (N+2)) (.fn 126 [] pM) [.agg t.ps,.int .i64 (a:Int)] (HM0 J f x) (.int .i64 (knS x.k t)) (HM0 J f x):=
     fO fV (first:=[]) (cap:=pM) (.w lsk (.b t0 (.o ia (.o ig (.b tg' (.c (.int .i64 (knS x.k t)) [] hF (.b (rfl:true=true) .er)))))))
    exact aW.gs hX h1 [.mv 5,.mv 6] (by kernel_rfl)
   rw[a0o hk];have hm2:=UZ hJ Gm q3 AP;have hF:nP X0 Qp 148 (Ib x.k) (.agg [.int .i64 t.a,.int .i64 t.b,.int .i64 t.c]):=kS.fresh (x:=t) (by simpa using hk);have is:gq (J.o.getD (i:Int).toNat 0) J.s.length:=by rw[JA];exact qA
   have Yt:∀j,j<(J.s.getD c.toNat 0).toNat->j*wO J.s r'+wO J.s r'<=(J.s.getD c.toNat 0).toNat*wO J.s r':=fun j hj=>by
    have:(j+1)*wO J.s r'<=(J.s.getD c.toNat 0).toNat*wO J.s r':=a3X _ hj;rw[a3E]at this;omega
   let Q:Nat->Mk->Prop:=fun j y=>XOk J op y∧y.e.length<=x.e.length+j*wO J.s r'∧y.n.length+j<=x.n.length+j*wO J.s r'∧∀e∈y.k,e∈x.k∨Dp J (i+1) e.1
   have hq:∀j y,j<(J.s.getD c.toNat 0).toNat->Q j y->Q (j+1) (jr J op r' (bJ J.D t c j) y).2:=fun j y hj hy=>by
    obtain⟨y1,y2,y3,y4⟩:=hy;have Yt:=Yt j hj;have h:=SY hJ op jf r' (i+1) (bJ J.D t c j) y wJ aQ (mZ hJ Gm q3 ⟨by omega,by omega⟩) y1 (by omega) (by omega);have h3:=h.el;have h4:=h.nl;refine⟨h.ok,by rw[a3E];omega,by rw[a3E];omega,fun e he=>?_⟩;rcases h.ks e he with h5|h5
    .exact y4 e h5
    exact .inr h5
   have lp:=apk (M:=N) (f:=f) hJ (op:=op) (r:=r') (t:=t) (c:=c) (a:=(i:Int)) x qA Q ⟨hx,by simp,by simp,fun e he=>.inl he⟩ hq (fun j hj k hk=>Js hJ q3 ⟨by omega,by omega⟩ hk) (fun j y hj hy=>by
    obtain⟨y1,y2,y3,y4⟩:=hy;have Yt:=Yt j hj;rw[ew];exact rc (i+1) (bJ J.D t c j) y wJ aQ (mZ hJ Gm q3 ⟨by omega,by omega⟩) y1 (by unfold ah;omega) (by unfold ah;omega))
   have inv:=dF (g:=UW J.D (jr J op r') t c) (m:=(J.s.getD c.toNat 0).toNat) (k:=0) (s:=([],x)) (fun j y=>Q j y.2) ⟨hx,by simp,by simp,fun e he=>.inl he⟩ (fun j y _ hj hy=>hq j y.2 (by omega) hy);rw[a4e]at inv;simp only[];generalize aT (UW J.D (jr J op r') t c) (J.s.getD c.toNat 0).toNat 0 ([],x)=y at lp inv;obtain⟨ks,m⟩:=y;obtain⟨y1,y2,y3,y4⟩:=inv;have hnk:t∉m.k.map (·.1):=fun h=>by
    obtain⟨e,he,e2⟩:=a1l.1 h;rcases y4 e he with h1|h1
    .exact hk (a1l.2 ⟨e,h1,e2⟩)
    rw[e2]at h1;exact ZY hJ Gm AP h1
   have hF2:nP X0 Qp 148 (Ib m.k) (.agg [.int .i64 t.a,.int .i64 t.b,.int .i64 t.c]):=kS.fresh (x:=t) (by simpa using hnk);have ek:Ib m.k++[(.agg t.ps,.int .i64 (m.n.length:Int))]=Ib (m.k++[(t,(m.n.length:Int))]):=by
    unfold Ib oQ.es;rw[a4j,a4j];rfl
   have hF3:qp X0 Qp 148 (Ib m.k++[(.agg t.ps,.int .i64 (m.n.length:Int))]) (.agg [.int .i64 t.a,.int .i64 t.b,.int .i64 t.c]) (.int .i64 (m.n.length:Int)):=by
    refine(congrArg (fun l:List (PV aF×PV aF)=>qp X0 Qp 148 l (.agg [.int .i64 t.a,.int .i64 t.b,.int .i64 t.c]) (.int .i64 (m.n.length:Int))) ek).mpr ?_;refine kS.found (x:=t) ?_ ?_
    .rw[a7X,show((fun e:S3×PV X0.Γ=>e.1)∘fun e:S3×Int=>(e.1,(PV.int .i64 e.2:PV X0.Γ)))=fun e=>e.1 from rfl,a4j];exact Dy y1.nd hnk
    simp
   have hb:m.n.length+[(⟨c,ks⟩:Br)].length<=ah:=by
    simp only[a4f];have y3:m.n.length+(J.s.getD c.toNat 0).toNat<=x.n.length+(J.s.getD c.toNat 0).toNat*wO J.s r':=y3;unfold ah;omega
   have h1:aW X0 Qp (bQ (N+2)) (.fn 126 [] pM) [.agg t.ps,.int .i64 (a:Int)] (HM0 J f x) (.int .i64 (m.n.length:Int)) (akn J f m t ⟨c,ks⟩):=by
    subst JA;exact fO fV (first:=[]) (cap:=pM) (.w lsk (.b t0 (.o ia (.o ig (.b tg' (.q (.bool false) hF (.b (rfl:false=false) (.o is (.wG [.mv 5,.mv 6,.a2L 1 1 3] lp (.q (.bool false) (kS.ck t) (.o hF2 (.o hb (.c (.int .i64 (m.n.length:Int)) [] hF3 .er)))))))))))))
   have h2:=aW.gs hX h1 [.gc [7,11]] (v':=.int .i64 (m.n.length:Int)) (H2:=[.map (Ib m.k++[(.agg t.ps,.int .i64 (m.n.length:Int))]),.cells [lI J.s,lI J.o,.own 7,.own 8,.int .i64 0],.aC (J.ps (.fn f [] [])),.aC [.fn 126 [] pM],.aC [.map 0],.gone,.gone,Qa m.e,Qb (m.n++[⟨c,ks⟩])]) (by kernel_rfl);exact(congrArg (fun l:List (PV aF×PV aF)=>aW X0 Qp (bQ (N+2)) (.fn 126 [] pM) [.agg t.ps,.int .i64 (a:Int)] (HM0 J f x) (.int .i64 (m.n.length:Int)) [.map l,.cells [lI J.s,lI J.o,.own 7,.own 8,.int .i64 0],.aC (J.ps (.fn f [] [])),.aC [.fn 126 [] pM],.aC [.map 0],.gone,.gone,Qa m.e,Qb (m.n++[⟨c,ks⟩])]) ek).mp h2
  rw[a0p rfl];have tg':decide (J.g.getD (J.o.getD (i:Int).toNat 0).toNat 0>=0)=true:=by rw[JA];exact tg
  have hg:0<=J.g.getD c.toNat 0:=by simpa using tg
  have haf:=Jq (M:=N) (f:=f) (a:=[]) (cc:=[]) (H:=[]) J t c (J.g.getD c.toNat 0) hJ.d3 (fun k hk=>Js hJ q3 ⟨hg,hJ.gv c qA hg⟩ hk);have h2:=rc (i+1) (bJ J.D t c (J.g.getD c.toNat 0)) x wJ aQ (mZ hJ Gm q3 ⟨hg,hJ.gv c qA hg⟩) hx (by unfold ah;omega) (by unfold ah;omega);rw[<-ew]at h2;subst JA;exact fO fV (first:=[]) (cap:=pM) (.w lsk (.b t0 (.o ia (.o ig (.b tg' (.fr [] haf (.fr [0,1,2,3,4,5,6] h2 .er)))))))
theorem apo{N f:Nat}{J:Jb}(hJ:jG J){op:List V->V}(jf:pq J op)(hs:∀m,N<=m->∀l:List V,l.length=J.D.length->aW X0 Qp (bQ m) (.fn f [] []) [lV l] [] (.agg (op l).ps) []):∀(F:Nat) (r:List Int),r.length<=F->afE J op f (N+F+2) r:=by
 intro F
 induction F with
 |zero=>
  intro r hF;refine ado hJ jf (hs _ (by omega)) r fun c r' h=>?_;have:=h.length_le;rw[a4i]at this;omega
 |succ F ih=>
  intro r hF;refine ado (N:=N+F+1) hJ jf (hs _ (by omega)) r fun c r' h=>ih r' ?_;have:=h.length_le;rw[a4i]at this;omega
open Go Tw Pv dh
abbrev aaJ(J:Jb)(f:Nat)(u:Int)(t:S3)(c:Int)(a:Int)(m:Mk)(ks:List Int)(i:Int)(y:List (Nat×PE aF)):aS aF:=⟨[(1,xi a),(2,.val (.ptr 2 0 5)),(3,.val (.ptr 1 0 5)),(4,.val (.ptr 3 0 1)),(5,.val (.ptr 4 0 1)),(6,.loc 0 0),(9,xi c),(13,.loc 1 0),(93,xi (J.s.getD c.toNat 0)),(94,xi i)]++y,[t.ps,[.int .i64 c,.own 10]],aaC J f u m++[oI false false ks]⟩
theorem apq{M f:Nat}{u:Int}{J:Jb}(hJ:jG J){op:List V->V}{r:List Int}{t:S3}{c a:Int}(x:Mk)(hc:gq c J.s.length)(Q:Nat->Mk->Prop)(h0:Q 0 x)(hq:∀j y,j<(J.s.getD c.toNat 0).toNat->Q j y->Q (j+1) (jr J op r (bJ J.D t c j) y).2)
  (hk:∀j:Nat,j<(J.s.getD c.toNat 0).toNat->∀k,k<J.D.length->a1M (kW J.D k) (t.get k) c j)
  (hf:∀(j:Nat) y,j<(J.s.getD c.toNat 0).toNat->Q j y->aW X0 Qp (bQ (M+1)) (.fn 126 [] pM) [.agg (bJ J.D t c j).ps,.int .i64 (i64.wrap (a+1))] (HM1 J f u y) (.int .i64 (jr J op r (bJ J.D t c j) y).1) (aaC J f u (jr J op r (bJ J.D t c j) y).2)) :
  OU (M+1) 126 1 8 (aaJ J f u t c a x [] 0 []) (.exit 2) (aaJ J f u t c a (aT (UW J.D (jr J op r) t c) (J.s.getD c.toNat 0).toNat 0 ([],x)).2 (aT (UW J.D (jr J op r) t c) (J.s.getD c.toNat 0).toNat 0 ([],x)).1 (((J.s.getD c.toNat 0).toNat:Nat):Int) [(95,xl false)]):=by
 have hz:=hJ.bY.sz _ (dn (s:=J.s) (k:=c.toNat) (by have:=hc.1;have:=hc.2;omega));refine yu (σ:=List Int×Mk) (N:=(J.s.getD c.toNat 0).toNat) (g:=UW J.D (jr J op r) t c) (s0:=([],x)) (st:=fun i y=>aaJ J f u t c a y.2 y.1 i []) (fin:=fun y=>aaJ J f u t c a y.2 y.1 (((J.s.getD c.toNat 0).toNat:Nat):Int) [(95,xl false)]) (fun j y=>y.1.length=j∧Q j y.2) (by kernel_rfl) (by unfold ah;omega) ⟨rfl,h0⟩ (fun j y hj hy=>⟨by simp[UW,hy.1],hq j y.2 hj hy.2⟩) (fun j y hj hy m e p g=>?_) (fun y _=>?_)
 .have h1:=hf j y.2 hj hy.2;have ha:=Jq (M:=M) (f:=f) (a:=[]) (cc:=[.ptr 0 0 1]) (H:=[.aC [.int .u8 u]]) J t c j hJ.d3 (hk j hj);have t1:decide ((j:Int)<J.s.getD c.toNat 0)=true:=by rw[a1Q];omega
  have h3:=hy.1;unfold UW at g;generalize jr J op r (bJ J.D t c j) y.2=z at h1 g;obtain⟨v,z⟩:=z;exact aO fV (.b t1 (.fr [5] ha (.fr [0,1,2,3,4,5,8,9] h1 (.o (show y.1.length+[v].length<=ah by simp only[a4f];unfold ah;omega) (.goG [.gc [11,12,14]] g)))))
 .have t1:decide ((((J.s.getD c.toNat 0).toNat:Nat):Int)<J.s.getD c.toNat 0)=false:=by rw[a3g];omega
  exact aO fV (.b t1 .ex)
abbrev afG(J:Jb)(op:List V->V)(f:Nat)(u:Int)(m:Nat)(r:List Int):Prop:=∀(a:Nat) (t:S3) (x:Mk),J.o.drop a=r->a<=J.o.length->Dp J a t->XOk J op x->x.e.length+wO J.s r<=ah->x.n.length+wO J.s r<=ah ->
  aW X0 Qp (bQ m) (.fn 126 [] pM) [.agg t.ps,.int .i64 (a:Int)] (HM1 J f u x) (.int .i64 (jr J op r t x).1) (aaC J f u (jr J op r t x).2)
abbrev afH(J:Jb)(f:Nat)(u:Int)(x:Mk)(v:V):List (PB aF):=[.map (Ib x.k),.cells [lI J.s,lI J.o,.own 9,.own 7,.int .i64 0],.aC (J.ps (.fn f [] [.ptr 5 0 1])),.aC [.fn 126 [] pM],.aC [.map 0],.aC [.int .u8 u],.gone,Qb x.n,.list true true 39 [v],Qa (x.e++[v])]
abbrev akp(J:Jb)(f:Nat)(u:Int)(x:Mk)(t:S3)(b:Br):List (PB aF):=[.map (Ib x.k++[(.agg t.ps,.int .i64 (x.n.length:Int))]),.cells [lI J.s,lI J.o,.own 8,.own 12,.int .i64 0],.aC (J.ps (.fn f [] [.ptr 5 0 1])),.aC [.fn 126 [] pM],.aC [.map 0],.aC [.int .u8 u],.gone,.gone,Qa x.e,.gone,.gone,.list true true 105 [b],Qb (x.n++[b])]
theorem adp{N f:Nat}(u:Int){J:Jb}(hJ:jG J){op:List V->V}(jf:pq J op)(hs:∀l:List V,l.length=J.D.length->aW X0 Qp (bQ (N+1)) (.fn f [] [.ptr 0 0 1]) [lV l] [.aC [.int .u8 u]] (.agg (op l).ps) [.aC [.int .u8 u]])(r:List Int)(rec:∀c r',c::r' <:+ r->afG J op f u (N+1) r'):afG J op f u (N+2) r:=by
 intro a t x hr ha hd hx Cc xX;unfold ah at Cc xX;have QW:=(jG.o2 hJ).2.1;have hl6:=hJ.bY.len;have lsk:=apj (M:=N) (f:=f) u hJ (x:=x) r hr ha hd;obtain⟨q1,q2,q3,q4⟩:=V9 hJ (op:=op) (x:=x) r a t hr ha hd;have hw:=Va hJ r (Qx J.D t r) (fun c hc=>(jG.o2 hJ).2.2 c (a5Q (by rw[hr];exact hc)));rw[q1];generalize Qx J.D t r=n at lsk q1 q2 q3 q4 hw;have Gm:J.o.drop (a+n)=r.drop n:=by rw[<-hr,afK]
 have a7L:r.drop n <:+ r:=List.drop_suffix _ _;have Gy:=congrArg List.length Gm;rw[a4b]at Gy;clear q1 hr;generalize a+n=i at lsk q2 q3 Gm Gy;generalize r.drop n=r0 at q4 hw Gm a7L Gy;cases r0 with
 |nil=>
  have e0:i=J.o.length:=by rw[a4R]at Gy;omega
  have t0:((i:Int)==(J.o.length:Int))=true:=by rw[e0];simp
  rw[e0]at q3;have qm:(aU J.D t).length=J.D.length:=by simp[aU]
  have hce:=aaA (M:=N) (f:=f) (u:=u) J t hJ.d3 (fun k hk=>(Jt hJ q3 hk).2);have hv:=hs (aU J.D t) qm;simp only[wO]at hw;have hb:x.e.length+[op (aU J.D t)].length<=ah:=by simp only[a4f];unfold ah;omega
  have h1:aW X0 Qp (bQ (N+2)) (.fn 126 [] pM) [.agg t.ps,.int .i64 (a:Int)] (HM1 J f u x) (.int .i64 (i64.wrap (0-((x.e++[op (aU J.D t)]).length:Int)))) (afH J f u x (op (aU J.D t))):=
   fO fV (first:=[]) (cap:=pM) (.w lsk (.b t0 (.fr [5] hce (.fr [5] hv (.o hb .er)))))
  exact aW.gs hX h1 [.mv 7,.gc [9,10]] (by kernel_rfl)
 |cons c r'=>
  have t0:((i:Int)==(J.o.length:Int))=false:=by rw[a4i]at Gy;simp;omega
  obtain⟨aQ,hoc,wJ,FQ,hci,qA⟩:=jG.at_ hJ Gm;have AP:=q4 c r' rfl;have rc:=rec c r' a7L;have ia:gq (i:Int) J.o.length:=⟨by omega,by omega⟩;have JA:J.o.getD (i:Int).toNat 0=c:=by rw[a4L];exact hoc
  have ig:gq (J.o.getD (i:Int).toNat 0) J.g.length:=by rw[JA,hJ.gl];exact qA
  have hz:=hJ.bY.sz _ (dn (s:=J.s) (k:=c.toNat) (by have:=qA.1;have:=qA.2;omega));have hri:∀c'∈r',gq c' J.s.length:=fun c' h=>(jG.o2 hJ).2.2 c' (by rw[<-wJ]at h;exact a5Q h);have hw0:=UR hJ.bY.sz hri;have hw1:wO J.s r'<=(J.s.getD c.toNat 0).toNat*wO J.s r':=adC _ (by omega);have ew:i64.wrap ((i:Int)+1)=((i+1:Nat):Int):=by rw[fG (by omega) (by omega)];omega
  simp only[wO]at hw;unfold jr;rw[a0p AP];cases tg:decide (J.g.getD c.toNat 0>=0)
  .rw[a0o (by simp)];have tg':decide (J.g.getD (J.o.getD (i:Int).toNat 0).toNat 0>=0)=false:=by rw[JA];exact tg
   by_cases hk:t∈x.k.map (·.1)
   .rw[a0p hk];have hF:qp X0 Qp 148 (Ib x.k) (.agg [.int .i64 t.a,.int .i64 t.b,.int .i64 t.c]) (.int .i64 (knS x.k t)):=XZ hx.nd hk;have h1:aW X0 Qp (bQ (N+2)) (.fn 126 [] pM) [.agg t.ps,.int .i64 (a:Int)] (HM1 J f u x) (.int .i64 (knS x.k t)) (HM1 J f u x):=
     fO fV (first:=[]) (cap:=pM) (.w lsk (.b t0 (.o ia (.o ig (.b tg' (.c (.int .i64 (knS x.k t)) [] hF (.b (rfl:true=true) .er)))))))
    exact aW.gs hX h1 [.mv 6,.mv 7] (by kernel_rfl)
   rw[a0o hk];have hm2:=UZ hJ Gm q3 AP;have hF:nP X0 Qp 148 (Ib x.k) (.agg [.int .i64 t.a,.int .i64 t.b,.int .i64 t.c]):=kS.fresh (x:=t) (by simpa using hk);have is:gq (J.o.getD (i:Int).toNat 0) J.s.length:=by rw[JA];exact qA
   have Yt:∀j,j<(J.s.getD c.toNat 0).toNat->j*wO J.s r'+wO J.s r'<=(J.s.getD c.toNat 0).toNat*wO J.s r':=fun j hj=>by
    have:(j+1)*wO J.s r'<=(J.s.getD c.toNat 0).toNat*wO J.s r':=a3X _ hj;rw[a3E]at this;omega
   let Q:Nat->Mk->Prop:=fun j y=>XOk J op y∧y.e.length<=x.e.length+j*wO J.s r'∧y.n.length+j<=x.n.length+j*wO J.s r'∧∀e∈y.k,e∈x.k∨Dp J (i+1) e.1
   have hq:∀j y,j<(J.s.getD c.toNat 0).toNat->Q j y->Q (j+1) (jr J op r' (bJ J.D t c j) y).2:=fun j y hj hy=>by
    obtain⟨y1,y2,y3,y4⟩:=hy;have Yt:=Yt j hj;have h:=SY hJ op jf r' (i+1) (bJ J.D t c j) y wJ aQ (mZ hJ Gm q3 ⟨by omega,by omega⟩) y1 (by omega) (by omega);have h3:=h.el;have h4:=h.nl;refine⟨h.ok,by rw[a3E];omega,by rw[a3E];omega,fun e he=>?_⟩;rcases h.ks e he with h5|h5
    .exact y4 e h5
    exact .inr h5
   have lp:=apq (M:=N) (f:=f) (u:=u) hJ (op:=op) (r:=r') (t:=t) (c:=c) (a:=(i:Int)) x qA Q ⟨hx,by simp,by simp,fun e he=>.inl he⟩ hq (fun j hj k hk=>Js hJ q3 ⟨by omega,by omega⟩ hk) (fun j y hj hy=>by
    obtain⟨y1,y2,y3,y4⟩:=hy;have Yt:=Yt j hj;rw[ew];exact rc (i+1) (bJ J.D t c j) y wJ aQ (mZ hJ Gm q3 ⟨by omega,by omega⟩) y1 (by unfold ah;omega) (by unfold ah;omega))
   have inv:=dF (g:=UW J.D (jr J op r') t c) (m:=(J.s.getD c.toNat 0).toNat) (k:=0) (s:=([],x)) (fun j y=>Q j y.2) ⟨hx,by simp,by simp,fun e he=>.inl he⟩ (fun j y _ hj hy=>hq j y.2 (by omega) hy);rw[a4e]at inv;simp only[];generalize aT (UW J.D (jr J op r') t c) (J.s.getD c.toNat 0).toNat 0 ([],x)=y at lp inv;obtain⟨ks,m⟩:=y;obtain⟨y1,y2,y3,y4⟩:=inv;have hnk:t∉m.k.map (·.1):=fun h=>by
    obtain⟨e,he,e2⟩:=a1l.1 h;rcases y4 e he with h1|h1
    .exact hk (a1l.2 ⟨e,h1,e2⟩)
    rw[e2]at h1;exact ZY hJ Gm AP h1
   have hF2:nP X0 Qp 148 (Ib m.k) (.agg [.int .i64 t.a,.int .i64 t.b,.int .i64 t.c]):=kS.fresh (x:=t) (by simpa using hnk);have ek:Ib m.k++[(.agg t.ps,.int .i64 (m.n.length:Int))]=Ib (m.k++[(t,(m.n.length:Int))]):=by
    unfold Ib oQ.es;rw[a4j,a4j];rfl
   have hF3:qp X0 Qp 148 (Ib m.k++[(.agg t.ps,.int .i64 (m.n.length:Int))]) (.agg [.int .i64 t.a,.int .i64 t.b,.int .i64 t.c]) (.int .i64 (m.n.length:Int)):=by
    refine(congrArg (fun l:List (PV aF×PV aF)=>qp X0 Qp 148 l (.agg [.int .i64 t.a,.int .i64 t.b,.int .i64 t.c]) (.int .i64 (m.n.length:Int))) ek).mpr ?_;refine kS.found (x:=t) ?_ ?_
    .rw[a7X,show((fun e:S3×PV X0.Γ=>e.1)∘fun e:S3×Int=>(e.1,(PV.int .i64 e.2:PV X0.Γ)))=fun e=>e.1 from rfl,a4j];exact Dy y1.nd hnk
    simp
   have hb:m.n.length+[(⟨c,ks⟩:Br)].length<=ah:=by
    simp only[a4f];have y3:m.n.length+(J.s.getD c.toNat 0).toNat<=x.n.length+(J.s.getD c.toNat 0).toNat*wO J.s r':=y3;unfold ah;omega
   have h1:aW X0 Qp (bQ (N+2)) (.fn 126 [] pM) [.agg t.ps,.int .i64 (a:Int)] (HM1 J f u x) (.int .i64 (m.n.length:Int)) (akp J f u m t ⟨c,ks⟩):=by
    subst JA;exact fO fV (first:=[]) (cap:=pM) (.w lsk (.b t0 (.o ia (.o ig (.b tg' (.q (.bool false) hF (.b (rfl:false=false) (.o is (.wG [.mv 6,.mv 7,.a2L 1 1 3] lp (.q (.bool false) (kS.ck t) (.o hF2 (.o hb (.c (.int .i64 (m.n.length:Int)) [] hF3 .er)))))))))))))
   have h2:=aW.gs hX h1 [.gc [8,12]] (v':=.int .i64 (m.n.length:Int)) (H2:=[.map (Ib m.k++[(.agg t.ps,.int .i64 (m.n.length:Int))]),.cells [lI J.s,lI J.o,.own 8,.own 9,.int .i64 0],.aC (J.ps (.fn f [] [.ptr 5 0 1])),.aC [.fn 126 [] pM],.aC [.map 0],.aC [.int .u8 u],.gone,.gone,Qa m.e,Qb (m.n++[⟨c,ks⟩])]) (by kernel_rfl);exact(congrArg (fun l:List (PV aF×PV aF)=>aW X0 Qp (bQ (N+2)) (.fn 126 [] pM) [.agg t.ps,.int .i64 (a:Int)] (HM1 J f u x) (.int .i64 (m.n.length:Int)) [.map l,.cells [lI J.s,lI J.o,.own 8,.own 9,.int .i64 0],.aC (J.ps (.fn f [] [.ptr 5 0 1])),.aC [.fn 126 [] pM],.aC [.map 0],.aC [.int .u8 u],.gone,.gone,Qa m.e,Qb (m.n++[⟨c,ks⟩])]) ek).mp h2
  rw[a0p rfl];have tg':decide (J.g.getD (J.o.getD (i:Int).toNat 0).toNat 0>=0)=true:=by rw[JA];exact tg
  have hg:0<=J.g.getD c.toNat 0:=by simpa using tg
  have haf:=Jq (M:=N) (f:=f) (a:=[]) (cc:=[.ptr 0 0 1]) (H:=[.aC [.int .u8 u]]) J t c (J.g.getD c.toNat 0) hJ.d3 (fun k hk=>Js hJ q3 ⟨hg,hJ.gv c qA hg⟩ hk);have h2:=rc (i+1) (bJ J.D t c (J.g.getD c.toNat 0)) x wJ aQ (mZ hJ Gm q3 ⟨hg,hJ.gv c qA hg⟩) hx (by unfold ah;omega) (by unfold ah;omega);rw[<-ew]at h2;subst JA;exact fO fV (first:=[]) (cap:=pM) (.w lsk (.b t0 (.o ia (.o ig (.b tg' (.fr [5] haf (.fr [0,1,2,3,4,5,6,7] h2 .er)))))))
theorem apr{N f:Nat}(u:Int){J:Jb}(hJ:jG J){op:List V->V}(jf:pq J op)(hs:∀m,N<=m->∀l:List V,l.length=J.D.length->aW X0 Qp (bQ m) (.fn f [] [.ptr 0 0 1]) [lV l] [.aC [.int .u8 u]] (.agg (op l).ps) [.aC [.int .u8 u]]):∀(F:Nat) (r:List Int),r.length<=F->afG J op f u (N+F+2) r:=by
 intro F
 induction F with
 |zero=>
  intro r hF;refine adp u hJ jf (hs _ (by omega)) r fun c r' h=>?_;have:=h.length_le;rw[a4i]at this;omega
 |succ F ih=>
  intro r hF;refine adp (N:=N+F+1) u hJ jf (hs _ (by omega)) r fun c r' h=>ih r' ?_;have:=h.length_le;rw[a4i]at this;omega
end Go.Proofs.YtmobpoiejckagaaGreat
namespace Pv
open Go Tw
section
variable {X:kQ} {P:Program}
theorem aW.akq(hX:bM X P){call:aY}{fv v:PV X.Γ}{xs:List (PV X.Γ)}{H H0 H1:List (PB X.Γ)}(gs:List G)(hs:aW X P call fv xs H0 v H1)(hg:lC H.length gs (⟨[],[],H⟩:aS X.Γ)=some ⟨[],[],H0⟩):aW X P call fv xs H v H1:=by
 intro A m h tf rW hr hf hx;obtain⟨m2,q1,q2,q3⟩:=ni hX hg A (fun b=>b∈bn m) h.length m ⟨[],[],h,[]⟩ ⟨⟨hr,rfl,fun k c hk=>(by simp at hk),.nil⟩,fun b hb=>.inl hb,fun b hb=>(by cases hb),a1b _⟩;have up:Up m m2:=fun i mb hi=>q3 i mb (by rw[<-hr.len];exact(a0c.1 hi).1) hi;obtain⟨w,h',ws,m1,k1,k2,k3,k4,k5,k6⟩:=hs A m2 h tf rW q1.st.heap (hf.step q2 up) (hx.step q2 up);refine⟨w,h',ws,m1,k1,k2,k3,q2.trans k4,fun i mb hi=>?_,fun b hb=>?_⟩
 .rcases up i mb hi with g|g
  .exact k5 i mb g
  rcases k5 i _ g with g|g<;>exact .inr g
 have hb:=k6 b hb;rcases q1.own b hb with g|g
 .exact g
 have:=q1.st.heap.inb hb;have:b<h.length:=this;omega
end
end Pv
namespace Go.Proofs.YtmobpoiejckagaaGreat
open Go Tw Pv dh
theorem MS{n:Nat}(hO:Ok n Ia)(l:List Int)(hl:l.length<=ah):aW X0 Qp (bQ n) (.fn 125 [] []) [.dB 3 l false] [] (lI l) []:=
 have h0:=oq.aak hX (hO 125 [.dB 3 l false] (.own 0) (lsI l) [l.length<=ah] (by kernel_rfl) (List.forall_mem_singleton.2 hl)) rfl rfl rfl rfl
 aW.cut hX (aW.fzR hX h0 [0] (v':=lI l) rfl (by decide)) rfl rfl rfl rfl
abbrev aps(J:Jb)(f:Nat)(x:Mk):List (PB aF):=[.map (Ib x.k),.cells [lI J.s,lI J.o,.own 7,.own 8,.int .i64 0],.cells (J.ps (.fn f [] [])),.cells [.fn 126 [] pM],.cells [.map 0],.gone,.gone,Qa x.e,Qb x.n]
theorem aaK{m f:Nat}(hO:Ok m Ia)(J:Jb)(st:S3)(z:Int×Mk)
  (c1:aW X0 Qp (bQ m) (.fn 125 [] []) [.dB 3 J.s false] [] (lI J.s) [])
  (c2:aW X0 Qp (bQ m) (.fn 125 [] []) [.dB 3 J.o false] [] (lI J.o) [])
  (c3:aW X0 Qp (bQ m) (.fn 130 [] []) [.agg (J.ps (.fn f [] []))] [] (.agg st.ps) [])
  (c5:aW X0 Qp (bQ m) (.fn 126 [] pM) [.agg st.ps,.int .i64 (0:Int)] [.map [],.cells [lI J.s,lI J.o,.nil .slc,.nil .slc,.int .i64 0],.aC (J.ps (.fn f [] [])),.aC [.fn 126 [] pM],.aC [.map 0]] (.int .i64 z.1) (aaB J f z.2))
  (hr:Ez ⟨J.s,J.o,z.2.e,z.2.n,z.1⟩) (p1:J.s.length<=ah) (p2:J.o.length<=2^20) (p3:z.2.e.length<=ah) (p4:((bF ⟨J.s,J.o,z.2.e,z.2.n,z.1⟩).2 != 0)=false->ClP (bF ⟨J.s,J.o,z.2.e,z.2.n,z.1⟩).1) :
  aW X0 Qp (bQ (m+1)) (.fn 80 [] []) [.agg (J.ps (.fn f [] []))] [] (dA.put (zG ⟨J.s,J.o,z.2.e,z.2.n,z.1⟩).1) []:=by
 obtain⟨v,e,n,k⟩:=z;have h0:aW X0 Qp (bQ (m+1)) (.fn 80 [] []) [.agg (J.ps (.fn f [] []))] [] (dA.put (zG ⟨J.s,J.o,e,n,v⟩).1) ([]++[.cells (J.ps (.fn f [] [])),.cells [lI J.s,lI J.o,.own 7,.own 8,.int .i64 v],.map (Ib k),.cells [.map 2],.cells [.fn 126 [] [.ptr 0 0 5,.ptr 1 0 5,.ptr 4 0 1,.ptr 3 0 1]],.gone,.gone,.gone,.gone]):=
  fO hO (first:=[]) (cap:=[]) (.fr [] c1 (.fr [] c2 (.fr [] c3 (.Qm (H2:=aps J f ⟨e,n,k⟩) [2,1,0,4,3] [2,3,4] c5 (.o hr (.o p1 (.o p2 (.o p3 (.o p4 .er)))))))))
 exact aW.cut hX h0 rfl rfl rfl rfl
theorem afI{N f:Nat}{J:Jb}(hJ:jG J){op:List V->V}(jf:pq J op)(hs:∀m,N<=m->∀l:List V,l.length=J.D.length->aW X0 Qp (bQ m) (.fn f [] []) [lV l] [] (.agg (op l).ps) [])(hO:∀m,N<=m->Ok m Ia){m:Nat}(hm:N+J.o.length+2<=m):aW X0 Qp (bQ (m+1)) (.fn 80 [] []) [.agg (J.ps (.fn f [] []))] [] (dA.put (uU J op)) []:=by
 have hl:=hJ.bY.len;have QW:=(jG.o2 hJ).2.1;have hw:=FX hJ.bY.sz hJ.ord;have hmn:=hJ.bY.many;have c1:=MS (n:=m) (hO m (by omega)) J.s (by unfold ah;omega);have c2:=MS (n:=m) (hO m (by omega)) J.o (by unfold ah;omega);obtain⟨m',rfl⟩:∃m',m=m'+1:=⟨m-1,by omega⟩;have c3:=ZX (M:=m') (f:=f) (a:=[]) (cc:=[]) (H:=[]) J hJ.d3;have c4:=apo (N:=m'+1-J.o.length-2) (f:=f) hJ jf (fun m2 h2=>hs m2 (by omega)) J.o.length J.o (a1b _) 0 (eU J.D) ⟨[],[],[]⟩ abx (a4K _) (fun k hk=>by
  rw[vY hJ.d3 hk];exact⟨(hJ.dg k hk).t.root,a4K _⟩) ⟨⟨fun i hi=>(by simp at hi),fun i hi=>(by simp at hi),fun i hi=>(by simp at hi)⟩,fun e he=>(by cases he),a5Y,fun v hv=>(by cases hv),fun b hb=>(by cases hb)⟩ (by show 0+wO J.s J.o<=ah;unfold ah;omega) (by show 0+wO J.s J.o<=ah;unfold ah;omega)
 rw[show m'+1-J.o.length-2+J.o.length+2=m'+1 by omega]at c4;have c5:=aW.akq hX (H:=[.map [],.cells [lI J.s,lI J.o,.nil .slc,.nil .slc,.int .i64 0],.aC (J.ps (.fn f [] [])),.aC [.fn 126 [] pM],.aC [.map 0]]) [.Ui 1 2 39,.Ui 1 3 105] c4 (by kernel_rfl);obtain⟨h1,h2,h3⟩:=vZ hJ jf;have hr:=a7E hJ jf;have h4:(bF (jQ J op)).2=0:=by rw[(Ie hJ jf).1]
 have h5:=wY hr (by unfold ah;omega) (by show J.s.length<=ah;unfold ah;omega) (by show J.o.length<=ah;unfold ah;omega) h4;have p1:J.s.length<=ah:=by unfold ah;omega
 have p2:J.o.length<=2^20:=by omega
 have p3:(jQ J op).aK.length<=ah:=by unfold ah;omega
 have p4:((bF (jQ J op)).2 != 0)=false->ClP (bF (jQ J op)).1:=fun _=>by rw[h5.1];exact h5.2
 exact aaK (hO (m'+1) (by omega)) J (eU J.D) (jr J op J.o (eU J.D) ⟨[],[],[]⟩) c1 c2 c3 c5 hr p1 p2 p3 p4
abbrev apt(J:Jb)(f:Nat)(u:Int)(x:Mk):List (PB aF):=[.map (Ib x.k),.cells [lI J.s,lI J.o,.own 8,.own 9,.int .i64 0],.cells (J.ps (.fn f [] [.ptr 5 0 1])),.cells [.fn 126 [] pM],.cells [.map 0],.aC [.int .u8 u],.gone,.gone,Qa x.e,Qb x.n]
theorem aaL{m f:Nat}(u:Int)(hO:Ok m Ia)(J:Jb)(st:S3)(z:Int×Mk)
  (c1:aW X0 Qp (bQ m) (.fn 125 [] []) [.dB 3 J.s false] [] (lI J.s) [])
  (c2:aW X0 Qp (bQ m) (.fn 125 [] []) [.dB 3 J.o false] [] (lI J.o) [])
  (c3:aW X0 Qp (bQ m) (.fn 130 [] []) [.agg (J.ps (.fn f [] [.ptr 0 0 1]))] [.aC [.int .u8 u]] (.agg st.ps) [.aC [.int .u8 u]])
  (c5:aW X0 Qp (bQ m) (.fn 126 [] pM) [.agg st.ps,.int .i64 (0:Int)] [.map [],.cells [lI J.s,lI J.o,.nil .slc,.nil .slc,.int .i64 0],.aC (J.ps (.fn f [] [.ptr 5 0 1])),.aC [.fn 126 [] pM],.aC [.map 0],.aC [.int .u8 u]] (.int .i64 z.1) (aaC J f u z.2))
  (hr:Ez ⟨J.s,J.o,z.2.e,z.2.n,z.1⟩) (p1:J.s.length<=ah) (p2:J.o.length<=2^20) (p3:z.2.e.length<=ah) (p4:((bF ⟨J.s,J.o,z.2.e,z.2.n,z.1⟩).2 != 0)=false->ClP (bF ⟨J.s,J.o,z.2.e,z.2.n,z.1⟩).1) :
  aW X0 Qp (bQ (m+1)) (.fn 80 [] []) [.agg (J.ps (.fn f [] [.ptr 0 0 1]))] [.aC [.int .u8 u]] (dA.put (zG ⟨J.s,J.o,z.2.e,z.2.n,z.1⟩).1) [.aC [.int .u8 u]]:=by
 obtain⟨v,e,n,k⟩:=z;have h0:aW X0 Qp (bQ (m+1)) (.fn 80 [] []) [.agg (J.ps (.fn f [] [.ptr 0 0 1]))] [.aC [.int .u8 u]] (dA.put (zG ⟨J.s,J.o,e,n,v⟩).1) ([.aC [.int .u8 u]]++[.cells (J.ps (.fn f [] [.ptr 0 0 1])),.cells [lI J.s,lI J.o,.own 8,.own 9,.int .i64 v],.map (Ib k),.cells [.map 3],.cells [.fn 126 [] [.ptr 1 0 5,.ptr 2 0 5,.ptr 5 0 1,.ptr 4 0 1]],.gone,.gone,.gone,.gone]):=
  fO hO (first:=[]) (cap:=[]) (.fr [] c1 (.fr [] c2 (.fr [0] c3 (.Qm (H2:=apt J f u ⟨e,n,k⟩) [3,2,1,5,4,0] [2,3,4] c5 (.o hr (.o p1 (.o p2 (.o p3 (.o p4 .er)))))))))
 exact aW.cut hX h0 rfl rfl rfl rfl
theorem afJ{N f:Nat}(u:Int){J:Jb}(hJ:jG J){op:List V->V}(jf:pq J op)(hs:∀m,N<=m->∀l:List V,l.length=J.D.length->aW X0 Qp (bQ m) (.fn f [] [.ptr 0 0 1]) [lV l] [.aC [.int .u8 u]] (.agg (op l).ps) [.aC [.int .u8 u]])(hO:∀m,N<=m->Ok m Ia){m:Nat}(hm:N+J.o.length+2<=m):aW X0 Qp (bQ (m+1)) (.fn 80 [] []) [.agg (J.ps (.fn f [] [.ptr 0 0 1]))] [.aC [.int .u8 u]] (dA.put (uU J op)) [.aC [.int .u8 u]]:=by
 have hl:=hJ.bY.len;have QW:=(jG.o2 hJ).2.1;have hw:=FX hJ.bY.sz hJ.ord;have hmn:=hJ.bY.many;have c1:=MS (n:=m) (hO m (by omega)) J.s (by unfold ah;omega);have c2:=MS (n:=m) (hO m (by omega)) J.o (by unfold ah;omega);obtain⟨m',rfl⟩:∃m',m=m'+1:=⟨m-1,by omega⟩;have c3:=ZX (M:=m') (f:=f) (a:=[]) (cc:=[.ptr 0 0 1]) (H:=[.aC [.int .u8 u]]) J hJ.d3;have c4:=apr (N:=m'+1-J.o.length-2) (f:=f) u hJ jf (fun m2 h2=>hs m2 (by omega)) J.o.length J.o (a1b _) 0 (eU J.D) ⟨[],[],[]⟩ abx (a4K _) (fun k hk=>by
  rw[vY hJ.d3 hk];exact⟨(hJ.dg k hk).t.root,a4K _⟩) ⟨⟨fun i hi=>(by simp at hi),fun i hi=>(by simp at hi),fun i hi=>(by simp at hi)⟩,fun e he=>(by cases he),a5Y,fun v hv=>(by cases hv),fun b hb=>(by cases hb)⟩ (by show 0+wO J.s J.o<=ah;unfold ah;omega) (by show 0+wO J.s J.o<=ah;unfold ah;omega)
 rw[show m'+1-J.o.length-2+J.o.length+2=m'+1 by omega]at c4;have c5:=aW.akq hX (H:=[.map [],.cells [lI J.s,lI J.o,.nil .slc,.nil .slc,.int .i64 0],.aC (J.ps (.fn f [] [.ptr 5 0 1])),.aC [.fn 126 [] pM],.aC [.map 0],.aC [.int .u8 u]]) [.Ui 1 2 39,.Ui 1 3 105] c4 (by kernel_rfl);obtain⟨h1,h2,h3⟩:=vZ hJ jf;have hr:=a7E hJ jf;have h4:(bF (jQ J op)).2=0:=by rw[(Ie hJ jf).1]
 have h5:=wY hr (by unfold ah;omega) (by show J.s.length<=ah;unfold ah;omega) (by show J.o.length<=ah;unfold ah;omega) h4;have p1:J.s.length<=ah:=by unfold ah;omega
 have p2:J.o.length<=2^20:=by omega
 have p3:(jQ J op).aK.length<=ah:=by unfold ah;omega
 have p4:((bF (jQ J op)).2 != 0)=false->ClP (bF (jQ J op)).1:=fun _=>by rw[h5.1];exact h5.2
 exact aaL u (hO (m'+1) (by omega)) J (eU J.D) (jr J op J.o (eU J.D) ⟨[],[],[]⟩) c1 c2 c3 c5 hr p1 p2 p3 p4
end Go.Proofs.YtmobpoiejckagaaGreat
namespace Pv
open Go Tw
section
variable {P:Program} {T:qJ} {call:aY} {cd:uZ} {L f:Nat} {fl nt:Nat}
def o9:Code->Bool
 |.rangeFunc ..=>false
 |.region _ ops _=>(Ac ops).isNone
 |.seq a b=>o9 a&&o9 b
 |.cond _ a b=>o9 a&&o9 b
 |.block _ b=>o9 b
 |.scope b=>o9 b
 |.loop b=>o9 b
 |_=>true
theorem a7N:∀(c:Code) {s s':St} {e:Ex} {Q:Ex->St->Prop},o9 c=true->exec P T call L f false fl nt c s=some (e,s')->Q e s'->fF P T call cd L f fl nt c s Q:=by
 intro c
 induction c with
 |region id ops draw=>
  intro s s' e Q hn h hq;simp only[o9,Option.isNone_iff_eq_none]at hn;simp only[fF,hn];exact⟨_,_,h,hq⟩
 |seq x y W9 ihy=>
  intro s s' e Q hn h hq;simp only[o9,a2o]at hn;simp only[fF];simp only[exec]at h;split at h
  .rename_i s1 hx;exact W9 hn.1 hx (ihy hn.2 h hq)
  rename_i iC;refine W9 hn.1 h ?_;cases e with
  |norm=>exact(iC s' h).elim
  |exit i=>exact hq
  |ret=>exact hq
 |cond c x y W9 ihy=>
  intro s s' e Q hn h hq;simp only[o9,a2o]at hn;simp only[fF];simp only[exec]at h;split at h
  .rename_i hc;simp only[hc];exact W9 hn.1 h hq
  .rename_i hc;simp only[hc];exact ihy hn.2 h hq
  cases h
 |block id b ih=>
  intro s s' e Q hn h hq;simp only[o9]at hn;simp only[fF];simp only[exec]at h;split at h
  .rename_i i s1 hb;cases h;exact ih hn hb hq
  rename_i iC;refine ih hn h ?_;cases e with
  |exit i=>exact(iC i s' h).elim
  |norm=>exact hq
  |ret=>exact hq
 |scope b ih=>
  intro s s' e Q hn h hq;simp only[o9]at hn;simp only[fF];simp only[exec]at h;exact ih hn h hq
 |loop b ih=>
  intro s s' e Q hn h hq;simp only[o9]at hn;simp only[fF];simp only[exec]at h;have:∀(k:Nat) {s:St},iter (fun s=>exec P T call L f false fl nt b (jW (T.eH f (dV b)) s)) k s=some (e,s')->GL (fun s Q=>fF P T call cd L f fl nt b (jW (T.eH f (dV b)) s) Q) k s Q:=by
   intro k
   induction k with
   |zero=>intro s h;simp[iter]at h
   |succ k ihk=>
    intro s h;simp only[iter]at h;split at h
    .rename_i s1 h1;exact ih hn h1 (ihk h)
    rename_i iC;refine ih hn h ?_;cases e with
    |norm=>exact(iC s' h).elim
    |exit i=>exact hq
    |ret=>exact hq
  exact this L h
 |rangeFunc=>intro s s' e Q hn;cases hn
 |_=>
  intro s s' e Q hn h hq;simp only[fF];exact⟨_,_,h,hq⟩
end
section
variable {X:kQ} {P:Program} {T:qJ} {call:aY} {cd:uZ} {L f nt B:Nat}
def aJ(X:kQ)(P:Program)(T:qJ)(call:aY)(cd:uZ)(L f nt B:Nat)(c:Code)(ps:aS X.Γ)(Q:Ex->aS X.Γ->Prop):Prop:=
 ∀(A W:Nat->Prop) (fl:Nat) (m:List MB) (ts:St) (R:Ex->St->Prop),SR X P A W fl m ps ts->(∀e iH ps1 m1,Q e ps1->SR X P A W fl m1 ps1 iH->Fr m ts.heap m1 iH.heap->MH B m m1->R e iH)->fF P T call cd L f fl nt c ts R
theorem aJ.mono{c:Code}{ps:aS X.Γ}{Q Q':Ex->aS X.Γ->Prop}(hq:∀e s,Q e s->Q' e s)(h:aJ X P T call cd L f nt B c ps Q):aJ X P T call cd L f nt B c ps Q':=fun A W fl m ts R hS hR=>
 h A W fl m ts R hS fun e iH ps1 m1 a1=>hR e iH ps1 m1 (hq _ _ a1)
theorem dN.dem{c:Code}{ps ps1:aS X.Γ}{e:Ex}{Q:Ex->aS X.Γ->Prop}(hn:o9 c=true)(h:dN X P T call L f false nt B c ps e ps1)(hq:Q e ps1):aJ X P T call cd L f nt B c ps Q:=fun A W fl m ts R hS hR=>by
 obtain⟨iH,m1,h1,h2,h3,h4⟩:=h A W fl m ts hS;exact a7N c hn h1 (hR _ _ ps1 m1 hq h2 h3 h4)
theorem aJ.seq{a b:Code}{ps:aS X.Γ}{Q R:Ex->aS X.Γ->Prop}(ha:aJ X P T call cd L f nt B a ps R)(hb:∀s,R .norm s->aJ X P T call cd L f nt B b s Q)(he:∀i s,R (.exit i) s->Q (.exit i) s)(hr:∀s,R .ret s->Q .ret s):aJ X P T call cd L f nt B (.seq a b) ps Q:=fun A W fl m ts R' hS hR=>by
 simp only[fF];refine ha A W fl m ts _ hS fun e iH ps1 m1 a1 a2 a3 a4=>?_;cases e with
 |norm=>exact hb ps1 a1 A W fl m1 iH R' a2 fun e ts2 Cb m2 b1 b2 b3 b4=>hR e ts2 Cb m2 b1 b2 (a3.trans b3) (a4.trans b4)
 |exit i=>exact hR _ _ ps1 m1 (he _ _ a1) a2 a3 a4
 |ret=>exact hR _ _ ps1 m1 (hr _ a1) a2 a3 a4
theorem aJ.block{id:Nat}{b:Code}{ps:aS X.Γ}{Q:Ex->aS X.Γ->Prop}(h:aJ X P T call cd L f nt B b ps fun e s=>Q (match e with|.exit i=>if i=id then .norm else .exit i|e=>e) s):aJ X P T call cd L f nt B (.block id b) ps Q:=fun A W fl m ts R hS hR=>by
 simp only[fF];exact h A W fl m ts _ hS fun e iH ps1 m1 a1 a2 a3 a4=>hR _ iH ps1 m1 a1 a2 a3 a4
theorem aJ.loop{b:Code}{Q:Ex->aS X.Γ->Prop}(I:Nat->aS X.Γ->Prop)
  (h:∀k s,I k s->aJ X P T call cd L f nt B b (gQ X (T.eH f (dV b)) s) fun e s=>match e with|.norm=>∃j,j<k∧I j s|e=>Q e s) {k:Nat} {ps:aS X.Γ} (hi:I k ps) (hk:k<L):aJ X P T call cd L f nt B (.loop b) ps Q:=fun A W fl m ts R hS hR=>by
 simp only[fF];have key:∀(n k:Nat) (ps:aS X.Γ) (m1:List MB) (iH:St),k<n->I k ps->SR X P A W fl m1 ps iH->Fr m ts.heap m1 iH.heap->MH B m m1->GL (fun s Q=>fF P T call cd L f fl nt b (jW (T.eH f (dV b)) s) Q) n iH R:=by
  intro n
  induction n with
  |zero=>intro k ps m ts hk;omega
  |succ n ih=>
   intro k ps m1 iH hk hi hS hF hU;simp only[GL];refine h k ps hi A W fl m1 _ _ (hS.head _) fun e ts2 Cb m2 a1 a2 a3 a4=>?_;have a3:Fr m1 iH.heap m2 ts2.heap:=a3;cases e with
   |norm=>
    obtain⟨j,hj,zZ⟩:=a1;exact ih j Cb m2 ts2 (by omega) zZ a2 (hF.trans a3) (hU.trans a4)
   |exit i=>exact hR _ _ Cb m2 a1 a2 (hF.trans a3) (hU.trans a4)
   |ret=>exact hR _ _ Cb m2 a1 a2 (hF.trans a3) (hU.trans a4)
 exact key L k ps m ts hk hi hS .refl Up.refl.b
theorem aJ.cond{c:Operand}{a b:Code}{ps:aS X.Γ}{t:Bool}{Q:Ex->aS X.Γ->Prop}(hc:zQ ps.env c=some (.bool t))(h:aJ X P T call cd L f nt B (if t then a else b) ps Q):aJ X P T call cd L f nt B (.cond c a b) ps Q:=fun A W fl m ts R hS=>by
 obtain⟨x,g1,g2⟩:=jm hS.st.env hc;have hx:x=.bool t:=by
  cases g2 with
  |bool=>rfl
  |gone hi _ _=>simp[bf]at hi
 subst hx;simp only[fF,g1];cases t with
 |true=>exact h A W fl m ts R hS
 |false=>exact h A W fl m ts R hS
theorem aJ.next{id it nx mo b r n:Nat}{seen:List Nat}{ops:Array Oper}{draw:Bool}{o1 o2:Oper}{ps:aS X.Γ}{es:List (PV X.Γ×PV X.Γ)}{Q:Ex->aS X.Γ->Prop}(hn:Ac ops=some (it,nx,o1,o2))(hd:nx<nt)(Zx:mo<nt)
  (h2:o2.op=.extract (.tmp nx) 0) (h3:o2.dst=some mo) (h4:o2.guard=none)
  (Qj:zQ ps.env (.tmp it)=some (.iter b)) (hb:ps.heap[b]? = some (.cZ r n seen)) (hr:Ku X ps.heap r=some es) (hl:es.length=n)
  (wo:(∀j,j<n->j∈seen)->Q .norm { ps with env:=jd (T.iy f id) ((mo,.val (.bool false))::(nx,.val (.dI [.bool false]))::ps.env) })
  (pick:∀j e,j∉seen->es[j]? = some e->Q .norm { ps with env:=jd (T.iy f id) ((mo,.val (.bool true))::(nx,.val (.dI [.bool true,e.1,e.2]))::ps.env),heap:=ps.heap.set b (.cZ r n (j::seen)) }) :
  aJ X P T call cd L f nt B (.region id ops draw) ps Q:=fun A W fl m ts R hS hR0=>by
 obtain⟨x,g1,g2⟩:=jm hS.st.env Qj;obtain⟨mb,q1,q2⟩:=hS.st.heap.at_ b _ hb;obtain⟨cr,fQ,q3,z1,z2,z3⟩:=CX hS.st.heap hr;cases mb with
 |fU cb=>
   obtain⟨c,p1,p2,p3⟩:=q2;have:=p3 cr (by rcases q3 with q|⟨q,_⟩;exact .inl q;exact .inr q);subst this;cases g2 with
   |gone hi e _=>simp only[bf,a05]at hi;subst hi;rw[q1]at e;cases e
   |iter e1=>
    rw[q1]at e1;cases e1;have apu:dM it ts.env=some (.val (.iter cb)):=by
     unfold qM at g1;split at g1
     .rename_i v hv;cases g1;exact hv
     .cases g1
    have run:∀(s:St) (t:Bool) (vs:List TV),l7 P call (fun d=>T.TM f d) fl nt ops [o2] (s.put (some nx) (.val (.dI (.bool t::vs))))=some ({ s with env:=(mo,.val (.bool t))::(nx,.val (.dI (.bool t::vs)))::s.env },[cu]):=by
     intro s t vs;have e1:Nb nt o2=true:=(by simp[Nb,h3,Zx]);have e2:∀env,BZ ops env o2=some true:=fun env=>(by simp[BZ,h4]);simp only[l7,e1,e2,a8U,a2P,a3T,pF,h2];simp[St.put,Ir,dM,h3,jU,cu,yM]
    simp only[fF,hn];refine⟨hd,cb,cr,n,seen,fQ,apu,p1,z1,by rw[<-z2];exact hl,fun Fq=>?_,fun j e hj he=>?_⟩
    .refine⟨_,_,run ts false [],hR0 _ _ { ps with env:=_ } m (wo Fq) ?_ .refl Up.refl.b⟩;have hS2:uQ X P A m { ps with env:=(mo,.val (.bool false))::(nx,.val (.dI [.bool false]))::ps.env } { ts with env:=(mo,.val (.bool false))::(nx,.val (.dI [.bool false]))::ts.env }:=
      ⟨hS.st.heap,hS.st.llen,hS.st.loc,.cons (.bool false) (.cons (bU.cons (.bool false) .nil |> fun h=>.dI h.1 h.2) hS.st.env)⟩
     exact SR.pick ⟨hS2,hS.own,hS.ws,hS.fl⟩ _
    .have aQ:j<es.length:=by rw[z2];exact(a0c.1 he).1
     have hej:=a0f aQ;have hv:=z3 j _ _ hej he;have hcb:=(a0c.1 p1).1;obtain⟨u1,u2⟩:=hS.st.heap.set (pb:=.cZ r n (j::seen)) (hb:=.cZ cr n (j::seen)) q1 (c:=cb) rfl (fun cs hc=>by simp[aV,p1]at hc) fun hF=>⟨cr,by simp[hcb],p2,p3⟩;refine⟨_,_,run _ true [e.1,e.2],hR0 _ _ { ps with env:=_,heap:=_ } m (pick j _ hj hej) ?_ u2 Up.refl.b⟩;have hS1:=hS.st.step u1 u2 .refl;have hS2:uQ X P A m { ps with env:=(mo,.val (.bool true))::(nx,.val (.dI [.bool true,es[j].1,es[j].2]))::ps.env,heap:=ps.heap.set b (.cZ r n (j::seen)) } { ts with env:=(mo,.val (.bool true))::(nx,.val (.dI [.bool true,e.1,e.2]))::ts.env,heap:=ts.heap.set cb (.cZ cr n (j::seen)),ws:=jU fl [.h cb] ts.ws }:=
      ⟨hS1.heap,hS1.llen,hS1.loc,.cons (.bool true) (.cons (bU.cons (.bool true) (bU.cons (nS hv.1) (bU.cons (nS hv.2) .nil)) |> fun h=>.dI h.1 h.2) hS1.env)⟩
     refine SR.pick ⟨hS2,hS.own,fun b2 xX=>?_,by simpa using hS.fl⟩ _;rcases oH.1 xX with h5|⟨h5,h6⟩
     .exact hS.ws b2 h5
     .simp at h5;subst h5;exact(hS.own _ (aZ q1 rfl)).resolve_right (by omega)
 |_=>exact q2.elim
def aaM(X:kQ)(P:Program)(cd:uZ)(fv:PV X.Γ)(xs:List (PV X.Γ))(H:List (PB X.Γ))(K:PV X.Γ->List (PB X.Γ)->Prop):Prop:=
 ∀(A:Nat->Prop) (m:List MB) (h:List HB) (tf:TV) (rW:List TV) (R:TV->List HB->List Nat->Prop),HR X P A m H h->VR X P (AA A m) m h fv tf->bU X P (AA A m) m h xs rW ->
  (∀w h1 ws m1 v H1,K v H1->HR X P A m1 H1 h1->VR X P (AA A m1) m1 h1 v w->Fr m h m1 h1->Up m m1->(∀b∈ws,b∈bn m)->R w h1 ws)->cd tf rW h R
theorem a1U{n:Nat}{t:FnT}{first xs cap:List (PV X.Γ)}{H:List (PB X.Γ)}{K:PV X.Γ->List (PB X.Γ)->Prop}(hX:bM X P)(ht:TL P f=some t)
  (hE:aJ X P T (kY P T L n) CG L f t.nt H.length t.body ⟨kZ X 0 (first++xs++cap),[],H⟩ fun e s=>(e=.norm∨e=.ret)∧∃us,EU X P s t.results=some us∧K (Zo X us) s.heap):aaM X P (uO P T (kY P T L n) L) (.fn f first cap) xs H K:=by
 intro A m h tf rW R hr hf NP hR;cases hf with
 |gone hi _ _=>simp[bf]at hi
 |fn p1 p2 p3 p4=>
  rename_i a' c';have EP:=(bU.app ⟨p1,p2⟩ NP).app ⟨p3,p4⟩;refine⟨t,ht,hE A (fun b=>b∈bn m) _ m _ _ ⟨⟨hr,rfl,fun k cs hk=>by simp at hk,MI EP⟩,fun b h1=>.inl h1,fun b hb=>(by cases hb),a1b _⟩ fun e iH ps1 m1 ⟨he,us,hus,hk⟩ h3 h4 h5=>?_⟩;obtain⟨ws,g1,g2⟩:=IU hX h3.st hus;refine⟨he,ws,g1,hR _ _ _ m1 _ _ hk h3.st.heap (Uy g2) h4 (fun i mb hi=>h5 i mb ?_ hi) h3.ws⟩;rw[<-hr.len];exact(a0c.1 hi).1
theorem aJ.range(hX:bM X P){g:Operand}{qs:Array Nat}{uJ body:Code}{ps:aS X.Γ}{f1:FuncId}{a1 b1:List (PV X.Γ)}{K:PV X.Γ->List (PB X.Γ)->Prop}{Q:Ex->aS X.Γ->Prop}
  (hg:zQ ps.env g=some (.fn f1 a1 b1)) (hd:T.din.contains f1=true) (Fq:(ps.env.all fun p=>ZF p.2)=true)
  (apv:aaM X P cd (.fn f1 a1 b1) [.kP (ps.heap.length+1)] (ps.heap++[.mark]++[.loop true f nt ps.env qs.toList uJ body none]) K)
  (hk:∀v H1,K v H1->∃rd f2 Qd e2 Cb a2 b2 jH e,H1[ps.heap.length+1]? = some (.loop rd f2 Qd e2 Cb a2 b2 jH)∧QE rd jH=some e∧Q e { ps with heap:=H1.set (ps.heap.length+1) (.loop false f2 Qd e2 Cb a2 b2 (some .skip)) }) :
  aJ X P T call cd L f nt B (.rangeFunc g qs uJ body) ps Q:=by
 intro A W fl m ts R hS hR;obtain⟨tg,g1,g2⟩:=jm hS.st.env hg;have hm:=hS.st.heap.len;obtain⟨p1,p2,p3⟩:=hS.st.heap.push (pb:=.mark) (hb:=.mark) (mb:=.fU ts.heap.length) (.inl rfl) (by simp[BR]);obtain⟨q1,q2,q3⟩:=p1.push (pb:=.loop true f nt ps.env qs.toList uJ body none) (hb:=.loop true f nt ts.env qs.toList uJ body none) (mb:=.fU (ts.heap.length+1)) (.inl (by simp[MB.own])) (by
  refine⟨ts.env,by simp,?_⟩;refine jR.step (m:=m) (h:=ts.heap) (A:=A) ?_ ?_ hS.st.env
  .have r2:Fr (m++[MB.fU ts.heap.length]) (ts.heap++[HB.mark]) (m++[MB.fU ts.heap.length]++[MB.fU (ts.heap.length+1)]) (ts.heap++[HB.mark]++[HB.loop true f nt ts.env qs.toList uJ body none]):=by
    refine⟨by simp,fun b hb _=>by rw[a0j hb],fun b hb=>?_,fun b cs hc=>⟨cs,?_,a1b _⟩⟩
    .rw[iZ,a3k,kE]at hb;rcases hb with hb|hb
     .exact .inl hb
     .simp[MB.own]at hb;subst hb;exact .inr (by simp)
    .rw[fK (a0j (gU hc)),hc]
   exact p2.trans r2
  .exact p3.trans (wQ _))
 have hF:=p2.trans q2;have hU:=p3.trans q3;have hyl:VR X P (AA A (m++[MB.fU ts.heap.length]++[MB.fU (ts.heap.length+1)])) (m++[MB.fU ts.heap.length]++[MB.fU (ts.heap.length+1)]) (ts.heap++[HB.mark]++[HB.loop true f nt ts.env qs.toList uJ body none]) (.kP (ps.heap.length+1)) (.kP (ts.heap.length+1)):=by
  refine .kP ?_;rw[<-hm,a1c (by simp)];simp
 have hg':∃a1' b1',tg=.fn f1 a1' b1':=by
  cases g2 with
  |gone hi _ _=>simp[bf]at hi
  |fn _ _ _ _=>exact⟨_,_,rfl⟩
 obtain⟨a1',b1',rfl⟩:=hg';have apy:a5m T ts.env g=true:=by unfold a5m;rw[g1];exact hd
 simp only[fF,apy,a2w];refine⟨f1,a1',b1',g1,a6n hS.st.env Fq,?_⟩;rw[show ts.heap++[HB.mark,HB.loop true f nt ts.env qs.toList uJ body none]=ts.heap++[HB.mark]++[HB.loop true f nt ts.env qs.toList uJ body none] by simp];refine apv A _ _ _ [.kP (ts.heap.length+1)] _ q1 (g2.step hF hU) (.cons hyl .nil) fun w h1 ws m1 v H1 Ox c2 c3 c4 c5 c6=>?_;obtain⟨rd,f2,Qd,e2,Cb,a2,b2,jH,e,hl,hj,hq⟩:=hk v H1 Ox;have hm1:m1[ps.heap.length+1]? = some (.fU (ts.heap.length+1)):=by
  rcases c5 (ps.heap.length+1) (.fU (ts.heap.length+1)) (by rw[<-hm,a1c (by simp)];simp)with e|e
  .exact e
  .obtain⟨mb,k1,k2⟩:=c2.at_ _ _ hl;rw[e]at k1;cases k1;exact k2.elim
 obtain⟨mb,k1,k2⟩:=c2.at_ _ _ hl;rw[hm1]at k1;cases k1;obtain⟨e2',k3,k4⟩:=k2;obtain⟨s1,s2⟩:=c2.set (i:=ps.heap.length+1) (c:=ts.heap.length+1) (pb:=.loop false f2 Qd e2 Cb a2 b2 (some .skip)) (hb:=.loop false f2 Qd e2' Cb a2 b2 (some .skip)) hm1 rfl (fun cs hc=>by unfold aV at hc;rw[k3]at hc;cases hc) (fun hF=>⟨e2',by rw[a2l (a0c.1 k3).1],k4.step hF .refl⟩);have hF2:=hF.trans (c4.trans s2);have hU2:=hU.trans c5;refine⟨_,_,_,_,_,_,_,_,e,k3,hj,hR _ _ _ m1 hq ⟨?_,fun b hb=>?_,fun b hb=>?_,?_⟩ hF2 hU2.b⟩
 .have q:=hS.st.step s1 hF2 hU2;exact⟨q.heap,q.llen,q.loc,q.env⟩
 .rcases hF2.new b hb with k|k
  .exact hS.own b k
  .exact .inr (a4U hS.fl k)
 .rcases vV hb with k|⟨k,k'⟩
  .exact hS.ws b k
  .obtain⟨b',qK,e⟩:=a1l.1 k;cases e;rcases hF.new b (c6 b qK)with k2|k2
   .rcases hS.own b k2 with k3|k3
    .exact k3
    .omega
   .have:=hS.fl;omega
 .exact a4U hS.fl hF2.len
end
section
variable {X:kQ} {P:Program} {A B:Nat->Prop} {m m' m1:List MB} {h h':List HB} {g:Nat->Option Nat}
def Bz:List (PB X.Γ)->Bool
 | []=>true
 |.aC _::H=>Bz H
 |.iE _::H=>Bz H
 |.gone::H=>Bz H
 |_=>false
theorem Y0:∀{H:List (PB X.Γ)},Bz H=true->∀(i:Nat) b,H[i]? = some b->Bz [b]=true
 | [],_,i,b,h=>by simp at h
 |a::H,hn,i,b,h=>by
  cases i with
  |zero=>simp at h;subst h;cases a<;>simp_all [Bz]
  |succ i=>
   have DT:Bz H=true:=by cases a<;>simp_all [Bz]
   exact Y0 DT i b (by simpa using h)
theorem a03{H:List (PB X.Γ)}(hn:Bz H=true)(hr:HR X P A m H h):bn m=[]:=by
 refine a7h.2 fun b hb=>?_;obtain⟨i,mb,h1,h2⟩:=kF hb;have hl:i<H.length:=by rw[<-hr.len];exact(a0c.1 h1).1
 obtain⟨LZ,g1,g2⟩:=hr.at_ i _ (a0f hl);rw[h1]at g1;cases g1;have h3:=Y0 hn i _ (a0f hl);generalize H[i]=b9 at g2 h3;cases b9<;>first|(cases h3;done)|skip
 all_goals (cases mb<;>first|exact g2.elim|cases h2)
theorem PL{v:PV X.Γ}{t:TV}(h:qW v=some t):(∀l,BD t l=l)∧(∀g,nI g t=some t)∧∀fl,L6 fl t=t:=by
 cases v<;>simp only[qW,a05,reduceCtorEq]at h<;>subst h<;>exact⟨fun _=>rfl,fun _=>rfl,fun _=>rfl⟩
theorem yx:∀{vs:List (PV X.Γ)} {ts:List TV},iI vs=some ts->(∀l,BD.EM ts l=l)∧∀g,nI.yZ g ts=some ts
 | [],ts,h=>by simp only[iI,a05]at h;subst h;exact⟨fun _=>rfl,fun _=>rfl⟩
 |v::vs,ts,h=>by
  simp only[iI]at h;split at h
  .rename_i a b h1 h2;cases h;have e1:=PL h1;have e2:=yx h2;exact⟨fun l=>by simp only[BD.EM,e2.1,e1.1],fun g=>by simp only[nI.yZ,e1.2.1,e2.2]⟩
  cases h
theorem MV{v:PV X.Γ}{t:TV}(h:qg v=some t):(∀l,BD t l=l)∧(∀g,nI g t=some t)∧∀fl,L6 fl t=t:=by
 unfold qg at h;split at h
 .simp only[a0e]at h;obtain⟨ts,h1,rfl⟩:=h;have e:=yx h1;exact⟨fun l=>by simp only[BD,e.1],fun g=>by simp only[nI,e.2,a0v],fun _=>rfl⟩
 exact PL h
def a3F(X:kQ)(P:Program)(ng:Bool)(u:PV X.Γ)(Hs:List (PB X.Γ))(tv:Nat->TV)(tN:List HB):Prop:=
 ∀(A:Nat->Prop) (m:List MB) (h h1:List HB) (w:TV),HR X P A m Hs h1->VR X P (AA A m) m h1 u w->(∀b,b∈bn m->h.length<=b)->O1 ng h w h1=some (tv h.length,h++tN)
theorem DF(hX:bM X P){T:qJ}{L n f:Nat}{t:FnT}{first xs cap:List (PV X.Γ)}{H N:List (PB X.Γ)}{v:PV X.Γ}{tv:Nat->TV}{tN:List HB}(hd:T.dem.contains f=true)(hx:T.exts.contains f=false)(ht:TL P f=some t)(hN:Bz H=true)
  (O6:∀A m h,HR X P A m H h->∃m1,HR X P A m1 (H++N) (h++tN)∧VR X P (AA A m1) m1 (h++tN) v (tv h.length)∧Fr m h m1 (h++tN)∧Up m m1)
  (hE:aJ X P T (kY P T L n) (uO P T (kY P T L n) L) L f t.nt H.length t.body ⟨kZ X 0 (first++xs++cap),[],H⟩ fun e s=>(e=.norm∨e=.ret)∧∃us,EU X P s t.results=some us∧a3F X P (T.a8Y.contains f) (Zo X us) s.heap tv tN):aW X P (kY P T L (n+1)) (.fn f first cap) xs H v (H++N):=by
 intro A m h tf rW hr hf NP;cases hf with
 |gone hi _ _=>simp[bf]at hi
 |fn p1 p2 p3 p4=>
  rename_i a' c';have EP:=(bU.app ⟨p1,p2⟩ NP).app ⟨p3,p4⟩;have hb:=a03 hN hr;have hS:SR X P A (fun _=>False) h.length m ⟨kZ X 0 (first++xs++cap),[],H⟩ ⟨nM 0 (a'++rW++c'),[],h,[]⟩:=
   ⟨⟨hr,rfl,fun k cs hk=>by simp at hk,MI EP⟩,fun b h1=>(by rw[hb]at h1;cases h1),fun b hb=>(by cases hb),a1b _⟩
  have hO:Ws P T (kY P T L n) L f t (a'++rW++c') h (tv h.length,h++tN):=by
   refine hE A _ _ m _ _ hS fun e iH ps1 m1 ⟨he,us,hus,hpv⟩ h3 h4 h5=>?_;obtain⟨ws,g1,g2⟩:=IU hX h3.st hus;exact⟨he,ws,g1,a7h.2 fun b hb=>h3.ws b hb,hpv A m1 h iH.heap _ h3.st.heap (Uy g2) fun b hb=>(h3.own b hb).resolve_left id⟩
  obtain⟨m1,q1,q2,q3,q4⟩:=O6 A m h hr;refine⟨tv h.length,h++tN,[],m1,?_,q1,q2,q3,q4,fun b hb=>by cases hb⟩;simp only[kY,hx,hd,a2P,a3T,a2w];exact a9l ht hO
theorem a04{ng:Bool}{u:PV X.Γ}{Hs:List (PB X.Γ)}{tu:TV}(hu:qg u=some tu)(ht:∀cs,tu≠.dI cs):a3F X P ng u Hs (fun _=>tu) []:=fun A m h h1 w hr hw _=>by
 have:=jL hw hu;subst this;obtain⟨e1,e2,e3⟩:=MV hu;have e4:Ua h.length w=w:=by
  cases w with
  |dI cs=>exact absurd rfl (ht cs)
  |_=>exact e3 h.length
 unfold O1;simp only[e1,wK,e2,CJ,e4,abG,a5W]
theorem aaN(hX:bM X P){T:qJ}{L n f:Nat}{t:FnT}{first xs cap:List (PV X.Γ)}{H:List (PB X.Γ)}{v:PV X.Γ}{tv:TV}(hd:T.dem.contains f=true)(hx:T.exts.contains f=false)(ht:TL P f=some t)(hN:Bz H=true)(hv:qg v=some tv)
  (hE:aJ X P T (kY P T L n) (uO P T (kY P T L n) L) L f t.nt H.length t.body ⟨kZ X 0 (first++xs++cap),[],H⟩ fun e s=>(e=.norm∨e=.ret)∧∃us,EU X P s t.results=some us∧Zo X us=v):aW X P (kY P T L (n+1)) (.fn f first cap) xs H v H:=by
 have:=DF (N:=[]) (v:=v) (tv:=fun _=>tv) (tN:=[]) hX hd hx ht hN (fun A m h hr=>⟨m,by simpa using hr,nS hv,by simpa using Fr.refl,.refl⟩) (hE.mono fun e s ⟨h1,us,h2,h3⟩=>⟨h1,us,h2,by rw[h3];exact a04 hv fun cs hc=>by subst hc;cases v<;>simp[qg,qW]at hv⟩)
 rwa [a5W]at this
def xg:List (PV X.Γ×PV X.Γ)->Option (List (TV×TV))
 | []=>some []
 |(k,v)::r=>match qg k,qg v,xg r with
  |some k,some v,some r=>some ((k,v)::r)
  |_,_,_=>none
theorem Y1:∀{es:List (PV X.Γ×PV X.Γ)} {fQ MW:List (TV×TV)},xg es=some MW->es.length=fQ.length->(∀(i:Nat) x y,es[i]? = some x->fQ[i]? = some y->qg x.1=some y.1∧qg x.2=some y.2)->fQ=MW
 | [],fQ,MW,h,hl,_=>by
  simp only[xg,a05]at h;subst h;exact a4g hl.symm
 |(k,v)::r,fQ,MW,h,hl,he=>by
  cases fQ with
  |nil=>simp at hl
  |cons y fQ=>
   simp only[xg]at h;split at h
   .rename_i a b c h1 h2 h3;cases h;have e0:=he 0 _ _ rfl rfl;have e1:y.1=a:=by have:=e0.1.symm.trans h1;exact a94 this
    have e2:y.2=b:=by have:=e0.2.symm.trans h2;exact a94 this
    have e3:=Y1 h3 (by simpa using hl) fun i x z hx hz=>he (i+1) x z (by simpa using hx) (by simpa using hz);rw[e3,<-e1,<-e2]
   cases h
theorem PN:∀{es:List (PV X.Γ×PV X.Γ)} {MW:List (TV×TV)},xg es=some MW->es.length=MW.length∧∀(i:Nat) x y,es[i]? = some x->MW[i]? = some y->qg x.1=some y.1∧qg x.2=some y.2
 | [],MW,h=>by simp only[xg,a05]at h;subst h;exact⟨rfl,by simp⟩
 |(k,v)::r,MW,h=>by
  simp only[xg]at h;split at h
  .rename_i a b c h1 h2 h3;cases h;obtain⟨i1,i2⟩:=PN h3;refine⟨by simp[i1],fun i x y hx hy=>?_⟩;cases i with
   |zero=>simp at hx hy;subst hx;subst hy;exact⟨h1,h2⟩
   |succ i=>exact i2 i x y (by simpa using hx) (by simpa using hy)
  cases h
theorem Tv:∀{es:List (PV X.Γ×PV X.Γ)} {MW:List (TV×TV)},xg es=some MW->(∀l,a9g.a0J MW l=l)∧∀g,Tw.oV g MW=some MW
 | [],MW,h=>by simp only[xg,a05]at h;subst h;exact⟨fun _=>rfl,fun _=>rfl⟩
 |(k,v)::r,MW,h=>by
  simp only[xg]at h;split at h
  .rename_i a b c h1 h2 h3;cases h;have e1:=MV h1;have e2:=MV h2;have e3:=Tv h3;exact⟨fun l=>by simp only[a9g.a0J,e1.1,e2.1,e3.1],fun g=>by simp only[Tw.oV,e1.2.1,e2.2.1,e3.2]⟩
  cases h
theorem PO{h h1:List HB}{c:Nat}(hc:h.length<=c)(hr:∀l,a9g h1[c]? l=l):wK h1 h.length 5000 [c] []=[c]∧Wi h.length [c] c=some h.length:=by
 have e1:Nat.blt c h.length=false:=by
  cases e:Nat.blt c h.length with
  |false=>rfl
  |true=>have:=agE e;omega
 constructor
 .simp only[wK,e1,a5t,Bool.or_false,hr]
 simp only[Wi,e1,a5r,Nat.beq_refl,a0v,a4e]
theorem a7O{ng:Bool}{r:Nat}{Hs:List (PB X.Γ)}{es:List (PV X.Γ×PV X.Γ)}{MW:List (TV×TV)}(hm:Hs[r]? = some (.map es))(he:xg es=some MW):a3F X P ng (.map r) Hs (fun n=>.map n) [.map (Rt MW)]:=fun A m h h1 w hr hw hn=>by
 obtain⟨mb,g1,g2⟩:=hr.at_ r _ hm;cases mb with
 |fU c=>
  obtain⟨fQ,g3,g4,g5⟩:=g2;have:=Y1 he g4 g5;subst this;have hw:w=.map c:=by
   cases hw with
   |map e=>rw[g1]at e;cases e;rfl
   |gone hi e _=>simp only[bf,a05]at hi;subst hi;rw[g1]at e;cases e
  subst hw;have hc:=hn c (aZ g1 rfl);obtain⟨e1,e2⟩:=Tv he;obtain⟨k1,k2⟩:=PO (h:=h) (h1:=h1) hc fun l=>by rw[g3];exact e1 l
  unfold O1;simp only[BD,k1,nI,k2,a0v,CJ,g3,uw,e2,Ua,L6,a4k,abG,Qk]
 |_=>exact g2.elim
theorem a7P(hX:bM X P){T:qJ}{L n f:Nat}{t:FnT}{first xs cap:List (PV X.Γ)}{H:List (PB X.Γ)}{es0:List (PV X.Γ×PV X.Γ)}{a3G:List (TV×TV)}(hd:T.dem.contains f=true)(hx:T.exts.contains f=false)(ht:TL P f=some t)(hN:Bz H=true)(h0:xg es0=some a3G)
  (hE:aJ X P T (kY P T L n) (uO P T (kY P T L n) L) L f t.nt H.length t.body ⟨kZ X 0 (first++xs++cap),[],H⟩ fun e s=>(e=.norm∨e=.ret)∧∃us,EU X P s t.results=some us∧∃r es MW,Zo X us=.map r∧s.heap[r]? = some (.map es)∧xg es=some MW∧Rt MW=a3G):aW X P (kY P T L (n+1)) (.fn f first cap) xs H (.map H.length) (H++[.map es0]):=by
 refine DF (tv:=fun n=>.map n) (tN:=[.map a3G]) hX hd hx ht hN (fun A m h hr=>?_) (hE.mono fun e s ⟨h1,us,h2,r,es,MW,h3,h4,h5,h6⟩=>⟨h1,us,h2,by rw[h3,<-h6];exact a7O h4 h5⟩);obtain⟨p1,p2,p3⟩:=hr.push (pb:=.map es0) (hb:=.map a3G) (mb:=.fU h.length) (.inl rfl) ⟨a3G,by simp,(PN h0).1,(PN h0).2⟩;exact⟨_,p1,.map (by rw[<-hr.len];simp),p2,p3⟩
theorem Y2(hX:bM X P){A:Nat->Prop}{m:List MB}{Hs:List (PB X.Γ)}{h1:List HB}{i ty:Nat}{k ex:Bool}{l:List (X.Γ ty)}{w:TV}{Ll:List TV}(hr:HR X P A m Hs h1)(hi:Hs[i]? = some (.list k ex ty l))(hl:l≠[])(hc:iI (Ey X ty l)=some Ll)(hw:VR X P (AA A m) m h1 (.own i) w) :
  ∃c sz e kk,w=.slc c 0 l.length l.length sz e∧dD P ty=some sz∧c∈bn m∧h1[c]? = some (.cells kk Ll)∧kk≠.ro:=by
 obtain⟨mb,g1,g2⟩:=hr.at_ i _ hi;cases mb with
 |dB x=>
  have hwx:w=x:=by
   cases hw with
   |own e _=>rw[g1]at e;cases e;rfl
   |gone hi e _=>simp only[bf,a05]at hi;subst hi;rw[g1]at e;cases e
  subst hwx;cases(g2:LR X P (AA A m) m h1 k ex ty l w)with
  |nil=>exact absurd rfl hl
  |emp=>exact absurd rfl hl
  |some _ q2 q3 q4 q5 q6 q7 q8 q9=>
   have hv:=eu.vrs q9 q8;have QV:=FN hv hc;subst QV;exact⟨_,_,_,_,rfl,q2,aZ g1 (by simp only[MB.own];rw[a0o (by simpa using hl)]),q4,q5⟩
 |_=>exact g2.elim
theorem a7Q(hX:bM X P){i ty sz:Nat}{k ex:Bool}{l:List (X.Γ ty)}{Hs:List (PB X.Γ)}{Ll:List TV}(hi:Hs[i]? = some (.list k ex ty l))(hl:l≠[])(hc:iI (Ey X ty l)=some Ll)(hs:dD P ty=some sz):a3F X P true (.own i) Hs (fun n=>.slc n 0 l.length l.length sz false) [.ng (Ru Ll)]:=fun A m h h1 w hr hw hn=>by
 obtain⟨c,sz',e,kk,rfl,g1,g2,g3,g4⟩:=Y2 hX hr hi hl hc hw;rw[hs]at g1;cases g1;have qm:=hn c g2;obtain⟨e1,e2⟩:=yx hc;obtain⟨k1,k2⟩:=PO (h:=h) (h1:=h1) qm fun l=>by rw[g3];exact e1 l
 have e3:Qk true (.cells kk Ll)=.ng (Ru Ll):=by cases kk<;>first|rfl|exact absurd rfl g4
 unfold O1;simp only[BD,k1,nI,k2,a0v,CJ,g3,uw,e2,Ua,L6,a4k,abG,e3,Nat.lt_irrefl,a3T]
theorem a7R(hX:bM X P){i ty sz:Nat}{k ex:Bool}{l:List (X.Γ ty)}{Hs:List (PB X.Γ)}{Ll:List TV}{p:PV X.Γ}{tp:TV}(hi:Hs[i]? = some (.list k ex ty l))(hl:l≠[])(hc:iI (Ey X ty l)=some Ll)(hs:dD P ty=some sz)(hp:qg p=some tp):a3F X P false (.dI [.own i,p]) Hs (fun n=>.dI [.slc n 0 l.length l.length sz false,tp]) [.cells .last Ll]:=fun A m h h1 w hr hw hn=>by
 cases hw with
 |gone hi _ _=>simp[bf]at hi
 |dI a1 a2=>
  rename_i cs';obtain⟨x,r,rfl,v0,v1⟩:=bU.inv (⟨a1,a2⟩:bU X P _ _ _ _ _);obtain⟨y,r,rfl,v2,v3⟩:=v1.inv;have:=v3.inv0;subst this;have:=jL v2 hp;subst this;obtain⟨c,sz',e,kk,rfl,g1,g2,g3,g4⟩:=Y2 hX hr hi hl hc v0;rw[hs]at g1;cases g1;have qm:=hn c g2;obtain⟨e1,e2⟩:=yx hc;obtain⟨q1,q2,q3⟩:=MV hp;obtain⟨k1,k2⟩:=PO (h:=h) (h1:=h1) qm fun l=>by rw[g3];exact e1 l
  have e3:Qk false (.cells kk Ll)=.cells .last Ll:=by cases kk<;>first|rfl|exact absurd rfl g4
  unfold O1;have q4:L6 h.length (.slc h.length 0 l.length l.length sz e)=.slc h.length 0 l.length l.length sz false:=by simp only[L6,Nat.lt_irrefl,a3T]
  simp only[BD,BD.EM,q1,k1,nI,nI.yZ,q2,k2,a0v,CJ,g3,uw,e2,Ua,q3,q4,a4k,abG,e3]
theorem aaO{H:List (PB X.Γ)}{n sz:Nat}{cs:List (PV X.Γ)}{ts:List TV}(h0:Ud cs=some ts){A m h}(hr:HR X P A m H h):∃m1,HR X P A m1 (H++[.ng cs]) (h++[.ng ts])∧VR X P (AA A m1) m1 (h++[.ng ts]) (.slc H.length 0 n n sz false) (.slc h.length 0 n n sz false)∧Fr m h m1 (h++[.ng ts])∧Up m m1:=by
 obtain⟨p1,p2,p3⟩:=hr.push (pb:=.ng cs) (hb:=.ng ts) (mb:=.fU h.length) (.inl rfl) ⟨ts,by simp,h0⟩;exact⟨_,p1,.slc (by rw[<-hr.len];simp),p2,p3⟩
theorem Y3{ty sz:Nat}:∀{l:List (X.Γ ty)},(∀(j:Nat) a,l[j]? = some a->(X.enc ty a).length=sz)->(Ey X ty l).length=l.length*sz∧∀(j:Nat) a (i:Nat) c,l[j]? = some a->(X.enc ty a)[i]? = some c->(Ey X ty l)[j*sz+i]? = some c
 | [],_=>⟨by simp[Ey],by simp⟩
 |a::l,he=>by
  obtain⟨h1,h2⟩:=Y3 (l:=l) fun j b hb=>he (j+1) b (by simpa using hb);have h0:=he 0 a rfl;refine⟨by simp only[Ey,a2j,h0,h1,a4i,a3E,abB];omega,fun j b i c hb hc=>?_⟩;cases j with
  |zero=>
   simp at hb;subst hb;simp only[Ey,acQ,a4e];rw[a0j (a0c.1 hc).1];exact hc
  |succ j=>
   simp only[Ey];rw[a1c (by rw[h0,a3E];omega),h0,show(j+1)*sz+i-sz=j*sz+i by rw[a3E];omega];exact h2 j b i c (by simpa using hb) hc
theorem a3H{ty sz:Nat}{l:List (X.Γ ty)}{Ll:List TV}{A m h}(he:∀(j:Nat) a,l[j]? = some a->(X.enc ty a).length=sz)(hc:iI (Ey X ty l)=some Ll):Ll.length=l.length*sz∧eu X P A m h ty l Ll 0 sz:=by
 have hv:=FP (X:=X) (P:=P) (A:=A) (m:=m) (h:=h) hc;obtain⟨h1,h2⟩:=Y3 he;have hl:Ll.length=l.length*sz:=by rw[<-hv.1,h1]
 exact⟨hl,he,by rw[hl];omega,fun j a i c v a1 a2 a3=>hv.2 (j*sz+i) c v (h2 j a i c a1 a2) (by rw[a4e]at a3;exact a3)⟩
theorem aaP(hX:bM X P){H:List (PB X.Γ)}{ty sz:Nat}{l:List (X.Γ ty)}{Ll:List TV}{p:PV X.Γ}{tp:TV}(hl:l≠[])(hc:iI (Ey X ty l)=some Ll)(hs:dD P ty=some sz)(h0:0<sz)(he:∀(j:Nat) a,l[j]? = some a->(X.enc ty a).length=sz)(hp:qg p=some tp){A m h}(hr:HR X P A m H h) :
  ∃m1,HR X P A m1 (H++[.list false false ty l]) (h++[.cells .last Ll])∧VR X P (AA A m1) m1 (h++[.cells .last Ll]) (.dI [.own H.length,p]) (.dI [.slc h.length 0 l.length l.length sz false,tp])∧Fr m h m1 (h++[.cells .last Ll])∧Up m m1:=by
 obtain⟨p1,p2,p3⟩:=hr.push (pb:=.list false false ty l) (hb:=.cells .last Ll) (mb:=.dB (.slc h.length 0 l.length l.length sz false)) (.inl (by simp only[MB.own];rw[a0o (by simpa using hl)])) (by
  obtain⟨r1,r2⟩:=a3H (A:=AA A (m++[MB.dB (.slc h.length 0 l.length l.length sz false)])) (m:=m++[MB.dB (.slc h.length 0 l.length l.length sz false)]) (h:=h++[.cells .last Ll]) (P:=P) he hc;exact LR.some (kk:=.last) (cs:=Ll) hl hs h0 (by simp) (by simp) (by simp) (by simp) r1 r2)
 exact⟨_,p1,bU.cons (.own (by rw[<-hr.len];simp) rfl) (.cons (nS hp) .nil) |> fun h=>.dI h.1 h.2,p2,p3⟩
end
def eF:Code->Code
 |.seq a _=>a
 |.block _ b=>b
 |.loop b=>b
 |.scope b=>b
 |.cond _ a _=>a
 |c=>c
def eG:Code->Code
 |.seq _ b=>b
 |.cond _ _ b=>b
 |c=>c
def a7S:Code->Array Oper
 |.region _ o _=>o
 |_=>#[]
def Tz(P:Program)(f:Nat):FnT:=match TL P f with
 |some t=>t
 |none=>⟨0,.skip,[]⟩
def Vb(ops:Array Oper)(it nx mo:Nat):Bool:=match Ac ops with
 |some (a,b,_,o2)=>a==it&&b==nx&&(match o2.op,o2.dst,o2.guard with
  |.extract (.tmp k) 0,some d,none=>k==nx&&d==mo
  |_,_,_=>false)
 |none=>false
theorem a3I{ops:Array Oper}{it nx mo:Nat}(h:Vb ops it nx mo=true):∃o1 o2,Ac ops=some (it,nx,o1,o2)∧o2.op=.extract (.tmp nx) 0∧o2.dst=some mo∧o2.guard=none:=by
 unfold Vb at h;split at h
 .rename_i a b o1 o2 e;simp only[a2o,a6H]at h;obtain⟨⟨rfl,rfl⟩,h⟩:=h;split at h
  .rename_i k d e1 e2 e3;simp only[a2o,a6H]at h;obtain⟨rfl,rfl⟩:=h;exact⟨o1,o2,e,e1,e2,e3⟩
  cases h
 cases h
section
variable {X:kQ} {P:Program} {T:qJ} {call:aY} {cd:uZ} {fJ:eY X.Γ} {L f nt B:Nat}
theorem zL(hX:bM X P)(hO:jE X P call fJ){c:Code}{ps ps1:aS X.Γ}{an:PT X.Γ}{o:OT (Ex×aS X.Γ)}{e:Ex}(hk:jK X P T fJ (aW X P call) (dN X P T call L f false nt B) B L f false nt c ps an aez=o)(ht:Fp (fun r=>r=(e,ps1)) an o):dN X P T call L f false nt B c ps e ps1:=by
 obtain⟨y,h1,h2⟩:=ht.aK;subst h2;rw[<-hk]at h1;exact WY hX hO h1
theorem a1V{n j:Nat}{seen:List Nat}(hj:j<n)(hn:j∉seen):((List.range n).filter fun i=>!(j::seen).contains i).length<((List.range n).filter fun i=>!seen.contains i).length:=by
 have e:((List.range n).filter fun i=>!(j::seen).contains i)=((List.range n).filter fun i=>!seen.contains i).filter fun i=>!(i==j):=by
  rw[List.filter_filter];refine List.filter_congr fun i _=>?_;rw[agS];cases i==j<;>simp
 rw[e];refine List.length_filter_lt_length_iff_exists.2 ⟨j,a8J.2 ⟨a4s.2 hj,by simpa using hn⟩,by simp⟩
end
section
variable {X:kQ} {P:Program} {T:qJ} {call:aY} {cd:uZ} {L f nt B:Nat}
theorem aJ.ghost(hX:bM X P){gs:List G}{c:Code}{ps ps1:aS X.Γ}{Q:Ex->aS X.Γ->Prop}(hg:lC B gs ps=some ps1)(h:aJ X P T call cd L f nt B c ps1 Q):aJ X P T call cd L f nt B c ps Q:=fun A W fl m ts R hS hR=>by
 obtain⟨m2,q1,q2,q3⟩:=ni hX hg A W fl m ts hS;exact h A W fl m2 ts R q1 fun e iH ps1 m1 a1 a2 a3 a4=>hR e iH ps1 m1 a1 a2 (q2.trans a3) (q3.trans a4)
theorem PS(hX:bM X P){x:Code}{i0 i1 id it nx mo b r n:Nat}{ops:Array Oper}{draw:Bool}{s0:aS X.Γ}{es:List (PV X.Γ×PV X.Γ)}{Q:aS X.Γ->Prop}(I:List Nat->aS X.Γ->Prop)
  (hnx:Vb ops it nx mo=true) (hd:nx<nt) (Zx:mo<nt) (hl:es.length=n) (hL:n<L) (hI:I [] s0)
  (hinv:∀seen s,I seen s->∃gs s',lC B gs (gQ X (T.eH f (dV (.seq (.region id ops draw) (.seq (.cond (.tmp mo) .skip (.exit i0)) (.block i1 x))))) s)=some s'∧zQ s'.env (.tmp it)=some (.iter b)∧s'.heap[b]? = some (.cZ r n seen)∧Ku X s'.heap r=some es ∧
   ((∀j,j<n->j∈seen)->zQ (jd (T.iy f id) ((mo,.val (.bool false))::(nx,.val (.dI [.bool false]))::s'.env)) (.tmp mo)=some (.bool false)∧Q { s' with env:=jd (T.iy f id) ((mo,.val (.bool false))::(nx,.val (.dI [.bool false]))::s'.env) }) ∧
   ∀j e,j∉seen->es[j]? = some e->zQ (jd (T.iy f id) ((mo,.val (.bool true))::(nx,.val (.dI [.bool true,e.1,e.2]))::s'.env)) (.tmp mo)=some (.bool true) ∧
    aJ X P T call cd L f nt B x { s' with env:=jd (T.iy f id) ((mo,.val (.bool true))::(nx,.val (.dI [.bool true,e.1,e.2]))::s'.env),heap:=s'.heap.set b (.cZ r n (j::seen)) } fun e s=>(e=.norm∨e=.exit i1)∧I (j::seen) s) :
  aJ X P T call cd L f nt B (.block i0 (.loop (.seq (.region id ops draw) (.seq (.cond (.tmp mo) .skip (.exit i0)) (.block i1 x))))) s0 fun e s=>e=.norm∧Q s:=by
 obtain⟨o1,o2,hn,h2,h3,h4⟩:=a3I hnx;have skp:∀{s:aS X.Γ} {Q':Ex->aS X.Γ->Prop},Q' .norm s->aJ X P T call cd L f nt B .skip s Q':=fun{s Q'} hq=>by
  intro A W fl m ts R hS hR;simp only[fF];exact⟨_,_,rfl,hR _ _ s m hq hS .refl Up.refl.b⟩
 have ext:∀{i:Nat} {s:aS X.Γ} {Q':Ex->aS X.Γ->Prop},Q' (.exit i) s->aJ X P T call cd L f nt B (.exit i) s Q':=fun{i s Q'} hq=>by
  intro A W fl m ts R hS hR;simp only[fF];exact⟨_,_,rfl,hR _ _ s m hq hS .refl Up.refl.b⟩
 refine aJ.block ?_;refine aJ.loop (fun k s=>∃seen,I seen s∧k=((List.range n).filter fun i=>!seen.contains i).length) (fun k s hi=>?_) (k:=n) ⟨[],hI,by rw[show((List.range n).filter fun i=>!([]:List Nat).contains i)=List.range n from List.filter_eq_self.2 fun a _=>rfl,a8I]⟩ hL;obtain⟨seen,hi,rfl⟩:=hi;obtain⟨gs,s',e1,e2,e3,e4,e5,e6⟩:=hinv seen s hi;refine aJ.ghost hX e1 ?_;refine aJ.seq (R:=fun e s=>e=.norm∧(((∀j,j<n->j∈seen)∧s={ s' with env:=jd (T.iy f id) ((mo,.val (.bool false))::(nx,.val (.dI [.bool false]))::s'.env) })∨∃j e,j∉seen∧es[j]? = some e∧s={ s' with env:=jd (T.iy f id) ((mo,.val (.bool true))::(nx,.val (.dI [.bool true,e.1,e.2]))::s'.env),heap:=s'.heap.set b (.cZ r n (j::seen)) })) ?_ (fun s hs=>?_) (fun i s h=>by cases h.1) (fun s h=>by cases h.1)
 .exact aJ.next hn hd Zx h2 h3 h4 e2 e3 e4 hl (fun ho=>⟨rfl,.inl ⟨ho,rfl⟩⟩) (fun j e hj he=>⟨rfl,.inr ⟨j,e,hj,he,rfl⟩⟩)
 .obtain⟨_,⟨h5,rfl⟩|⟨j,e,hj,he,rfl⟩⟩:=hs
  .obtain⟨m1,q1⟩:=e5 h5;refine aJ.seq (R:=fun e s=>e=.exit i0∧s={ s' with env:=jd (T.iy f id) ((mo,.val (.bool false))::(nx,.val (.dI [.bool false]))::s'.env) }) (aJ.cond (t:=false) m1 (ext ⟨rfl,rfl⟩)) (fun s h=>by cases h.1) (fun i s h=>?_) (fun s h=>by cases h.1);obtain⟨h7,rfl⟩:=h;cases h7;dsimp only;rw[a0p rfl];exact⟨rfl,q1⟩
  .obtain⟨m2,hx⟩:=e6 j e hj he;have hjn:j<n:=by rw[<-hl];exact(a0c.1 he).1
   refine aJ.seq (R:=fun e1 s=>e1=.norm∧s={ s' with env:=jd (T.iy f id) ((mo,.val (.bool true))::(nx,.val (.dI [.bool true,e.1,e.2]))::s'.env),heap:=s'.heap.set b (.cZ r n (j::seen)) }) (aJ.cond (t:=true) m2 (skp ⟨rfl,rfl⟩)) (fun s h=>?_) (fun i s h=>by cases h.1) (fun s h=>by cases h.1);obtain⟨_,rfl⟩:=h;refine aJ.block ?_;refine hx.mono fun e s h=>?_;obtain⟨h1|h1,h2⟩:=h
   .subst h1;exact⟨_,a1V hjn hj,j::seen,h2,rfl⟩
   .subst h1;dsimp only;rw[a0p rfl];exact⟨_,a1V hjn hj,j::seen,h2,rfl⟩
theorem Vd(hX:bM X P){x:Code}{i0 i1 id it nx mo b r n:Nat}{ops:Array Oper}{draw:Bool}{s0:aS X.Γ}{es:List (PV X.Γ×PV X.Γ)}{Q:aS X.Γ->Prop}(I:List Nat->aS X.Γ->Prop)
  (hnx:Vb ops it nx mo=true) (hd:nx<nt) (Zx:mo<nt) (hl:es.length=n) (hL:n<L) (hI:I [] s0)
  (hinv:∀seen s,I seen s->∃s',gQ X (T.eH f (dV (.seq (.region id ops draw) (.seq (.cond (.tmp mo) .skip (.exit i0)) (.block i1 x))))) s=s'∧zQ s'.env (.tmp it)=some (.iter b)∧s'.heap[b]? = some (.cZ r n seen)∧Ku X s'.heap r=some es ∧
   ((∀j,j<n->j∈seen)->zQ (jd (T.iy f id) ((mo,.val (.bool false))::(nx,.val (.dI [.bool false]))::s'.env)) (.tmp mo)=some (.bool false)∧Q { s' with env:=jd (T.iy f id) ((mo,.val (.bool false))::(nx,.val (.dI [.bool false]))::s'.env) }) ∧
   ∀j e,j∉seen->es[j]? = some e->zQ (jd (T.iy f id) ((mo,.val (.bool true))::(nx,.val (.dI [.bool true,e.1,e.2]))::s'.env)) (.tmp mo)=some (.bool true) ∧
    aJ X P T call cd L f nt B x { s' with env:=jd (T.iy f id) ((mo,.val (.bool true))::(nx,.val (.dI [.bool true,e.1,e.2]))::s'.env),heap:=s'.heap.set b (.cZ r n (j::seen)) } fun e s=>(e=.norm∨e=.exit i1)∧I (j::seen) s) :
  aJ X P T call cd L f nt B (.block i0 (.loop (.seq (.region id ops draw) (.seq (.cond (.tmp mo) .skip (.exit i0)) (.block i1 x))))) s0 fun e s=>e=.norm∧Q s:=
 PS hX I hnx hd Zx hl hL hI fun seen s hi=>let ⟨s',e1,h⟩:=hinv seen s hi;⟨[],s',congrArg some e1,h⟩
end
end Pv
namespace Go.Proofs.YtmobpoiejckagaaGreat
open Go Tw Pv dh
theorem akt(x:V):Instr.sameBits 10000 (kV.v x) (kV.v x)=true:=by
 show Instr.sameBits 10000 (.agg #[.int .u8 x.f,.int .i64 x.n]) (.agg #[.int .u8 x.f,.int .i64 x.n])=true;simp[Instr.sameBits]
theorem a7T(x:S3):Instr.sameBits 10000 (kS.v x) (kS.v x)=true:=by
 show Instr.sameBits 10000 (.agg #[.int .i64 x.a,.int .i64 x.b,.int .i64 x.c]) (.agg #[.int .i64 x.a,.int .i64 x.b,.int .i64 x.c])=true;simp[Instr.sameBits]
abbrev jY:V:=⟨0,1⟩
def aku:eY aF:=bZ 79 (a1 vsA) vA (fun p=>p.getD 0 V0) (fun p=>[0<p.length]) Ia
theorem apz:Gd aku:=XO.add fun n hO p hp=>aN hO (.o (aH (hp _ (.head _))) .rr)
def akv:eY aF:=bZ 89 aeC vA (fun p=>jY) np aku
theorem apA:Gd akv:=apz.add fun n hO p hp=>aN hO .rr
def a7U:eY aF:=bZ 169 (a1 vA) tA (fun p=>decide (p=jY)) np akv
theorem akw:Gd a7U:=apA.add fun n hO p hp=>aN hO (.q (.bool (decide (p=jY))) (eqV (.tmp 3) (.tmp 4) p jY) .rr)
def qw(l:List V):Bool:=l.all fun v=>decide (v=jY)
def og(l:List V):V:=if qw l=true then jY else V0
theorem apB{n:Nat}(hO:Ok n a7U)(l:List V)(hl:l.length<=ah):aW X0 Qp (bQ (n+4)) (.fn 168 [] []) [.fn 169 [] [],lV l] [] (tA.put (qw l)) []:=by
 have hs:∀v:V,aW X0 Qp (bQ n) (.fn 169 [] []) [.agg v.ps] [] (tA.put (decide (v=jY))) []:=fun v=>oq.ZW hX (first:=[]) (cap:=[]) (hO 169 [.agg v.ps] (tA.put (decide (v=jY))) [] [] (by kernel_rfl) (fun p h=>by cases h)) rfl rfl rfl rfl;have h1:∀v:V,aW X0 Qp (bQ (n+1)) (.fn 201 [] [.ptr 0 0 1]) [.agg v.ps] [.cells [.fn 169 [] []]] (tA.put (!(decide (v=jY)))) [.cells [.fn 169 [] []]]:=fun v=>
  jk fV (first:=[]) (.fr [] (hs v) .sr)
 have h2:=aeU (n:=n+2) (by omega) (f:=201) (a:=[]) (c:=[.ptr 0 0 1]) (H:=[.cells [.fn 169 [] []]]) (g:=fun v=>!(decide (v=jY))) h1 l hl;rw[Jc]at h2;unfold qw;rw[<-Eh l fun v=>decide (v=jY)];exact aW.drop hX (D5 hX fV (first:=[]) (cap:=[]) (H1:=[.cells [.fn 169 [] []]]) (by kernel_rfl) (.k h2 .sr)) rfl rfl
def qI:eY aF:=bZ 117 (a1 vsA) vA og (fun l=>[l.length<=ah]) a7U
theorem KO:Gd qI:=akw.deep 4 fun n hn hO l hp=>by
 have hs:=apB (n:=n-4) (hO (n-4) (by omega)) l (hp _ (.head _));rw[show n-4+4=n by omega]at hs;show oq X0 Qp _ _ _ (vA.put (og l)) _;unfold og;exact aN (hO n (by omega)) (.fr [] hs (.ss .rr .rr))
abbrev Y4:Code:=(Tz Qp 87).body
abbrev Qz:Code:=(Tz Qp 136).body
abbrev a7V(J:Jb)(f:Nat):List (Nat×PE aF):=[(2,.val (.nil .map)),(3,.val (.ptr 2 0 1)),(8,.val (.fn 136 [.agg (J.ps (.fn f [] []))] []))]
abbrev LRC(J:Jb)(f:Nat)(rd:Bool)(jH:Option Code):PB aF:=.loop rd 87 (BM Qp 87) (a7V J f) [9,10] (wZ Qp 87) (AB Qp 87) jH
abbrev HQc(J:Jb)(f:Nat)(t:List (V×Int)):List (PB aF):=[.cells (J.ps (.fn f [] [])),.map (kV.im t),.cells [.map 1]]
abbrev QA(J:Jb)(f:Nat)(rd:Bool)(jH:Option Code)(t:List (V×Int)):List (PB aF):=HQc J f t++[.mark,LRC J f rd jH]
theorem a7W(l:List V):decide (og l=jY)=qw l:=by
 unfold og;cases qw l<;>decide
def yT(l:List V)(w:Int)(t:List (V×Int)):List (V×Int):=if qw (l.drop 1)=true then rX t (l.getD 0 V0) w else t
structure Tal(t:List (V×Int)):Prop where
 nd:(t.map (·.1)).Nodup
 pos:∀e∈t,0<e.2
 bnd:∀e∈t,e.2<=2000
theorem apD{n:Nat}(hO:Ok n qI)(J:Jb)(f:Nat){t:List (V×Int)}(ht:Tal t)(l:List V){w:Int}(h0:0<l.length)(hl:l.length<=ah)(hw:0<w∧w<=2000):aW X0 Qp (bQ (n+1)) (.kP 4) [lV l,.int .i64 w] (QA J f true none t) (.bool true) (QA J f true none (yT l w t)):=by
 have q1:dN X0 Qp T (bQ n) LL 87 true (BM Qp 87) 5 (wZ Qp 87) ⟨ug (a7V J f) [9,10] [lV l,.int .i64 w],[],QA J f true none t⟩ .norm ⟨[(3,.val (.ptr 2 0 1)),(4,.val (lV l)),(5,.val (.int .i64 w))],[],QA J f true none t⟩:=yt hX hO (by kernel_rfl) .xx;have i0:gq 0 l.length:=aH h0;have a1:(1:Int)<=l.length:=by omega
 have e1:(l.take l.length)=l:=adb;have c1:decide (og ((l.take ((l.length:Int).toNat)).drop (1:Int).toNat)=jY)=qw (l.drop 1):=by
  rw[a7W];simp
 have a2:((l.take ((l.length:Int).toNat)).drop (1:Int).toNat).length<=ah:=by simp;omega
 have ev:=eqV (.tmp 13) (.tmp 14) (og ((l.take ((l.length:Int).toNat)).drop (1:Int).toNat)) jY;have z01:(0:Int)<=1:=by decide
 have z02:(l.length:Int)<=(l.length:Int):=a9s _;unfold yT;cases hc:qw (l.drop 1)
 .rw[hc]at c1;rw[a0o (by simp)];have q2:dN X0 Qp T (bQ n) LL 87 true (BM Qp 87) 5 (AB Qp 87) ⟨[(3,.val (.ptr 2 0 1)),(4,.val (lV l)),(5,.val (.int .i64 w))],[],QA J f false none t⟩ .norm ⟨[(3,.val (.ptr 2 0 1)),(4,.val (lV l)),(5,.val (.int .i64 w)),(15,xl false)],[],QA J f false none t⟩:=
   yt hX hO (by kernel_rfl) (.o z01 (.o a1 (.o z02 (.o a2 (.q (.bool (decide (og ((l.take ((l.length:Int).toNat)).drop (1:Int).toNat)=jY))) ev (.b c1 .xx))))))
  exact Ht hX (l:=4) rfl rfl (by kernel_rfl) q1 rfl q2 rfl
 rw[hc]at c1;rw[a0p rfl];by_cases hk:l.getD 0 V0∈t.map (·.1)
 .obtain⟨j,old,g1,g2,g3,g4⟩:=kV.V7 (akt _) ht.nd hk (n:=w) fun e he=>fG (by have:=ht.pos e he;omega) (by have:=ht.bnd e he;omega);have q2:dN X0 Qp T (bQ n) LL 87 true (BM Qp 87) 5 (AB Qp 87) ⟨[(3,.val (.ptr 2 0 1)),(4,.val (lV l)),(5,.val (.int .i64 w))],[],QA J f false none t⟩ .norm ⟨[],[],[.cells (J.ps (.fn f [] [])),.map (J3 (kV.im t) j (.int .i64 (i64.wrap (old+w)))),.cells [.map 1],.mark,LRC J f false none]⟩:=
   yt hX hO (by kernel_rfl) (.o z01 (.o a1 (.o z02 (.o a2 (.q (.bool (decide (og ((l.take ((l.length:Int).toNat)).drop (1:Int).toNat)=jY))) ev (.b c1 (.o i0 (.c (.int .i64 old) [] g1 (.a (.call (.int .i64 old) []) (.a (.ix j) (.o g2 (.o g3 .xx))))))))))))
  rw[g4]at q2;exact Ht hX (l:=4) rfl rfl (by kernel_rfl) q1 rfl q2 rfl
 obtain⟨g1,g2,g3,g4⟩:=kV.V8 hk (n:=w) (by rw[Int.zero_add];exact fG (by omega) (by omega));have q2:dN X0 Qp T (bQ n) LL 87 true (BM Qp 87) 5 (AB Qp 87) ⟨[(3,.val (.ptr 2 0 1)),(4,.val (lV l)),(5,.val (.int .i64 w))],[],QA J f false none t⟩ .norm ⟨[],[],[.cells (J.ps (.fn f [] [])),.map (J3 (kV.im t++[(.agg (l.getD 0 V0).ps,.int .i64 0)]) (kV.im t).length (.int .i64 (i64.wrap (0+w)))),.cells [.map 1],.mark,LRC J f false none]⟩:=
  yt hX hO (by kernel_rfl) (.o z01 (.o a1 (.o z02 (.o a2 (.q (.bool (decide (og ((l.take ((l.length:Int).toNat)).drop (1:Int).toNat)=jY))) ev (.b c1 (.o i0 (.q (.bool false) g1 (.a .calm (.o (kV.ck (l.getD 0 V0)) (.o g1 (.o g2 (.o g3 .xx)))))))))))))
 have g4:J3 (kV.im t++[(.agg (l.getD 0 V0).ps,.int .i64 0)]) (kV.im t).length (.int .i64 (i64.wrap (0+w)))=kV.im (rX t (l.getD 0 V0) w):=g4;rw[g4]at q2;exact Ht hX (l:=4) rfl rfl (by kernel_rfl) q1 rfl q2 rfl
open Go Tw Pv dh
abbrev HN(J:Jb)(f:Nat)(t:List (V×Int))(now:List (S3×Int)):List (PB aF):=QA J f true none t++[.map (kS.im now)]
abbrev bLB:Code:=eF (eF (eG (eF (eG (eG Qz)))))
abbrev bB1:Code:=eF (eF (eG (eG bLB)))
abbrev bIB:Code:=eF (eF (eG (eF (eG (eG bB1)))))
abbrev bX:Code:=eF (eG (eG bIB))
abbrev bL2:Code:=eF (eF (eG (eG (eG (eG Qz)))))
abbrev bX2:Code:=eF (eG (eG bL2))
abbrev a3J(J:Jb)(c:Int)(a:Int):List (Nat×PE aF):=[(1,.val (.kP 4)),(2,.loc 0 0),(6,xi c),(7,.val (.map 6)),(21,xL 3 J.o),(22,xi J.o.length),(23,xi a),(29,.val (.iter 7))]
abbrev HI(J:Jb)(f:Nat)(t:List (V×Int))(now next:List (S3×Int))(seen:List Nat):List (PB aF):=HN J f t now++[.map (kS.im next),.cZ 5 now.length seen]
structure NI(J:Jb)(a:Nat)(m:List (S3×Int)):Prop where
 nd:(m.map (·.1)).Nodup
 pos:∀e∈m,0<e.2
 dp:∀e∈m,Dp J a e.1
theorem NI.add{J:Jb}{a:Nat}{m:List (S3×Int)}(h:NI J a m){s:S3}{n:Int}(hs:Dp J a s)(hn:0<n):NI J a (rX m s n):=
 ⟨FZ h.nd s n,PK hn h.pos,fun e he=>by
  rcases a7F he with e1|⟨e',h1,h2⟩
  .rw[e1];exact hs
  .rw[<-h2];exact h.dp e' h1⟩
theorem AY{κ:Type}[DecidableEq κ](q:Int):∀m:List (κ×Int),dG (fun _=>q) m=dG (fun _=>1) m*q
 | []=>by simp[dG]
 |e::m=>by simp only[dG,AY q m,agQ,acI]
theorem Ij{κ:Type}[DecidableEq κ]:∀{m:List (κ×Int)},(∀e∈m,0<e.2)->0<=dG (fun _=>1) m∧∀e∈m,e.2<=dG (fun _=>1) m
 | [],_=>⟨a9s _,fun e he=>by cases he⟩
 |x::m,h=>by
  obtain⟨h1,h2⟩:=Ij (m:=m) fun e he=>h e (by simp[he]);have h0:=h x (by simp);simp only[dG,acI];refine⟨by omega,fun e he=>?_⟩;rcases a2y.1 he with rfl|he
  .omega
  have:=h2 e he;omega
theorem a7Y{κ:Type}[DecidableEq κ]{m:List (κ×Int)}{q:Nat}(hp:∀e∈m,0<e.2)(hq:1<=q)(hs:dG (fun _=>(q:Int)) m<=2000):∀e∈m,e.2<=2000:=fun e he=>by
 obtain⟨h1,h2⟩:=Ij hp;rw[AY]at hs;have h3:=h2 e he;have:dG (fun _=>1) m<=dG (fun _=>1) m*(q:Int):=by
  have:=a8O (show(1:Int)<=q by omega) h1;omega
 omega
theorem Y5{J:Jb}(r:List Int)(m:List (S3×Int)):dG (xK J (fun _=>1) r) m=dG (fun _=>(zS J r:Int)) m:=by
 induction m with
 |nil=>rfl
 |cons e m ih=>simp only[dG,ih,Eo]
theorem Et{J:Jb}{a:Nat}{r:List Int}{m:List (S3×Int)}(h:NI J a m)(hq:1<=zS J r){s:S3}{n b:Int}(hn:0<n)(hs:dG (fun _=>(zS J r:Int)) m+n*(zS J r:Int)<=b)(hb:b<=2000):n<=2000∧(∀e∈m,e.2<=2000)∧∀e∈m,i64.wrap (e.2+n)=e.2+n:=by
 obtain⟨h1,h2⟩:=Ij h.pos;have h3:0<=dG (fun _=>(zS J r:Int)) m:=by rw[AY];exact ag0 h1 (by omega)
 have h4:n<=n*(zS J r:Int):=by
  have:=a8O (show(1:Int)<=zS J r by omega) (show 0<=n by omega);omega
 have h5:0<=n*(zS J r:Int):=by omega
 have h6:=a7Y h.pos hq (show dG (fun _=>(zS J r:Int)) m<=2000 by omega);refine⟨by omega,h6,fun e he=>?_⟩;have:=h6 e he;have:=h.pos e he;exact fG (by omega) (by omega)
theorem a1W{now:List (S3×Int)}{j:Nat}{st:S3}{w:Int}(h:now[j]? = some (st,w)):(kS.im now).length=now.length∧(kS.im now)[j]? = some (.agg st.ps,.int .i64 w):=by
 refine⟨kS.pJ now,?_⟩;rw[kS.AX,h];rfl
section
variable {n:Nat} {J:Jb} (hJ:jG J) {f:Nat} (t:List (V×Int)) (now:List (S3×Int)) (seen:List Nat) {a:Nat} {c:Int} {r:List Int} {st:S3} {w:Int} {j:Nat}
abbrev sX(J:Jb)(f:Nat)(t:List (V×Int))(now next:List (S3×Int))(c:Int)(a:Int)(st:S3)(w:Int)(js:List Nat):aS aF:=⟨jd (T.iy 136 7) ((31,.val (.bool true))::(30,.val (.dI [.bool true,.agg st.ps,.int .i64 w]))::a3J J c a),[J.ps (.fn f [] [])],HI J f t now next js⟩
abbrev sZ(J:Jb)(f:Nat)(t:List (V×Int))(now next:List (S3×Int))(c:Int)(a:Int)(st:S3)(js:List Nat):aS aF:=⟨a3J J c a,[J.ps (.fn f [] []),st.ps],HI J f t now next js⟩
abbrev wDi(J:Jb)(f:Nat)(t:List (V×Int))(now:List (S3×Int))(c:Int)(a:Int)(st:S3)(w:Int)(js:List Nat)(next:List (S3×Int))(i:Int)(x:List (Nat×PE aF)):aS aF:=⟨[(1,.val (.kP 4)),(2,.loc 0 0),(6,xi c),(7,.val (.map 6)),(8,.loc 1 0),(9,xi w),(21,xL 3 J.o),(22,xi J.o.length),(23,xi a),(29,.val (.iter 7)),(75,xi (J.s.getD c.toNat 0)),(76,xi i)]++x,[J.ps (.fn f [] []),st.ps],HI J f t now next js⟩
include hJ
theorem lDi(hr:J.o.drop a=c::r)(hd:Dp J a st)(hw:0<w){next:List (S3×Int)}(hN:NI J (a+1) next)(hg:¬decide (J.g.getD c.toNat 0>=0)=true)(hb:dG (fun _=>(zS J r:Int)) next+w*(zS J (c::r):Int)<=2000)(js:List Nat) :
  ∃next',NI J (a+1) next'∧(∀ψ,dG (xK J ψ r) next'=dG (xK J ψ r) next+w*xK J ψ (c::r) st) ∧
   OU (n+1) 136 2 5 (wDi J f t now c a st w js next 0 []) (.exit 5) (wDi J f t now c a st w js next' ((J.s.getD c.toNat 0).toNat:Nat) [(77,xl false)]):=by
 obtain⟨aQ,hoc,wJ,FQ,hci,qA⟩:=jG.at_ hJ hr;have hz:=hJ.bY.sz _ (dn (s:=J.s) (k:=c.toNat) (by have:=qA.1;have:=qA.2;omega));have hri:∀c'∈r,gq c' J.s.length:=fun c' h=>(jG.o2 hJ).2.2 c' (by rw[<-wJ]at h;exact a5Q h);have hq:=(Jz hJ hri).1;have qm:(zS J (c::r):Int)=((J.s.getD c.toNat 0).toNat:Int)*(zS J r:Int):=by
  have:(AU J c).length=(J.s.getD c.toNat 0).toNat:=by unfold AU;rw[a0o hg];simp
  rw[zS,this,adY]
 let g:Nat->List (S3×Int)->List (S3×Int):=fun k y=>rX y (bJ J.D st c k) w
 have inv:=dF (g:=g) (m:=(J.s.getD c.toNat 0).toNat) (k:=0) (s:=next) (fun k y=>NI J (a+1) y∧∀ψ,dG (xK J ψ r) y=dG (xK J ψ r) next+w*dW (fun(j:Nat)=>xK J ψ r (bJ J.D st c j)) (List.range k)) ⟨hN,fun ψ=>by simp[dW]⟩ (fun k y _ hk hy=>by
  obtain⟨h1,h2⟩:=hy;refine⟨h1.add (mZ hJ hr hd ⟨by omega,by omega⟩) hw,fun ψ=>?_⟩;show dG (xK J ψ r) (rX y _ w)=_;rw[zH,h2 ψ,adx,Ii,Int.mul_add];simp only[dW,Int.add_zero];omega)
 rw[a4e]at inv;refine⟨_,inv.1,fun ψ=>by rw[inv.2 ψ,aaF hg],?_⟩;have bound:∀k y,k<(J.s.getD c.toNat 0).toNat->(∀ψ,dG (xK J ψ r) y=dG (xK J ψ r) next+w*dW (fun(j:Nat)=>xK J ψ r (bJ J.D st c j)) (List.range k))->dG (fun _=>(zS J r:Int)) y+w*(zS J r:Int)<=2000:=fun k y hk hy=>by
  have h1:=hy fun _=>1;rw[Y5,Y5,qB (φ':=fun _=>(zS J r:Int)) (fun _ _=>Eo r _),AV,a8I]at h1;rw[h1];rw[qm]at hb;have h2:((k:Int)+1)*(zS J r:Int)<=((J.s.getD c.toNat 0).toNat:Int)*(zS J r:Int):=aaI (by omega) (by omega);have h3:=a8O h2 (show 0<=w by omega);rw[agQ,Int.mul_add,Int.one_mul]at h3;omega
 refine yu (σ:=List (S3×Int)) (N:=(J.s.getD c.toNat 0).toNat) (g:=g) (s0:=next) (st:=fun i y=>wDi J f t now c a st w js y i []) (fin:=fun y=>wDi J f t now c a st w js y (((J.s.getD c.toNat 0).toNat:Nat):Int) [(77,xl false)]) (fun k y=>NI J (a+1) y∧∀ψ,dG (xK J ψ r) y=dG (xK J ψ r) next+w*dW (fun(j:Nat)=>xK J ψ r (bJ J.D st c j)) (List.range k)) (by kernel_rfl) (by unfold ah;omega) ⟨hN,fun ψ=>by simp[dW]⟩ (fun k y hk hy=>?_) (fun k y hk hy m e p g9=>?_) (fun y _=>?_)
 .obtain⟨h1,h2⟩:=hy;refine⟨h1.add (mZ hJ hr hd ⟨by omega,by omega⟩) hw,fun ψ=>?_⟩;show dG (xK J ψ r) (rX y _ w)=_;rw[zH,h2 ψ,adx,Ii,Int.mul_add];simp only[dW,Int.add_zero];omega
 .obtain⟨h1,h2⟩:=hy;obtain⟨b1,b2,b3⟩:=Et h1 hq (s:=bJ J.D st c k) hw (bound k y hk h2) (a9s _);have t1:decide ((k:Int)<J.s.getD c.toNat 0)=true:=by rw[a1Q];omega
  have ha:=Jq (M:=n) (f:=f) (a:=[]) (cc:=[]) (H:=[]) J st c k hJ.d3 fun i hi=>Js hJ hd ⟨by omega,by omega⟩ hi;have g9:dJ X0 Qp T (bQ (n+1)) LL 136 false _ 5 _ m (wDi J f t now c a st w js (rX y (bJ J.D st c k) w) _ []) e p:=g9;by_cases hk:bJ J.D st c k∈y.map (·.1)
  .obtain⟨jj,old,g1,g2,g3,g4⟩:=kS.V7 (a7T _) h1.nd hk (n:=w) b3;unfold wDi HI at g9;rw[<-g4]at g9;exact aO fV (.b t1 (.fr [] ha (.c (.int .i64 old) [] g1 (.a (.call (.int .i64 old) []) (.a (.ix jj) (.o g2 (.o g3 (.go g9))))))))
  .obtain⟨g1,g2,g3,g4⟩:=kS.V8 hk (n:=w) (by rw[Int.zero_add];exact fG (by omega) (by omega));unfold wDi HI at g9;rw[<-g4]at g9;exact aO fV (.b t1 (.fr [] ha (.q (.bool false) g1 (.a .calm (.o (kS.ck (bJ J.D st c k)) (.o g1 (.o g2 (.o g3 (.go g9)))))))))
 .have t1:decide ((((J.s.getD c.toNat 0).toNat:Nat):Int)<J.s.getD c.toNat 0)=false:=by rw[a3g];omega
  exact aO fV (.b t1 .ex)
end
open Go Tw Pv dh
abbrev sH(J:Jb)(f:Nat)(t:List (V×Int))(now next:List (S3×Int))(c:Int)(a:Int)(js:List Nat):aS aF:=⟨a3J J c a,[J.ps (.fn f [] [])],HI J f t now next js⟩
section
variable {n:Nat} {J:Jb} (hJ:jG J) {f:Nat} (t:List (V×Int)) (now:List (S3×Int)) (seen:List Nat) {a:Nat} {c:Int} {r:List Int} {st:S3} {w:Int} {j:Nat}
include hJ
theorem akx(hr:J.o.drop a=c::r)(hd:Dp J a st)(hw:0<w){next:List (S3×Int)}(hN:NI J (a+1) next)(hj:now[j]? = some (st,w))(hb:dG (fun _=>(zS J r:Int)) next+w*(zS J (c::r):Int)<=2000) :
  ∃next' e s',NI J (a+1) next'∧(∀ψ,dG (xK J ψ r) next'=dG (xK J ψ r) next+w*xK J ψ (c::r) st)∧(e=.norm∨e=.exit 3) ∧
   dN X0 Qp T (bQ (n+1)) LL 136 false (BM Qp 136) 5 bX (sX J f t now next c a st w (j::seen)) e s' ∧
   gQ X0 (T.eH 136 (dV bIB)) s'=sH J f t now next' c a (j::seen):=by
 obtain⟨aQ,hoc,wJ,FQ,hci,qA⟩:=jG.at_ hJ hr;have hz:=hJ.bY.sz _ (dn (s:=J.s) (k:=c.toNat) (by have:=qA.1;have:=qA.2;omega));have hri:∀c'∈r,gq c' J.s.length:=fun c' h=>(jG.o2 hJ).2.2 c' (by rw[<-wJ]at h;exact a5Q h);have hq:=(Jz hJ hri).1;have hcG:gq c J.g.length:=by rw[hJ.gl];exact qA
 have ho:=a1W hj;by_cases hg:decide (J.g.getD c.toNat 0>=0)=true
 .have hl1:(zS J (c::r):Int)=zS J r:=by rw[zS,AU,a0p hg];simp
  rw[hl1]at hb;have hgv:0<=J.g.getD c.toNat 0:=by simpa using hg
  have Zx:=mZ hJ hr hd ⟨hgv,hJ.gv c qA hgv⟩;obtain⟨b1,b2,b3⟩:=Et hN hq (s:=st) hw hb (a9s _);have ha:=Jq (M:=n) (f:=f) (a:=[]) (cc:=[]) (H:=[]) J st c (J.g.getD c.toNat 0) hJ.d3 fun i hi=>Js hJ hd ⟨hgv,hJ.gv c qA hgv⟩ hi;refine⟨rX next (bJ J.D st c (J.g.getD c.toNat 0)) w,.exit 3,sZ J f t now (rX next (bJ J.D st c (J.g.getD c.toNat 0)) w) c a st (j::seen),hN.add Zx hw,fun ψ=>by rw[zH,a3C hg],.inr rfl,?_,by kernel_rfl⟩;unfold sZ HI;by_cases hk:bJ J.D st c (J.g.getD c.toNat 0)∈next.map (·.1)
  .obtain⟨jj,old,g1,g2,g3,g4⟩:=kS.V7 (a7T _) hN.nd hk (n:=w) b3;rw[<-g4];exact zL hX fV (by kernel_rfl) (.c (.dI [.agg st.ps,.int .i64 w]) [] ho (.o qA (.o hcG (.b hg (.fr [] ha (.c (.int .i64 old) [] g1 (.a (.call (.int .i64 old) []) (.a (.ix jj) (.o g2 (.o g3 (.r rfl)))))))))))
  .obtain⟨g1,g2,g3,g4⟩:=kS.V8 hk (n:=w) (by rw[Int.zero_add];exact fG (by omega) (by omega));rw[<-g4];exact zL hX fV (by kernel_rfl) (.c (.dI [.agg st.ps,.int .i64 w]) [] ho (.o qA (.o hcG (.b hg (.fr [] ha (.q (.bool false) g1 (.a .calm (.o (kS.ck (bJ J.D st c (J.g.getD c.toNat 0))) (.o g1 (.o g2 (.o g3 (.r rfl))))))))))))
 have hg':decide (J.g.getD c.toNat 0>=0)=false:=by simpa using hg
 have uX:((J.s.getD c.toNat 0).toNat:Int)=J.s.getD c.toNat 0:=by omega
 have qm:(zS J (c::r):Int)=J.s.getD c.toNat 0*(zS J r:Int):=by
  have:(AU J c).length=(J.s.getD c.toNat 0).toNat:=by unfold AU;rw[a0o hg];simp
  rw[zS,this,adY,uX]
 have hs:=a7z (M:=n) (f:=f) (a:=[]) (cc:=[]) (H:=[]) J st c hJ.d3 (fun k hk h=>⟨by simpa using h,(hd k hk).1.1⟩);cases AP:jP J.D st c
 .rw[AP]at hs;have Zx:=UY hJ hr hd AP;have hm:0<w*J.s.getD c.toNat 0:=Int.mul_pos hw (by omega);rw[qm,<-Int.mul_assoc]at hb;obtain⟨b1,b2,b3⟩:=Et hN hq (s:=st) hm hb (a9s _);have hwm:i64.wrap (w*J.s.getD c.toNat 0)=w*J.s.getD c.toNat 0:=fG (by omega) (by omega);refine⟨rX next st (w*J.s.getD c.toNat 0),.exit 3,sZ J f t now (rX next st (w*J.s.getD c.toNat 0)) c a st (j::seen),hN.add Zx hm,fun ψ=>by rw[zH,afA hg AP,uX,Int.mul_assoc],.inr rfl,?_,by kernel_rfl⟩;unfold sZ HI;by_cases hk:st∈next.map (·.1)
  .obtain⟨jj,old,g1,g2,g3,g4⟩:=kS.V7 (a7T _) hN.nd hk (n:=w*J.s.getD c.toNat 0) b3;rw[<-g4,<-hwm];exact zL hX fV (by kernel_rfl) (.c (.dI [.agg st.ps,.int .i64 w]) [] ho (.o qA (.o hcG (.b hg' (.fr [] hs (.b (rfl:(!false)=true) (.c (.int .i64 old) [] g1 (.a (.call (.int .i64 old) []) (.a (.ix jj) (.o g2 (.o g3 (.r rfl))))))))))))
  .obtain⟨g1,g2,g3,g4⟩:=kS.V8 hk (n:=w*J.s.getD c.toNat 0) (by rw[Int.zero_add];exact hwm);rw[<-g4,<-hwm];exact zL hX fV (by kernel_rfl) (.c (.dI [.agg st.ps,.int .i64 w]) [] ho (.o qA (.o hcG (.b hg' (.fr [] hs (.b (rfl:(!false)=true) (.q (.bool false) g1 (.a .calm (.o (kS.ck st) (.o g1 (.o g2 (.o g3 (.r rfl)))))))))))))
 .rw[AP]at hs;obtain⟨next',h1,h2,h3⟩:=lDi (n:=n) hJ (f:=f) t now hr hd hw hN hg hb (j::seen);refine⟨next',.norm,_,h1,h2,.inl rfl,zL (ps1:=wDi J f t now c a st w (j::seen) next' ((J.s.getD c.toNat 0).toNat:Nat) [(77,xl false)]) hX fV (by kernel_rfl) (.c (.dI [.agg st.ps,.int .i64 w]) [] ho (.o qA (.o hcG (.b hg' (.fr [] hs (.b (rfl:(!true)=false) (.w h3 (.r rfl)))))))),by kernel_rfl⟩
end
end Go.Proofs.YtmobpoiejckagaaGreat
namespace Pv
open Go Tw
section
variable {X:kQ} {P:Program} {T:qJ} {call:aY} {cd:uZ} {L f nt B:Nat}
theorem aJ.AZ{a b:Code}{ps s1:aS X.Γ}{Q:Ex->aS X.Γ->Prop}(hn:o9 a=true)(ha:dN X P T call L f false nt B a ps .norm s1)(hb:aJ X P T call cd L f nt B b s1 Q):aJ X P T call cd L f nt B (.seq a b) ps Q:=
 aJ.seq (R:=fun e s=>e=.norm∧s=s1) (dN.dem hn ha ⟨rfl,rfl⟩) (fun s h=>by obtain⟨_,rfl⟩:=h;exact hb) (fun i s h=>by cases h.1) (fun s h=>by cases h.1)
theorem aJ.step{c:Code}{ps:aS X.Γ}{e:Ex}{ps1:aS X.Γ}{Q:Ex->aS X.Γ->Prop}(hn:o9 c=true)(ha:dN X P T call L f false nt B c ps e ps1)(hq:Q e ps1):aJ X P T call cd L f nt B c ps Q:=dN.dem hn ha hq
end
end Pv
namespace Go.Proofs.YtmobpoiejckagaaGreat
open Go Tw Pv dh
theorem KP{α:Type}[DecidableEq α](φ:α->Int)(p:α->Bool):∀l:List α,dW φ l=dW φ (l.filter p)+dW φ (l.filter fun a=>!p a)
 | []=>rfl
 |a::l=>by
  rw[dW,KP φ p l];cases h:p a
  .rw[adf (by simp[h]),adl (by simp[h]),dW];omega
  rw[adl h,adf (by simp[h]),dW];omega
theorem Ve{α:Type}[DecidableEq α]{φ:α->Int}:∀{l:List α},(∀a∈l,0<=φ a)->0<=dW φ l
 | [],_=>a9s _
 |a::l,h=>by
  have:=Ve (l:=l) fun b hb=>h b (by simp[hb]);have:=h a (by simp);rw[dW];omega
theorem JB{n:Nat}{l:List Nat}(hn:l.Nodup)(hl:∀j∈l,j<n):((List.range n).filter fun j=>l.contains j).Perm l:=
 (a7n (List.nodup_range.filter _) hn).2 fun j=>by
  rw[a8J,a4s,List.contains_iff_mem];exact⟨fun h=>h.2,fun h=>⟨hl j h,h⟩⟩
theorem Vf{n:Nat}{φ:Nat->Int}{l:List Nat}(hn:l.Nodup)(hl:∀j∈l,j<n)(hp:∀j,j<n->0<=φ j):dW φ l<=dW φ (List.range n):=by
 rw[KP φ (fun j=>l.contains j) (List.range n),Jw φ (JB hn hl)];have:=Ve (φ:=φ) (l:=(List.range n).filter fun j=>!l.contains j) fun j hj=>hp j (a4s.1 (a8J.1 hj).1);omega
theorem PU{n:Nat}{φ:Nat->Int}{l:List Nat}(hn:l.Nodup)(hl:∀j∈l,j<n)(ha:∀j,j<n->j∈l):dW φ l=dW φ (List.range n):=
 (Jw φ ((a7n adM hn).2 fun j=>⟨fun h=>ha j (a4s.1 h),fun h=>a4s.2 (hl j h)⟩)).symm
abbrev nowAt(now:List (S3×Int))(j:Nat):S3×Int:=now.getD j (⟨0,0,0⟩,0)
theorem Ik{φ:S3->Int}(now:List (S3×Int)):dW (fun j=>(nowAt now j).2*φ (nowAt now j).1) (List.range now.length)=dG φ now:=by
 have h1:dG φ now=dW (fun e:S3×Int=>e.2*φ e.1) now:=by
  induction now with
  |nil=>rfl
  |cons e m ih=>simp only[dG,dW,ih]
 have h2:now=(List.range now.length).map fun j=>nowAt now j:=by
  refine(oP (d:=(⟨⟨0,0,0⟩,0⟩:S3×Int)) (by simp)).2 fun k hk=>?_;simp[List.getD,hk]
 rw[h1]
 conv=>rhs;rw[h2]
 rw[zI]
theorem Y6{now:List (S3×Int)}{j:Nat}{e:S3×Int}(h:now[j]? = some e):nowAt now j=e∧j<now.length∧e∈now:=by
 obtain⟨h1,h2⟩:=a0c.1 h;exact⟨by simp[nowAt,List.getD,h],h1,h2▸a4z h1⟩
section
variable {n:Nat} {J:Jb} (hJ:jG J) {f:Nat} (t:List (V×Int)) (now:List (S3×Int)) {a:Nat} {c:Int} {r:List Int}
def InS(J:Jb)(f:Nat)(t:List (V×Int))(now:List (S3×Int))(a:Nat)(c:Int)(r:List Int)(seen:List Nat)(s:aS aF):Prop:=
 seen.Nodup∧(∀j∈seen,j<now.length)∧∃next,NI J (a+1) next∧(∀ψ,dG (xK J ψ r) next=dW (fun j=>(nowAt now j).2*xK J ψ (c::r) (nowAt now j).1) seen)∧gQ X0 (T.eH 136 (dV bIB)) s=sH J f t now next c a seen
structure yA(J:Jb)(a:Nat)(now:List (S3×Int)):Prop where
 i:NI J a now
 s:∀ψ,dG (xK J ψ (J.o.drop a)) now=xK J ψ J.o (eU J.D)
include hJ
theorem afL:(zS J J.o:Int)<=2000:=by
 have h1:=(Jz hJ (jG.o2 hJ).2.2).2;have hw:=FX hJ.bY.sz hJ.ord;have hm:=hJ.bY.many;omega
theorem MX(h:yA J a now):dG (fun _=>(zS J (J.o.drop a):Int)) now<=2000:=by
 have:=h.s fun _=>1;rw[Y5,Eo]at this;have:=afL hJ;omega
theorem Y7(a:Nat):1<=zS J (J.o.drop a):=(Jz hJ fun c hc=>(jG.o2 hJ).2.2 c (a5Q hc)).1
theorem a1X(h:yA J a now):now.length<=2000∧∀e∈now,e.2<=2000:=by
 have h1:=a7Y h.i.pos (Y7 hJ a) (MX hJ now h);obtain⟨h2,h3⟩:=Ij h.i.pos;have h4:=MX hJ now h;rw[AY]at h4;have h5:=a8O (show(1:Int)<=zS J (J.o.drop a) by have:=Y7 hJ a;omega) h2;have h6:∀{m:List (S3×Int)},(∀e∈m,0<e.2)->(m.length:Int)<=dG (fun _=>1) m:=by
  intro m
  induction m with
  |nil=>intro _;exact a9s _
  |cons e m ih=>
   intro hp;have:=ih fun e he=>hp e (by simp[he]);have:=hp e (by simp);simp only[dG,a4i,acI];omega
 have:=h6 h.i.pos;exact⟨by omega,h1⟩
set_option maxRecDepth 20000 in
theorem inLoop(hr:J.o.drop a=c::r)(h:yA J a now):aJ X0 Qp T (bQ (n+1)) CG LL 136 (BM Qp 136) 5 (.block 2 (.loop bIB)) (sH J f t now [] c a [])
  fun e s=>e=.norm∧∃next seen,NI J (a+1) next∧(∀ψ,dG (xK J ψ r) next=dG (xK J ψ (c::r)) now)∧s={ sH J f t now next c a seen with env:=jd (T.iy 136 7) ((31,.val (.bool false))::(30,.val (.dI [.bool false]))::a3J J c a) }:=by
 have e0:bIB=.seq (.region 7 (a7S (eF bIB)) false) (.seq (.cond (.tmp 31) .skip (.exit 2)) (.block 3 bX)):=by kernel_rfl
 rw[e0];have hlen:=a1X hJ now h;have hlL:(kS.im now).length=now.length:=kS.pJ now;have hql:=(Jz hJ (r:=c::r) fun c' hc=>(jG.o2 hJ).2.2 c' (by rw[<-hr]at hc;exact a5Q hc)).1;refine Vd hX (n:=now.length) (b:=7) (r:=5) (it:=29) (nx:=30) (mo:=31) (es:=kS.im now) (fun seen s=>InS J f t now a c r seen s) (by kernel_rfl) (a7C (by kernel_rfl)) (a7C (by kernel_rfl)) hlL (by unfold LL;omega)
  ⟨a5Y,(fun j hj=>(by cases hj)),[],⟨a5Y,(fun e he=>(by cases he)),(fun e he=>(by cases he))⟩,(fun ψ=>rfl),(by kernel_rfl)⟩ (fun seen s hi=>?_)
 obtain⟨jA,aQ,next,h1,h2,h3⟩:=hi;rw[<-e0];refine⟨_,h3,by kernel_rfl,by kernel_rfl,by kernel_rfl,fun ho=>⟨by kernel_rfl,next,seen,h1,fun ψ=>?_,rfl⟩,fun j e hj he=>⟨by kernel_rfl,?_⟩⟩
 .rw[h2,PU jA aQ ho,Ik]
 .rw[kS.AX,a0e]at he;obtain⟨⟨st,w⟩,rV,rfl⟩:=he;obtain⟨q1,q2,q3⟩:=Y6 rV;have G6:(j::seen).Nodup:=a4r.2 ⟨hj,jA⟩;have G7:∀k∈j::seen,k<now.length:=fun k hk=>by
   rcases a2y.1 hk with rfl|hk
   .exact q2
   .exact aQ k hk
  have hb:dG (fun _=>(zS J r:Int)) next+w*(zS J (c::r):Int)<=2000:=by
   have e1:=h2 fun _=>1;rw[Y5]at e1;have e2:=Vf (φ:=fun j=>(nowAt now j).2*xK J (fun _=>1) (c::r) (nowAt now j).1) G6 G7 fun k hk=>by
    have:=h.i.pos _ (dS (d:=(⟨⟨0,0,0⟩,0⟩:S3×Int)) hk);rw[Eo];exact ag0 (af5 this) (Int.natCast_nonneg _)
   rw[Ik,dW,q1]at e2;have e3:=MX hJ now h;rw[hr]at e3;rw[Y5]at e2;have e4:xK J (fun _=>1) (c::r) st=(zS J (c::r):Int):=Eo _ _;simp only[e4]at e2;omega
  obtain⟨next',e',s',g1,g2,g3,g4,g5⟩:=akx (n:=n) hJ (f:=f) t now seen (st:=st) (w:=w) (j:=j) hr (h.i.dp _ q3) (h.i.pos _ q3) h1 rV hb;refine aJ.step (by kernel_rfl) g4 ⟨g3,G6,G7,next',g1,fun ψ=>?_,g5⟩;rw[g2,h2,dW,q1,agJ]
end
open Go Tw Pv dh
abbrev akz(J:Jb)(a:Int)(x:List (Nat×PE aF)):List (Nat×PE aF):=[(1,.val (.kP 4)),(2,.loc 0 0),(4,.val (.map 5)),(21,xL 3 J.o),(22,xi J.o.length),(23,xi a)]++x
abbrev Vg(J:Jb)(f:Nat)(t:List (V×Int))(now:List (S3×Int))(a:Int)(x:List (Nat×PE aF)):aS aF:=⟨akz J a x,[J.ps (.fn f [] [])],HN J f t now⟩
abbrev ntE:Nat:=BM Qp 136
abbrev ExE(n:Nat)(c:Code)(s:aS aF)(e:Ex)(s':aS aF):Prop:=dN X0 Qp T (bQ (n+1)) LL 136 false ntE 5 c s e s'
abbrev ExD(n:Nat)(c:Code)(s:aS aF)(Q:Ex->aS aF->Prop):Prop:=aJ X0 Qp T (bQ (n+1)) CG LL 136 ntE 5 c s Q
section
variable {n:Nat} {J:Jb} (hJ:jG J) {f:Nat} (t:List (V×Int)) {now:List (S3×Int)} {a:Nat}
include hJ
set_option maxRecDepth 20000 in
theorem afM(h:yA J a now)(aQ:a<J.o.length):ExD n bLB (Vg J f t now a []) fun e s=>e=.norm∧∃JC,yA J (a+1) JC∧lC 5 [.gc [6]] (gQ X0 (T.eH 136 (dV bLB)) s)=some (Vg J f t JC ((a+1:Nat):Int) []):=by
 have hr:J.o.drop a=J.o.getD a 0::J.o.drop (a+1):=by
  rw[a6D aQ];simp[List.getD,a0f aQ]
 have QW:J.o.length<=6:=by rw[(jG.o2 hJ).2.1];exact hJ.bY.len
 have t1:decide ((a:Int)<(J.o.length:Int))=true:=bC aQ;have e0:bLB=.seq (eF bLB) (.seq (.cond (.tmp 24) .skip (.exit 0)) (.seq (.block 1 bB1) (eG (eG (eG bLB))))):=by kernel_rfl
 have e1:bB1=.seq (eF bB1) (.seq (eF (eG bB1)) (.seq (.seq (eF (eF (eG (eG bB1)))) (.block 2 (.loop bIB))) (eG (eG (eG bB1))))):=by kernel_rfl
 have x3:ExE n (eF bLB) (Vg J f t now a []) .norm (Vg J f t now a [(24,.val (.bool (decide ((a:Int)<(J.o.length:Int)))))]):=zL hX fV (by kernel_rfl) (.r rfl);have hc:zQ (Vg J f t now a [(24,.val (.bool (decide ((a:Int)<(J.o.length:Int)))))]).env (.tmp 24)=some (.bool true):=by rw[<-t1];kernel_rfl
 have i1:gq (a:Int) J.o.length:=aH aQ;have x4:ExE n (eF bB1) (Vg J f t now a [(24,.val (.bool (decide ((a:Int)<(J.o.length:Int)))))]) .norm ⟨[(1,.val (.kP 4)),(2,.loc 0 0),(4,.val (.map 5)),(6,xi (J.o.getD a 0)),(21,xL 3 J.o),(22,xi J.o.length),(23,xi a)],[J.ps (.fn f [] [])],HN J f t now⟩:=zL hX fV (by kernel_rfl) (.o i1 (.r rfl));have x5:ExE n (eF (eG bB1)) ⟨[(1,.val (.kP 4)),(2,.loc 0 0),(4,.val (.map 5)),(6,xi (J.o.getD a 0)),(21,xL 3 J.o),(22,xi J.o.length),(23,xi a)],[J.ps (.fn f [] [])],HN J f t now⟩ .norm ⟨[(1,.val (.kP 4)),(2,.loc 0 0),(4,.val (.map 5)),(6,xi (J.o.getD a 0)),(7,.val (.map 6)),(21,xL 3 J.o),(22,xi J.o.length),(23,xi a)],[J.ps (.fn f [] [])],HN J f t now++[.map []]⟩:=zL hX fV (by kernel_rfl) (.r rfl);have x6:ExE n (eF (eF (eG (eG bB1)))) ⟨[(1,.val (.kP 4)),(2,.loc 0 0),(4,.val (.map 5)),(6,xi (J.o.getD a 0)),(7,.val (.map 6)),(21,xL 3 J.o),(22,xi J.o.length),(23,xi a)],[J.ps (.fn f [] [])],HN J f t now++[.map []]⟩ .norm ⟨a3J J (J.o.getD a 0) a,[J.ps (.fn f [] [])],HN J f t now++[.map (kS.im []),.cZ 5 (kS.im now).length []]⟩:=zL hX fV (by kernel_rfl) (.r rfl);rw[kS.pJ now]at x6;rw[e0];refine aJ.AZ (by kernel_rfl) x3 (aJ.seq (R:=fun e s=>e=.norm∧s=Vg J f t now a [(24,.val (.bool (decide ((a:Int)<(J.o.length:Int)))))]) (aJ.cond (t:=true) hc (aJ.step (by kernel_rfl) (zL hX fV (an:=.n) (by kernel_rfl) (.r rfl)) ⟨rfl,rfl⟩)) (fun s hs=>?_) (fun i s h=>by cases h.1) (fun s h=>by cases h.1));obtain⟨_,rfl⟩:=hs;refine aJ.seq (R:=fun e s=>e=.norm∧∃next seen,yA J (a+1) next∧s=⟨[(1,.val (.kP 4)),(2,.loc 0 0),(4,.val (.map 6)),(21,xL 3 J.o),(22,xi J.o.length),(23,xi a)],[J.ps (.fn f [] [])],HI J f t now next seen⟩) ?_ (fun s hs=>?_) (fun i s h=>by cases h.1) (fun s h=>by cases h.1)
 .refine aJ.block ?_;rw[e1];refine(aJ.AZ (by kernel_rfl) x4 (aJ.AZ (by kernel_rfl) x5 (aJ.seq (R:=fun e s=>e=.norm∧∃next seen,NI J (a+1) next∧(∀ψ,dG (xK J ψ (J.o.drop (a+1))) next=dG (xK J ψ (J.o.getD a 0::J.o.drop (a+1))) now)∧s={ sH J f t now next (J.o.getD a 0) a seen with env:=jd (T.iy 136 7) ((31,.val (.bool false))::(30,.val (.dI [.bool false]))::a3J J (J.o.getD a 0) a) }) (Q:=fun e s=>e=.norm∧∃next seen,yA J (a+1) next∧s=⟨[(1,.val (.kP 4)),(2,.loc 0 0),(4,.val (.map 6)),(21,xL 3 J.o),(22,xi J.o.length),(23,xi a)],[J.ps (.fn f [] [])],HI J f t now next seen⟩) (aJ.AZ (by kernel_rfl) x6 (inLoop (n:=n) hJ t now hr h)) (fun s hs=>?_) (fun i s h=>by cases h.1) (fun s h=>by cases h.1)))).mono fun e s h=>?_
  .obtain⟨_,next,seen,g1,g2,rfl⟩:=hs;refine aJ.step (by kernel_rfl) (zL (ps1:=⟨[(1,.val (.kP 4)),(2,.loc 0 0),(4,.val (.map 6)),(21,xL 3 J.o),(22,xi J.o.length),(23,xi a)],[J.ps (.fn f [] [])],HI J f t now next seen⟩) hX fV (an:=.n) (by kernel_rfl) (.r rfl)) ⟨rfl,next,seen,⟨g1,fun ψ=>?_⟩,rfl⟩;rw[g2,<-hr,h.s]
  obtain⟨rfl,h2⟩:=h;exact⟨rfl,h2⟩
 obtain⟨_,next,seen,g1,rfl⟩:=hs;refine aJ.step (by kernel_rfl) (zL (ps1:=⟨[(1,.val (.kP 4)),(2,.loc 0 0),(4,.val (.map 6)),(21,xL 3 J.o),(22,xi J.o.length),(23,xi (i64.wrap ((a:Int)+1)))],[J.ps (.fn f [] [])],HI J f t now next seen⟩) hX fV (an:=.n) (by kernel_rfl) (.r rfl)) ⟨rfl,next,g1,?_⟩;rw[yj (by unfold ah;omega)]
 kernel_rfl
set_option maxRecDepth 20000 in
theorem a7Z:ExD n bLB (Vg J f t now J.o.length []) fun e s=>e=.exit 0∧s=Vg J f t now J.o.length [(24,.val (.bool (decide ((J.o.length:Int)<(J.o.length:Int)))))]:=by
 have t1:decide ((J.o.length:Int)<(J.o.length:Int))=false:=fD _;have e0:bLB=.seq (eF bLB) (.seq (.cond (.tmp 24) .skip (.exit 0)) (.seq (.block 1 bB1) (eG (eG (eG bLB))))):=by kernel_rfl
 have x3:ExE n (eF bLB) (Vg J f t now J.o.length []) .norm (Vg J f t now J.o.length [(24,.val (.bool (decide ((J.o.length:Int)<(J.o.length:Int)))))]):=zL hX fV (by kernel_rfl) (.r rfl);have hc:zQ (Vg J f t now J.o.length [(24,.val (.bool (decide ((J.o.length:Int)<(J.o.length:Int)))))]).env (.tmp 24)=some (.bool false):=by rw[<-t1];kernel_rfl
 rw[e0];refine aJ.AZ (by kernel_rfl) x3 (aJ.seq (R:=fun e s=>e=.exit 0∧s=Vg J f t now J.o.length [(24,.val (.bool (decide ((J.o.length:Int)<(J.o.length:Int)))))]) (aJ.cond (t:=false) hc (aJ.step (by kernel_rfl) (zL hX fV (an:=.n) (by kernel_rfl) (.r rfl)) ⟨rfl,rfl⟩)) (fun s hs=>by cases hs.1) (fun i s h=>h) (fun s h=>by cases h.1))
set_option maxRecDepth 20000 in
theorem aaR(h:yA J 0 now):ExD n (.block 0 (.loop bLB)) (Vg J f t now 0 []) fun e s=>e=.norm∧∃JC,yA J J.o.length JC∧s=Vg J f t JC J.o.length [(24,.val (.bool (decide ((J.o.length:Int)<(J.o.length:Int)))))]:=by
 have QW:J.o.length<=6:=by rw[(jG.o2 hJ).2.1];exact hJ.bY.len
 refine aJ.block ?_;refine aJ.loop (fun k s=>∃a JC gs,a+k=J.o.length∧yA J a JC∧lC 5 gs (gQ X0 (T.eH 136 (dV bLB)) s)=some (Vg J f t JC (a:Int) [])) (fun k s hi=>?_) (k:=J.o.length) ⟨0,now,[],by omega,h,by kernel_rfl⟩ (by unfold LL;omega);obtain⟨a,JC,gs,hk,h1,h2⟩:=hi;refine aJ.ghost hX h2 ?_;rcases a4l a J.o.length with aQ|EI
 .refine(afM (n:=n) hJ t h1 aQ).mono fun e s h3=>?_;obtain⟨rfl,apJ,h4,h5⟩:=h3;exact⟨k-1,by omega,a+1,apJ,_,by omega,h4,h5⟩
 have:a=J.o.length:=by omega
 subst this;refine(a7Z (n:=n) hJ t).mono fun e s h3=>?_;obtain⟨rfl,rfl⟩:=h3;dsimp only;rw[a0p rfl];exact⟨rfl,JC,h1,rfl⟩
end
open Go Tw Pv dh
def Y8(φ:V->Int)(l:List V):Int:=if qw (l.drop 1)=true then φ (l.getD 0 V0)else 0
theorem afN(φ:V->Int)(l:List V)(w:Int)(t:List (V×Int)):dG φ (yT l w t)=dG φ t+w*Y8 φ l:=by
 unfold yT Y8;cases qw (l.drop 1)
 .rw[a0o (by simp),a0o (by simp)];omega
 rw[a0p rfl,a0p rfl,zH]
abbrev sH2(J:Jb)(f:Nat)(t:List (V×Int))(now:List (S3×Int))(seen:List Nat):aS aF:=⟨[(1,.val (.kP 4)),(2,.loc 0 0),(94,.val (.iter 6))],[J.ps (.fn f [] [])],QA J f true none t++[.map (kS.im now),.cZ 5 now.length seen]⟩
structure a06(t:List (V×Int)):Prop where
 nd:(t.map (·.1)).Nodup
 pos:∀e∈t,0<e.2
theorem a06.y{t:List (V×Int)}(h:a06 t)(l:List V){w:Int}(hw:0<w):a06 (yT l w t):=by
 unfold yT;split
 .exact⟨FZ h.nd _ _,PK hw h.pos⟩
 exact h
section
variable {n:Nat} {J:Jb} (hJ:jG J) {f:Nat} {now:List (S3×Int)}
def apK(J:Jb)(f:Nat)(now:List (S3×Int))(seen:List Nat)(s:aS aF):Prop:=
 seen.Nodup∧(∀j∈seen,j<now.length)∧∃t,a06 t∧(∀φ,dG φ t=dW (fun j=>(nowAt now j).2*Y8 φ (aU J.D (nowAt now j).1)) seen)∧gQ X0 (T.eH 136 (dV bL2)) s=sH2 J f t now seen
theorem akA(l:List V):0<=Y8 (fun _=>1) l∧Y8 (fun _=>1) l<=1:=by
 unfold Y8;split<;>simp
include hJ
theorem afO(h:yA J J.o.length now){seen:List Nat}(jA:seen.Nodup)(aQ:∀j∈seen,j<now.length){t:List (V×Int)}(ht:a06 t)(hs:∀φ,dG φ t=dW (fun j=>(nowAt now j).2*Y8 φ (aU J.D (nowAt now j).1)) seen):Tal t:=by
 refine⟨ht.nd,ht.pos,fun e he=>?_⟩;have h1:=(Ij ht.pos).2 e he;have hp:∀j,j<now.length->0<(nowAt now j).2:=fun k hk=>h.i.pos _ (dS (d:=(⟨⟨0,0,0⟩,0⟩:S3×Int)) hk);have h2:=Vf (φ:=fun j=>(nowAt now j).2*Y8 (fun _=>1) (aU J.D (nowAt now j).1)) jA aQ fun k hk=>ag0 (af5 (hp k hk)) (akA _).1;have h3:dW (fun j=>(nowAt now j).2*Y8 (fun _=>1) (aU J.D (nowAt now j).1)) (List.range now.length)<=dW (fun j=>(nowAt now j).2*1) (List.range now.length):=by
  have:∀l:List Nat,(∀j∈l,j<now.length)->dW (fun j=>(nowAt now j).2*Y8 (fun _=>1) (aU J.D (nowAt now j).1)) l<=dW (fun j=>(nowAt now j).2*1) l:=by
   intro l
   induction l with
   |nil=>intro _;exact a9s _
   |cons j l ih=>
    intro hl;have:=ih fun k hk=>hl k (by simp[hk]);have:=a8O (akA (aU J.D (nowAt now j).1)).2 (af5 (hp j (hl j (by simp))));simp only[dW];omega
  exact this _ fun j hj=>a4s.1 hj
 rw[Ik (φ:=fun _=>1)]at h3;have h4:=MX hJ now h;rw[List.drop_length]at h4;have h4:dG (fun _=>1) now<=2000:=h4;rw[<-hs]at h2;omega
set_option maxRecDepth 20000 in
theorem a3K(hO:Ok n qI)(h:yA J J.o.length now)(hD:0<J.D.length):aJ X0 Qp T (bQ (n+1)) CG LL 136 ntE 5 (.block 7 (.loop bL2)) (sH2 J f [] now [])
  fun e s=>e=.norm∧∃t seen,a06 t∧(∀φ,dG φ t=dG (fun st=>Y8 φ (aU J.D st)) now)∧s={ sH2 J f t now seen with env:=jd (T.iy 136 23) ((96,.val (.bool false))::(95,.val (.dI [.bool false]))::(sH2 J f t now seen).env) }:=by
 have e0:bL2=.seq (.region 23 (a7S (eF bL2)) false) (.seq (.cond (.tmp 96) .skip (.exit 7)) (.block 8 bX2)):=by kernel_rfl
 rw[e0];have hlen:=a1X hJ now h;refine Vd hX (n:=now.length) (b:=6) (r:=5) (it:=94) (nx:=95) (mo:=96) (es:=kS.im now) (fun seen s=>apK J f now seen s) (by kernel_rfl) (a7C (by kernel_rfl)) (a7C (by kernel_rfl)) (kS.pJ now) (by unfold LL;omega)
  ⟨a5Y,(fun j hj=>(by cases hj)),[],⟨a5Y,(fun e he=>(by cases he))⟩,(fun φ=>rfl),(by kernel_rfl)⟩ (fun seen s hi=>?_)
 obtain⟨jA,aQ,t,h1,h2,h3⟩:=hi;rw[<-e0];refine⟨_,h3,by kernel_rfl,by kernel_rfl,by kernel_rfl,fun ho=>⟨by kernel_rfl,t,seen,h1,fun φ=>?_,rfl⟩,fun j e hj he=>⟨by kernel_rfl,?_⟩⟩
 .rw[h2,PU jA aQ ho,Ik (φ:=fun st=>Y8 φ (aU J.D st))]
 .rw[kS.AX,a0e]at he;obtain⟨⟨st,w⟩,rV,rfl⟩:=he;obtain⟨q1,q2,q3⟩:=Y6 rV;have G6:(j::seen).Nodup:=a4r.2 ⟨hj,jA⟩;have G7:∀k∈j::seen,k<now.length:=fun k hk=>by
   rcases a2y.1 hk with rfl|hk
   .exact q2
   .exact aQ k hk
  have ho:=a1W rV;have qm:(aU J.D st).length=J.D.length:=by simp[aU]
  have hw:=h.i.pos _ q3;have hc:=a1N (M:=n) (f:=f) J st hJ.d3 fun k hk=>(Jt hJ (h.i.dp _ q3) hk).2;have hd3:=hJ.d3;have hy:=apD (n:=n) hO J f (afO hJ h jA aQ h1 h2) (aU J.D st) (w:=w) (by omega) (by unfold ah;omega) ⟨hw,hlen.2 _ q3⟩;refine aJ.step (e:=.norm) (by kernel_rfl) (zL (ps1:=⟨[(1,.val (.kP 4)),(2,.loc 0 0),(94,.val (.iter 6)),(106,xl false)],[J.ps (.fn f [] []),st.ps],QA J f true none (yT (aU J.D st) w t)++[.map (kS.im now),.cZ 5 now.length (j::seen)]⟩) hX fV (by kernel_rfl) (.c (.dI [.agg st.ps,.int .i64 w]) [] ho (.fr [] hc (.fr [0,1,2,3,4] hy (.b (rfl:(!true)=false) (.r rfl)))))) ⟨.inl rfl,G6,G7,yT (aU J.D st) w t,h1.y _ hw,fun φ=>?_,by kernel_rfl⟩;rw[afN,h2,dW,q1,agJ]
def a81(J:Jb)(t:List (V×Int)):Prop:=a06 t∧∀φ,dG φ t=dW (fun q=>Y8 φ (J.D.map fun d=>wW d q)) (XW J)
omit hJ in
theorem a3L(hJ:jG J):yA J 0 [(eU J.D,1)]:=by
 refine⟨⟨by simp,fun e he=>?_,fun e he=>?_⟩,fun ψ=>?_⟩
 .rw[a2U.1 he];show(0:Int)<1;decide
 .rw[a2U.1 he];exact XY hJ
 simp[dG]
set_option maxRecDepth 20000 in
theorem akB(hO:Ok n qI)(hD:0<J.D.length):aaM X0 Qp (uO Qp T (bQ (n+1)) LL) (.fn 136 [.agg (J.ps (.fn f [] []))] []) [.kP 4] (QA J f true none []) fun v H1=>∃(t:List (V×Int)) (G:List (PB aF)),a81 J t∧H1=QA J f true none t++G:=by
 refine a1U (t:=Tz Qp 136) hX (by kernel_rfl) ?_;have e0:(Tz Qp 136).body=.seq (eF Qz) (.seq (eF (eG Qz)) (.seq (.seq (eF (eF (eG (eG Qz)))) (.block 0 (.loop bLB))) (.seq (eF (eG (eG (eG Qz)))) (.block 7 (.loop bL2))))):=by kernel_rfl
 rw[e0];have hs:=ZX (M:=n) (f:=f) (a:=[]) (cc:=[]) (H:=[]) J hJ.d3;have hf:nP X0 Qp 148 (kS.es []) (kS.tv (eU J.D)):=kS.fresh (x:=eU J.D) (by simp);have x0:ExE n (eF Qz) ⟨kZ X0 0 [.agg (J.ps (.fn f [] [])),.kP 4],[],QA J f true none []⟩ .norm ⟨[(1,.val (.kP 4)),(2,.loc 0 0)],[J.ps (.fn f [] [])],QA J f true none []⟩:=zL hX fV (an:=.n) (by kernel_rfl) (.r rfl);have x1:ExE n (eF (eG Qz)) ⟨[(1,.val (.kP 4)),(2,.loc 0 0)],[J.ps (.fn f [] [])],QA J f true none []⟩ .norm ⟨[(1,.val (.kP 4)),(2,.loc 0 0),(4,.val (.map 5))],[J.ps (.fn f [] [])],HN J f [] [(eU J.D,1)]⟩:=zL hX fV (by kernel_rfl) (.fr [] hs (.q (.bool false) (kS.ck (eU J.D)) (.o hf (.r rfl))));have x2:ExE n (eF (eF (eG (eG Qz)))) ⟨[(1,.val (.kP 4)),(2,.loc 0 0),(4,.val (.map 5))],[J.ps (.fn f [] [])],HN J f [] [(eU J.D,1)]⟩ .norm (Vg J f [] [(eU J.D,1)] 0 []):=zL hX fV (an:=.n) (by kernel_rfl) (.r rfl);refine aJ.AZ (by kernel_rfl) x0 (aJ.AZ (by kernel_rfl) x1 (aJ.seq (R:=fun e s=>e=.norm∧∃JC,yA J J.o.length JC∧s=Vg J f [] JC J.o.length [(24,.val (.bool (decide ((J.o.length:Int)<(J.o.length:Int)))))]) (aJ.AZ (by kernel_rfl) x2 (aaR (n:=n) hJ [] (a3L hJ))) (fun s h=>?_) (fun i s h=>by cases h.1) (fun s h=>by cases h.1)));obtain⟨_,now,h1,rfl⟩:=h;have x3:ExE n (eF (eG (eG (eG Qz)))) (Vg J f [] now J.o.length [(24,.val (.bool (decide ((J.o.length:Int)<(J.o.length:Int)))))]) .norm ⟨[(1,.val (.kP 4)),(2,.loc 0 0),(94,.val (.iter 6))],[J.ps (.fn f [] [])],QA J f true none []++[.map (kS.im now),.cZ 5 (kS.im now).length []]⟩:=zL hX fV (an:=.n) (by kernel_rfl) (.r rfl);rw[kS.pJ now]at x3;refine aJ.AZ (by kernel_rfl) x3 ((a3K hJ hO h1 hD).mono fun e s h=>?_);obtain⟨rfl,t,seen,g1,g2,rfl⟩:=h;refine⟨.inl rfl,[],by kernel_rfl,t,[.map (kS.im now),.cZ 5 now.length seen],⟨g1,fun φ=>?_⟩,rfl⟩;rw[g2];have:=h1.s fun st=>Y8 φ (aU J.D st);rw[List.drop_length]at this;rw[<-aaG hJ (Y8 φ)];exact this
end
open Go Tw Pv dh
def a07(J:Jb):List (List V):=(XW J).map fun q=>J.D.map fun d=>wW d q
def uV(J:Jb):List V:=((a07 J).filter fun l=>qw (l.drop 1)).map fun l=>l.getD 0 V0
abbrev Y9(e:V×Int):List Int:=Ro e.1.tv
def eX(J:Jb):List (V×Int):=zf Y9 (AQ (uV J))
theorem a1Y(φ:V->Int):∀L:List (List V),dW (Y8 φ) L=dW φ ((L.filter fun l=>qw (l.drop 1)).map fun l=>l.getD 0 V0)
 | []=>rfl
 |l::L=>by
  rw[dW,a1Y φ L];unfold Y8;cases h:qw (l.drop 1)
  .rw[a0o (by simp),adf (by rw[h];simp)];omega
  rw[a0p rfl,adl (by rw[h]),a4k,dW]
theorem key_inj{l:List (V×Int)}(hn:(l.map (·.1)).Nodup):∀a∈l,∀b∈l,Y9 a=Y9 b->a=b:=fun a ha b hb h=>by
 have h1:a.1=b.1:=by
  have h:[a.1.f,a.1.n]=[b.1.f,b.1.n]:=h;simp only[aeb,and_true]at h;obtain⟨⟨a1,a2⟩,_⟩:=a;obtain⟨⟨b1,b2⟩,_⟩:=b;simp only at h;rw[h.1,h.2]
 have h2:=Ig hn ha;have h3:=Ig hn hb;rw[h1,h3]at h2;exact aby h1 h2.symm
theorem a88{J:Jb}{t:List (V×Int)}(h:a81 J t):t.Perm (AQ (uV J)):=by
 obtain⟨f1,f2⟩:=G5 (uV J);refine V4 h.1.nd f1 h.1.pos f2 fun φ=>?_;rw[h.2,Tf];unfold uV;rw[<-a1Y];unfold a07;rw[zI]
theorem a8a{J:Jb}{t:List (V×Int)}(h:a81 J t):zf Y9 t=eX J:=EZ (a88 h) (key_inj h.1.nd)
abbrev aaS(e:V×Int):TV×TV:=(e.1.tv,.int .i64 e.2)
theorem Vh:∀t:List (V×Int),xg (kV.im t)=some (t.map aaS)
 | []=>rfl
 |e::t=>by
  have:=Vh t;show(match qg (kV.pv e.1),qg (PV.int .i64 e.2:PV aF),xg (kV.im t)with
   |some k,some v,some r=>some ((k,v)::r)
   |_,_,_=>none)=_
  rw[this];rfl
section
variable {n:Nat} {J:Jb} (hJ:jG J) {f:Nat}
include hJ
set_option maxRecDepth 20000 in
theorem PW(hO:Ok n qI)(hD:0<J.D.length):aW X0 Qp (bQ (n+2)) (.fn 87 [] []) [.agg (J.ps (.fn f [] []))] [] (.map 0) [.map (kV.im (eX J))]:=by
 refine a7P (X:=X0) (P:=Qp) (T:=T) (L:=LL) (n:=n+1) (f:=87) (first:=[]) (cap:=[]) (H:=[]) (t:=Tz Qp 87) (es0:=kV.im (eX J)) (a3G:=(eX J).map aaS) hX (by kernel_rfl) (by kernel_rfl) (by kernel_rfl) rfl (Vh _) ?_;have e0:(Tz Qp 87).body=.seq (eF Y4) (.seq (eF (eG Y4)) (.seq (.seq (eF (eF (eG (eG Y4)))) (.block 0 (.rangeFunc (.tmp 8) #[9,10] (wZ Qp 87) (AB Qp 87)))) (.seq (eF (eG (eG (eG Y4)))) .ret))):=by kernel_rfl
 rw[e0];have x0:dN X0 Qp T (bQ (n+1)) LL 87 false (BM Qp 87) 0 (eF Y4) ⟨kZ X0 0 [.agg (J.ps (.fn f [] []))],[],[]⟩ .norm ⟨[(1,.val (.ptr 0 0 5)),(2,.val (.nil .map))],[],[.cells (J.ps (.fn f [] []))]⟩:=zL hX fV (an:=.n) (by kernel_rfl) (.r rfl);have x1:dN X0 Qp T (bQ (n+1)) LL 87 false (BM Qp 87) 0 (eF (eG Y4)) ⟨[(1,.val (.ptr 0 0 5)),(2,.val (.nil .map))],[],[.cells (J.ps (.fn f [] []))]⟩ .norm ⟨[(1,.val (.ptr 0 0 5)),(2,.val (.nil .map)),(3,.val (.ptr 2 0 1))],[],HQc J f []⟩:=zL hX fV (an:=.n) (by kernel_rfl) (.r rfl);have x2:dN X0 Qp T (bQ (n+1)) LL 87 false (BM Qp 87) 0 (eF (eF (eG (eG Y4)))) ⟨[(1,.val (.ptr 0 0 5)),(2,.val (.nil .map)),(3,.val (.ptr 2 0 1))],[],HQc J f []⟩ .norm ⟨a7V J f,[],HQc J f []⟩:=zL hX fV (an:=.n) (by kernel_rfl) (.r rfl);refine aJ.AZ (by kernel_rfl) x0 (aJ.AZ (by kernel_rfl) x1 (aJ.seq (R:=fun e s=>e=.norm∧∃(t:List (V×Int)) (G:List (PB aF)),a81 J t∧s=⟨a7V J f,[],QA J f false (some .skip) t++G⟩) (aJ.AZ (by kernel_rfl) x2 (aJ.block ?_)) (fun s h=>?_) (fun i s h=>by cases h.1) (fun s h=>by cases h.1)))
 .refine aJ.range (f1:=136) (a1:=[.agg (J.ps (.fn f [] []))]) (b1:=[]) (K:=fun v H1=>∃(t:List (V×Int)) (G:List (PB aF)),a81 J t∧H1=QA J f true none t++G) hX rfl (by kernel_rfl) (by kernel_rfl) (akB hJ hO hD) (fun v H1 hk=>?_);obtain⟨t,G,h1,rfl⟩:=hk;exact⟨true,_,_,_,_,_,_,none,.norm,rfl,rfl,rfl,t,G,h1,rfl⟩
 obtain⟨_,t,G,h1,rfl⟩:=h;have x3:dN X0 Qp T (bQ (n+1)) LL 87 false (BM Qp 87) 0 (.seq (eF (eG (eG (eG Y4)))) .ret) ⟨a7V J f,[],QA J f false (some .skip) t++G⟩ .ret ⟨[(2,.val (.map 1))],[],QA J f false (some .skip) t++G⟩:=zL hX fV (an:=.n) (by kernel_rfl) (.r rfl);refine aJ.step (by kernel_rfl) x3 ⟨.inr rfl,[.map 1],by kernel_rfl,1,kV.im t,t.map aaS,rfl,rfl,Vh t,?_⟩;unfold Rt;rw[Tj (g:=aaS) (key:=Y9) (a7G:=fun e=>Ro e.1) (fun _=>rfl),a8a h1]
end
open Go Tw Pv dh
abbrev PX(t:List (V×Int))(j:Nat):V×Int:=t.getD j (V0,0)
theorem Vj{t:List (V×Int)}{j:Nat}{e:V×Int}(h:t[j]? = some e):PX t j=e∧j<t.length∧e∈t:=by
 obtain⟨h1,h2⟩:=a0c.1 h;exact⟨by simp[PX,List.getD,h],h1,h2▸a4z h1⟩
theorem afP(t:List (V×Int)):t=(List.range t.length).map fun j=>PX t j:=
 (oP (d:=((V0,0):V×Int)) (by simp)).2 fun k hk=>by simp[List.getD,hk]
theorem Ya(t:List (V×Int)):dW (fun j=>(PX t j).2) (List.range t.length)=dG (fun _=>1) t:=by
 have h1:dG (fun _=>1) t=dW (fun e:V×Int=>e.2) t:=by
  induction t with
  |nil=>rfl
  |cons e m ih=>simp only[dG,dW,ih,acI]
 rw[h1]
 conv=>rhs;rw[afP t]
 rw[zI]
theorem Ba{t:List (V×Int)}{j:Nat}{v:V}{w:Int}(h:t[j]? = some (v,w)):(kV.im t).length=t.length∧(kV.im t)[j]? = some (.agg v.ps,.int .i64 w):=by
 refine⟨kV.pJ t,?_⟩;rw[kV.AX,h];rfl
structure JD(t:List (V×Int)):Prop where
 pos:∀e∈t,0<e.2
 tot:dG (fun _=>1) t<=2000
theorem JD.len{t:List (V×Int)}(h:JD t):t.length<=2000:=by
 have h6:∀{m:List (V×Int)},(∀e∈m,0<e.2)->(m.length:Int)<=dG (fun _=>1) m:=by
  intro m
  induction m with
  |nil=>intro _;exact a9s _
  |cons e m ih=>
   intro hp;have:=ih fun e he=>hp e (by simp[he]);have:=hp e (by simp);simp only[dG,a4i,acI];omega
 have:=h6 h.pos;have:=h.tot;omega
abbrev a3M:Code:=(Tz Qp 90).body
abbrev lpA:Code:=eF (eF (eG (eF (eG a3M))))
abbrev xA:Code:=eF (eG (eG lpA))
abbrev sA(t:List (V×Int))(z:Int)(js:List Nat):aS aF:=⟨[(2,xi z),(6,.val (.iter 1))],[],[.iE (kV.im t),.cZ 0 t.length js]⟩
section
variable {n:Nat} {t:List (V×Int)}
set_option maxRecDepth 20000 in
theorem apL(h:JD t):aW X0 Qp (bQ (n+1)) (.fn 90 [] []) [.map 0] [.iE (kV.im t)] (.int .i64 (dG (fun _=>1) t)) [.iE (kV.im t)]:=by
 refine aaN (X:=X0) (P:=Qp) (T:=T) (L:=LL) (n:=n) (f:=90) (first:=[]) (cap:=[]) (xs:=[.map 0]) (H:=[.iE (kV.im t)]) (v:=.int .i64 (dG (fun _=>1) t)) (t:=Tz Qp 90) (tv:=.int .i64 (dG (fun _=>1) t)) hX (by kernel_rfl) (by kernel_rfl) (by kernel_rfl) rfl rfl ?_;have e0:(Tz Qp 90).body=.seq (eF a3M) (.seq (.seq (eF (eF (eG a3M))) (.block 0 (.loop lpA))) (.seq (eF (eG (eG a3M))) .ret)):=by kernel_rfl
 have e1:lpA=.seq (.region 2 (a7S (eF lpA)) false) (.seq (.cond (.tmp 8) .skip (.exit 0)) (.block 1 xA)):=by kernel_rfl
 have x0:dN X0 Qp T (bQ n) LL 90 false (BM Qp 90) 1 (eF a3M) ⟨kZ X0 0 [.map 0],[],[.iE (kV.im t)]⟩ .norm ⟨[(0,.val (.map 0)),(2,xi 0)],[],[.iE (kV.im t)]⟩:=zL hX fV (an:=.n) (by kernel_rfl) (.r rfl);have x1:dN X0 Qp T (bQ n) LL 90 false (BM Qp 90) 1 (eF (eF (eG a3M))) ⟨[(0,.val (.map 0)),(2,xi 0)],[],[.iE (kV.im t)]⟩ .norm ⟨[(2,xi 0),(6,.val (.iter 1))],[],[.iE (kV.im t),.cZ 0 (kV.im t).length []]⟩:=zL hX fV (an:=.n) (by kernel_rfl) (.r rfl);rw[kV.pJ t]at x1;have hlen:=h.len;have hpj:∀j,j<t.length->0<(PX t j).2:=fun k hk=>h.pos _ (dS (d:=((V0,0):V×Int)) hk);rw[e0];refine aJ.AZ (by kernel_rfl) x0 (aJ.seq (R:=fun e s=>e=.norm∧∃seen,s={ sA t (dG (fun _=>1) t) seen with env:=jd (T.iy 90 2) ((8,.val (.bool false))::(7,.val (.dI [.bool false]))::(sA t (dG (fun _=>1) t) seen).env) }) (aJ.AZ (by kernel_rfl) x1 ?_) (fun s hs=>?_) (fun i s h=>by cases h.1) (fun s h=>by cases h.1))
 .rw[e1];refine Vd hX (n:=t.length) (b:=1) (r:=0) (it:=6) (nx:=7) (mo:=8) (es:=kV.im t) (fun seen s=>seen.Nodup∧(∀j∈seen,j<t.length)∧gQ X0 (T.eH 90 (dV lpA)) s=sA t (dW (fun j=>(PX t j).2) seen) seen) (by kernel_rfl) (a7C (by kernel_rfl)) (a7C (by kernel_rfl)) (kV.pJ t) (by unfold LL;omega)
   ⟨a5Y,(fun j hj=>(by cases hj)),(by kernel_rfl)⟩ (fun seen s hi=>?_)
  obtain⟨jA,aQ,h3⟩:=hi;rw[<-e1];refine⟨_,h3,by kernel_rfl,by kernel_rfl,by kernel_rfl,fun ho=>⟨by kernel_rfl,seen,?_⟩,fun j e hj he=>⟨by kernel_rfl,?_⟩⟩
  .rw[PU jA aQ ho,Ya]
  rw[kV.AX,a0e]at he;obtain⟨⟨v,w⟩,rV,rfl⟩:=he;obtain⟨q1,q2,q3⟩:=Vj rV;have G6:(j::seen).Nodup:=a4r.2 ⟨hj,jA⟩;have G7:∀k∈j::seen,k<t.length:=fun k hk=>by
   rcases a2y.1 hk with rfl|hk
   .exact q2
   exact aQ k hk
  have hb:=Vf (φ:=fun j=>(PX t j).2) G6 G7 fun k hk=>af5 (hpj k hk);have zN:=Ve (φ:=fun j=>(PX t j).2) (l:=seen) fun k hk=>af5 (hpj k (aQ k hk));rw[Ya,dW,q1]at hb;have ht:=h.tot;have hw:=h.pos _ q3;have Yo:i64.wrap (dW (fun j=>(PX t j).2) seen+w)=dW (fun j=>(PX t j).2) (j::seen):=by
   rw[fG (by have:(0:Int)<w:=hw;omega) (by have:w+dW (fun j=>(PX t j).2) seen<=dG (fun _=>1) t:=hb;omega),dW,q1,agJ]
  refine aJ.step (e:=.norm) (by kernel_rfl) (zL (ps1:=⟨[(2,xi (i64.wrap (dW (fun j=>(PX t j).2) seen+w))),(6,.val (.iter 1))],[],[.iE (kV.im t),.cZ 0 t.length (j::seen)]⟩) hX fV (by kernel_rfl) (.c (.dI [.agg v.ps,.int .i64 w]) [] (Ba rV) (.r rfl))) ⟨.inl rfl,G6,G7,?_⟩;rw[Yo]
  kernel_rfl
 obtain⟨_,seen,rfl⟩:=hs;exact aJ.step (by kernel_rfl) (zL (e:=.ret) (ps1:=⟨[(2,xi (dG (fun _=>1) t))],[],[.iE (kV.im t),.cZ 0 t.length seen]⟩) hX fV (an:=.n) (by kernel_rfl) (.r rfl)) ⟨.inr rfl,[.int .i64 (dG (fun _=>1) t)],by kernel_rfl,rfl⟩
end
end Go.Proofs.YtmobpoiejckagaaGreat
