/- Part 6 of a proof: ApplyLaws -/
import Derived.Test.YtmobpoiejckagaaGreatP04
set_option linter.constructorNameAsVariable false
set_option linter.unusedVariables false
set_option linter.unusedSimpArgs false
set_option linter.unusedSectionVars false
open Go.IntKind (i64)
noncomputable section
namespace Go.Proofs.YtmobpoiejckagaaGreat
open Go Tw Pv bV
structure Alk(d:Dg)(F:Nat)(r:Int)(s:LI0×LI0):Prop where
 eq:bY d F r (KS d s)=(yw (kD d F r s) r,KS d (kD d F r s))
 aA:KZ d (kD d F r s)
 cov:X9 (kD d F r s) r
 ext:Ext s (kD d F r s)
theorem aeF{d}(h:D5 d)(hw:FI d)(hd:DgD d)(he:d.aK.length<=2^61):∀(F:Nat) (r:Int) (s),r+1<F->KX d s->KZ d s->jK d r d.au.length->1<=F->Alk d F r s
 | 0,r,s,_,_,_,_,h1=>by omega
 |F+1,r,s,hF,hs,hk,hr,_=>by
  have hn:∀o∈s.1,0<=o:=fun o ho=>(hs.n2 o ho).1;by_cases c:r<0
  .have t0:decide (r<0)=true:=(by simpa using c);obtain⟨q1,q2⟩:=ahf hd hs (hr.2 c);have e1:bY d (F+1) r (KS d s)=(i64.wrap (-1-((KS d s).e.idxOf (pq d r):Nat)),⟨gG (KS d s).e (pq d r),(KS d s).n,(KS d s).k⟩):=by unfold bY;rw[a18 t0]
   by_cases c2:jh r∈s.2
   .have e2:kD d (F+1) r s=s:=by unfold kD;rw[a18 t0,a0U (by simpa using c2)]
    refine⟨?_,by rw[e2];exact hk,by rw[e2];exact⟨fun _=>c2,fun h0=>by omega⟩,by rw[e2];exact .refl s⟩;rw[e1,e2,q1,show gG (KS d s).e (pq d r)=(KS d s).e from a18 (q2.2 c2)];unfold yw;rw[a18 c]
   have e2:kD d (F+1) r s=(s.1,s.2++[jh r]):=by unfold kD;rw[a18 t0,a18 (by simpa using c2)]
   have hc:X9 (s.1,s.2++[jh r]) r:=⟨fun _=>by simp,fun h0=>by omega⟩;have hx:Ext s (s.1,s.2++[jh r]):=⟨[],[jh r],by simp⟩;refine⟨?_,by rw[e2];exact fun o ho k lK=>(hk o ho k lK).ext hx,by rw[e2];exact hc,by rw[e2];exact hx⟩;rw[e1,e2,q1,ahe hk hn,show gG (KS d s).e (pq d r)=(KS d s).e++[pq d r]from a0U (fun e=>c2 (q2.1 e))];unfold yw;rw[a18 c];simp[aaF,c2,a9E c2,pq]
  have t0:¬(decide (r<0)=true):=by simpa using c
  have yL:(KS d s).k.map (·.1)=s.1:=by unfold KS;rw[a8l];exact List.map_id _
  by_cases c2:r∈s.1
  .have e2:kD d (F+1) r s=s:=by unfold kD;rw[a0U t0,a18 (by simpa using c2)]
   have e1:bY d (F+1) r (KS d s)=(Wn (KS d s).k r,KS d s):=by unfold bY;rw[a0U t0,a18 (by rw[yL];simpa using c2)]
   refine⟨?_,by rw[e2];exact hk,by rw[e2];exact⟨fun h0=>absurd h0 c,fun _=>c2⟩,by rw[e2];exact .refl s⟩;rw[e1,e2,ahg c2]
  have aQ:r.toNat<d.au.length:=by have:=hr.1;omega
  have D6:∀k,k<(ay d r).aA.length->(ay d r).aA.getD k 0<r:=fun k lK=>by have h9:=(h.Ah r.toNat aQ k lK).1;have h9:(ay d r).aA.getD k 0<(r.toNat:Int):=h9;omega
  have MW:∀j,j<(ay d r).aA.length->jK d ((ay d r).aA.getD j 0) d.au.length:=fun j hj=>⟨by have:=D6 j hj;have:=hr.1;omega,(h.Ah r.toNat aQ j hj).2⟩;have VO:=Uw (g1:=fun j (y:LI0×Cs)=>(y.1.set j (bY d F ((ay d r).aA.getD j 0) y.2).1,(bY d F ((ay d r).aA.getD j 0) y.2).2)) (g2:=fun k y=>kD d F ((ay d r).aA.getD k 0) y)
   (fun j (y:LI0×Cs) (t:LI0×LI0)=>y=(((ay d r).aA.take j).map (yw t)++List.replicate ((ay d r).aA.length-j) 0,KS d t)/\KX d t/\KZ d t/\Ext s t/\r∉t.1/\∀i,i<j->X9 t ((ay d r).aA.getD i 0)) (ay d r).aA.length 0 (List.replicate (ay d r).aA.length 0,KS d s) s ⟨by simp,hs,hk,.refl s,c2,fun i hi=>by omega⟩ (fun j y t _ hj hy=>by
    obtain⟨rfl,y1,y2,y3,y4,y5⟩:=hy;have hj:j<(ay d r).aA.length:=(by omega);have ih:=aeF h hw hd he F _ t (by have:=D6 j hj;omega) y1 y2 (MW j hj) (by omega);have Zu:=a8r F ((ay d r).aA.getD j 0) r t (D6 j hj) y4 (by omega) (fun i hi k hk=>(h.Ah i hi k hk).1) (fun h5=>⟨h5,by have:=(MW j hj).1;omega⟩);have Ru:=MS h F ((ay d r).aA.getD j 0) t y1 (MW j hj);obtain⟨i1,i2,i3,i4⟩:=ih;simp only[i1];generalize kD d F ((ay d r).aA.getD j 0) t=u at i2 i3 i4 Zu Ru ⊢;refine⟨?_,Ru,i2,y3.trans i4,Zu,fun i hi=>?_⟩
    .simp only[a1n,and_true];have hl:(List.map (yw t) (List.take j (ay d r).aA)).length=j:=by rw[a5C,a4w];omega
     rw[show(ay d r).aA.length-j=((ay d r).aA.length-(j+1))+1 by omega,afe,List.set_append_right _ _ (by rw[hl];exact a1p j)];rw[hl,afs,List.set_cons_zero,a8p hj,a4V,a6j];congr 1
     .apply a5H;intro x hx;obtain⟨i,hi,rfl⟩:=a5Q.1 hx;have AY:i<j:=by simp at hi;omega
      have:=y5 i AY;rw[tC (l:=(ay d r).aA) (show i<(ay d r).aA.length by omega)]at this;rw[List.getElem_take];exact(abZ this i4).symm
     .rw[tC hj];rfl
    .by_cases AY:i<j
     .exact(y5 i AY).ext i4
     .rw[show i=j by omega];exact i3)
  have e1:bY d (F+1) r (KS d s)=(eG (aT (fun j (y:LI0×Cs)=>(y.1.set j (bY d F ((ay d r).aA.getD j 0) y.2).1,(bY d F ((ay d r).aA.getD j 0) y.2).2)) (ay d r).aA.length 0 (List.replicate (ay d r).aA.length 0,KS d s)).2.n (ay d r).var (aT (fun j (y:LI0×Cs)=>(y.1.set j (bY d F ((ay d r).aA.getD j 0) y.2).1,(bY d F ((ay d r).aA.getD j 0) y.2).2)) (ay d r).aA.length 0 (List.replicate (ay d r).aA.length 0,KS d s)).1,⟨(aT (fun j (y:LI0×Cs)=>(y.1.set j (bY d F ((ay d r).aA.getD j 0) y.2).1,(bY d F ((ay d r).aA.getD j 0) y.2).2)) (ay d r).aA.length 0 (List.replicate (ay d r).aA.length 0,KS d s)).2.e,dG (aT (fun j (y:LI0×Cs)=>(y.1.set j (bY d F ((ay d r).aA.getD j 0) y.2).1,(bY d F ((ay d r).aA.getD j 0) y.2).2)) (ay d r).aA.length 0 (List.replicate (ay d r).aA.length 0,KS d s)).2.n (ay d r).var (aT (fun j (y:LI0×Cs)=>(y.1.set j (bY d F ((ay d r).aA.getD j 0) y.2).1,(bY d F ((ay d r).aA.getD j 0) y.2).2)) (ay d r).aA.length 0 (List.replicate (ay d r).aA.length 0,KS d s)).1,(aT (fun j (y:LI0×Cs)=>(y.1.set j (bY d F ((ay d r).aA.getD j 0) y.2).1,(bY d F ((ay d r).aA.getD j 0) y.2).2)) (ay d r).aA.length 0 (List.replicate (ay d r).aA.length 0,KS d s)).2.k++[(r,eG (aT (fun j (y:LI0×Cs)=>(y.1.set j (bY d F ((ay d r).aA.getD j 0) y.2).1,(bY d F ((ay d r).aA.getD j 0) y.2).2)) (ay d r).aA.length 0 (List.replicate (ay d r).aA.length 0,KS d s)).2.n (ay d r).var (aT (fun j (y:LI0×Cs)=>(y.1.set j (bY d F ((ay d r).aA.getD j 0) y.2).1,(bY d F ((ay d r).aA.getD j 0) y.2).2)) (ay d r).aA.length 0 (List.replicate (ay d r).aA.length 0,KS d s)).1)]⟩):=by rw[bY,a0U t0,a0U (by rw[yL];simpa using c2)]
  have e2:kD d (F+1) r s=((aT (fun k y=>kD d F ((ay d r).aA.getD k 0) y) (ay d r).aA.length 0 s).1++[r],(aT (fun k y=>kD d F ((ay d r).aA.getD k 0) y) (ay d r).aA.length 0 s).2):=by rw[kD,a0U t0,a0U (by simpa using c2)]
  generalize aT (fun j (y:LI0×Cs)=>(y.1.set j (bY d F ((ay d r).aA.getD j 0) y.2).1,(bY d F ((ay d r).aA.getD j 0) y.2).2)) (ay d r).aA.length 0 (List.replicate (ay d r).aA.length 0,KS d s)=y at VO e1;generalize aT (fun k y=>kD d F ((ay d r).aA.getD k 0) y) (ay d r).aA.length 0 s=t at VO e2;obtain⟨rfl,f2,f3,f4,f5,f6⟩:=VO;rw[a3O]at f6;simp only[a3O,ady,afs,List.replicate_zero,a6l]at e1;have a8O:∀k∈(ay d r).aA,X9 t k:=fun k lK=>by
   obtain⟨i,hi,rfl⟩:=a5Q.1 lK;have:=f6 i hi
   rwa [tC hi]at this
  have hW:∀o,0<=o->gV o d.au.length->∀k∈(ay d o).aA,Hg k:=fun o _ ho k lK=>by
   obtain⟨i,hi,rfl⟩:=a5Q.1 lK;have:=hw.Ah o.toNat (by have:=ho.1;have:=ho.2;omega) i hi
   rwa [tC hi]at this
  have hrI:gV r d.au.length:=⟨by omega,hr.1⟩;have hel:t.2.length<=2^61:=a5W f2.len.2 he;have aeG:((ay d r).aA.map (yw t)).all (fun x=>x==((ay d r).aA.map (yw t)).getD 0 0)=false:=by
   cases e:((ay d r).aA.map (yw t)).all (fun x=>x==((ay d r).aA.map (yw t)).getD 0 0)
   .rfl
   exfalso;have hf:=hd.flat r.toNat aQ;rw[List.all_eq_false]at hf;obtain⟨x,hx,hx2⟩:=hf;have hx:x∈(ay d r).aA:=hx;have h0:0<(ay d r).aA.length:=List.length_pos_of_mem hx;rw[a5L]at e;have:=e (yw t x) (a1z.2 ⟨x,hx,rfl⟩);rw[tC (by simpa using h0),aa9]at this;have h00:(ay d r).aA[0]∈(ay d r).aA:=a5K h0;have:=a2Y hel (a8O x hx) (a8O _ h00) (hW r (by omega) hrI x hx) (hW r (by omega) hrI _ h00) (by simpa using this);apply hx2;have h9:(fE d r.toNat).aA.getD 0 0=(ay d r).aA[0]:=tC h0;rw[h9,this];simp
  have ag5:uQ (ay d r).var ((ay d r).aA.map (yw t))∉(KS d t).n.map Dc:=by
   intro hm;unfold KS at hm;rw[a8l]at hm;obtain⟨o,ho,e⟩:=a1z.1 hm;have ho2:=f2.n2 o ho;have RN:o.toNat<d.au.length:=by have:=ho2.1;have:=ho2.2;omega
   have ev:(fE d o.toNat).var=(fE d r.toNat).var:=congrArg Prod.fst e;have ep:Jj ((ay d o).aA.map (yw t))=Jj ((ay d r).aA.map (yw t)):=congrArg (fun z:Ky=>z.2.val) e;have hlen:((fE d o.toNat).aA.length:Int)=((fE d r.toNat).aA.length:Int):=(by rw[h.ksz _ RN,h.ksz _ aQ,ev]);have hlen:(ay d o).aA.length=(ay d r).aA.length:=by exact_mod_cast hlen
   have em:=ac0 (by simpa using hlen) (by rw[a5C];exact h.KW _ RN) ep;have ek:=map_inj (fun x hx y hy e=>a2Y hel (f3 o ho x hx) (a8O y hy) (hW o ho2.1 ho2 x hx) (hW r (by omega) hrI y hy) e) em;have:=hd.au _ _ RN aQ ev ek;have:o=r:=by have:=ho2.1;omega
   exact f5 (this▸ho)
  have hnl:(KS d t).n.length=t.1.length:=by unfold KS;simp
  have hR:eG (KS d t).n (ay d r).var ((ay d r).aA.map (yw t))=(t.1.length:Int):=by unfold eG;rw[aeG,a0U (by simp),a9E ag5,a5C,hnl]
  have hS:dG (KS d t).n (ay d r).var ((ay d r).aA.map (yw t))=(KS d t).n++[⟨(ay d r).var,(ay d r).aA.map (yw t)⟩]:=by unfold dG;rw[aeG,a0U (by simp),a0U ag5]
  have hx:Ext t (t.1++[r],t.2):=⟨[r],[],by simp⟩;have hc:X9 (t.1++[r],t.2) r:=⟨fun h0=>absurd h0 c,fun _=>by simp⟩;refine⟨?_,?_,by rw[e2];exact hc,by rw[e2];exact f4.trans hx⟩
  .rw[e1,e2,hR,hS,abY f3 (fun o ho=>(f2.n2 o ho).1) (by omega) f5 a8O];unfold yw;rw[a0U c];simp[aaF,f5]
  rw[e2];intro o ho k lK;rcases a3N.1 ho with ho|ho
  .exact(f3 o ho k lK).ext hx
  rw[a2p.1 ho]at lK;exact(a8O k lK).ext hx
open Go Tw Pv bV
theorem YL(b):Ei b=b.aA.all fun x=>x==b.aA.getD 0 0:=by
 have e:jS (U6 (QC b) 1 (max 1 b.aA.length))=true↔∀k,1<=k->k<b.aA.length->b.aA.getD k 0=b.aA.getD 0 0:=by
  unfold U6 gS;rw[J6 (r:=fun k=>k)];constructor
  .intro h k h1 h2;simpa[QC]using h k h1 (by omega)
  intro h k h1 h2;simpa[QC]using h k h1 (by omega)
 have e2:(b.aA.all fun x=>x==b.aA.getD 0 0)=true↔∀k,1<=k->k<b.aA.length->b.aA.getD k 0=b.aA.getD 0 0:=by
  rw[a5L];constructor
  .intro h k _ h2;have:=h _ (dF h2);simpa using this
  intro h x hx;obtain⟨k,hk,rfl⟩:=a5Q.1 hx;by_cases h0:k=0
  .subst h0;rw[tC hk];simp
  have:=h k (by omega) hk;rw[tC hk]at this;rw[this];simp
 have:Ei b=true↔(b.aA.all fun x=>x==b.aA.getD 0 0)=true:=by rw[e2,<-e];unfold Ei;cases jS (U6 (QC b) 1 (max 1 b.aA.length))<;>simp
 rw[a5R];exact this
theorem ahh{d}:jS (bH (cD0 d) d.aK.length)=true↔d.aK.Nodup:=by
 rw[dD];have h1:∀i,cD0 d i=false↔∀j,j<i->d.aK.getD j V0≠d.aK.getD i V0:=fun i=>by
  have:jS (bH (cD1 d i) i)=true↔∀j,j<i->d.aK.getD j V0≠d.aK.getD i V0:=by rw[dD];simp[cD1]
  rw[<-this];unfold cD0;cases jS (bH (cD1 d i) i)<;>simp
 have hg:∀j,(hj:j<d.aK.length)->d.aK.getD j V0=d.aK[j]:=fun j hj=>by simp[List.getD,a0N hj]
 constructor
 .intro h;rw[ad8,ade];intro i j hi hj AY;have:=(h1 j).1 (h j hj) i AY
  rwa [hg i hi,hg j hj]at this
 intro h i hi;rw[h1];intro j hj;rw[ad8,ade]at h;have:=h j i (by omega) hi hj
 rwa [hg i hi,hg j (by omega)]
theorem ahi{d}:jS (bH (cD2 d) d.au.length)=true↔(∀i j,i<d.au.length->j<d.au.length->(fE d i).var=(fE d j).var->(fE d i).aA=(fE d j).aA->i=j)/\∀i,i<d.au.length->((fE d i).aA.all fun x=>x==(fE d i).aA.getD 0 0)=false:=by
 rw[dD];have h1:∀i,cD2 d i=false↔Ei (fE d i)=false/\∀j,j<i->¬((fE d j).var=(fE d i).var/\(fE d j).aA=(fE d i).aA):=fun i=>by
  have h3:∀j,cD3 d i j=false↔¬((fE d j).var=(fE d i).var/\(fE d j).aA=(fE d i).aA):=fun j=>by
   unfold cD3;by_cases hv:(fE d j).var=(fE d i).var
   .rw[a18 (by rw[a6E];exact hv),a3L];exact⟨fun a b=>a b.2,fun a b=>a ⟨hv,b⟩⟩
   rw[a0U (by rw[a6E];exact hv)];exact⟨fun _ a=>hv a.1,fun _=>rfl⟩
  have:jS (bH (cD3 d i) i)=true↔∀j,j<i->¬((fE d j).var=(fE d i).var/\(fE d j).aA=(fE d i).aA):=by rw[dD];exact ad4 fun j=>ad4 fun _=>h3 j
  rw[<-this];unfold cD2;cases Ei (fE d i)
  .cases jS (bH (cD3 d i) i)<;>simp
  simp
 constructor
 .intro h;refine⟨fun i j hi hj hv hk=>?_,fun i hi=>by rw[<-YL];exact((h1 i).1 (h i hi)).1⟩;rcases Nat.lt_trichotomy i j with AY|AY|AY
  .exact absurd ⟨hv,hk⟩ (((h1 j).1 (h j hj)).2 i AY)
  .exact AY
  exact absurd ⟨hv.symm,hk.symm⟩ (((h1 i).1 (h i hi)).2 j AY)
 intro h i hi;rw[h1];refine⟨by rw[YL];exact h.2 i hi,fun j hj hc=>?_⟩;have:=h.1 j i (by omega) hi hc.1 hc.2;omega
theorem ac1{d}:(jS (bH (cD0 d) d.aK.length)=true/\jS (bH (cD2 d) d.au.length)=true)↔DgD d:=by rw[ahh,ahi];exact⟨fun h=>⟨h.1,h.2.1,h.2.2⟩,fun h=>⟨h.aK,h.au,h.flat⟩⟩
theorem QJ{l}{m:Nat}:Ag l m=true↔l=dS m:=by
 unfold Ag;have e:jS (bH (a8m l) l.length)=true↔∀j,j<l.length->l.getD j 0=(j:Int):=by rw[dD];simp[a8m]
 constructor
 .intro h;split at h
  .rename_i h1;have hl:(l.length:Int)=(m:Int):=(by simpa using h);have hl:l.length=m:=(by omega);rw[pW (d:=0) (by rw[mQ,hl])];intro j hj;rw[e.1 h1 j hj];have:j<m:=(by omega);simp[dS,List.getD,this]
  cases h
 rintro rfl;rw[a18 (e.2 fun j hj=>by rw[mQ]at hj;simp[dS,List.getD,hj]),mQ];simp
theorem YM{d}:oZ d=true↔DgD d/\srN d d.root=dS d.au.length/\srE d d.root=dS d.aK.length:=by
 rw[<-ac1,<-QJ,<-QJ];unfold oZ;cases jS (bH (cD0 d) d.aK.length)
 .simp
 cases jS (bH (cD2 d) d.au.length)
 .simp
 cases Ag (srN d d.root) (d.au.length:Int)<;>simp
open Go Tw Pv bV
abbrev ZA:Cs:=⟨[],[],[]⟩
def eH(d:Dg):Dg:=⟨d.aj,d.aB,(bY d 6002 d.root ZA).2.e,(bY d 6002 d.root ZA).2.n,(bY d 6002 d.root ZA).1⟩
theorem Ws{d}:Em d ZA:=⟨a6m,by simp,a6m,by simp,a6m,by simp⟩
abbrev a8P(b:Br):Bool:=b.aA.all fun x=>x==b.aA.getD 0 0
theorem a3a{d}:∀(F) (r) (x),(∀b∈x.n,a8P b=false)->∀b∈(bY d F r x).2.n,a8P b=false
 | 0,_,_,h=>h
 |F+1,r,x,h=>by
  unfold bY;split
  .exact h
  split
  .exact h
  have hb:=(Jk (d:=d) (fun y=>∀b∈y.n,a8P b=false) (F:=F) (r:=r) h (fun j y _ hy=>a3a F _ y hy)).2;intro b Sr;simp only[dG]at Sr;split at Sr
  .exact hb b Sr
  rename_i hf;split at Sr
  .exact hb b Sr
  rcases a3N.1 Sr with Sr|Sr
  .exact hb b Sr
  rw[a2p.1 Sr];simpa using hf
theorem a5c{d}(h:D5 d)(e:eH d=d):DgD d:=by
 have hc:=QG h 6002 d.root ZA Ws h.root;have hf:=a3a (d:=d) 6002 d.root ZA (by simp);have ee:(bY d 6002 d.root ZA).2.e=d.aK:=congrArg Dg.aK e;have en:(bY d 6002 d.root ZA).2.n=d.au:=congrArg Dg.au e;rw[en]at hf;have hg:∀j,(hj:j<d.au.length)->fE d j=d.au[j]:=fun j hj=>by simp[List.getD,a0N hj]
 refine⟨ee▸hc.e1,fun i j hi hj hv hk=>?_,fun i hi=>?_⟩
 .have hn:(d.au.map Dc).Nodup:=en▸hc.n1;have:=(aaT (i:=i) (j:=j) (h₀:=by simpa using hi) (h₁:=by simpa using hj) hn).1 (by rw[aa9,aa9,<-hg i hi,<-hg j hj];show uQ _ _=uQ _ _;rw[hv,hk])
  exact this
 have:=hf (fE d i) (by rw[hg i hi];exact a5K hi);exact this
theorem QK{d:Dg}{n m x}(hm:m<=2^61)(hx:Hg x)(hc:X9 (dS n,dS m) x):yw (dS n,dS m) x=x:=by
 have hid:∀(n:Nat) (y:Int),y∈dS n->(((dS n).idxOf y:Nat):Int)=y:=fun n y hy=>by have hl:=a5P.2 hy;have h1:=a9I hl;rw[mQ]at hl;simp only[dS,aa9,afo]at h1;exact h1
 unfold yw;by_cases c:x<0
 .rw[a18 c];have h1:=hid m _ (hc.1 c);have h2:jh x=-1-x:=Oc hx c;have h3:=a2T (hc.1 c);have h4:=h3.2;rw[show((((dS n,dS m):LI0×LI0).2.idxOf (jh x):Nat):Int)=jh x from h1,h2,fP (by omega) (by omega)];omega
 rw[a0U c];exact hid n _ (hc.2 (by omega))
theorem YN{α:Type}(l:List α)(f)(h:∀j,(hj:j<l.length)->f j=l[j]):(dS l.length).map f=l:=by apply aan (by simp[dS]);intro j h1 h2;simp[dS,h j h2]
theorem a3b{d:Dg}{j}(hj):d.aK.getD ((j:Nat):Int).toNat V0=d.aK[j]:=by simp[List.getD,a0N hj]
theorem a3c{l:LI0}{m}(hl:l.length=m)(h:∀j,(hj:j<l.length)->l[j]=(j:Int)):l=dS m:=by apply aan (by rw[mQ,hl]);intro j h1 h2;rw[h j h1];simp[dS]
theorem ahj{d}(h:D5 d)(hw:FI d)(hd:DgD d)(he:d.aK.length<=2^61){t}(ht:KX d t)(hk:KZ d t)(hc:X9 t d.root):((KS d t).e=d.aK/\(KS d t).n=d.au/\yw t d.root=d.root)↔(t.1=dS d.au.length/\t.2=dS d.aK.length):=by
 have hW:∀o,gV o d.au.length->∀k∈(ay d o).aA,Hg k:=fun o ho k lK=>by
  obtain⟨i,hi,rfl⟩:=a5Q.1 lK;have:=hw.Ah o.toNat (by have:=ho.1;have:=ho.2;omega) i hi
  rwa [tC hi]at this
 have hg:∀j,(hj:j<d.au.length)->ay d (j:Nat)=d.au[j]:=fun j hj=>by simp[List.getD,a0N hj]
 constructor
 .rintro⟨h1,h2,h3⟩;have l1:t.2.length=d.aK.length:=by have:=congrArg List.length h1;simpa[KS]using this
  have l2:t.1.length=d.au.length:=by have:=congrArg List.length h2;simpa[KS]using this
  have e2:t.2=dS d.aK.length:=a3c l1 fun j hj=>by have tX:j<d.aK.length:=(by omega);have:(KS d t).e[j]'(by rw[h1];exact tX)=d.aK[j]:=(by simp only[h1]);unfold KS at this;simp only[aa9]at this;rw[<-a3b tX]at this;exact YK hd.aK (ht.e2 _ (a5K hj)) (aH tX) this
  have key:∀(N:Nat) (o:Int),o∈t.1->o.toNat<N->yw t o=o:=by
   intro N
   induction N with
   |zero=>intro o _ hN;omega
   |succ N ih=>
    intro o ho hN;have ho2:=ht.n2 o ho;have aQ:=a5P.2 ho;have tX:t.1.idxOf o<d.au.length:=(by omega);have hel:=a9I aQ;have:(KS d t).n[t.1.idxOf o]'(by rw[h2];exact tX)=d.au[t.1.idxOf o]:=(by simp only[h2]);unfold KS at this;simp only[aa9,hel]at this;have hkm:(ay d o).aA.map (yw t)=(ay d o).aA:=by
     conv=>rhs;rw[<-List.map_id (ay d o).aA]
     apply a5H;intro k lK;show yw t k=k;have hcv:=hk o ho k lK;by_cases c:k<0
     .have:=QK (d:=d) (n:=0) (m:=d.aK.length) he (hW o ho2 k lK) ⟨fun c=>by have:=hcv.1 c;rwa [e2]at this,fun h0=>by omega⟩;unfold yw at this ⊢;rw[a18 c]at this ⊢;rw[e2];exact this
     obtain⟨i,hi,rfl⟩:=a5Q.1 lK;have ars:o.toNat<d.au.length:=by have:=ho2.1;have:=ho2.2;omega
     have h9:=(h.Ah o.toNat ars i hi).1;have h9:(ay d o).aA.getD i 0<(o.toNat:Int):=h9;rw[tC hi]at h9;exact ih _ (hcv.2 (by omega)) (by omega)
    rw[hkm]at this;have hv:(fE d (t.1.idxOf o)).var=(fE d o.toNat).var:=(by rw[show fE d (t.1.idxOf o)=d.au[t.1.idxOf o]from hg _ tX,<-this]);have yL:(fE d (t.1.idxOf o)).aA=(fE d o.toNat).aA:=(by rw[show fE d (t.1.idxOf o)=d.au[t.1.idxOf o]from hg _ tX,<-this]);have h8:=hd.au _ _ tX (by have:=ho2.1;have:=ho2.2;omega) hv yL;unfold yw;rw[a0U (by have:=ho2.1;omega),h8];have:=ho2.1;omega
  refine⟨a3c l2 fun j hj=>?_,e2⟩;have hm:=a5K hj;have:=key ((t.1[j]).toNat+1) _ hm (by omega);unfold yw at this;rw[a0U (by have:=(ht.n2 _ hm).1;omega)]at this;rw[<-this];have:t.1.idxOf t.1[j]=j:=by have h5:=a5P.2 hm;exact(aaT (i:=t.1.idxOf t.1[j]) (j:=j) (h₀:=h5) (h₁:=hj) ht.n1).1 (a9I h5)
  rw[this]
 rintro⟨h1,h2⟩;obtain⟨t1,t2⟩:=t;simp only at h1 h2;subst h1 h2;refine⟨?_,?_,QK (d:=d) he hw.root hc⟩
 .exact YN d.aK (fun e=>d.aK.getD e.toNat V0) fun j hj=>a3b hj
 refine YN d.au _ fun j hj=>?_;have hkm:(ay d (j:Nat)).aA.map (yw (dS d.au.length,dS d.aK.length))=(ay d (j:Nat)).aA:=by
  conv=>rhs;rw[<-List.map_id (ay d (j:Nat)).aA]
  apply a5H;intro k lK;exact QK (d:=d) he (hW _ (aH hj) k lK) (hk _ (by show(j:Int)∈dS _;unfold dS;rw[a1z];exact⟨j,a5D.2 hj,rfl⟩) k lK)
 rw[hkm,hg j hj]
theorem L6{d}(h:D5 d)(hw:FI d)(he:d.aK.length<=2^61)(hn:d.au.length<=6000):eH d=d↔oZ d=true:=by
 have main:DgD d->(eH d=d↔(srN d d.root=dS d.au.length/\srE d d.root=dS d.aK.length)):=fun hd=>by
  have hr:d.root+1<6002:=by have:=h.root.1;omega
  have ha:=aeF h hw hd he 6002 d.root ([],[]) hr sr0 (fun o ho=>by cases ho) h.root (by omega);have hs:=MS h 6002 d.root ([],[]) sr0 h.root;have hi:=ahj h hw hd he hs ha.aA ha.cov;have e0:KS d ([],[])=ZA:=rfl;have e1:=ha.eq;rw[e0]at e1;unfold srN srE;rw[<-hi];unfold eH;rw[e1];obtain⟨d1,d2,d3,d4,d5⟩:=d;simp
 rw[YM];constructor
 .intro e;have hd:=a5c h e;exact⟨hd,(main hd).1 e⟩
 rintro⟨hd,h2⟩;exact(main hd).2 h2
open Go Tw Pv bV
abbrev HCw(l:Lo)(x:Cs):List (PB aG):=[.list false false 3 l.s,.list false false 3 l.o,.map (kV.es (Aj x.e)),.map (kK.es (zF x.n)),mkC l.s l.o 12 13 0,.gone,.gone,.cells l.ps,.cells [.ptr 4 0 9],.map (kI.es (Nu x.k)),.cells [.map 9],.cells [.fn 195 [] pC],Ry x.e,Rz x.n]
structure ClP(l:Lo):Prop where
 s:l.s=l.d.aj
 o:l.o=l.d.aB
 t:D5 l.d
 e:l.d.aK.length+1<=ah
 n:l.d.au.length<=6000
 k:∀i,i<l.d.au.length->1<=(fE l.d i).aA.length
 sl:l.d.aj.length<=ah
 ol:l.d.aB.length<=ah
def aeH:fV aG:=bU 161 (a1 loA) dA (fun l=>eH l.d) (fun l=>[ClP l]) aeD
theorem amj:Gd aeH:=amh.Y7 6010 aew fun n hn hO hOl l hp=>by obtain⟨n,rfl⟩:∃k,n=k+6009:=⟨n-6009,by omega⟩;have h:ClP l:=hp _ iC;obtain⟨s,o,d⟩:=l;obtain⟨e1,e2,ht,he,hn6,hk,hsl,RN⟩:=h;obtain rfl:s=d.aj:=e1;obtain rfl:o=d.aB:=e2;have hO':∀m,n+1<=m->Ok m _:=fun m hm=>hOl m (by omega);have he:d.aK.length+1<=ah:=he;have hn6:d.au.length<=6000:=hn6;have hr:=ht.root.1;have hr:d.root<(d.au.length:Int):=hr;have nV:=sCl (N:=n+1) hO' ht he (by unfold ah;omega) hk 6002 d.root ZA (by omega) Ws ht.root (by omega);have fQ:=arn (n:=n+6008) (hO' _ (by omega)) d.aj d.aB hsl RN;show nN _ _ _ _ _ (dA.put (eH d)) _;unfold eH;generalize bY d 6002 d.root ZA=z at nV ⊢;obtain⟨v,e,nd,k⟩:=z;exact aN (hO (n+6009) (by omega)) (.fr [] fQ (.PL (H2:=HCw (zH d) ⟨e,nd,k⟩) [1,2,3,4,5,6,7,0,8,9,10,11] [7,8,10,11] nV .rr))
open Go Tw Pv bV
theorem a3d{d}(h:D5 d):∀(F) (r) (x),(∀b∈x.n,b.aA.length<=12)->jK d r d.au.length->∀b∈(bY d F r x).2.n,b.aA.length<=12
 | 0,_,_,hx,_=>hx
 |F+1,r,x,hx,hr=>by
  unfold bY;by_cases c:r<0
  .rw[a18 (by simpa using c)];exact hx
  rw[a0U (by simpa using c)];split
  .exact hx
  have aQ:r.toNat<d.au.length:=by have:=hr.1;omega
  have hb:=Jk (d:=d) (fun y=>∀b∈y.n,b.aA.length<=12) (F:=F) (r:=r) hx (fun j y hj hy=>a3d h F _ y hy (by have h9:=h.Ah r.toNat aQ j hj;have h8:=h9.1;have h8:(ay d r).aA.getD j 0<(r.toNat:Int):=h8;exact⟨by have:=hr.1;omega,h9.2⟩))
  intro b Sr;simp only[dG]at Sr;split at Sr
  .exact hb.2 b Sr
  split at Sr
  .exact hb.2 b Sr
  rcases a3N.1 Sr with Sr|Sr
  .exact hb.2 b Sr
  rw[a2p.1 Sr];show List.length _<=12;rw[hb.1];exact h.KW r.toNat aQ
theorem yh{d}(h:FI d)(he:d.aK.length+1<=ah)(hs:d.aj.length<=ah)(ho:d.aB.length<=ah)(h0:(bI d).2=0):(bI d).1=zH d/\ClP (zH d):=by
 rw[KY h (by omega)]at h0 ⊢;have h0:bn d=0:=h0;have hc:=jo ho (show d.aK.length<=ah by omega) (by simp[h0]);have hf:(bg d.aj d.aB != 0)=false:=by
  cases e:bg d.aj d.aB != 0
  .rfl
  unfold bn at h0;rw[a18 e]at h0;simp[h0]at e
 refine⟨by rw[a0U (by rw[hf];simp)],rfl,rfl,hc.1,he,hc.2,fun i hi=>?_,hs,ho⟩;have h1:=hc.1.ksz i hi;have h2:=hc.1.var i hi;have h3:=(BI hf).sz _ (dF (s:=d.aj) (k:=(fE d i).var.toNat) (by have:=h2.2;have:=h2.1;omega));have h1:((fE d i).aA.length:Int)=d.aj.getD (fE d i).var.toNat 0:=h1;show 1<=(fE d i).aA.length;omega
def vg(d:Dg):Lo×Int:=if(bI d).2==0 then(if(!(Jm (eH (bI d).1.d) d))=true then((bI d).1,4)else bI d)else bI d
theorem a0R{d}(h:D5 d)(hn:d.au.length<=6000):(eH d).aK.length<=d.aK.length/\(eH d).au.length<=6000/\∀b∈(eH d).au,b.aA.length<=12:=by have hc:=QG h 6002 d.root ZA Ws h.root;refine⟨hc.amc,?_,a3d h 6002 d.root ZA (by simp) h.root⟩;have h1:=hc.KW;have h2:=hc.n2;show(bY d 6002 d.root ZA).2.n.length<=6000;omega
theorem a5d{d}(h:FI d)(hs:d.aj.length<=ah)(ho:d.aB.length<=2^20)(he:d.aK.length+1<=ah)(h0:((bI d).2==0)=true):ClP (bI d).1/\(eH (bI d).1.d).aj.length<=ah/\(eH (bI d).1.d).aB.length<=ah/\(eH (bI d).1.d).aK.length<=ah/\(eH (bI d).1.d).au.length<=ah/\∀k,k<(eH (bI d).1.d).au.length->((eH (bI d).1.d).au.getD k lD).aA.length<=ah:=by
 have ho:d.aB.length<=ah:=by unfold ah;omega
 obtain⟨h1,h2⟩:=yh h he hs ho (by simpa using h0);rw[h1];obtain⟨a,b,c⟩:=a0R h2.t h2.n;refine⟨h2,hs,ho,?_,?_,fun k hk=>?_⟩
 .have a:(eH d).aK.length<=d.aK.length:=a;show(eH d).aK.length<=ah;omega
 .have b:(eH d).au.length<=6000:=b;show(eH d).au.length<=ah;unfold ah;omega
 exact Yu (c _ (YG hk))
def aeI:fV aG:=bU 172 (a1 dA) (dJ (a2 loA iA)) (fun p=>vg p) (fun p=>[FI p,p.aj.length<=ah,p.aB.length<=2^20,p.aK.length+1<=ah]) aeH
theorem amk:Gd aeI:=amj.add fun n hO p hp=>aN hO (.o (hp _ yC) (.o (hp _ hh2) (.o (by have h9:p.aK.length+1<=ah:=hp _ (.tail _ (.tail _ (.tail _ (.head _))));show p.aK.length<=ah;omega) (.sh (fun h=>have q:=a5d (hp _ iC) (hp _ yC) (hp _ hh2) (hp _ (.tail _ (.tail _ (.tail _ (.head _))))) h;.o q.1 (.o q.2.1 (.o q.2.2.1 (.o q.2.2.2.1 (.o q.2.2.2.2.1 (.o q.2.2.2.2.2 (.ss .rr .rr))))))) fun _=>.rr))))
theorem En{d}(h:FI d)(hs:d.aj.length<=ah)(ho:d.aB.length<=ah)(he:d.aK.length+1<=ah):vg d=(if(bg d.aj d.aB != 0)=true then lo0 else zH d,gU d):=by
 have h9:=KY h (show d.aK.length<=ah by omega);unfold vg gU;by_cases h0:(bI d).2=0
 .obtain⟨h1,h2⟩:=yh h he hs ho h0;have h3:=L6 h2.t h (show d.aK.length<=2^61 by unfold ah at he;omega) h2.n;have h4:bn d=0:=by rw[h9]at h0;exact h0
  rw[a18 (show((bI d).2==0)=true by simpa using h0),h1,h4,a0U (show ¬(((0:Int) != 0)=true) by simp)];rw[h9]at h1;show(if(!(Jm (eH d) d))=true then(zH d,4)else bI d)=_;have h1:(if(bg d.aj d.aB != 0)=true then lo0 else zH d)=zH d:=h1;rw[h9,h1];by_cases h5:eH d=d
  .rw[a0U (show ¬((!(Jm (eH d) d))=true) by rw[a2W.2 h5];simp),a0U (show ¬((!(oZ d))=true) by rw[h3.1 h5];simp),h4]
  have h6:Jm (eH d) d=false:=by
   cases e:Jm (eH d) d
   .rfl
   exact absurd (a2W.1 e) h5
  have h7:oZ d=false:=by
   cases e:oZ d
   .rfl
   exact absurd (h3.2 e) h5
  rw[a18 (show(!(Jm (eH d) d))=true by rw[h6];rfl),a18 (show(!(oZ d))=true by rw[h7];rfl)]
 have h4:¬bn d=0:=by rw[h9]at h0;exact h0
 rw[a0U (show ¬(((bI d).2==0)=true) by simpa using h0),h9,a18 (show(bn d != 0)=true by simpa using h4)]
open Go Tw Pv bV
def cellsD(d:Dg):List V:=(List.range (wI d.aj)).map fun(k:Nat)=>mW d (gq d.aj k)
open Go Tw Pv bV
def Hl(N:List Br)(c:Int)(ks:LI0):Int:=if(ks.all fun x=>x==ks.getD 0 0)=true then ks.getD 0 0 else(N.idxOf (⟨c,ks⟩:Br):Nat)
def qO(N:List Br)(c:Int)(ks:LI0):List Br:=if(ks.all fun x=>x==ks.getD 0 0)=true then N else if(⟨c,ks⟩:Br)∈N then N else N++[⟨c,ks⟩]
abbrev EN:Type:=List V×List Br
def D7(f:LI0->EN->Int×EN)(c:Int)(p:LI0)(j:Nat)(y:LI0×EN):LI0×EN:=(y.1++[(f (p.set c.toNat j) y.2).1],(f (p.set c.toNat j) y.2).2)
def je(s:LI0)(l:List V):LI0->LI0->EN->Int×EN
 | [],p,x=>(i64.wrap (-1-(x.1.idxOf (l.getD (jE s p).toNat V0):Nat)),(gG x.1 (l.getD (jE s p).toNat V0),x.2))
 |c::r,p,x=>
  let y:=aT (D7 (je s l r) c p) (s.getD c.toNat 0).toNat 0 ([],x)
  (Hl y.2.2 c y.1,(y.2.1,qO y.2.2 c y.1))
def wO(s:LI0):LI0->Nat
 | []=>1
 |c::r=>(s.getD c.toNat 0).toNat*wO s r
theorem Wu{s}(hs:oh s):∀{o},(∀c∈o,gV c s.length)->1<=wO s o
 | [],_=>a1p _
 |c::r,h=>by have h1:=Wu hs (o:=r) fun c hc=>h c (by simp[hc]);obtain⟨h2,h3⟩:=h c (by simp);have h4:=hs _ (dF (s:=s) (k:=c.toNat) (by omega));have h5:1*1<=(s.getD c.toNat 0).toNat*wO s r:=aix (by omega) h1;simpa[wO]using h5
theorem a0S(E v):(gG E v).length<=E.length+1:=by unfold gG;split<;>simp
theorem a8R(N c ks):(qO N c ks).length<=N.length+1:=by
 unfold qO;split
 .omega
 split<;>simp
theorem ac2{f c p n w}(h:∀q x,(f q x).2.1.length<=x.1.length+w/\(f q x).2.2.length+1<=x.2.length+w)(x):(aT (D7 f c p) n 0 ([],x)).1.length=n/\(aT (D7 f c p) n 0 ([],x)).2.1.length<=x.1.length+n*w/\(aT (D7 f c p) n 0 ([],x)).2.2.length+n<=x.2.length+n*w:=by
 have:=dB (g:=D7 f c p) (m:=n) (k:=0) (s:=([],x)) (fun k y=>y.1.length=k/\y.2.1.length<=x.1.length+k*w/\y.2.2.length+k<=x.2.length+k*w) ⟨rfl,by simp,by simp⟩ (fun j y _ _ hy=>by
  obtain⟨h1,h2,h3⟩:=hy;have:=h (p.set c.toNat j) y.2;refine⟨by simp[D7,h1],?_,?_⟩
  .simp only[D7,a4p,abm];omega
  simp only[D7,a4p,abm];omega)
 rw[a3O]at this;exact this
theorem a0T{s l}(hs:oh s):∀(o p) (x),(∀c∈o,gV c s.length)->(je s l o p x).2.1.length<=x.1.length+wO s o/\(je s l o p x).2.2.length+1<=x.2.length+wO s o
 | [],p,x,_=>by have:=a0S x.1 (l.getD (jE s p).toNat V0);exact⟨this,by simp[je,wO]⟩
 |c::r,p,x,h=>by
  obtain⟨h1,h2,h3⟩:=ac2 (f:=je s l r) (c:=c) (p:=p) (n:=(s.getD c.toNat 0).toNat) (w:=wO s r) (fun q x=>a0T hs r q x fun c hc=>h c (by simp[hc])) x;obtain⟨i1,i2⟩:=h c (by simp);have h4:=hs _ (dF (s:=s) (k:=c.toNat) (by omega));simp only[je,wO];generalize aT (D7 (je s l r) c p) (s.getD c.toNat 0).toNat 0 ([],x)=y at h1 h2 h3;refine⟨h2,?_⟩;by_cases hn:(s.getD c.toNat 0).toNat=1
  .have e:qO y.2.2 c y.1=y.2.2:=by
    unfold qO;rw[a18];rw[hn]at h1
    match hy:y.1,h1 with
    | [a],_=>simp
   rw[e];omega
  have:=a8R y.2.2 c y.1;omega
theorem a8S{α:Type}[DecidableEq α]{l:List α}{d a c}(hc:∀k,k<l.length->c k=decide (l.getD k d=a)):(a∈l->bH c l.length=.inr (l.idxOf a))/\(a∉l->jS (bH c l.length)=true):=by
 constructor
 .intro h;have hi:=a5P.2 h;have h1:c (l.idxOf a)=true:=by rw[hc _ hi,a1F,List.getD,a0N hi,a6b,a9I]
  cases e:jS (bH c l.length)
  .obtain⟨j,hj,cj,hb,e2⟩:=BD e;rw[e2];congr 1;rcases Nat.lt_trichotomy j (l.idxOf a)with g|g|g
   .exfalso;rw[hc j hj,a1F,List.getD,a0N hj,a6b]at cj;have:=List.not_of_lt_findIdx (p:=(·==a)) g;rw[cj]at this;simp at this
   .exact g
   rw[hb _ g]at h1;cases h1
  rw[dD.1 e _ hi]at h1;cases h1
 intro h;refine dD.2 fun j hj=>?_;rw[hc j hj,a3L,List.getD,a0N hj,a6b];rintro rfl;exact h (a5K hj)
structure PtP(s o:LI0)(l:List V):Prop where
 bP:wo s
 ord:∀c∈o,gV c s.length
 len:(l.length:Int)=bG s
 ahk:o.length<=ah
 slen:s.length<=ah
open Go Tw Pv bV
def kL(s o:LI0)(l:List V):Dg:=⟨s,o,(je s l o (List.replicate s.length 0) ([],[])).2.1,(je s l o (List.replicate s.length 0) ([],[])).2.2,(je s l o (List.replicate s.length 0) ([],[])).1⟩
theorem QL:∀{s},oh s->jZ s (List.replicate s.length 0)=true
 | [],_=>rfl
 |a::s,h=>by have:=h a (a3M ..);simp only[a4T,afe,jZ,a2K,a1F];exact⟨⟨aa7 _,by omega⟩,QL h.tail⟩
open Go Tw Pv bV
theorem a8T{a b}(ha:a.length<=12)(he:a.length=b.length)(h:Jj a=Jj b):a=b:=by
 have e:∀l:LI0,l.length<=12->(Jj l).take l.length=l:=fun l hl=>by unfold Jj;rw[afC,a7x hl,List.take_left]
 rw[<-e a ha,<-e b (by omega),h,he]
def NOk(s:LI0)(N:List Br):Prop:=∀b∈N,gV b.var s.length/\(b.aA.length:Int)=s.getD b.var.toNat 0
theorem a8U{s}(hs:oh s){N}(h:NOk s N){c ks}(hc:gV c s.length)(hk:(ks.length:Int)=s.getD c.toNat 0){b}(hb:b∈N):Dc b=uQ c ks↔b=⟨c,ks⟩:=by
 constructor
 .intro e;obtain⟨v,l⟩:=b;have e1:v=c:=congrArg Prod.fst e;subst e1;have e2:Jj l=Jj ks:=congrArg (fun x:Ky=>x.2.1) e;have hl:=(h _ hb).2;have hl:(l.length:Int)=s.getD v.toNat 0:=hl;have hz:=hs _ (dF (s:=s) (k:=v.toNat) (by have:=hc.1;have:=hc.2;omega));rw[a8T (by omega) (by omega) e2]
 rintro rfl;rfl
theorem YO{s}(hs:oh s){N}(h:NOk s N){c ks}(hc:gV c s.length)(hk:(ks.length:Int)=s.getD c.toNat 0):eG N c ks=Hl N c ks/\dG N c ks=qO N c ks:=by
 have hm:uQ c ks∈N.map Dc↔(⟨c,ks⟩:Br)∈N:=by
  rw[a1z];constructor
  .rintro⟨b,hb,e⟩;rw[(a8U hs h hc hk hb).1 e]at hb;exact hb
  intro hb;exact⟨_,hb,rfl⟩
 have hi:(N.map Dc).idxOf (uQ c ks)=N.idxOf (⟨c,ks⟩:Br):=by
  clear hm
  induction N with
  |nil=>rfl
  |cons b N ih=>
   have e:=a8U hs h hc hk (b:=b) (by simp);rw[a4W,aeJ,aeJ,ih fun b hb=>h b (by simp[hb])];have:(Dc b==uQ c ks)=(b==(⟨c,ks⟩:Br)):=by rw[a5R,a6E,a6E];exact e
   rw[this]
 unfold eG Hl dG qO;rw[hi];refine⟨rfl,?_⟩;split
 .rfl
 by_cases g:uQ c ks∈N.map Dc
 .rw[a18 g,a18 (hm.1 g)]
 rw[a0U g,a0U fun x=>g (hm.2 x)]
open Go Tw Pv bV
theorem ac3{s a b}(h:a.Perm b):wO s a=wO s b:=by
 induction h with
 |nil=>rfl
 |cons x _ ih=>simp only[wO,ih]
 |swap x y l=>simp only[wO];rw[<-Nat.mul_assoc,<-Nat.mul_assoc,Nat.mul_comm (s.getD y.toNat 0).toNat]
 |trans _ _ i1 i2=>rw[i1,i2]
theorem YP{s}(hs:oh s):∀(m k),k+m=s.length->(wO s ((List.range' k m).map fun(j:Nat)=>(j:Int)):Int)=bG (s.drop k)
 | 0,k,h=>by rw[agz (by omega)];rfl
 |m+1,k,h=>by
  have hk:k<s.length:=by omega
  have hz:=hs _ (dF (s:=s) (k:=k) hk);rw[List.range'_succ,a4W,wO,Qh hk,afi,YP hs m (k+1) (by omega),a5U,ait (by omega)]
theorem Ho{s o}(hs:oh s)(h:ku s.length o=true):(wO s o:Int)=bG s:=by have h':=h;unfold ku at h';rw[a1F]at h';have hi:=Ul s.length;have wR:=hi;unfold ku at wR;rw[a1F]at wR;have hp:o.Perm (dS s.length):=(a7t h'.2.2 wR.2.2).2 fun a=>⟨fun ha=>mX hi (h'.2.1 a ha),fun ha=>mX h (wR.2.1 a ha)⟩;rw[ac3 hp];have:=YP hs s.length 0 (by omega);rw[<-List.range_eq_range']at this;exact this
open Go Tw Pv bV
inductive To(d:Dg)(q:LI0):Int->V->Prop
 |fin {r:Int} (h:r<0):To d q r (d.aK.getD (jh r).toNat V0)
 |step {r:Int} {c:V} (h:0<=r) (t:To d q ((ay d r).aA.getD (q.getD (ay d r).var.toNat 0).toNat 0) c):To d q r c
theorem To.at_{d}(h:D5 d){q}(hq:jZ d.aj q=true){r c}(t:To d q r c):∀F:Nat,r<F->jK d r d.au.length->c=d.aK.getD (jh (W9 d q F r)).toNat V0:=by
 induction t with
 |fin hr=>
  intro F _ _;cases F with
  |zero=>rfl
  |succ F=>rw[W9,a18 hr]
 |step hr _ ih=>
  intro F hF hk;cases F with
  |zero=>omega
  |succ F=>
   rw[W9,a0U (by omega)];have:=(QD h hq ⟨hr,hk.1⟩).2.2;exact ih F (by have:=this.1;omega) ⟨by have:=this.1;have:=hk.1;omega,this.2⟩
theorem To.of{d}(h:D5 d){q}(hq:jZ d.aj q=true):∀(F:Nat) (r:Int),r<F->jK d r d.au.length->To d q r (d.aK.getD (jh (W9 d q F r)).toNat V0)
 | 0,r,hr,_=>.fin (by omega)
 |F+1,r,hr,hk=>by
  rw[W9];split
  .rename_i c;exact .fin c
  rename_i c;have:=(QD h hq ⟨by omega,hk.1⟩).2.2;exact .step (by omega) (To.of h hq F _ (by have:=this.1;omega) ⟨by have:=this.1;have:=hk.1;omega,this.2⟩)
theorem To.det{d q r a b}(h:To d q r a):To d q r b->a=b:=by
 induction h with
 |fin hr=>intro g;cases g with
  |fin _=>rfl
  |step h _=>omega
 |step hr _ ih=>intro g;cases g with
  |fin h=>omega
  |step _ t=>exact ih t
theorem BJ(E v):E <+: gG E v:=by
 unfold gG;split
 .exact a5O
 exact a9J _ _
theorem Jp(N c ks):N <+: qO N c ks:=by
 unfold qO;split
 .exact a5O
 split
 .exact a5O
 exact a9J _ _
def QM(x y:EN):Prop:=x.1 <+: y.1/\x.2 <+: y.2
theorem QM.rfl{x}:QM x x:=⟨a5O,a5O⟩
theorem QM.trans{x y z}(a:QM x y)(b:QM y z):QM x z:=⟨a.1.trans b.1,a.2.trans b.2⟩
theorem QN{s l}:∀(r p) (x),QM x (je s l r p x).2
 | [],p,x=>⟨BJ _ _,a5O⟩
 |c::r,p,x=>by have:=dB (g:=D7 (je s l r) c p) (m:=(s.getD c.toNat 0).toNat) (k:=0) (s:=([],x)) (fun _ y=>QM x y.2) QM.rfl (fun j y _ _ hy=>hy.trans (QN r _ y.2));exact⟨this.1,this.2.trans (Jp _ _ _)⟩
theorem Ak{α:Type}{a b:List α}{d}(h:a <+: b){k}(hk:k<a.length):b.getD k d=a.getD k d:=by obtain⟨t,rfl⟩:=h;simp[List.getD,a0Q hk]
theorem QO{k:Nat}(hk:k<2^61):i64.wrap (-1-(k:Int))=-1-(k:Int)/\jh (-1-(k:Int))=(k:Int):=by refine⟨fP (by omega) (by omega),?_⟩;unfold jh;rw[fP (by omega) (by omega)];omega
theorem Ux(E v):E.idxOf v<(gG E v).length/\(gG E v).getD (E.idxOf v) V0=v:=by
 unfold gG;split
 .rename_i h;have:=a5P.2 h;exact⟨this,by simp[List.getD,a0N this]⟩
 rename_i h;rw[a9E h];exact⟨by simp,by simp[List.getD]⟩
theorem Wv{N c ks}(hf:¬(ks.all fun x=>x==ks.getD 0 0)=true):N.idxOf (⟨c,ks⟩:Br)<(qO N c ks).length/\(qO N c ks).getD (N.idxOf (⟨c,ks⟩:Br)) lD=⟨c,ks⟩:=by
 unfold qO;rw[a0U hf];split
 .rename_i h;have:=a5P.2 h;exact⟨this,by simp[List.getD,a0N this]⟩
 rename_i h;rw[a9E h];exact⟨by simp,by simp[List.getD]⟩
def Agr(s r q p:LI0):Prop:=∀k:Nat,k<s.length->(k:Int)∉r->q.getD k 0=p.getD k 0
theorem Agr.set{s r q p c}(hc:gV c s.length)(hp:p.length=s.length)(h:Agr s (c::r) q p):Agr s r q (p.set c.toNat (q.getD c.toNat 0)):=fun k hk hr=>by
 by_cases e:k=c.toNat
 .subst e;have e2:(p.set c.toNat (q.getD c.toNat 0)).getD c.toNat 0=q.getD c.toNat 0:=by simp[List.getD,a2y (show c.toNat<p.length by omega)]
  exact e2.symm
 .rw[show(p.set c.toNat (q.getD c.toNat 0)).getD k 0=p.getD k 0 by rw[List.getD,a1A (afR e)];rfl];exact h k hk (by simp only[a1G,adk];exact⟨fun e2=>e (by omega),hr⟩)
theorem Agr.back{s r q p c j}(hc:gV c s.length)(h:Agr s r q (p.set c.toNat j)):Agr s (c::r) q p:=fun k hk hr=>by simp only[a1G,adk]at hr;have hc:=hc.1;have e:k≠c.toNat:=fun e=>hr.1 (by omega);have:=h k hk hr.2;rw[this,List.getD,a1A (afR e)];rfl
theorem ahl{s q p}(hq:q.length=s.length)(hp:p.length=s.length)(h:Agr s [] q p):q=p:=(pW (d:=(0:Int)) (by omega)).2 fun k hk=>h k (by omega) (by simp)
theorem a5e{ks:LI0}(h:(ks.all fun x=>x==ks.getD 0 0)=true){j}(hj:j<ks.length):ks.getD j 0=ks.getD 0 0:=by rw[a5L]at h;have:=h (ks.getD j 0) (dF hj);simpa using this
theorem aeK{s l}(hs:oh s):∀(r p) (x),(∀c∈r,gV c s.length)->p.length=s.length->∀d,d.aK.length<2^61->(je s l r p x).2.1 <+: d.aK->(je s l r p x).2.2 <+: d.au->∀q,jZ s q=true->Agr s r q p->To d q (je s l r p x).1 (l.getD (jE s q).toNat V0)
 | [],p,x,_,hp,d,hd,h1,_,q,hq,ha=>by
  have e:=ahl (vP hq) hp ha;subst e;obtain⟨g1,g2⟩:=Ux x.1 (l.getD (jE s q).toNat V0);have h1:gG x.1 (l.getD (jE s q).toNat V0) <+: d.aK:=h1;have aQ:x.1.idxOf (l.getD (jE s q).toNat V0)<2^61:=by have:=h1.length_le;omega
  obtain⟨e1,e2⟩:=QO aQ;show To d q (i64.wrap (-1-(x.1.idxOf (l.getD (jE s q).toNat V0):Nat))) _;rw[e1];have:=To.fin (d:=d) (q:=q) (r:=-1-((x.1.idxOf (l.getD (jE s q).toNat V0):Nat):Int)) (by omega);rw[e2,a5U,Ak h1 g1,g2]at this;exact this
 |c::r,p,x,hr,hp,d,hd,h1,h2,q,hq,ha=>by
  have hc:=hr c (by simp);have hri:∀c'∈r,gV c' s.length:=fun c' h=>hr c' (by simp[h]);have Zt:=(qC.1 hq).2 c.toNat (by have:=hc.1;have:=hc.2;omega);have inv:=dB (g:=D7 (je s l r) c p) (m:=(s.getD c.toNat 0).toNat) (k:=0) (s:=([],x)) (fun k y=>y.1.length=k/\∀j:Nat,j<k->y.2.1 <+: d.aK->y.2.2 <+: d.au->∀q,jZ s q=true->Agr s r q (p.set c.toNat j)->To d q (y.1.getD j 0) (l.getD (jE s q).toNat V0)) ⟨rfl,fun j hj=>by omega⟩ (fun j y _ hj hy=>by
   obtain⟨y1,y2⟩:=hy;refine⟨by simp[D7,y1],fun j' EC g1 g2 q hq ha=>?_⟩;have FB:=QN (s:=s) (l:=l) r (p.set c.toNat j) y.2;by_cases e:j'<j
   .have:(D7 (je s l r) c p j y).1.getD j' 0=y.1.getD j' 0:=by show(y.1++_).getD j' 0=_;simp[List.getD,a0Q (show j'<y.1.length by omega)]
    rw[this];exact y2 j' e (FB.1.trans g1) (FB.2.trans g2) q hq ha
   have e:j'=j:=(by omega);subst e;have:(D7 (je s l r) c p j' y).1.getD j' 0=(je s l r (p.set c.toNat j') y.2).1:=by show(y.1++[_]).getD j' 0=_;simp[List.getD,<-y1]
   rw[this];exact aeK hs r _ y.2 hri (by simp[hp]) d hd g1 g2 q hq ha)
  rw[a3O]at inv;simp only[je]at h1 h2 ⊢;generalize aT (D7 (je s l r) c p) (s.getD c.toNat 0).toNat 0 ([],x)=y at inv h1 h2;obtain⟨ks,E,N⟩:=y;obtain⟨hlen,inv⟩:=inv;have hlen:ks.length=(s.getD c.toNat 0).toNat:=hlen;have h2:qO N c ks <+: d.au:=h2;have hj:(q.getD c.toNat 0).toNat<(s.getD c.toNat 0).toNat:=by omega
  have ZI:((q.getD c.toNat 0).toNat:Int)=q.getD c.toNat 0:=by omega
  have t:=inv (q.getD c.toNat 0).toNat hj h1 ((Jp N c ks).trans h2) q hq (by rw[ZI];exact Agr.set hc hp ha);have t:To d q (ks.getD (q.getD c.toNat 0).toNat 0) (l.getD (jE s q).toNat V0):=t;show To d q (Hl N c ks) _;by_cases hf:(ks.all fun x=>x==ks.getD 0 0)=true
  .rw[show Hl N c ks=ks.getD 0 0 from a18 hf];rw[a5e hf (by omega)]at t;exact t
  rw[show Hl N c ks=(N.idxOf (⟨c,ks⟩:Br):Nat)from a0U hf];obtain⟨g1,g2⟩:=Wv (N:=N) (c:=c) hf;have en:ay d ((N.idxOf (⟨c,ks⟩:Br):Nat):Int)=⟨c,ks⟩:=by unfold ay;rw[a5U,Ak h2 g1,g2]
  refine .step (by omega) ?_;rw[en];exact t
open Go Tw Pv bV
def FK(o:LI0)(N:List Br)(r:Int):Nat:=if r<0 then o.length else o.idxOf (N.getD r.toNat lD).var
def D8(o:LI0)(x:EN)(v:Int)(b a:Nat):Prop:=(v<0->gV (jh v) x.1.length)/\v<(b:Int)/\a<=FK o x.2 v
structure PtV(s o:LI0)(x:EN):Prop where
 var:∀i,i<x.2.length->gV (x.2.getD i lD).var s.length
 ksz:∀i,i<x.2.length->((x.2.getD i lD).aA.length:Int)=s.getD (x.2.getD i lD).var.toNat 0
 Ah:∀i,i<x.2.length->∀k,k<(x.2.getD i lD).aA.length->D8 o x ((x.2.getD i lD).aA.getD k 0) i (o.idxOf (x.2.getD i lD).var+1)
theorem D8.mono{o x y v b b' a a'}(h:D8 o x v b a)(hp:QM x y)(hb:b<=b')(hx:b<=x.2.length)(ha:a'<=a):D8 o y v b' a':=by
 obtain⟨h1,h2,h3⟩:=h;refine⟨fun hv=>⟨(h1 hv).1,by have:=(h1 hv).2;have:=hp.1.length_le;omega⟩,by omega,?_⟩;unfold FK at h3 ⊢;split
 .rename_i c;rw[a18 c]at h3;omega
 rename_i c;rw[a0U c]at h3;rw[Ak hp.2 (by omega)];omega
theorem a8W{s o l}(hs:oh s)(ho:∀c∈o,gV c s.length)(hn:o.Nodup):∀(r) (a) (p) (x),o.drop a=r->a<=o.length->PtV s o x->(je s l r p x).2.1.length<2^61->PtV s o (je s l r p x).2/\D8 o (je s l r p x).2 (je s l r p x).1 (je s l r p x).2.2.length a
 | [],a,p,x,hr,ha,hx,hE=>by
  have:a=o.length:=by have:=congrArg List.length hr;rw[a4u,a5V]at this;omega
  subst this;obtain⟨g1,g2⟩:=Ux x.1 (l.getD (jE s p).toNat V0);have hE:(gG x.1 (l.getD (jE s p).toNat V0)).length<2^61:=hE;obtain⟨e1,e2⟩:=QO (k:=x.1.idxOf (l.getD (jE s p).toNat V0)) (by omega);have hp:QM x (gG x.1 (l.getD (jE s p).toNat V0),x.2):=⟨BJ _ _,a5O⟩;refine⟨⟨hx.var,hx.ksz,fun i hi k hk=>(hx.Ah i hi k hk).mono hp (a1p _) (aam hi) (a1p _)⟩,?_⟩;show D8 o _ (i64.wrap (-1-(x.1.idxOf (l.getD (jE s p).toNat V0):Nat))) _ _;rw[e1];refine⟨fun _=>by rw[e2];exact⟨by omega,by show _<((gG x.1 (l.getD (jE s p).toNat V0)).length:Int);omega⟩,by omega,?_⟩;unfold FK;rw[a18 (by omega)];exact a1p _
 |c::r,a,p,x,hr,ha,hx,hE=>by
  have aQ:a<o.length:=by have:=congrArg List.length hr;rw[a4u,a4T]at this;omega
  have hd:=a6u aQ;rw[hr]at hd;obtain⟨hc,xI⟩:=List.cons.inj hd;have FH:c∈o:=by rw[hc];exact a5K aQ
  have qP:=ho c FH;have hia:o.idxOf c=a:=by rw[hc];exact hn.idxOf_getElem a aQ
  have hz:=hs _ (dF (s:=s) (k:=c.toNat) (by have:=qP.1;have:=qP.2;omega));have mono:=fun(n:Nat) (m:Nat) (y:LI0×EN)=>(dB (g:=D7 (je s l r) c p) (m:=m) (k:=n) (s:=y) (fun _ z=>QM y.2 z.2) QM.rfl (fun j z _ _ hz=>hz.trans (QN r _ z.2)));have hEf:(aT (D7 (je s l r) c p) (s.getD c.toNat 0).toNat 0 ([],x)).2.1.length<2^61:=hE;have inv:=dB (g:=D7 (je s l r) c p) (m:=(s.getD c.toNat 0).toNat) (k:=0) (s:=([],x)) (fun k y=>y.1.length=k/\(y.2.1.length<2^61->PtV s o y.2/\∀j:Nat,j<k->D8 o y.2 (y.1.getD j 0) y.2.2.length (a+1))) ⟨rfl,fun _=>⟨hx,fun j hj=>by omega⟩⟩ (fun j y _ hj hy=>by
   obtain⟨y1,y2⟩:=hy;refine⟨by simp[D7,y1],fun hE=>?_⟩;have FB:=QN (s:=s) (l:=l) r (p.set c.toNat j) y.2;have hE:(je s l r (p.set c.toNat j) y.2).2.1.length<2^61:=hE;obtain⟨v1,v2⟩:=y2 (by have:=FB.1.length_le;omega);obtain⟨w1,w2⟩:=a8W hs ho hn r (a+1) (p.set c.toNat j) y.2 xI.symm aQ v1 hE;refine⟨w1,fun j' EC=>?_⟩;by_cases e:j'<j
   .have:(D7 (je s l r) c p j y).1.getD j' 0=y.1.getD j' 0:=by show(y.1++_).getD j' 0=_;simp[List.getD,a0Q (show j'<y.1.length by omega)]
    rw[this];exact(v2 j' e).mono FB FB.2.length_le (a1p _) (a1p _)
   have e:j'=j:=(by omega);subst e;have:(D7 (je s l r) c p j' y).1.getD j' 0=(je s l r (p.set c.toNat j') y.2).1:=by show(y.1++[_]).getD j' 0=_;simp[List.getD,<-y1]
   rw[this];exact w2)
  rw[a3O]at inv;simp only[je];generalize aT (D7 (je s l r) c p) (s.getD c.toNat 0).toNat 0 ([],x)=y at inv hEf;obtain⟨ks,E,N⟩:=y;obtain⟨hlen,inv⟩:=inv;obtain⟨i1,i2⟩:=inv hEf;have hlen:ks.length=(s.getD c.toNat 0).toNat:=hlen;have i2:∀j:Nat,j<(s.getD c.toNat 0).toNat->D8 o (E,N) (ks.getD j 0) N.length (a+1):=i2;have FB:QM (E,N) (E,qO N c ks):=⟨a5O,Jp N c ks⟩;show PtV s o (E,qO N c ks)/\D8 o (E,qO N c ks) (Hl N c ks) (qO N c ks).length a;by_cases hf:(ks.all fun x=>x==ks.getD 0 0)=true
  .rw[show Hl N c ks=ks.getD 0 0 from a18 hf,show qO N c ks=N from a18 hf];exact⟨i1,(i2 0 (by omega)).mono QM.rfl (a1p _) (a1p _) (by omega)⟩
  obtain⟨g1,g2⟩:=Wv (N:=N) (c:=c) hf;rw[show Hl N c ks=(N.idxOf (⟨c,ks⟩:Br):Nat)from a0U hf];have MW:a<=FK o (qO N c ks) ((N.idxOf (⟨c,ks⟩:Br):Nat):Int):=by unfold FK;rw[a0U (by omega),a5U,g2];show a<=o.idxOf c;omega
  refine⟨?_,⟨fun h=>by omega,by omega,MW⟩⟩;by_cases hm:(⟨c,ks⟩:Br)∈N
  .rw[show qO N c ks=N by unfold qO;rw[a0U hf,a18 hm]];exact i1
  have eN:qO N c ks=N++[⟨c,ks⟩]:=by unfold qO;rw[a0U hf,a0U hm]
  rw[eN]at FB ⊢;have hold:∀i,i<N.length->(N++[(⟨c,ks⟩:Br)]).getD i lD=N.getD i lD:=fun i hi=>Ak (a9J _ _) hi;have fQ:(N++[(⟨c,ks⟩:Br)]).getD N.length lD=⟨c,ks⟩:=by simp[List.getD]
  have wB:∀i,i<(N++[(⟨c,ks⟩:Br)]).length->i<N.length\/i=N.length:=fun i hi=>by rw[a1D,a4O]at hi;omega
  refine⟨fun i hi=>?_,fun i hi=>?_,fun i hi k hk=>?_⟩
  .show gV ((N++[(⟨c,ks⟩:Br)]).getD i lD).var s.length;rcases wB i hi with h|rfl
   .rw[hold i h];exact i1.var i h
   rw[fQ];exact qP
  .show(((N++[(⟨c,ks⟩:Br)]).getD i lD).aA.length:Int)=s.getD ((N++[(⟨c,ks⟩:Br)]).getD i lD).var.toNat 0;rcases wB i hi with h|rfl
   .rw[hold i h];exact i1.ksz i h
   rw[fQ];show(ks.length:Int)=s.getD c.toNat 0;omega
  have hk:k<((N++[(⟨c,ks⟩:Br)]).getD i lD).aA.length:=hk;show D8 o (E,N++[(⟨c,ks⟩:Br)]) (((N++[(⟨c,ks⟩:Br)]).getD i lD).aA.getD k 0) i (o.idxOf ((N++[(⟨c,ks⟩:Br)]).getD i lD).var+1);rcases wB i hi with h|rfl
  .rw[hold i h]at hk ⊢;exact(i1.Ah i h k hk).mono FB (a1p _) (aam h) (a1p _)
  rw[fQ]at hk ⊢;have hk:k<ks.length:=hk;exact(i2 k (by omega)).mono FB (a1p _) (a1p _) (by show o.idxOf c+1<=a+1;omega)
open Go Tw Pv bV
theorem Oe(d v):uP d v=(FK d.aB d.au v:Int):=by
 unfold uP FK;by_cases c:v<0
 .rw[a18 (by simpa using c),a18 c]
 rw[a0U (by simpa using c),a0U c];have hs:=a8S (l:=d.aB) (d:=0) (a:=(ay d v).var) (c:=QB d v) (fun k _=>by unfold QB;rw[a5R];simp);by_cases hm:(ay d v).var∈d.aB
 .rw[hs.1 hm];rfl
 rw[a18 (hs.2 hm),a9E hm]
theorem L8{d}(hm:d.aK.length<=ah)(hf:(bg d.aj d.aB != 0)=false)(hv:∀v∈d.aK,vOk v=true)(hn:d.au.length<=6000)(hp:PtV d.aj d.aB (d.aK,d.au))(hr:D8 d.aB (d.aK,d.au) d.root d.au.length 0):bn d=0:=by
 obtain⟨bP,QS⟩:=iR.1 (show bg d.aj d.aB=0 by simpa using hf);have aml:∀(v:Int) (b a:Nat),D8 d.aB (d.aK,d.au) v b a->iY d v b=true:=fun v b a h=>by
  unfold iY;split
  .simpa using h.2.1
  rename_i c;have c:v<0:=by simpa using c
  have:=h.1 c;have e:i64.wrap ((d.aK.length:Int)-1)=(d.aK.length:Int)-1:=by unfold ah at hm;rw[fP (by omega) (by omega)]
  rw[wP,e];have h2:=this.2;have h2:jh v<(d.aK.length:Int):=h2;exact⟨this.1,by show jh v<=_;omega⟩
 have hl:mV d=true:=by
  unfold mV;rw[a18 (dD.2 fun j hj=>by rw[cLe,hv _ (by simp[List.getD,a0N hj])];rfl),a18 (dD.2 fun i hi=>?_)]
  .exact aml _ _ _ hr
  have h1:=hp.var i hi;have h2:=hp.ksz i hi;have h3:=hp.Ah i hi;have h1:gV (fE d i).var d.aj.length:=h1;have h2:((fE d i).aA.length:Int)=d.aj.getD (fE d i).var.toNat 0:=h2;have e:xw d.aj=(d.aj.length:Int)-1:=by have:=bP.len;unfold xw;rw[fP (by omega) (by omega)]
  unfold cLn;rw[a0U,a0U (by rw[h2];simp),a18]
  .refine dD.2 fun k hk=>?_;have h4:=h3 k hk;unfold cLk;rw[a0U (by rw[aml _ _ _ h4];simp),a3L,Oe,Oe];have h5:=h4.2.2;have e6:FK d.aB d.au ((i:Nat):Int)=d.aB.idxOf (fE d i).var:=by unfold FK;rw[a0U (by omega),a5U]
   rw[e6];have h5:d.aB.idxOf (fE d i).var+1<=FK d.aB d.au ((d.au.getD i lD).aA.getD k 0):=h5;omega
  have:oP (fE d i).var 0 (xw d.aj)=true:=by rw[wP,e];have:=h1.1;have:=h1.2;exact⟨by omega,by omega⟩
  rw[this];simp
 unfold bn;rw[a0U (by rw[hf];simp),a0U (by rw[a1F];omega),a0U (by rw[hl];simp)]
structure OfP(s o:LI0)(l:List V):Prop where
 bP:wo s
 ord:ku s.length o=true
 len:(l.length:Int)=bG s
theorem OfP.p{s o l}(h:OfP s o l):PtP s o l/\o.Nodup/\o.length=s.length:=by have ho:=h.ord;unfold ku at ho;rw[a1F]at ho;have:=h.bP.len;exact⟨⟨h.bP,fun c hc=>⟨(ho.2.1 c hc).1,(ho.2.1 c hc).2⟩,h.len,by unfold ah;omega,by unfold ah;omega⟩,ho.2.2,ho.1⟩
theorem YQ{s l}:∀(r p) (x),(∀q,l.getD (jE s q).toNat V0∈l\/True)->(∀q,jZ s q=true->l.getD (jE s q).toNat V0∈l)->jZ s p=true->(∀c∈r,gV c s.length)->oh s->(∀v∈x.1,v∈l)->∀v∈(je s l r p x).2.1,v∈l
 | [],p,x,_,h,hp,_,_,hx,v,hv=>by
  have hv:v∈gG x.1 (l.getD (jE s p).toNat V0):=hv;unfold gG at hv;split at hv
  .exact hx v hv
  rcases a3N.1 hv with hv|hv
  .exact hx v hv
  rw[a2p.1 hv];exact h p hp
 |c::r,p,x,h0,h,hp,hr,hs,hx,v,hv=>by have hc:=hr c (by simp);have hz:=hs _ (dF (s:=s) (k:=c.toNat) (by have:=hc.1;have:=hc.2;omega));have:=dB (g:=D7 (je s l r) c p) (m:=(s.getD c.toNat 0).toNat) (k:=0) (s:=([],x)) (fun _ y=>∀v∈y.2.1,v∈l) hx (fun j y _ hj hy=>YQ r _ y.2 h0 h (Yw hp hc ⟨by omega,by omega⟩) (fun c hc=>hr c (by simp[hc])) hs hy);exact this v hv
theorem Hq{s o l}(h:OfP s o l)(hv:∀v∈l,vOk v=true):bn (kL s o l)=0/\(kL s o l).aK.length<=2000/\(∀v∈(kL s o l).aK,v∈l)/\PtV s o ((kL s o l).aK,(kL s o l).au)/\D8 o ((kL s o l).aK,(kL s o l).au) (kL s o l).root (kL s o l).au.length 0:=by
 obtain⟨hP,hn,ho⟩:=h.p;have hz:=QL h.bP.sz;have hm:=h.bP.many;have hlen:=a0T (l:=l) h.bP.sz o (List.replicate s.length 0) ([],[]) hP.ord;have hw:=Ho h.bP.sz h.ord;have JR:∀q,jZ s q=true->l.getD (jE s q).toNat V0∈l:=fun q hq=>by
  have:=DY hq h.bP.sz;have:=h.len;have aQ:(jE s q).toNat<l.length:=by omega
  simp[List.getD,a0N aQ]
 have lT:=YQ o (List.replicate s.length 0) ([],[]) (fun _=>.inr trivial) JR hz hP.ord h.bP.sz (by simp);have XH:=a8W (l:=l) h.bP.sz hP.ord hn o 0 (List.replicate s.length 0) ([],[]) rfl (a5S _) ⟨fun i hi=>(by simp at hi),fun i hi=>(by simp at hi),fun i hi=>(by simp at hi)⟩ (by have:=hlen.1;simp at this;omega);have h1:(kL s o l).aK.length<=0+wO s o:=hlen.1;have h2:(kL s o l).au.length+1<=0+wO s o:=hlen.2;refine⟨L8 (by unfold ah;omega) ?_ (fun v hv2=>hv v (lT v hv2)) (by omega) XH.1 XH.2,by omega,lT,XH.1,XH.2⟩;have:bg s o=0:=iR.2 ⟨h.bP,h.ord⟩;show(bg s o != 0)=false;rw[this];rfl
theorem a3e{s o l}(h:OfP s o l)(hv:∀v∈l,vOk v=true){q}(hq:jZ s q=true):mW (kL s o l) q=l.getD (jE s q).toNat V0:=by
 obtain⟨hP,hn,ho⟩:=h.p;obtain⟨h1,h2,h3,h4,h5⟩:=Hq h hv;have ht:=jo (d:=kL s o l) hP.ahk (by unfold ah;omega) (by rw[h1];rfl);have hto:=aeK (l:=l) h.bP.sz o (List.replicate s.length 0) ([],[]) hP.ord (by simp) (kL s o l) (by omega) a5O a5O q hq (fun k hk Zu=>by exfalso;exact Zu (mX h.ord ⟨by omega,by omega⟩))
 have hr:=ht.1.root;exact(hto.at_ ht.1 hq 6001 (by have:=hr.1;have:=ht.2;show(kL s o l).root<_;omega) hr).symm
theorem QU{s o l}(h:OfP s o l)(hv:∀v∈l,vOk v=true):cellsD (kL s o l)=l:=by have hl:=h.len;unfold cellsD;refine aan (by simp[wI,kL];omega) fun n h1 h2=>?_;have hp:=uK (n:Int) h.bP.sz;simp only[aa9,afo];show mW (kL s o l) (gq s n)=_;rw[a3e h hv hp,J7 h.bP.sz (by omega) (by omega)];simp[List.getD,a0N h2]
open Go Tw Pv bV
def Kn(d:Dg)(x:Cs)(v:Int):Prop:=if v<0 then pq d v∈x.e else v∈x.k.map (·.1)
def wu(d:Dg)(x:Cs)(v:Int):Int:=if v<0 then i64.wrap (-1-(x.e.idxOf (pq d v):Nat))else Wn x.k v
def BL(x y:Cs):Prop:=x.e <+: y.e/\x.n <+: y.n/\x.k <+: y.k
theorem BL.rfl{x}:BL x x:=⟨a5O,a5O,a5O⟩
theorem BL.trans{x y z}(a:BL x y)(b:BL y z):BL x z:=⟨a.1.trans b.1,a.2.1.trans b.2.1,a.2.2.trans b.2.2⟩
theorem Kn.mono{d x y v}(h:Kn d x v)(hp:BL x y):Kn d y v:=by
 unfold Kn at h ⊢;split
 .rename_i c;rw[a18 c]at h;exact hp.1.subset h
 rename_i c;rw[a0U c]at h;obtain⟨t,ht⟩:=hp.2.2;rw[<-ht,a4V,a3N];exact .inl h
theorem Uy{α:Type}[BEq α][LawfulBEq α]{a b:List α}{v}(h:v∈a)(hp:a <+: b):b.idxOf v=a.idxOf v:=by obtain⟨t,rfl⟩:=hp;rw[aaF,a18 h]
theorem a3f{a b v}(h:v∈a.map (·.1))(hp:a <+: b):Wn b v=Wn a v:=by
 obtain⟨t,rfl⟩:=hp;unfold Wn;rw[List.find?_append];cases e:a.find? fun p=>p.1==v with
 |none=>
  rw[a1z]at h;obtain⟨p,hp,rfl⟩:=h;have:=afz.1 e p hp;simp at this
 |some q=>rfl
theorem Uz{d x y v}(h:Kn d x v)(hp:BL x y):wu d y v=wu d x v:=by
 unfold Kn at h;unfold wu;split
 .rename_i c;rw[a18 c]at h;rw[Uy h hp.1]
 rename_i c;rw[a0U c]at h;rw[a3f h hp.2.2]
theorem YR{E v}(h:v∈E):gG E v=E:=a18 h
theorem MX(N c ks):N <+: dG N c ks:=by
 unfold dG;split
 .exact a5O
 split
 .exact a5O
 exact a9J _ _
theorem a0V{N M c ks}(h:dG N c ks=N)(hp:N <+: M):dG M c ks=M/\eG M c ks=eG N c ks:=by
 unfold dG at h ⊢;unfold eG;by_cases hf:(ks.all fun x=>x==ks.getD 0 0)=true
 .rw[a18 hf,a18 hf,a18 hf];exact⟨rfl,rfl⟩
 rw[a0U hf]at h ⊢;rw[a0U hf,a0U hf];by_cases hm:uQ c ks∈N.map Dc
 .have hp2:N.map Dc <+: M.map Dc:=by obtain⟨t,rfl⟩:=hp;rw[a4V];exact a9J _ _
  rw[a18 (hp2.subset hm),Uy hm hp2];exact⟨rfl,rfl⟩
 rw[a0U hm]at h;have:=congrArg List.length h;simp at this
theorem a5f(N c ks):dG (dG N c ks) c ks=dG N c ks/\eG (dG N c ks) c ks=eG N c ks:=by
 unfold eG;by_cases hf:(ks.all fun x=>x==ks.getD 0 0)=true
 .rw[a18 hf,a18 hf];have:dG N c ks=N:=a18 hf;rw[this,this];exact⟨rfl,rfl⟩
 rw[a0U hf,a0U hf];by_cases hm:uQ c ks∈N.map Dc
 .have:dG N c ks=N:=by unfold dG;rw[a0U hf,a18 hm]
  rw[this,this];exact⟨rfl,rfl⟩
 have e:dG N c ks=N++[⟨c,ks⟩]:=by unfold dG;rw[a0U hf,a0U hm]
 have hm2:uQ c ks∈(N++[(⟨c,ks⟩:Br)]).map Dc:=by rw[a4V];simp
 have e2:dG (N++[⟨c,ks⟩]) c ks=N++[⟨c,ks⟩]:=by unfold dG;rw[a0U hf,a18 hm2]
 rw[e,e2];refine⟨rfl,?_⟩;rw[a4V,aaF,a0U hm,a9E hm];simp
abbrev aS(d:Dg)(v:Int):LI0:=(ay d v).aA
def YS(d:Dg)(x:Cs):Prop:=∀v∈x.k.map (·.1),(∀j,j<(aS d v).length->Kn d x ((aS d v).getD j 0))/\eG x.n (ay d v).var ((aS d v).map (wu d x))=Wn x.k v/\dG x.n (ay d v).var ((aS d v).map (wu d x))=x.n
abbrev Df(d:Dg)(F:Nat)(r:Int)(j:Nat)(y:LI0×Cs):LI0×Cs:=(y.1.set j (bY d F ((aS d r).getD j 0) y.2).1,(bY d F ((aS d r).getD j 0) y.2).2)
theorem a8X{d}:∀(F) (r) (x),BL x (bY d F r x).2
 | 0,_,x=>BL.rfl
 |F+1,r,x=>by
  unfold bY;split
  .exact⟨BJ _ _,a5O,a5O⟩
  split
  .exact BL.rfl
  have:=dB (g:=Df d F r) (m:=(aS d r).length) (k:=0) (s:=(List.replicate (aS d r).length 0,x)) (fun _ y=>BL x y.2) BL.rfl (fun j y _ _ hy=>hy.trans (a8X F _ y.2));exact⟨this.1,this.2.1.trans (MX _ _ _),this.2.2.trans (a9J _ _)⟩
theorem Og{d F v x}(h:Kn d x v):bY d (F+1) v x=(wu d x v,x):=by
 unfold Kn at h;unfold bY wu;by_cases c:v<0
 .rw[a18 (by simpa using c),a18 c];rw[a18 c]at h;rw[YR h]
 rw[a0U c]at h;rw[a0U (by simpa using c),a18 (by simpa using h),a0U c]
theorem QV{d x y}{ks:LI0}(h:∀j,j<ks.length->Kn d x (ks.getD j 0))(hp:BL x y):ks.map (wu d y)=ks.map (wu d x):=by refine a5H fun v hv=>?_;obtain⟨j,hj,rfl⟩:=aaf hv;have:=h j hj;rw[List.getD,a0N hj]at this;exact Uz this hp
theorem YS.a3g{d x y v}(h:(∀j,j<(aS d v).length->Kn d x ((aS d v).getD j 0))/\eG x.n (ay d v).var ((aS d v).map (wu d x))=Wn x.k v/\dG x.n (ay d v).var ((aS d v).map (wu d x))=x.n)(hv:v∈x.k.map (·.1))(hp:BL x y):(∀j,j<(aS d v).length->Kn d y ((aS d v).getD j 0))/\eG y.n (ay d v).var ((aS d v).map (wu d y))=Wn y.k v/\dG y.n (ay d v).var ((aS d v).map (wu d y))=y.n:=by obtain⟨h1,h2,h3⟩:=h;rw[QV h1 hp];obtain⟨g1,g2⟩:=a0V h3 hp.2.1;exact⟨fun j hj=>(h1 j hj).mono hp,by rw[g2,h2,a3f hv hp.2.2],g1⟩
theorem a0W{d}(h:D5 d):∀(F:Nat) (r:Int) (x),1<=F->r+1<F->jK d r d.au.length->Em d x->YS d x->YS d (bY d F r x).2/\Kn d (bY d F r x).2 r/\wu d (bY d F r x).2 r=(bY d F r x).1
 | 0,r,x,h1,_,_,_,_=>by omega
 |F+1,r,x,_,hF,hr,hx,hi=>by
  by_cases c:r<0
  .have e:bY d (F+1) r x=(i64.wrap (-1-(x.e.idxOf (pq d r):Nat)),⟨gG x.e (pq d r),x.n,x.k⟩):=by unfold bY;rw[a18 (by simpa using c)]
   rw[e];have hp:BL x ⟨gG x.e (pq d r),x.n,x.k⟩:=⟨BJ _ _,a5O,a5O⟩;refine⟨fun v hv=>YS.a3g (hi v hv) hv hp,?_,?_⟩
   .unfold Kn;rw[a18 c];show pq d r∈gG x.e (pq d r);unfold gG;split
    .assumption
    simp
   unfold wu;rw[a18 c];show i64.wrap (-1-((gG x.e (pq d r)).idxOf (pq d r):Nat))=_;congr 3;unfold gG;split
   .rfl
   rename_i hn;rw[aaF,a0U hn,a9E hn];simp
  by_cases c2:r∈x.k.map (·.1)
  .have hk:Kn d x r:=by unfold Kn;rw[a0U c];exact c2
   rw[Og hk];exact⟨hi,hk,rfl⟩
  have aQ:r.toNat<d.au.length:=by have:=hr.1;omega
  have D6:∀k,k<(aS d r).length->(aS d r).getD k 0<r:=fun k lK=>by have h9:=(h.Ah r.toNat aQ k lK).1;have h9:(aS d r).getD k 0<(r.toNat:Int):=h9;omega
  have MW:∀j,j<(aS d r).length->jK d ((aS d r).getD j 0) d.au.length:=fun j hj=>⟨by have:=D6 j hj;have:=hr.1;omega,(h.Ah r.toNat aQ j hj).2⟩;have inv:=dB (g:=Df d F r) (m:=(aS d r).length) (k:=0) (s:=(List.replicate (aS d r).length 0,x)) (fun k y=>(y.1.length=(aS d r).length/\BL x y.2)/\(Em d y.2/\r∉y.2.k.map (·.1))/\YS d y.2/\∀j,j<k->Kn d y.2 ((aS d r).getD j 0)/\wu d y.2 ((aS d r).getD j 0)=y.1.getD j 0) ⟨⟨by simp,BL.rfl⟩,⟨hx,c2⟩,hi,fun j hj=>by omega⟩ (fun j y _ hj hy=>by
   obtain⟨⟨y1,y2⟩,⟨y3,y4⟩,y5,y6⟩:=hy;have hj:j<(aS d r).length:=(by omega);have hp:=a8X (d:=d) F ((aS d r).getD j 0) y.2;obtain⟨z1,z2,z3⟩:=a0W h F ((aS d r).getD j 0) y.2 (by omega) (by have:=D6 j hj;omega) (MW j hj) y3 y5;refine⟨⟨by simp[Df,y1],y2.trans hp⟩,⟨QG h F _ y.2 y3 (MW j hj),YI F _ r y.2 (D6 j hj) y4 (by omega) (fun i hi k hk=>(h.Ah i hi k hk).1) (fun h5=>⟨h5,(MW j hj).1⟩)⟩,z1,fun j' EC=>?_⟩;by_cases e:j'=j
   .subst e;refine⟨z2,?_⟩;rw[z3];show(bY d F ((aS d r).getD j' 0) y.2).1=(y.1.set j' (bY d F ((aS d r).getD j' 0) y.2).1).getD j' 0;generalize (bY d F ((aS d r).getD j' 0) y.2).1=z;simp[List.getD,a2y (show j'<y.1.length by omega)]
   obtain⟨a1,a2⟩:=y6 j' (by omega);refine⟨a1.mono hp,?_⟩;rw[Uz a1 hp,a2];show _=(y.1.set j (bY d F ((aS d r).getD j 0) y.2).1).getD j' 0;generalize (bY d F ((aS d r).getD j 0) y.2).1=z;simp[List.getD,a1A (afR e)])
  rw[a3O]at inv;have e:bY d (F+1) r x=(eG (aT (Df d F r) (aS d r).length 0 (List.replicate (aS d r).length 0,x)).2.n (ay d r).var (aT (Df d F r) (aS d r).length 0 (List.replicate (aS d r).length 0,x)).1,⟨(aT (Df d F r) (aS d r).length 0 (List.replicate (aS d r).length 0,x)).2.e,dG (aT (Df d F r) (aS d r).length 0 (List.replicate (aS d r).length 0,x)).2.n (ay d r).var (aT (Df d F r) (aS d r).length 0 (List.replicate (aS d r).length 0,x)).1,(aT (Df d F r) (aS d r).length 0 (List.replicate (aS d r).length 0,x)).2.k++[(r,eG (aT (Df d F r) (aS d r).length 0 (List.replicate (aS d r).length 0,x)).2.n (ay d r).var (aT (Df d F r) (aS d r).length 0 (List.replicate (aS d r).length 0,x)).1)]⟩):=by rw[bY,a0U (by simpa using c),a0U (by simpa using c2)]
  rw[e];generalize aT (Df d F r) (aS d r).length 0 (List.replicate (aS d r).length 0,x)=y at inv;obtain⟨ks,y⟩:=y;obtain⟨⟨y1,y2⟩,⟨y3,y4⟩,y5,y6⟩:=inv;have y1:ks.length=(aS d r).length:=y1;have y4:r∉y.k.map (·.1):=y4;have hp:BL y ⟨y.e,dG y.n (ay d r).var ks,y.k++[(r,eG y.n (ay d r).var ks)]⟩:=⟨a5O,MX _ _ _,a9J _ _⟩;have FZ:(aS d r).map (wu d y)=ks:=by refine aan (by simp[y1]) fun j j1 j2=>?_;have hj:j<(aS d r).length:=(by omega);have:=(y6 j hj).2;rw[List.getD,List.getD,a0N hj,a0N j2]at this;simpa using this
  have fQ:Wn (y.k++[(r,eG y.n (ay d r).var ks)]) r=eG y.n (ay d r).var ks:=by
   unfold Wn;rw[List.find?_append];have:(y.k.find? fun p=>p.1==r)=none:=afz.2 fun p hp=>by simp only[a6E];intro e2;exact y4 (a1z.2 ⟨p,hp,e2⟩)
   rw[this];simp
  obtain⟨g1,g2⟩:=a5f y.n (ay d r).var ks;refine⟨fun v hv=>?_,?_,?_⟩
  .have hv:v∈(y.k++[(r,eG y.n (ay d r).var ks)]).map (·.1):=hv;rw[a4V,a3N]at hv;rcases hv with hv|hv
   .exact YS.a3g (y5 v hv) hv hp
   have hv:v=r:=(by simpa using hv);subst hv;refine⟨fun j hj=>(y6 j hj).1.mono hp,?_,?_⟩
   .rw[QV (fun j hj=>(y6 j hj).1) hp,FZ];show eG (dG y.n (ay d v).var ks) _ ks=Wn (y.k++[(v,eG y.n (ay d v).var ks)]) v;rw[g2,fQ]
   rw[QV (fun j hj=>(y6 j hj).1) hp,FZ];exact g1
  .unfold Kn;rw[a0U c];show r∈(y.k++[(r,eG y.n (ay d r).var ks)]).map (·.1);simp
  unfold wu;rw[a0U c];exact fQ
open Go Tw Pv bV
theorem YT{d}(h:bn d=0):∀i,i<d.au.length->∀k,k<(fE d i).aA.length->d.aB.idxOf (fE d i).var+1<=FK d.aB d.au ((fE d i).aA.getD k 0):=by
 intro i hi k hk;unfold bn at h;split at h
 .rename_i c;rw[h]at c;cases c
 split at h
 .cases h
 split at h
 .cases h
 rename_i c;have c:mV d=true:=by simpa using c
 unfold mV at c;split at c
 rotate_left
 .cases c
 split at c
 rotate_left
 .cases c
 rename_i c2;have:=dD.1 c2 i hi;unfold cLn at this;split at this
 .cases this
 split at this
 .cases this
 split at this
 .rename_i c3;have:=dD.1 c3 k hk;unfold cLk at this;split at this
  .cases this
  rw[a3L,Oe,Oe]at this;have e6:FK d.aB d.au ((i:Nat):Int)=d.aB.idxOf (fE d i).var:=by unfold FK;rw[a0U (by omega),a5U]
  rw[e6]at this;show d.aB.idxOf (fE d i).var+1<=FK d.aB d.au ((d.au.getD i lD).aA.getD k 0);omega
 cases this
theorem a0X{d}(h:D5 d):∀(F) (r) (x),jK d r d.au.length->NOk d.aj x.n->NOk d.aj (bY d F r x).2.n
 | 0,_,_,_,hx=>hx
 |F+1,r,x,hr,hx=>by
  unfold bY;by_cases c:r<0
  .rw[a18 (by simpa using c)];exact hx
  rw[a0U (by simpa using c)];split
  .exact hx
  have aQ:r.toNat<d.au.length:=by have:=hr.1;omega
  have MW:∀j,j<(aS d r).length->jK d ((aS d r).getD j 0) d.au.length:=fun j hj=>by have h9:=h.Ah r.toNat aQ j hj;have h8:=h9.1;have h8:(aS d r).getD j 0<(r.toNat:Int):=h8;exact⟨by omega,h9.2⟩
  have inv:=dB (g:=Df d F r) (m:=(aS d r).length) (k:=0) (s:=(List.replicate (aS d r).length 0,x)) (fun _ y=>y.1.length=(aS d r).length/\NOk d.aj y.2.n) ⟨by simp,hx⟩ (fun j y _ hj hy=>⟨by simp[Df,hy.1],a0X h F _ y.2 (MW j (by omega)) hy.2⟩);show NOk d.aj (dG (aT (Df d F r) (aS d r).length 0 (List.replicate (aS d r).length 0,x)).2.n (ay d r).var (aT (Df d F r) (aS d r).length 0 (List.replicate (aS d r).length 0,x)).1);generalize aT (Df d F r) (aS d r).length 0 (List.replicate (aS d r).length 0,x)=y at inv;intro b hb;unfold dG at hb;split at hb
  .exact inv.2 b hb
  split at hb
  .exact inv.2 b hb
  rcases a3N.1 hb with hb|hb
  .exact inv.2 b hb
  rw[a2p.1 hb];refine⟨h.var r.toNat aQ,?_⟩;show(y.1.length:Int)=d.aj.getD (ay d r).var.toNat 0;rw[inv.1];exact h.ksz r.toNat aQ
theorem a8Y{n}(hn:1<=n)(v:Int):((List.replicate n v).all fun x=>x==(List.replicate n v).getD 0 0)=true/\(List.replicate n v).getD 0 0=v:=by obtain⟨k,rfl⟩:∃k,n=k+1:=⟨n-1,by omega⟩;simp[afe]
theorem YU{d l}(h:D5 d)(QS:ku d.aj.length d.aB=true)(hk:∀i,i<d.au.length->∀k,k<(fE d i).aA.length->d.aB.idxOf (fE d i).var+1<=FK d.aB d.au ((fE d i).aA.getD k 0)):∀(r) (a) (p) (v) (x) (F:Nat),d.aB.drop a=r->a<=d.aB.length->jZ d.aj p=true->Em d x->YS d x->NOk d.aj x.n->jK d v d.au.length->a<=FK d.aB d.au v->1<=F->v+1<F->(∀q,jZ d.aj q=true->Agr d.aj r q p->To d q v (l.getD (jE d.aj q).toNat V0))->je d.aj l r p (x.e,x.n)=((bY d F v x).1,((bY d F v x).2.e,(bY d F v x).2.n))
 | [],a,p,v,x,F,hr,ha,hp,_,_,_,hv,MW,hF1,hF,hto=>by
  obtain⟨F,rfl⟩:∃k,F=k+1:=⟨F-1,by omega⟩;have:a=d.aB.length:=by have:=congrArg List.length hr;rw[a4u,a5V]at this;omega
  subst this;have hv0:v<0:=by
   rcases Int.lt_or_le v 0 with c|c
   .exact c
   exfalso;unfold FK at MW;rw[a0U (by omega)]at MW;have aQ:v.toNat<d.au.length:=by have:=hv.1;omega
   have hm:=mX QS (h.var v.toNat aQ);have:=a5P.2 hm;have:d.aB.idxOf (d.au.getD v.toNat lD).var<d.aB.length:=this;omega
  have t:=hto p hp (fun _ _ _=>rfl);have e:l.getD (jE d.aj p).toNat V0=pq d v:=(To.fin hv0:To d p v _).det t |>.symm
  unfold bY;rw[a18 (by simpa using hv0)];show(i64.wrap (-1-(x.e.idxOf (l.getD (jE d.aj p).toNat V0):Nat)),(gG x.e (l.getD (jE d.aj p).toNat V0),x.n))=_;rw[e]
 |c::r,a,p,v,x,F,hr,ha,hp,hx,hi,Zu,hv,MW,hF1,hF,hto=>by
  have aQ:a<d.aB.length:=by have:=congrArg List.length hr;rw[a4u,a4T]at this;omega
  have hd:=a6u aQ;rw[hr]at hd;obtain⟨hc,xI⟩:=List.cons.inj hd;have ho:=QS;unfold ku at ho;rw[a1F]at ho;have FH:c∈d.aB:=by rw[hc];exact a5K aQ
  have qP:gV c d.aj.length:=⟨(ho.2.1 c FH).1,(ho.2.1 c FH).2⟩;have hia:d.aB.idxOf c=a:=by rw[hc];exact ho.2.2.idxOf_getElem a aQ
  have nV:c.toNat<d.aj.length:=by have:=qP.1;have:=qP.2;omega
  have hz:=h.bP.sz _ (dF (s:=d.aj) (k:=c.toNat) nV);have AQ:=vP hp;have hcr:c∉r:=by have:(d.aB.drop a).Nodup:=ho.2.2.sublist (List.drop_sublist _ _);rw[hr]at this;exact(a5I.1 this).1
  have Gw:∀j:Nat,j<(d.aj.getD c.toNat 0).toNat->jZ d.aj (p.set c.toNat j)=true:=fun j hj=>Yw hp qP ⟨by omega,by omega⟩;simp only[je];by_cases wB:0<=v/\(ay d v).var=c
  .obtain⟨hv0,hvc⟩:=wB;have a5g:v.toNat<d.au.length:=by have:=hv.1;omega
   have LX:((aS d v).length:Int)=d.aj.getD c.toNat 0:=by rw[<-hvc];exact h.ksz v.toNat a5g
   have hkn:(d.aj.getD c.toNat 0).toNat=(aS d v).length:=(by omega);have D6:∀j,j<(aS d v).length->(aS d v).getD j 0<v:=fun j hj=>by have h9:=(h.Ah v.toNat a5g j hj).1;have h9:(aS d v).getD j 0<(v.toNat:Int):=h9;omega
   have hrf:∀j,j<(aS d v).length->jK d ((aS d v).getD j 0) d.au.length:=fun j hj=>⟨by have:=D6 j hj;have:=hv.1;omega,(h.Ah v.toNat a5g j hj).2⟩;have amm:∀j,j<(aS d v).length->a+1<=FK d.aB d.au ((aS d v).getD j 0):=fun j hj=>by have:=hk v.toNat a5g j hj;have:d.aB.idxOf (ay d v).var+1<=FK d.aB d.au ((aS d v).getD j 0):=this;rw[hvc,hia]at this;exact this
   have amn:∀j:Nat,j<(aS d v).length->∀q,jZ d.aj q=true->Agr d.aj r q (p.set c.toNat j)->To d q ((aS d v).getD j 0) (l.getD (jE d.aj q).toNat V0):=fun j hj q hq hag=>by
    have Zt:q.getD c.toNat 0=j:=by have:=hag c.toNat nV (by rw[ait qP.1];exact hcr);rw[this,List.getD,a2y (by omega)];rfl
    have t0:=hto q hq (Agr.back qP hag);revert t0;generalize l.getD (jE d.aj q).toNat V0=w;intro t0;cases t0 with
    |fin h9=>omega
    |step _ t=>
     rw[hvc,Zt,a5U]at t;exact t
   rw[hkn];by_cases CY:v∈x.k.map (·.1)
   .
    have hKn:Kn d x v:=by unfold Kn;rw[a0U (by omega)];exact CY
    obtain⟨F',rfl⟩:∃k,F=k+1:=⟨F-1,by omega⟩;rw[Og hKn];obtain⟨i1,i2,i3⟩:=hi v CY;have inv:=dB (g:=D7 (je d.aj l r) c p) (m:=(aS d v).length) (k:=0) (s:=([],(x.e,x.n))) (fun k y=>y=(((aS d v).map (wu d x)).take k,(x.e,x.n))) (by simp) (fun j y _ hj hy=>by have hj:j<(aS d v).length:=(by omega);subst hy;have ih:=YU h QS hk r (a+1) (p.set c.toNat j) ((aS d v).getD j 0) x (F'+1) xI.symm aQ (Gw j (by omega)) hx hi Zu (hrf j hj) (amm j hj) (by omega) (by have:=D6 j hj;omega) (amn j hj);rw[Og (i1 j hj)]at ih;unfold D7;rw[ih];refine abk ?_ rfl;show(((aS d v).map (wu d x)).take j)++[wu d x ((aS d v).getD j 0)]=_;have hjm:j<((aS d v).map (wu d x)).length:=(by simpa using hj);rw[a8p hjm];simp[List.getD,a0N hj])
    rw[a3O]at inv;rw[inv,aad (by simp)];rw[hvc]at i2 i3;obtain⟨n1,n2⟩:=YO h.bP.sz Zu qP (ks:=(aS d v).map (wu d x)) (by simpa using LX);show(Hl x.n c _,(x.e,qO x.n c _))=_;rw[<-n1,<-n2,i2,i3];unfold wu;rw[a0U (by omega)]
   obtain⟨F',rfl⟩:∃k,F=k+1:=⟨F-1,by omega⟩;have key:∀j,j<=(aS d v).length->(aT (D7 (je d.aj l r) c p) j 0 ([],(x.e,x.n)))=((aT (Df d F' v) j 0 (List.replicate (aS d v).length 0,x)).1.take j,((aT (Df d F' v) j 0 (List.replicate (aS d v).length 0,x)).2.e,(aT (Df d F' v) j 0 (List.replicate (aS d v).length 0,x)).2.n))/\(aT (Df d F' v) j 0 (List.replicate (aS d v).length 0,x)).1.length=(aS d v).length/\(Em d (aT (Df d F' v) j 0 (List.replicate (aS d v).length 0,x)).2/\v∉(aT (Df d F' v) j 0 (List.replicate (aS d v).length 0,x)).2.k.map (·.1))/\YS d (aT (Df d F' v) j 0 (List.replicate (aS d v).length 0,x)).2/\NOk d.aj (aT (Df d F' v) j 0 (List.replicate (aS d v).length 0,x)).2.n:=by
    intro j
    induction j with
    |zero=>intro _;exact⟨rfl,by simp[aT],⟨hx,CY⟩,hi,Zu⟩
    |succ j ih=>
     intro hj;have hj:j<(aS d v).length:=hj;obtain⟨q1,q2,⟨q3,q3'⟩,q4,q5⟩:=ih (by omega);rw[qN,qN,a3O];generalize aT (Df d F' v) j 0 (List.replicate (aS d v).length 0,x)=y at q1 q2 q3 q3' q4 q5;rw[q1];have SI:=D6 j hj;have ih2:=YU h QS hk r (a+1) (p.set c.toNat j) ((aS d v).getD j 0) y.2 F' xI.symm aQ (Gw j (by omega)) q3 q4 q5 (hrf j hj) (amm j hj) (by omega) (by omega) (amn j hj);refine⟨?_,by simp[Df,q2],⟨QG h F' _ y.2 q3 (hrf j hj),YI F' _ v y.2 SI q3' (by omega) (fun i hi k hk=>(h.Ah i hi k hk).1) (fun h5=>⟨h5,(hrf j hj).1⟩)⟩,(a0W h F' _ y.2 (by omega) (by omega) (hrf j hj) q3 q4).1,a0X h F' _ y.2 (hrf j hj) q5⟩;unfold D7;rw[ih2];refine abk ?_ rfl;show y.1.take j++[(bY d F' ((aS d v).getD j 0) y.2).1]=(y.1.set j (bY d F' ((aS d v).getD j 0) y.2).1).take (j+1);rw[a8p (by simp;omega),List.take_set_of_le (a1p _),List.getElem_set_self]
   obtain⟨q1,q2,⟨q3,q3'⟩,q4,q5⟩:=key _ (a1p _);rw[q1];have e:bY d (F'+1) v x=(eG (aT (Df d F' v) (aS d v).length 0 (List.replicate (aS d v).length 0,x)).2.n (ay d v).var (aT (Df d F' v) (aS d v).length 0 (List.replicate (aS d v).length 0,x)).1,⟨(aT (Df d F' v) (aS d v).length 0 (List.replicate (aS d v).length 0,x)).2.e,dG (aT (Df d F' v) (aS d v).length 0 (List.replicate (aS d v).length 0,x)).2.n (ay d v).var (aT (Df d F' v) (aS d v).length 0 (List.replicate (aS d v).length 0,x)).1,(aT (Df d F' v) (aS d v).length 0 (List.replicate (aS d v).length 0,x)).2.k++[(v,eG (aT (Df d F' v) (aS d v).length 0 (List.replicate (aS d v).length 0,x)).2.n (ay d v).var (aT (Df d F' v) (aS d v).length 0 (List.replicate (aS d v).length 0,x)).1)]⟩):=by rw[bY,a0U (by simpa using hv0),a0U (by simpa using CY)]
   rw[e];generalize aT (Df d F' v) (aS d v).length 0 (List.replicate (aS d v).length 0,x)=y at q2 q5;rw[aad (by omega),hvc];obtain⟨n1,n2⟩:=YO h.bP.sz q5 qP (ks:=y.1) (by rw[q2];exact LX);rw[n1,n2]
  
  have amo:a+1<=FK d.aB d.au v:=by
   unfold FK at MW ⊢;split
   .omega
   rename_i c1;rw[a0U c1]at MW;have iI:d.aB.idxOf (d.au.getD v.toNat lD).var≠a:=fun e=>by
    apply wB;refine⟨by omega,?_⟩;have a5g:v.toNat<d.au.length:=by have:=hv.1;omega
    have hm:=mX QS (h.var v.toNat a5g);have h1:=a9I (a5P.2 hm);have e:d.aB.idxOf (fE d v.toNat).var=a:=e;show(fE d v.toNat).var=c;rw[hc,<-h1];congr 1
   omega
  obtain⟨z1,z2,z3⟩:=a0W h F v x hF1 hF hv hx hi;have Ru:=QG h F v x hx hv;have afQ:=a0X h F v x hv Zu;have amq:bY d F v (bY d F v x).2=((bY d F v x).1,(bY d F v x).2):=by
   have e:∀y,Kn d y v->wu d y v=(bY d F v x).1->bY d F v y=((bY d F v x).1,y):=fun y h1 h2=>by obtain⟨F',rfl⟩:∃k,F=k+1:=⟨F-1,by omega⟩;rw[Og h1,h2]
   exact e _ z2 z3
  have amr:∀j:Nat,∀q,jZ d.aj q=true->Agr d.aj r q (p.set c.toNat j)->To d q v (l.getD (jE d.aj q).toNat V0):=fun j q hq hag=>hto q hq (Agr.back qP hag);have inv:=dB (g:=D7 (je d.aj l r) c p) (m:=(d.aj.getD c.toNat 0).toNat) (k:=0) (s:=([],(x.e,x.n))) (fun k y=>(k=0/\y=([],(x.e,x.n)))\/(0<k/\y=(List.replicate k (bY d F v x).1,((bY d F v x).2.e,(bY d F v x).2.n)))) (.inl ⟨rfl,rfl⟩) (fun j y _ hj hy=>by
   right;refine⟨by omega,?_⟩;rcases hy with⟨rfl,rfl⟩|⟨h0,rfl⟩
   .have ih:=YU h QS hk r (a+1) (p.set c.toNat ((0:Nat):Int)) v x F xI.symm aQ (Gw 0 (by omega)) hx hi Zu hv amo hF1 hF (amr 0);unfold D7;rw[ih];rfl
   have ih:=YU h QS hk r (a+1) (p.set c.toNat ((j:Nat):Int)) v (bY d F v x).2 F xI.symm aQ (Gw j (by omega)) Ru z1 afQ hv amo hF1 hF (amr j);rw[amq]at ih;unfold D7;rw[ih];refine abk ?_ rfl;show List.replicate j _++[_]=_;rw[List.replicate_succ'])
  rw[a3O]at inv;rcases inv with⟨h0,_⟩|⟨h0,e⟩
  .omega
  rw[e];obtain⟨f1,f2⟩:=a8Y (n:=(d.aj.getD c.toNat 0).toNat) (by omega) (bY d F v x).1;show(Hl _ c _,(_,qO _ c _))=_;unfold Hl qO;rw[a18 f1,a18 f1,f2]
theorem Jq{d}(hl:bn d=0)(ho:d.aB.length<=ah)(he:d.aK.length<=ah):eH d=kL d.aj d.aB (cellsD d)/\OfP d.aj d.aB (cellsD d):=by
 obtain⟨h,hn⟩:=jo ho he (by rw[hl];rfl);have hf:(bg d.aj d.aB != 0)=false:=by
  unfold bn at hl;split at hl
  .rename_i c;rw[hl]at c;cases c
  rename_i c;simpa using c
 obtain⟨bP,QS⟩:=iR.1 (show bg d.aj d.aB=0 by simpa using hf);have hlen:((cellsD d).length:Int)=bG d.aj:=by unfold cellsD;rw[a5C,a6w,bP.Yd]
 have hr:=h.root;have hr1:=hr.1;have hto:∀q,jZ d.aj q=true->To d q d.root ((cellsD d).getD (jE d.aj q).toNat V0):=fun q hq=>by
  have hrn:=DY hq bP.sz;have t:=To.of h hq 6001 d.root (by omega) hr;have e:(cellsD d).getD (jE d.aj q).toNat V0=mW d q:=by
   have aQ:(jE d.aj q).toNat<wI d.aj:=by unfold wI;omega
   unfold cellsD;rw[List.getD,a0N (by simpa using aQ)];simp only[aa9,afo,a6b];rw[show(((jE d.aj q).toNat:Nat):Int)=jE d.aj q by omega,VN hq bP.sz]
  rw[e];exact t
 have key:=YU (l:=cellsD d) h QS (YT hl) d.aB 0 (List.replicate d.aj.length 0) d.root ZA 6002 rfl (a5S _) (QL bP.sz) Ws (fun v hv=>by cases hv) (fun b hb=>by cases hb) hr (a5S _) (by omega) (by omega) (fun q hq _=>hto q hq);refine⟨?_,⟨bP,QS,hlen⟩⟩;have key:je d.aj (cellsD d) d.aB (List.replicate d.aj.length 0) ([],[])=_:=key;unfold eH kL;rw[key]
open Go Tw Pv bV
theorem QW(k):Hg (i64.wrap k):=by
 have e:i64.wrap k=if k%(2^64:Int)>=(2^63:Int)then k%(2^64:Int)-2^64 else k%(2^64:Int):=by
  show(if(true&&decide (k%(2^64:Int)>=(2^63:Int)))=true then _ else _)=_;by_cases c:k%(2^64:Int)>=(2^63:Int)
  .rw[a18 (by simpa using c),a18 c];rfl
  rw[a0U (by simpa using c),a0U c];rfl
 rw[e];unfold Hg;split<;>constructor<;>omega
def EnW(x:EN):Prop:=∀b∈x.2,∀k∈b.aA,Hg k
theorem a8Z{s l}(hs:oh s):∀(r p) (x),(∀c∈r,gV c s.length)->EnW x->(je s l r p x).2.2.length<2^61->EnW (je s l r p x).2/\Hg (je s l r p x).1
 | [],p,x,_,hx,_=>⟨hx,QW _⟩
 |c::r,p,x,hr,hx,hE=>by
  have qP:=hr c (by simp);have hz:=hs _ (dF (s:=s) (k:=c.toNat) (by have:=qP.1;have:=qP.2;omega));have hN:=Jp (aT (D7 (je s l r) c p) (s.getD c.toNat 0).toNat 0 ([],x)).2.2 c (aT (D7 (je s l r) c p) (s.getD c.toNat 0).toNat 0 ([],x)).1;have hE:(qO (aT (D7 (je s l r) c p) (s.getD c.toNat 0).toNat 0 ([],x)).2.2 c (aT (D7 (je s l r) c p) (s.getD c.toNat 0).toNat 0 ([],x)).1).length<2^61:=hE;have inv:=dB (g:=D7 (je s l r) c p) (m:=(s.getD c.toNat 0).toNat) (k:=0) (s:=([],x)) (fun k y=>y.1.length=k/\(y.2.2.length<2^61->EnW y.2/\∀v∈y.1,Hg v)) ⟨rfl,fun _=>⟨hx,by simp⟩⟩ (fun j y _ hj hy=>by
   refine⟨by simp[D7,hy.1],fun hE2=>?_⟩;have hE2:(je s l r (p.set c.toNat j) y.2).2.2.length<2^61:=hE2;have hp:=(QN (s:=s) (l:=l) r (p.set c.toNat j) y.2).2.length_le;obtain⟨y1,y2⟩:=hy.2 (by omega);obtain⟨z1,z2⟩:=a8Z hs r (p.set c.toNat j) y.2 (fun c hc=>hr c (by simp[hc])) y1 hE2;refine⟨z1,fun v hv=>?_⟩;have hv:v∈y.1++[(je s l r (p.set c.toNat j) y.2).1]:=hv;rcases a3N.1 hv with hv|hv
   .exact y2 v hv
   rw[a2p.1 hv];exact z2)
  rw[a3O]at inv;simp only[je];generalize aT (D7 (je s l r) c p) (s.getD c.toNat 0).toNat 0 ([],x)=y at inv hN hE;obtain⟨ks,E,N⟩:=y;have hN:N <+: qO N c ks:=hN;have hE:(qO N c ks).length<2^61:=hE;obtain⟨i0,i1⟩:=inv;have i0:ks.length=(s.getD c.toNat 0).toNat:=i0;obtain⟨i1,i2⟩:=i1 (by have:=hN.length_le;show N.length<2^61;omega);have i1:∀b∈N,∀k∈b.aA,Hg k:=i1;have i2:∀v∈ks,Hg v:=i2;refine⟨fun b hb=>?_,?_⟩
  .have hb:b∈qO N c ks:=hb;unfold qO at hb;split at hb
   .exact i1 b hb
   split at hb
   .exact i1 b hb
   rcases a3N.1 hb with hb|hb
   .exact i1 b hb
   rw[a2p.1 hb];exact i2
  show Hg (Hl N c ks);by_cases hf:(ks.all fun x=>x==ks.getD 0 0)=true
  .rw[show Hl N c ks=ks.getD 0 0 from a18 hf];exact i2 _ (dF (s:=ks) (k:=0) (by omega))
  rw[show Hl N c ks=(N.idxOf (⟨c,ks⟩:Br):Nat)from a0U hf];have:=(Wv (N:=N) (c:=c) hf).1;exact⟨by omega,by omega⟩
theorem ac4{s o l}(h:OfP s o l)(hv:∀v∈l,vOk v=true)(hf:∀v∈l,0<=v.f):FI (kL s o l)/\gU (kL s o l)=0:=by
 obtain⟨hP,hn,ho⟩:=h.p;obtain⟨h1,h2,h3,h4,h5⟩:=Hq h hv;have hw:=Ho h.bP.sz h.ord;have hm:=h.bP.many;have hlen:=a0T (l:=l) h.bP.sz o (List.replicate s.length 0) ([],[]) hP.ord;have SL:(je s l o (List.replicate s.length 0) ([],[])).2.2.length+1<=0+wO s o:=hlen.2;obtain⟨w1,w2⟩:=a8Z (l:=l) h.bP.sz o (List.replicate s.length 0) ([],[]) hP.ord (fun b hb=>by cases hb) (by omega);have hR:FI (kL s o l):=⟨fun i hi k hk=>by
  have hb:fE (kL s o l) i∈(kL s o l).au:=by show(kL s o l).au.getD i lD∈_;rw[List.getD,a0N hi];exact a5K hi
  exact w1 _ hb _ (dF hk),w2,fun v hv=>hf v (h3 v hv)⟩
 refine⟨hR,?_⟩;obtain⟨ht,hn6⟩:=jo (d:=kL s o l) hP.ahk (by unfold ah;omega) (by rw[h1];rfl);have hc:=(Jq (d:=kL s o l) h1 hP.ahk (by unfold ah;omega)).1;rw[QU h hv]at hc;have hd:=(L6 ht hR (by omega) hn6).1 hc;unfold gU;rw[a0U (by rw[h1];decide),a0U (by rw[hd];decide)]
open Go Tw Pv bV
def aeN:fV aG:=bU 121 (a1 dA) iA (fun p=>(vg p).2) (fun p=>[FI p,p.aj.length<=ah,p.aB.length<=2^20,p.aK.length+1<=ah]) aeI
theorem ams:Gd aeN:=amk.add fun n hO p hp=>aN hO (.o (hp _ iC) (.o (hp _ yC) (.o (hp _ hh2) (.o (hp _ (.tail _ (.tail _ (.tail _ (.head _))))) .rr))))
def Am(d:Dg):Dg×Int:=if((bI d).2 != 0)=true then(iy,(bI d).2)else(eH (bI d).1.d,0)
def a90:fV aG:=bU 108 (a1 dA) (dJ (a2 dA iA)) (fun p=>Am p) (fun p=>[FI p,p.aj.length<=ah,p.aB.length<=2^20,p.aK.length<=ah,((bI p).2 != 0)=false->ClP (bI p).1]) aeN
theorem aeO:Gd a90:=ams.add fun n hO p hp=>aN hO (.o (hp _ yC) (.o (hp _ hh2) (.o (hp _ (.tail _ (.tail _ (.tail _ (.head _))))) (.sh (fun _=>.rn (.dK [.agg [.nil .aO,.nil .aO,.nil .aO,.nil .aO,.int .i64 0],.int .i64 (bI p).2]) rfl) fun h=>.o (hp _ (.tail _ (.tail _ (.tail _ (.tail _ (.head _))))) h) .rr))))
def amu:fV aG:=bU 77 (a3 iA iA iA) tA (fun p=>(if decide (p.2.2>=p.1)=true then decide (p.2.2<=p.2.1)else false)) np a90
theorem arx:Gd amu:=aeO.add fun n hO p hp=>aN hO (.ss .rr .rr)
def a3h:fV aG:=bU 123 (a2 (a7M frA) dA) tA (fun p=>(if decide (p.2.aj=p.1.1)=true then decide (p.2.aB=p.1.2)else false)) (fun p=>[p.2.aj.length<=ah,p.2.aB.length<=ah]) amu
theorem amv:Gd a3h:=arx.add fun n hO p hp=>aN hO (.o (hp _ iC) (.ss (.o (hp _ yC) .rr) .rr))
end Go.Proofs.YtmobpoiejckagaaGreat
namespace Pv
open Go Tw
variable{X:ny}{P:LI1}
theorem nN.YV(hX:bW X P){call f first xs cap vs v v' ext ext'}(hc:nN X P call f vs v ext)(hv:views [] (first++xs++cap)=some vs)(hs:su X 0 ext=some ext')(e:shift 0 v=v') (he:(if yE v||ext.any (hasB X)then bf (lG.kT (first++xs++cap)) []else [])=([]:List (PB X.Γ))):dI X P call (.fn f first cap) xs [] v' ext':=by
 subst e;intro A m h tf rJ hr hf hx;cases hf with
 |gone hi _ _=>simp[bC]at hi
 |fn p1 p2 p3 p4=>
  obtain⟨w,h',m1,c1,c2,c3,c4,c5⟩:=IX hX hc hr hv hs ⟨p1,p2⟩ hx ⟨p3,p4⟩;rw[he]at c2;exact⟨w,h',[],m1,c1,c2,c3,c4,c5,fun b hb=>by cases hb⟩
end Pv
namespace Go.Proofs.YtmobpoiejckagaaGreat
open Go Tw Pv bV
def a5h{α:Type}(g:α->Bool)(i:Nat)(x:α)(s:Unit):Unit⊕(Nat×α×Unit):=if(g x)=true then .inr (i,x,s)else .inl ()
def ahm{α:Type}(d:α)(g:α->Bool)(l:List α):Int:=if(jS (lZ (a5h g) l 0 ()))=true then -1 else(((BA (0,d,()) (lZ (a5h g) l 0 ())).1:Int))
theorem a94{α}(g:α->Bool):∀(l) (i),jS (lZ (a5h g) l i ())=!(l.any g)
 | [],i=>rfl
 |x::l,i=>by
  simp only[lZ,a5h,aer];cases g x
  .simpa using a94 g l (i+1)
  simp[jS]
theorem ahn{α}(d:α)(g l):decide (ahm d g l>=0)=l.any g:=by have:=a94 g l 0;unfold ahm;rw[this];cases l.any g<;>simp
theorem bQ{α:Type}{l:List α}{k d}(h:k<l.length):l.getD k d∈l:=by simp[List.getD,a0N h]
abbrev aho(f:Nat)(a c:List (PV aG))(H:List (PB aG))(l:List Dg)(i:Int)(x:List (Nat×PE aG)):bT aG:=⟨[(0,xL 26 l),(1,.val (.fn f a c)),(7,xi l.length),(8,xi i)]++x,[],H⟩
def amw(f:Nat)(a c:List (PV aG))(H:List (PB aG))(l:List Dg):Unit⊕(Nat×Dg×Unit)->Ex×bT aG
 |.inl _=>(.exit 0,aho f a c H l l.length [(9,xl false)])
 |.inr r=>(.ret,⟨[(4,xi r.1)],[],H⟩)
theorem arz{n f:Nat}{a c:List (PV aG)}{H:List (PB aG)}{g}(l)(hf:∀x∈l,jf n (.fn f a c) [.agg x.ps] H (.bool (g x)) H)(hl:l.length<=ah):jf (n+1) (.fn 204 [] []) [lDg l,.fn f a c] H (iA.put (ahm iy g l)) H:=by
 have lp:Ob n 204 0 H.length (aho f a c H l 0 []) (amw f a c H l (lZ (a5h g) l 0 ())).1 (amw f a c H l (lZ (a5h g) l 0 ())).2:=
  Y5 (st:=fun i _=>aho f a c H l i []) iy (fun _ _=>True) (by kernel_rfl) hl Uk trivial (fun k s n hk _ ih=>aP gK (.b (bD hk) (.o (aH hk) (.k (hf (l.getD k iy) (bQ hk)) (.ls (.ou nofun) (.nx (ih _ trivial))))))) (fun s _=>aP gK (.b (fC l.length) (.ou nofun)))
 exact jF gK (first:=[]) (cap:=[]) (.szh (fun h=>.w (kX lp () h) .sr) (fun h=>.w (kY lp (0,iy,()) h) .sr))
theorem arA{n f:Nat}{a c:List (PV aG)}{H:List (PB aG)}{g}(l)(hf:∀x∈l,jf n (.fn f a c) [.agg x.ps] H (.bool (g x)) H)(hl:l.length<=ah):jf (n+2) (.fn 173 [] []) [lDg l,.fn f a c] H (tA.put (l.any g)) H:=by rw[<-ahn iy g l];have h1:=arz l hf hl;exact jF gK (first:=[]) (cap:=[]) (.k h1 .sr)
def wL(f:LI0×LI0)(d:Dg):Bool:=if decide (d.aj=f.1)=true then decide (d.aB=f.2)else false
abbrev a95(f:LI0×LI0):PV aG:=.fn 123 [.agg [lI f.1,lI f.2]] []
structure kM(d:Dg):Prop where
 r:FI d
 s:d.aj.length<=ah
 o:d.aB.length<=2^20
 e:d.aK.length+1<=ah
theorem arB{n}(hO:Ok n a3h)(f l)(hp:∀d∈l,kM d)(hl:l.length<=ah):jf (n+4) (.fn 122 [] []) [a95 f,lDg l] [] (tA.put (l.all (wL f))) []:=by
 have hs:∀d∈l,jf n (a95 f) [.agg d.ps] [] (tA.put (wL f d)) []:=fun d hd=>nN.YV hX (first:=[.agg [lI f.1,lI f.2]]) (cap:=[]) (hO 123 [.agg [lI f.1,lI f.2],.agg d.ps] (tA.put (wL f d)) [] [d.aj.length<=ah,d.aB.length<=ah] (by kernel_rfl) (fun p h=>by
  have h9:=hp d hd;have h8:=h9.o;rcases a1G.1 h with rfl|h
  .exact h9.s
  rw[a2p.1 h];exact h8)) rfl rfl rfl rfl
 have h1:∀d∈l,jf (n+1) (.fn 174 [] [.ptr 0 0 1]) [.agg d.ps] [.cells [a95 f]] (tA.put (!(wL f d))) [.cells [a95 f]]:=fun d hd=>
  jF gK (first:=[]) (.fr [] (hs d hd) .sr)
 have h2:=arA l h1 hl;rw[<-F9 l (wL f)];exact dI.drop hX (DW hX gK (first:=[]) (cap:=[]) (H1:=[.cells [a95 f]]) (by kernel_rfl) (.k h2 .sr)) rfl rfl
abbrev wCk(l:List Dg)(i:Int)(x:List (Nat×PE aG)):bT aG:=⟨[(0,xL 26 l),(6,xL 26 l),(7,xi l.length),(8,xi i)]++x,[],[]⟩
abbrev YW(l:List Dg)(k:Nat):Bool:=(vg (l.getD k iy)).2 != 0
def zCk(l:List Dg):Unit⊕Nat->Ex×bT aG
 |.inl _=>(.exit 0,wCk l l.length [(9,xl false)])
 |.inr k=>(.ret,⟨[(2,xi (vg (l.getD k iy)).2)],[(l.getD k iy).ps],[]⟩)
theorem lCk{n}(hO:Ok n a3h){l}(hp:∀d∈l,kM d)(hl:l.length<=ah):Lp n 76 0 (wCk l 0 []) (zCk l (bH (YW l) l.length)).1 (zCk l (bH (YW l) l.length)).2:=by
 refine jm (st:=fun i _=>wCk l i []) (g:=gS (YW l)) (out:=zCk l) (fun _ _=>True) (by kernel_rfl) hl trivial (fun k u m hk _ ih=>?_) (fun _ _=>?_)
 .have h9:=hp _ (bQ (d:=iy) hk);unfold gS YW;exact aP hO (.b (bD hk) (.o (aH hk) (.o h9.r (.o h9.s (.o h9.o (.o h9.e (.ls (.ou nofun) (.nx (ih _ trivial)))))))))
 exact aP hO (.b (fC l.length) (.ou nofun))
def aU(l:List Dg):Int:=if jS (bH (YW l) l.length)=true then(if(!(l.all (wL ((l.getD 0 iy).aj,(l.getD 0 iy).aB))))=true then 2 else 0)else(vg (l.getD (BA 0 (bH (YW l) l.length)) iy)).2
def amx:fV aG:=bU 76 (a1 a4P) iA aU (fun l=>[∀d∈l,kM d,0<l.length/\l.length<=ah]) a3h
theorem arE:Gd amx:=amv.deep 4 fun n hn hO l hp=>by have h1:∀d∈l,kM d:=hp _ iC;have h2:0<l.length/\l.length<=ah:=hp _ yC;have hs:=arB (n:=n-4) (hO (n-4) (by omega)) ((l.getD 0 iy).aj,(l.getD 0 iy).aB) l h1 h2.2;rw[show n-4+4=n by omega]at hs;have i0:gV 0 l.length:=⟨by omega,by omega⟩;have hl:=lCk (hO n (by omega)) h1 h2.2;show nN X0 Qp _ _ _ (iA.put (aU l)) _;unfold aU;exact aN (hO n (by omega)) (.zh (fun h=>.w (kX hl () h) (.o i0 (.o i0 (.fr [] hs (.ss .rr .rr))))) (fun h=>.w (kY hl 0 h) .rr))
open Go Tw Pv bV
theorem a96{n:Int}(h:0<=n/\n<=6):n=0\/n=1\/n=2\/n=3\/n=4\/n=5\/n=6:=by omega
theorem a97:(0:Int)<=32:=by decide
def aeP:fV aG:=bU 206 (a2 pA pA) (dJ (a2 pA pA)) (fun p=>(0,p.2)) (fun p=>[p.1=1,0<=p.2/\p.2<=6]) amx
theorem amy:Gd aeP:=arE.add fun n hO p hp=>by
 obtain⟨a,b⟩:=p;have h1:a=1:=hp _ iC;have h2:0<=b/\b<=6:=hp _ yC;subst h1;rcases a96 h2 with rfl|rfl|rfl|rfl|rfl|rfl|rfl
 all_goals exact aN hO (.o a97 (.o a97 (.o a97 (.o a97 (.o a97 .rr)))))
def aeQ:fV aG:=bU 175 (a2 pA pA) (dJ (a2 pA pA)) (fun p=>(0,p.2)) (fun p=>[p.1=1,0<=p.2/\p.2<=6]) aeP
theorem amA:Gd aeQ:=amy.add fun n hO p hp=>aN hO (.o (hp _ iC) (.o (hp _ yC) .rr))
def Gl:fV aG:=bU 124 (a2 qF iA) qF (fun p=>List.replicate p.2.toNat (-1)) (fun p=>[p.1=[-1],0<=p.2/\p.2<=6]) aeQ
theorem QX:Gd Gl:=amA.add fun n hO p hp=>by
 obtain⟨a,b⟩:=p;have h1:a=[-1]:=hp _ iC;have h2:0<=b/\b<=6:=hp _ yC;subst h1;rcases a96 h2 with rfl|rfl|rfl|rfl|rfl|rfl|rfl
 .exact aN hO (.b (rfl:decide ((0:Int)<0)=false) (.o aiH (.o aj1 (.b (rfl:decide ((0:Int)>0)=false) (.b (rfl:decide ((0:Int)>9223372036854775807)=false) (.o aiN (.o aiD (.o (show(0:Int)<=(ah:Int) by decide) (.m 8 le8 (.b (rfl:decide ((0:Int)<0)=false) .rr))))))))))
 .exact aN hO (.b (rfl:decide ((1:Int)<0)=false) (.o aiH (.o aj2 (.b (rfl:decide ((0:Int)>0)=false) (.b (rfl:decide ((1:Int)>9223372036854775807)=false) (.o aiH (.o aiE (.o (show(1:Int)<=(ah:Int) by decide) (.m 8 le8 (.b (rfl:decide ((1:Int)<1)=false) .rr))))))))))
 .exact aN hO (.b (rfl:decide ((2:Int)<0)=false) (.o aiH (.o aj6 (.b (rfl:decide ((0:Int)>0)=false) (.b (rfl:decide ((2:Int)>9223372036854775807)=false) (.o (rfl:(2:Int)=2) (.o aiF (.o (show(2:Int)<=(ah:Int) by decide) (.m 8 le8 (.b (rfl:decide ((1:Int)<2)=true) (.o aiE (.o aiO (.o aj3 (.o aiD (.o aiE (.o aiO (.b (rfl:decide ((2:Int)<2)=false) .rr)))))))))))))))))
 .exact aN hO (.b (rfl:decide ((3:Int)<0)=false) (.o aiH (.o aj9 (.b (rfl:decide ((0:Int)>0)=false) (.b (rfl:decide ((3:Int)>9223372036854775807)=false) (.o (rfl:(3:Int)=3) (.o aj7 (.o (show(3:Int)<=(ah:Int) by decide) (.m 8 le8 (.b (rfl:decide ((1:Int)<3)=true) (.o aiE (.o aiP (.o aiQ (.o aiD (.o aiE (.o aiP (.b (rfl:decide ((2:Int)<3)=true) (.o aiF (.o aiR (.o aiQ (.o aiD (.o aiF (.o aiR (.b (rfl:decide ((3:Int)<3)=false) .rr))))))))))))))))))))))))
 .exact aN hO (.b (rfl:decide ((4:Int)<0)=false) (.o aiH (.o ajb (.b (rfl:decide ((0:Int)>0)=false) (.b (rfl:decide ((4:Int)>9223372036854775807)=false) (.o (rfl:(4:Int)=4) (.o aiI (.o (show(4:Int)<=(ah:Int) by decide) (.m 8 le8 (.b (rfl:decide ((1:Int)<4)=true) (.o aiE (.o aiS (.o aiT (.o aiD (.o aiE (.o aiS (.b (rfl:decide ((2:Int)<4)=true) (.o aiF (.o aiU (.o aiT (.o aiD (.o aiF (.o aiU (.b (rfl:decide ((4:Int)<4)=false) .rr))))))))))))))))))))))))
 .exact aN hO (.b (rfl:decide ((5:Int)<0)=false) (.o aiH (.o aje (.b (rfl:decide ((0:Int)>0)=false) (.b (rfl:decide ((5:Int)>9223372036854775807)=false) (.o (rfl:(5:Int)=5) (.o ajd (.o (show(5:Int)<=(ah:Int) by decide) (.m 8 le8 (.b (rfl:decide ((1:Int)<5)=true) (.o aiE (.o aiV (.o aiL (.o aiD (.o aiE (.o aiV (.b (rfl:decide ((2:Int)<5)=true) (.o aiF (.o aiW (.o aiL (.o aiD (.o aiF (.o aiW (.b (rfl:decide ((4:Int)<5)=true) (.o aiI (.o aiX (.o aiL (.o aiD (.o aiI (.o aiX (.b (rfl:decide ((5:Int)<5)=false) .rr)))))))))))))))))))))))))))))))
 .exact aN hO (.b (rfl:decide ((6:Int)<0)=false) (.o aiH (.o ajh (.b (rfl:decide ((0:Int)>0)=false) (.b (rfl:decide ((6:Int)>9223372036854775807)=false) (.o (rfl:(6:Int)=6) (.o ajg (.o (show(6:Int)<=(ah:Int) by decide) (.m 8 le8 (.b (rfl:decide ((1:Int)<6)=true) (.o aiE (.o aiY (.o aiM (.o aiD (.o aiE (.o aiY (.b (rfl:decide ((2:Int)<6)=true) (.o aiF (.o aiZ (.o aiM (.o aiD (.o aiF (.o aiZ (.b (rfl:decide ((4:Int)<6)=true) (.o aiI (.o aj0 (.o aiM (.o aiD (.o aiI (.o aj0 (.b (rfl:decide ((6:Int)<6)=false) .rr)))))))))))))))))))))))))))))))
open Go Tw Pv bV
structure S3 where
 a:Int
 b:Int
 c:Int
 deriving DecidableEq
abbrev S3.ps(s:S3):List (PV aG):=[.int .i64 s.a,.int .i64 s.b,.int .i64 s.c]
def S3.get(s:S3):Nat->Int
 | 0=>s.a
 | 1=>s.b
 |_=>s.c
def S3.set(s:S3)(k:Nat)(v:Int):S3:=match k with
 | 0=>⟨v,s.b,s.c⟩
 | 1=>⟨s.a,v,s.c⟩
 |_=>⟨s.a,s.b,v⟩
structure Jb where
 s:LI0
 o:LI0
 D:List Dg
 g:LI0
abbrev Jb.ps(J:Jb)(op:PV aG):List (PV aG):=[lI J.s,lI J.o,lDg J.D,lI J.g,op]
def lF(d:Dg)(x c:Int):Bool:=if decide (x>=0)=true then((ay d x).var==c)else false
def Nv(d:Dg)(x c g:Int):Int:=if lF d x c=true then(ay d x).aA.getD g.toNat 0 else x
theorem ac5{d x c}(e:decide (x>=0)=false):lF d x c=false:=by unfold lF;rw[e];rfl
theorem a98{d x c}(e:decide (x>=0)=true):lF d x c=((ay d x).var==c):=by unfold lF;rw[e];rfl
abbrev lH(D:List Dg)(k:Nat):Dg:=D.getD k iy
def kE(D:List Dg)(s:S3)(c:Int):Bool:=!(jS (bH (fun k=>lF (lH D k) (s.get k) c) D.length))
def bM(D:List Dg)(s:S3)(c g:Int):S3:=aT (fun k y=>y.set k (Nv (lH D k) (y.get k) c g)) D.length 0 s
def fA(D:List Dg):S3:=aT (fun k y=>y.set k (lH D k).root) D.length 0 ⟨0,0,0⟩
theorem three{k n}(h:k<n)(hn:n<=3):k=0\/k=1\/k=2:=by omega
theorem m3{n}(h:n<=3):n<=ah:=by unfold ah;omega
section
variable{M f:Nat}{a cc:List (PV aG)}{H:List (PB aG)}
abbrev wAs(J:Jb)(op:PV aG)(H:List (PB aG))(s:S3)(c:Int)(i:Int)(x:List (Nat×PE aG)):bT aG:=⟨[(2,xi c),(4,.loc 1 0),(10,xL 26 J.D),(11,xi J.D.length),(12,xi i)]++x,[J.ps op,s.ps],H⟩
def zAs(J:Jb)(op:PV aG)(H:List (PB aG))(s:S3)(c:Int):Unit⊕Nat->Ex×bT aG
 |.inl _=>(.exit 0,wAs J op H s c J.D.length [(13,xl false)])
 |.inr k=>(.ret,⟨[(6,xl true)],[J.ps op,s.ps,(lH J.D k).ps],H⟩)
theorem lAs(J s c)(hD:J.D.length<=3)(hr:∀k,k<J.D.length->decide (s.get k>=0)=true->gV (s.get k) (lH J.D k).au.length):Ob M 127 0 H.length (wAs J (.fn f a cc) H s c 0 []) (zAs J (.fn f a cc) H s c (bH (fun k=>lF (lH J.D k) (s.get k) c) J.D.length)).1 (zAs J (.fn f a cc) H s c (bH (fun k=>lF (lH J.D k) (s.get k) c) J.D.length)).2:=by
 refine jm (st:=fun i _=>wAs J (.fn f a cc) H s c i []) (g:=gS (fun k=>lF (lH J.D k) (s.get k) c)) (out:=zAs J (.fn f a cc) H s c) (fun _ _=>True) (by kernel_rfl) (m3 hD) trivial (fun k u m hk _ ih=>?_) (fun _ _=>?_)
 .have h1:=hr k hk;have hg:gS (fun k=>lF (lH J.D k) (s.get k) c) k u=if lF (lH J.D k) (s.get k) c=true then .inr k else .inl u:=rfl
  cases e:decide (s.get k>=0)
  .rw[ac5 e,a0U (by simp)]at hg;rw[hg];rcases three hk hD with rfl|rfl|rfl
   all_goals exact aP gK (.b (bD hk) (.o (aH hk) (.b e (.nx (ih _ trivial)))))
  rw[a98 e]at hg;rw[hg];rcases three hk hD with rfl|rfl|rfl
  all_goals exact aP gK (.b (bD hk) (.o (aH hk) (.b e (.o (h1 e) (.ls (.ou nofun) (.nx (ih _ trivial)))))))
 exact aP gK (.b (fC J.D.length) (.ou nofun))
theorem a99(J:Jb)(s c)(hD:J.D.length<=3)(hr:∀k,k<J.D.length->decide (s.get k>=0)=true->gV (s.get k) (lH J.D k).au.length):dI X0 Qp (iD (M+1)) (.fn 127 [] []) [.agg (J.ps (.fn f a cc)),.agg s.ps,.int .i64 c] H (.bool (kE J.D s c)) H:=by
 have lp:=lAs (M:=M) (f:=f) (a:=a) (cc:=cc) (H:=H) J s c hD hr;unfold kE;cases h:jS (bH (fun k=>lF (lH J.D k) (s.get k) c) J.D.length)
 .exact fD gK (first:=[]) (cap:=[]) (.w (kY lp 0 h) .er)
 exact fD gK (first:=[]) (cap:=[]) (.w (kX lp () h) .er)
abbrev wAf(J:Jb)(op:PV aG)(H:List (PB aG))(s:S3)(c g:Int)(i:Int)(x:List (Nat×PE aG)):bT aG:=⟨[(2,xi c),(3,xi g),(5,.loc 1 0),(8,.loc 2 0),(12,xL 26 J.D),(13,xi J.D.length),(14,xi i)]++x,[J.ps op,s.ps,[.int .i64 0,.int .i64 0,.int .i64 0]],H⟩
structure a3i(d:Dg)(x c g:Int):Prop where
 n:decide (x>=0)=true->gV x d.au.length
 k:lF d x c=true->gV g (ay d x).aA.length
theorem L9(J:Jb)(s c g)(hD:J.D.length<=3)(hr:∀k,k<J.D.length->a3i (lH J.D k) (s.get k) c g):dI X0 Qp (iD (M+1)) (.fn 129 [] []) [.agg (J.ps (.fn f a cc)),.agg s.ps,.int .i64 c,.int .i64 g] H (.agg (bM J.D s c g).ps) H:=by
 have lp:Ob M 129 0 H.length (wAf J (.fn f a cc) H s c g 0 []) (.exit 0) (wAf J (.fn f a cc) H (bM J.D s c g) c g J.D.length [(15,xl false)]):=by
  refine wK (σ:=S3) (N:=J.D.length) (g:=fun k y=>y.set k (Nv (lH J.D k) (y.get k) c g)) (s0:=s) (st:=fun i y=>wAf J (.fn f a cc) H y c g i []) (fin:=fun y=>wAf J (.fn f a cc) H y c g J.D.length [(15,xl false)]) (fun j y=>∀k,j<=k->k<J.D.length->y.get k=s.get k) (by kernel_rfl) (m3 hD) (fun _ _ _=>rfl) (fun j y hj hy=>?_) (fun j y hj hy m e p g9=>?_) (fun y _=>?_)
  .intro k hk lK;rw[<-hy k (by omega) lK];rcases three lK hD with rfl|rfl|rfl<;>rcases three hj hD with rfl|rfl|rfl<;>first|rfl|omega
  .have h1:=hr j hj;rw[<-hy j (a1p _) hj]at h1;obtain⟨h1,h2⟩:=h1;unfold Nv at g9;rcases three hj hD with rfl|rfl|rfl
   all_goals
    cases e1:decide (y.get _>=0)
    .unfold lF at g9;rw[e1]at g9;exact aP gK (.b (bD hj) (.o (aH hj) (.b e1 (.go g9))))
    .have h3:=h1 e1;cases e2:(ay (lH J.D _) (y.get _)).var==c
     .unfold lF at g9;rw[e1,a18 rfl,e2]at g9;exact aP gK (.b (bD hj) (.o (aH hj) (.b e1 (.o h3 (.b e2 (.go g9))))))
     .unfold lF at g9 h2;rw[e1,a18 rfl,e2]at g9 h2;exact aP gK (.b (bD hj) (.o (aH hj) (.b e1 (.o h3 (.b e2 (.o h3 (.o (h2 rfl) (.go g9))))))))
  exact aP gK (.b (fC J.D.length) .ex)
 exact fD gK (first:=[]) (cap:=[]) (.w lp .er)
abbrev wSt(J:Jb)(op:PV aG)(H:List (PB aG))(s:S3)(i:Int)(x:List (Nat×PE aG)):bT aG:=⟨[(2,.loc 1 0),(6,xL 26 J.D),(7,xi J.D.length),(8,xi i)]++x,[J.ps op,s.ps],H⟩
theorem a0Y(J:Jb)(hD:J.D.length<=3):dI X0 Qp (iD (M+1)) (.fn 130 [] []) [.agg (J.ps (.fn f a cc))] H (.agg (fA J.D).ps) H:=by
 have lp:Ob M 130 0 H.length (wSt J (.fn f a cc) H ⟨0,0,0⟩ 0 []) (.exit 0) (wSt J (.fn f a cc) H (fA J.D) J.D.length [(9,xl false)]):=by
  refine wK (σ:=S3) (N:=J.D.length) (g:=fun k y=>y.set k (lH J.D k).root) (s0:=⟨0,0,0⟩) (st:=fun i y=>wSt J (.fn f a cc) H y i []) (fin:=fun y=>wSt J (.fn f a cc) H y J.D.length [(9,xl false)]) (fun _ _=>True) (by kernel_rfl) (m3 hD) trivial (fun _ _ _ _=>trivial) (fun j y hj _ m e p g9=>?_) (fun y _=>?_)
  .rcases three hj hD with rfl|rfl|rfl
   all_goals exact aP gK (.b (bD hj) (.o (aH hj) (.go g9)))
  exact aP gK (.b (fC J.D.length) .ex)
 exact fD gK (first:=[]) (cap:=[]) (.w lp .er)
end
end Go.Proofs.YtmobpoiejckagaaGreat
namespace Pv
open Go Tw
section
variable{X:ny}{P:LI1}
theorem dI.fzR(hX:bW X P){call fv xs H H1 v v'}(hs:dI X P call fv xs H v H1)(is)(hv:views H1 [v]=some [v'])(ho:∀i,i∈lG.kT [v]->i∈is):dI X P call fv xs H v' (bf is H1):=by intro A m h tf rJ hr hf hx;obtain⟨w,h',ws,m1,k1,k2,k3,k4,k5,k6⟩:=hs A m h tf rJ hr hf hx;have hF:=iP (h:=h') is m1;have w1:=(lX (m':=cu is m1) hX k2 (.cons k3 .nil) hv ho).mono fun b hb=>FA.gone k2 hb;obtain⟨x,r,e,h1,_⟩:=w1.inv;cases e;exact⟨w,h',ws,cu is m1,k1,k2.bf is,h1,k4.trans hF.1,k5.trans hF.2,k6⟩
end
end Pv
namespace Go.Proofs.YtmobpoiejckagaaGreat
open Go Tw Pv bV
def aX(D:List Dg)(s:S3):List V:=(List.range D.length).map fun k=>pq (lH D k) (s.get k)
def gCe(D:List Dg)(s:S3)(k:Nat)(l:List V):List V:=l++[pq (lH D k) (s.get k)]
theorem a9a(D s):aT (gCe D s) D.length 0 []=aX D s:=by have:=dB (g:=gCe D s) (m:=D.length) (k:=0) (s:=[]) (fun k l=>l=(List.range k).map fun k=>pq (lH D k) (s.get k)) rfl (fun j l _ _ e=>by rw[gCe,e,aeE,a4V];rfl);rw[a3O]at this;exact this
abbrev wCe(J:Jb)(op:PV aG)(H:List (PB aG))(s:S3)(l:List V)(i:Int)(x:List (Nat×PE aG)):bT aG:=⟨[(3,.loc 1 0),(4,.val (.own H.length)),(8,xL 26 J.D),(9,xi J.D.length),(10,xi i)]++x,[J.ps op,s.ps],H++[.list false false 39 l]⟩
theorem a3j{M f:Nat}(J:Jb)(s)(hD:J.D.length<=3)(hr:∀k,k<J.D.length->gV (jh (s.get k)) (lH J.D k).aK.length):dI X0 Qp (iD (M+1)) (.fn 128 [] []) [.agg (J.ps (.fn f [] [])),.agg s.ps] [] (lV (aX J.D s)) []:=by
 have lp:Ob M 128 0 0 (wCe J (.fn f [] []) [] s [] 0 []) (.exit 0) (wCe J (.fn f [] []) [] s (aX J.D s) J.D.length [(11,xl false)]):=by
  rw[<-a9a J.D s];refine wK (σ:=List V) (N:=J.D.length) (g:=gCe J.D s) (s0:=[]) (st:=fun i l=>wCe J (.fn f [] []) [] s l i []) (fin:=fun l=>wCe J (.fn f [] []) [] s l J.D.length [(11,xl false)]) (fun k l=>l.length=k) (by kernel_rfl) (m3 hD) rfl (fun j y hj hy=>by simp[gCe,hy]) (fun j y hj hy m e p g9=>?_) (fun y _=>?_)
  .have h1:=hr j hj;have h2:y.length+[pq (lH J.D j) (s.get j)].length<=ah:=by rw[hy,a4O];exact m3 (by omega)
   rcases three hj hD with rfl|rfl|rfl
   all_goals exact aP gK (.b (bD hj) (.o (aH hj) (.o h1 (.o h2 (.goG [.gc [2]] g9)))))
  exact aP gK (.b (fC J.D.length) .ex)
 have h0:dI X0 Qp (iD (M+1)) (.fn 128 [] []) [.agg (J.ps (.fn f [] [])),.agg s.ps] [] (.own 0) ([]++[.list false false 39 (aX J.D s)]):=fD gK (first:=[]) (cap:=[]) (.wG [.IE 4 39] lp .er);exact dI.cut hX (dI.fzR hX h0 [0] (v':=lV (aX J.D s)) rfl (by decide)) rfl rfl rfl rfl
theorem ac6{M f:Nat}{u}(J:Jb)(s)(hD:J.D.length<=3)(hr:∀k,k<J.D.length->gV (jh (s.get k)) (lH J.D k).aK.length):dI X0 Qp (iD (M+1)) (.fn 128 [] []) [.agg (J.ps (.fn f [] [.ptr 0 0 1])),.agg s.ps] [.aF [.int .u8 u]] (lV (aX J.D s)) [.aF [.int .u8 u]]:=by
 have lp:Ob M 128 0 1 (wCe J (.fn f [] [.ptr 0 0 1]) [.aF [.int .u8 u]] s [] 0 []) (.exit 0) (wCe J (.fn f [] [.ptr 0 0 1]) [.aF [.int .u8 u]] s (aX J.D s) J.D.length [(11,xl false)]):=by
  rw[<-a9a J.D s];refine wK (σ:=List V) (N:=J.D.length) (g:=gCe J.D s) (s0:=[]) (st:=fun i l=>wCe J (.fn f [] [.ptr 0 0 1]) [.aF [.int .u8 u]] s l i []) (fin:=fun l=>wCe J (.fn f [] [.ptr 0 0 1]) [.aF [.int .u8 u]] s l J.D.length [(11,xl false)]) (fun k l=>l.length=k) (by kernel_rfl) (m3 hD) rfl (fun j y hj hy=>by simp[gCe,hy]) (fun j y hj hy m e p g9=>?_) (fun y _=>?_)
  .have h1:=hr j hj;have h2:y.length+[pq (lH J.D j) (s.get j)].length<=ah:=by rw[hy,a4O];exact m3 (by omega)
   rcases three hj hD with rfl|rfl|rfl
   all_goals exact aP gK (.b (bD hj) (.o (aH hj) (.o h1 (.o h2 (.goG [.gc [3]] g9)))))
  exact aP gK (.b (fC J.D.length) .ex)
 have h0:dI X0 Qp (iD (M+1)) (.fn 128 [] []) [.agg (J.ps (.fn f [] [.ptr 0 0 1])),.agg s.ps] [.aF [.int .u8 u]] (.own 1) ([.aF [.int .u8 u]]++[.list false false 39 (aX J.D s)]):=fD gK (first:=[]) (cap:=[]) (.wG [.IE 4 39] lp .er);exact dI.cut hX (dI.fzR hX h0 [1] (v':=lV (aX J.D s)) rfl (by decide)) rfl rfl rfl rfl
open Go Tw Pv bV
def S3.l(s:S3):LI0:=[s.a,s.b,s.c]
theorem uSt:Tryz.prog.underlying 148=some (.array 3 3):=by kernel_rfl
theorem amB(a b:S3):aC Qp (Op.equal 148 (.agg (E8 .i64 a.l)) (.agg (E8 .i64 b.l)))=some (decide (a=b)):=by have:=CG (P:=Qp) 9998 (k:=.i64) (l:=a.l) (l':=b.l) uSt (by kernel_rfl) a4R (by kernel_rfl) rfl rfl;refine Eq.trans this ?_;obtain⟨a1,a2,a3⟩:=a;obtain⟨b1,b2,b3⟩:=b;simp[S3.l]
def kS:qc X0 Qp 148 S3 where
 pv x:=.agg x.ps
 tv x:=.agg [.int .i64 x.a,.int .i64 x.b,.int .i64 x.c]
 v x:=.agg (E8 .i64 x.l)
 hp _:=rfl
 ht _:=rfl
 hc em x:=by kernel_rfl
 hf x l:=agE uSt amB x l
 hk:=agF uSt amB
structure Mk where
 e:List V
 n:List Br
 k:List (S3×Int)
def Wx(D:List Dg)(f:S3->Mk->Int×Mk)(s:S3)(c:Int)(j:Nat)(y:LI0×Mk):LI0×Mk:=(y.1++[(f (bM D s c j) y.2).1],(f (bM D s c j) y.2).2)
def knS(k:List (S3×Int))(s:S3):Int:=((k.find? fun e=>decide (e.1=s)).map (·.2)).getD 0
def jL(J:Jb)(op:List V->V):LI0->S3->Mk->Int×Mk
 | [],s,x=>(i64.wrap (0-((x.e++[op (aX J.D s)]).length:Int)),{ x with e:=x.e++[op (aX J.D s)] })
 |c::r,s,x=>if kE J.D s c=true then(if decide (J.g.getD c.toNat 0>=0)=true then jL J op r (bM J.D s c (J.g.getD c.toNat 0)) x
   else if s∈x.k.map (·.1)then(knS x.k s,x)
   else
    let y:=aT (Wx J.D (jL J op r) s c) (J.s.getD c.toNat 0).toNat 0 ([],x)
    ((y.2.n.length:Int),⟨y.2.e,y.2.n++[⟨c,y.1⟩],y.2.k++[(s,(y.2.n.length:Int))]⟩))
  else jL J op r s x
abbrev Jr(k:List (S3×Int)):List (PV aG×PV aG):=kS.es (k.map fun e=>(e.1,.int .i64 e.2))
abbrev pM:List (PV aG):=[.ptr 2 0 5,.ptr 1 0 5,.ptr 3 0 1,.ptr 4 0 1]
abbrev HM0(J:Jb)(f:Nat)(x:Mk):List (PB aG):=[.map (Jr x.k),.cells [lI J.s,lI J.o,.own 5,.own 6,.int .i64 0],.aF (J.ps (.fn f [] [])),.aF [.fn 126 [] pM],.aF [.map 0],Ry x.e,Rz x.n]
abbrev ac7(J:Jb)(f:Nat)(x:Mk):List (PB aG):=[.map (Jr x.k),.cells [lI J.s,lI J.o,.own 7,.own 8,.int .i64 0],.aF (J.ps (.fn f [] [])),.aF [.fn 126 [] pM],.aF [.map 0],.gone,.gone,Ry x.e,Rz x.n]
abbrev HM1(J:Jb)(f:Nat)(u:Int)(x:Mk):List (PB aG):=[.map (Jr x.k),.cells [lI J.s,lI J.o,.own 6,.own 7,.int .i64 0],.aF (J.ps (.fn f [] [.ptr 5 0 1])),.aF [.fn 126 [] pM],.aF [.map 0],.aF [.int .u8 u],Ry x.e,Rz x.n]
abbrev ac8(J:Jb)(f:Nat)(u:Int)(x:Mk):List (PB aG):=[.map (Jr x.k),.cells [lI J.s,lI J.o,.own 8,.own 9,.int .i64 0],.aF (J.ps (.fn f [] [.ptr 5 0 1])),.aF [.fn 126 [] pM],.aF [.map 0],.aF [.int .u8 u],.gone,.gone,Ry x.e,Rz x.n]
open Go Tw Pv bV
theorem S3.jl{s:S3}{i k v}(hi:i<3)(hk:k<3):(s.set i v).get k=if k=i then v else s.get k:=by
 match i,k,hi,hk with
 | 0,0,_,_=>rfl
 | 0,1,_,_=>rfl
 | 0,2,_,_=>rfl
 | 1,0,_,_=>rfl
 | 1,1,_,_=>rfl
 | 1,2,_,_=>rfl
 | 2,0,_,_=>rfl
 | 2,1,_,_=>rfl
 | 2,2,_,_=>rfl
 |i+3,_,h,_=>omega
 |_,k+3,_,h=>omega
theorem La{D}(hD:D.length<=3)(t c g){k}(hk:k<D.length):(bM D t c g).get k=Nv (lH D k) (t.get k) c g:=by
 have:=dB (g:=fun k (y:S3)=>y.set k (Nv (lH D k) (y.get k) c g)) (m:=D.length) (k:=0) (s:=t) (fun j y=>∀k,k<D.length->y.get k=if k<j then Nv (lH D k) (t.get k) c g else t.get k) (fun k _=>by rw[a0U (by omega)]) (fun j y _ hj hy k hk=>by
  rw[S3.jl (by omega) (by omega)];by_cases e:k=j
  .subst e;rw[a18 rfl,a18 (by omega),hy k hk,a0U (by omega)]
  rw[a0U e,hy k hk];by_cases e2:k<j
  .rw[a18 e2,a18 (by omega)]
  rw[a0U e2,a0U (by omega)])
 have h:=this k hk;rw[a18 (by omega)]at h;exact h
theorem Eo{D t c}:kE D t c=true↔∃k,k<D.length/\lF (lH D k) (t.get k) c=true:=by
 unfold kE;constructor
 .intro h;refine ad9 fun h2=>?_;have:jS (bH (fun k=>lF (lH D k) (t.get k) c) D.length)=true:=dD.2 fun k hk=>by
   cases e:lF (lH D k) (t.get k) c
   .rfl
   exact absurd ⟨k,hk,e⟩ h2
  rw[this]at h;cases h
 rintro⟨k,hk,h⟩;cases e:jS (bH (fun k=>lF (lH D k) (t.get k) c) D.length)
 .rfl
 have:=dD.1 e k hk;rw[h]at this;cases this
theorem Fe{d x c}:lF d x c=true↔0<=x/\(ay d x).var=c:=by
 unfold lF;split
 .rename_i h;simp at h;simp[h]
 rename_i h;simp at h;simp;omega
structure DJ(J:Jb)(d:Dg):Prop where
 t:D5 d
 n:d.au.length<=6000
 s:d.aj=J.s
 o:d.aB=J.o
 rk:∀i,i<d.au.length->∀k,k<(fE d i).aA.length->d.aB.idxOf (fE d i).var+1<=FK d.aB d.au ((fE d i).aA.getD k 0)
 two:∀i,i<d.au.length->2<=(fE d i).aA.length
structure jH(J:Jb):Prop where
 d3:J.D.length<=3
 bP:wo J.s
 ord:ku J.s.length J.o=true
 dg:∀k,k<J.D.length->DJ J (lH J.D k)
 gl:J.g.length=J.s.length
 gv:∀c,gV c J.s.length->0<=J.g.getD c.toNat 0->J.g.getD c.toNat 0<J.s.getD c.toNat 0
def Dp(J:Jb)(a:Nat)(t:S3):Prop:=∀k,k<J.D.length->jK (lH J.D k) (t.get k) (lH J.D k).au.length/\a<=FK J.o (lH J.D k).au (t.get k)
theorem Dp.le{J a b t}(h:Dp J a t)(hb:b<=a):Dp J b t:=fun k hk=>⟨(h k hk).1,by have:=(h k hk).2;omega⟩
section
variable{J:Jb}(hJ:jH J){a:Nat}{t:S3}{c:Int}{r:LI0}
include hJ
theorem jH.o2:J.o.Nodup/\J.o.length=J.s.length/\∀c∈J.o,gV c J.s.length:=by have ho:=hJ.ord;unfold ku at ho;rw[a1F]at ho;exact⟨ho.2.2,ho.1,fun c hc=>⟨(ho.2.1 c hc).1,(ho.2.1 c hc).2⟩⟩
theorem jH.at_(hr:J.o.drop a=c::r):a<J.o.length/\J.o.getD a 0=c/\J.o.drop (a+1)=r/\c∈J.o/\J.o.idxOf c=a/\gV c J.s.length:=by
 have aQ:a<J.o.length:=by have:=congrArg List.length hr;rw[a4u,a4T]at this;omega
 have hd:=a6u aQ;rw[hr]at hd;obtain⟨hc,xI⟩:=List.cons.inj hd;have FH:c∈J.o:=by rw[hc];exact a5K aQ
 obtain⟨h1,h2,h3⟩:=jH.o2 hJ;exact⟨aQ,by rw[hc];simp[List.getD,a0N aQ],xI.symm,FH,by rw[hc];exact h1.idxOf_getElem a aQ,h3 c FH⟩
theorem a0Z(hr:J.o.drop a=c::r)(h:kE J.D t c=true):¬Dp J (a+1) t:=fun hd=>by obtain⟨k,hk,h1⟩:=Eo.1 h;obtain⟨x0,hv⟩:=Fe.1 h1;have:=(hd k hk).2;unfold FK at this;rw[a0U (by omega)]at this;have e:((lH J.D k).au.getD (t.get k).toNat lD).var=c:=hv;rw[e,(jH.at_ hJ hr).2.2.2.2.1]at this;omega
theorem a3k(hr:J.o.drop a=c::r)(hd:Dp J a t){k}(hk:k<J.D.length)(hn:lF (lH J.D k) (t.get k) c=false):a+1<=FK J.o (lH J.D k).au (t.get k):=by
 have h1:=(hd k hk).2;have h2:=jH.at_ hJ hr;by_cases x0:t.get k<0
 .unfold FK;rw[a18 x0];omega
 have iI:((lH J.D k).au.getD (t.get k).toNat lD).var≠c:=fun e=>by have:lF (lH J.D k) (t.get k) c=true:=Fe.2 ⟨by omega,e⟩;rw[hn]at this;cases this
 unfold FK at h1 ⊢;rw[a0U x0]at h1 ⊢;rcases a5l a (J.o.idxOf ((lH J.D k).au.getD (t.get k).toNat lD).var)with h3|h3
 .exact h3
 exfalso;have e:J.o.idxOf ((lH J.D k).au.getD (t.get k).toNat lD).var=a:=by omega
 have aQ:J.o.idxOf ((lH J.D k).au.getD (t.get k).toNat lD).var<J.o.length:=by rw[e];exact h2.1
 have g:J.o.getD (J.o.idxOf ((lH J.D k).au.getD (t.get k).toNat lD).var) 0=((lH J.D k).au.getD (t.get k).toNat lD).var:=by rw[List.getD,a0N aQ,a6b];exact a9I aQ
 rw[e,h2.2.1]at g;exact iI g.symm
theorem Wy(hr:J.o.drop a=c::r)(hd:Dp J a t)(h:kE J.D t c=false):Dp J (a+1) t:=fun k hk=>by
 refine⟨(hd k hk).1,a3k hJ hr hd hk ?_⟩;cases e:lF (lH J.D k) (t.get k) c
 .rfl
 .have:=Eo.2 ⟨k,hk,e⟩;rw[h]at this;cases this
theorem Js(hd:Dp J a t){k}(hk:k<J.D.length)(h:lF (lH J.D k) (t.get k) c=true):gV (t.get k) (lH J.D k).au.length/\(ay (lH J.D k) (t.get k)).var=c/\((ay (lH J.D k) (t.get k)).aA.length:Int)=J.s.getD c.toNat 0:=by obtain⟨x0,hv⟩:=Fe.1 h;have hr:gV (t.get k) (lH J.D k).au.length:=⟨x0,(hd k hk).1.1⟩;have hdj:=hJ.dg k hk;have:=hdj.t.ksz (t.get k).toNat (by have:=hr.2;omega);refine⟨hr,hv,?_⟩;have e:(ay (lH J.D k) (t.get k))=fE (lH J.D k) (t.get k).toNat:=rfl;rw[e,this,<-e,hv,hdj.s]
theorem nS(hr:J.o.drop a=c::r)(hd:Dp J a t){j}(hj:0<=j/\j<J.s.getD c.toNat 0):Dp J (a+1) (bM J.D t c j):=fun k hk=>by
 rw[La hJ.d3 t c j hk];unfold Nv;split
 .rename_i h;obtain⟨h1,h2,h3⟩:=Js hJ hd hk h;have hdj:=hJ.dg k hk;have aQ:(t.get k).toNat<(lH J.D k).au.length:=by have:=h1.1;have:=h1.2;omega
  have LX:j.toNat<(fE (lH J.D k) (t.get k).toNat).aA.length:=by have h3:((fE (lH J.D k) (t.get k).toNat).aA.length:Int)=J.s.getD c.toNat 0:=h3;omega
  have g1:=hdj.t.Ah (t.get k).toNat aQ j.toNat LX;have g2:=hdj.rk (t.get k).toNat aQ j.toNat LX;refine⟨⟨by have:=g1.1;show(fE (lH J.D k) (t.get k).toNat).aA.getD j.toNat 0<_;omega,g1.2⟩,?_⟩;have e:(fE (lH J.D k) (t.get k).toNat).var=c:=h2;rw[hdj.o,e,(jH.at_ hJ hr).2.2.2.2.1]at g2;exact g2
 .rename_i h;exact⟨(hd k hk).1,a3k hJ hr hd hk (by simpa using h)⟩
theorem Le(hd:Dp J a t){j}(hj:0<=j/\j<J.s.getD c.toNat 0){k}(hk:k<J.D.length):a3i (lH J.D k) (t.get k) c j:=by refine⟨fun h=>⟨by simpa using h,(hd k hk).1.1⟩,fun h=>?_⟩;have:=(Js hJ hd hk h).2.2;exact⟨hj.1,by rw[this];exact hj.2⟩
theorem WA(hr:J.o.drop a=c::r)(hd:Dp J a t)(h:kE J.D t c=true):2<=(J.s.getD c.toNat 0).toNat:=by obtain⟨k,hk,h1⟩:=Eo.1 h;obtain⟨h2,h3,h4⟩:=Js hJ hd hk h1;have:=(hJ.dg k hk).two (t.get k).toNat (by have:=h2.1;have:=h2.2;omega);have h4:((fE (lH J.D k) (t.get k).toNat).aA.length:Int)=J.s.getD c.toNat 0:=h4;omega
theorem Lh(hd:Dp J J.o.length t){k}(hk:k<J.D.length):t.get k<0/\gV (jh (t.get k)) (lH J.D k).aK.length:=by
 have h1:=hd k hk;have:t.get k<0:=by
  refine ad9 fun h=>?_;have h2:=h1.2;unfold FK at h2;rw[a0U h]at h2;have hdj:=hJ.dg k hk;have aQ:(t.get k).toNat<(lH J.D k).au.length:=by have:=h1.1.1;omega
  have hv:=hdj.t.var (t.get k).toNat aQ;rw[hdj.s]at hv;have:=a5P.2 (mX hJ.ord hv);have e:(fE (lH J.D k) (t.get k).toNat).var=((lH J.D k).au.getD (t.get k).toNat lD).var:=rfl;rw[e]at this;omega
 exact⟨this,h1.1.2 this⟩
end
open Go Tw Pv bV
def ov(g q:LI0):LI0:=List.zipWith (fun a b=>if 0<=a then a else b) g q
theorem Lj{g q k}(h:g.length=q.length):(ov g q).getD k 0=if k<g.length then(if 0<=g.getD k 0 then g.getD k 0 else q.getD k 0)else 0:=by
 unfold ov;by_cases hk:k<g.length
 .rw[a18 hk];simp[List.getD,List.getElem?_zipWith,a0N hk,a0N (show k<q.length by omega)]
 rw[a0U hk];simp[List.getD,List.getElem?_zipWith,a4U (show g.length<=k by omega)]
def a9d(J:Jb)(op:List V->V)(q:LI0)(t:S3)(v:V):Prop:=∃l:List V,l.length=J.D.length/\(∀k,k<J.D.length->To (lH J.D k) (ov J.g q) (t.get k) (l.getD k V0))/\v=op l
def Sem(J:Jb)(op:List V->V)(v:Int)(t:S3)(x:EN):Prop:=∀Z:Dg,Z.aK.length<2^61->x.1 <+: Z.aK->x.2 <+: Z.au->∀q,jZ J.s q=true->∃u,To Z q v u/\a9d J op q t u
theorem Sem.mono{J op v t x y}(h:Sem J op v t x)(hp:QM x y):Sem J op v t y:=fun Z hZ h1 h2=>h Z hZ (hp.1.trans h1) (hp.2.trans h2)
abbrev Mk.en(x:Mk):EN:=(x.e,x.n)
def zG(v:V):Prop:=vOk v=true/\0<=v.f
structure XOk(J:Jb)(op:List V->V)(x:Mk):Prop where
 v:PtV J.s J.o x.en
 k:∀e∈x.k,gV e.2 x.n.length/\kE J.D e.1 (x.n.getD e.2.toNat lD).var=true/\Sem J op e.2 e.1 x.en
 nd:(x.k.map (·.1)).Nodup
 e:∀v∈x.e,zG v
 w:∀b∈x.n,∀v∈b.aA,Hg v
structure a5i(J:Jb)(op:List V->V)(a:Nat)(w:Nat)(t:S3)(x:Mk)(z:Int×Mk):Prop where
 pre:QM x.en z.2.en
 el:z.2.e.length<=x.e.length+w
 nl:z.2.n.length+1<=x.n.length+w
 ok:XOk J op z.2
 rf:D8 J.o z.2.en z.1 z.2.n.length a
 sm:Sem J op z.1 t z.2.en
 ks:∀e∈z.2.k,e∈x.k\/Dp J a e.1
 w:Hg z.1
theorem XOk.mono{J op x e}(h:XOk J op x)(hp:x.e <+: e)(he:∀v∈e,zG v):XOk J op { x with e:=e }:=by have hq:QM x.en (e,x.n):=⟨hp,a5O⟩;exact⟨⟨h.v.var,h.v.ksz,fun i hi k hk=>(h.v.Ah i hi k hk).mono hq (a1p _) (aam hi) (a1p _)⟩,fun e he=>⟨(h.k e he).1,(h.k e he).2.1,(h.k e he).2.2.mono hq⟩,h.nd,he,h.w⟩
theorem QY{J}(hJ:jH J){op q t a}(hd:Dp J a t){c j u}(hj:(ov J.g q).getD c.toNat 0=j)(h:a9d J op q (bM J.D t c j) u):a9d J op q t u:=by
 obtain⟨l,h1,h2,h3⟩:=h;refine⟨l,h1,fun k hk=>?_,h3⟩;have h4:=h2 k hk;rw[La hJ.d3 t c j hk]at h4;unfold Nv at h4;split at h4
 .rename_i h5;obtain⟨h6,h7,_⟩:=Js hJ hd hk h5;refine .step h6.1 ?_;rw[h7,hj];exact h4
 exact h4
def mY(J:Jb)(op:List V->V):Prop:=∀t,Dp J J.o.length t->zG (op (aX J.D t))
theorem ac9{J}(hJ:jH J)(op)(jr:mY J op){t x}(hd:Dp J J.o.length t)(hx:XOk J op x)(hb:x.e.length+1<=2^60):a5i J op J.o.length 1 t x (jL J op [] t x):=by
 have e0:i64.wrap (0-((x.e++[op (aX J.D t)]).length:Int))=-1-(x.e.length:Int):=by rw[a1D,a4O,fP (by omega) (by omega)];omega
 obtain⟨_,e2⟩:=QO (k:=x.e.length) (by omega);have hp:x.e <+: x.e++[op (aX J.D t)]:=a9J _ _;show a5i J op J.o.length 1 t x (i64.wrap (0-((x.e++[op (aX J.D t)]).length:Int)),_);rw[e0];refine⟨⟨hp,a5O⟩,by simp,a1p _,hx.mono hp (fun v hv=>by rcases a3N.1 hv with hv|hv;exact hx.e v hv;rw[a2p.1 hv];exact jr t hd),⟨fun _=>?_,?_,?_⟩,fun Z hZ g1 g2 q hq=>?_,fun e he=>.inl he,⟨by show _<=-1-(x.e.length:Int);omega,by show -1-(x.e.length:Int)<_;omega⟩⟩
 .rw[e2];exact⟨by omega,by simp;omega⟩
 .show -1-(x.e.length:Int)<_;omega
 .unfold FK;rw[a18 (by show -1-(x.e.length:Int)<0;omega)];exact a1p _
 have h1:=To.fin (d:=Z) (q:=q) (r:=-1-(x.e.length:Int)) (by omega);rw[e2,a5U]at h1;have g1:x.e++[op (aX J.D t)] <+: Z.aK:=g1;have e3:Z.aK.getD x.e.length V0=op (aX J.D t):=by rw[Ak g1 (by simp)];simp[List.getD]
 rw[e3]at h1;refine⟨_,h1,aX J.D t,by simp[aX],fun k hk=>?_,rfl⟩;have h2:=Lh hJ hd hk;have e4:(aX J.D t).getD k V0=pq (lH J.D k) (t.get k):=by simp[aX,List.getD,hk]
 rw[e4];exact .fin h2.1
theorem Ep{α:Type}{l:List α}{a}(h:l.Nodup)(ha:a∉l):(l++[a]).Nodup:=by rw[a9M];exact⟨h,by simp,fun x hx y hy e=>by simp at hy;subst hy;subst e;exact ha hx⟩
theorem Ll{α:Type}{l:List α}{x d j}:(l++[x]).getD j d=if j<l.length then l.getD j d else if j=l.length then x else d:=by
 split
 .rename_i h;simp[List.getD,a0Q h]
 rename_i h;split
 .rename_i h2;subst h2;simp[List.getD]
 rename_i h2;rw[List.getD,a4U (by simp;omega)];rfl
theorem UA{J}(hJ:jH J)(op)(jr:mY J op):∀(r) (a) (t) (x),J.o.drop a=r->a<=J.o.length->Dp J a t->XOk J op x->x.e.length+wO J.s r<=2^60->x.n.length+wO J.s r<=2^60->a5i J op a (wO J.s r) t x (jL J op r t x)
 | [],a,t,x,hr,ha,hd,hx,hb,yN=>by
  have:a=J.o.length:=by have:=congrArg List.length hr;rw[a4u,a5V]at this;omega
  subst this;exact ac9 hJ op jr hd hx hb
 |c::r,a,t,x,hr,ha,hd,hx,hb,yN=>by
  obtain⟨aQ,hoc,xI,FH,hci,qP⟩:=jH.at_ hJ hr;have hz:=hJ.bP.sz _ (dF (s:=J.s) (k:=c.toNat) (by have:=qP.1;have:=qP.2;omega));have hri:∀c'∈r,gV c' J.s.length:=fun c' h=>(jH.o2 hJ).2.2 c' (by rw[<-xI]at h;exact a5X h);have hw:=Wu hJ.bP.sz hri;have hw1:wO J.s r<=(J.s.getD c.toNat 0).toNat*wO J.s r:=aeM _ (by omega);simp only[wO]at hb yN ⊢;have up:∀{t':S3} {z:Int×Mk},a5i J op (a+1) (wO J.s r) t' x z->(∀q u,jZ J.s q=true->a9d J op q t' u->a9d J op q t u)->a5i J op a ((J.s.getD c.toNat 0).toNat*wO J.s r) t x z:=fun{t' z} h hs=>
   ⟨h.pre,by have:=h.el;omega,by have:=h.nl;omega,h.ok,h.rf.mono QM.rfl (a1p _) (a1p _) (by omega),fun Z hZ g1 g2 q hq=>let ⟨u,u1,u2⟩:=h.sm Z hZ g1 g2 q hq;⟨u,u1,hs q u hq u2⟩,fun e he=>(h.ks e he).imp id fun h=>h.le (by omega),h.w⟩
  unfold jL;cases BM:kE J.D t c
  .rw[a0U (by simp)];exact up (UA hJ op jr r (a+1) t x xI aQ (Wy hJ hr hd BM) hx (by omega) (by omega)) fun _ _ _ h=>h
  rw[a18 rfl];by_cases hg:J.g.getD c.toNat 0>=0
  .rw[a18 (by simpa using hg)];refine up (UA hJ op jr r (a+1) _ x xI aQ (nS hJ hr hd ⟨hg,hJ.gv c qP hg⟩) hx (by omega) (by omega)) fun q u hq h=>QY hJ hd ?_ h;rw[Lj (by rw[hJ.gl,vP hq]),a18 (by rw[hJ.gl];have:=qP.1;have:=qP.2;omega),a18 hg]
  rw[a0U (by simpa using hg)];by_cases hk:t∈x.k.map (·.1)
  .rw[a18 hk];obtain⟨e,he,rfl⟩:=a1z.1 hk;have hkn:knS x.k e.1=e.2:=by
    have:x.k.find? (fun y=>decide (y.1=e.1))=some e:=by
     have jG:=hx.nd;clear hb up hk BM hd;generalize x.k=l at he jG
     induction l with
     |nil=>cases he
     |cons y l ih=>
      rw[air];rcases a1G.1 he with rfl|he
      .simp
      have:¬y.1=e.1:=fun h=>by rw[a4W,a5I]at jG;exact jG.1 (a1z.2 ⟨e,he,h.symm⟩)
      rw[afk this];rw[a4W,a5I]at jG;exact ih he jG.2
    unfold knS;rw[this];rfl
   rw[hkn];obtain⟨k1,k2,k3⟩:=hx.k e he;have hmul:2*1<=(J.s.getD c.toNat 0).toNat*wO J.s r:=aix (WA hJ hr hd BM) hw;refine⟨QM.rfl,by show x.e.length<=_;omega,by show x.n.length+1<=_;omega,hx,⟨fun h=>by have:=k1.1;show gV _ _;exact absurd h (by omega),k1.2,?_⟩,k3,fun _ h=>.inl h,⟨by have:=k1.1;show _<=e.2;omega,by have:=k1.2;show e.2<_;omega⟩⟩;obtain⟨k,hk,h1⟩:=Eo.1 k2;obtain⟨x0,hv⟩:=Fe.1 h1;have h2:=(hd k hk).2;unfold FK at h2 ⊢;rw[a0U (by omega)]at h2;have k10:=k1.1;rw[a0U (show ¬e.2<0 by omega)];have hv:((lH J.D k).au.getD (e.1.get k).toNat lD).var=(x.n.getD e.2.toNat lD).var:=hv;rw[hv]at h2;exact h2
  rw[a0U hk];have hm2:=WA hJ hr hd BM;have Zv:∀j,j<(J.s.getD c.toNat 0).toNat->j*wO J.s r+wO J.s r<=(J.s.getD c.toNat 0).toNat*wO J.s r:=fun j hj=>by have:(j+1)*wO J.s r<=(J.s.getD c.toNat 0).toNat*wO J.s r:=a3X _ hj;rw[a4p]at this;omega
  have inv:=dB (g:=Wx J.D (jL J op r) t c) (m:=(J.s.getD c.toNat 0).toNat) (k:=0) (s:=([],x)) (fun k y=>y.1.length=k/\QM x.en y.2.en/\y.2.e.length<=x.e.length+k*wO J.s r/\y.2.n.length+k<=x.n.length+k*wO J.s r/\XOk J op y.2/\(∀e∈y.2.k,e∈x.k\/Dp J (a+1) e.1)/\(∀v∈y.1,Hg v)/\∀j:Nat,j<k->D8 J.o y.2.en (y.1.getD j 0) y.2.n.length (a+1)/\Sem J op (y.1.getD j 0) (bM J.D t c j) y.2.en)
   ⟨rfl,QM.rfl,by simp,by simp,hx,fun _ h=>.inl h,(fun v hv=>by cases hv),fun j hj=>by omega⟩ (fun j y _ hj hy=>by
    obtain⟨y1,y2,y3,y4,y5,y6,y8,y7⟩:=hy;have Zv:=Zv j (by omega);have h:=UA hJ op jr r (a+1) (bM J.D t c j) y.2 xI aQ (nS hJ hr hd ⟨by omega,by omega⟩) y5 (by omega) (by omega);refine⟨by simp[Wx,y1],y2.trans h.pre,?_,?_,h.ok,fun e he=>?_,fun v hv=>?_,fun j' EC=>?_⟩
    .have:=h.el;show(jL J op r (bM J.D t c j) y.2).2.e.length<=_;rw[a4p];omega
    .have:=h.nl;show(jL J op r (bM J.D t c j) y.2).2.n.length+_<=_;rw[a4p];omega
    .rcases h.ks e he with h1|h1
     .exact y6 e h1
     .exact .inr h1
    .have hv:v∈y.1++[(jL J op r (bM J.D t c j) y.2).1]:=hv;rcases a3N.1 hv with hv|hv
     .exact y8 v hv
     .rw[a2p.1 hv];exact h.w
    .have e1:(Wx J.D (jL J op r) t c j y).1.getD j' 0=if j'<j then y.1.getD j' 0 else(jL J op r (bM J.D t c j) y.2).1:=by
      show(y.1++[_]).getD j' 0=_;rw[Ll,y1];split
      .rfl
      .rw[a18 (by omega)]
     rw[e1];by_cases e:j'<j
     .rw[a18 e];obtain⟨a1,a2⟩:=y7 j' e;exact⟨a1.mono h.pre h.pre.2.length_le (a1p _) (a1p _),a2.mono h.pre⟩
     .rw[a0U e];have e:j'=j:=(by omega);subst e;exact⟨h.rf,h.sm⟩)
  rw[a3O]at inv;simp only[];generalize aT (Wx J.D (jL J op r) t c) (J.s.getD c.toNat 0).toNat 0 ([],x)=y at inv;obtain⟨ks,m⟩:=y;obtain⟨y1,y2,y3,y4,y5,y6,y8,y7⟩:=inv;have y1:ks.length=(J.s.getD c.toNat 0).toNat:=y1;have hp:QM m.en (m.e,m.n++[(⟨c,ks⟩:Br)]):=⟨a5O,a9J _ _⟩;have fQ:(m.n++[(⟨c,ks⟩:Br)]).getD m.n.length lD=⟨c,ks⟩:=by simp[List.getD]
  have a6v:Sem J op (m.n.length:Int) t (m.e,m.n++[(⟨c,ks⟩:Br)]):=fun Z hZ g1 g2 q hq=>by
   have g2:m.n++[(⟨c,ks⟩:Br)] <+: Z.au:=g2;have Zt:=(qC.1 hq).2 c.toNat (by have:=qP.1;have:=qP.2;omega);have hj:(q.getD c.toNat 0).toNat<(J.s.getD c.toNat 0).toNat:=(by omega);obtain⟨u,u1,u2⟩:=(y7 _ hj).2 Z hZ g1 ((a9J _ _).trans g2) q hq;have en:ay Z (m.n.length:Int)=⟨c,ks⟩:=by show Z.au.getD (m.n.length:Int).toNat lD=_;rw[a5U,Ak g2 (by simp),fQ]
   refine⟨u,.step (by omega) (by rw[en];exact u1),QY hJ hd ?_ u2⟩;rw[Lj (by rw[hJ.gl,vP hq]),a18 (by rw[hJ.gl];have:=qP.1;have:=qP.2;omega),a0U (by omega)];omega
  have hv2:PtV J.s J.o (m.e,m.n++[(⟨c,ks⟩:Br)]):=by
   have hg:∀i,i<(m.n++[(⟨c,ks⟩:Br)]).length->(i<m.n.length/\(m.n++[(⟨c,ks⟩:Br)]).getD i lD=m.n.getD i lD)\/(i=m.n.length/\(m.n++[(⟨c,ks⟩:Br)]).getD i lD=⟨c,ks⟩):=fun i hi=>by
    simp only[a1D,a4O]at hi;rcases a5l i m.n.length with h|h
    .exact .inl ⟨h,by rw[Ll,a18 h]⟩
    exact .inr ⟨by omega,by rw[show i=m.n.length by omega,fQ]⟩
   refine⟨fun i hi=>?_,fun i hi=>?_,fun i hi k hk=>?_⟩
   .rcases hg i hi with⟨h1,h2⟩|⟨h1,h2⟩
    .show gV ((m.n++[_]).getD i lD).var _;rw[h2];exact y5.v.var i h1
    show gV ((m.n++[_]).getD i lD).var _;rw[h2];exact qP
   .rcases hg i hi with⟨h1,h2⟩|⟨h1,h2⟩
    .show(((m.n++[_]).getD i lD).aA.length:Int)=J.s.getD ((m.n++[_]).getD i lD).var.toNat 0;rw[h2];exact y5.v.ksz i h1
    show(((m.n++[_]).getD i lD).aA.length:Int)=J.s.getD ((m.n++[_]).getD i lD).var.toNat 0;rw[h2];show(ks.length:Int)=J.s.getD c.toNat 0;omega
   rcases hg i hi with⟨h1,h2⟩|⟨h1,h2⟩
   .have hk:k<((m.n++[(⟨c,ks⟩:Br)]).getD i lD).aA.length:=hk;show D8 J.o _ (((m.n++[(⟨c,ks⟩:Br)]).getD i lD).aA.getD k 0) i (J.o.idxOf ((m.n++[(⟨c,ks⟩:Br)]).getD i lD).var+1);rw[h2]at hk ⊢;exact(y5.v.Ah i h1 k hk).mono hp (a1p _) (aam h1) (a1p _)
   have hk:k<((m.n++[(⟨c,ks⟩:Br)]).getD i lD).aA.length:=hk;show D8 J.o _ (((m.n++[(⟨c,ks⟩:Br)]).getD i lD).aA.getD k 0) i (J.o.idxOf ((m.n++[(⟨c,ks⟩:Br)]).getD i lD).var+1);rw[h2]at hk ⊢;have hk:k<ks.length:=hk;subst h1;show D8 J.o _ (ks.getD k 0) m.n.length (J.o.idxOf c+1);rw[hci];exact(y7 k (by omega)).1.mono hp (a1p _) (a1p _) (a1p _)
  have y5:XOk J op m:=y5;have y6:∀e∈m.k,e∈x.k\/Dp J (a+1) e.1:=y6;refine⟨y2.trans hp,y3,?_,⟨hv2,fun e he=>?_,?_,y5.e,fun b hb=>?_⟩,⟨fun h=>?_,?_,?_⟩,a6v,fun e he=>?_,⟨by show _<=(m.n.length:Int);omega,by have y4:m.n.length+_<=x.n.length+_:=y4;show(m.n.length:Int)<_;omega⟩⟩
  .show(m.n++[_]).length+1<=_;rw[a1D,a4O];have y4:m.n.length+(J.s.getD c.toNat 0).toNat<=x.n.length+(J.s.getD c.toNat 0).toNat*wO J.s r:=y4;omega
  .rcases a3N.1 he with he|he
   .obtain⟨k1,k2,k3⟩:=y5.k e he;have aQ:e.2.toNat<m.n.length:=by have:=k1.1;have:=k1.2;omega
    refine⟨⟨k1.1,?_⟩,?_,k3.mono hp⟩
    .have:=k1.2;show e.2<((m.n++[_]).length:Int);rw[a1D];omega
    show kE J.D e.1 ((m.n++[_]).getD e.2.toNat lD).var=true;rw[Ll,a18 aQ];exact k2
   rw[a2p.1 he];refine⟨⟨by omega,by show(m.n.length:Int)<((m.n++[_]).length:Int);rw[a1D,a4O];omega⟩,?_,a6v⟩;show kE J.D t ((m.n++[_]).getD (m.n.length:Int).toNat lD).var=true;rw[a5U,fQ];exact BM
  .rw[a4V];refine Ep y5.nd fun h=>?_;obtain⟨e,he,e2⟩:=a1z.1 h;rcases y6 e he with h1|h1
   .exact hk (a1z.2 ⟨e,h1,e2⟩)
   rw[e2]at h1;exact a0Z hJ hr BM h1
  .have hb:b∈m.n++[(⟨c,ks⟩:Br)]:=hb;rcases a3N.1 hb with hb|hb
   .exact y5.w b hb
   rw[a2p.1 hb];exact y8
  .exact absurd h (by show ¬((m.n.length:Int)<0);omega)
  .show(m.n.length:Int)<((m.n++[_]).length:Int);rw[a1D,a4O];omega
  .show a<=FK J.o (m.n++[_]) (m.n.length:Int);unfold FK;rw[a0U (by omega),a5U,fQ];show a<=J.o.idxOf c;omega
  rcases a3N.1 he with he|he
  .rcases y6 e he with h1|h1
   .exact .inl h1
   exact .inr (h1.le (by omega))
  rw[a2p.1 he];exact .inr hd
open Go Tw Pv bV
def kF(J:Jb)(op:List V->V):Dg:=⟨J.s,J.o,(jL J op J.o (fA J.D) ⟨[],[],[]⟩).2.e,(jL J op J.o (fA J.D) ⟨[],[],[]⟩).2.n,(jL J op J.o (fA J.D) ⟨[],[],[]⟩).1⟩
def iL(J:Jb)(op:List V->V):Dg:=(Am (kF J op)).1
def BN(J:Jb)(op:List V->V):List V:=(List.range (wI J.s)).map fun(k:Nat)=>op (J.D.map fun d=>mW d (ov J.g (gq J.s k)))
theorem wX{D}(hD:D.length<=3){k}(hk:k<D.length):(fA D).get k=(lH D k).root:=by
 have:=dB (g:=fun k (y:S3)=>y.set k (lH D k).root) (m:=D.length) (k:=0) (s:=⟨0,0,0⟩) (fun j y=>∀k,k<j->y.get k=(lH D k).root) (fun k hk=>by omega) (fun j y _ hj hy k hk=>by
  rw[S3.jl (by omega) (by omega)];by_cases e:k=j
  .rw[a18 e,e]
  rw[a0U e];exact hy k (by omega))
 exact this k (by omega)
theorem amC{J}(hJ:jH J){q}(hq:jZ J.s q=true):jZ J.s (ov J.g q)=true:=by
 have hl:=vP hq;refine qC.2 ⟨by simp[ov,afh,hJ.gl,hl],fun k hk=>?_⟩;rw[Lj (by rw[hJ.gl,hl]),a18 (by rw[hJ.gl];exact hk)];split
 .rename_i h;exact⟨h,hJ.gv (k:Int) (aH hk) h⟩
 exact(qC.1 hq).2 k hk
theorem a13{J}(hJ:jH J){op}(jr:mY J op):a5i J op 0 (wO J.s J.o) (fA J.D) ⟨[],[],[]⟩ (jL J op J.o (fA J.D) ⟨[],[],[]⟩):=by have hw:=Ho hJ.bP.sz hJ.ord;have hm:=hJ.bP.many;refine UA hJ op jr J.o 0 (fA J.D) ⟨[],[],[]⟩ (aaU) (a5S _) (fun k hk=>?_) ⟨⟨fun i hi=>(by simp at hi),fun i hi=>(by simp at hi),fun i hi=>(by simp at hi)⟩,fun e he=>(by cases he),a6m,fun v hv=>(by cases hv),fun b hb=>(by cases hb)⟩ (by show 0+wO J.s J.o<=_;omega) (by show 0+wO J.s J.o<=_;omega);rw[wX hJ.d3 hk];exact⟨(hJ.dg k hk).t.root,a5S _⟩
theorem wY{J}(hJ:jH J){op}(jr:mY J op):bn (kF J op)=0/\(kF J op).aK.length<=2000/\∀v∈(kF J op).aK,zG v:=by have h:=a13 hJ jr;have hw:=Ho hJ.bP.sz hJ.ord;have hm:=hJ.bP.many;have h1:(kF J op).aK.length<=0+wO J.s J.o:=h.el;have h2:(kF J op).au.length+1<=0+wO J.s J.o:=h.nl;refine⟨L8 (by unfold ah;omega) ?_ (fun v hv=>(h.ok.e v hv).1) (by omega) h.ok.v h.rf,by omega,h.ok.e⟩;have:bg J.s J.o=0:=iR.2 ⟨hJ.bP,hJ.ord⟩;show(bg J.s J.o != 0)=false;rw[this];rfl
theorem a9e{J}(hJ:jH J){op}(jr:mY J op):FI (kF J op):=by have h:=a13 hJ jr;exact⟨fun i hi k hk=>h.ok.w _ (YG hi) _ (dF hk),h.w,fun v hv=>(h.ok.e v hv).2⟩
theorem Jt{J}(hJ:jH J){op}(jr:mY J op):bI (kF J op)=(zH (kF J op),0)/\iL J op=kL J.s J.o (cellsD (kF J op)):=by
 obtain⟨h1,h2,h3⟩:=wY hJ jr;have hr:=a9e hJ jr;have ho:=(jH.o2 hJ).2.1;have hl:=hJ.bP.len;have e:=KY hr (by unfold ah;omega);rw[h1]at e;have hf:¬(bg (kF J op).aj (kF J op).aB != 0)=true:=by have:bg J.s J.o=0:=iR.2 ⟨hJ.bP,hJ.ord⟩;show ¬(bg J.s J.o != 0)=true;rw[this];simp
 rw[a0U hf]at e;refine⟨e,?_⟩;unfold iL Am;rw[e];show eH (kF J op)=_;exact(Jq h1 (by show J.o.length<=ah;unfold ah;omega) (by unfold ah;omega)).1
theorem UC{J}(hJ:jH J){op}(jr:mY J op):cellsD (kF J op)=BN J op:=by
 obtain⟨h1,h2,h3⟩:=wY hJ jr;have h:=a13 hJ jr;have ho:=(jH.o2 hJ).2.1;have hl:=hJ.bP.len;have ht:=(jo (d:=kF J op) (by show J.o.length<=ah;unfold ah;omega) (by unfold ah;omega) (by rw[h1];rfl));unfold cellsD BN;refine a5H fun k _=>?_;have hq:jZ J.s (gq J.s k)=true:=uK _ hJ.bP.sz;obtain⟨u,u1,l,l1,l2,rfl⟩:=h.sm (kF J op) (by omega) a5O a5O (gq J.s k) hq;have e1:=u1.at_ ht.1 hq 6001 (by have:=h.rf.2.1;have:=ht.2;show(kF J op).root<_;have e:(kF J op).au.length=(jL J op J.o (fA J.D) ⟨[],[],[]⟩).2.n.length:=rfl;have e2:(kF J op).root=(jL J op J.o (fA J.D) ⟨[],[],[]⟩).1:=rfl;omega) ht.1.root;show mW (kF J op) (gq J.s k)=_;unfold mW;have e1:op l=(kF J op).aK.getD (jh (W9 (kF J op) (gq J.s k) 6001 (kF J op).root)).toNat V0:=e1;rw[<-e1];congr 1;refine(pW (d:=V0) (by rw[l1,a5C])).2 fun i hi=>?_;rw[l1]at hi;have hd:=hJ.dg i hi;have h5:=l2 i hi;rw[wX hJ.d3 hi]at h5;have hov:jZ (lH J.D i).aj (ov J.g (gq J.s k))=true:=by rw[hd.s];exact amC hJ hq
 have h6:=h5.at_ hd.t hov 6001 (by have:=hd.t.root.1;have:=hd.n;omega) hd.t.root;rw[h6];simp[List.getD,a5F,a0N hi,mW,atR]
theorem mk_eq{J}(hJ:jH J){op}(jr:mY J op):iL J op=kL J.s J.o (BN J op):=by rw[(Jt hJ jr).2,UC hJ jr]
open Go Tw Pv bV
def BO(J:Jb)(c:Int):LI0:=if decide (J.g.getD c.toNat 0>=0)=true then [J.g.getD c.toNat 0]else(List.range (J.s.getD c.toNat 0).toNat).map fun(j:Nat)=>(j:Int)
def yH(J:Jb)(ψ:S3->Int):LI0->S3->Int
 | [],t=>ψ t
 |c::r,t=>eF (fun j=>yH J ψ r (bM J.D t c j)) (BO J c)
theorem Ap{α β}[DecidableEq α][DecidableEq β](φ)(f:α->β):∀l,eF φ (l.map f)=eF (fun a=>φ (f a)) l
 | []=>rfl
 |a::l=>by simp only[a4W,eF,Ap φ f l]
theorem qQ{α}[DecidableEq α]{φ φ':α->Int}:∀{l},(∀a∈l,φ a=φ' a)->eF φ l=eF φ' l
 | [],_=>rfl
 |a::l,h=>by rw[eF,eF,h a (by simp),qQ fun b hb=>h b (by simp[hb])]
theorem UD{α β}[DecidableEq α][DecidableEq β](φ)(f:α->List β):∀l,eF φ (l.flatMap f)=eF (fun a=>eF φ (f a)) l
 | []=>rfl
 |a::l=>by rw[List.flatMap_cons,Ja,eF,UD φ f l]
theorem BP{α}[DecidableEq α](x):∀l:List α,eF (fun _=>x) l=l.length*x
 | []=>by simp[eF]
 |a::l=>by rw[eF,BP x l,a4T,Int.natCast_add,aiy];omega
theorem S3.acd(s:S3)(k):s.set k (s.get k)=s:=by
 match k with
 | 0=>rfl
 | 1=>rfl
 |k+2=>rfl
theorem a9f{D t c}(h:kE D t c=false)(g):bM D t c g=t:=by
 have hk:∀k,k<D.length->lF (lH D k) (t.get k) c=false:=fun k hk=>by
  cases e:lF (lH D k) (t.get k) c
  .rfl
  have:=Eo.2 ⟨k,hk,e⟩;rw[h]at this;cases this
 exact dB (g:=fun k (y:S3)=>y.set k (Nv (lH D k) (y.get k) c g)) (m:=D.length) (k:=0) (s:=t) (fun _ y=>y=t) rfl (fun j y _ hj hy=>by subst hy;show y.set j (Nv (lH D j) (y.get j) c g)=y;unfold Nv;rw[hk j (by omega),a0U (by simp)];exact S3.acd y j)
theorem a5j{J ψ c r t}(h:decide (J.g.getD c.toNat 0>=0)=true):yH J ψ (c::r) t=yH J ψ r (bM J.D t c (J.g.getD c.toNat 0)):=by rw[yH,BO,a18 h];simp[eF]
theorem ahq{J ψ c r t}(h:¬decide (J.g.getD c.toNat 0>=0)=true)(ha:kE J.D t c=false):yH J ψ (c::r) t=((J.s.getD c.toNat 0).toNat:Int)*yH J ψ r t:=by rw[yH,BO,a0U h,Ap,qQ (φ':=fun _=>yH J ψ r t) (fun a _=>by rw[a9f ha]),BP,a6w]
theorem ace{J ψ c r t}(h:¬decide (J.g.getD c.toNat 0>=0)=true):yH J ψ (c::r) t=eF (fun(j:Nat)=>yH J ψ r (bM J.D t c j)) (List.range (J.s.getD c.toNat 0).toNat):=by rw[yH,BO,a0U h,Ap]
def AB(J:Jb):LI0->Nat
 | []=>1
 |c::r=>(BO J c).length*AB J r
theorem Fg{J}:∀(r) (t),yH J (fun _=>1) r t=(AB J r:Int)
 | [],_=>rfl
 |c::r,t=>by rw[yH,qQ (φ':=fun _=>(AB J r:Int)) (fun a _=>Fg r _),BP,AB,afi]
section
variable{J:Jb}(hJ:jH J)
include hJ
theorem YX{c}(hc:gV c J.s.length){j}:j∈BO J c↔(0<=j/\j<J.s.getD c.toNat 0)/\(0<=J.g.getD c.toNat 0->J.g.getD c.toNat 0=j):=by
 unfold BO;split
 .rename_i h;have h:J.g.getD c.toNat 0>=0:=by simpa using h
  have:=hJ.gv c hc h;rw[a2p];constructor
  .rintro rfl;exact⟨⟨h,this⟩,fun _=>rfl⟩
  exact fun h2=>(h2.2 h).symm
 rename_i h;have h:¬J.g.getD c.toNat 0>=0:=by simpa using h
 rw[a1z];constructor
 .rintro⟨k,h1,rfl⟩;rw[a5D]at h1;exact⟨⟨by omega,by omega⟩,fun h2=>absurd h2 h⟩
 rintro⟨h1,_⟩;exact⟨j.toNat,a5D.2 (by omega),by omega⟩
theorem a9g{c}(hc:gV c J.s.length):1<=(BO J c).length/\(BO J c).length<=(J.s.getD c.toNat 0).toNat:=by
 have hz:=hJ.bP.sz _ (dF (s:=J.s) (k:=c.toNat) (by have:=hc.1;have:=hc.2;omega));unfold BO;split
 .exact⟨a1p _,by show 1<=_;omega⟩
 rw[a5C,a6w];exact⟨by omega,a1p _⟩
theorem Lm:∀{r},(∀c∈r,gV c J.s.length)->1<=AB J r/\AB J r<=wO J.s r
 | [],_=>⟨a1p _,a1p _⟩
 |c::r,h=>by obtain⟨h1,h2⟩:=a9g hJ (h c (by simp));obtain⟨h3,h4⟩:=Lm (r:=r) fun c hc=>h c (by simp[hc]);exact⟨aix h1 h3,aix h2 h4⟩
end
def plc(J:Jb):LI0->LI0->List LI0
 | [],q=>[q]
 |c::r,q=>(BO J c).flatMap fun j=>plc J r (q.set c.toNat j)
def WB(D:List Dg)(q:LI0):LI0->S3->S3
 | [],t=>t
 |c::r,t=>WB D q r (bM D t c (q.getD c.toNat 0))
theorem Aq{q:LI0}{i k v}:(q.set i v).getD k 0=if k=i/\i<q.length then v else q.getD k 0:=by
 simp only[List.getD,aay];by_cases h:i=k
 .subst h;by_cases h2:i<q.length
  .simp[h2]
  simp[h2,a4U (show q.length<=i by omega)]
 rw[a0U (fun e:k=i/\i<q.length=>h e.1.symm)];simp[h]
theorem Oh{J}:∀{r q q'},q'∈plc J r q->q'.length=q.length/\∀k,k∉r.map Int.toNat->q'.getD k 0=q.getD k 0
 | [],q,q',h=>by rw[plc,a2p]at h;subst h;exact⟨rfl,fun _ _=>rfl⟩
 |c::r,q,q',h=>by rw[plc,af7]at h;obtain⟨j,_,h2⟩:=h;obtain⟨h3,h4⟩:=Oh h2;refine⟨by rw[h3,a5N],fun k hk=>?_⟩;rw[a4W,a1G,adk]at hk;rw[h4 k hk.2,Aq,a0U (fun h=>hk.1 h.1)]
section
variable{J:Jb}{n:Nat}
structure a14(n:Nat)(r:LI0):Prop where
 nd:r.Nodup
 mem:∀c∈r,gV c n
theorem a14.tail{c r}(h:a14 n (c::r)):a14 n r/\c.toNat∉r.map Int.toNat/\gV c n:=by
 have h1:=a5I.1 h.nd;have hc:=h.mem c (by simp);refine⟨⟨h1.2,fun c hc=>h.mem c (by simp[hc])⟩,fun h2=>?_,hc⟩;obtain⟨d,h3,h4⟩:=a1z.1 h2;have hd:=h.mem d (by simp[h3]);have:d=c:=by have:=hc.1;have:=hd.1;omega
 exact h1.1 (this▸h3)
theorem a3m(ψ):∀{r} (q) (t),a14 q.length r->yH J ψ r t=eF (fun q'=>ψ (WB J.D q' r t)) (plc J r q)
 | [],q,t,_=>by simp[yH,plc,WB,eF]
 |c::r,q,t,ho=>by obtain⟨h1,h2,h3⟩:=ho.tail;rw[yH,plc,UD];refine qQ fun j _=>?_;rw[a3m ψ (q.set c.toNat j) _ (by rw[a5N];exact h1)];refine qQ fun q' hq=>?_;rw[WB,(Oh hq).2 _ h2,Aq,a18 ⟨rfl,by have:=h3.1;have:=h3.2;omega⟩]
theorem WC:∀{r q q'},a14 q.length r->(q'∈plc J r q↔q'.length=q.length/\(∀k,k∉r.map Int.toNat->q'.getD k 0=q.getD k 0)/\∀c∈r,q'.getD c.toNat 0∈BO J c)
 | [],q,q',_=>by
  rw[plc,a2p];constructor
  .rintro rfl;exact⟨rfl,fun _ _=>rfl,fun _ h=>by cases h⟩
  rintro⟨h1,h2,_⟩;exact(pW (d:=0) h1).2 fun i _=>h2 i (by simp)
 |c::r,q,q',ho=>by
  obtain⟨h1,h2,h3⟩:=ho.tail;have hl:c.toNat<q.length:=by have:=h3.1;have:=h3.2;omega
  rw[plc,af7];constructor
  .rintro⟨j,hj,h4⟩;obtain⟨h5,h6,h7⟩:=(WC (by rw[a5N];exact h1)).1 h4;refine⟨by rw[h5,a5N],fun k hk=>?_,fun d hd=>?_⟩
   .rw[a4W,a1G,adk]at hk;rw[h6 k hk.2,Aq,a0U (fun h=>hk.1 h.1)]
   rcases a1G.1 hd with rfl|hd
   .rw[h6 _ h2,Aq,a18 ⟨rfl,hl⟩];exact hj
   exact h7 d hd
  rintro⟨h4,h5,h6⟩;refine⟨q'.getD c.toNat 0,h6 c (by simp),(WC (by rw[a5N];exact h1)).2 ⟨by rw[a5N];exact h4,fun k hk=>?_,fun d hd=>h6 d (by simp[hd])⟩⟩;rw[Aq];split
  .rename_i h;rw[h.1]
  rename_i h;exact h5 k (by rw[a4W,a1G,adk];exact⟨fun e=>h ⟨e,hl⟩,hk⟩)
theorem a15(c):(BO J c).Nodup:=by
 unfold BO;split
 .simp
 rw[List.Nodup,agy];exact List.nodup_range.imp fun h e=>h (by omega)
theorem UE:∀{r q},a14 q.length r->(plc J r q).Nodup
 | [],q,_=>by simp[plc]
 |c::r,q,ho=>by
  obtain⟨h1,h2,h3⟩:=ho.tail;have hl:c.toNat<q.length:=by have:=h3.1;have:=h3.2;omega
  rw[plc,List.Nodup,List.pairwise_flatMap];refine⟨fun j _=>UE (by rw[a5N];exact h1),(a15 (J:=J) c).imp fun{a b} hab x hx y hy e=>?_⟩;subst e;have e1:=(Oh hx).2 _ h2;have e2:=(Oh hy).2 _ h2;rw[Aq,a18 ⟨rfl,hl⟩]at e1 e2;exact hab (e1.symm.trans e2)
end
def YZ(J:Jb):List LI0:=((List.range (wI J.s)).map fun(k:Nat)=>gq J.s k).filter fun q=>decide (ov J.g q=q)
section
variable{J:Jb}(hJ:jH J)
include hJ
theorem a3n{q}(hq:q.length=J.s.length):ov J.g q=q↔∀k,k<J.s.length->0<=J.g.getD k 0->J.g.getD k 0=q.getD k 0:=by
 have hg:=hJ.gl;have hl:(ov J.g q).length=q.length:=by simp[ov,afh,hg,hq]
 rw[pW (d:=0) hl];constructor
 .intro h k hk h0;have:=h k (by rw[hl,hq];exact hk);rw[Lj (by rw[hg,hq]),a18 (by rw[hg];exact hk),a18 h0]at this;exact this
 intro h k hk;rw[hl,hq]at hk;rw[Lj (by rw[hg,hq]),a18 (by rw[hg];exact hk)];split
 .exact h k hk ‹_›
 rfl
theorem a3o{q}:q∈(List.range (wI J.s)).map (fun(k:Nat)=>gq J.s k)↔jZ J.s q=true:=by
 have hc:(wI J.s:Int)=bG J.s:=by have:=jC hJ.bP.sz;unfold wI;omega
 constructor
 .intro h;obtain⟨k,_,rfl⟩:=a1z.1 h;exact uK _ hJ.bP.sz
 intro h;have:=DY h hJ.bP.sz;refine a1z.2 ⟨(jE J.s q).toNat,a5D.2 (by omega),?_⟩;rw[show((jE J.s q).toNat:Int)=jE J.s q by omega];exact VN h hJ.bP.sz
theorem a5k:((List.range (wI J.s)).map (fun(k:Nat)=>gq J.s k)).Nodup:=by
 have hc:(wI J.s:Int)=bG J.s:=by have:=jC hJ.bP.sz;unfold wI;omega
 rw[List.Nodup,agy];refine List.Pairwise.imp_of_mem (fun{a b} ha hb h e=>h ?_) afb;rw[a5D]at ha hb;have h1:=J7 hJ.bP.sz (n:=(a:Int)) (by omega) (by omega);have h2:=J7 hJ.bP.sz (n:=(b:Int)) (by omega) (by omega);have e:gq J.s (a:Int)=gq J.s (b:Int):=e;rw[e,h2]at h1;omega
theorem a9h:(plc J J.o (List.replicate J.s.length 0)).Perm (YZ J):=by
 obtain⟨o1,o2,o3⟩:=jH.o2 hJ;have ho:a14 (List.replicate J.s.length (0:Int)).length J.o:=⟨o1,fun c hc=>by rw[a7p];exact o3 c hc⟩;unfold YZ;refine(a7t (UE ho) ((a5k hJ).filter _)).2 fun q=>?_;rw[WC ho,a7y,a3o hJ,a1F,a7p];constructor
 .rintro⟨h1,h2,h3⟩;have key:∀k,k<J.s.length->(0<=q.getD k 0/\q.getD k 0<J.s.getD k 0)/\(0<=J.g.getD k 0->J.g.getD k 0=q.getD k 0):=fun k hk=>by have hc:gV (k:Int) J.s.length:=aH hk;have:=h3 k (mX hJ.ord hc);rw[YX hJ hc]at this;exact this
  exact⟨qC.2 ⟨h1,fun k hk=>(key k hk).1⟩,(a3n hJ h1).2 fun k hk=>(key k hk).2⟩
 rintro⟨h1,h2⟩;have hl:=vP h1;refine⟨hl,fun k hk=>?_,fun c hc=>?_⟩
 .have LX:J.s.length<=k:=by refine adt fun aQ=>hk ?_;exact a1z.2 ⟨(k:Int),mX hJ.ord (aH aQ),by simp⟩
  simp[List.getD,a4U (show q.length<=k by omega),a4U (show(List.replicate J.s.length (0:Int)).length<=k by simp;omega)]
 have qP:=o3 c hc;have aQ:c.toNat<J.s.length:=by have:=qP.1;have:=qP.2;omega
 rw[YX hJ qP];exact⟨(qC.1 h1).2 _ aQ,(a3n hJ hl).1 h2 _ aQ⟩
theorem UF{q}(hq:jZ J.s q=true):∀(r) (a) (t),J.o.drop a=r->a<=J.o.length->Dp J a t->Dp J J.o.length (WB J.D q r t)/\∀k,k<J.D.length->∀v,To (lH J.D k) q ((WB J.D q r t).get k) v->To (lH J.D k) q (t.get k) v
 | [],a,t,hr,ha,hd=>by
  have:a=J.o.length:=by have:=congrArg List.length hr;rw[a4u,a5V]at this;omega
  subst this;exact⟨hd,fun _ _ _ h=>h⟩
 |c::r,a,t,hr,ha,hd=>by
  obtain⟨aQ,hoc,xI,FH,hci,qP⟩:=jH.at_ hJ hr;have Zt:=(qC.1 hq).2 c.toNat (by have:=qP.1;have:=qP.2;omega);obtain⟨h1,h2⟩:=UF hq r (a+1) _ xI aQ (nS hJ hr hd Zt);refine⟨h1,fun k hk v h=>?_⟩;have h4:=h2 k hk v h;rw[La hJ.d3 t c _ hk]at h4;unfold Nv at h4;split at h4
  .rename_i h5;obtain⟨h6,h7,_⟩:=Js hJ hd hk h5;refine .step h6.1 ?_;rw[h7];exact h4
  exact h4
theorem Z4:Dp J 0 (fA J.D):=fun k hk=>by rw[wX hJ.d3 hk];exact⟨(hJ.dg k hk).t.root,a5S _⟩
theorem ahr{q}(hq:jZ J.s q=true):aX J.D (WB J.D q J.o (fA J.D))=J.D.map fun d=>mW d q:=by
 obtain⟨h1,h2⟩:=UF hJ hq J.o 0 (fA J.D) aaU (a5S _) (Z4 hJ);unfold aX;refine(pW (d:=V0) (by simp)).2 fun k hk=>?_;rw[a5C,a6w]at hk;have hd:=hJ.dg k hk;have h3:=Lh hJ h1 hk;have h4:=h2 k hk _ (.fin h3.1);rw[wX hJ.d3 hk]at h4;have h6:=h4.at_ hd.t (by rw[hd.s];exact hq) 6001 (by have:=hd.t.root.1;have:=hd.n;omega) hd.t.root;have e1:((List.range J.D.length).map fun k=>pq (lH J.D k) ((WB J.D q J.o (fA J.D)).get k)).getD k V0=pq (lH J.D k) ((WB J.D q J.o (fA J.D)).get k):=by simp[List.getD,hk]
 have e2:(J.D.map fun d=>mW d q).getD k V0=mW (lH J.D k) q:=by simp[List.getD,hk]
 rw[e1,e2];exact h6
theorem acf(ψ:List V->Int):yH J (fun t=>ψ (aX J.D t)) J.o (fA J.D)=eF (fun q=>ψ (J.D.map fun d=>mW d q)) (YZ J):=by obtain⟨o1,o2,o3⟩:=jH.o2 hJ;rw[a3m _ (List.replicate J.s.length 0) _ ⟨o1,fun c hc=>by rw[a7p];exact o3 c hc⟩,KI _ (a9h hJ)];refine qQ fun q hq=>?_;unfold YZ at hq;rw[a7y,a3o hJ]at hq;rw[ahr hJ hq.1]
end
end Go.Proofs.YtmobpoiejckagaaGreat
namespace Pv
open Go Tw
section
variable{X:ny}{P:LI1}{kt:LI2}{α:Type}[DecidableEq α](C:qc X P kt α)
theorem qc.amD{l x v j}(hb:Instr.sameBits 10000 (C.v x) (C.v x)=true)(hn:(l.map (·.1)).Nodup)(h:l[j]? = some (x,v)):a7h X P kt (C.es l) (C.tv x) (C.pv x) v j:=by
 obtain⟨hj,e⟩:=a0w.1 h;have hxj:(l.map (·.1))[j]? = some x:=by simp[a0N hj,e]
 refine⟨C.v x,_,C.tv x,C.v x,C.ht x,C.hc false x,C.pk l,?_,?_,?_,C.ht x,hb⟩
 .have hu:∀(i:Nat) y,(l.map (·.1))[i]? = some y->decide (x=y)=(some i==some j):=fun i y hy=>by
   rw[a5R];simp only[a1F,a6E,a08];constructor
   .rintro rfl;have i1:=a0w.1 hy;have i2:=a0w.1 hxj;exact(aaT hn (h₀:=i1.1) (h₁:=i2.1)).1 (i1.2.trans i2.2.symm)
   rintro rfl;rw[hxj]at hy;exact aai hy
  refine C.find x _ (some j) ?_ hu;rw[aaK];refine⟨by simpa using hj,by simp[e],fun i hi=>?_⟩;have hil:i<(l.map (·.1)).length:=by simp;omega
  rw[hu i _ (a0N hil)];simp;omega
 .simp[qc.es,a0N hj,e]
 simp[a0N hj,e]
theorem qc.newP{l x v}(h:x∉l.map (·.1)):afL X P kt (C.es (l++[(x,v)])) (C.tv x) l.length:=by
 refine⟨C.v x,_,C.ht x,C.pk _,?_⟩;have hu:∀(i:Nat) y,((l++[(x,v)]).map (·.1))[i]? = some y->decide (x=y)=(some i==some l.length):=fun i y hy=>by
  rw[a4V]at hy;rcases a5l i l.length with hi|hi
  .rw[a0Q (by simpa using hi)]at hy;have:¬x=y:=fun e=>h (e▸a5M hy);rw[afk this];have:¬i=l.length:=(by omega);simp[this]
  rw[a1y (by simpa using hi)]at hy;have LW:i=l.length:=by have:=(a0w.1 hy).1;simp at this;omega
  subst LW;simp at hy;subst hy;simp
 refine C.find x _ (some l.length) ?_ hu;rw[aaK];refine⟨by simp,by simp,fun i hi=>?_⟩;have hil:i<((l++[(x,v)]).map (·.1)).length:=by simp;omega
 rw[hu i _ (a0N hil)];simp;omega
abbrev qc.im(m:List (α×Int)):List (PV X.Γ×PV X.Γ):=C.es (m.map fun e=>(e.1,.int .i64 e.2))
theorem qc.qy(m):(C.im m).length=m.length:=by simp[qc.im,qc.es]
theorem qc.BQ(m)(j:Nat):(C.im m)[j]? = (m[j]?).map fun e=>(C.pv e.1,.int .i64 e.2):=by simp[qc.im,qc.es,a5F];rfl
theorem Au{Y:ny}(m:List (α×Int)):((m.map fun e=>(e.1,(PV.int .i64 e.2:PV Y.Γ))).map (·.1))=m.map (·.1):=by simp
theorem ahs{m j}{f:Int->Int}{v}(h:∀e,m[j]? = some e->f e.2=v):Kt (C.im m) j (.int .i64 v)=C.im (m.modify j fun e=>(e.1,f e.2)):=by
 unfold Kt;refine aaA fun i=>?_;rw[af8,C.BQ,C.BQ,af8];by_cases e:j=i
 .subst e;cases h2:m[j]? with
  |none=>simp[h2]
  |some x=>simp[h2,h x h2]
 simp[e]
theorem aht{m x z v}:Kt (C.im m++[(C.pv x,.int .i64 z)]) (C.im m).length (.int .i64 v)=C.im (m++[(x,v)]):=by
 have:C.im (m++[(x,v)])=C.im m++[(C.pv x,.int .i64 v)]:=by simp[qc.im,qc.es]
 rw[this];unfold Kt;generalize C.im m=l;refine aaA fun i=>?_;rw[af8];rcases Nat.lt_trichotomy i l.length with h|h|h
 .rw[a0Q h,a0Q h];simp[show ¬l.length=i by omega]
 .subst h;simp
 rw[a4U (by simp;omega),a4U (by simp;omega)];rfl
theorem qc.WE{m k n}(hb:Instr.sameBits 10000 (C.v k) (C.v k)=true)(hn:(m.map (·.1)).Nodup)(h:k∈m.map (·.1))(hw:∀e∈m,i64.wrap (e.2+n)=e.2+n) :∃j old,qM X P kt (C.im m) (C.tv k) (.int .i64 old)/\a7h X P kt (C.im m) (C.tv k) (C.pv k) (.int .i64 old) j/\j<(C.im m).length/\Kt (C.im m) j (.int .i64 (i64.wrap (old+n)))=C.im (bV.uf m k n):=by
 have aQ:=a5P.2 h;have a7r:(m.map (·.1)).idxOf k<m.length:=by simpa using aQ
 have hk:m[(m.map (·.1)).idxOf k]? = some (k,m[(m.map (·.1)).idxOf k].2):=by rw[a0N a7r];have:=a9I aQ;rw[aa9]at this;exact congrArg some (abk this rfl)
 have JR:(k,m[(m.map (·.1)).idxOf k].2)∈m:=a5M hk;refine⟨(m.map (·.1)).idxOf k,m[(m.map (·.1)).idxOf k].2,C.found (by rw[Au];exact hn) (a1z.2 ⟨_,JR,rfl⟩),C.amD hb (by rw[Au];exact hn) (by rw[a5F,hk];rfl),by rw[C.qy];exact a7r,?_⟩;rw[hw _ JR];unfold bV.uf;rw[a18 h];exact ahs C (f:=fun x=>x+n) fun e he=>by rw[hk]at he;cases he;rfl
theorem qc.WG{m k n}(h:k∉m.map (·.1))(hw:i64.wrap (0+n)=n) :oH X P kt (C.im m) (C.tv k)/\afL X P kt (C.im m++[(C.pv k,(PV.int .i64 0:PV X.Γ))]) (C.tv k) (C.im m).length/\(C.im m).length<(C.im m++[(C.pv k,(PV.int .i64 0:PV X.Γ))]).length/\Kt (C.im m++[(C.pv k,.int .i64 0)]) (C.im m).length (.int .i64 (i64.wrap (0+n)))=C.im (bV.uf m k n):=by
 refine⟨C.fresh (by rw[Au];exact h),?_,by simp,?_⟩
 .have:=C.newP (l:=m.map fun e=>(e.1,(PV.int .i64 e.2:PV X.Γ))) (x:=k) (v:=.int .i64 0) (by rw[Au];exact h);rw[C.qy];simpa[qc.im,qc.es]using this
 rw[hw,aht];unfold bV.uf;rw[a0U h]
end
end Pv
namespace Go.Proofs.YtmobpoiejckagaaGreat
open Go Tw Pv bV
abbrev wSk(H:List (PB aG))(s:S3)(r:Int)(x:List (Nat×PE aG)):bT aG:=⟨[(1,xi r),(2,.val (.ptr 2 0 5)),(3,.val (.ptr 1 0 5)),(4,.val (.ptr 3 0 1)),(5,.val (.ptr 4 0 1)),(6,.loc 0 0)]++x,[s.ps],H⟩
def Sv(D:List Dg)(t:S3):LI0->Nat
 | []=>0
 |c::r=>if kE D t c=true then 0 else Sv D t r+1
def Sz(J:Jb)(t:S3)(i:Int):Int⊕Int:=if decide (i<(J.o.length:Int))=true then(if(!(kE J.D t (J.o.getD i.toNat 0)))=true then .inl (i64.wrap (i+1))else .inr i)else .inr i
theorem a9i{J}(hJ:jH J)(t):∀(r) (a),J.o.drop a=r->a<=J.o.length->itF (Sz J t) (r.length+1) (a:Int)=some ((a+Sv J.D t r:Nat):Int)
 | [],a,hr,ha=>by
  have:a=J.o.length:=by have:=congrArg List.length hr;rw[a4u,a5V]at this;omega
  have e:Sz J t (a:Int)=.inr (a:Int):=by unfold Sz;rw[a0U (by simp;omega)]
  rw[a5V,itF,e];rfl
 |c::r,a,hr,ha=>by
  obtain⟨aQ,hoc,xI,_⟩:=jH.at_ hJ hr;have hl:=hJ.bP.len;have RN:=(jH.o2 hJ).2.1;have e:Sz J t (a:Int)=if(!(kE J.D t c))=true then .inl (i64.wrap ((a:Int)+1))else .inr (a:Int):=by unfold Sz;rw[a18 (by simp;omega),a5U,hoc]
  rw[a4T,itF,e];cases h:kE J.D t c
  .simp only[abh,a2r];have ew:i64.wrap ((a:Int)+1)=((a+1:Nat):Int):=by rw[fP (by omega) (by omega)];omega
   have:=a9i hJ t r (a+1) xI aQ;simp only[ew,Sv,h];rw[this];simp;omega
  simp[Sv,h]
theorem arJ{M f J}(hJ:jH J){t x}(r){a}(hr:J.o.drop a=r)(ha:a<=J.o.length)(hd:Dp J a t):Ob (M+1) 126 0 7 (wSk (HM0 J f x) t a []) (.exit 0) (wSk (HM0 J f x) t ((a+Sv J.D t r:Nat):Int) [(32,xl false)]):=by
 have RQ:=a9i hJ t r a hr ha;have RN:=(jH.o2 hJ).2.1;have hl:=hJ.bP.len;refine a0P (st:=fun i=>wSk (HM0 J f x) t i []) (g:=Sz J t) (out:=fun i=>(.exit 0,wSk (HM0 J f x) t i [(32,xl false)])) (fun i=>0<=i/\i<=J.o.length) RQ (by kernel_rfl) (by have:=congrArg List.length hr;rw[a4u]at this;unfold LL;omega) ⟨by omega,by omega⟩ ?_ ?_
 .intro i i1 hi e;unfold Sz at e;split at e
  .rename_i c;have c:i<(J.o.length:Int):=(by simpa using c);split at e
   .cases e;rw[fP (by omega) (by omega)];omega
   cases e
  cases e
 intro i m i' hi ih;have hs:=a99 (M:=M) (f:=f) (a:=[]) (cc:=[]) (H:=[]) J t (J.o.getD i.toNat 0) hJ.d3 (fun k hk h=>⟨by simpa using h,(hd k hk).1.1⟩);by_cases c:i<(J.o.length:Int)
 .have t1:decide (i<(J.o.length:Int))=true:=by simpa using c
  have i1:gV i J.o.length:=⟨hi.1,c⟩;cases hq:kE J.D t (J.o.getD i.toNat 0)
  .have e:Sz J t i=.inl (i64.wrap (i+1)):=by unfold Sz;rw[a18 t1,hq];rfl
   rw[hq]at hs;have g:=ih _ e;rw[e];exact aP gK (.b t1 (.o i1 (.fr [] hs (.b aiK (.go g)))))
  have e:Sz J t i=.inr i:=by unfold Sz;rw[a18 t1,hq];rfl
  rw[hq]at hs;rw[e];dsimp only[DX];exact aP gK (.b t1 (.o i1 (.fr [] hs (.b aiJ .ex))))
 have t1:decide (i<(J.o.length:Int))=false:=by simpa using c
 have e:Sz J t i=.inr i:=by unfold Sz;rw[a0U (by rw[t1];simp)]
 rw[e];dsimp only[DX];exact aP gK (.b t1 .ex)
theorem arK{M f}(u){J}(hJ:jH J){t x}(r){a}(hr:J.o.drop a=r)(ha:a<=J.o.length)(hd:Dp J a t):Ob (M+1) 126 0 8 (wSk (HM1 J f u x) t a []) (.exit 0) (wSk (HM1 J f u x) t ((a+Sv J.D t r:Nat):Int) [(32,xl false)]):=by
 have RQ:=a9i hJ t r a hr ha;have RN:=(jH.o2 hJ).2.1;have hl:=hJ.bP.len;refine a0P (st:=fun i=>wSk (HM1 J f u x) t i []) (g:=Sz J t) (out:=fun i=>(.exit 0,wSk (HM1 J f u x) t i [(32,xl false)])) (fun i=>0<=i/\i<=J.o.length) RQ (by kernel_rfl) (by have:=congrArg List.length hr;rw[a4u]at this;unfold LL;omega) ⟨by omega,by omega⟩ ?_ ?_
 .intro i i1 hi e;unfold Sz at e;split at e
  .rename_i c;have c:i<(J.o.length:Int):=(by simpa using c);split at e
   .cases e;rw[fP (by omega) (by omega)];omega
   cases e
  cases e
 intro i m i' hi ih;have hs:=a99 (M:=M) (f:=f) (a:=[]) (cc:=[.ptr 0 0 1]) (H:=[.aF [.int .u8 u]]) J t (J.o.getD i.toNat 0) hJ.d3 (fun k hk h=>⟨by simpa using h,(hd k hk).1.1⟩);by_cases c:i<(J.o.length:Int)
 .have t1:decide (i<(J.o.length:Int))=true:=by simpa using c
  have i1:gV i J.o.length:=⟨hi.1,c⟩;cases hq:kE J.D t (J.o.getD i.toNat 0)
  .have e:Sz J t i=.inl (i64.wrap (i+1)):=by unfold Sz;rw[a18 t1,hq];rfl
   rw[hq]at hs;have g:=ih _ e;rw[e];exact aP gK (.b t1 (.o i1 (.fr [5] hs (.b aiK (.go g)))))
  have e:Sz J t i=.inr i:=by unfold Sz;rw[a18 t1,hq];rfl
  rw[hq]at hs;rw[e];dsimp only[DX];exact aP gK (.b t1 (.o i1 (.fr [5] hs (.b aiJ .ex))))
 have t1:decide (i<(J.o.length:Int))=false:=by simpa using c
 have e:Sz J t i=.inr i:=by unfold Sz;rw[a0U (by rw[t1];simp)]
 rw[e];dsimp only[DX];exact aP gK (.b t1 .ex)
open Go Tw Pv bV
theorem WH{J}(hJ:jH J){op x}:∀(r) (a) (t),J.o.drop a=r->a<=J.o.length->Dp J a t->jL J op r t x=jL J op (r.drop (Sv J.D t r)) t x/\a+Sv J.D t r<=J.o.length/\Dp J (a+Sv J.D t r) t/\∀c r',r.drop (Sv J.D t r)=c::r'->kE J.D t c=true
 | [],a,t,hr,ha,hd=>⟨rfl,ha,hd,fun _ _ h=>by cases h⟩
 |c::r,a,t,hr,ha,hd=>by
  obtain⟨aQ,hoc,xI,_⟩:=jH.at_ hJ hr;cases h:kE J.D t c
  .obtain⟨q1,q2,q3,q4⟩:=WH hJ (op:=op) (x:=x) r (a+1) t xI aQ (Wy hJ hr hd h);have e:Sv J.D t (c::r)=Sv J.D t r+1:=(by simp[Sv,h]);rw[e];refine⟨?_,by omega,by rw[show a+(Sv J.D t r+1)=a+1+Sv J.D t r by omega];exact q3,q4⟩;rw[List.drop_succ_cons,<-q1]
   conv=>lhs;unfold jL
   rw[a0U (by rw[h];simp)]
  have e:Sv J.D t (c::r)=0:=by simp[Sv,h]
  rw[e];exact⟨rfl,ha,hd,fun c' r' h2=>by cases h2;exact h⟩
theorem WI{J}(hJ:jH J):∀(r) (n),(∀c∈r,gV c J.s.length)->wO J.s (r.drop n)<=wO J.s r
 | [],n,_=>by simp
 |c::r,0,_=>a1p _
 |c::r,n+1,h=>by have h1:=WI hJ r n fun c hc=>h c (by simp[hc]);have hi:=h c (by simp);have hz:=hJ.bP.sz _ (dF (s:=J.s) (k:=c.toNat) (by have:=hi.1;have:=hi.2;omega));have:wO J.s r<=(J.s.getD c.toNat 0).toNat*wO J.s r:=aeM _ (by omega);rw[List.drop_succ_cons];simp only[wO];omega
abbrev acg(J:Jb)(f:Nat)(t:S3)(c:Int)(a:Int)(m:Mk)(ks:LI0)(i:Int)(y:List (Nat×PE aG)):bT aG:=⟨[(1,xi a),(2,.val (.ptr 2 0 5)),(3,.val (.ptr 1 0 5)),(4,.val (.ptr 3 0 1)),(5,.val (.ptr 4 0 1)),(6,.loc 0 0),(9,xi c),(13,.loc 1 0),(93,xi (J.s.getD c.toNat 0)),(94,xi i)]++y,[t.ps,[.int .i64 c,.own 9]],ac7 J f m++[oI false false ks]⟩
theorem arL{M f J}(hJ:jH J){op r t c a}(x)(hc:gV c J.s.length)(Q:Nat->Mk->Prop)(h0:Q 0 x)(hq:∀j y,j<(J.s.getD c.toNat 0).toNat->Q j y->Q (j+1) (jL J op r (bM J.D t c j) y).2)(hk:∀j,j<(J.s.getD c.toNat 0).toNat->∀k,k<J.D.length->a3i (lH J.D k) (t.get k) c j)(hf:∀(j) y,j<(J.s.getD c.toNat 0).toNat->Q j y->dI X0 Qp (iD (M+1)) (.fn 126 [] pM) [.agg (bM J.D t c j).ps,.int .i64 (i64.wrap (a+1))] (HM0 J f y) (.int .i64 (jL J op r (bM J.D t c j) y).1) (ac7 J f (jL J op r (bM J.D t c j) y).2)) :Ob (M+1) 126 1 7 (acg J f t c a x [] 0 []) (.exit 2) (acg J f t c a (aT (Wx J.D (jL J op r) t c) (J.s.getD c.toNat 0).toNat 0 ([],x)).2 (aT (Wx J.D (jL J op r) t c) (J.s.getD c.toNat 0).toNat 0 ([],x)).1 (((J.s.getD c.toNat 0).toNat:Nat):Int) [(95,xl false)]):=by
 have hz:=hJ.bP.sz _ (dF (s:=J.s) (k:=c.toNat) (by have:=hc.1;have:=hc.2;omega));refine wK (σ:=LI0×Mk) (N:=(J.s.getD c.toNat 0).toNat) (g:=Wx J.D (jL J op r) t c) (s0:=([],x)) (st:=fun i y=>acg J f t c a y.2 y.1 i []) (fin:=fun y=>acg J f t c a y.2 y.1 (((J.s.getD c.toNat 0).toNat:Nat):Int) [(95,xl false)]) (fun j y=>y.1.length=j/\Q j y.2) (by kernel_rfl) (by unfold ah;omega) ⟨rfl,h0⟩ (fun j y hj hy=>⟨by simp[Wx,hy.1],hq j y.2 hj hy.2⟩) (fun j y hj hy m e p g=>?_) (fun y _=>?_)
 .have h1:=hf j y.2 hj hy.2;have ha:=L9 (M:=M) (f:=f) (a:=[]) (cc:=[]) (H:=[]) J t c j hJ.d3 (hk j hj);have t1:decide ((j:Int)<J.s.getD c.toNat 0)=true:=by rw[a1F];omega
  have h3:=hy.1;unfold Wx at g;generalize jL J op r (bM J.D t c j) y.2=z at h1 g;obtain⟨v,z⟩:=z;exact aP gK (.b t1 (.fr [] ha (.fr [0,1,2,3,4,7,8] h1 (.o (show y.1.length+[v].length<=ah by simp only[a4O];unfold ah;omega) (.goG [.gc [10,11,13]] g)))))
 .have t1:decide ((((J.s.getD c.toNat 0).toNat:Nat):Int)<J.s.getD c.toNat 0)=false:=by rw[a3L];omega
  exact aP gK (.b t1 .ex)
open Go Tw Pv bV
theorem Z5{k t}(hn:(k.map (·.1)).Nodup)(h:t∈k.map (·.1)):qM X0 Qp 148 (Jr k) (.agg [.int .i64 t.a,.int .i64 t.b,.int .i64 t.c]) (.int .i64 (knS k t)):=by
 refine kS.found (x:=t) (by rw[a8l];exact hn) ?_;obtain⟨e,he,rfl⟩:=a1z.1 h;refine a1z.2 ⟨e,he,?_⟩;have:knS k e.1=e.2:=by
  have:k.find? (fun y=>decide (y.1=e.1))=some e:=by
   clear h
   induction k with
   |nil=>cases he
   |cons y l ih=>
    rw[a4W,a5I]at hn;rw[air];rcases a1G.1 he with rfl|he
    .simp
    have:¬y.1=e.1:=fun h=>hn.1 (a1z.2 ⟨e,he,h.symm⟩);rw[afk this];exact ih hn.2 he
  unfold knS;rw[this];rfl
 rw[this]
abbrev ahu(J:Jb)(op:List V->V)(f:Nat)(m:Nat)(r:LI0):Prop:=∀(a:Nat) (t:S3) (x:Mk),J.o.drop a=r->a<=J.o.length->Dp J a t->XOk J op x->x.e.length+wO J.s r<=ah->x.n.length+wO J.s r<=ah ->
  dI X0 Qp (iD m) (.fn 126 [] pM) [.agg t.ps,.int .i64 (a:Int)] (HM0 J f x) (.int .i64 (jL J op r t x).1) (ac7 J f (jL J op r t x).2)
abbrev ahv(J:Jb)(f:Nat)(x:Mk)(v:V):List (PB aG):=[.map (Jr x.k),.cells [lI J.s,lI J.o,.own 8,.own 6,.int .i64 0],.aF (J.ps (.fn f [] [])),.aF [.fn 126 [] pM],.aF [.map 0],.gone,Rz x.n,.list true true 39 [v],Ry (x.e++[v])]
abbrev amE(J:Jb)(f:Nat)(x:Mk)(t:S3)(b:Br):List (PB aG):=[.map (Jr x.k++[(.agg t.ps,.int .i64 (x.n.length:Int))]),.cells [lI J.s,lI J.o,.own 7,.own 11,.int .i64 0],.aF (J.ps (.fn f [] [])),.aF [.fn 126 [] pM],.aF [.map 0],.gone,.gone,Ry x.e,.gone,.gone,.list true true 105 [b],Rz (x.n++[b])]
theorem aeT{N f:Nat}{J}(hJ:jH J){op}(jr:mY J op)(hs:∀l,l.length=J.D.length->dI X0 Qp (iD (N+1)) (.fn f [] []) [lV l] [] (.agg (op l).ps) [])(r)(rec:∀c r',c::r' <:+ r->ahu J op f (N+1) r'):ahu J op f (N+2) r:=by
 intro a t x hr ha hd hx CU yN;unfold ah at CU yN;have RN:=(jH.o2 hJ).2.1;have hl6:=hJ.bP.len;have lsk:=arJ (M:=N) (f:=f) hJ (x:=x) r hr ha hd;obtain⟨q1,q2,q3,q4⟩:=WH hJ (op:=op) (x:=x) r a t hr ha hd;have hw:=WI hJ r (Sv J.D t r) (fun c hc=>(jH.o2 hJ).2.2 c (a5X (by rw[hr];exact hc)));rw[q1];generalize Sv J.D t r=n at lsk q1 q2 q3 q4 hw;have Gs:J.o.drop (a+n)=r.drop n:=by rw[<-hr,afF]
 have a9j:r.drop n <:+ r:=List.drop_suffix _ _;have Ik:=congrArg List.length Gs;rw[a4u]at Ik;clear q1 hr;generalize a+n=i at lsk q2 q3 Gs Ik;generalize r.drop n=r0 at q4 hw Gs a9j Ik;cases r0 with
 |nil=>
  have e0:i=J.o.length:=by rw[a5V]at Ik;omega
  have t0:((i:Int)==(J.o.length:Int))=true:=by rw[e0];simp
  rw[e0]at q3;have nV:(aX J.D t).length=J.D.length:=by simp[aX]
  have hce:=a3j (M:=N) (f:=f) J t hJ.d3 (fun k hk=>(Lh hJ q3 hk).2);have hv:=hs (aX J.D t) nV;simp only[wO]at hw;have hb:x.e.length+[op (aX J.D t)].length<=ah:=by simp only[a4O];unfold ah;omega
  have h1:dI X0 Qp (iD (N+2)) (.fn 126 [] pM) [.agg t.ps,.int .i64 (a:Int)] (HM0 J f x) (.int .i64 (i64.wrap (0-((x.e++[op (aX J.D t)]).length:Int)))) (ahv J f x (op (aX J.D t))):=
   fD gK (first:=[]) (cap:=pM) (.w lsk (.b t0 (.fr [] hce (.fr [] hv (.o hb .er)))))
  exact dI.gs hX h1 [.mv 6,.gc [8,9]] (by kernel_rfl)
 |cons c r'=>
  have t0:((i:Int)==(J.o.length:Int))=false:=by rw[a4T]at Ik;simp;omega
  obtain⟨aQ,hoc,xI,FH,hci,qP⟩:=jH.at_ hJ Gs;have BM:=q4 c r' rfl;have rc:=rec c r' a9j;have ia:gV (i:Int) J.o.length:=⟨by omega,by omega⟩;have Lr:J.o.getD (i:Int).toNat 0=c:=by rw[a5U];exact hoc
  have ig:gV (J.o.getD (i:Int).toNat 0) J.g.length:=by rw[Lr,hJ.gl];exact qP
  have hz:=hJ.bP.sz _ (dF (s:=J.s) (k:=c.toNat) (by have:=qP.1;have:=qP.2;omega));have hri:∀c'∈r',gV c' J.s.length:=fun c' h=>(jH.o2 hJ).2.2 c' (by rw[<-xI]at h;exact a5X h);have hw0:=Wu hJ.bP.sz hri;have hw1:wO J.s r'<=(J.s.getD c.toNat 0).toNat*wO J.s r':=aeM _ (by omega);have ew:i64.wrap ((i:Int)+1)=((i+1:Nat):Int):=by rw[fP (by omega) (by omega)];omega
  simp only[wO]at hw;unfold jL;rw[a18 BM];cases tg:decide (J.g.getD c.toNat 0>=0)
  .rw[a0U (by simp)];have tg':decide (J.g.getD (J.o.getD (i:Int).toNat 0).toNat 0>=0)=false:=by rw[Lr];exact tg
   by_cases hk:t∈x.k.map (·.1)
   .rw[a18 hk];have hF:qM X0 Qp 148 (Jr x.k) (.agg [.int .i64 t.a,.int .i64 t.b,.int .i64 t.c]) (.int .i64 (knS x.k t)):=Z5 hx.nd hk;have h1:dI X0 Qp (iD (N+2)) (.fn 126 [] pM) [.agg t.ps,.int .i64 (a:Int)] (HM0 J f x) (.int .i64 (knS x.k t)) (HM0 J f x):=
     fD gK (first:=[]) (cap:=pM) (.w lsk (.b t0 (.o ia (.o ig (.b tg' (.c (.int .i64 (knS x.k t)) [] hF (.b aiG .er)))))))
    exact dI.gs hX h1 [.mv 5,.mv 6] (by kernel_rfl)
   rw[a0U hk];have hm2:=WA hJ Gs q3 BM;have hF:oH X0 Qp 148 (Jr x.k) (.agg [.int .i64 t.a,.int .i64 t.b,.int .i64 t.c]):=kS.fresh (x:=t) (by simpa using hk);have is:gV (J.o.getD (i:Int).toNat 0) J.s.length:=by rw[Lr];exact qP
   have Zv:∀j,j<(J.s.getD c.toNat 0).toNat->j*wO J.s r'+wO J.s r'<=(J.s.getD c.toNat 0).toNat*wO J.s r':=fun j hj=>by have:(j+1)*wO J.s r'<=(J.s.getD c.toNat 0).toNat*wO J.s r':=a3X _ hj;rw[a4p]at this;omega
   let Q:Nat->Mk->Prop:=fun j y=>XOk J op y/\y.e.length<=x.e.length+j*wO J.s r'/\y.n.length+j<=x.n.length+j*wO J.s r'/\∀e∈y.k,e∈x.k\/Dp J (i+1) e.1
   have hq:∀j y,j<(J.s.getD c.toNat 0).toNat->Q j y->Q (j+1) (jL J op r' (bM J.D t c j) y).2:=fun j y hj hy=>by
    obtain⟨y1,y2,y3,y4⟩:=hy;have Zv:=Zv j hj;have h:=UA hJ op jr r' (i+1) (bM J.D t c j) y xI aQ (nS hJ Gs q3 ⟨by omega,by omega⟩) y1 (by omega) (by omega);have h3:=h.el;have h4:=h.nl;refine⟨h.ok,by rw[a4p];omega,by rw[a4p];omega,fun e he=>?_⟩;rcases h.ks e he with h5|h5
    .exact y4 e h5
    exact .inr h5
   have lp:=arL (M:=N) (f:=f) hJ (op:=op) (r:=r') (t:=t) (c:=c) (a:=(i:Int)) x qP Q ⟨hx,by simp,by simp,fun e he=>.inl he⟩ hq (fun j hj k hk=>Le hJ q3 ⟨by omega,by omega⟩ hk) (fun j y hj hy=>by obtain⟨y1,y2,y3,y4⟩:=hy;have Zv:=Zv j hj;rw[ew];exact rc (i+1) (bM J.D t c j) y xI aQ (nS hJ Gs q3 ⟨by omega,by omega⟩) y1 (by unfold ah;omega) (by unfold ah;omega))
   have inv:=dB (g:=Wx J.D (jL J op r') t c) (m:=(J.s.getD c.toNat 0).toNat) (k:=0) (s:=([],x)) (fun j y=>Q j y.2) ⟨hx,by simp,by simp,fun e he=>.inl he⟩ (fun j y _ hj hy=>hq j y.2 (by omega) hy);rw[a3O]at inv;simp only[];generalize aT (Wx J.D (jL J op r') t c) (J.s.getD c.toNat 0).toNat 0 ([],x)=y at lp inv;obtain⟨ks,m⟩:=y;obtain⟨y1,y2,y3,y4⟩:=inv;have hnk:t∉m.k.map (·.1):=fun h=>by
    obtain⟨e,he,e2⟩:=a1z.1 h;rcases y4 e he with h1|h1
    .exact hk (a1z.2 ⟨e,h1,e2⟩)
    rw[e2]at h1;exact a0Z hJ Gs BM h1
   have hF2:oH X0 Qp 148 (Jr m.k) (.agg [.int .i64 t.a,.int .i64 t.b,.int .i64 t.c]):=kS.fresh (x:=t) (by simpa using hnk);have ek:Jr m.k++[(.agg t.ps,.int .i64 (m.n.length:Int))]=Jr (m.k++[(t,(m.n.length:Int))]):=by unfold Jr qc.es;rw[a4V,a4V];rfl
   have hF3:qM X0 Qp 148 (Jr m.k++[(.agg t.ps,.int .i64 (m.n.length:Int))]) (.agg [.int .i64 t.a,.int .i64 t.b,.int .i64 t.c]) (.int .i64 (m.n.length:Int)):=by
    refine(congrArg (fun l:List (PV aG×PV aG)=>qM X0 Qp 148 l (.agg [.int .i64 t.a,.int .i64 t.b,.int .i64 t.c]) (.int .i64 (m.n.length:Int))) ek).mpr ?_;refine kS.found (x:=t) ?_ ?_
    .rw[a8l,show((fun e:S3×PV X0.Γ=>e.1)∘fun e:S3×Int=>(e.1,(PV.int .i64 e.2:PV X0.Γ)))=fun e=>e.1 from rfl,a4V];exact Ep y1.nd hnk
    simp
   have hb:m.n.length+[(⟨c,ks⟩:Br)].length<=ah:=by simp only[a4O];have y3:m.n.length+(J.s.getD c.toNat 0).toNat<=x.n.length+(J.s.getD c.toNat 0).toNat*wO J.s r':=y3;unfold ah;omega
   have h1:dI X0 Qp (iD (N+2)) (.fn 126 [] pM) [.agg t.ps,.int .i64 (a:Int)] (HM0 J f x) (.int .i64 (m.n.length:Int)) (amE J f m t ⟨c,ks⟩):=by subst Lr;exact fD gK (first:=[]) (cap:=pM) (.w lsk (.b t0 (.o ia (.o ig (.b tg' (.q (.bool false) hF (.b aiC (.o is (.wG [.mv 5,.mv 6,.a4l 1 1 3] lp (.q (.bool false) (kS.ck t) (.o hF2 (.o hb (.c (.int .i64 (m.n.length:Int)) [] hF3 .er)))))))))))))
   have h2:=dI.gs hX h1 [.gc [7,11]] (v':=.int .i64 (m.n.length:Int)) (H2:=[.map (Jr m.k++[(.agg t.ps,.int .i64 (m.n.length:Int))]),.cells [lI J.s,lI J.o,.own 7,.own 8,.int .i64 0],.aF (J.ps (.fn f [] [])),.aF [.fn 126 [] pM],.aF [.map 0],.gone,.gone,Ry m.e,Rz (m.n++[⟨c,ks⟩])]) (by kernel_rfl);exact(congrArg (fun l:List (PV aG×PV aG)=>dI X0 Qp (iD (N+2)) (.fn 126 [] pM) [.agg t.ps,.int .i64 (a:Int)] (HM0 J f x) (.int .i64 (m.n.length:Int)) [.map l,.cells [lI J.s,lI J.o,.own 7,.own 8,.int .i64 0],.aF (J.ps (.fn f [] [])),.aF [.fn 126 [] pM],.aF [.map 0],.gone,.gone,Ry m.e,Rz (m.n++[⟨c,ks⟩])]) ek).mp h2
  rw[a18 rfl];have tg':decide (J.g.getD (J.o.getD (i:Int).toNat 0).toNat 0>=0)=true:=by rw[Lr];exact tg
  have hg:0<=J.g.getD c.toNat 0:=by simpa using tg
  have haf:=L9 (M:=N) (f:=f) (a:=[]) (cc:=[]) (H:=[]) J t c (J.g.getD c.toNat 0) hJ.d3 (fun k hk=>Le hJ q3 ⟨hg,hJ.gv c qP hg⟩ hk);have h2:=rc (i+1) (bM J.D t c (J.g.getD c.toNat 0)) x xI aQ (nS hJ Gs q3 ⟨hg,hJ.gv c qP hg⟩) hx (by unfold ah;omega) (by unfold ah;omega);rw[<-ew]at h2;subst Lr;exact fD gK (first:=[]) (cap:=pM) (.w lsk (.b t0 (.o ia (.o ig (.b tg' (.fr [] haf (.fr [0,1,2,3,4,5,6] h2 .er)))))))
theorem arP{N f:Nat}{J}(hJ:jH J){op}(jr:mY J op)(hs:∀m,N<=m->∀l,l.length=J.D.length->dI X0 Qp (iD m) (.fn f [] []) [lV l] [] (.agg (op l).ps) []):∀(F) (r),r.length<=F->ahu J op f (N+F+2) r:=by
 intro F
 induction F with
 |zero=>
  intro r hF;refine aeT hJ jr (hs _ (by omega)) r fun c r' h=>?_;have:=h.length_le;rw[a4T]at this;omega
 |succ F ih=>
  intro r hF;refine aeT (N:=N+F+1) hJ jr (hs _ (by omega)) r fun c r' h=>ih r' ?_;have:=h.length_le;rw[a4T]at this;omega
open Go Tw Pv bV
abbrev aci(J:Jb)(f:Nat)(u:Int)(t:S3)(c:Int)(a:Int)(m:Mk)(ks:LI0)(i:Int)(y:List (Nat×PE aG)):bT aG:=⟨[(1,xi a),(2,.val (.ptr 2 0 5)),(3,.val (.ptr 1 0 5)),(4,.val (.ptr 3 0 1)),(5,.val (.ptr 4 0 1)),(6,.loc 0 0),(9,xi c),(13,.loc 1 0),(93,xi (J.s.getD c.toNat 0)),(94,xi i)]++y,[t.ps,[.int .i64 c,.own 10]],ac8 J f u m++[oI false false ks]⟩
theorem arQ{M f u J}(hJ:jH J){op r t c a}(x)(hc:gV c J.s.length)(Q:Nat->Mk->Prop)(h0:Q 0 x)(hq:∀j y,j<(J.s.getD c.toNat 0).toNat->Q j y->Q (j+1) (jL J op r (bM J.D t c j) y).2)(hk:∀j,j<(J.s.getD c.toNat 0).toNat->∀k,k<J.D.length->a3i (lH J.D k) (t.get k) c j)(hf:∀(j) y,j<(J.s.getD c.toNat 0).toNat->Q j y->dI X0 Qp (iD (M+1)) (.fn 126 [] pM) [.agg (bM J.D t c j).ps,.int .i64 (i64.wrap (a+1))] (HM1 J f u y) (.int .i64 (jL J op r (bM J.D t c j) y).1) (ac8 J f u (jL J op r (bM J.D t c j) y).2)) :Ob (M+1) 126 1 8 (aci J f u t c a x [] 0 []) (.exit 2) (aci J f u t c a (aT (Wx J.D (jL J op r) t c) (J.s.getD c.toNat 0).toNat 0 ([],x)).2 (aT (Wx J.D (jL J op r) t c) (J.s.getD c.toNat 0).toNat 0 ([],x)).1 (((J.s.getD c.toNat 0).toNat:Nat):Int) [(95,xl false)]):=by
 have hz:=hJ.bP.sz _ (dF (s:=J.s) (k:=c.toNat) (by have:=hc.1;have:=hc.2;omega));refine wK (σ:=LI0×Mk) (N:=(J.s.getD c.toNat 0).toNat) (g:=Wx J.D (jL J op r) t c) (s0:=([],x)) (st:=fun i y=>aci J f u t c a y.2 y.1 i []) (fin:=fun y=>aci J f u t c a y.2 y.1 (((J.s.getD c.toNat 0).toNat:Nat):Int) [(95,xl false)]) (fun j y=>y.1.length=j/\Q j y.2) (by kernel_rfl) (by unfold ah;omega) ⟨rfl,h0⟩ (fun j y hj hy=>⟨by simp[Wx,hy.1],hq j y.2 hj hy.2⟩) (fun j y hj hy m e p g=>?_) (fun y _=>?_)
 .have h1:=hf j y.2 hj hy.2;have ha:=L9 (M:=M) (f:=f) (a:=[]) (cc:=[.ptr 0 0 1]) (H:=[.aF [.int .u8 u]]) J t c j hJ.d3 (hk j hj);have t1:decide ((j:Int)<J.s.getD c.toNat 0)=true:=by rw[a1F];omega
  have h3:=hy.1;unfold Wx at g;generalize jL J op r (bM J.D t c j) y.2=z at h1 g;obtain⟨v,z⟩:=z;exact aP gK (.b t1 (.fr [5] ha (.fr [0,1,2,3,4,5,8,9] h1 (.o (show y.1.length+[v].length<=ah by simp only[a4O];unfold ah;omega) (.goG [.gc [11,12,14]] g)))))
 .have t1:decide ((((J.s.getD c.toNat 0).toNat:Nat):Int)<J.s.getD c.toNat 0)=false:=by rw[a3L];omega
  exact aP gK (.b t1 .ex)
abbrev ahw(J:Jb)(op:List V->V)(f:Nat)(u:Int)(m:Nat)(r:LI0):Prop:=∀(a:Nat) (t:S3) (x:Mk),J.o.drop a=r->a<=J.o.length->Dp J a t->XOk J op x->x.e.length+wO J.s r<=ah->x.n.length+wO J.s r<=ah ->
  dI X0 Qp (iD m) (.fn 126 [] pM) [.agg t.ps,.int .i64 (a:Int)] (HM1 J f u x) (.int .i64 (jL J op r t x).1) (ac8 J f u (jL J op r t x).2)
abbrev ahx(J:Jb)(f:Nat)(u:Int)(x:Mk)(v:V):List (PB aG):=[.map (Jr x.k),.cells [lI J.s,lI J.o,.own 9,.own 7,.int .i64 0],.aF (J.ps (.fn f [] [.ptr 5 0 1])),.aF [.fn 126 [] pM],.aF [.map 0],.aF [.int .u8 u],.gone,Rz x.n,.list true true 39 [v],Ry (x.e++[v])]
abbrev amG(J:Jb)(f:Nat)(u:Int)(x:Mk)(t:S3)(b:Br):List (PB aG):=[.map (Jr x.k++[(.agg t.ps,.int .i64 (x.n.length:Int))]),.cells [lI J.s,lI J.o,.own 8,.own 12,.int .i64 0],.aF (J.ps (.fn f [] [.ptr 5 0 1])),.aF [.fn 126 [] pM],.aF [.map 0],.aF [.int .u8 u],.gone,.gone,Ry x.e,.gone,.gone,.list true true 105 [b],Rz (x.n++[b])]
theorem aeU{N f:Nat}(u){J}(hJ:jH J){op}(jr:mY J op)(hs:∀l,l.length=J.D.length->dI X0 Qp (iD (N+1)) (.fn f [] [.ptr 0 0 1]) [lV l] [.aF [.int .u8 u]] (.agg (op l).ps) [.aF [.int .u8 u]])(r)(rec:∀c r',c::r' <:+ r->ahw J op f u (N+1) r'):ahw J op f u (N+2) r:=by
 intro a t x hr ha hd hx CU yN;unfold ah at CU yN;have RN:=(jH.o2 hJ).2.1;have hl6:=hJ.bP.len;have lsk:=arK (M:=N) (f:=f) u hJ (x:=x) r hr ha hd;obtain⟨q1,q2,q3,q4⟩:=WH hJ (op:=op) (x:=x) r a t hr ha hd;have hw:=WI hJ r (Sv J.D t r) (fun c hc=>(jH.o2 hJ).2.2 c (a5X (by rw[hr];exact hc)));rw[q1];generalize Sv J.D t r=n at lsk q1 q2 q3 q4 hw;have Gs:J.o.drop (a+n)=r.drop n:=by rw[<-hr,afF]
 have a9j:r.drop n <:+ r:=List.drop_suffix _ _;have Ik:=congrArg List.length Gs;rw[a4u]at Ik;clear q1 hr;generalize a+n=i at lsk q2 q3 Gs Ik;generalize r.drop n=r0 at q4 hw Gs a9j Ik;cases r0 with
 |nil=>
  have e0:i=J.o.length:=by rw[a5V]at Ik;omega
  have t0:((i:Int)==(J.o.length:Int))=true:=by rw[e0];simp
  rw[e0]at q3;have nV:(aX J.D t).length=J.D.length:=by simp[aX]
  have hce:=ac6 (M:=N) (f:=f) (u:=u) J t hJ.d3 (fun k hk=>(Lh hJ q3 hk).2);have hv:=hs (aX J.D t) nV;simp only[wO]at hw;have hb:x.e.length+[op (aX J.D t)].length<=ah:=by simp only[a4O];unfold ah;omega
  have h1:dI X0 Qp (iD (N+2)) (.fn 126 [] pM) [.agg t.ps,.int .i64 (a:Int)] (HM1 J f u x) (.int .i64 (i64.wrap (0-((x.e++[op (aX J.D t)]).length:Int)))) (ahx J f u x (op (aX J.D t))):=
   fD gK (first:=[]) (cap:=pM) (.w lsk (.b t0 (.fr [5] hce (.fr [5] hv (.o hb .er)))))
  exact dI.gs hX h1 [.mv 7,.gc [9,10]] (by kernel_rfl)
 |cons c r'=>
  have t0:((i:Int)==(J.o.length:Int))=false:=by rw[a4T]at Ik;simp;omega
  obtain⟨aQ,hoc,xI,FH,hci,qP⟩:=jH.at_ hJ Gs;have BM:=q4 c r' rfl;have rc:=rec c r' a9j;have ia:gV (i:Int) J.o.length:=⟨by omega,by omega⟩;have Lr:J.o.getD (i:Int).toNat 0=c:=by rw[a5U];exact hoc
  have ig:gV (J.o.getD (i:Int).toNat 0) J.g.length:=by rw[Lr,hJ.gl];exact qP
  have hz:=hJ.bP.sz _ (dF (s:=J.s) (k:=c.toNat) (by have:=qP.1;have:=qP.2;omega));have hri:∀c'∈r',gV c' J.s.length:=fun c' h=>(jH.o2 hJ).2.2 c' (by rw[<-xI]at h;exact a5X h);have hw0:=Wu hJ.bP.sz hri;have hw1:wO J.s r'<=(J.s.getD c.toNat 0).toNat*wO J.s r':=aeM _ (by omega);have ew:i64.wrap ((i:Int)+1)=((i+1:Nat):Int):=by rw[fP (by omega) (by omega)];omega
  simp only[wO]at hw;unfold jL;rw[a18 BM];cases tg:decide (J.g.getD c.toNat 0>=0)
  .rw[a0U (by simp)];have tg':decide (J.g.getD (J.o.getD (i:Int).toNat 0).toNat 0>=0)=false:=by rw[Lr];exact tg
   by_cases hk:t∈x.k.map (·.1)
   .rw[a18 hk];have hF:qM X0 Qp 148 (Jr x.k) (.agg [.int .i64 t.a,.int .i64 t.b,.int .i64 t.c]) (.int .i64 (knS x.k t)):=Z5 hx.nd hk;have h1:dI X0 Qp (iD (N+2)) (.fn 126 [] pM) [.agg t.ps,.int .i64 (a:Int)] (HM1 J f u x) (.int .i64 (knS x.k t)) (HM1 J f u x):=
     fD gK (first:=[]) (cap:=pM) (.w lsk (.b t0 (.o ia (.o ig (.b tg' (.c (.int .i64 (knS x.k t)) [] hF (.b aiG .er)))))))
    exact dI.gs hX h1 [.mv 6,.mv 7] (by kernel_rfl)
   rw[a0U hk];have hm2:=WA hJ Gs q3 BM;have hF:oH X0 Qp 148 (Jr x.k) (.agg [.int .i64 t.a,.int .i64 t.b,.int .i64 t.c]):=kS.fresh (x:=t) (by simpa using hk);have is:gV (J.o.getD (i:Int).toNat 0) J.s.length:=by rw[Lr];exact qP
   have Zv:∀j,j<(J.s.getD c.toNat 0).toNat->j*wO J.s r'+wO J.s r'<=(J.s.getD c.toNat 0).toNat*wO J.s r':=fun j hj=>by have:(j+1)*wO J.s r'<=(J.s.getD c.toNat 0).toNat*wO J.s r':=a3X _ hj;rw[a4p]at this;omega
   let Q:Nat->Mk->Prop:=fun j y=>XOk J op y/\y.e.length<=x.e.length+j*wO J.s r'/\y.n.length+j<=x.n.length+j*wO J.s r'/\∀e∈y.k,e∈x.k\/Dp J (i+1) e.1
   have hq:∀j y,j<(J.s.getD c.toNat 0).toNat->Q j y->Q (j+1) (jL J op r' (bM J.D t c j) y).2:=fun j y hj hy=>by
    obtain⟨y1,y2,y3,y4⟩:=hy;have Zv:=Zv j hj;have h:=UA hJ op jr r' (i+1) (bM J.D t c j) y xI aQ (nS hJ Gs q3 ⟨by omega,by omega⟩) y1 (by omega) (by omega);have h3:=h.el;have h4:=h.nl;refine⟨h.ok,by rw[a4p];omega,by rw[a4p];omega,fun e he=>?_⟩;rcases h.ks e he with h5|h5
    .exact y4 e h5
    exact .inr h5
   have lp:=arQ (M:=N) (f:=f) (u:=u) hJ (op:=op) (r:=r') (t:=t) (c:=c) (a:=(i:Int)) x qP Q ⟨hx,by simp,by simp,fun e he=>.inl he⟩ hq (fun j hj k hk=>Le hJ q3 ⟨by omega,by omega⟩ hk) (fun j y hj hy=>by obtain⟨y1,y2,y3,y4⟩:=hy;have Zv:=Zv j hj;rw[ew];exact rc (i+1) (bM J.D t c j) y xI aQ (nS hJ Gs q3 ⟨by omega,by omega⟩) y1 (by unfold ah;omega) (by unfold ah;omega))
   have inv:=dB (g:=Wx J.D (jL J op r') t c) (m:=(J.s.getD c.toNat 0).toNat) (k:=0) (s:=([],x)) (fun j y=>Q j y.2) ⟨hx,by simp,by simp,fun e he=>.inl he⟩ (fun j y _ hj hy=>hq j y.2 (by omega) hy);rw[a3O]at inv;simp only[];generalize aT (Wx J.D (jL J op r') t c) (J.s.getD c.toNat 0).toNat 0 ([],x)=y at lp inv;obtain⟨ks,m⟩:=y;obtain⟨y1,y2,y3,y4⟩:=inv;have hnk:t∉m.k.map (·.1):=fun h=>by
    obtain⟨e,he,e2⟩:=a1z.1 h;rcases y4 e he with h1|h1
    .exact hk (a1z.2 ⟨e,h1,e2⟩)
    rw[e2]at h1;exact a0Z hJ Gs BM h1
   have hF2:oH X0 Qp 148 (Jr m.k) (.agg [.int .i64 t.a,.int .i64 t.b,.int .i64 t.c]):=kS.fresh (x:=t) (by simpa using hnk);have ek:Jr m.k++[(.agg t.ps,.int .i64 (m.n.length:Int))]=Jr (m.k++[(t,(m.n.length:Int))]):=by unfold Jr qc.es;rw[a4V,a4V];rfl
   have hF3:qM X0 Qp 148 (Jr m.k++[(.agg t.ps,.int .i64 (m.n.length:Int))]) (.agg [.int .i64 t.a,.int .i64 t.b,.int .i64 t.c]) (.int .i64 (m.n.length:Int)):=by
    refine(congrArg (fun l:List (PV aG×PV aG)=>qM X0 Qp 148 l (.agg [.int .i64 t.a,.int .i64 t.b,.int .i64 t.c]) (.int .i64 (m.n.length:Int))) ek).mpr ?_;refine kS.found (x:=t) ?_ ?_
    .rw[a8l,show((fun e:S3×PV X0.Γ=>e.1)∘fun e:S3×Int=>(e.1,(PV.int .i64 e.2:PV X0.Γ)))=fun e=>e.1 from rfl,a4V];exact Ep y1.nd hnk
    simp
   have hb:m.n.length+[(⟨c,ks⟩:Br)].length<=ah:=by simp only[a4O];have y3:m.n.length+(J.s.getD c.toNat 0).toNat<=x.n.length+(J.s.getD c.toNat 0).toNat*wO J.s r':=y3;unfold ah;omega
   have h1:dI X0 Qp (iD (N+2)) (.fn 126 [] pM) [.agg t.ps,.int .i64 (a:Int)] (HM1 J f u x) (.int .i64 (m.n.length:Int)) (amG J f u m t ⟨c,ks⟩):=by subst Lr;exact fD gK (first:=[]) (cap:=pM) (.w lsk (.b t0 (.o ia (.o ig (.b tg' (.q (.bool false) hF (.b aiC (.o is (.wG [.mv 6,.mv 7,.a4l 1 1 3] lp (.q (.bool false) (kS.ck t) (.o hF2 (.o hb (.c (.int .i64 (m.n.length:Int)) [] hF3 .er)))))))))))))
   have h2:=dI.gs hX h1 [.gc [8,12]] (v':=.int .i64 (m.n.length:Int)) (H2:=[.map (Jr m.k++[(.agg t.ps,.int .i64 (m.n.length:Int))]),.cells [lI J.s,lI J.o,.own 8,.own 9,.int .i64 0],.aF (J.ps (.fn f [] [.ptr 5 0 1])),.aF [.fn 126 [] pM],.aF [.map 0],.aF [.int .u8 u],.gone,.gone,Ry m.e,Rz (m.n++[⟨c,ks⟩])]) (by kernel_rfl);exact(congrArg (fun l:List (PV aG×PV aG)=>dI X0 Qp (iD (N+2)) (.fn 126 [] pM) [.agg t.ps,.int .i64 (a:Int)] (HM1 J f u x) (.int .i64 (m.n.length:Int)) [.map l,.cells [lI J.s,lI J.o,.own 8,.own 9,.int .i64 0],.aF (J.ps (.fn f [] [.ptr 5 0 1])),.aF [.fn 126 [] pM],.aF [.map 0],.aF [.int .u8 u],.gone,.gone,Ry m.e,Rz (m.n++[⟨c,ks⟩])]) ek).mp h2
  rw[a18 rfl];have tg':decide (J.g.getD (J.o.getD (i:Int).toNat 0).toNat 0>=0)=true:=by rw[Lr];exact tg
  have hg:0<=J.g.getD c.toNat 0:=by simpa using tg
  have haf:=L9 (M:=N) (f:=f) (a:=[]) (cc:=[.ptr 0 0 1]) (H:=[.aF [.int .u8 u]]) J t c (J.g.getD c.toNat 0) hJ.d3 (fun k hk=>Le hJ q3 ⟨hg,hJ.gv c qP hg⟩ hk);have h2:=rc (i+1) (bM J.D t c (J.g.getD c.toNat 0)) x xI aQ (nS hJ Gs q3 ⟨hg,hJ.gv c qP hg⟩) hx (by unfold ah;omega) (by unfold ah;omega);rw[<-ew]at h2;subst Lr;exact fD gK (first:=[]) (cap:=pM) (.w lsk (.b t0 (.o ia (.o ig (.b tg' (.fr [5] haf (.fr [0,1,2,3,4,5,6,7] h2 .er)))))))
theorem arR{N f:Nat}(u){J}(hJ:jH J){op}(jr:mY J op)(hs:∀m,N<=m->∀l,l.length=J.D.length->dI X0 Qp (iD m) (.fn f [] [.ptr 0 0 1]) [lV l] [.aF [.int .u8 u]] (.agg (op l).ps) [.aF [.int .u8 u]]):∀(F) (r),r.length<=F->ahw J op f u (N+F+2) r:=by
 intro F
 induction F with
 |zero=>
  intro r hF;refine aeU u hJ jr (hs _ (by omega)) r fun c r' h=>?_;have:=h.length_le;rw[a4T]at this;omega
 |succ F ih=>
  intro r hF;refine aeU (N:=N+F+1) u hJ jr (hs _ (by omega)) r fun c r' h=>ih r' ?_;have:=h.length_le;rw[a4T]at this;omega
end Go.Proofs.YtmobpoiejckagaaGreat
namespace Pv
open Go Tw
section
variable{X:ny}{P:LI1}
theorem dI.amH(hX:bW X P){call fv v xs H H0 H1}(gs)(hs:dI X P call fv xs H0 v H1)(hg:lW H.length gs (⟨[],[],H⟩:bT X.Γ)=some ⟨[],[],H0⟩):dI X P call fv xs H v H1:=by
 intro A m h tf rJ hr hf hx;obtain⟨m2,q1,q2,q3⟩:=nU hX hg A (fun b=>b∈aZ m) h.length m ⟨[],[],h,[]⟩ ⟨⟨hr,rfl,fun k c hk=>(by simp at hk),.nil⟩,fun b hb=>.inl hb,fun b hb=>(by cases hb),a1p _⟩;have up:Up m m2:=fun i mb hi=>q3 i mb (by rw[<-hr.len];exact(a0w.1 hi).1) hi;obtain⟨w,h',ws,m1,k1,k2,k3,k4,k5,k6⟩:=hs A m2 h tf rJ q1.st.heap (hf.step q2 up) (hx.step q2 up);refine⟨w,h',ws,m1,k1,k2,k3,q2.trans k4,fun i mb hi=>?_,fun b hb=>?_⟩
 .rcases up i mb hi with g|g
  .exact k5 i mb g
  rcases k5 i _ g with g|g<;>exact .inr g
 have hb:=k6 b hb;rcases q1.own b hb with g|g
 .exact g
 have:=q1.st.heap.inb hb;have:b<h.length:=this;omega
end
end Pv
namespace Go.Proofs.YtmobpoiejckagaaGreat
open Go Tw Pv bV
theorem Oi{n}(hO:Ok n Gl)(l:LI0)(hl:l.length<=ah):jf n (.fn 125 [] []) [.dw 3 l false] [] (lI l) []:=
 have h0:=nN.a8u hX (hO 125 [.dw 3 l false] (.own 0) (lsI l) [l.length<=ah] (by kernel_rfl) (afm.2 hl)) rfl rfl rfl rfl
 dI.cut hX (dI.fzR hX h0 [0] (v':=lI l) rfl (by decide)) rfl rfl rfl rfl
abbrev arS(J:Jb)(f:Nat)(x:Mk):List (PB aG):=[.map (Jr x.k),.cells [lI J.s,lI J.o,.own 7,.own 8,.int .i64 0],.cells (J.ps (.fn f [] [])),.cells [.fn 126 [] pM],.cells [.map 0],.gone,.gone,Ry x.e,Rz x.n]
theorem acj{m f:Nat}(hO:Ok m Gl)(J)(st:S3)(z:Int×Mk)(c1:dI X0 Qp (iD m) (.fn 125 [] []) [.dw 3 J.s false] [] (lI J.s) [])(c2:dI X0 Qp (iD m) (.fn 125 [] []) [.dw 3 J.o false] [] (lI J.o) [])(c3:dI X0 Qp (iD m) (.fn 130 [] []) [.agg (J.ps (.fn f [] []))] [] (.agg st.ps) [])(c5:dI X0 Qp (iD m) (.fn 126 [] pM) [.agg st.ps,.int .i64 (0:Int)] [.map [],.cells [lI J.s,lI J.o,.nil .aO,.nil .aO,.int .i64 0],.aF (J.ps (.fn f [] [])),.aF [.fn 126 [] pM],.aF [.map 0]] (.int .i64 z.1) (ac7 J f z.2))(hr:FI ⟨J.s,J.o,z.2.e,z.2.n,z.1⟩) (p1:J.s.length<=ah) (p2:J.o.length<=2^20) (p3:z.2.e.length<=ah) (p4:((bI ⟨J.s,J.o,z.2.e,z.2.n,z.1⟩).2 != 0)=false->ClP (bI ⟨J.s,J.o,z.2.e,z.2.n,z.1⟩).1) :dI X0 Qp (iD (m+1)) (.fn 80 [] []) [.agg (J.ps (.fn f [] []))] [] (dA.put (Am ⟨J.s,J.o,z.2.e,z.2.n,z.1⟩).1) []:=by
 obtain⟨v,e,n,k⟩:=z;have h0:dI X0 Qp (iD (m+1)) (.fn 80 [] []) [.agg (J.ps (.fn f [] []))] [] (dA.put (Am ⟨J.s,J.o,e,n,v⟩).1) ([]++[.cells (J.ps (.fn f [] [])),.cells [lI J.s,lI J.o,.own 7,.own 8,.int .i64 v],.map (Jr k),.cells [.map 2],.cells [.fn 126 [] [.ptr 0 0 5,.ptr 1 0 5,.ptr 4 0 1,.ptr 3 0 1]],.gone,.gone,.gone,.gone]):=
  fD hO (first:=[]) (cap:=[]) (.fr [] c1 (.fr [] c2 (.fr [] c3 (.PL (H2:=arS J f ⟨e,n,k⟩) [2,1,0,4,3] [2,3,4] c5 (.o hr (.o p1 (.o p2 (.o p3 (.o p4 .er)))))))))
 exact dI.cut hX h0 rfl rfl rfl rfl
theorem ahy{N f:Nat}{J}(hJ:jH J){op}(jr:mY J op)(hs:∀m,N<=m->∀l,l.length=J.D.length->dI X0 Qp (iD m) (.fn f [] []) [lV l] [] (.agg (op l).ps) [])(hO:∀m,N<=m->Ok m Gl){m}(hm:N+J.o.length+2<=m):dI X0 Qp (iD (m+1)) (.fn 80 [] []) [.agg (J.ps (.fn f [] []))] [] (dA.put (iL J op)) []:=by
 have hl:=hJ.bP.len;have RN:=(jH.o2 hJ).2.1;have hw:=Ho hJ.bP.sz hJ.ord;have hmn:=hJ.bP.many;have c1:=Oi (n:=m) (hO m (by omega)) J.s (by unfold ah;omega);have c2:=Oi (n:=m) (hO m (by omega)) J.o (by unfold ah;omega);obtain⟨m',rfl⟩:∃m',m=m'+1:=⟨m-1,by omega⟩;have c3:=a0Y (M:=m') (f:=f) (a:=[]) (cc:=[]) (H:=[]) J hJ.d3;have c4:=arP (N:=m'+1-J.o.length-2) (f:=f) hJ jr (fun m2 h2=>hs m2 (by omega)) J.o.length J.o (a1p _) 0 (fA J.D) ⟨[],[],[]⟩ aaU (a5S _) (fun k hk=>by rw[wX hJ.d3 hk];exact⟨(hJ.dg k hk).t.root,a5S _⟩) ⟨⟨fun i hi=>(by simp at hi),fun i hi=>(by simp at hi),fun i hi=>(by simp at hi)⟩,fun e he=>(by cases he),a6m,fun v hv=>(by cases hv),fun b hb=>(by cases hb)⟩ (by show 0+wO J.s J.o<=ah;unfold ah;omega) (by show 0+wO J.s J.o<=ah;unfold ah;omega)
 rw[show m'+1-J.o.length-2+J.o.length+2=m'+1 by omega]at c4;have c5:=dI.amH hX (H:=[.map [],.cells [lI J.s,lI J.o,.nil .aO,.nil .aO,.int .i64 0],.aF (J.ps (.fn f [] [])),.aF [.fn 126 [] pM],.aF [.map 0]]) [.Vu 1 2 39,.Vu 1 3 105] c4 (by kernel_rfl);obtain⟨h1,h2,h3⟩:=wY hJ jr;have hr:=a9e hJ jr;have h4:(bI (kF J op)).2=0:=by rw[(Jt hJ jr).1]
 have h5:=yh hr (by unfold ah;omega) (by show J.s.length<=ah;unfold ah;omega) (by show J.o.length<=ah;unfold ah;omega) h4;have p1:J.s.length<=ah:=by unfold ah;omega
 have p2:J.o.length<=2^20:=by omega
 have p3:(kF J op).aK.length<=ah:=by unfold ah;omega
 have p4:((bI (kF J op)).2 != 0)=false->ClP (bI (kF J op)).1:=fun _=>by rw[h5.1];exact h5.2
 exact acj (hO (m'+1) (by omega)) J (fA J.D) (jL J op J.o (fA J.D) ⟨[],[],[]⟩) c1 c2 c3 c5 hr p1 p2 p3 p4
abbrev arT(J:Jb)(f:Nat)(u:Int)(x:Mk):List (PB aG):=[.map (Jr x.k),.cells [lI J.s,lI J.o,.own 8,.own 9,.int .i64 0],.cells (J.ps (.fn f [] [.ptr 5 0 1])),.cells [.fn 126 [] pM],.cells [.map 0],.aF [.int .u8 u],.gone,.gone,Ry x.e,Rz x.n]
theorem acn{m f:Nat}(u)(hO:Ok m Gl)(J)(st:S3)(z:Int×Mk)(c1:dI X0 Qp (iD m) (.fn 125 [] []) [.dw 3 J.s false] [] (lI J.s) [])(c2:dI X0 Qp (iD m) (.fn 125 [] []) [.dw 3 J.o false] [] (lI J.o) [])(c3:dI X0 Qp (iD m) (.fn 130 [] []) [.agg (J.ps (.fn f [] [.ptr 0 0 1]))] [.aF [.int .u8 u]] (.agg st.ps) [.aF [.int .u8 u]])(c5:dI X0 Qp (iD m) (.fn 126 [] pM) [.agg st.ps,.int .i64 (0:Int)] [.map [],.cells [lI J.s,lI J.o,.nil .aO,.nil .aO,.int .i64 0],.aF (J.ps (.fn f [] [.ptr 5 0 1])),.aF [.fn 126 [] pM],.aF [.map 0],.aF [.int .u8 u]] (.int .i64 z.1) (ac8 J f u z.2))(hr:FI ⟨J.s,J.o,z.2.e,z.2.n,z.1⟩) (p1:J.s.length<=ah) (p2:J.o.length<=2^20) (p3:z.2.e.length<=ah) (p4:((bI ⟨J.s,J.o,z.2.e,z.2.n,z.1⟩).2 != 0)=false->ClP (bI ⟨J.s,J.o,z.2.e,z.2.n,z.1⟩).1) :dI X0 Qp (iD (m+1)) (.fn 80 [] []) [.agg (J.ps (.fn f [] [.ptr 0 0 1]))] [.aF [.int .u8 u]] (dA.put (Am ⟨J.s,J.o,z.2.e,z.2.n,z.1⟩).1) [.aF [.int .u8 u]]:=by
 obtain⟨v,e,n,k⟩:=z;have h0:dI X0 Qp (iD (m+1)) (.fn 80 [] []) [.agg (J.ps (.fn f [] [.ptr 0 0 1]))] [.aF [.int .u8 u]] (dA.put (Am ⟨J.s,J.o,e,n,v⟩).1) ([.aF [.int .u8 u]]++[.cells (J.ps (.fn f [] [.ptr 0 0 1])),.cells [lI J.s,lI J.o,.own 8,.own 9,.int .i64 v],.map (Jr k),.cells [.map 3],.cells [.fn 126 [] [.ptr 1 0 5,.ptr 2 0 5,.ptr 5 0 1,.ptr 4 0 1]],.gone,.gone,.gone,.gone]):=
  fD hO (first:=[]) (cap:=[]) (.fr [] c1 (.fr [] c2 (.fr [0] c3 (.PL (H2:=arT J f u ⟨e,n,k⟩) [3,2,1,5,4,0] [2,3,4] c5 (.o hr (.o p1 (.o p2 (.o p3 (.o p4 .er)))))))))
 exact dI.cut hX h0 rfl rfl rfl rfl
theorem ahz{N f:Nat}(u){J}(hJ:jH J){op}(jr:mY J op)(hs:∀m,N<=m->∀l,l.length=J.D.length->dI X0 Qp (iD m) (.fn f [] [.ptr 0 0 1]) [lV l] [.aF [.int .u8 u]] (.agg (op l).ps) [.aF [.int .u8 u]])(hO:∀m,N<=m->Ok m Gl){m}(hm:N+J.o.length+2<=m):dI X0 Qp (iD (m+1)) (.fn 80 [] []) [.agg (J.ps (.fn f [] [.ptr 0 0 1]))] [.aF [.int .u8 u]] (dA.put (iL J op)) [.aF [.int .u8 u]]:=by
 have hl:=hJ.bP.len;have RN:=(jH.o2 hJ).2.1;have hw:=Ho hJ.bP.sz hJ.ord;have hmn:=hJ.bP.many;have c1:=Oi (n:=m) (hO m (by omega)) J.s (by unfold ah;omega);have c2:=Oi (n:=m) (hO m (by omega)) J.o (by unfold ah;omega);obtain⟨m',rfl⟩:∃m',m=m'+1:=⟨m-1,by omega⟩;have c3:=a0Y (M:=m') (f:=f) (a:=[]) (cc:=[.ptr 0 0 1]) (H:=[.aF [.int .u8 u]]) J hJ.d3;have c4:=arR (N:=m'+1-J.o.length-2) (f:=f) u hJ jr (fun m2 h2=>hs m2 (by omega)) J.o.length J.o (a1p _) 0 (fA J.D) ⟨[],[],[]⟩ aaU (a5S _) (fun k hk=>by rw[wX hJ.d3 hk];exact⟨(hJ.dg k hk).t.root,a5S _⟩) ⟨⟨fun i hi=>(by simp at hi),fun i hi=>(by simp at hi),fun i hi=>(by simp at hi)⟩,fun e he=>(by cases he),a6m,fun v hv=>(by cases hv),fun b hb=>(by cases hb)⟩ (by show 0+wO J.s J.o<=ah;unfold ah;omega) (by show 0+wO J.s J.o<=ah;unfold ah;omega)
 rw[show m'+1-J.o.length-2+J.o.length+2=m'+1 by omega]at c4;have c5:=dI.amH hX (H:=[.map [],.cells [lI J.s,lI J.o,.nil .aO,.nil .aO,.int .i64 0],.aF (J.ps (.fn f [] [.ptr 5 0 1])),.aF [.fn 126 [] pM],.aF [.map 0],.aF [.int .u8 u]]) [.Vu 1 2 39,.Vu 1 3 105] c4 (by kernel_rfl);obtain⟨h1,h2,h3⟩:=wY hJ jr;have hr:=a9e hJ jr;have h4:(bI (kF J op)).2=0:=by rw[(Jt hJ jr).1]
 have h5:=yh hr (by unfold ah;omega) (by show J.s.length<=ah;unfold ah;omega) (by show J.o.length<=ah;unfold ah;omega) h4;have p1:J.s.length<=ah:=by unfold ah;omega
 have p2:J.o.length<=2^20:=by omega
 have p3:(kF J op).aK.length<=ah:=by unfold ah;omega
 have p4:((bI (kF J op)).2 != 0)=false->ClP (bI (kF J op)).1:=fun _=>by rw[h5.1];exact h5.2
 exact acn u (hO (m'+1) (by omega)) J (fA J.D) (jL J op J.o (fA J.D) ⟨[],[],[]⟩) c1 c2 c3 c5 hr p1 p2 p3 p4
open Go Tw Pv bV
theorem amI(x):Instr.sameBits 10000 (kV.v x) (kV.v x)=true:=by show Instr.sameBits 10000 (.agg #[.int .u8 x.f,.int .i64 x.n]) (.agg #[.int .u8 x.f,.int .i64 x.n])=true;simp[Instr.sameBits]
theorem a9k(x):Instr.sameBits 10000 (kS.v x) (kS.v x)=true:=by show Instr.sameBits 10000 (.agg #[.int .i64 x.a,.int .i64 x.b,.int .i64 x.c]) (.agg #[.int .i64 x.a,.int .i64 x.b,.int .i64 x.c])=true;simp[Instr.sameBits]
abbrev dP:V:=⟨0,1⟩
def amJ:fV aG:=bU 79 (a1 vsA) vA (fun p=>p.getD 0 V0) (fun p=>[0<p.length]) Gl
theorem arU:Gd amJ:=QX.add fun n hO p hp=>aN hO (.o (aH (hp _ iC)) .rr)
def amK:fV aG:=bU 89 agl vA (fun p=>dP) np amJ
theorem arV:Gd amK:=arU.add fun n hO p hp=>aN hO .rr
def a9l:fV aG:=bU 169 (a1 vA) tA (fun p=>decide (p=dP)) np amK
theorem amL:Gd a9l:=arV.add fun n hO p hp=>aN hO (.q (.bool (decide (p=dP))) (eqV (.tmp 3) (.tmp 4) p dP) .rr)
def oN(l:List V):Bool:=l.all fun v=>decide (v=dP)
def gZ(l:List V):V:=if oN l=true then dP else V0
theorem arW{n}(hO:Ok n a9l)(l)(hl:l.length<=ah):jf (n+4) (.fn 168 [] []) [.fn 169 [] [],lV l] [] (tA.put (oN l)) []:=by
 have hs:∀v:V,jf n (.fn 169 [] []) [.agg v.ps] [] (tA.put (decide (v=dP))) []:=fun v=>nN.YV hX (first:=[]) (cap:=[]) (hO 169 [.agg v.ps] (tA.put (decide (v=dP))) [] [] (by kernel_rfl) (fun p h=>by cases h)) rfl rfl rfl rfl;have h1:∀v:V,jf (n+1) (.fn 201 [] [.ptr 0 0 1]) [.agg v.ps] [.cells [.fn 169 [] []]] (tA.put (!(decide (v=dP)))) [.cells [.fn 169 [] []]]:=fun v=>
  jF gK (first:=[]) (.fr [] (hs v) .sr)
 have h2:=agQ (n:=n+2) (by omega) (f:=201) (a:=[]) (c:=[.ptr 0 0 1]) (H:=[.cells [.fn 169 [] []]]) (g:=fun v=>!(decide (v=dP))) h1 l hl;rw[KN]at h2;unfold oN;rw[<-F9 l fun v=>decide (v=dP)];exact dI.drop hX (DW hX gK (first:=[]) (cap:=[]) (H1:=[.cells [.fn 169 [] []]]) (by kernel_rfl) (.k h2 .sr)) rfl rfl
def ru:fV aG:=bU 117 (a1 vsA) vA gZ (fun l=>[l.length<=ah]) a9l
theorem Gm:Gd ru:=amL.deep 4 fun n hn hO l hp=>by have hs:=arW (n:=n-4) (hO (n-4) (by omega)) l (hp _ iC);rw[show n-4+4=n by omega]at hs;show nN X0 Qp _ _ _ (vA.put (gZ l)) _;unfold gZ;exact aN (hO n (by omega)) (.fr [] hs (.ss .rr .rr))
abbrev Z7:Code:=(Uf Qp 87).body
abbrev SA:Code:=(Uf Qp 136).body
abbrev a9m(J:Jb)(f:Nat):List (Nat×PE aG):=[(2,.val (.nil .map)),(3,.val (.ptr 2 0 1)),(8,.val (.fn 136 [.agg (J.ps (.fn f [] []))] []))]
abbrev LRC(J:Jb)(f:Nat)(rd:Bool)(jU:Option Code):PB aG:=.loop rd 87 (D9 Qp 87) (a9m J f) [9,10] (xX Qp 87) (BF Qp 87) jU
abbrev HQc(J:Jb)(f:Nat)(t:List (V×Int)):List (PB aG):=[.cells (J.ps (.fn f [] [])),.map (kV.im t),.cells [.map 1]]
abbrev SB(J:Jb)(f:Nat)(rd:Bool)(jU:Option Code)(t:List (V×Int)):List (PB aG):=HQc J f t++[.mark,LRC J f rd jU]
theorem a9n(l):decide (gZ l=dP)=oN l:=by unfold gZ;cases oN l<;>decide
def yT(l:List V)(w:Int)(t:List (V×Int)):List (V×Int):=if oN (l.drop 1)=true then uf t (l.getD 0 V0) w else t
structure Tal(t:List (V×Int)):Prop where
 nd:(t.map (·.1)).Nodup
 pos:∀e∈t,0<e.2
 bnd:∀e∈t,e.2<=2000
theorem arY{n}(hO:Ok n ru)(J f){t}(ht:Tal t)(l){w}(h0:0<l.length)(hl:l.length<=ah)(hw:0<w/\w<=2000):jf (n+1) (.l9 4) [lV l,.int .i64 w] (SB J f true none t) (.bool true) (SB J f true none (yT l w t)):=by
 have q1:dR X0 Qp T (iD n) LL 87 true (D9 Qp 87) 5 (xX Qp 87) ⟨uY (a9m J f) [9,10] [lV l,.int .i64 w],[],SB J f true none t⟩ .norm ⟨[(3,.val (.ptr 2 0 1)),(4,.val (lV l)),(5,.val (.int .i64 w))],[],SB J f true none t⟩:=yY hX hO (by kernel_rfl) .xx;have i0:gV 0 l.length:=aH h0;have a1:(1:Int)<=l.length:=by omega
 have e1:(l.take l.length)=l:=ady;have c1:decide (gZ ((l.take ((l.length:Int).toNat)).drop (1:Int).toNat)=dP)=oN (l.drop 1):=by rw[a9n];simp
 have a2:((l.take ((l.length:Int).toNat)).drop (1:Int).toNat).length<=ah:=by simp;omega
 have ev:=eqV (.tmp 13) (.tmp 14) (gZ ((l.take ((l.length:Int).toNat)).drop (1:Int).toNat)) dP;have z01:(0:Int)<=1:=by decide
 have z02:(l.length:Int)<=(l.length:Int):=aa7 _;unfold yT;cases hc:oN (l.drop 1)
 .rw[hc]at c1;rw[a0U (by simp)];have q2:dR X0 Qp T (iD n) LL 87 true (D9 Qp 87) 5 (BF Qp 87) ⟨[(3,.val (.ptr 2 0 1)),(4,.val (lV l)),(5,.val (.int .i64 w))],[],SB J f false none t⟩ .norm ⟨[(3,.val (.ptr 2 0 1)),(4,.val (lV l)),(5,.val (.int .i64 w)),(15,xl false)],[],SB J f false none t⟩:=
   yY hX hO (by kernel_rfl) (.o z01 (.o a1 (.o z02 (.o a2 (.q (.bool (decide (gZ ((l.take ((l.length:Int).toNat)).drop (1:Int).toNat)=dP))) ev (.b c1 .xx))))))
  exact J3 hX (l:=4) rfl rfl (by kernel_rfl) q1 rfl q2 rfl
 rw[hc]at c1;rw[a18 rfl];by_cases hk:l.getD 0 V0∈t.map (·.1)
 .obtain⟨j,old,g1,g2,g3,g4⟩:=kV.WE (amI _) ht.nd hk (n:=w) fun e he=>fP (by have:=ht.pos e he;omega) (by have:=ht.bnd e he;omega);have q2:dR X0 Qp T (iD n) LL 87 true (D9 Qp 87) 5 (BF Qp 87) ⟨[(3,.val (.ptr 2 0 1)),(4,.val (lV l)),(5,.val (.int .i64 w))],[],SB J f false none t⟩ .norm ⟨[],[],[.cells (J.ps (.fn f [] [])),.map (Kt (kV.im t) j (.int .i64 (i64.wrap (old+w)))),.cells [.map 1],.mark,LRC J f false none]⟩:=
   yY hX hO (by kernel_rfl) (.o z01 (.o a1 (.o z02 (.o a2 (.q (.bool (decide (gZ ((l.take ((l.length:Int).toNat)).drop (1:Int).toNat)=dP))) ev (.b c1 (.o i0 (.c (.int .i64 old) [] g1 (.a (.call (.int .i64 old) []) (.a (.ix j) (.o g2 (.o g3 .xx))))))))))))
  rw[g4]at q2;exact J3 hX (l:=4) rfl rfl (by kernel_rfl) q1 rfl q2 rfl
 obtain⟨g1,g2,g3,g4⟩:=kV.WG hk (n:=w) (by rw[Int.zero_add];exact fP (by omega) (by omega));have q2:dR X0 Qp T (iD n) LL 87 true (D9 Qp 87) 5 (BF Qp 87) ⟨[(3,.val (.ptr 2 0 1)),(4,.val (lV l)),(5,.val (.int .i64 w))],[],SB J f false none t⟩ .norm ⟨[],[],[.cells (J.ps (.fn f [] [])),.map (Kt (kV.im t++[(.agg (l.getD 0 V0).ps,.int .i64 0)]) (kV.im t).length (.int .i64 (i64.wrap (0+w)))),.cells [.map 1],.mark,LRC J f false none]⟩:=
  yY hX hO (by kernel_rfl) (.o z01 (.o a1 (.o z02 (.o a2 (.q (.bool (decide (gZ ((l.take ((l.length:Int).toNat)).drop (1:Int).toNat)=dP))) ev (.b c1 (.o i0 (.q (.bool false) g1 (.a .calm (.o (kV.ck (l.getD 0 V0)) (.o g1 (.o g2 (.o g3 .xx)))))))))))))
 have g4:Kt (kV.im t++[(.agg (l.getD 0 V0).ps,.int .i64 0)]) (kV.im t).length (.int .i64 (i64.wrap (0+w)))=kV.im (uf t (l.getD 0 V0) w):=g4;rw[g4]at q2;exact J3 hX (l:=4) rfl rfl (by kernel_rfl) q1 rfl q2 rfl
open Go Tw Pv bV
abbrev HN(J:Jb)(f:Nat)(t:List (V×Int))(now:List (S3×Int)):List (PB aG):=SB J f true none t++[.map (kS.im now)]
abbrev bLB:Code:=eU (eU (eX (eU (eX (eX SA)))))
abbrev bB1:Code:=eU (eU (eX (eX bLB)))
abbrev bIB:Code:=eU (eU (eX (eU (eX (eX bB1)))))
abbrev bX:Code:=eU (eX (eX bIB))
abbrev bL2:Code:=eU (eU (eX (eX (eX (eX SA)))))
abbrev bX2:Code:=eU (eX (eX bL2))
abbrev a5m(J:Jb)(c:Int)(a:Int):List (Nat×PE aG):=[(1,.val (.l9 4)),(2,.loc 0 0),(6,xi c),(7,.val (.map 6)),(21,xL 3 J.o),(22,xi J.o.length),(23,xi a),(29,.val (.iter 7))]
abbrev HI(J:Jb)(f:Nat)(t:List (V×Int))(now next:List (S3×Int))(seen:List Nat):List (PB aG):=HN J f t now++[.map (kS.im next),.dh 5 now.length seen]
structure NI(J:Jb)(a:Nat)(m:List (S3×Int)):Prop where
 nd:(m.map (·.1)).Nodup
 pos:∀e∈m,0<e.2
 dp:∀e∈m,Dp J a e.1
theorem NI.add{J a m}(h:NI J a m){s n}(hs:Dp J a s)(hn:0<n):NI J a (uf m s n):=
 ⟨H7 h.nd s n,Qn hn h.pos,fun e he=>by
  rcases a7W he with e1|⟨e',h1,h2⟩
  .rw[e1];exact hs
  .rw[<-h2];exact h.dp e' h1⟩
theorem BU{κ}[DecidableEq κ](q):∀m:List (κ×Int),dL (fun _=>q) m=dL (fun _=>1) m*q
 | []=>by simp[dL]
 |e::m=>by simp only[dL,BU q m,aiy,adf]
theorem Ju{κ}[DecidableEq κ]:∀{m:List (κ×Int)},(∀e∈m,0<e.2)->0<=dL (fun _=>1) m/\∀e∈m,e.2<=dL (fun _=>1) m
 | [],_=>⟨aa7 _,fun e he=>by cases he⟩
 |x::m,h=>by
  obtain⟨h1,h2⟩:=Ju (m:=m) fun e he=>h e (by simp[he]);have h0:=h x (by simp);simp only[dL,adf];refine⟨by omega,fun e he=>?_⟩;rcases a1G.1 he with rfl|he
  .omega
  have:=h2 e he;omega
theorem a9p{κ}[DecidableEq κ]{m:List (κ×Int)}{q:Nat}(hp:∀e∈m,0<e.2)(hq:1<=q)(hs:dL (fun _=>(q:Int)) m<=2000):∀e∈m,e.2<=2000:=fun e he=>by
 obtain⟨h1,h2⟩:=Ju hp;rw[BU]at hs;have h3:=h2 e he;have:dL (fun _=>1) m<=dL (fun _=>1) m*(q:Int):=by have:=a9L (show(1:Int)<=q by omega) h1;omega
 omega
theorem Z8{J}(r m):dL (yH J (fun _=>1) r) m=dL (fun _=>(AB J r:Int)) m:=by
 induction m with
 |nil=>rfl
 |cons e m ih=>simp only[dL,ih,Fg]
theorem Fq{J a r m}(h:NI J a m)(hq:1<=AB J r){s:S3}{n b}(hn:0<n)(hs:dL (fun _=>(AB J r:Int)) m+n*(AB J r:Int)<=b)(hb:b<=2000):n<=2000/\(∀e∈m,e.2<=2000)/\∀e∈m,i64.wrap (e.2+n)=e.2+n:=by
 obtain⟨h1,h2⟩:=Ju h.pos;have h3:0<=dL (fun _=>(AB J r:Int)) m:=by rw[BU];exact afU h1 (by omega)
 have h4:n<=n*(AB J r:Int):=by have:=a9L (show(1:Int)<=AB J r by omega) (show 0<=n by omega);omega
 have h5:0<=n*(AB J r:Int):=by omega
 have h6:=a9p h.pos hq (show dL (fun _=>(AB J r:Int)) m<=2000 by omega);refine⟨by omega,h6,fun e he=>?_⟩;have:=h6 e he;have:=h.pos e he;exact fP (by omega) (by omega)
theorem a3p{now}{j:Nat}{st w}(h:now[j]? = some (st,w)):(kS.im now).length=now.length/\(kS.im now)[j]? = some (.agg st.ps,.int .i64 w):=by refine⟨kS.qy now,?_⟩;rw[kS.BQ,h];rfl
section
variable{n:Nat}{J:Jb}(hJ:jH J){f:Nat}(t:List (V×Int))(now:List (S3×Int))(seen:List Nat){a:Nat}{c:Int}{r:LI0}{st:S3}{w:Int}{j:Nat}
abbrev sX(J:Jb)(f:Nat)(t:List (V×Int))(now next:List (S3×Int))(c:Int)(a:Int)(st:S3)(w:Int)(js:List Nat):bT aG:=⟨jB (T.iJ 136 7) ((31,.val (.bool true))::(30,.val (.dK [.bool true,.agg st.ps,.int .i64 w]))::a5m J c a),[J.ps (.fn f [] [])],HI J f t now next js⟩
abbrev sZ(J:Jb)(f:Nat)(t:List (V×Int))(now next:List (S3×Int))(c:Int)(a:Int)(st:S3)(js:List Nat):bT aG:=⟨a5m J c a,[J.ps (.fn f [] []),st.ps],HI J f t now next js⟩
abbrev wDi(J:Jb)(f:Nat)(t:List (V×Int))(now:List (S3×Int))(c:Int)(a:Int)(st:S3)(w:Int)(js:List Nat)(next:List (S3×Int))(i:Int)(x:List (Nat×PE aG)):bT aG:=⟨[(1,.val (.l9 4)),(2,.loc 0 0),(6,xi c),(7,.val (.map 6)),(8,.loc 1 0),(9,xi w),(21,xL 3 J.o),(22,xi J.o.length),(23,xi a),(29,.val (.iter 7)),(75,xi (J.s.getD c.toNat 0)),(76,xi i)]++x,[J.ps (.fn f [] []),st.ps],HI J f t now next js⟩
include hJ
theorem lDi(hr:J.o.drop a=c::r)(hd:Dp J a st)(hw:0<w){next:List (S3×Int)}(hN:NI J (a+1) next)(hg:¬decide (J.g.getD c.toNat 0>=0)=true)(hb:dL (fun _=>(AB J r:Int)) next+w*(AB J (c::r):Int)<=2000)(js:List Nat) :∃next',NI J (a+1) next'/\(∀ψ,dL (yH J ψ r) next'=dL (yH J ψ r) next+w*yH J ψ (c::r) st) /\Ob (n+1) 136 2 5 (wDi J f t now c a st w js next 0 []) (.exit 5) (wDi J f t now c a st w js next' ((J.s.getD c.toNat 0).toNat:Nat) [(77,xl false)]):=by
 obtain⟨aQ,hoc,xI,FH,hci,qP⟩:=jH.at_ hJ hr;have hz:=hJ.bP.sz _ (dF (s:=J.s) (k:=c.toNat) (by have:=qP.1;have:=qP.2;omega));have hri:∀c'∈r,gV c' J.s.length:=fun c' h=>(jH.o2 hJ).2.2 c' (by rw[<-xI]at h;exact a5X h);have hq:=(Lm hJ hri).1;have nV:(AB J (c::r):Int)=((J.s.getD c.toNat 0).toNat:Int)*(AB J r:Int):=by
  have:(BO J c).length=(J.s.getD c.toNat 0).toNat:=by unfold BO;rw[a0U hg];simp
  rw[AB,this,afi]
 let g:Nat->List (S3×Int)->List (S3×Int):=fun k y=>uf y (bM J.D st c k) w
 have inv:=dB (g:=g) (m:=(J.s.getD c.toNat 0).toNat) (k:=0) (s:=next) (fun k y=>NI J (a+1) y/\∀ψ,dL (yH J ψ r) y=dL (yH J ψ r) next+w*eF (fun(j:Nat)=>yH J ψ r (bM J.D st c j)) (List.range k)) ⟨hN,fun ψ=>by simp[eF]⟩ (fun k y _ hk hy=>by obtain⟨h1,h2⟩:=hy;refine⟨h1.add (nS hJ hr hd ⟨by omega,by omega⟩) hw,fun ψ=>?_⟩;show dL (yH J ψ r) (uf y _ w)=_;rw[Ad,h2 ψ,aeE,Ja,Int.mul_add];simp only[eF,Int.add_zero];omega)
 rw[a3O]at inv;refine⟨_,inv.1,fun ψ=>by rw[inv.2 ψ,ace hg],?_⟩;have bound:∀k y,k<(J.s.getD c.toNat 0).toNat->(∀ψ,dL (yH J ψ r) y=dL (yH J ψ r) next+w*eF (fun(j:Nat)=>yH J ψ r (bM J.D st c j)) (List.range k))->dL (fun _=>(AB J r:Int)) y+w*(AB J r:Int)<=2000:=fun k y hk hy=>by have h1:=hy fun _=>1;rw[Z8,Z8,qQ (φ':=fun _=>(AB J r:Int)) (fun _ _=>Fg r _),BP,a6w]at h1;rw[h1];rw[nV]at hb;have h2:((k:Int)+1)*(AB J r:Int)<=((J.s.getD c.toNat 0).toNat:Int)*(AB J r:Int):=ab1 (by omega) (by omega);have h3:=a9L h2 (show 0<=w by omega);rw[aiy,Int.mul_add,Int.one_mul]at h3;omega
 refine wK (σ:=List (S3×Int)) (N:=(J.s.getD c.toNat 0).toNat) (g:=g) (s0:=next) (st:=fun i y=>wDi J f t now c a st w js y i []) (fin:=fun y=>wDi J f t now c a st w js y (((J.s.getD c.toNat 0).toNat:Nat):Int) [(77,xl false)]) (fun k y=>NI J (a+1) y/\∀ψ,dL (yH J ψ r) y=dL (yH J ψ r) next+w*eF (fun(j:Nat)=>yH J ψ r (bM J.D st c j)) (List.range k)) (by kernel_rfl) (by unfold ah;omega) ⟨hN,fun ψ=>by simp[eF]⟩ (fun k y hk hy=>?_) (fun k y hk hy m e p g9=>?_) (fun y _=>?_)
 .obtain⟨h1,h2⟩:=hy;refine⟨h1.add (nS hJ hr hd ⟨by omega,by omega⟩) hw,fun ψ=>?_⟩;show dL (yH J ψ r) (uf y _ w)=_;rw[Ad,h2 ψ,aeE,Ja,Int.mul_add];simp only[eF,Int.add_zero];omega
 .obtain⟨h1,h2⟩:=hy;obtain⟨b1,b2,b3⟩:=Fq h1 hq (s:=bM J.D st c k) hw (bound k y hk h2) (aa7 _);have t1:decide ((k:Int)<J.s.getD c.toNat 0)=true:=by rw[a1F];omega
  have ha:=L9 (M:=n) (f:=f) (a:=[]) (cc:=[]) (H:=[]) J st c k hJ.d3 fun i hi=>Le hJ hd ⟨by omega,by omega⟩ hi;have g9:dO X0 Qp T (iD (n+1)) LL 136 false _ 5 _ m (wDi J f t now c a st w js (uf y (bM J.D st c k) w) _ []) e p:=g9;by_cases hk:bM J.D st c k∈y.map (·.1)
  .obtain⟨jj,old,g1,g2,g3,g4⟩:=kS.WE (a9k _) h1.nd hk (n:=w) b3;unfold wDi HI at g9;rw[<-g4]at g9;exact aP gK (.b t1 (.fr [] ha (.c (.int .i64 old) [] g1 (.a (.call (.int .i64 old) []) (.a (.ix jj) (.o g2 (.o g3 (.go g9))))))))
  .obtain⟨g1,g2,g3,g4⟩:=kS.WG hk (n:=w) (by rw[Int.zero_add];exact fP (by omega) (by omega));unfold wDi HI at g9;rw[<-g4]at g9;exact aP gK (.b t1 (.fr [] ha (.q (.bool false) g1 (.a .calm (.o (kS.ck (bM J.D st c k)) (.o g1 (.o g2 (.o g3 (.go g9)))))))))
 .have t1:decide ((((J.s.getD c.toNat 0).toNat:Nat):Int)<J.s.getD c.toNat 0)=false:=by rw[a3L];omega
  exact aP gK (.b t1 .ex)
end
open Go Tw Pv bV
abbrev sH(J:Jb)(f:Nat)(t:List (V×Int))(now next:List (S3×Int))(c:Int)(a:Int)(js:List Nat):bT aG:=⟨a5m J c a,[J.ps (.fn f [] [])],HI J f t now next js⟩
section
variable{n:Nat}{J:Jb}(hJ:jH J){f:Nat}(t:List (V×Int))(now:List (S3×Int))(seen:List Nat){a:Nat}{c:Int}{r:LI0}{st:S3}{w:Int}{j:Nat}
include hJ
theorem amM(hr:J.o.drop a=c::r)(hd:Dp J a st)(hw:0<w){next}(hN:NI J (a+1) next)(hj:now[j]? = some (st,w))(hb:dL (fun _=>(AB J r:Int)) next+w*(AB J (c::r):Int)<=2000) :∃next' e s',NI J (a+1) next'/\(∀ψ,dL (yH J ψ r) next'=dL (yH J ψ r) next+w*yH J ψ (c::r) st)/\(e=.norm\/e=.exit 3) /\dR X0 Qp T (iD (n+1)) LL 136 false (D9 Qp 136) 5 bX (sX J f t now next c a st w (j::seen)) e s' /\iq X0 (T.eY 136 (dW bIB)) s'=sH J f t now next' c a (j::seen):=by
 obtain⟨aQ,hoc,xI,FH,hci,qP⟩:=jH.at_ hJ hr;have hz:=hJ.bP.sz _ (dF (s:=J.s) (k:=c.toNat) (by have:=qP.1;have:=qP.2;omega));have hri:∀c'∈r,gV c' J.s.length:=fun c' h=>(jH.o2 hJ).2.2 c' (by rw[<-xI]at h;exact a5X h);have hq:=(Lm hJ hri).1;have hcG:gV c J.g.length:=by rw[hJ.gl];exact qP
 have ho:=a3p hj;by_cases hg:decide (J.g.getD c.toNat 0>=0)=true
 .have hl1:(AB J (c::r):Int)=AB J r:=by rw[AB,BO,a18 hg];simp
  rw[hl1]at hb;have hgv:0<=J.g.getD c.toNat 0:=by simpa using hg
  have hd2:=nS hJ hr hd ⟨hgv,hJ.gv c qP hgv⟩;obtain⟨b1,b2,b3⟩:=Fq hN hq (s:=st) hw hb (aa7 _);have ha:=L9 (M:=n) (f:=f) (a:=[]) (cc:=[]) (H:=[]) J st c (J.g.getD c.toNat 0) hJ.d3 fun i hi=>Le hJ hd ⟨hgv,hJ.gv c qP hgv⟩ hi;refine⟨uf next (bM J.D st c (J.g.getD c.toNat 0)) w,.exit 3,sZ J f t now (uf next (bM J.D st c (J.g.getD c.toNat 0)) w) c a st (j::seen),hN.add hd2 hw,fun ψ=>by rw[Ad,a5j hg],.inr rfl,?_,by kernel_rfl⟩;unfold sZ HI;by_cases hk:bM J.D st c (J.g.getD c.toNat 0)∈next.map (·.1)
  .obtain⟨jj,old,g1,g2,g3,g4⟩:=kS.WE (a9k _) hN.nd hk (n:=w) b3;rw[<-g4];exact Ae hX gK (by kernel_rfl) (.c (.dK [.agg st.ps,.int .i64 w]) [] ho (.o qP (.o hcG (.b hg (.fr [] ha (.c (.int .i64 old) [] g1 (.a (.call (.int .i64 old) []) (.a (.ix jj) (.o g2 (.o g3 (.r rfl)))))))))))
  .obtain⟨g1,g2,g3,g4⟩:=kS.WG hk (n:=w) (by rw[Int.zero_add];exact fP (by omega) (by omega));rw[<-g4];exact Ae hX gK (by kernel_rfl) (.c (.dK [.agg st.ps,.int .i64 w]) [] ho (.o qP (.o hcG (.b hg (.fr [] ha (.q (.bool false) g1 (.a .calm (.o (kS.ck (bM J.D st c (J.g.getD c.toNat 0))) (.o g1 (.o g2 (.o g3 (.r rfl))))))))))))
 have hg':decide (J.g.getD c.toNat 0>=0)=false:=by simpa using hg
 have qX:((J.s.getD c.toNat 0).toNat:Int)=J.s.getD c.toNat 0:=by omega
 have nV:(AB J (c::r):Int)=J.s.getD c.toNat 0*(AB J r:Int):=by
  have:(BO J c).length=(J.s.getD c.toNat 0).toNat:=by unfold BO;rw[a0U hg];simp
  rw[AB,this,afi,qX]
 have hs:=a99 (M:=n) (f:=f) (a:=[]) (cc:=[]) (H:=[]) J st c hJ.d3 (fun k hk h=>⟨by simpa using h,(hd k hk).1.1⟩);cases BM:kE J.D st c
 .rw[BM]at hs;have hd2:=Wy hJ hr hd BM;have hm:0<w*J.s.getD c.toNat 0:=Int.mul_pos hw (by omega);rw[nV,<-Int.mul_assoc]at hb;obtain⟨b1,b2,b3⟩:=Fq hN hq (s:=st) hm hb (aa7 _);have hwm:i64.wrap (w*J.s.getD c.toNat 0)=w*J.s.getD c.toNat 0:=fP (by omega) (by omega);refine⟨uf next st (w*J.s.getD c.toNat 0),.exit 3,sZ J f t now (uf next st (w*J.s.getD c.toNat 0)) c a st (j::seen),hN.add hd2 hm,fun ψ=>by rw[Ad,ahq hg BM,qX,Int.mul_assoc],.inr rfl,?_,by kernel_rfl⟩;unfold sZ HI;by_cases hk:st∈next.map (·.1)
  .obtain⟨jj,old,g1,g2,g3,g4⟩:=kS.WE (a9k _) hN.nd hk (n:=w*J.s.getD c.toNat 0) b3;rw[<-g4,<-hwm];exact Ae hX gK (by kernel_rfl) (.c (.dK [.agg st.ps,.int .i64 w]) [] ho (.o qP (.o hcG (.b hg' (.fr [] hs (.b aiK (.c (.int .i64 old) [] g1 (.a (.call (.int .i64 old) []) (.a (.ix jj) (.o g2 (.o g3 (.r rfl))))))))))))
  .obtain⟨g1,g2,g3,g4⟩:=kS.WG hk (n:=w*J.s.getD c.toNat 0) (by rw[Int.zero_add];exact hwm);rw[<-g4,<-hwm];exact Ae hX gK (by kernel_rfl) (.c (.dK [.agg st.ps,.int .i64 w]) [] ho (.o qP (.o hcG (.b hg' (.fr [] hs (.b aiK (.q (.bool false) g1 (.a .calm (.o (kS.ck st) (.o g1 (.o g2 (.o g3 (.r rfl)))))))))))))
 .rw[BM]at hs;obtain⟨next',h1,h2,h3⟩:=lDi (n:=n) hJ (f:=f) t now hr hd hw hN hg hb (j::seen);refine⟨next',.norm,_,h1,h2,.inl rfl,Ae (ps1:=wDi J f t now c a st w (j::seen) next' ((J.s.getD c.toNat 0).toNat:Nat) [(77,xl false)]) hX gK (by kernel_rfl) (.c (.dK [.agg st.ps,.int .i64 w]) [] ho (.o qP (.o hcG (.b hg' (.fr [] hs (.b aiJ (.w h3 (.r rfl)))))))),by kernel_rfl⟩
end
end Go.Proofs.YtmobpoiejckagaaGreat
namespace Pv
open Go Tw
section
variable{X:ny}{P:LI1}{T:vw}{call:dN}{cd:xJ}{L f nt B:Nat}
theorem aJ.BX{a b ps s1 Q}(hn:oO a=true)(ha:dR X P T call L f false nt B a ps .norm s1)(hb:aJ X P T call cd L f nt B b s1 Q):aJ X P T call cd L f nt B (.seq a b) ps Q:=
 aJ.seq (R:=fun e s=>e=.norm/\s=s1) (dR.dem hn ha ⟨rfl,rfl⟩) (fun s h=>by obtain⟨_,rfl⟩:=h;exact hb) (fun i s h=>by cases h.1) (fun s h=>by cases h.1)
theorem aJ.step{c ps e ps1 Q}(hn:oO c=true)(ha:dR X P T call L f false nt B c ps e ps1)(hq:Q e ps1):aJ X P T call cd L f nt B c ps Q:=dR.dem hn ha hq
end
end Pv
namespace Go.Proofs.YtmobpoiejckagaaGreat
open Go Tw Pv bV
theorem MZ{α}[DecidableEq α](φ:α->Int)(p):∀l,eF φ l=eF φ (l.filter p)+eF φ (l.filter fun a=>!p a)
 | []=>rfl
 |a::l=>by
  rw[eF,MZ φ p l];cases h:p a
  .rw[adz (by simp[h]),adD (by simp[h]),eF];omega
  rw[adD h,adz (by simp[h]),eF];omega
theorem WJ{α}[DecidableEq α]{φ:α->Int}:∀{l},(∀a∈l,0<=φ a)->0<=eF φ l
 | [],_=>aa7 _
 |a::l,h=>by have:=WJ (l:=l) fun b hb=>h b (by simp[hb]);have:=h a (by simp);rw[eF];omega
theorem Ls{n l}(hn:l.Nodup)(hl:∀j∈l,j<n):((List.range n).filter fun j=>l.contains j).Perm l:=
 (a7t (List.nodup_range.filter _) hn).2 fun j=>by rw[a7y,a5D,List.contains_iff_mem];exact⟨fun h=>h.2,fun h=>⟨hl j h,h⟩⟩
theorem WL{n φ l}(hn:l.Nodup)(hl:∀j∈l,j<n)(hp:∀j,j<n->0<=φ j):eF φ l<=eF φ (List.range n):=by rw[MZ φ (fun j=>l.contains j) (List.range n),KI φ (Ls hn hl)];have:=WJ (φ:=φ) (l:=(List.range n).filter fun j=>!l.contains j) fun j hj=>hp j (a5D.1 (a7y.1 hj).1);omega
theorem QZ{n φ l}(hn:l.Nodup)(hl:∀j∈l,j<n)(ha:∀j,j<n->j∈l):eF φ l=eF φ (List.range n):=
 (KI φ ((a7t afb hn).2 fun j=>⟨fun h=>ha j (a5D.1 h),fun h=>a5D.2 (hl j h)⟩)).symm
abbrev nowAt(now:List (S3×Int))(j:Nat):S3×Int:=now.getD j (⟨0,0,0⟩,0)
theorem Jv{φ}(now):eF (fun j=>(nowAt now j).2*φ (nowAt now j).1) (List.range now.length)=dL φ now:=by
 have h1:dL φ now=eF (fun e:S3×Int=>e.2*φ e.1) now:=by
  induction now with
  |nil=>rfl
  |cons e m ih=>simp only[dL,eF,ih]
 have h2:now=(List.range now.length).map fun j=>nowAt now j:=by refine(pW (d:=(⟨⟨0,0,0⟩,0⟩:S3×Int)) (by simp)).2 fun k hk=>?_;simp[List.getD,hk]
 rw[h1]
 conv=>rhs;rw[h2]
 rw[Ap]
theorem Z9{now j e}(h:now[j]? = some e):nowAt now j=e/\j<now.length/\e∈now:=by obtain⟨h1,h2⟩:=a0w.1 h;exact⟨by simp[nowAt,List.getD,h],h1,h2▸a5K h1⟩
section
variable{n:Nat}{J:Jb}(hJ:jH J){f:Nat}(t:List (V×Int))(now:List (S3×Int)){a:Nat}{c:Int}{r:LI0}
def InS(J:Jb)(f:Nat)(t:List (V×Int))(now:List (S3×Int))(a:Nat)(c:Int)(r:LI0)(seen:List Nat)(s:bT aG):Prop:=
 seen.Nodup/\(∀j∈seen,j<now.length)/\∃next,NI J (a+1) next/\(∀ψ,dL (yH J ψ r) next=eF (fun j=>(nowAt now j).2*yH J ψ (c::r) (nowAt now j).1) seen)/\iq X0 (T.eY 136 (dW bIB)) s=sH J f t now next c a seen
structure zi(J:Jb)(a:Nat)(now:List (S3×Int)):Prop where
 i:NI J a now
 s:∀ψ,dL (yH J ψ (J.o.drop a)) now=yH J ψ J.o (fA J.D)
include hJ
theorem ahB:(AB J J.o:Int)<=2000:=by have h1:=(Lm hJ (jH.o2 hJ).2.2).2;have hw:=Ho hJ.bP.sz hJ.ord;have hm:=hJ.bP.many;omega
theorem Oj(h:zi J a now):dL (fun _=>(AB J (J.o.drop a):Int)) now<=2000:=by have:=h.s fun _=>1;rw[Z8,Fg]at this;have:=ahB hJ;omega
theorem Za(a:Nat):1<=AB J (J.o.drop a):=(Lm hJ fun c hc=>(jH.o2 hJ).2.2 c (a5X hc)).1
theorem a3q(h:zi J a now):now.length<=2000/\∀e∈now,e.2<=2000:=by
 have h1:=a9p h.i.pos (Za hJ a) (Oj hJ now h);obtain⟨h2,h3⟩:=Ju h.i.pos;have h4:=Oj hJ now h;rw[BU]at h4;have h5:=a9L (show(1:Int)<=AB J (J.o.drop a) by have:=Za hJ a;omega) h2;have h6:∀{m:List (S3×Int)},(∀e∈m,0<e.2)->(m.length:Int)<=dL (fun _=>1) m:=by
  intro m
  induction m with
  |nil=>intro _;exact aa7 _
  |cons e m ih=>
   intro hp;have:=ih fun e he=>hp e (by simp[he]);have:=hp e (by simp);simp only[dL,a4T,adf];omega
 have:=h6 h.i.pos;exact⟨by omega,h1⟩
set_option maxRecDepth 20000 in
theorem inLoop(hr:J.o.drop a=c::r)(h:zi J a now):aJ X0 Qp T (iD (n+1)) DC LL 136 (D9 Qp 136) 5 (.block 2 (.loop bIB)) (sH J f t now [] c a []) fun e s=>e=.norm/\∃next seen,NI J (a+1) next/\(∀ψ,dL (yH J ψ r) next=dL (yH J ψ (c::r)) now)/\s={ sH J f t now next c a seen with env:=jB (T.iJ 136 7) ((31,.val (.bool false))::(30,.val (.dK [.bool false]))::a5m J c a) }:=by
 have e0:bIB=.seq (.region 7 (a8a (eU bIB)) false) (.seq (.cond (.tmp 31) .skip (.exit 2)) (.block 3 bX)):=by kernel_rfl
 rw[e0];have hlen:=a3q hJ now h;have hlL:(kS.im now).length=now.length:=kS.qy now;have hql:=(Lm hJ (r:=c::r) fun c' hc=>(jH.o2 hJ).2.2 c' (by rw[<-hr]at hc;exact a5X hc)).1;refine VU hX (n:=now.length) (b:=7) (r:=5) (it:=29) (nx:=30) (mo:=31) (es:=kS.im now) (fun seen s=>InS J f t now a c r seen s) (by kernel_rfl) (a7v (by kernel_rfl)) (a7v (by kernel_rfl)) hlL (by unfold LL;omega)
  ⟨a6m,(fun j hj=>(by cases hj)),[],⟨a6m,(fun e he=>(by cases he)),(fun e he=>(by cases he))⟩,(fun ψ=>rfl),(by kernel_rfl)⟩ (fun seen s hi=>?_)
 obtain⟨jG,aQ,next,h1,h2,h3⟩:=hi;rw[<-e0];refine⟨_,h3,by kernel_rfl,by kernel_rfl,by kernel_rfl,fun ho=>⟨by kernel_rfl,next,seen,h1,fun ψ=>?_,rfl⟩,fun j e hj he=>⟨by kernel_rfl,?_⟩⟩
 .rw[h2,QZ jG aQ ho,Jv]
 .rw[kS.BQ,a0z]at he;obtain⟨⟨st,w⟩,tX,rfl⟩:=he;obtain⟨q1,q2,q3⟩:=Z9 tX;have Ht:(j::seen).Nodup:=a5I.2 ⟨hj,jG⟩;have FM:∀k∈j::seen,k<now.length:=fun k hk=>by
   rcases a1G.1 hk with rfl|hk
   .exact q2
   .exact aQ k hk
  have hb:dL (fun _=>(AB J r:Int)) next+w*(AB J (c::r):Int)<=2000:=by
   have e1:=h2 fun _=>1;rw[Z8]at e1;have e2:=WL (φ:=fun j=>(nowAt now j).2*yH J (fun _=>1) (c::r) (nowAt now j).1) Ht FM fun k hk=>by have:=h.i.pos _ (bQ (d:=(⟨⟨0,0,0⟩,0⟩:S3×Int)) hk);rw[Fg];exact afU (afu this) (Int.natCast_nonneg _)
   rw[Jv,eF,q1]at e2;have e3:=Oj hJ now h;rw[hr]at e3;rw[Z8]at e2;have e4:yH J (fun _=>1) (c::r) st=(AB J (c::r):Int):=Fg _ _;simp only[e4]at e2;omega
  obtain⟨next',e',s',g1,g2,g3,g4,g5⟩:=amM (n:=n) hJ (f:=f) t now seen (st:=st) (w:=w) (j:=j) hr (h.i.dp _ q3) (h.i.pos _ q3) h1 tX hb;refine aJ.step (by kernel_rfl) g4 ⟨g3,Ht,FM,next',g1,fun ψ=>?_,g5⟩;rw[g2,h2,eF,q1,ai6]
end
open Go Tw Pv bV
abbrev amO(J:Jb)(a:Int)(x:List (Nat×PE aG)):List (Nat×PE aG):=[(1,.val (.l9 4)),(2,.loc 0 0),(4,.val (.map 5)),(21,xL 3 J.o),(22,xi J.o.length),(23,xi a)]++x
abbrev WM(J:Jb)(f:Nat)(t:List (V×Int))(now:List (S3×Int))(a:Int)(x:List (Nat×PE aG)):bT aG:=⟨amO J a x,[J.ps (.fn f [] [])],HN J f t now⟩
abbrev ntE:Nat:=D9 Qp 136
abbrev ExE(n:Nat)(c:Code)(s:bT aG)(e:Ex)(s':bT aG):Prop:=dR X0 Qp T (iD (n+1)) LL 136 false ntE 5 c s e s'
abbrev ExD(n:Nat)(c:Code)(s:bT aG)(Q:Ex->bT aG->Prop):Prop:=aJ X0 Qp T (iD (n+1)) DC LL 136 ntE 5 c s Q
section
variable{n:Nat}{J:Jb}(hJ:jH J){f:Nat}(t:List (V×Int)){now:List (S3×Int)}{a:Nat}
include hJ
set_option maxRecDepth 20000 in
theorem ahC(h:zi J a now)(aQ:a<J.o.length):ExD n bLB (WM J f t now a []) fun e s=>e=.norm/\∃Lu,zi J (a+1) Lu/\lW 5 [.gc [6]] (iq X0 (T.eY 136 (dW bLB)) s)=some (WM J f t Lu ((a+1:Nat):Int) []):=by
 have hr:J.o.drop a=J.o.getD a 0::J.o.drop (a+1):=by rw[a6u aQ];simp[List.getD,a0N aQ]
 have RN:J.o.length<=6:=by rw[(jH.o2 hJ).2.1];exact hJ.bP.len
 have t1:decide ((a:Int)<(J.o.length:Int))=true:=bD aQ;have e0:bLB=.seq (eU bLB) (.seq (.cond (.tmp 24) .skip (.exit 0)) (.seq (.block 1 bB1) (eX (eX (eX bLB))))):=by kernel_rfl
 have e1:bB1=.seq (eU bB1) (.seq (eU (eX bB1)) (.seq (.seq (eU (eU (eX (eX bB1)))) (.block 2 (.loop bIB))) (eX (eX (eX bB1))))):=by kernel_rfl
 have x3:ExE n (eU bLB) (WM J f t now a []) .norm (WM J f t now a [(24,.val (.bool (decide ((a:Int)<(J.o.length:Int)))))]):=Ae hX gK (by kernel_rfl) (.r rfl);have hc:Az (WM J f t now a [(24,.val (.bool (decide ((a:Int)<(J.o.length:Int)))))]).env (.tmp 24)=some (.bool true):=by rw[<-t1];kernel_rfl
 have i1:gV (a:Int) J.o.length:=aH aQ;have x4:ExE n (eU bB1) (WM J f t now a [(24,.val (.bool (decide ((a:Int)<(J.o.length:Int)))))]) .norm ⟨[(1,.val (.l9 4)),(2,.loc 0 0),(4,.val (.map 5)),(6,xi (J.o.getD a 0)),(21,xL 3 J.o),(22,xi J.o.length),(23,xi a)],[J.ps (.fn f [] [])],HN J f t now⟩:=Ae hX gK (by kernel_rfl) (.o i1 (.r rfl));have x5:ExE n (eU (eX bB1)) ⟨[(1,.val (.l9 4)),(2,.loc 0 0),(4,.val (.map 5)),(6,xi (J.o.getD a 0)),(21,xL 3 J.o),(22,xi J.o.length),(23,xi a)],[J.ps (.fn f [] [])],HN J f t now⟩ .norm ⟨[(1,.val (.l9 4)),(2,.loc 0 0),(4,.val (.map 5)),(6,xi (J.o.getD a 0)),(7,.val (.map 6)),(21,xL 3 J.o),(22,xi J.o.length),(23,xi a)],[J.ps (.fn f [] [])],HN J f t now++[.map []]⟩:=Ae hX gK (by kernel_rfl) (.r rfl);have x6:ExE n (eU (eU (eX (eX bB1)))) ⟨[(1,.val (.l9 4)),(2,.loc 0 0),(4,.val (.map 5)),(6,xi (J.o.getD a 0)),(7,.val (.map 6)),(21,xL 3 J.o),(22,xi J.o.length),(23,xi a)],[J.ps (.fn f [] [])],HN J f t now++[.map []]⟩ .norm ⟨a5m J (J.o.getD a 0) a,[J.ps (.fn f [] [])],HN J f t now++[.map (kS.im []),.dh 5 (kS.im now).length []]⟩:=Ae hX gK (by kernel_rfl) (.r rfl);rw[kS.qy now]at x6;rw[e0];refine aJ.BX (by kernel_rfl) x3 (aJ.seq (R:=fun e s=>e=.norm/\s=WM J f t now a [(24,.val (.bool (decide ((a:Int)<(J.o.length:Int)))))]) (aJ.cond (t:=true) hc (aJ.step (by kernel_rfl) (Ae hX gK (an:=.n) (by kernel_rfl) (.r rfl)) ⟨rfl,rfl⟩)) (fun s hs=>?_) (fun i s h=>by cases h.1) (fun s h=>by cases h.1));obtain⟨_,rfl⟩:=hs;refine aJ.seq (R:=fun e s=>e=.norm/\∃next seen,zi J (a+1) next/\s=⟨[(1,.val (.l9 4)),(2,.loc 0 0),(4,.val (.map 6)),(21,xL 3 J.o),(22,xi J.o.length),(23,xi a)],[J.ps (.fn f [] [])],HI J f t now next seen⟩) ?_ (fun s hs=>?_) (fun i s h=>by cases h.1) (fun s h=>by cases h.1)
 .refine aJ.block ?_;rw[e1];refine(aJ.BX (by kernel_rfl) x4 (aJ.BX (by kernel_rfl) x5 (aJ.seq (R:=fun e s=>e=.norm/\∃next seen,NI J (a+1) next/\(∀ψ,dL (yH J ψ (J.o.drop (a+1))) next=dL (yH J ψ (J.o.getD a 0::J.o.drop (a+1))) now)/\s={ sH J f t now next (J.o.getD a 0) a seen with env:=jB (T.iJ 136 7) ((31,.val (.bool false))::(30,.val (.dK [.bool false]))::a5m J (J.o.getD a 0) a) }) (Q:=fun e s=>e=.norm/\∃next seen,zi J (a+1) next/\s=⟨[(1,.val (.l9 4)),(2,.loc 0 0),(4,.val (.map 6)),(21,xL 3 J.o),(22,xi J.o.length),(23,xi a)],[J.ps (.fn f [] [])],HI J f t now next seen⟩) (aJ.BX (by kernel_rfl) x6 (inLoop (n:=n) hJ t now hr h)) (fun s hs=>?_) (fun i s h=>by cases h.1) (fun s h=>by cases h.1)))).mono fun e s h=>?_
  .obtain⟨_,next,seen,g1,g2,rfl⟩:=hs;refine aJ.step (by kernel_rfl) (Ae (ps1:=⟨[(1,.val (.l9 4)),(2,.loc 0 0),(4,.val (.map 6)),(21,xL 3 J.o),(22,xi J.o.length),(23,xi a)],[J.ps (.fn f [] [])],HI J f t now next seen⟩) hX gK (an:=.n) (by kernel_rfl) (.r rfl)) ⟨rfl,next,seen,⟨g1,fun ψ=>?_⟩,rfl⟩;rw[g2,<-hr,h.s]
  obtain⟨rfl,h2⟩:=h;exact⟨rfl,h2⟩
 obtain⟨_,next,seen,g1,rfl⟩:=hs;refine aJ.step (by kernel_rfl) (Ae (ps1:=⟨[(1,.val (.l9 4)),(2,.loc 0 0),(4,.val (.map 6)),(21,xL 3 J.o),(22,xi J.o.length),(23,xi (i64.wrap ((a:Int)+1)))],[J.ps (.fn f [] [])],HI J f t now next seen⟩) hX gK (an:=.n) (by kernel_rfl) (.r rfl)) ⟨rfl,next,g1,?_⟩;rw[yX (by unfold ah;omega)]
 kernel_rfl
set_option maxRecDepth 20000 in
theorem a9q:ExD n bLB (WM J f t now J.o.length []) fun e s=>e=.exit 0/\s=WM J f t now J.o.length [(24,.val (.bool (decide ((J.o.length:Int)<(J.o.length:Int)))))]:=by
 have t1:decide ((J.o.length:Int)<(J.o.length:Int))=false:=fC _;have e0:bLB=.seq (eU bLB) (.seq (.cond (.tmp 24) .skip (.exit 0)) (.seq (.block 1 bB1) (eX (eX (eX bLB))))):=by kernel_rfl
 have x3:ExE n (eU bLB) (WM J f t now J.o.length []) .norm (WM J f t now J.o.length [(24,.val (.bool (decide ((J.o.length:Int)<(J.o.length:Int)))))]):=Ae hX gK (by kernel_rfl) (.r rfl);have hc:Az (WM J f t now J.o.length [(24,.val (.bool (decide ((J.o.length:Int)<(J.o.length:Int)))))]).env (.tmp 24)=some (.bool false):=by rw[<-t1];kernel_rfl
 rw[e0];refine aJ.BX (by kernel_rfl) x3 (aJ.seq (R:=fun e s=>e=.exit 0/\s=WM J f t now J.o.length [(24,.val (.bool (decide ((J.o.length:Int)<(J.o.length:Int)))))]) (aJ.cond (t:=false) hc (aJ.step (by kernel_rfl) (Ae hX gK (an:=.n) (by kernel_rfl) (.r rfl)) ⟨rfl,rfl⟩)) (fun s hs=>by cases hs.1) (fun i s h=>h) (fun s h=>by cases h.1))
set_option maxRecDepth 20000 in
theorem acp(h:zi J 0 now):ExD n (.block 0 (.loop bLB)) (WM J f t now 0 []) fun e s=>e=.norm/\∃Lu,zi J J.o.length Lu/\s=WM J f t Lu J.o.length [(24,.val (.bool (decide ((J.o.length:Int)<(J.o.length:Int)))))]:=by
 have RN:J.o.length<=6:=by rw[(jH.o2 hJ).2.1];exact hJ.bP.len
 refine aJ.block ?_;refine aJ.loop (fun k s=>∃a Lu gs,a+k=J.o.length/\zi J a Lu/\lW 5 gs (iq X0 (T.eY 136 (dW bLB)) s)=some (WM J f t Lu (a:Int) [])) (fun k s hi=>?_) (k:=J.o.length) ⟨0,now,[],by omega,h,by kernel_rfl⟩ (by unfold LL;omega);obtain⟨a,Lu,gs,hk,h1,h2⟩:=hi;refine aJ.ghost hX h2 ?_;rcases a5l a J.o.length with aQ|CS
 .refine(ahC (n:=n) hJ t h1 aQ).mono fun e s h3=>?_;obtain⟨rfl,as7,h4,h5⟩:=h3;exact⟨k-1,by omega,a+1,as7,_,by omega,h4,h5⟩
 have:a=J.o.length:=by omega
 subst this;refine(a9q (n:=n) hJ t).mono fun e s h3=>?_;obtain⟨rfl,rfl⟩:=h3;dsimp only;rw[a18 rfl];exact⟨rfl,Lu,h1,rfl⟩
end
open Go Tw Pv bV
def Zb(φ:V->Int)(l:List V):Int:=if oN (l.drop 1)=true then φ (l.getD 0 V0)else 0
theorem ahD(φ l w t):dL φ (yT l w t)=dL φ t+w*Zb φ l:=by
 unfold yT Zb;cases oN (l.drop 1)
 .rw[a0U (by simp),a0U (by simp)];omega
 rw[a18 rfl,a18 rfl,Ad]
abbrev sH2(J:Jb)(f:Nat)(t:List (V×Int))(now:List (S3×Int))(seen:List Nat):bT aG:=⟨[(1,.val (.l9 4)),(2,.loc 0 0),(94,.val (.iter 6))],[J.ps (.fn f [] [])],SB J f true none t++[.map (kS.im now),.dh 5 now.length seen]⟩
structure a19(t:List (V×Int)):Prop where
 nd:(t.map (·.1)).Nodup
 pos:∀e∈t,0<e.2
theorem a19.y{t}(h:a19 t)(l){w}(hw:0<w):a19 (yT l w t):=by
 unfold yT;split
 .exact⟨H7 h.nd _ _,Qn hw h.pos⟩
 exact h
section
variable{n:Nat}{J:Jb}(hJ:jH J){f:Nat}{now:List (S3×Int)}
def as8(J:Jb)(f:Nat)(now:List (S3×Int))(seen:List Nat)(s:bT aG):Prop:=
 seen.Nodup/\(∀j∈seen,j<now.length)/\∃t,a19 t/\(∀φ,dL φ t=eF (fun j=>(nowAt now j).2*Zb φ (aX J.D (nowAt now j).1)) seen)/\iq X0 (T.eY 136 (dW bL2)) s=sH2 J f t now seen
theorem amP(l):0<=Zb (fun _=>1) l/\Zb (fun _=>1) l<=1:=by unfold Zb;split<;>simp
include hJ
theorem ahE(h:zi J J.o.length now){seen:List Nat}(jG:seen.Nodup)(aQ:∀j∈seen,j<now.length){t:List (V×Int)}(ht:a19 t)(hs:∀φ,dL φ t=eF (fun j=>(nowAt now j).2*Zb φ (aX J.D (nowAt now j).1)) seen):Tal t:=by
 refine⟨ht.nd,ht.pos,fun e he=>?_⟩;have h1:=(Ju ht.pos).2 e he;have hp:∀j,j<now.length->0<(nowAt now j).2:=fun k hk=>h.i.pos _ (bQ (d:=(⟨⟨0,0,0⟩,0⟩:S3×Int)) hk);have h2:=WL (φ:=fun j=>(nowAt now j).2*Zb (fun _=>1) (aX J.D (nowAt now j).1)) jG aQ fun k hk=>afU (afu (hp k hk)) (amP _).1;have h3:eF (fun j=>(nowAt now j).2*Zb (fun _=>1) (aX J.D (nowAt now j).1)) (List.range now.length)<=eF (fun j=>(nowAt now j).2*1) (List.range now.length):=by
  have:∀l:List Nat,(∀j∈l,j<now.length)->eF (fun j=>(nowAt now j).2*Zb (fun _=>1) (aX J.D (nowAt now j).1)) l<=eF (fun j=>(nowAt now j).2*1) l:=by
   intro l
   induction l with
   |nil=>intro _;exact aa7 _
   |cons j l ih=>
    intro hl;have:=ih fun k hk=>hl k (by simp[hk]);have:=a9L (amP (aX J.D (nowAt now j).1)).2 (afu (hp j (hl j (by simp))));simp only[eF];omega
  exact this _ fun j hj=>a5D.1 hj
 rw[Jv (φ:=fun _=>1)]at h3;have h4:=Oj hJ now h;rw[List.drop_length]at h4;have h4:dL (fun _=>1) now<=2000:=h4;rw[<-hs]at h2;omega
set_option maxRecDepth 20000 in
theorem a5n(hO:Ok n ru)(h:zi J J.o.length now)(hD:0<J.D.length):aJ X0 Qp T (iD (n+1)) DC LL 136 ntE 5 (.block 7 (.loop bL2)) (sH2 J f [] now []) fun e s=>e=.norm/\∃t seen,a19 t/\(∀φ,dL φ t=dL (fun st=>Zb φ (aX J.D st)) now)/\s={ sH2 J f t now seen with env:=jB (T.iJ 136 23) ((96,.val (.bool false))::(95,.val (.dK [.bool false]))::(sH2 J f t now seen).env) }:=by
 have e0:bL2=.seq (.region 23 (a8a (eU bL2)) false) (.seq (.cond (.tmp 96) .skip (.exit 7)) (.block 8 bX2)):=by kernel_rfl
 rw[e0];have hlen:=a3q hJ now h;refine VU hX (n:=now.length) (b:=6) (r:=5) (it:=94) (nx:=95) (mo:=96) (es:=kS.im now) (fun seen s=>as8 J f now seen s) (by kernel_rfl) (a7v (by kernel_rfl)) (a7v (by kernel_rfl)) (kS.qy now) (by unfold LL;omega)
  ⟨a6m,(fun j hj=>(by cases hj)),[],⟨a6m,(fun e he=>(by cases he))⟩,(fun φ=>rfl),(by kernel_rfl)⟩ (fun seen s hi=>?_)
 obtain⟨jG,aQ,t,h1,h2,h3⟩:=hi;rw[<-e0];refine⟨_,h3,by kernel_rfl,by kernel_rfl,by kernel_rfl,fun ho=>⟨by kernel_rfl,t,seen,h1,fun φ=>?_,rfl⟩,fun j e hj he=>⟨by kernel_rfl,?_⟩⟩
 .rw[h2,QZ jG aQ ho,Jv (φ:=fun st=>Zb φ (aX J.D st))]
 .rw[kS.BQ,a0z]at he;obtain⟨⟨st,w⟩,tX,rfl⟩:=he;obtain⟨q1,q2,q3⟩:=Z9 tX;have Ht:(j::seen).Nodup:=a5I.2 ⟨hj,jG⟩;have FM:∀k∈j::seen,k<now.length:=fun k hk=>by
   rcases a1G.1 hk with rfl|hk
   .exact q2
   .exact aQ k hk
  have ho:=a3p tX;have nV:(aX J.D st).length=J.D.length:=by simp[aX]
  have hw:=h.i.pos _ q3;have hc:=a3j (M:=n) (f:=f) J st hJ.d3 fun k hk=>(Lh hJ (h.i.dp _ q3) hk).2;have hd3:=hJ.d3;have hy:=arY (n:=n) hO J f (ahE hJ h jG aQ h1 h2) (aX J.D st) (w:=w) (by omega) (by unfold ah;omega) ⟨hw,hlen.2 _ q3⟩;refine aJ.step (e:=.norm) (by kernel_rfl) (Ae (ps1:=⟨[(1,.val (.l9 4)),(2,.loc 0 0),(94,.val (.iter 6)),(106,xl false)],[J.ps (.fn f [] []),st.ps],SB J f true none (yT (aX J.D st) w t)++[.map (kS.im now),.dh 5 now.length (j::seen)]⟩) hX gK (by kernel_rfl) (.c (.dK [.agg st.ps,.int .i64 w]) [] ho (.fr [] hc (.fr [0,1,2,3,4] hy (.b aiJ (.r rfl)))))) ⟨.inl rfl,Ht,FM,yT (aX J.D st) w t,h1.y _ hw,fun φ=>?_,by kernel_rfl⟩;rw[ahD,h2,eF,q1,ai6]
def a9r(J:Jb)(t:List (V×Int)):Prop:=a19 t/\∀φ,dL φ t=eF (fun q=>Zb φ (J.D.map fun d=>mW d q)) (YZ J)
omit hJ in
theorem a5o(hJ:jH J):zi J 0 [(fA J.D,1)]:=by
 refine⟨⟨by simp,fun e he=>?_,fun e he=>?_⟩,fun ψ=>?_⟩
 .rw[a2p.1 he];show(0:Int)<1;decide
 .rw[a2p.1 he];exact Z4 hJ
 simp[dL]
set_option maxRecDepth 20000 in
theorem amQ(hO:Ok n ru)(hD:0<J.D.length):abr X0 Qp (vW Qp T (iD (n+1)) LL) (.fn 136 [.agg (J.ps (.fn f [] []))] []) [.l9 4] (SB J f true none []) fun v H1=>∃(t:List (V×Int)) (G:List (PB aG)),a9r J t/\H1=SB J f true none t++G:=by
 refine a2G (t:=Uf Qp 136) hX (by kernel_rfl) ?_;have e0:(Uf Qp 136).body=.seq (eU SA) (.seq (eU (eX SA)) (.seq (.seq (eU (eU (eX (eX SA)))) (.block 0 (.loop bLB))) (.seq (eU (eX (eX (eX SA)))) (.block 7 (.loop bL2))))):=by kernel_rfl
 rw[e0];have hs:=a0Y (M:=n) (f:=f) (a:=[]) (cc:=[]) (H:=[]) J hJ.d3;have hf:oH X0 Qp 148 (kS.es []) (kS.tv (fA J.D)):=kS.fresh (x:=fA J.D) (by simp);have x0:ExE n (eU SA) ⟨lM X0 0 [.agg (J.ps (.fn f [] [])),.l9 4],[],SB J f true none []⟩ .norm ⟨[(1,.val (.l9 4)),(2,.loc 0 0)],[J.ps (.fn f [] [])],SB J f true none []⟩:=Ae hX gK (an:=.n) (by kernel_rfl) (.r rfl);have x1:ExE n (eU (eX SA)) ⟨[(1,.val (.l9 4)),(2,.loc 0 0)],[J.ps (.fn f [] [])],SB J f true none []⟩ .norm ⟨[(1,.val (.l9 4)),(2,.loc 0 0),(4,.val (.map 5))],[J.ps (.fn f [] [])],HN J f [] [(fA J.D,1)]⟩:=Ae hX gK (by kernel_rfl) (.fr [] hs (.q (.bool false) (kS.ck (fA J.D)) (.o hf (.r rfl))));have x2:ExE n (eU (eU (eX (eX SA)))) ⟨[(1,.val (.l9 4)),(2,.loc 0 0),(4,.val (.map 5))],[J.ps (.fn f [] [])],HN J f [] [(fA J.D,1)]⟩ .norm (WM J f [] [(fA J.D,1)] 0 []):=Ae hX gK (an:=.n) (by kernel_rfl) (.r rfl);refine aJ.BX (by kernel_rfl) x0 (aJ.BX (by kernel_rfl) x1 (aJ.seq (R:=fun e s=>e=.norm/\∃Lu,zi J J.o.length Lu/\s=WM J f [] Lu J.o.length [(24,.val (.bool (decide ((J.o.length:Int)<(J.o.length:Int)))))]) (aJ.BX (by kernel_rfl) x2 (acp (n:=n) hJ [] (a5o hJ))) (fun s h=>?_) (fun i s h=>by cases h.1) (fun s h=>by cases h.1)));obtain⟨_,now,h1,rfl⟩:=h;have x3:ExE n (eU (eX (eX (eX SA)))) (WM J f [] now J.o.length [(24,.val (.bool (decide ((J.o.length:Int)<(J.o.length:Int)))))]) .norm ⟨[(1,.val (.l9 4)),(2,.loc 0 0),(94,.val (.iter 6))],[J.ps (.fn f [] [])],SB J f true none []++[.map (kS.im now),.dh 5 (kS.im now).length []]⟩:=Ae hX gK (an:=.n) (by kernel_rfl) (.r rfl);rw[kS.qy now]at x3;refine aJ.BX (by kernel_rfl) x3 ((a5n hJ hO h1 hD).mono fun e s h=>?_);obtain⟨rfl,t,seen,g1,g2,rfl⟩:=h;refine⟨.inl rfl,[],by kernel_rfl,t,[.map (kS.im now),.dh 5 now.length seen],⟨g1,fun φ=>?_⟩,rfl⟩;rw[g2];have:=h1.s fun st=>Zb φ (aX J.D st);rw[List.drop_length]at this;rw[<-acf hJ (Zb φ)];exact this
end
end Go.Proofs.YtmobpoiejckagaaGreat
