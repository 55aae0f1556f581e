/- Part 6 of a proof: ApplyOps -/
import Derived.Test.YtmobpoiejckagaaGreatP04
set_option linter.constructorNameAsVariable false
set_option linter.unusedVariables false
set_option linter.unusedSimpArgs false
set_option linter.unusedSectionVars false
open Go.IntKind (i64)
noncomputable section
namespace Go.Proofs.YtmobpoiejckagaaGreat
open Go Tw Pv cu
structure Alk(d:Dg)(F:Nat)(r:Int)(s:LI0×LI0):Prop where
 eq:cO d F r (KS d s)=(yx (kF d F r s) r,KS d (kF d F r s))
 aA:Kv d (kF d F r s)
 cov:WY (kF d F r s) r
 ext:Ext s (kF d F r s)
theorem aei{d:Dg}(h:D8 d)(hw:IY d)(hd:DgD d)(he:d.aO.length<=2^61):∀(F:Nat) (r:Int) (s:LI0×LI0),r+1<F->Kt d s->Kv d s->jH d r d.aj.length->1<=F->Alk d F r s
 | 0,r,s,_,_,_,_,h1=>by omega
 |F+1,r,s,hF,hs,hk,hr,_=>by
  have hn:∀o∈s.1,0<=o:=fun o ho=>(hs.n2 o ho).1;by_cases c:r<0
  .have t0:decide (r<0)=true:=(by simpa using c);obtain⟨q1,q2⟩:=agI hd hs (hr.2 c);have e1:cO d (F+1) r (KS d s)=(i64.wrap (-1-((KS d s).e.idxOf (qG d r):Nat)),⟨fK (KS d s).e (qG d r),(KS d s).n,(KS d s).k⟩):=by unfold cO;rw[a0I t0]
   by_cases c2:jQ r∈s.2
   .have e2:kF d (F+1) r s=s:=by unfold kF;rw[a0I t0,a0F (by simpa using c2)]
    refine⟨?_,by rw[e2];exact hk,by rw[e2];exact⟨fun _=>c2,fun h0=>by omega⟩,by rw[e2];exact .refl s⟩;rw[e1,e2,q1,show fK (KS d s).e (qG d r)=(KS d s).e from a0I (q2.2 c2)];unfold yx;rw[a0I c]
   have e2:kF d (F+1) r s=(s.1,s.2++[jQ r]):=by unfold kF;rw[a0I t0,a0I (by simpa using c2)]
   have hc:WY (s.1,s.2++[jQ r]) r:=⟨fun _=>by simp,fun h0=>by omega⟩;have hx:Ext s (s.1,s.2++[jQ r]):=⟨[],[jQ r],by simp⟩;refine⟨?_,by rw[e2];exact fun o ho k lG=>(hk o ho k lG).ext hx,by rw[e2];exact hc,by rw[e2];exact hx⟩;rw[e1,e2,q1,agH hk hn,show fK (KS d s).e (qG d r)=(KS d s).e++[qG d r]from a0F (fun e=>c2 (q2.1 e))];unfold yx;rw[a0I c];simp[aap,c2,a6X c2,qG]
  have t0:¬(decide (r<0)=true):=by simpa using c
  have yL:(KS d s).k.map (·.1)=s.1:=by unfold KS;rw[a8K];exact List.map_id _
  by_cases c2:r∈s.1
  .have e2:kF d (F+1) r s=s:=by unfold kF;rw[a0F t0,a0I (by simpa using c2)]
   have e1:cO d (F+1) r (KS d s)=(Wh (KS d s).k r,KS d s):=by unfold cO;rw[a0F t0,a0I (by rw[yL];simpa using c2)]
   refine⟨?_,by rw[e2];exact hk,by rw[e2];exact⟨fun h0=>absurd h0 c,fun _=>c2⟩,by rw[e2];exact .refl s⟩;rw[e1,e2,agJ c2]
  have aQ:r.toNat<d.aj.length:=by have:=hr.1;omega
  have D9:∀k,k<(au d r).aA.length->(au d r).aA.getD k 0<r:=fun k lG=>by have h9:=(h.Ah r.toNat aQ k lG).1;have h9:(au d r).aA.getD k 0<(r.toNat:Int):=h9;omega
  have LU:∀j,j<(au d r).aA.length->jH d ((au d r).aA.getD j 0) d.aj.length:=fun j hj=>⟨by have:=D9 j hj;have:=hr.1;omega,(h.Ah r.toNat aQ j hj).2⟩;have a7t:=Uj (g1:=fun j (y:LI0×Cs)=>(y.1.set j (cO d F ((au d r).aA.getD j 0) y.2).1,(cO d F ((au d r).aA.getD j 0) y.2).2)) (g2:=fun k y=>kF d F ((au d r).aA.getD k 0) y)
   (fun j (y:LI0×Cs) (t:LI0×LI0)=>y=(((au d r).aA.take j).map (yx t)++List.replicate ((au d r).aA.length-j) 0,KS d t)∧Kt d t∧Kv d t∧Ext s t∧r∉t.1∧∀i,i<j->WY t ((au d r).aA.getD i 0)) (au d r).aA.length 0 (List.replicate (au d r).aA.length 0,KS d s) s ⟨by simp,hs,hk,.refl s,c2,fun i hi=>by omega⟩ (fun j y t _ hj hy=>by
    obtain⟨rfl,y1,y2,y3,y4,y5⟩:=hy;have hj:j<(au d r).aA.length:=(by omega);have ih:=aei h hw hd he F _ t (by have:=D9 j hj;omega) y1 y2 (LU j hj) (by omega);have Zm:=a7V F ((au d r).aA.getD j 0) r t (D9 j hj) y4 (by omega) (fun i hi k hk=>(h.Ah i hi k hk).1) (fun h5=>⟨h5,by have:=(LU j hj).1;omega⟩);have Sl:=LP h F ((au d r).aA.getD j 0) t y1 (LU j hj);obtain⟨i1,i2,i3,i4⟩:=ih;simp only[i1];generalize kF d F ((au d r).aA.getD j 0) t=u at i2 i3 i4 Zm Sl ⊢;refine⟨?_,Sl,i2,y3.trans i4,Zm,fun i hi=>?_⟩
    .simp only[a0T,and_true];have hl:(List.map (yx t) (List.take j (au d r).aA)).length=j:=by rw[a5c,a4x];omega
     rw[show(au d r).aA.length-j=((au d r).aA.length-(j+1))+1 by omega,aeQ,List.set_append_right _ _ (by rw[hl];exact a15 j)];rw[hl,ahU,List.set_cons_zero,a5S hj,a4Z,a5U];congr 1
     .apply a5v;intro x hx;obtain⟨i,hi,rfl⟩:=a5x.1 hx;have Bd:i<j:=by simp at hi;omega
      have:=y5 i Bd;rw[sW (l:=(au d r).aA) (show i<(au d r).aA.length by omega)]at this;rw[List.getElem_take];exact(abx this i4).symm
     .rw[sW hj];rfl
    .by_cases Bd:i<j
     .exact(y5 i Bd).ext i4
     .rw[show i=j by omega];exact i3)
  have e1:cO d (F+1) r (KS d s)=(eU (aU (fun j (y:LI0×Cs)=>(y.1.set j (cO d F ((au d r).aA.getD j 0) y.2).1,(cO d F ((au d r).aA.getD j 0) y.2).2)) (au d r).aA.length 0 (List.replicate (au d r).aA.length 0,KS d s)).2.n (au d r).var (aU (fun j (y:LI0×Cs)=>(y.1.set j (cO d F ((au d r).aA.getD j 0) y.2).1,(cO d F ((au d r).aA.getD j 0) y.2).2)) (au d r).aA.length 0 (List.replicate (au d r).aA.length 0,KS d s)).1,⟨(aU (fun j (y:LI0×Cs)=>(y.1.set j (cO d F ((au d r).aA.getD j 0) y.2).1,(cO d F ((au d r).aA.getD j 0) y.2).2)) (au d r).aA.length 0 (List.replicate (au d r).aA.length 0,KS d s)).2.e,dG (aU (fun j (y:LI0×Cs)=>(y.1.set j (cO d F ((au d r).aA.getD j 0) y.2).1,(cO d F ((au d r).aA.getD j 0) y.2).2)) (au d r).aA.length 0 (List.replicate (au d r).aA.length 0,KS d s)).2.n (au d r).var (aU (fun j (y:LI0×Cs)=>(y.1.set j (cO d F ((au d r).aA.getD j 0) y.2).1,(cO d F ((au d r).aA.getD j 0) y.2).2)) (au d r).aA.length 0 (List.replicate (au d r).aA.length 0,KS d s)).1,(aU (fun j (y:LI0×Cs)=>(y.1.set j (cO d F ((au d r).aA.getD j 0) y.2).1,(cO d F ((au d r).aA.getD j 0) y.2).2)) (au d r).aA.length 0 (List.replicate (au d r).aA.length 0,KS d s)).2.k++[(r,eU (aU (fun j (y:LI0×Cs)=>(y.1.set j (cO d F ((au d r).aA.getD j 0) y.2).1,(cO d F ((au d r).aA.getD j 0) y.2).2)) (au d r).aA.length 0 (List.replicate (au d r).aA.length 0,KS d s)).2.n (au d r).var (aU (fun j (y:LI0×Cs)=>(y.1.set j (cO d F ((au d r).aA.getD j 0) y.2).1,(cO d F ((au d r).aA.getD j 0) y.2).2)) (au d r).aA.length 0 (List.replicate (au d r).aA.length 0,KS d s)).1)]⟩):=by rw[cO,a0F t0,a0F (by rw[yL];simpa using c2)]
  have e2:kF d (F+1) r s=((aU (fun k y=>kF d F ((au d r).aA.getD k 0) y) (au d r).aA.length 0 s).1++[r],(aU (fun k y=>kF d F ((au d r).aA.getD k 0) y) (au d r).aA.length 0 s).2):=by rw[kF,a0F t0,a0F (by simpa using c2)]
  generalize aU (fun j (y:LI0×Cs)=>(y.1.set j (cO d F ((au d r).aA.getD j 0) y.2).1,(cO d F ((au d r).aA.getD j 0) y.2).2)) (au d r).aA.length 0 (List.replicate (au d r).aA.length 0,KS d s)=y at a7t e1;generalize aU (fun k y=>kF d F ((au d r).aA.getD k 0) y) (au d r).aA.length 0 s=t at a7t e2;obtain⟨rfl,f2,f3,f4,f5,f6⟩:=a7t;rw[a4v]at f6;simp only[a4v,abh,ahU,List.replicate_zero,a5Z]at e1;have a8p:∀k∈(au d r).aA,WY t k:=fun k lG=>by
   obtain⟨i,hi,rfl⟩:=a5x.1 lG;have:=f6 i hi
   rwa [sW hi]at this
  have hW:∀o,0<=o->fD o d.aj.length->∀k∈(au d o).aA,GN k:=fun o _ ho k lG=>by
   obtain⟨i,hi,rfl⟩:=a5x.1 lG;have:=hw.Ah o.toNat (by have:=ho.1;have:=ho.2;omega) i hi
   rwa [sW hi]at this
  have hrI:fD r d.aj.length:=⟨by omega,hr.1⟩;have hel:t.2.length<=2^61:=a5M f2.len.2 he;have aej:((au d r).aA.map (yx t)).all (fun x=>x==((au d r).aA.map (yx t)).getD 0 0)=false:=by
   cases e:((au d r).aA.map (yx t)).all (fun x=>x==((au d r).aA.map (yx t)).getD 0 0)
   .rfl
   exfalso;have hf:=hd.flat r.toNat aQ;rw[List.all_eq_false]at hf;obtain⟨x,hx,hx2⟩:=hf;have hx:x∈(au d r).aA:=hx;have h0:0<(au d r).aA.length:=List.length_pos_of_mem hx;rw[a5s]at e;have:=e (yx t x) (a1e.2 ⟨x,hx,rfl⟩);rw[sW (by simpa using h0),a9L]at this;have h00:(au d r).aA[0]∈(au d r).aA:=a5p h0;have:=a2H hel (a8p x hx) (a8p _ h00) (hW r (by omega) hrI x hx) (hW r (by omega) hrI _ h00) (by simpa using this);apply hx2;have h9:(fH d r.toNat).aA.getD 0 0=(au d r).aA[0]:=sW h0;rw[h9,this];simp
  have afB:uI (au d r).var ((au d r).aA.map (yx t))∉(KS d t).n.map Df:=by
   intro hm;unfold KS at hm;rw[a8K]at hm;obtain⟨o,ho,e⟩:=a1e.1 hm;have ZV:=f2.n2 o ho;have Rj:o.toNat<d.aj.length:=by have:=ZV.1;have:=ZV.2;omega
   have ev:(fH d o.toNat).var=(fH d r.toNat).var:=congrArg Prod.fst e;have ep:IZ ((au d o).aA.map (yx t))=IZ ((au d r).aA.map (yx t)):=congrArg (fun z:Ky=>z.2.val) e;have hlen:((fH d o.toNat).aA.length:Int)=((fH d r.toNat).aA.length:Int):=(by rw[h.ksz _ Rj,h.ksz _ aQ,ev]);have hlen:(au d o).aA.length=(au d r).aA.length:=by exact_mod_cast hlen
   have em:=aby (by simpa using hlen) (by rw[a5c];exact h.Kr _ Rj) ep;have ek:=map_inj (fun x hx y hy e=>a2H hel (f3 o ho x hx) (a8p y hy) (hW o ZV.1 ZV x hx) (hW r (by omega) hrI y hy) e) em;have:=hd.aj _ _ Rj aQ ev ek;have:o=r:=by have:=ZV.1;omega
   exact f5 (this▸ho)
  have hnl:(KS d t).n.length=t.1.length:=by unfold KS;simp
  have hR:eU (KS d t).n (au d r).var ((au d r).aA.map (yx t))=(t.1.length:Int):=by unfold eU;rw[aej,a0F (by simp),a6X afB,a5c,hnl]
  have hS:dG (KS d t).n (au d r).var ((au d r).aA.map (yx t))=(KS d t).n++[⟨(au d r).var,(au d r).aA.map (yx t)⟩]:=by unfold dG;rw[aej,a0F (by simp),a0F afB]
  have hx:Ext t (t.1++[r],t.2):=⟨[r],[],by simp⟩;have hc:WY (t.1++[r],t.2) r:=⟨fun h0=>absurd h0 c,fun _=>by simp⟩;refine⟨?_,?_,by rw[e2];exact hc,by rw[e2];exact f4.trans hx⟩
  .rw[e1,e2,hR,hS,abw f3 (fun o ho=>(f2.n2 o ho).1) (by omega) f5 a8p];unfold yx;rw[a0F c];simp[aap,f5]
  rw[e2];intro o ho k lG;rcases a3v.1 ho with ho|ho
  .exact(f3 o ho k lG).ext hx
  rw[a2U.1 ho]at lG;exact(a8p k lG).ext hx
open Go Tw Pv cu
theorem QA(b:Br):yh b=b.aA.all fun x=>x==b.aA.getD 0 0:=by
 have e:jT (TR (Qs b) 1 (max 1 b.aA.length))=true↔∀k,1<=k->k<b.aA.length->b.aA.getD k 0=b.aA.getD 0 0:=by
  unfold TR gS;rw[IB (r:=fun k=>k)];constructor
  .intro h k h1 h2;simpa[Qs]using h k h1 (by omega)
  intro h k h1 h2;simpa[Qs]using h k h1 (by omega)
 have e2:(b.aA.all fun x=>x==b.aA.getD 0 0)=true↔∀k,1<=k->k<b.aA.length->b.aA.getD k 0=b.aA.getD 0 0:=by
  rw[a5s];constructor
  .intro h k _ h2;have:=h _ (bU h2);simpa using this
  intro h x hx;obtain⟨k,hk,rfl⟩:=a5x.1 hx;by_cases h0:k=0
  .subst h0;rw[sW hk];simp
  have:=h k (by omega) hk;rw[sW hk]at this;rw[this];simp
 have:yh b=true↔(b.aA.all fun x=>x==b.aA.getD 0 0)=true:=by rw[e2,<-e];unfold yh;cases jT (TR (Qs b) 1 (max 1 b.aA.length))<;>simp
 rw[a5w];exact this
theorem agK{d:Dg}:jT (bg (cD0 d) d.aO.length)=true↔d.aO.Nodup:=by
 rw[dK];have h1:∀i,cD0 d i=false↔∀j,j<i->d.aO.getD j V0≠d.aO.getD i V0:=fun i=>by
  have:jT (bg (cD1 d i) i)=true↔∀j,j<i->d.aO.getD j V0≠d.aO.getD i V0:=by rw[dK];simp[cD1]
  rw[<-this];unfold cD0;cases jT (bg (cD1 d i) i)<;>simp
 have hg:∀j,(hj:j<d.aO.length)->d.aO.getD j V0=d.aO[j]:=fun j hj=>by simp[List.getD,a0D hj]
 constructor
 .intro h;rw[acK,acN];intro i j hi hj Bd;have:=(h1 j).1 (h j hj) i Bd
  rwa [hg i hi,hg j hj]at this
 intro h i hi;rw[h1];intro j hj;rw[acK,acN]at h;have:=h j i (by omega) hi hj
 rwa [hg i hi,hg j (by omega)]
theorem agL{d:Dg}:jT (bg (cD2 d) d.aj.length)=true↔(∀i j,i<d.aj.length->j<d.aj.length->(fH d i).var=(fH d j).var->(fH d i).aA=(fH d j).aA->i=j)∧∀i,i<d.aj.length->((fH d i).aA.all fun x=>x==(fH d i).aA.getD 0 0)=false:=by
 rw[dK];have h1:∀i,cD2 d i=false↔yh (fH d i)=false∧∀j,j<i->¬((fH d j).var=(fH d i).var∧(fH d j).aA=(fH d i).aA):=fun i=>by
  have h3:∀j,cD3 d i j=false↔¬((fH d j).var=(fH d i).var∧(fH d j).aA=(fH d i).aA):=fun j=>by
   unfold cD3;by_cases hv:(fH d j).var=(fH d i).var
   .rw[a0I (by rw[a6Z];exact hv),a2b];exact⟨fun a b=>a b.2,fun a b=>a ⟨hv,b⟩⟩
   rw[a0F (by rw[a6Z];exact hv)];exact⟨fun _ a=>hv a.1,fun _=>rfl⟩
  have:jT (bg (cD3 d i) i)=true↔∀j,j<i->¬((fH d j).var=(fH d i).var∧(fH d j).aA=(fH d i).aA):=by rw[dK];exact acH fun j=>acH fun _=>h3 j
  rw[<-this];unfold cD2;cases yh (fH d i)
  .cases jT (bg (cD3 d i) i)<;>simp
  simp
 constructor
 .intro h;refine⟨fun i j hi hj hv hk=>?_,fun i hi=>by rw[<-QA];exact((h1 i).1 (h i hi)).1⟩;rcases Nat.lt_trichotomy i j with Bd|Bd|Bd
  .exact absurd ⟨hv,hk⟩ (((h1 j).1 (h j hj)).2 i Bd)
  .exact Bd
  exact absurd ⟨hv.symm,hk.symm⟩ (((h1 i).1 (h i hi)).2 j Bd)
 intro h i hi;rw[h1];refine⟨by rw[QA];exact h.2 i hi,fun j hj hc=>?_⟩;have:=h.1 j i (by omega) hi hc.1 hc.2;omega
theorem abz{d:Dg}:(jT (bg (cD0 d) d.aO.length)=true∧jT (bg (cD2 d) d.aj.length)=true)↔DgD d:=by rw[agK,agL];exact⟨fun h=>⟨h.1,h.2.1,h.2.2⟩,fun h=>⟨h.aO,h.aj,h.flat⟩⟩
theorem QB{l:LI0}{m:Nat}:Ag l m=true↔l=dU m:=by
 unfold Ag;have e:jT (bg (a7Q l) l.length)=true↔∀j,j<l.length->l.getD j 0=(j:Int):=by rw[dK];simp[a7Q]
 constructor
 .intro h;split at h
  .rename_i h1;have hl:(l.length:Int)=(m:Int):=(by simpa using h);have hl:l.length=m:=(by omega);rw[o8 (d:=0) (by rw[mV,hl])];intro j hj;rw[e.1 h1 j hj];have:j<m:=(by omega);simp[dU,List.getD,this]
  cases h
 rintro rfl;rw[a0I (e.2 fun j hj=>by rw[mV]at hj;simp[dU,List.getD,hj]),mV];simp
theorem YF{d:Dg}:qF d=true↔DgD d∧srN d d.root=dU d.aj.length∧srE d d.root=dU d.aO.length:=by
 rw[<-abz,<-QB,<-QB];unfold qF;cases jT (bg (cD0 d) d.aO.length)
 .simp
 cases jT (bg (cD2 d) d.aj.length)
 .simp
 cases Ag (srN d d.root) (d.aj.length:Int)<;>simp
open Go Tw Pv cu
abbrev cl0:Cs:=⟨[],[],[]⟩
def fE(d:Dg):Dg:=⟨d.ay,d.aH,(cO d 6002 d.root cl0).2.e,(cO d 6002 d.root cl0).2.n,(cO d 6002 d.root cl0).1⟩
theorem Wn{d:Dg}:En d cl0:=⟨a5W,by simp,a5W,by simp,a5W,by simp⟩
abbrev a8q(b:Br):Bool:=b.aA.all fun x=>x==b.aA.getD 0 0
theorem a2J{d:Dg}:∀(F:Nat) (r:Int) (x:Cs),(∀b∈x.n,a8q b=false)->∀b∈(cO d F r x).2.n,a8q b=false
 | 0,_,_,h=>h
 |F+1,r,x,h=>by
  unfold cO;split
  .exact h
  split
  .exact h
  have hb:=(J3 (d:=d) (fun y=>∀b∈y.n,a8q b=false) (F:=F) (r:=r) h (fun j y _ hy=>a2J F _ y hy)).2;intro b RQ;simp only[dG]at RQ;split at RQ
  .exact hb b RQ
  rename_i hf;split at RQ
  .exact hb b RQ
  rcases a3v.1 RQ with RQ|RQ
  .exact hb b RQ
  rw[a2U.1 RQ];simpa using hf
theorem a4D{d:Dg}(h:D8 d)(e:fE d=d):DgD d:=by
 have hc:=Qx h 6002 d.root cl0 Wn h.root;have hf:=a2J (d:=d) 6002 d.root cl0 (by simp);have ee:(cO d 6002 d.root cl0).2.e=d.aO:=congrArg Dg.aO e;have en:(cO d 6002 d.root cl0).2.n=d.aj:=congrArg Dg.aj e;rw[en]at hf;have hg:∀j,(hj:j<d.aj.length)->fH d j=d.aj[j]:=fun j hj=>by simp[List.getD,a0D hj]
 refine⟨ee▸hc.e1,fun i j hi hj hv hk=>?_,fun i hi=>?_⟩
 .have hn:(d.aj.map Df).Nodup:=en▸hc.n1;have:=(aaD (i:=i) (j:=j) (h₀:=by simpa using hi) (h₁:=by simpa using hj) hn).1 (by rw[a9L,a9L,<-hg i hi,<-hg j hj];show uI _ _=uI _ _;rw[hv,hk])
  exact this
 have:=hf (fH d i) (by rw[hg i hi];exact a5p hi);exact this
theorem QC{d:Dg}{n m:Nat}{x:Int}(hm:m<=2^61)(hx:GN x)(hc:WY (dU n,dU m) x):yx (dU n,dU m) x=x:=by
 have hid:∀(n:Nat) (y:Int),y∈dU n->(((dU n).idxOf y:Nat):Int)=y:=fun n y hy=>by have hl:=a5t.2 hy;have h1:=a9C hl;rw[mV]at hl;simp only[dU,a9L,ai8]at h1;exact h1
 unfold yx;by_cases c:x<0
 .rw[a0I c];have h1:=hid m _ (hc.1 c);have h2:jQ x=-1-x:=NU hx c;have h3:=a2C (hc.1 c);have h4:=h3.2;rw[show((((dU n,dU m):LI0×LI0).2.idxOf (jQ x):Nat):Int)=jQ x from h1,h2,eY (by omega) (by omega)];omega
 rw[a0F c];exact hid n _ (hc.2 (by omega))
theorem YG{α:Type}(l:List α)(f:Int->α)(h:∀j,(hj:j<l.length)->f j=l[j]):(dU l.length).map f=l:=by apply a9Y (by simp[dU]);intro j h1 h2;simp[dU,h j h2]
theorem a2K{d:Dg}{j:Nat}(hj:j<d.aO.length):d.aO.getD ((j:Nat):Int).toNat V0=d.aO[j]:=by simp[List.getD,a0D hj]
theorem a2L{l:LI0}{m:Nat}(hl:l.length=m)(h:∀j,(hj:j<l.length)->l[j]=(j:Int)):l=dU m:=by apply a9Y (by rw[mV,hl]);intro j h1 h2;rw[h j h1];simp[dU]
theorem agM{d:Dg}(h:D8 d)(hw:IY d)(hd:DgD d)(he:d.aO.length<=2^61){t:LI0×LI0}(ht:Kt d t)(hk:Kv d t)(hc:WY t d.root):((KS d t).e=d.aO∧(KS d t).n=d.aj∧yx t d.root=d.root)↔(t.1=dU d.aj.length∧t.2=dU d.aO.length):=by
 have hW:∀o,fD o d.aj.length->∀k∈(au d o).aA,GN k:=fun o ho k lG=>by
  obtain⟨i,hi,rfl⟩:=a5x.1 lG;have:=hw.Ah o.toNat (by have:=ho.1;have:=ho.2;omega) i hi
  rwa [sW hi]at this
 have hg:∀j,(hj:j<d.aj.length)->au d (j:Nat)=d.aj[j]:=fun j hj=>by simp[List.getD,a0D hj]
 constructor
 .rintro⟨h1,h2,h3⟩;have l1:t.2.length=d.aO.length:=by have:=congrArg List.length h1;simpa[KS]using this
  have l2:t.1.length=d.aj.length:=by have:=congrArg List.length h2;simpa[KS]using this
  have e2:t.2=dU d.aO.length:=a2L l1 fun j hj=>by have tH:j<d.aO.length:=(by omega);have:(KS d t).e[j]'(by rw[h1];exact tH)=d.aO[j]:=(by simp only[h1]);unfold KS at this;simp only[a9L]at this;rw[<-a2K tH]at this;exact YE hd.aO (ht.e2 _ (a5p hj)) (aC tH) this
  have key:∀(N:Nat) (o:Int),o∈t.1->o.toNat<N->yx t o=o:=by
   intro N
   induction N with
   |zero=>intro o _ hN;omega
   |succ N ih=>
    intro o ho hN;have ZV:=ht.n2 o ho;have aQ:=a5t.2 ho;have tH:t.1.idxOf o<d.aj.length:=(by omega);have hel:=a9C aQ;have:(KS d t).n[t.1.idxOf o]'(by rw[h2];exact tH)=d.aj[t.1.idxOf o]:=(by simp only[h2]);unfold KS at this;simp only[a9L,hel]at this;have hkm:(au d o).aA.map (yx t)=(au d o).aA:=by
     conv=>rhs;rw[<-List.map_id (au d o).aA]
     apply a5v;intro k lG;show yx t k=k;have hcv:=hk o ho k lG;by_cases c:k<0
     .have:=QC (d:=d) (n:=0) (m:=d.aO.length) he (hW o ZV k lG) ⟨fun c=>by have:=hcv.1 c;rwa [e2]at this,fun h0=>by omega⟩;unfold yx at this ⊢;rw[a0I c]at this ⊢;rw[e2];exact this
     obtain⟨i,hi,rfl⟩:=a5x.1 lG;have ar0:o.toNat<d.aj.length:=by have:=ZV.1;have:=ZV.2;omega
     have h9:=(h.Ah o.toNat ar0 i hi).1;have h9:(au d o).aA.getD i 0<(o.toNat:Int):=h9;rw[sW hi]at h9;exact ih _ (hcv.2 (by omega)) (by omega)
    rw[hkm]at this;have hv:(fH d (t.1.idxOf o)).var=(fH d o.toNat).var:=(by rw[show fH d (t.1.idxOf o)=d.aj[t.1.idxOf o]from hg _ tH,<-this]);have yL:(fH d (t.1.idxOf o)).aA=(fH d o.toNat).aA:=(by rw[show fH d (t.1.idxOf o)=d.aj[t.1.idxOf o]from hg _ tH,<-this]);have h8:=hd.aj _ _ tH (by have:=ZV.1;have:=ZV.2;omega) hv yL;unfold yx;rw[a0F (by have:=ZV.1;omega),h8];have:=ZV.1;omega
  refine⟨a2L l2 fun j hj=>?_,e2⟩;have hm:=a5p hj;have:=key ((t.1[j]).toNat+1) _ hm (by omega);unfold yx at this;rw[a0F (by have:=(ht.n2 _ hm).1;omega)]at this;rw[<-this];have:t.1.idxOf t.1[j]=j:=by have h5:=a5t.2 hm;exact(aaD (i:=t.1.idxOf t.1[j]) (j:=j) (h₀:=h5) (h₁:=hj) ht.n1).1 (a9C h5)
  rw[this]
 rintro⟨h1,h2⟩;obtain⟨t1,t2⟩:=t;simp only at h1 h2;subst h1 h2;refine⟨?_,?_,QC (d:=d) he hw.root hc⟩
 .exact YG d.aO (fun e=>d.aO.getD e.toNat V0) fun j hj=>a2K hj
 refine YG d.aj _ fun j hj=>?_;have hkm:(au d (j:Nat)).aA.map (yx (dU d.aj.length,dU d.aO.length))=(au d (j:Nat)).aA:=by
  conv=>rhs;rw[<-List.map_id (au d (j:Nat)).aA]
  apply a5v;intro k lG;exact QC (d:=d) he (hW _ (aC hj) k lG) (hk _ (by show(j:Int)∈dU _;unfold dU;rw[a1e];exact⟨j,a5f.2 hj,rfl⟩) k lG)
 rw[hkm,hg j hj]
theorem Uk{d:Dg}(h:D8 d)(hw:IY d)(he:d.aO.length<=2^61)(hn:d.aj.length<=6000):fE d=d↔qF d=true:=by
 have main:DgD d->(fE d=d↔(srN d d.root=dU d.aj.length∧srE d d.root=dU d.aO.length)):=fun hd=>by
  have hr:d.root+1<6002:=by have:=h.root.1;omega
  have ha:=aei h hw hd he 6002 d.root ([],[]) hr sr0 (fun o ho=>by cases ho) h.root (by omega);have hs:=LP h 6002 d.root ([],[]) sr0 h.root;have hi:=agM h hw hd he hs ha.aA ha.cov;have e0:KS d ([],[])=cl0:=rfl;have e1:=ha.eq;rw[e0]at e1;unfold srN srE;rw[<-hi];unfold fE;rw[e1];obtain⟨d1,d2,d3,d4,d5⟩:=d;simp
 rw[YF];constructor
 .intro e;have hd:=a4D h e;exact⟨hd,(main hd).1 e⟩
 rintro⟨hd,h2⟩;exact(main hd).2 h2
open Go Tw Pv cu
abbrev HCw(l:Lo)(x:Cs):List (PB aB):=[.list false false 3 l.s,.list false false 3 l.o,.map (kV.es (Aj x.e)),.map (kK.es (zD x.n)),mkC l.s l.o 12 13 0,.gone,.gone,.cells l.ps,.cells [.ptr 4 0 9],.map (kI.es (MP x.k)),.cells [.map 9],.cells [.fn 195 [] pC],Ak x.e,Am x.n]
structure ClP(l:Lo):Prop where
 s:l.s=l.d.ay
 o:l.o=l.d.aH
 t:D8 l.d
 e:l.d.aO.length+1<=ah
 n:l.d.aj.length<=6000
 k:∀i,i<l.d.aj.length->1<=(fH l.d i).aA.length
 sl:l.d.ay.length<=ah
 ol:l.d.aH.length<=ah
def aek:dZ aB:=bK 161 (a1 loA) dA (fun l=>fE l.d) (fun l=>[ClP l]) aeg
theorem alN:Gd aek:=alL.LD 6010 ae9 fun n hn hO hOl l hp=>by obtain⟨n,rfl⟩:∃k,n=k+6009:=⟨n-6009,by omega⟩;have h:ClP l:=hp _ gQ;obtain⟨s,o,d⟩:=l;obtain⟨e1,e2,ht,he,hn6,hk,hsl,Rj⟩:=h;obtain rfl:s=d.ay:=e1;obtain rfl:o=d.aH:=e2;have hO':∀m,n+1<=m->Ok m _:=fun m hm=>hOl m (by omega);have he:d.aO.length+1<=ah:=he;have hn6:d.aj.length<=6000:=hn6;have hr:=ht.root.1;have hr:d.root<(d.aj.length:Int):=hr;have qM:=sCl (N:=n+1) hO' ht he (by unfold ah;omega) hk 6002 d.root cl0 (by omega) Wn ht.root (by omega);have gG:=aqW (n:=n+6008) (hO' _ (by omega)) d.ay d.aH hsl Rj;show nR _ _ _ _ _ (dA.put (fE d)) _;unfold fE;generalize cO d 6002 d.root cl0=z at qM ⊢;obtain⟨v,e,nd,k⟩:=z;exact aI (hO (n+6009) (by omega)) (.fr [] gG (.Pm (H2:=HCw (zF d) ⟨e,nd,k⟩) [1,2,3,4,5,6,7,0,8,9,10,11] [7,8,10,11] qM .rr))
open Go Tw Pv cu
theorem a2M{d:Dg}(h:D8 d):∀(F:Nat) (r:Int) (x:Cs),(∀b∈x.n,b.aA.length<=12)->jH d r d.aj.length->∀b∈(cO d F r x).2.n,b.aA.length<=12
 | 0,_,_,hx,_=>hx
 |F+1,r,x,hx,hr=>by
  unfold cO;by_cases c:r<0
  .rw[a0I (by simpa using c)];exact hx
  rw[a0F (by simpa using c)];split
  .exact hx
  have aQ:r.toNat<d.aj.length:=by have:=hr.1;omega
  have hb:=J3 (d:=d) (fun y=>∀b∈y.n,b.aA.length<=12) (F:=F) (r:=r) hx (fun j y hj hy=>a2M h F _ y hy (by have h9:=h.Ah r.toNat aQ j hj;have h8:=h9.1;have h8:(au d r).aA.getD j 0<(r.toNat:Int):=h8;exact⟨by have:=hr.1;omega,h9.2⟩))
  intro b RQ;simp only[dG]at RQ;split at RQ
  .exact hb.2 b RQ
  split at RQ
  .exact hb.2 b RQ
  rcases a3v.1 RQ with RQ|RQ
  .exact hb.2 b RQ
  rw[a2U.1 RQ];show List.length _<=12;rw[hb.1];exact h.Kr r.toNat aQ
theorem yu{d:Dg}(h:IY d)(he:d.aO.length+1<=ah)(hs:d.ay.length<=ah)(ho:d.aH.length<=ah)(h0:(bJ d).2=0):(bJ d).1=zF d∧ClP (zF d):=by
 rw[Ku h (by omega)]at h0 ⊢;have h0:bf d=0:=h0;have hc:=jo ho (show d.aO.length<=ah by omega) (by simp[h0]);have hf:(bY d.ay d.aH != 0)=false:=by
  cases e:bY d.ay d.aH != 0
  .rfl
  unfold bf at h0;rw[a0I e]at h0;simp[h0]at e
 refine⟨by rw[a0F (by rw[hf];simp)],rfl,rfl,hc.1,he,hc.2,fun i hi=>?_,hs,ho⟩;have h1:=hc.1.ksz i hi;have h2:=hc.1.var i hi;have h3:=(BP hf).sz _ (bU (s:=d.ay) (k:=(fH d i).var.toNat) (by have:=h2.2;have:=h2.1;omega));have h1:((fH d i).aA.length:Int)=d.ay.getD (fH d i).var.toNat 0:=h1;show 1<=(fH d i).aA.length;omega
def uT(d:Dg):Lo×Int:=if(bJ d).2==0 then(if(!(J5 (fE (bJ d).1.d) d))=true then((bJ d).1,4)else bJ d)else bJ d
theorem a0G{d:Dg}(h:D8 d)(hn:d.aj.length<=6000):(fE d).aO.length<=d.aO.length∧(fE d).aj.length<=6000∧∀b∈(fE d).aj,b.aA.length<=12:=by have hc:=Qx h 6002 d.root cl0 Wn h.root;refine⟨hc.alG,?_,a2M h 6002 d.root cl0 (by simp) h.root⟩;have h1:=hc.Kr;have h2:=hc.n2;show(cO d 6002 d.root cl0).2.n.length<=6000;omega
theorem a4E{d:Dg}(h:IY d)(hs:d.ay.length<=ah)(ho:d.aH.length<=2^20)(he:d.aO.length+1<=ah)(h0:((bJ d).2==0)=true):ClP (bJ d).1∧(fE (bJ d).1.d).ay.length<=ah∧(fE (bJ d).1.d).aH.length<=ah∧(fE (bJ d).1.d).aO.length<=ah∧(fE (bJ d).1.d).aj.length<=ah∧∀k,k<(fE (bJ d).1.d).aj.length->((fE (bJ d).1.d).aj.getD k kL).aA.length<=ah:=by
 have ho:d.aH.length<=ah:=by unfold ah;omega
 obtain⟨h1,h2⟩:=yu h he hs ho (by simpa using h0);rw[h1];obtain⟨a,b,c⟩:=a0G h2.t h2.n;refine⟨h2,hs,ho,?_,?_,fun k hk=>?_⟩
 .have a:(fE d).aO.length<=d.aO.length:=a;show(fE d).aO.length<=ah;omega
 .have b:(fE d).aj.length<=6000:=b;show(fE d).aj.length<=ah;unfold ah;omega
 exact m12 (c _ (YA hk))
def J7:dZ aB:=bK 172 (a1 dA) (dM (a2 loA iA)) (fun p=>uT p) (fun p=>[IY p,p.ay.length<=ah,p.aH.length<=2^20,p.aO.length+1<=ah]) aek
theorem alO:Gd J7:=alN.add fun n hO p hp=>aI hO (.o (hp _ vX) (.o (hp _ hh2) (.o (by have h9:p.aO.length+1<=ah:=hp _ (.tail _ (.tail _ (.tail _ (.head _))));show p.aO.length<=ah;omega) (.sh (fun h=>have q:=a4E (hp _ gQ) (hp _ vX) (hp _ hh2) (hp _ (.tail _ (.tail _ (.tail _ (.head _))))) h;.o q.1 (.o q.2.1 (.o q.2.2.1 (.o q.2.2.2.1 (.o q.2.2.2.2.1 (.o q.2.2.2.2.2 (.ss .rr .rr))))))) fun _=>.rr))))
theorem QD{d:Dg}(h:IY d)(hs:d.ay.length<=ah)(ho:d.aH.length<=ah)(he:d.aO.length+1<=ah):uT d=(if(bY d.ay d.aH != 0)=true then lo0 else zF d,iw d):=by
 have h9:=Ku h (show d.aO.length<=ah by omega);unfold uT iw;by_cases h0:(bJ d).2=0
 .obtain⟨h1,h2⟩:=yu h he hs ho h0;have h3:=Uk h2.t h (show d.aO.length<=2^61 by unfold ah at he;omega) h2.n;have h4:bf d=0:=by rw[h9]at h0;exact h0
  rw[a0I (show((bJ d).2==0)=true by simpa using h0),h1,h4,a0F (show ¬(((0:Int) != 0)=true) by simp)];rw[h9]at h1;show(if(!(J5 (fE d) d))=true then(zF d,4)else bJ d)=_;have h1:(if(bY d.ay d.aH != 0)=true then lo0 else zF d)=zF d:=h1;rw[h9,h1];by_cases h5:fE d=d
  .rw[a0F (show ¬((!(J5 (fE d) d))=true) by rw[a2F.2 h5];simp),a0F (show ¬((!(qF d))=true) by rw[h3.1 h5];simp),h4]
  have h6:J5 (fE d) d=false:=by
   cases e:J5 (fE d) d
   .rfl
   exact absurd (a2F.1 e) h5
  have h7:qF d=false:=by
   cases e:qF d
   .rfl
   exact absurd (h3.2 e) h5
  rw[a0I (show(!(J5 (fE d) d))=true by rw[h6];rfl),a0I (show(!(qF d))=true by rw[h7];rfl)]
 have h4:¬bf d=0:=by rw[h9]at h0;exact h0
 rw[a0F (show ¬(((bJ d).2==0)=true) by simpa using h0),h9,a0I (show(bf d != 0)=true by simpa using h4)]
open Go Tw Pv cu
def cellsD(d:Dg):List V:=(List.range (E8 d.ay)).map fun(k:Nat)=>vH d (jO d.ay k)
open Go Tw Pv cu
def Eo(N:List Br)(c:Int)(ks:LI0):Int:=if(ks.all fun x=>x==ks.getD 0 0)=true then ks.getD 0 0 else(N.idxOf (⟨c,ks⟩:Br):Nat)
def qh(N:List Br)(c:Int)(ks:LI0):List Br:=if(ks.all fun x=>x==ks.getD 0 0)=true then N else if(⟨c,ks⟩:Br)∈N then N else N++[⟨c,ks⟩]
abbrev EN:Type:=List V×List Br
def wM(f:LI0->EN->Int×EN)(c:Int)(p:LI0)(j:Nat)(y:LI0×EN):LI0×EN:=(y.1++[(f (p.set c.toNat j) y.2).1],(f (p.set c.toNat j) y.2).2)
def fU(s:LI0)(l:List V):LI0->LI0->EN->Int×EN
 | [],p,x=>(i64.wrap (-1-(x.1.idxOf (l.getD (eG s p).toNat V0):Nat)),(fK x.1 (l.getD (eG s p).toNat V0),x.2))
 |c::r,p,x=>
  let y:=aU (wM (fU s l r) c p) (s.getD c.toNat 0).toNat 0 ([],x)
  (Eo y.2.2 c y.1,(y.2.1,qh y.2.2 c y.1))
def wO(s:LI0):LI0->Nat
 | []=>1
 |c::r=>(s.getD c.toNat 0).toNat*wO s r
theorem QE{s:LI0}(hs:nM s):∀{o:LI0},(∀c∈o,fD c s.length)->1<=wO s o
 | [],_=>a15 _
 |c::r,h=>by have h1:=QE hs (o:=r) fun c hc=>h c (by simp[hc]);obtain⟨h2,h3⟩:=h c (by simp);have h4:=hs _ (bU (s:=s) (k:=c.toNat) (by omega));have h5:1*1<=(s.getD c.toNat 0).toNat*wO s r:=ai5 (by omega) h1;simpa[wO]using h5
theorem a0H(E:List V)(v:V):(fK E v).length<=E.length+1:=by unfold fK;split<;>simp
theorem a8s(N:List Br)(c:Int)(ks:LI0):(qh N c ks).length<=N.length+1:=by
 unfold qh;split
 .omega
 split<;>simp
theorem a2N{f:LI0->EN->Int×EN}{c:Int}{p:LI0}{n w:Nat}(h:∀q x,(f q x).2.1.length<=x.1.length+w∧(f q x).2.2.length+1<=x.2.length+w)(x:EN):(aU (wM f c p) n 0 ([],x)).1.length=n∧(aU (wM f c p) n 0 ([],x)).2.1.length<=x.1.length+n*w∧(aU (wM f c p) n 0 ([],x)).2.2.length+n<=x.2.length+n*w:=by
 have:=bV (g:=wM f c p) (m:=n) (k:=0) (s:=([],x)) (fun k y=>y.1.length=k∧y.2.1.length<=x.1.length+k*w∧y.2.2.length+k<=x.2.length+k*w) ⟨rfl,by simp,by simp⟩ (fun j y _ _ hy=>by
  obtain⟨h1,h2,h3⟩:=hy;have:=h (p.set c.toNat j) y.2;refine⟨by simp[wM,h1],?_,?_⟩
  .simp only[wM,a3C,aav];omega
  simp only[wM,a3C,aav];omega)
 rw[a4v]at this;exact this
theorem Wp{s:LI0}{l:List V}(hs:nM s):∀(o p:LI0) (x:EN),(∀c∈o,fD c s.length)->(fU s l o p x).2.1.length<=x.1.length+wO s o∧(fU s l o p x).2.2.length+1<=x.2.length+wO s o
 | [],p,x,_=>by have:=a0H x.1 (l.getD (eG s p).toNat V0);exact⟨this,by simp[fU,wO]⟩
 |c::r,p,x,h=>by
  obtain⟨h1,h2,h3⟩:=a2N (f:=fU s l r) (c:=c) (p:=p) (n:=(s.getD c.toNat 0).toNat) (w:=wO s r) (fun q x=>Wp hs r q x fun c hc=>h c (by simp[hc])) x;obtain⟨i1,i2⟩:=h c (by simp);have h4:=hs _ (bU (s:=s) (k:=c.toNat) (by omega));simp only[fU,wO];generalize aU (wM (fU s l r) c p) (s.getD c.toNat 0).toNat 0 ([],x)=y at h1 h2 h3;refine⟨h2,?_⟩;by_cases hn:(s.getD c.toNat 0).toNat=1
  .have e:qh y.2.2 c y.1=y.2.2:=by
    unfold qh;rw[a0I];rw[hn]at h1
    match hy:y.1,h1 with
    | [a],_=>simp
   rw[e];omega
  have:=a8s y.2.2 c y.1;omega
abbrev dP(s o:LI0)(i j:Nat):PV aB:=.agg [lI s,lI o,.own i,.own j,.int .i64 0]
abbrev d0P:List (PV aB):=[.nil .aP,.nil .aP,.nil .aP,.nil .aP,.int .i64 0]
abbrev w1P(s o:LI0)(v:V)(i:Int)(x:List (Nat×PE aB))(H:List (PB aB)):aT aB:=⟨[(4,.loc 0 0),(8,.loc 1 0),(10,.loc 2 0),(11,xi i)]++x,[[lI s,lI o,.own 0,.own 1,.int .i64 0],d0P,v.ps],H⟩
def z1P(s o:LI0)(E:List V)(v:V)(H:List (PB aB)):Unit⊕Nat->Ex×aT aB
 |.inl _=>(.exit 0,w1P s o v E.length [(33,xl false)] H)
 |.inr k=>(.ret,⟨[(8,.loc 1 0),(9,xi (i64.wrap (-1-(k:Int))))],[[lI s,lI o,.own 0,.own 1,.int .i64 0],[lI s,lI o,.own 0,.own 1,.int .i64 0],v.ps],H⟩)
abbrev c1P(E:List V)(v:V)(k:Nat):Bool:=decide (E.getD k V0=v)
theorem l1P{n:Nat}(hO:Ok n J7)(s o:LI0){E:List V}(N:List Br)(v:V)(pl:LI0)(ko ex:Bool)(hl:E.length<=ah):JZ n 135 0 3 (w1P s o v 0 [] [Ak E,Am N,oI ko ex pl]) (z1P s o E v [Ak E,Am N,oI ko ex pl] (bg (c1P E v) E.length)).1 (z1P s o E v [Ak E,Am N,oI ko ex pl] (bg (c1P E v) E.length)).2:=
 iJ (st:=fun i _=>w1P s o v i [] [Ak E,Am N,oI ko ex pl]) (fun _ _=>True) (by kernel_rfl) hl trivial (fun k u m hk _ ih=>aJ hO (.b (aZ hk) (.o (aC hk) (.q (.bool (c1P E v k)) (eqV (.tmp 40) (.tmp 41) (E.getD k V0) v) (.ls (.ou nofun) (.nx (ih _ trivial)))))))
  (fun _ _=>aJ hO (.b (eP E.length) (.ou nofun)))
theorem QF{α:Type}[DecidableEq α]{l:List α}{d a:α}{c:Nat->Bool}(hc:∀k,k<l.length->c k=decide (l.getD k d=a)):(a∈l->bg c l.length=.inr (l.idxOf a))∧(a∉l->jT (bg c l.length)=true):=by
 constructor
 .intro h;have hi:=a5t.2 h;have h1:c (l.idxOf a)=true:=by rw[hc _ hi,a1n,List.getD,a0D hi,a5z,a9C]
  cases e:jT (bg c l.length)
  .obtain⟨j,hj,cj,hb,e2⟩:=BJ e;rw[e2];congr 1;rcases Nat.lt_trichotomy j (l.idxOf a)with g|g|g
   .exfalso;rw[hc j hj,a1n,List.getD,a0D hj,a5z]at cj;have:=List.not_of_lt_findIdx (p:=(·==a)) g;rw[cj]at this;simp at this
   .exact g
   rw[hb _ g]at h1;cases h1
  rw[dK.1 e _ hi]at h1;cases h1
 intro h;refine dK.2 fun j hj=>?_;rw[hc j hj,a2b,List.getD,a0D hj,a5z];rintro rfl;exact h (a5p hj)
abbrev w2P(s o:LI0)(l:List V)(a c:Int)(k:Nat)(x:Int)(y:List (Nat×PE aB))(H:List (PB aB)):aT aB:=⟨[(1,xL 39 l),(2,xi a),(3,.val (.own 2)),(4,.loc 0 0),(8,.loc 1 0),(12,.loc 2 0),(13,xi x)]++y,[[lI s,lI o,.own 3,.own 4,.int .i64 0],d0P,[.int .i64 c,.own k]],H⟩
abbrev HP(pl:LI0)(ko ex:Bool)(x:EN):List (PB aB):=[.gone,.gone,oI ko ex pl,Ak x.1,Am x.2]
theorem l2P{M:Nat}(hO:Ok M J7){s o:LI0}{l:List V}{a c:Int}{pl:LI0}{ko ex:Bool}{f:LI0->EN->Int×EN}{w:Nat}(hs:nM s)(hc:fD c s.length)(hp:jd s pl=true)(hpm:pl.length<=ah)(x:EN)(hl:∀q x,(f q x).2.1.length<=x.1.length+w∧(f q x).2.2.length+1<=x.2.length+w)
  (hx:x.1.length+(s.getD c.toNat 0).toNat*w<=ah∧x.2.length+(s.getD c.toNat 0).toNat*w<=ah) (Q:EN->Prop) (hQ:Q x) (hQf:∀q y,Q y->Q (f q y).2)
  (hf:∀q y,jd s q=true->y.1.length+w<=ah->y.2.length+w<=ah->Q y->dF X0 Qp (iC M) (.fn 135 [] []) [dP s o 0 1,lV l,.int .i64 (i64.wrap (a+1)),.own 2] [Ak y.1,Am y.2,oI true false q] (.dJ [dP s o 3 4,.int .i64 (f q y).1]) (HP q true false (f q y).2)) :
  JZ M 135 1 3 (w2P s o l a c 5 0 [] (HP pl ko ex x++[oI false false []])) (.exit 2) (w2P s o l a c 5 (((s.getD c.toNat 0).toNat:Nat):Int) [(70,xl false)] (HP pl ko ex (aU (wM f c pl) (s.getD c.toNat 0).toNat 0 ([],x)).2++[oI false false (aU (wM f c pl) (s.getD c.toNat 0).toNat 0 ([],x)).1])):=by
 obtain⟨c1,c2⟩:=hc;have hz:=hs _ (bU (s:=s) (k:=c.toNat) (by omega));have en:(((s.getD c.toNat 0).toNat:Nat):Int)=s.getD c.toNat 0:=by omega
 have ED:=nS hp;have oz:fD c s.length:=⟨c1,c2⟩;have hip:fD c pl.length:=by rw[ED];exact oz
 have hw:∀k,k<(s.getD c.toNat 0).toNat->k*w+w<=(s.getD c.toNat 0).toNat*w:=fun k hk=>by have:(k+1)*w<=(s.getD c.toNat 0).toNat*w:=a3Z w hk;rw[a3C]at this;omega
 refine sV (σ:=LI0×EN) (N:=(s.getD c.toNat 0).toNat) (g:=wM f c pl) (s0:=([],x)) (st:=fun k y=>w2P s o l a c 5 k [] (HP pl ko ex y.2++[oI false false y.1])) (fin:=fun y=>w2P s o l a c 5 (((s.getD c.toNat 0).toNat:Nat):Int) [(70,xl false)] (HP pl ko ex y.2++[oI false false y.1])) (fun k y=>(y.1.length=k∧y.2.1.length<=x.1.length+k*w∧y.2.2.length<=x.2.length+k*w)∧Q y.2) (by kernel_rfl) (by unfold ah;omega) ⟨⟨rfl,by simp,by simp⟩,hQ⟩ (fun j y hj hy=>?_) (fun j y hj hy m e p g=>?_) (fun y _=>?_)
 .obtain⟨⟨h1,h2,h3⟩,hq⟩:=hy;have:=hl (pl.set c.toNat j) y.2;refine⟨⟨by simp[wM,h1],?_,?_⟩,hQf _ _ hq⟩
  .simp only[wM,a3C,aav];omega
  .simp only[wM,a3C,aav];omega
 .obtain⟨⟨h1,h2,h3⟩,hqy⟩:=hy;have Xk:=hw j hj;have hq:jd s (pl.set c.toNat j)=true:=Qq hp oz (by rw[<-en]at hz ⊢;exact⟨by omega,by omega⟩);have aaW:=hf (pl.set c.toNat j) y.2 hq (by omega) (by omega) hqy;have t1:decide ((j:Int)<s.getD c.toNat 0)=true:=by rw[a1n];omega
  unfold wM at g;generalize f (pl.set c.toNat j) y.2=z at aaW g;obtain⟨v,E',N'⟩:=z;exact aJ hO (.o oz (.b t1 (.o hpm (.o hip (.fr [3,4,6] aaW (.o (show y.1.length+[v].length<=ah by simp only[a4b];unfold ah;omega) (.goG [.gc [7,8,10]] g)))))))
 .have t1:decide ((((s.getD c.toNat 0).toNat:Nat):Int)<s.getD c.toNat 0)=false:=by rw[a2b];omega
  exact aJ hO (.o oz (.b t1 .ex))
abbrev w3P(s o:LI0)(c:Int)(x:Int)(y:List (Nat×PE aB))(H:List (PB aB)):aT aB:=⟨[(4,.loc 0 0),(8,.loc 1 0),(12,.loc 2 0),(16,xi x)]++y,[[lI s,lI o,.own 3,.own 4,.int .i64 0],d0P,[.int .i64 c,.own 5]],H⟩
def z3P(s o:LI0)(c:Int)(N:List Br)(H:List (PB aB)):Unit⊕Nat->Ex×aT aB
 |.inl _=>(.exit 4,w3P s o c N.length [(106,xl false)] H)
 |.inr k=>(.ret,⟨[(8,.loc 1 0),(9,xi (k:Int))],[[lI s,lI o,.own 3,.own 4,.int .i64 0],[lI s,lI o,.own 3,.own 4,.int .i64 0],[.int .i64 c,.own 5]],H⟩)
abbrev c3P(N:List Br)(c:Int)(ks:LI0)(k:Nat):Bool:=if((N.getD k kL).var==c)=true then decide ((N.getD k kL).aA=ks)else false
theorem agN{N:List Br}{c:Int}{ks:LI0}{k:Nat}(_:k<N.length):c3P N c ks k=decide (N.getD k kL=⟨c,ks⟩):=by
 unfold c3P;rcases N.getD k kL with⟨v,l⟩;by_cases h1:v=c
 .by_cases h2:l=ks<;>simp[h1,h2]
 simp[h1]
theorem l3P{n:Nat}(hO:Ok n J7)(s o:LI0)(E:List V){N:List Br}(c:Int)(ks pl:LI0)(ko ex:Bool)(hl:N.length<=ah)(hk:∀b∈N,b.aA.length<=ah):JZ n 135 2 3 (w3P s o c 0 [] (HP pl ko ex (E,N)++[oI false false ks])) (z3P s o c N (HP pl ko ex (E,N)++[oI false false ks]) (bg (c3P N c ks) N.length)).1 (z3P s o c N (HP pl ko ex (E,N)++[oI false false ks]) (bg (c3P N c ks) N.length)).2:=by
 refine iJ (st:=fun i _=>w3P s o c i [] (HP pl ko ex (E,N)++[oI false false ks])) (g:=gS (c3P N c ks)) (out:=z3P s o c N (HP pl ko ex (E,N)++[oI false false ks])) (fun _ _=>True) (by kernel_rfl) hl trivial (fun k u m lG _ ih=>?_) (fun _ _=>?_)
 .have h1:=(IC (d:=kL) (p:=fun b=>b.aA.length<=ah)).2 hk k lG;unfold gS c3P;cases e:(N.getD k kL).var==c
  .exact aJ hO (.b (aZ lG) (.o (aC lG) (.b e (.nx (ih _ trivial)))))
  exact aJ hO (.b (aZ lG) (.o (aC lG) (.b e (.o (aC lG) (.o h1 (.ls (.ou nofun) (.nx (ih _ trivial))))))))
 exact aJ hO (.b (eP N.length) (.ou nofun))
structure PtP(s o:LI0)(l:List V):Prop where
 bQ:sJ s
 ord:∀c∈o,fD c s.length
 len:(l.length:Int)=bG s
 a8t:o.length<=ah
 slen:s.length<=ah
theorem a8u(c:Int)(ks:LI0):yh ⟨c,ks⟩=ks.all fun x=>x==ks.getD 0 0:=QA ⟨c,ks⟩
theorem ar4{n:Nat}(hO:Ok n J7){s o:LI0}{l:List V}(h:PtP s o l)(pl:LI0)(ko ex:Bool)(hp:jd s pl=true)(x:EN)(hx:x.1.length+1<=ah):iV (n+1) (.fn 135 [] []) [dP s o 0 1,lV l,.int .i64 o.length,.own 2] [Ak x.1,Am x.2,oI ko ex pl] (.dJ [dP s o 3 4,.int .i64 (i64.wrap (-1-(x.1.idxOf (l.getD (eG s pl).toNat V0):Nat)))]) (HP pl ko ex (fK x.1 (l.getD (eG s pl).toNat V0),x.2)):=by
 obtain⟨E,N⟩:=x;have hr:=xZ hp h.bQ.sz;have Dx:fD (eG s pl) l.length:=⟨hr.1,by rw[h.len];exact hr.2⟩;have t0:((o.length:Int)==(o.length:Int))=true:=by simp
 have hE:E.length+1<=ah:=hx;have l1:=l1P hO s o (E:=E) N (l.getD (eG s pl).toNat V0) pl ko ex (by omega);have hs:=QF (l:=E) (d:=V0) (a:=l.getD (eG s pl).toNat V0) (c:=c1P E (l.getD (eG s pl).toNat V0)) (fun _ _=>rfl);have hf:=h.bQ;show dF X0 Qp _ _ _ _ (.dJ [_,.int .i64 (i64.wrap (-1-(E.idxOf (l.getD (eG s pl).toNat V0):Nat)))]) (HP pl ko ex (fK E (l.getD (eG s pl).toNat V0),N));by_cases c:l.getD (eG s pl).toNat V0∈E
 .rw[show fK E (l.getD (eG s pl).toNat V0)=E from a0I c];rw[hs.1 c]at l1;generalize E.idxOf (l.getD (eG s pl).toNat V0)=j at l1 ⊢;exact dF.gs hX (nK hX hO (first:=[]) (cap:=[]) (v:=.dJ [dP s o 0 1,.int .i64 (i64.wrap (-1-(j:Nat)))]) (H1:=[Ak E,Am N,oI ko ex pl]) (by kernel_rfl) (.b t0 (.o hp (.o hf (.o Dx (.w l1 .er)))))) [.mv 0,.mv 1] rfl
 rw[show fK E (l.getD (eG s pl).toNat V0)=E++[l.getD (eG s pl).toNat V0]from a0F c,a6X c];have hi:=hs.2 c;have hz:z1P s o E (l.getD (eG s pl).toNat V0) [Ak E,Am N,oI ko ex pl] (bg (c1P E (l.getD (eG s pl).toNat V0)) E.length)=(.exit 0,w1P s o (l.getD (eG s pl).toNat V0) E.length [(33,xl false)] [Ak E,Am N,oI ko ex pl]):=by
  cases e:bg (c1P E (l.getD (eG s pl).toNat V0)) E.length with
  |inl _=>rfl
  |inr _=>rw[e]at hi;cases hi
 rw[hz]at l1;have ew:i64.wrap (-1-(E.length:Nat))=i64.wrap (0-((E++[l.getD (eG s pl).toNat V0]).length:Int)):=by rw[a1p,a4b];congr 1;push_cast;omega
 rw[ew];exact dF.gs hX (nK hX hO (first:=[]) (cap:=[]) (v:=.dJ [dP s o 4 1,.int .i64 (i64.wrap (0-((E++[l.getD (eG s pl).toNat V0]).length:Int)))]) (H1:=[.gone,Am N,oI ko ex pl,.list true true 39 [l.getD (eG s pl).toNat V0],Ak (E++[l.getD (eG s pl).toNat V0])]) (by kernel_rfl) (.b t0 (.o hp (.o hf (.o Dx (.w l1 (.o (show E.length+[l.getD (eG s pl).toNat V0].length<=ah by simpa using hE) .er))))))) [.mv 1,.gc [4,5]] rfl
theorem ar5{n:Nat}(hO:Ok n J7){s o:LI0}{l:List V}{a:Nat}{c:Int}(ha:a<o.length)(hc:o.getD a 0=c)(pl:LI0)(ko ex:Bool)(E0:List V)(N0:List Br)(q:Int){ks:LI0}{E:List V}{N:List Br}(hk:1<=ks.length∧ks.length<=12)(hN:N.length+1<=ah)(hb:∀b∈N,b.aA.length<=ah)
  (l2:JZ n 135 1 3 (w2P s o l a c 5 0 [] (HP pl ko ex (E0,N0)++[oI false false []])) (.exit 2) (w2P s o l a c 5 q [(70,xl false)] (HP pl ko ex (E,N)++[oI false false ks]))):iV (n+1) (.fn 135 [] []) [dP s o 0 1,lV l,.int .i64 a,.own 2] [Ak E0,Am N0,oI ko ex pl] (.dJ [dP s o 3 4,.int .i64 (Eo N c ks)]) (HP pl ko ex (E,qh N c ks)):=by
 have t0:((a:Int)==(o.length:Int))=false:=by simp;omega
 have ia:fD (a:Int) o.length:=aC ha;have hkm:ks.length<=ah:=by unfold ah;omega
 have i0:fD 0 ks.length:=⟨by omega,by omega⟩;unfold Eo qh;subst hc;cases hf:ks.all fun x=>x==ks.getD 0 0
 .rw[a0F (by simp),a0F (by simp)];have Y3:yh ⟨o.getD a 0,ks⟩=false:=by rw[a8u];exact hf
  have l3:=l3P hO s o E (o.getD a 0) ks pl ko ex (by omega) hb;have hs:=QF (l:=N) (d:=kL) (a:=⟨o.getD a 0,ks⟩) (c:=c3P N (o.getD a 0) ks) (fun _ h=>agN h);by_cases hm:(⟨o.getD a 0,ks⟩:Br)∈N
  .rw[a0I hm];rw[hs.1 hm]at l3;generalize N.idxOf (⟨o.getD a 0,ks⟩:Br)=j at l3 ⊢;exact dF.gs hX (nK hX hO (first:=[]) (cap:=[]) (v:=.dJ [dP s o 3 4,.int .i64 (j:Nat)]) (H1:=HP pl ko ex (E,N)++[oI false false ks]) (by kernel_rfl) (.b t0 (.o ia (.wG [.mv 0,.mv 1,.Ph 2 1 3] l2 (.o hkm (.b Y3 (.w l3 .er))))))) [.gc [3,4]] rfl
  .rw[a0F hm,a6X hm];have hi:=hs.2 hm;have hz:z3P s o (o.getD a 0) N (HP pl ko ex (E,N)++[oI false false ks]) (bg (c3P N (o.getD a 0) ks) N.length)=(.exit 4,w3P s o (o.getD a 0) N.length [(106,xl false)] (HP pl ko ex (E,N)++[oI false false ks])):=by
    cases e:bg (c3P N (o.getD a 0) ks) N.length with
    |inl _=>rfl
    |inr _=>rw[e]at hi;cases hi
   rw[hz]at l3;have ew:((N.length:Nat):Int)=i64.wrap (((N++[(⟨o.getD a 0,ks⟩:Br)]).length:Int)-1):=by rw[a1p,a4b,eY (by unfold ah at hN;omega) (by unfold ah at hN;omega)];omega
   rw[ew];exact dF.gs hX (nK hX hO (first:=[]) (cap:=[]) (v:=.dJ [dP s o 3 7,.int .i64 (i64.wrap (((N++[(⟨o.getD a 0,ks⟩:Br)]).length:Int)-1))]) (H1:=[.gone,.gone,oI ko ex pl,Ak E,.gone,.gone,.list true true 105 [⟨o.getD a 0,ks⟩],Am (N++[(⟨o.getD a 0,ks⟩:Br)])]) (by kernel_rfl) (.b t0 (.o ia (.wG [.mv 0,.mv 1,.Ph 2 1 3] l2 (.o hkm (.b Y3 (.w l3 (.o (show N.length+[(⟨o.getD a 0,ks⟩:Br)].length<=ah by simpa using hN) .er)))))))) [.gc [3,7]] rfl
 .rw[a0I rfl,a0I rfl];have Y3:yh ⟨o.getD a 0,ks⟩=true:=by rw[a8u];exact hf
  exact dF.gs hX (nK hX hO (first:=[]) (cap:=[]) (v:=.dJ [dP s o 3 4,.int .i64 (ks.getD 0 0)]) (H1:=HP pl ko ex (E,N)++[oI false false ks]) (by kernel_rfl) (.b t0 (.o ia (.wG [.mv 0,.mv 1,.Ph 2 1 3] l2 (.o hkm (.b Y3 (.o i0 .er))))))) [.gc [3,4]] rfl
theorem Wq{s:LI0}{l:List V}(hs:nM s):∀(o p:LI0) (x:EN),(∀c∈o,fD c s.length)->(∀b∈x.2,b.aA.length<=12)->∀b∈(fU s l o p x).2.2,b.aA.length<=12
 | [],p,x,_,hx=>hx
 |c::r,p,x,h,hx=>by
  have:=bV (g:=wM (fU s l r) c p) (m:=(s.getD c.toNat 0).toNat) (k:=0) (s:=([],x)) (fun k y=>y.1.length=k∧∀b∈y.2.2,b.aA.length<=12) ⟨rfl,hx⟩ (fun j y _ _ hy=>⟨by simp[wM,hy.1],Wq hs r _ y.2 (fun c hc=>h c (by simp[hc])) hy.2⟩);rw[a4v]at this;obtain⟨i1,i2⟩:=h c (by simp);have h4:=hs _ (bU (s:=s) (k:=c.toNat) (by omega));simp only[fU];generalize aU (wM (fU s l r) c p) (s.getD c.toNat 0).toNat 0 ([],x)=y at this;intro b hb;unfold qh at hb;split at hb
  .exact this.2 b hb
  split at hb
  .exact this.2 b hb
  rcases a3v.1 hb with hb|hb
  .exact this.2 b hb
  rw[a2U.1 hb];show y.1.length<=12;omega
theorem sPt{n0:Nat}(hO:∀m,n0<=m->Ok m J7){s o:LI0}{l:List V}(h:PtP s o l):∀(r:LI0) (a:Nat) (pl:LI0) (ko ex:Bool) (x:EN),o.drop a=r->a<=o.length->jd s pl=true->x.1.length+wO s r<=ah->x.2.length+wO s r<=ah->(∀b∈x.2,b.aA.length<=12)->dF X0 Qp (iC (n0+r.length+1)) (.fn 135 [] []) [dP s o 0 1,lV l,.int .i64 a,.own 2] [Ak x.1,Am x.2,oI ko ex pl] (.dJ [dP s o 3 4,.int .i64 (fU s l r pl x).1]) (HP pl ko ex (fU s l r pl x).2)
 | [],a,pl,ko,ex,x,hr,ha,hp,h1,h2,_=>by
  have:a=o.length:=by have:=congrArg List.length hr;rw[a4u,a5C]at this;omega
  subst this;exact ar4 (hO _ (by omega)) h pl ko ex hp x h1
 |c::r,a,pl,ko,ex,x,hr,ha,hp,h1,h2,hb=>by
  have aQ:a<o.length:=by have:=congrArg List.length hr;rw[a4u,a4O]at this;omega
  have hd:=a5X aQ;rw[hr]at hd;obtain⟨hc,vZ⟩:=aib hd;have Fq:c∈o:=by rw[hc];exact a5p aQ
  have oz:=h.ord c Fq;have Zr:∀c'∈r,fD c' s.length:=fun c' Rq=>h.ord c' (by rw[vZ]at Rq;exact a5I Rq);have hcg:o.getD a 0=c:=by rw[hc];simp[List.getD,a0D aQ]
  have ho6:i64.wrap ((a:Int)+1)=((a+1:Nat):Int):=by have:=h.a8t;unfold ah at this;rw[eY (by omega) (by omega)];omega
  have hz:=h.bQ.sz _ (bU (s:=s) (k:=c.toNat) (by have:=oz.1;have:=oz.2;omega));have hl:=fun q (x:EN)=>Wp (l:=l) h.bQ.sz r q x Zr;have hp1:=QE h.bQ.sz Zr;simp only[wO]at h1 h2;have hpm:pl.length<=ah:=by rw[nS hp];exact h.slen
  obtain⟨f1,f2,f3⟩:=a2N (f:=fU s l r) (c:=c) (p:=pl) (n:=(s.getD c.toNat 0).toNat) hl x;have ael:=bV (g:=wM (fU s l r) c pl) (m:=(s.getD c.toNat 0).toNat) (k:=0) (s:=([],x)) (fun k y=>∀b∈y.2.2,b.aA.length<=12) hb (fun j y _ _ hy=>Wq h.bQ.sz r _ y.2 Zr hy);have hfx:∀(M:Nat),n0+r.length+1=M->∀q (y:EN),jd s q=true->y.1.length+wO s r<=ah->y.2.length+wO s r<=ah->(∀b∈y.2,b.aA.length<=12)->dF X0 Qp (iC M) (.fn 135 [] []) [dP s o 0 1,lV l,.int .i64 (i64.wrap ((a:Int)+1)),.own 2] [Ak y.1,Am y.2,oI true false q] (.dJ [dP s o 3 4,.int .i64 (fU s l r q y).1]) (HP q true false (fU s l r q y).2):=by rintro M rfl q y hq y1 y2 y3;rw[ho6];exact sPt hO h r (a+1) q true false y vZ.symm aQ hq y1 y2 y3
  have l2:=l2P (hO (n0+(r.length+1)) (by omega)) (s:=s) (o:=o) (l:=l) (a:=a) (c:=c) (pl:=pl) (ko:=ko) (ex:=ex) (f:=fU s l r) (w:=wO s r) h.bQ.sz oz hp hpm x hl ⟨h1,h2⟩ (fun y=>∀b∈y.2,b.aA.length<=12) hb (fun q y hy=>Wq h.bQ.sz r q y Zr hy) (hfx _ (by omega));simp only[fU];generalize aU (wM (fU s l r) c pl) (s.getD c.toNat 0).toNat 0 ([],x)=y at l2 f1 f2 f3 ael;obtain⟨ks,E,N⟩:=y;have f1:ks.length=(s.getD c.toNat 0).toNat:=f1;have f3:N.length+(s.getD c.toNat 0).toNat<=x.2.length+(s.getD c.toNat 0).toNat*wO s r:=f3;exact ar5 (hO (n0+(r.length+1)) (by omega)) aQ hcg pl ko ex x.1 x.2 _ ⟨by omega,by omega⟩ (by omega) (fun b hb=>by have:=ael b hb;unfold ah;omega) l2
open Go Tw Pv cu
def jE(s o:LI0)(l:List V):Dg:=⟨s,o,(fU s l o (List.replicate s.length 0) ([],[])).2.1,(fU s l o (List.replicate s.length 0) ([],[])).2.2,(fU s l o (List.replicate s.length 0) ([],[])).1⟩
theorem J8:∀{s:LI0},nM s->jd s (List.replicate s.length 0)=true
 | [],_=>rfl
 |a::s,h=>by have:=h a (a3E ..);simp only[a4O,aeQ,jd,a2c,a1n];exact⟨⟨aa0 _,by omega⟩,J8 h.tail⟩
theorem ar6{n0:Nat}(hO:∀m,n0<=m->Ok m J7){s o:LI0}{l:List V}(h:PtP s o l)(hw:wO s o<=ah){k1 e1 k2 e2:Bool}:dF X0 Qp (iC (n0+o.length+1)) (.fn 135 [] []) [.agg [.own 0,.own 1,.nil .aP,.nil .aP,.int .i64 0],lV l,.int .i64 0,.own 2] [oI k1 e1 s,oI k2 e2 o,oI true true (List.replicate s.length 0)] (.dJ [dP s o 5 6,.int .i64 (fU s l o (List.replicate s.length 0) ([],[])).1]) [.gone,.gone,oI true true (List.replicate s.length 0),.gone,.gone,Ak (jE s o l).aO,Am (jE s o l).aj]:=by have hb:=sPt hO h o 0 (List.replicate s.length 0) true true ([],[]) rfl (a5u _) (J8 h.bQ.sz) (by simpa using hw) (by simpa using hw) (by simp);unfold jE;generalize fU s l o (List.replicate s.length 0) ([],[])=z at hb ⊢;obtain⟨q,E,N⟩:=z;have h1:=dF.frame hX (ks:=[3,4,2]) (H':=[.gone,.gone,oI true true (List.replicate s.length 0),Ak [],Am []]) (Hp:=[Ak [],Am [],oI true true (List.replicate s.length 0)]) (PZ:=[.gone,.gone,oI true true (List.replicate s.length 0),Ak E,Am N]) (v':=.dJ [dP s o 5 6,.int .i64 q]) (fv':=.fn 135 [] []) (xs':=[.agg ([lI s,lI o]++[.own 3,.own 4,.int .i64 0]),lV l,.int .i64 0,.own 2]) hb (by decide) rfl rfl rfl rfl rfl rfl rfl;have h2:=dF.pre hX (H:=[.gone,.gone,oI true true (List.replicate s.length 0)]) (cs:=[lI s,lI o]++[.nil .aP,.nil .aP,.int .i64 0]) [.Ph 0 2 39,.Ph 0 3 105] h1 rfl;exact dF.fz hX (H:=[oI k1 e1 s,oI k2 e2 o,oI true true (List.replicate s.length 0)]) (cs:=[.own 0,.own 1]) [0,1] h2 rfl (fun i hi=>by simpa[kX.kP,kX]using hi)
def alP:dZ aB:=bK 85 (a3 qQ qQ vsA) dA (fun p=>jE p.1 p.2.1 p.2.2) (fun p=>[PtP p.1 p.2.1 p.2.2,p.2.1.length<=6,wO p.1 p.2.1<=ah]) J7
theorem ar7:Gd alP:=alO.deep 7 fun n hn hO p hp=>by
 obtain⟨s,o,l⟩:=p;have h:PtP s o l:=hp _ gQ;have h6:o.length<=6:=hp _ vX;have hw:wO s o<=ah:=hp _ hh2;have hs:=ar6 (n0:=n-(o.length+1)) (fun m hm=>hO m (by omega)) h hw (k1:=true) (e1:=false) (k2:=true) (e2:=false);rw[show n-(o.length+1)+o.length+1=n by omega]at hs;have hsl:=h.slen;have Rj:=h.a8t;show nR _ _ _ _ _ (dA.put (jE s o l)) _;have e:jE s o l=⟨s,o,(jE s o l).aO,(jE s o l).aj,(jE s o l).root⟩:=rfl;have er:(fU s l o (List.replicate s.length 0) ([],[])).1=(jE s o l).root:=rfl;rw[er]at hs;generalize jE s o l=d at hs e;obtain⟨s',o',E,N,q⟩:=d;injection e with e1 e2;subst e1 e2;have i1:(s'.length:Int)=s'.length:=rfl;have i2:(0:Int)<=s'.length:=by omega
 have i3:(s'.length:Int)<=(ah:Int):=by omega
 exact aI (hO n (by omega)) (.o hsl (.o Rj (.o i1 (.o i2 (.o i3 (.fr [0,1,2] hs .rr))))))
open Go Tw Pv cu
theorem a8v{a b:LI0}(ha:a.length<=12)(he:a.length=b.length)(h:IZ a=IZ b):a=b:=by
 have e:∀l:LI0,l.length<=12->(IZ l).take l.length=l:=fun l hl=>by unfold IZ;rw[afr,a8J hl,List.take_left]
 rw[<-e a ha,<-e b (by omega),h,he]
def NOk(s:LI0)(N:List Br):Prop:=∀b∈N,fD b.var s.length∧(b.aA.length:Int)=s.getD b.var.toNat 0
theorem a8w{s:LI0}(hs:nM s){N:List Br}(h:NOk s N){c:Int}{ks:LI0}(hc:fD c s.length)(hk:(ks.length:Int)=s.getD c.toNat 0){b:Br}(hb:b∈N):Df b=uI c ks↔b=⟨c,ks⟩:=by
 constructor
 .intro e;obtain⟨v,l⟩:=b;have e1:v=c:=congrArg Prod.fst e;subst e1;have e2:IZ l=IZ ks:=congrArg (fun x:Ky=>x.2.1) e;have hl:=(h _ hb).2;have hl:(l.length:Int)=s.getD v.toNat 0:=hl;have hz:=hs _ (bU (s:=s) (k:=v.toNat) (by have:=hc.1;have:=hc.2;omega));rw[a8v (by omega) (by omega) e2]
 rintro rfl;rfl
theorem YH{s:LI0}(hs:nM s){N:List Br}(h:NOk s N){c:Int}{ks:LI0}(hc:fD c s.length)(hk:(ks.length:Int)=s.getD c.toNat 0):eU N c ks=Eo N c ks∧dG N c ks=qh N c ks:=by
 have hm:uI c ks∈N.map Df↔(⟨c,ks⟩:Br)∈N:=by
  rw[a1e];constructor
  .rintro⟨b,hb,e⟩;rw[(a8w hs h hc hk hb).1 e]at hb;exact hb
  intro hb;exact⟨_,hb,rfl⟩
 have hi:(N.map Df).idxOf (uI c ks)=N.idxOf (⟨c,ks⟩:Br):=by
  clear hm
  induction N with
  |nil=>rfl
  |cons b N ih=>
   have e:=a8w hs h hc hk (b:=b) (by simp);rw[a5g,aeo,aeo,ih fun b hb=>h b (by simp[hb])];have:(Df b==uI c ks)=(b==(⟨c,ks⟩:Br)):=by rw[a5w,a6Z,a6Z];exact e
   rw[this]
 unfold eU Eo dG qh;rw[hi];refine⟨rfl,?_⟩;split
 .rfl
 by_cases g:uI c ks∈N.map Df
 .rw[a0I g,a0I (hm.1 g)]
 rw[a0F g,a0F fun x=>g (hm.2 x)]
open Go Tw Pv cu
theorem abB{s:LI0}{a b:LI0}(h:a.Perm b):wO s a=wO s b:=by
 induction h with
 |nil=>rfl
 |cons x _ ih=>simp only[wO,ih]
 |swap x y l=>simp only[wO];rw[<-Nat.mul_assoc,<-Nat.mul_assoc,Nat.mul_comm (s.getD y.toNat 0).toNat]
 |trans _ _ i1 i2=>rw[i1,i2]
theorem YI{s:LI0}(hs:nM s):∀(m k:Nat),k+m=s.length->(wO s ((List.range' k m).map fun(j:Nat)=>(j:Int)):Int)=bG (s.drop k)
 | 0,k,h=>by rw[agT (by omega)];rfl
 |m+1,k,h=>by
  have hk:k<s.length:=by omega
  have hz:=hs _ (bU (s:=s) (k:=k) hk);rw[List.range'_succ,a5g,wO,Qa hk,aeV,YI hs m (k+1) (by omega),a5D,ai0 (by omega)]
theorem Ep{s o:LI0}(hs:nM s)(h:kQ s.length o=true):(wO s o:Int)=bG s:=by have h':=h;unfold kQ at h';rw[a1n]at h';have hi:=Ub s.length;have xk:=hi;unfold kQ at xk;rw[a1n]at xk;have hp:o.Perm (dU s.length):=(a7P h'.2.2 xk.2.2).2 fun a=>⟨fun ha=>mX hi (h'.2.1 a ha),fun ha=>mX h (xk.2.1 a ha)⟩;rw[abB hp];have:=YI hs s.length 0 (by omega);rw[<-List.range_eq_range']at this;exact this
open Go Tw Pv cu
inductive To(d:Dg)(q:LI0):Int->V->Prop
 |fin {r:Int} (h:r<0):To d q r (d.aO.getD (jQ r).toNat V0)
 |step {r:Int} {c:V} (h:0<=r) (t:To d q ((au d r).aA.getD (q.getD (au d r).var.toNat 0).toNat 0) c):To d q r c
theorem To.at_{d:Dg}(h:D8 d){q:LI0}(hq:jd d.ay q=true){r:Int}{c:V}(t:To d q r c):∀F:Nat,r<F->jH d r d.aj.length->c=d.aO.getD (jQ (atF d q F r)).toNat V0:=by
 induction t with
 |fin hr=>
  intro F _ _;cases F with
  |zero=>rfl
  |succ F=>rw[atF,a0I hr]
 |step hr _ ih=>
  intro F hF hk;cases F with
  |zero=>omega
  |succ F=>
   rw[atF,a0F (by omega)];have:=(Qu h hq ⟨hr,hk.1⟩).2.2;exact ih F (by have:=this.1;omega) ⟨by have:=this.1;have:=hk.1;omega,this.2⟩
theorem To.of{d:Dg}(h:D8 d){q:LI0}(hq:jd d.ay q=true):∀(F:Nat) (r:Int),r<F->jH d r d.aj.length->To d q r (d.aO.getD (jQ (atF d q F r)).toNat V0)
 | 0,r,hr,_=>.fin (by omega)
 |F+1,r,hr,hk=>by
  rw[atF];split
  .rename_i c;exact .fin c
  rename_i c;have:=(Qu h hq ⟨by omega,hk.1⟩).2.2;exact .step (by omega) (To.of h hq F _ (by have:=this.1;omega) ⟨by have:=this.1;have:=hk.1;omega,this.2⟩)
theorem To.det{d:Dg}{q:LI0}{r:Int}{a b:V}(h:To d q r a):To d q r b->a=b:=by
 induction h with
 |fin hr=>intro g;cases g with
  |fin _=>rfl
  |step h _=>omega
 |step hr _ ih=>intro g;cases g with
  |fin h=>omega
  |step _ t=>exact ih t
theorem BQ(E:List V)(v:V):E <+: fK E v:=by
 unfold fK;split
 .exact a5r
 exact a9D _ _
theorem J9(N:List Br)(c:Int)(ks:LI0):N <+: qh N c ks:=by
 unfold qh;split
 .exact a5r
 split
 .exact a5r
 exact a9D _ _
def QG(x y:EN):Prop:=x.1 <+: y.1∧x.2 <+: y.2
theorem QG.rfl{x:EN}:QG x x:=⟨a5r,a5r⟩
theorem QG.trans{x y z:EN}(a:QG x y)(b:QG y z):QG x z:=⟨a.1.trans b.1,a.2.trans b.2⟩
theorem QH{s:LI0}{l:List V}:∀(r p:LI0) (x:EN),QG x (fU s l r p x).2
 | [],p,x=>⟨BQ _ _,a5r⟩
 |c::r,p,x=>by have:=bV (g:=wM (fU s l r) c p) (m:=(s.getD c.toNat 0).toNat) (k:=0) (s:=([],x)) (fun _ y=>QG x y.2) QG.rfl (fun j y _ _ hy=>hy.trans (QH r _ y.2));exact⟨this.1,this.2.trans (J9 _ _ _)⟩
theorem Ap{α:Type}{a b:List α}{d:α}(h:a <+: b){k:Nat}(hk:k<a.length):b.getD k d=a.getD k d:=by obtain⟨t,rfl⟩:=h;simp[List.getD,a0E hk]
theorem QI{k:Nat}(hk:k<2^61):i64.wrap (-1-(k:Int))=-1-(k:Int)∧jQ (-1-(k:Int))=(k:Int):=by refine⟨eY (by omega) (by omega),?_⟩;unfold jQ;rw[eY (by omega) (by omega)];omega
theorem Ul(E:List V)(v:V):E.idxOf v<(fK E v).length∧(fK E v).getD (E.idxOf v) V0=v:=by
 unfold fK;split
 .rename_i h;have:=a5t.2 h;exact⟨this,by simp[List.getD,a0D this]⟩
 rename_i h;rw[a6X h];exact⟨by simp,by simp[List.getD]⟩
theorem Ws{N:List Br}{c:Int}{ks:LI0}(hf:¬(ks.all fun x=>x==ks.getD 0 0)=true):N.idxOf (⟨c,ks⟩:Br)<(qh N c ks).length∧(qh N c ks).getD (N.idxOf (⟨c,ks⟩:Br)) kL=⟨c,ks⟩:=by
 unfold qh;rw[a0F hf];split
 .rename_i h;have:=a5t.2 h;exact⟨this,by simp[List.getD,a0D this]⟩
 rename_i h;rw[a6X h];exact⟨by simp,by simp[List.getD]⟩
def Agr(s r q p:LI0):Prop:=∀k:Nat,k<s.length->(k:Int)∉r->q.getD k 0=p.getD k 0
theorem Agr.set{s r q p:LI0}{c:Int}(hc:fD c s.length)(hp:p.length=s.length)(h:Agr s (c::r) q p):Agr s r q (p.set c.toNat (q.getD c.toNat 0)):=fun k hk hr=>by
 by_cases e:k=c.toNat
 .subst e;have e2:(p.set c.toNat (q.getD c.toNat 0)).getD c.toNat 0=q.getD c.toNat 0:=by simp[List.getD,a1Z (show c.toNat<p.length by omega)]
  exact e2.symm
 .rw[show(p.set c.toNat (q.getD c.toNat 0)).getD k 0=p.getD k 0 by rw[List.getD,a1j (Ne.symm e)];rfl];exact h k hk (by simp only[a2x,aeh];exact⟨fun e2=>e (by omega),hr⟩)
theorem Agr.back{s r q p:LI0}{c j:Int}(hc:fD c s.length)(h:Agr s r q (p.set c.toNat j)):Agr s (c::r) q p:=fun k hk hr=>by simp only[a2x,aeh]at hr;have hc:=hc.1;have e:k≠c.toNat:=fun e=>hr.1 (by omega);have:=h k hk hr.2;rw[this,List.getD,a1j (Ne.symm e)];rfl
theorem agP{s q p:LI0}(hq:q.length=s.length)(hp:p.length=s.length)(h:Agr s [] q p):q=p:=(o8 (d:=(0:Int)) (by omega)).2 fun k hk=>h k (by omega) (by simp)
theorem a4F{ks:LI0}(h:(ks.all fun x=>x==ks.getD 0 0)=true){j:Nat}(hj:j<ks.length):ks.getD j 0=ks.getD 0 0:=by rw[a5s]at h;have:=h (ks.getD j 0) (bU hj);simpa using this
theorem aen{s:LI0}{l:List V}(hs:nM s):∀(r p:LI0) (x:EN),(∀c∈r,fD c s.length)->p.length=s.length->∀d:Dg,d.aO.length<2^61->(fU s l r p x).2.1 <+: d.aO->(fU s l r p x).2.2 <+: d.aj->∀q,jd s q=true->Agr s r q p->To d q (fU s l r p x).1 (l.getD (eG s q).toNat V0)
 | [],p,x,_,hp,d,hd,h1,_,q,hq,ha=>by
  have e:=agP (nS hq) hp ha;subst e;obtain⟨g1,g2⟩:=Ul x.1 (l.getD (eG s q).toNat V0);have h1:fK x.1 (l.getD (eG s q).toNat V0) <+: d.aO:=h1;have aQ:x.1.idxOf (l.getD (eG s q).toNat V0)<2^61:=by have:=h1.length_le;omega
  obtain⟨e1,e2⟩:=QI aQ;show To d q (i64.wrap (-1-(x.1.idxOf (l.getD (eG s q).toNat V0):Nat))) _;rw[e1];have:=To.fin (d:=d) (q:=q) (r:=-1-((x.1.idxOf (l.getD (eG s q).toNat V0):Nat):Int)) (by omega);rw[e2,a5D,Ap h1 g1,g2]at this;exact this
 |c::r,p,x,hr,hp,d,hd,h1,h2,q,hq,ha=>by
  have hc:=hr c (by simp);have Zr:∀c'∈r,fD c' s.length:=fun c' h=>hr c' (by simp[h]);have Zk:=(mg.1 hq).2 c.toNat (by have:=hc.1;have:=hc.2;omega);have inv:=bV (g:=wM (fU s l r) c p) (m:=(s.getD c.toNat 0).toNat) (k:=0) (s:=([],x)) (fun k y=>y.1.length=k∧∀j:Nat,j<k->y.2.1 <+: d.aO->y.2.2 <+: d.aj->∀q,jd s q=true->Agr s r q (p.set c.toNat j)->To d q (y.1.getD j 0) (l.getD (eG s q).toNat V0)) ⟨rfl,fun j hj=>by omega⟩ (fun j y _ hj hy=>by
   obtain⟨y1,y2⟩:=hy;refine⟨by simp[wM,y1],fun j' Ey g1 g2 q hq ha=>?_⟩;have Fe:=QH (s:=s) (l:=l) r (p.set c.toNat j) y.2;by_cases e:j'<j
   .have:(wM (fU s l r) c p j y).1.getD j' 0=y.1.getD j' 0:=by show(y.1++_).getD j' 0=_;simp[List.getD,a0E (show j'<y.1.length by omega)]
    rw[this];exact y2 j' e (Fe.1.trans g1) (Fe.2.trans g2) q hq ha
   have e:j'=j:=(by omega);subst e;have:(wM (fU s l r) c p j' y).1.getD j' 0=(fU s l r (p.set c.toNat j') y.2).1:=by show(y.1++[_]).getD j' 0=_;simp[List.getD,<-y1]
   rw[this];exact aen hs r _ y.2 Zr (by simp[hp]) d hd g1 g2 q hq ha)
  rw[a4v]at inv;simp only[fU]at h1 h2 ⊢;generalize aU (wM (fU s l r) c p) (s.getD c.toNat 0).toNat 0 ([],x)=y at inv h1 h2;obtain⟨ks,E,N⟩:=y;obtain⟨hlen,inv⟩:=inv;have hlen:ks.length=(s.getD c.toNat 0).toNat:=hlen;have h2:qh N c ks <+: d.aj:=h2;have hj:(q.getD c.toNat 0).toNat<(s.getD c.toNat 0).toNat:=by omega
  have WW:((q.getD c.toNat 0).toNat:Int)=q.getD c.toNat 0:=by omega
  have t:=inv (q.getD c.toNat 0).toNat hj h1 ((J9 N c ks).trans h2) q hq (by rw[WW];exact Agr.set hc hp ha);have t:To d q (ks.getD (q.getD c.toNat 0).toNat 0) (l.getD (eG s q).toNat V0):=t;show To d q (Eo N c ks) _;by_cases hf:(ks.all fun x=>x==ks.getD 0 0)=true
  .rw[show Eo N c ks=ks.getD 0 0 from a0I hf];rw[a4F hf (by omega)]at t;exact t
  rw[show Eo N c ks=(N.idxOf (⟨c,ks⟩:Br):Nat)from a0F hf];obtain⟨g1,g2⟩:=Ws (N:=N) (c:=c) hf;have en:au d ((N.idxOf (⟨c,ks⟩:Br):Nat):Int)=⟨c,ks⟩:=by unfold au;rw[a5D,Ap h2 g1,g2]
  refine .step (by omega) ?_;rw[en];exact t
open Go Tw Pv cu
def Fv(o:LI0)(N:List Br)(r:Int):Nat:=if r<0 then o.length else o.idxOf (N.getD r.toNat kL).var
def Dc(o:LI0)(x:EN)(v:Int)(b a:Nat):Prop:=(v<0->fD (jQ v) x.1.length)∧v<(b:Int)∧a<=Fv o x.2 v
structure PtV(s o:LI0)(x:EN):Prop where
 var:∀i,i<x.2.length->fD (x.2.getD i kL).var s.length
 ksz:∀i,i<x.2.length->((x.2.getD i kL).aA.length:Int)=s.getD (x.2.getD i kL).var.toNat 0
 Ah:∀i,i<x.2.length->∀k,k<(x.2.getD i kL).aA.length->Dc o x ((x.2.getD i kL).aA.getD k 0) i (o.idxOf (x.2.getD i kL).var+1)
theorem Dc.mono{o:LI0}{x y:EN}{v:Int}{b b' a a':Nat}(h:Dc o x v b a)(hp:QG x y)(hb:b<=b')(hx:b<=x.2.length)(ha:a'<=a):Dc o y v b' a':=by
 obtain⟨h1,h2,h3⟩:=h;refine⟨fun hv=>⟨(h1 hv).1,by have:=(h1 hv).2;have:=hp.1.length_le;omega⟩,by omega,?_⟩;unfold Fv at h3 ⊢;split
 .rename_i c;rw[a0I c]at h3;omega
 rename_i c;rw[a0F c]at h3;rw[Ap hp.2 (by omega)];omega
theorem a8x{s o:LI0}{l:List V}(hs:nM s)(ho:∀c∈o,fD c s.length)(hn:o.Nodup):∀(r:LI0) (a:Nat) (p:LI0) (x:EN),o.drop a=r->a<=o.length->PtV s o x->(fU s l r p x).2.1.length<2^61->PtV s o (fU s l r p x).2∧Dc o (fU s l r p x).2 (fU s l r p x).1 (fU s l r p x).2.2.length a
 | [],a,p,x,hr,ha,hx,hE=>by
  have:a=o.length:=by have:=congrArg List.length hr;rw[a4u,a5C]at this;omega
  subst this;obtain⟨g1,g2⟩:=Ul x.1 (l.getD (eG s p).toNat V0);have hE:(fK x.1 (l.getD (eG s p).toNat V0)).length<2^61:=hE;obtain⟨e1,e2⟩:=QI (k:=x.1.idxOf (l.getD (eG s p).toNat V0)) (by omega);have hp:QG x (fK x.1 (l.getD (eG s p).toNat V0),x.2):=⟨BQ _ _,a5r⟩;refine⟨⟨hx.var,hx.ksz,fun i hi k hk=>(hx.Ah i hi k hk).mono hp (a15 _) (a9U hi) (a15 _)⟩,?_⟩;show Dc o _ (i64.wrap (-1-(x.1.idxOf (l.getD (eG s p).toNat V0):Nat))) _ _;rw[e1];refine⟨fun _=>by rw[e2];exact⟨by omega,by show _<((fK x.1 (l.getD (eG s p).toNat V0)).length:Int);omega⟩,by omega,?_⟩;unfold Fv;rw[a0I (by omega)];exact a15 _
 |c::r,a,p,x,hr,ha,hx,hE=>by
  have aQ:a<o.length:=by have:=congrArg List.length hr;rw[a4u,a4O]at this;omega
  have hd:=a5X aQ;rw[hr]at hd;obtain⟨hc,vZ⟩:=aib hd;have Fq:c∈o:=by rw[hc];exact a5p aQ
  have oz:=ho c Fq;have hia:o.idxOf c=a:=by rw[hc];exact hn.idxOf_getElem a aQ
  have hz:=hs _ (bU (s:=s) (k:=c.toNat) (by have:=oz.1;have:=oz.2;omega));have mono:=fun(n:Nat) (m:Nat) (y:LI0×EN)=>(bV (g:=wM (fU s l r) c p) (m:=m) (k:=n) (s:=y) (fun _ z=>QG y.2 z.2) QG.rfl (fun j z _ _ hz=>hz.trans (QH r _ z.2)));have hEf:(aU (wM (fU s l r) c p) (s.getD c.toNat 0).toNat 0 ([],x)).2.1.length<2^61:=hE;have inv:=bV (g:=wM (fU s l r) c p) (m:=(s.getD c.toNat 0).toNat) (k:=0) (s:=([],x)) (fun k y=>y.1.length=k∧(y.2.1.length<2^61->PtV s o y.2∧∀j:Nat,j<k->Dc o y.2 (y.1.getD j 0) y.2.2.length (a+1))) ⟨rfl,fun _=>⟨hx,fun j hj=>by omega⟩⟩ (fun j y _ hj hy=>by
   obtain⟨y1,y2⟩:=hy;refine⟨by simp[wM,y1],fun hE=>?_⟩;have Fe:=QH (s:=s) (l:=l) r (p.set c.toNat j) y.2;have hE:(fU s l r (p.set c.toNat j) y.2).2.1.length<2^61:=hE;obtain⟨v1,v2⟩:=y2 (by have:=Fe.1.length_le;omega);obtain⟨w1,w2⟩:=a8x hs ho hn r (a+1) (p.set c.toNat j) y.2 vZ.symm aQ v1 hE;refine⟨w1,fun j' Ey=>?_⟩;by_cases e:j'<j
   .have:(wM (fU s l r) c p j y).1.getD j' 0=y.1.getD j' 0:=by show(y.1++_).getD j' 0=_;simp[List.getD,a0E (show j'<y.1.length by omega)]
    rw[this];exact(v2 j' e).mono Fe Fe.2.length_le (a15 _) (a15 _)
   have e:j'=j:=(by omega);subst e;have:(wM (fU s l r) c p j' y).1.getD j' 0=(fU s l r (p.set c.toNat j') y.2).1:=by show(y.1++[_]).getD j' 0=_;simp[List.getD,<-y1]
   rw[this];exact w2)
  rw[a4v]at inv;simp only[fU];generalize aU (wM (fU s l r) c p) (s.getD c.toNat 0).toNat 0 ([],x)=y at inv hEf;obtain⟨ks,E,N⟩:=y;obtain⟨hlen,inv⟩:=inv;obtain⟨i1,i2⟩:=inv hEf;have hlen:ks.length=(s.getD c.toNat 0).toNat:=hlen;have i2:∀j:Nat,j<(s.getD c.toNat 0).toNat->Dc o (E,N) (ks.getD j 0) N.length (a+1):=i2;have Fe:QG (E,N) (E,qh N c ks):=⟨a5r,J9 N c ks⟩;show PtV s o (E,qh N c ks)∧Dc o (E,qh N c ks) (Eo N c ks) (qh N c ks).length a;by_cases hf:(ks.all fun x=>x==ks.getD 0 0)=true
  .rw[show Eo N c ks=ks.getD 0 0 from a0I hf,show qh N c ks=N from a0I hf];exact⟨i1,(i2 0 (by omega)).mono QG.rfl (a15 _) (a15 _) (by omega)⟩
  obtain⟨g1,g2⟩:=Ws (N:=N) (c:=c) hf;rw[show Eo N c ks=(N.idxOf (⟨c,ks⟩:Br):Nat)from a0F hf];have LU:a<=Fv o (qh N c ks) ((N.idxOf (⟨c,ks⟩:Br):Nat):Int):=by unfold Fv;rw[a0F (by omega),a5D,g2];show a<=o.idxOf c;omega
  refine⟨?_,⟨fun h=>by omega,by omega,LU⟩⟩;by_cases hm:(⟨c,ks⟩:Br)∈N
  .rw[show qh N c ks=N by unfold qh;rw[a0F hf,a0I hm]];exact i1
  have eN:qh N c ks=N++[⟨c,ks⟩]:=by unfold qh;rw[a0F hf,a0F hm]
  rw[eN]at Fe ⊢;have hold:∀i,i<N.length->(N++[(⟨c,ks⟩:Br)]).getD i kL=N.getD i kL:=fun i hi=>Ap (a9D _ _) hi;have gG:(N++[(⟨c,ks⟩:Br)]).getD N.length kL=⟨c,ks⟩:=by simp[List.getD]
  have vY:∀i,i<(N++[(⟨c,ks⟩:Br)]).length->i<N.length∨i=N.length:=fun i hi=>by rw[a1p,a4b]at hi;omega
  refine⟨fun i hi=>?_,fun i hi=>?_,fun i hi k hk=>?_⟩
  .show fD ((N++[(⟨c,ks⟩:Br)]).getD i kL).var s.length;rcases vY i hi with h|rfl
   .rw[hold i h];exact i1.var i h
   rw[gG];exact oz
  .show(((N++[(⟨c,ks⟩:Br)]).getD i kL).aA.length:Int)=s.getD ((N++[(⟨c,ks⟩:Br)]).getD i kL).var.toNat 0;rcases vY i hi with h|rfl
   .rw[hold i h];exact i1.ksz i h
   rw[gG];show(ks.length:Int)=s.getD c.toNat 0;omega
  have hk:k<((N++[(⟨c,ks⟩:Br)]).getD i kL).aA.length:=hk;show Dc o (E,N++[(⟨c,ks⟩:Br)]) (((N++[(⟨c,ks⟩:Br)]).getD i kL).aA.getD k 0) i (o.idxOf ((N++[(⟨c,ks⟩:Br)]).getD i kL).var+1);rcases vY i hi with h|rfl
  .rw[hold i h]at hk ⊢;exact(i1.Ah i h k hk).mono Fe (a15 _) (a9U h) (a15 _)
  rw[gG]at hk ⊢;have hk:k<ks.length:=hk;exact(i2 k (by omega)).mono Fe (a15 _) (a15 _) (by show o.idxOf c+1<=a+1;omega)
open Go Tw Pv cu
theorem NV(d:Dg)(v:Int):uH d v=(Fv d.aH d.aj v:Int):=by
 unfold uH Fv;by_cases c:v<0
 .rw[a0I (by simpa using c),a0I c]
 rw[a0F (by simpa using c),a0F c];have hs:=QF (l:=d.aH) (d:=0) (a:=(au d v).var) (c:=Qr d v) (fun k _=>by unfold Qr;rw[a5w];simp);by_cases hm:(au d v).var∈d.aH
 .rw[hs.1 hm];rfl
 rw[a0I (hs.2 hm),a6X hm]
theorem Um{d:Dg}(hm:d.aO.length<=ah)(hf:(bY d.ay d.aH != 0)=false)(hv:∀v∈d.aO,vOk v=true)(hn:d.aj.length<=6000)(hp:PtV d.ay d.aH (d.aO,d.aj))(hr:Dc d.aH (d.aO,d.aj) d.root d.aj.length 0):bf d=0:=by
 obtain⟨bQ,QJ⟩:=kE.1 (show bY d.ay d.aH=0 by simpa using hf);have alQ:∀(v:Int) (b a:Nat),Dc d.aH (d.aO,d.aj) v b a->iW d v b=true:=fun v b a h=>by
  unfold iW;split
  .simpa using h.2.1
  rename_i c;have c:v<0:=by simpa using c
  have:=h.1 c;have e:i64.wrap ((d.aO.length:Int)-1)=(d.aO.length:Int)-1:=by unfold ah at hm;rw[eY (by omega) (by omega)]
  rw[sU,e];have h2:=this.2;have h2:jQ v<(d.aO.length:Int):=h2;exact⟨this.1,by show jQ v<=_;omega⟩
 have hl:mW d=true:=by
  unfold mW;rw[a0I (dK.2 fun j hj=>by rw[cLe,hv _ (by simp[List.getD,a0D hj])];rfl),a0I (dK.2 fun i hi=>?_)]
  .exact alQ _ _ _ hr
  have h1:=hp.var i hi;have h2:=hp.ksz i hi;have h3:=hp.Ah i hi;have h1:fD (fH d i).var d.ay.length:=h1;have h2:((fH d i).aA.length:Int)=d.ay.getD (fH d i).var.toNat 0:=h2;have e:xw d.ay=(d.ay.length:Int)-1:=by have:=bQ.len;unfold xw;rw[eY (by omega) (by omega)]
  unfold cLn;rw[a0F,a0F (by rw[h2];simp),a0I]
  .refine dK.2 fun k hk=>?_;have h4:=h3 k hk;unfold cLk;rw[a0F (by rw[alQ _ _ _ h4];simp),a2b,NV,NV];have h5:=h4.2.2;have e6:Fv d.aH d.aj ((i:Nat):Int)=d.aH.idxOf (fH d i).var:=by unfold Fv;rw[a0F (by omega),a5D]
   rw[e6];have h5:d.aH.idxOf (fH d i).var+1<=Fv d.aH d.aj ((d.aj.getD i kL).aA.getD k 0):=h5;omega
  have:mD (fH d i).var 0 (xw d.ay)=true:=by rw[sU,e];have:=h1.1;have:=h1.2;exact⟨by omega,by omega⟩
  rw[this];simp
 unfold bf;rw[a0F (by rw[hf];simp),a0F (by rw[a1n];omega),a0F (by rw[hl];simp)]
structure OfP(s o:LI0)(l:List V):Prop where
 bQ:sJ s
 ord:kQ s.length o=true
 len:(l.length:Int)=bG s
theorem OfP.p{s o:LI0}{l:List V}(h:OfP s o l):PtP s o l∧o.Nodup∧o.length=s.length:=by have ho:=h.ord;unfold kQ at ho;rw[a1n]at ho;have:=h.bQ.len;exact⟨⟨h.bQ,fun c hc=>⟨(ho.2.1 c hc).1,(ho.2.1 c hc).2⟩,h.len,by unfold ah;omega,by unfold ah;omega⟩,ho.2.2,ho.1⟩
theorem YJ{s:LI0}{l:List V}:∀(r p:LI0) (x:EN),(∀q,l.getD (eG s q).toNat V0∈l∨True)->(∀q,jd s q=true->l.getD (eG s q).toNat V0∈l)->jd s p=true->(∀c∈r,fD c s.length)->nM s->(∀v∈x.1,v∈l)->∀v∈(fU s l r p x).2.1,v∈l
 | [],p,x,_,h,hp,_,_,hx,v,hv=>by
  have hv:v∈fK x.1 (l.getD (eG s p).toNat V0):=hv;unfold fK at hv;split at hv
  .exact hx v hv
  rcases a3v.1 hv with hv|hv
  .exact hx v hv
  rw[a2U.1 hv];exact h p hp
 |c::r,p,x,h0,h,hp,hr,hs,hx,v,hv=>by have hc:=hr c (by simp);have hz:=hs _ (bU (s:=s) (k:=c.toNat) (by have:=hc.1;have:=hc.2;omega));have:=bV (g:=wM (fU s l r) c p) (m:=(s.getD c.toNat 0).toNat) (k:=0) (s:=([],x)) (fun _ y=>∀v∈y.2.1,v∈l) hx (fun j y _ hj hy=>YJ r _ y.2 h0 h (Qq hp hc ⟨by omega,by omega⟩) (fun c hc=>hr c (by simp[hc])) hs hy);exact this v hv
theorem GR{s o:LI0}{l:List V}(h:OfP s o l)(hv:∀v∈l,vOk v=true):bf (jE s o l)=0∧(jE s o l).aO.length<=2000∧(∀v∈(jE s o l).aO,v∈l)∧PtV s o ((jE s o l).aO,(jE s o l).aj)∧Dc o ((jE s o l).aO,(jE s o l).aj) (jE s o l).root (jE s o l).aj.length 0:=by
 obtain⟨hP,hn,ho⟩:=h.p;have hz:=J8 h.bQ.sz;have hm:=h.bQ.many;have hlen:=Wp (l:=l) h.bQ.sz o (List.replicate s.length 0) ([],[]) hP.ord;have hw:=Ep h.bQ.sz h.ord;have a3t:∀q,jd s q=true->l.getD (eG s q).toNat V0∈l:=fun q hq=>by
  have:=xZ hq h.bQ.sz;have:=h.len;have aQ:(eG s q).toNat<l.length:=by omega
  simp[List.getD,a0D aQ]
 have pO:=YJ o (List.replicate s.length 0) ([],[]) (fun _=>.inr trivial) a3t hz hP.ord h.bQ.sz (by simp);have XB:=a8x (l:=l) h.bQ.sz hP.ord hn o 0 (List.replicate s.length 0) ([],[]) rfl (a5u _) ⟨fun i hi=>(by simp at hi),fun i hi=>(by simp at hi),fun i hi=>(by simp at hi)⟩ (by have:=hlen.1;simp at this;omega);have h1:(jE s o l).aO.length<=0+wO s o:=hlen.1;have h2:(jE s o l).aj.length+1<=0+wO s o:=hlen.2;refine⟨Um (by unfold ah;omega) ?_ (fun v hv2=>hv v (pO v hv2)) (by omega) XB.1 XB.2,by omega,pO,XB.1,XB.2⟩;have:bY s o=0:=kE.2 ⟨h.bQ,h.ord⟩;show(bY s o != 0)=false;rw[this];rfl
theorem abC{s o:LI0}{l:List V}(h:OfP s o l)(hv:∀v∈l,vOk v=true){q:LI0}(hq:jd s q=true):vH (jE s o l) q=l.getD (eG s q).toNat V0:=by
 obtain⟨hP,hn,ho⟩:=h.p;obtain⟨h1,h2,h3,h4,h5⟩:=GR h hv;have ht:=jo (d:=jE s o l) hP.a8t (by unfold ah;omega) (by rw[h1];rfl);have hto:=aen (l:=l) h.bQ.sz o (List.replicate s.length 0) ([],[]) hP.ord (by simp) (jE s o l) (by omega) a5r a5r q hq (fun k hk Zm=>by exfalso;exact Zm (mX h.ord ⟨by omega,by omega⟩))
 have hr:=ht.1.root;exact(hto.at_ ht.1 hq 6001 (by have:=hr.1;have:=ht.2;show(jE s o l).root<_;omega) hr).symm
theorem a0J{s o:LI0}{l:List V}(h:OfP s o l)(hv:∀v∈l,vOk v=true):cellsD (jE s o l)=l:=by have hl:=h.len;unfold cellsD;refine a9Y (by simp[E8,jE];omega) fun n h1 h2=>?_;have hp:=wW (n:Int) h.bQ.sz;simp only[a9L,ai8];show vH (jE s o l) (jO s n)=_;rw[abC h hv hp,NR h.bQ.sz (by omega) (by omega)];simp[List.getD,a0D h2]
open Go Tw Pv cu
def Kn(d:Dg)(x:Cs)(v:Int):Prop:=if v<0 then qG d v∈x.e else v∈x.k.map (·.1)
def vU(d:Dg)(x:Cs)(v:Int):Int:=if v<0 then i64.wrap (-1-(x.e.idxOf (qG d v):Nat))else Wh x.k v
def BU(x y:Cs):Prop:=x.e <+: y.e∧x.n <+: y.n∧x.k <+: y.k
theorem BU.rfl{x:Cs}:BU x x:=⟨a5r,a5r,a5r⟩
theorem BU.trans{x y z:Cs}(a:BU x y)(b:BU y z):BU x z:=⟨a.1.trans b.1,a.2.1.trans b.2.1,a.2.2.trans b.2.2⟩
theorem Kn.mono{d:Dg}{x y:Cs}{v:Int}(h:Kn d x v)(hp:BU x y):Kn d y v:=by
 unfold Kn at h ⊢;split
 .rename_i c;rw[a0I c]at h;exact hp.1.subset h
 rename_i c;rw[a0F c]at h;obtain⟨t,ht⟩:=hp.2.2;rw[<-ht,a4Z,a3v];exact .inl h
theorem Un{α:Type}[BEq α][LawfulBEq α]{a b:List α}{v:α}(h:v∈a)(hp:a <+: b):b.idxOf v=a.idxOf v:=by obtain⟨t,rfl⟩:=hp;rw[aap,a0I h]
theorem a2O{a b:List (Int×Int)}{v:Int}(h:v∈a.map (·.1))(hp:a <+: b):Wh b v=Wh a v:=by
 obtain⟨t,rfl⟩:=hp;unfold Wh;rw[List.find?_append];cases e:a.find? fun p=>p.1==v with
 |none=>
  rw[a1e]at h;obtain⟨p,hp,rfl⟩:=h;have:=afq.1 e p hp;simp at this
 |some q=>rfl
theorem Uo{d:Dg}{x y:Cs}{v:Int}(h:Kn d x v)(hp:BU x y):vU d y v=vU d x v:=by
 unfold Kn at h;unfold vU;split
 .rename_i c;rw[a0I c]at h;rw[Un h hp.1]
 rename_i c;rw[a0F c]at h;rw[a2O h hp.2.2]
theorem YK{E:List V}{v:V}(h:v∈E):fK E v=E:=a0I h
theorem LV(N:List Br)(c:Int)(ks:LI0):N <+: dG N c ks:=by
 unfold dG;split
 .exact a5r
 split
 .exact a5r
 exact a9D _ _
theorem a0K{N M:List Br}{c:Int}{ks:LI0}(h:dG N c ks=N)(hp:N <+: M):dG M c ks=M∧eU M c ks=eU N c ks:=by
 unfold dG at h ⊢;unfold eU;by_cases hf:(ks.all fun x=>x==ks.getD 0 0)=true
 .rw[a0I hf,a0I hf,a0I hf];exact⟨rfl,rfl⟩
 rw[a0F hf]at h ⊢;rw[a0F hf,a0F hf];by_cases hm:uI c ks∈N.map Df
 .have hp2:N.map Df <+: M.map Df:=by obtain⟨t,rfl⟩:=hp;rw[a4Z];exact a9D _ _
  rw[a0I (hp2.subset hm),Un hm hp2];exact⟨rfl,rfl⟩
 rw[a0F hm]at h;have:=congrArg List.length h;simp at this
theorem a4G(N:List Br)(c:Int)(ks:LI0):dG (dG N c ks) c ks=dG N c ks∧eU (dG N c ks) c ks=eU N c ks:=by
 unfold eU;by_cases hf:(ks.all fun x=>x==ks.getD 0 0)=true
 .rw[a0I hf,a0I hf];have:dG N c ks=N:=a0I hf;rw[this,this];exact⟨rfl,rfl⟩
 rw[a0F hf,a0F hf];by_cases hm:uI c ks∈N.map Df
 .have:dG N c ks=N:=by unfold dG;rw[a0F hf,a0I hm]
  rw[this,this];exact⟨rfl,rfl⟩
 have e:dG N c ks=N++[⟨c,ks⟩]:=by unfold dG;rw[a0F hf,a0F hm]
 have hm2:uI c ks∈(N++[(⟨c,ks⟩:Br)]).map Df:=by rw[a4Z];simp
 have e2:dG (N++[⟨c,ks⟩]) c ks=N++[⟨c,ks⟩]:=by unfold dG;rw[a0F hf,a0I hm2]
 rw[e,e2];refine⟨rfl,?_⟩;rw[a4Z,aap,a0F hm,a6X hm];simp
abbrev aS(d:Dg)(v:Int):LI0:=(au d v).aA
def YL(d:Dg)(x:Cs):Prop:=∀v∈x.k.map (·.1),(∀j,j<(aS d v).length->Kn d x ((aS d v).getD j 0))∧eU x.n (au d v).var ((aS d v).map (vU d x))=Wh x.k v∧dG x.n (au d v).var ((aS d v).map (vU d x))=x.n
abbrev Dh(d:Dg)(F:Nat)(r:Int)(j:Nat)(y:LI0×Cs):LI0×Cs:=(y.1.set j (cO d F ((aS d r).getD j 0) y.2).1,(cO d F ((aS d r).getD j 0) y.2).2)
theorem a8y{d:Dg}:∀(F:Nat) (r:Int) (x:Cs),BU x (cO d F r x).2
 | 0,_,x=>BU.rfl
 |F+1,r,x=>by
  unfold cO;split
  .exact⟨BQ _ _,a5r,a5r⟩
  split
  .exact BU.rfl
  have:=bV (g:=Dh d F r) (m:=(aS d r).length) (k:=0) (s:=(List.replicate (aS d r).length 0,x)) (fun _ y=>BU x y.2) BU.rfl (fun j y _ _ hy=>hy.trans (a8y F _ y.2));exact⟨this.1,this.2.1.trans (LV _ _ _),this.2.2.trans (a9D _ _)⟩
theorem NW{d:Dg}{F:Nat}{v:Int}{x:Cs}(h:Kn d x v):cO d (F+1) v x=(vU d x v,x):=by
 unfold Kn at h;unfold cO vU;by_cases c:v<0
 .rw[a0I (by simpa using c),a0I c];rw[a0I c]at h;rw[YK h]
 rw[a0F c]at h;rw[a0F (by simpa using c),a0I (by simpa using h),a0F c]
theorem QK{d:Dg}{x y:Cs}{ks:LI0}(h:∀j,j<ks.length->Kn d x (ks.getD j 0))(hp:BU x y):ks.map (vU d y)=ks.map (vU d x):=by refine a5v fun v hv=>?_;obtain⟨j,hj,rfl⟩:=a9F hv;have:=h j hj;rw[List.getD,a0D hj]at this;exact Uo this hp
theorem YL.a2P{d:Dg}{x y:Cs}{v:Int}(h:(∀j,j<(aS d v).length->Kn d x ((aS d v).getD j 0))∧eU x.n (au d v).var ((aS d v).map (vU d x))=Wh x.k v∧dG x.n (au d v).var ((aS d v).map (vU d x))=x.n)(hv:v∈x.k.map (·.1))(hp:BU x y):(∀j,j<(aS d v).length->Kn d y ((aS d v).getD j 0))∧eU y.n (au d v).var ((aS d v).map (vU d y))=Wh y.k v∧dG y.n (au d v).var ((aS d v).map (vU d y))=y.n:=by obtain⟨h1,h2,h3⟩:=h;rw[QK h1 hp];obtain⟨g1,g2⟩:=a0K h3 hp.2.1;exact⟨fun j hj=>(h1 j hj).mono hp,by rw[g2,h2,a2O hv hp.2.2],g1⟩
theorem a0L{d:Dg}(h:D8 d):∀(F:Nat) (r:Int) (x:Cs),1<=F->r+1<F->jH d r d.aj.length->En d x->YL d x->YL d (cO d F r x).2∧Kn d (cO d F r x).2 r∧vU d (cO d F r x).2 r=(cO d F r x).1
 | 0,r,x,h1,_,_,_,_=>by omega
 |F+1,r,x,_,hF,hr,hx,hi=>by
  by_cases c:r<0
  .have e:cO d (F+1) r x=(i64.wrap (-1-(x.e.idxOf (qG d r):Nat)),⟨fK x.e (qG d r),x.n,x.k⟩):=by unfold cO;rw[a0I (by simpa using c)]
   rw[e];have hp:BU x ⟨fK x.e (qG d r),x.n,x.k⟩:=⟨BQ _ _,a5r,a5r⟩;refine⟨fun v hv=>YL.a2P (hi v hv) hv hp,?_,?_⟩
   .unfold Kn;rw[a0I c];show qG d r∈fK x.e (qG d r);unfold fK;split
    .assumption
    simp
   unfold vU;rw[a0I c];show i64.wrap (-1-((fK x.e (qG d r)).idxOf (qG d r):Nat))=_;congr 3;unfold fK;split
   .rfl
   rename_i hn;rw[aap,a0F hn,a6X hn];simp
  by_cases c2:r∈x.k.map (·.1)
  .have hk:Kn d x r:=by unfold Kn;rw[a0F c];exact c2
   rw[NW hk];exact⟨hi,hk,rfl⟩
  have aQ:r.toNat<d.aj.length:=by have:=hr.1;omega
  have D9:∀k,k<(aS d r).length->(aS d r).getD k 0<r:=fun k lG=>by have h9:=(h.Ah r.toNat aQ k lG).1;have h9:(aS d r).getD k 0<(r.toNat:Int):=h9;omega
  have LU:∀j,j<(aS d r).length->jH d ((aS d r).getD j 0) d.aj.length:=fun j hj=>⟨by have:=D9 j hj;have:=hr.1;omega,(h.Ah r.toNat aQ j hj).2⟩;have inv:=bV (g:=Dh d F r) (m:=(aS d r).length) (k:=0) (s:=(List.replicate (aS d r).length 0,x)) (fun k y=>(y.1.length=(aS d r).length∧BU x y.2)∧(En d y.2∧r∉y.2.k.map (·.1))∧YL d y.2∧∀j,j<k->Kn d y.2 ((aS d r).getD j 0)∧vU d y.2 ((aS d r).getD j 0)=y.1.getD j 0) ⟨⟨by simp,BU.rfl⟩,⟨hx,c2⟩,hi,fun j hj=>by omega⟩ (fun j y _ hj hy=>by
   obtain⟨⟨y1,y2⟩,⟨y3,y4⟩,y5,y6⟩:=hy;have hj:j<(aS d r).length:=(by omega);have hp:=a8y (d:=d) F ((aS d r).getD j 0) y.2;obtain⟨z1,z2,z3⟩:=a0L h F ((aS d r).getD j 0) y.2 (by omega) (by have:=D9 j hj;omega) (LU j hj) y3 y5;refine⟨⟨by simp[Dh,y1],y2.trans hp⟩,⟨Qx h F _ y.2 y3 (LU j hj),YC F _ r y.2 (D9 j hj) y4 (by omega) (fun i hi k hk=>(h.Ah i hi k hk).1) (fun h5=>⟨h5,(LU j hj).1⟩)⟩,z1,fun j' Ey=>?_⟩;by_cases e:j'=j
   .subst e;refine⟨z2,?_⟩;rw[z3];show(cO d F ((aS d r).getD j' 0) y.2).1=(y.1.set j' (cO d F ((aS d r).getD j' 0) y.2).1).getD j' 0;generalize (cO d F ((aS d r).getD j' 0) y.2).1=z;simp[List.getD,a1Z (show j'<y.1.length by omega)]
   obtain⟨a1,a2⟩:=y6 j' (by omega);refine⟨a1.mono hp,?_⟩;rw[Uo a1 hp,a2];show _=(y.1.set j (cO d F ((aS d r).getD j 0) y.2).1).getD j' 0;generalize (cO d F ((aS d r).getD j 0) y.2).1=z;simp[List.getD,a1j (Ne.symm e)])
  rw[a4v]at inv;have e:cO d (F+1) r x=(eU (aU (Dh d F r) (aS d r).length 0 (List.replicate (aS d r).length 0,x)).2.n (au d r).var (aU (Dh d F r) (aS d r).length 0 (List.replicate (aS d r).length 0,x)).1,⟨(aU (Dh d F r) (aS d r).length 0 (List.replicate (aS d r).length 0,x)).2.e,dG (aU (Dh d F r) (aS d r).length 0 (List.replicate (aS d r).length 0,x)).2.n (au d r).var (aU (Dh d F r) (aS d r).length 0 (List.replicate (aS d r).length 0,x)).1,(aU (Dh d F r) (aS d r).length 0 (List.replicate (aS d r).length 0,x)).2.k++[(r,eU (aU (Dh d F r) (aS d r).length 0 (List.replicate (aS d r).length 0,x)).2.n (au d r).var (aU (Dh d F r) (aS d r).length 0 (List.replicate (aS d r).length 0,x)).1)]⟩):=by rw[cO,a0F (by simpa using c),a0F (by simpa using c2)]
  rw[e];generalize aU (Dh d F r) (aS d r).length 0 (List.replicate (aS d r).length 0,x)=y at inv;obtain⟨ks,y⟩:=y;obtain⟨⟨y1,y2⟩,⟨y3,y4⟩,y5,y6⟩:=inv;have y1:ks.length=(aS d r).length:=y1;have y4:r∉y.k.map (·.1):=y4;have hp:BU y ⟨y.e,dG y.n (au d r).var ks,y.k++[(r,eU y.n (au d r).var ks)]⟩:=⟨a5r,LV _ _ _,a9D _ _⟩;have FM:(aS d r).map (vU d y)=ks:=by refine a9Y (by simp[y1]) fun j j1 j2=>?_;have hj:j<(aS d r).length:=(by omega);have:=(y6 j hj).2;rw[List.getD,List.getD,a0D hj,a0D j2]at this;simpa using this
  have gG:Wh (y.k++[(r,eU y.n (au d r).var ks)]) r=eU y.n (au d r).var ks:=by
   unfold Wh;rw[List.find?_append];have:(y.k.find? fun p=>p.1==r)=none:=afq.2 fun p hp=>by simp only[a6Z];intro e2;exact y4 (a1e.2 ⟨p,hp,e2⟩)
   rw[this];simp
  obtain⟨g1,g2⟩:=a4G y.n (au d r).var ks;refine⟨fun v hv=>?_,?_,?_⟩
  .have hv:v∈(y.k++[(r,eU y.n (au d r).var ks)]).map (·.1):=hv;rw[a4Z,a3v]at hv;rcases hv with hv|hv
   .exact YL.a2P (y5 v hv) hv hp
   have hv:v=r:=(by simpa using hv);subst hv;refine⟨fun j hj=>(y6 j hj).1.mono hp,?_,?_⟩
   .rw[QK (fun j hj=>(y6 j hj).1) hp,FM];show eU (dG y.n (au d v).var ks) _ ks=Wh (y.k++[(v,eU y.n (au d v).var ks)]) v;rw[g2,gG]
   rw[QK (fun j hj=>(y6 j hj).1) hp,FM];exact g1
  .unfold Kn;rw[a0F c];show r∈(y.k++[(r,eU y.n (au d r).var ks)]).map (·.1);simp
  unfold vU;rw[a0F c];exact gG
open Go Tw Pv cu
theorem YM{d:Dg}(h:bf d=0):∀i,i<d.aj.length->∀k,k<(fH d i).aA.length->d.aH.idxOf (fH d i).var+1<=Fv d.aH d.aj ((fH d i).aA.getD k 0):=by
 intro i hi k hk;unfold bf at h;split at h
 .rename_i c;rw[h]at c;cases c
 split at h
 .cases h
 split at h
 .cases h
 rename_i c;have c:mW d=true:=by simpa using c
 unfold mW at c;split at c
 rotate_left
 .cases c
 split at c
 rotate_left
 .cases c
 rename_i c2;have:=dK.1 c2 i hi;unfold cLn at this;split at this
 .cases this
 split at this
 .cases this
 split at this
 .rename_i c3;have:=dK.1 c3 k hk;unfold cLk at this;split at this
  .cases this
  rw[a2b,NV,NV]at this;have e6:Fv d.aH d.aj ((i:Nat):Int)=d.aH.idxOf (fH d i).var:=by unfold Fv;rw[a0F (by omega),a5D]
  rw[e6]at this;show d.aH.idxOf (fH d i).var+1<=Fv d.aH d.aj ((d.aj.getD i kL).aA.getD k 0);omega
 cases this
theorem a0M{d:Dg}(h:D8 d):∀(F:Nat) (r:Int) (x:Cs),jH d r d.aj.length->NOk d.ay x.n->NOk d.ay (cO d F r x).2.n
 | 0,_,_,_,hx=>hx
 |F+1,r,x,hr,hx=>by
  unfold cO;by_cases c:r<0
  .rw[a0I (by simpa using c)];exact hx
  rw[a0F (by simpa using c)];split
  .exact hx
  have aQ:r.toNat<d.aj.length:=by have:=hr.1;omega
  have LU:∀j,j<(aS d r).length->jH d ((aS d r).getD j 0) d.aj.length:=fun j hj=>by have h9:=h.Ah r.toNat aQ j hj;have h8:=h9.1;have h8:(aS d r).getD j 0<(r.toNat:Int):=h8;exact⟨by omega,h9.2⟩
  have inv:=bV (g:=Dh d F r) (m:=(aS d r).length) (k:=0) (s:=(List.replicate (aS d r).length 0,x)) (fun _ y=>y.1.length=(aS d r).length∧NOk d.ay y.2.n) ⟨by simp,hx⟩ (fun j y _ hj hy=>⟨by simp[Dh,hy.1],a0M h F _ y.2 (LU j (by omega)) hy.2⟩);show NOk d.ay (dG (aU (Dh d F r) (aS d r).length 0 (List.replicate (aS d r).length 0,x)).2.n (au d r).var (aU (Dh d F r) (aS d r).length 0 (List.replicate (aS d r).length 0,x)).1);generalize aU (Dh d F r) (aS d r).length 0 (List.replicate (aS d r).length 0,x)=y at inv;intro b hb;unfold dG at hb;split at hb
  .exact inv.2 b hb
  split at hb
  .exact inv.2 b hb
  rcases a3v.1 hb with hb|hb
  .exact inv.2 b hb
  rw[a2U.1 hb];refine⟨h.var r.toNat aQ,?_⟩;show(y.1.length:Int)=d.ay.getD (au d r).var.toNat 0;rw[inv.1];exact h.ksz r.toNat aQ
theorem a8z{n:Nat}(hn:1<=n)(v:Int):((List.replicate n v).all fun x=>x==(List.replicate n v).getD 0 0)=true∧(List.replicate n v).getD 0 0=v:=by obtain⟨k,rfl⟩:∃k,n=k+1:=⟨n-1,by omega⟩;simp[aeQ]
theorem YN{d:Dg}{l:List V}(h:D8 d)(QJ:kQ d.ay.length d.aH=true)(hk:∀i,i<d.aj.length->∀k,k<(fH d i).aA.length->d.aH.idxOf (fH d i).var+1<=Fv d.aH d.aj ((fH d i).aA.getD k 0)):∀(r:LI0) (a:Nat) (p:LI0) (v:Int) (x:Cs) (F:Nat),d.aH.drop a=r->a<=d.aH.length->jd d.ay p=true->En d x->YL d x->NOk d.ay x.n->jH d v d.aj.length->a<=Fv d.aH d.aj v->1<=F->v+1<F->(∀q,jd d.ay q=true->Agr d.ay r q p->To d q v (l.getD (eG d.ay q).toNat V0))->fU d.ay l r p (x.e,x.n)=((cO d F v x).1,((cO d F v x).2.e,(cO d F v x).2.n))
 | [],a,p,v,x,F,hr,ha,hp,_,_,_,hv,LU,hF1,hF,hto=>by
  obtain⟨F,rfl⟩:∃k,F=k+1:=⟨F-1,by omega⟩;have:a=d.aH.length:=by have:=congrArg List.length hr;rw[a4u,a5C]at this;omega
  subst this;have hv0:v<0:=by
   rcases afb v 0 with c|c
   .exact c
   exfalso;unfold Fv at LU;rw[a0F (by omega)]at LU;have aQ:v.toNat<d.aj.length:=by have:=hv.1;omega
   have hm:=mX QJ (h.var v.toNat aQ);have:=a5t.2 hm;have:d.aH.idxOf (d.aj.getD v.toNat kL).var<d.aH.length:=this;omega
  have t:=hto p hp (fun _ _ _=>rfl);have e:l.getD (eG d.ay p).toNat V0=qG d v:=(To.fin hv0:To d p v _).det t |>.symm
  unfold cO;rw[a0I (by simpa using hv0)];show(i64.wrap (-1-(x.e.idxOf (l.getD (eG d.ay p).toNat V0):Nat)),(fK x.e (l.getD (eG d.ay p).toNat V0),x.n))=_;rw[e]
 |c::r,a,p,v,x,F,hr,ha,hp,hx,hi,Zm,hv,LU,hF1,hF,hto=>by
  have aQ:a<d.aH.length:=by have:=congrArg List.length hr;rw[a4u,a4O]at this;omega
  have hd:=a5X aQ;rw[hr]at hd;obtain⟨hc,vZ⟩:=aib hd;have ho:=QJ;unfold kQ at ho;rw[a1n]at ho;have Fq:c∈d.aH:=by rw[hc];exact a5p aQ
  have oz:fD c d.ay.length:=⟨(ho.2.1 c Fq).1,(ho.2.1 c Fq).2⟩;have hia:d.aH.idxOf c=a:=by rw[hc];exact ho.2.2.idxOf_getElem a aQ
  have qM:c.toNat<d.ay.length:=by have:=oz.1;have:=oz.2;omega
  have hz:=h.bQ.sz _ (bU (s:=d.ay) (k:=c.toNat) qM);have ED:=nS hp;have hcr:c∉r:=by have:(d.aH.drop a).Nodup:=ho.2.2.sublist (List.drop_sublist _ _);rw[hr]at this;exact(a5n.1 this).1
  have Gh:∀j:Nat,j<(d.ay.getD c.toNat 0).toNat->jd d.ay (p.set c.toNat j)=true:=fun j hj=>Qq hp oz ⟨by omega,by omega⟩;simp only[fU];by_cases vY:0<=v∧(au d v).var=c
  .obtain⟨hv0,hvc⟩:=vY;have a4H:v.toNat<d.aj.length:=by have:=hv.1;omega
   have L6:((aS d v).length:Int)=d.ay.getD c.toNat 0:=by rw[<-hvc];exact h.ksz v.toNat a4H
   have hkn:(d.ay.getD c.toNat 0).toNat=(aS d v).length:=(by omega);have D9:∀j,j<(aS d v).length->(aS d v).getD j 0<v:=fun j hj=>by have h9:=(h.Ah v.toNat a4H j hj).1;have h9:(aS d v).getD j 0<(v.toNat:Int):=h9;omega
   have hrf:∀j,j<(aS d v).length->jH d ((aS d v).getD j 0) d.aj.length:=fun j hj=>⟨by have:=D9 j hj;have:=hv.1;omega,(h.Ah v.toNat a4H j hj).2⟩;have alR:∀j,j<(aS d v).length->a+1<=Fv d.aH d.aj ((aS d v).getD j 0):=fun j hj=>by have:=hk v.toNat a4H j hj;have:d.aH.idxOf (au d v).var+1<=Fv d.aH d.aj ((aS d v).getD j 0):=this;rw[hvc,hia]at this;exact this
   have alS:∀j:Nat,j<(aS d v).length->∀q,jd d.ay q=true->Agr d.ay r q (p.set c.toNat j)->To d q ((aS d v).getD j 0) (l.getD (eG d.ay q).toNat V0):=fun j hj q hq hag=>by
    have Zk:q.getD c.toNat 0=j:=by have:=hag c.toNat qM (by rw[ai0 oz.1];exact hcr);rw[this,List.getD,a1Z (by omega)];rfl
    have t0:=hto q hq (Agr.back oz hag);revert t0;generalize l.getD (eG d.ay q).toNat V0=w;intro t0;cases t0 with
    |fin h9=>omega
    |step _ t=>
     rw[hvc,Zk,a5D]at t;exact t
   rw[hkn];by_cases PN:v∈x.k.map (·.1)
   .-- known
    have hKn:Kn d x v:=by unfold Kn;rw[a0F (by omega)];exact PN
    obtain⟨F',rfl⟩:∃k,F=k+1:=⟨F-1,by omega⟩;rw[NW hKn];obtain⟨i1,i2,i3⟩:=hi v PN;have inv:=bV (g:=wM (fU d.ay l r) c p) (m:=(aS d v).length) (k:=0) (s:=([],(x.e,x.n))) (fun k y=>y=(((aS d v).map (vU d x)).take k,(x.e,x.n))) (by simp) (fun j y _ hj hy=>by have hj:j<(aS d v).length:=(by omega);subst hy;have ih:=YN h QJ hk r (a+1) (p.set c.toNat j) ((aS d v).getD j 0) x (F'+1) vZ.symm aQ (Gh j (by omega)) hx hi Zm (hrf j hj) (alR j hj) (by omega) (by have:=D9 j hj;omega) (alS j hj);rw[NW (i1 j hj)]at ih;unfold wM;rw[ih];refine ad3 ?_ rfl;show(((aS d v).map (vU d x)).take j)++[vU d x ((aS d v).getD j 0)]=_;have hjm:j<((aS d v).map (vU d x)).length:=(by simpa using hj);rw[a5S hjm];simp[List.getD,a0D hj])
    rw[a4v]at inv;rw[inv,a9N (by simp)];rw[hvc]at i2 i3;obtain⟨n1,n2⟩:=YH h.bQ.sz Zm oz (ks:=(aS d v).map (vU d x)) (by simpa using L6);show(Eo x.n c _,(x.e,qh x.n c _))=_;rw[<-n1,<-n2,i2,i3];unfold vU;rw[a0F (by omega)]
   obtain⟨F',rfl⟩:∃k,F=k+1:=⟨F-1,by omega⟩;have key:∀j,j<=(aS d v).length->(aU (wM (fU d.ay l r) c p) j 0 ([],(x.e,x.n)))=((aU (Dh d F' v) j 0 (List.replicate (aS d v).length 0,x)).1.take j,((aU (Dh d F' v) j 0 (List.replicate (aS d v).length 0,x)).2.e,(aU (Dh d F' v) j 0 (List.replicate (aS d v).length 0,x)).2.n))∧(aU (Dh d F' v) j 0 (List.replicate (aS d v).length 0,x)).1.length=(aS d v).length∧(En d (aU (Dh d F' v) j 0 (List.replicate (aS d v).length 0,x)).2∧v∉(aU (Dh d F' v) j 0 (List.replicate (aS d v).length 0,x)).2.k.map (·.1))∧YL d (aU (Dh d F' v) j 0 (List.replicate (aS d v).length 0,x)).2∧NOk d.ay (aU (Dh d F' v) j 0 (List.replicate (aS d v).length 0,x)).2.n:=by
    intro j
    induction j with
    |zero=>intro _;exact⟨rfl,by simp[aU],⟨hx,PN⟩,hi,Zm⟩
    |succ j ih=>
     intro hj;have hj:j<(aS d v).length:=hj;obtain⟨q1,q2,⟨q3,q3'⟩,q4,q5⟩:=ih (by omega);rw[uz,uz,a4v];generalize aU (Dh d F' v) j 0 (List.replicate (aS d v).length 0,x)=y at q1 q2 q3 q3' q4 q5;rw[q1];have X6:=D9 j hj;have ih2:=YN h QJ hk r (a+1) (p.set c.toNat j) ((aS d v).getD j 0) y.2 F' vZ.symm aQ (Gh j (by omega)) q3 q4 q5 (hrf j hj) (alR j hj) (by omega) (by omega) (alS j hj);refine⟨?_,by simp[Dh,q2],⟨Qx h F' _ y.2 q3 (hrf j hj),YC F' _ v y.2 X6 q3' (by omega) (fun i hi k hk=>(h.Ah i hi k hk).1) (fun h5=>⟨h5,(hrf j hj).1⟩)⟩,(a0L h F' _ y.2 (by omega) (by omega) (hrf j hj) q3 q4).1,a0M h F' _ y.2 (hrf j hj) q5⟩;unfold wM;rw[ih2];refine ad3 ?_ rfl;show y.1.take j++[(cO d F' ((aS d v).getD j 0) y.2).1]=(y.1.set j (cO d F' ((aS d v).getD j 0) y.2).1).take (j+1);rw[a5S (by simp;omega),List.take_set_of_le (a15 _),List.getElem_set_self]
   obtain⟨q1,q2,⟨q3,q3'⟩,q4,q5⟩:=key _ (a15 _);rw[q1];have e:cO d (F'+1) v x=(eU (aU (Dh d F' v) (aS d v).length 0 (List.replicate (aS d v).length 0,x)).2.n (au d v).var (aU (Dh d F' v) (aS d v).length 0 (List.replicate (aS d v).length 0,x)).1,⟨(aU (Dh d F' v) (aS d v).length 0 (List.replicate (aS d v).length 0,x)).2.e,dG (aU (Dh d F' v) (aS d v).length 0 (List.replicate (aS d v).length 0,x)).2.n (au d v).var (aU (Dh d F' v) (aS d v).length 0 (List.replicate (aS d v).length 0,x)).1,(aU (Dh d F' v) (aS d v).length 0 (List.replicate (aS d v).length 0,x)).2.k++[(v,eU (aU (Dh d F' v) (aS d v).length 0 (List.replicate (aS d v).length 0,x)).2.n (au d v).var (aU (Dh d F' v) (aS d v).length 0 (List.replicate (aS d v).length 0,x)).1)]⟩):=by rw[cO,a0F (by simpa using hv0),a0F (by simpa using PN)]
   rw[e];generalize aU (Dh d F' v) (aS d v).length 0 (List.replicate (aS d v).length 0,x)=y at q2 q5;rw[a9N (by omega),hvc];obtain⟨n1,n2⟩:=YH h.bQ.sz q5 oz (ks:=y.1) (by rw[q2];exact L6);rw[n1,n2]
  -- asked later,or an end
  have alT:a+1<=Fv d.aH d.aj v:=by
   unfold Fv at LU ⊢;split
   .omega
   rename_i c1;rw[a0F c1]at LU;have iM:d.aH.idxOf (d.aj.getD v.toNat kL).var≠a:=fun e=>by
    apply vY;refine⟨by omega,?_⟩;have a4H:v.toNat<d.aj.length:=by have:=hv.1;omega
    have hm:=mX QJ (h.var v.toNat a4H);have h1:=a9C (a5t.2 hm);have e:d.aH.idxOf (fH d v.toNat).var=a:=e;show(fH d v.toNat).var=c;rw[hc,<-h1];congr 1
   omega
  obtain⟨z1,z2,z3⟩:=a0L h F v x hF1 hF hv hx hi;have Sl:=Qx h F v x hx hv;have afo:=a0M h F v x hv Zm;have alU:cO d F v (cO d F v x).2=((cO d F v x).1,(cO d F v x).2):=by
   have e:∀y,Kn d y v->vU d y v=(cO d F v x).1->cO d F v y=((cO d F v x).1,y):=fun y h1 h2=>by obtain⟨F',rfl⟩:∃k,F=k+1:=⟨F-1,by omega⟩;rw[NW h1,h2]
   exact e _ z2 z3
  have alV:∀j:Nat,∀q,jd d.ay q=true->Agr d.ay r q (p.set c.toNat j)->To d q v (l.getD (eG d.ay q).toNat V0):=fun j q hq hag=>hto q hq (Agr.back oz hag);have inv:=bV (g:=wM (fU d.ay l r) c p) (m:=(d.ay.getD c.toNat 0).toNat) (k:=0) (s:=([],(x.e,x.n))) (fun k y=>(k=0∧y=([],(x.e,x.n)))∨(0<k∧y=(List.replicate k (cO d F v x).1,((cO d F v x).2.e,(cO d F v x).2.n)))) (.inl ⟨rfl,rfl⟩) (fun j y _ hj hy=>by
   right;refine⟨by omega,?_⟩;rcases hy with⟨rfl,rfl⟩|⟨h0,rfl⟩
   .have ih:=YN h QJ hk r (a+1) (p.set c.toNat ((0:Nat):Int)) v x F vZ.symm aQ (Gh 0 (by omega)) hx hi Zm hv alT hF1 hF (alV 0);unfold wM;rw[ih];rfl
   have ih:=YN h QJ hk r (a+1) (p.set c.toNat ((j:Nat):Int)) v (cO d F v x).2 F vZ.symm aQ (Gh j (by omega)) Sl z1 afo hv alT hF1 hF (alV j);rw[alU]at ih;unfold wM;rw[ih];refine ad3 ?_ rfl;show List.replicate j _++[_]=_;rw[List.replicate_succ'])
  rw[a4v]at inv;rcases inv with⟨h0,_⟩|⟨h0,e⟩
  .omega
  rw[e];obtain⟨f1,f2⟩:=a8z (n:=(d.ay.getD c.toNat 0).toNat) (by omega) (cO d F v x).1;show(Eo _ c _,(_,qh _ c _))=_;unfold Eo qh;rw[a0I f1,a0I f1,f2]
theorem YO{d:Dg}(hl:bf d=0)(ho:d.aH.length<=ah)(he:d.aO.length<=ah):fE d=jE d.ay d.aH (cellsD d)∧OfP d.ay d.aH (cellsD d):=by
 obtain⟨h,hn⟩:=jo ho he (by rw[hl];rfl);have hf:(bY d.ay d.aH != 0)=false:=by
  unfold bf at hl;split at hl
  .rename_i c;rw[hl]at c;cases c
  rename_i c;simpa using c
 obtain⟨bQ,QJ⟩:=kE.1 (show bY d.ay d.aH=0 by simpa using hf);have hlen:((cellsD d).length:Int)=bG d.ay:=by unfold cellsD;rw[a5c,a6T,bQ.a4d]
 have hr:=h.root;have hr1:=hr.1;have hto:∀q,jd d.ay q=true->To d q d.root ((cellsD d).getD (eG d.ay q).toNat V0):=fun q hq=>by
  have hrn:=xZ hq bQ.sz;have t:=To.of h hq 6001 d.root (by omega) hr;have e:(cellsD d).getD (eG d.ay q).toNat V0=vH d q:=by
   have aQ:(eG d.ay q).toNat<E8 d.ay:=by unfold E8;omega
   unfold cellsD;rw[List.getD,a0D (by simpa using aQ)];simp only[a9L,ai8,a5z];rw[show(((eG d.ay q).toNat:Nat):Int)=eG d.ay q by omega,VK hq bQ.sz]
  rw[e];exact t
 have key:=YN (l:=cellsD d) h QJ (YM hl) d.aH 0 (List.replicate d.ay.length 0) d.root cl0 6002 rfl (a5u _) (J8 bQ.sz) Wn (fun v hv=>by cases hv) (fun b hb=>by cases hb) hr (a5u _) (by omega) (by omega) (fun q hq _=>hto q hq);refine⟨?_,⟨bQ,QJ,hlen⟩⟩;have key:fU d.ay (cellsD d) d.aH (List.replicate d.ay.length 0) ([],[])=_:=key;unfold fE jE;rw[key]
open Go Tw Pv cu
theorem QL(k:Int):GN (i64.wrap k):=by
 have e:i64.wrap k=if k%(2^64:Int)>=(2^63:Int)then k%(2^64:Int)-2^64 else k%(2^64:Int):=by
  show(if(true&&decide (k%(2^64:Int)>=(2^63:Int)))=true then _ else _)=_;by_cases c:k%(2^64:Int)>=(2^63:Int)
  .rw[a0I (by simpa using c),a0I c];rfl
  rw[a0F (by simpa using c),a0F c];rfl
 rw[e];unfold GN;split<;>constructor<;>omega
def EnW(x:EN):Prop:=∀b∈x.2,∀k∈b.aA,GN k
theorem a8A{s:LI0}{l:List V}(hs:nM s):∀(r p:LI0) (x:EN),(∀c∈r,fD c s.length)->EnW x->(fU s l r p x).2.2.length<2^61->EnW (fU s l r p x).2∧GN (fU s l r p x).1
 | [],p,x,_,hx,_=>⟨hx,QL _⟩
 |c::r,p,x,hr,hx,hE=>by
  have oz:=hr c (by simp);have hz:=hs _ (bU (s:=s) (k:=c.toNat) (by have:=oz.1;have:=oz.2;omega));have hN:=J9 (aU (wM (fU s l r) c p) (s.getD c.toNat 0).toNat 0 ([],x)).2.2 c (aU (wM (fU s l r) c p) (s.getD c.toNat 0).toNat 0 ([],x)).1;have hE:(qh (aU (wM (fU s l r) c p) (s.getD c.toNat 0).toNat 0 ([],x)).2.2 c (aU (wM (fU s l r) c p) (s.getD c.toNat 0).toNat 0 ([],x)).1).length<2^61:=hE;have inv:=bV (g:=wM (fU s l r) c p) (m:=(s.getD c.toNat 0).toNat) (k:=0) (s:=([],x)) (fun k y=>y.1.length=k∧(y.2.2.length<2^61->EnW y.2∧∀v∈y.1,GN v)) ⟨rfl,fun _=>⟨hx,by simp⟩⟩ (fun j y _ hj hy=>by
   refine⟨by simp[wM,hy.1],fun hE2=>?_⟩;have hE2:(fU s l r (p.set c.toNat j) y.2).2.2.length<2^61:=hE2;have hp:=(QH (s:=s) (l:=l) r (p.set c.toNat j) y.2).2.length_le;obtain⟨y1,y2⟩:=hy.2 (by omega);obtain⟨z1,z2⟩:=a8A hs r (p.set c.toNat j) y.2 (fun c hc=>hr c (by simp[hc])) y1 hE2;refine⟨z1,fun v hv=>?_⟩;have hv:v∈y.1++[(fU s l r (p.set c.toNat j) y.2).1]:=hv;rcases a3v.1 hv with hv|hv
   .exact y2 v hv
   rw[a2U.1 hv];exact z2)
  rw[a4v]at inv;simp only[fU];generalize aU (wM (fU s l r) c p) (s.getD c.toNat 0).toNat 0 ([],x)=y at inv hN hE;obtain⟨ks,E,N⟩:=y;have hN:N <+: qh N c ks:=hN;have hE:(qh N c ks).length<2^61:=hE;obtain⟨i0,i1⟩:=inv;have i0:ks.length=(s.getD c.toNat 0).toNat:=i0;obtain⟨i1,i2⟩:=i1 (by have:=hN.length_le;show N.length<2^61;omega);have i1:∀b∈N,∀k∈b.aA,GN k:=i1;have i2:∀v∈ks,GN v:=i2;refine⟨fun b hb=>?_,?_⟩
  .have hb:b∈qh N c ks:=hb;unfold qh at hb;split at hb
   .exact i1 b hb
   split at hb
   .exact i1 b hb
   rcases a3v.1 hb with hb|hb
   .exact i1 b hb
   rw[a2U.1 hb];exact i2
  show GN (Eo N c ks);by_cases hf:(ks.all fun x=>x==ks.getD 0 0)=true
  .rw[show Eo N c ks=ks.getD 0 0 from a0I hf];exact i2 _ (bU (s:=ks) (k:=0) (by omega))
  rw[show Eo N c ks=(N.idxOf (⟨c,ks⟩:Br):Nat)from a0F hf];have:=(Ws (N:=N) (c:=c) hf).1;exact⟨by omega,by omega⟩
theorem abD{s o:LI0}{l:List V}(h:OfP s o l)(hv:∀v∈l,vOk v=true)(hf:∀v∈l,0<=v.f):IY (jE s o l)∧iw (jE s o l)=0:=by
 obtain⟨hP,hn,ho⟩:=h.p;obtain⟨h1,h2,h3,h4,h5⟩:=GR h hv;have hw:=Ep h.bQ.sz h.ord;have hm:=h.bQ.many;have hlen:=Wp (l:=l) h.bQ.sz o (List.replicate s.length 0) ([],[]) hP.ord;have Sr:(fU s l o (List.replicate s.length 0) ([],[])).2.2.length+1<=0+wO s o:=hlen.2;obtain⟨w1,w2⟩:=a8A (l:=l) h.bQ.sz o (List.replicate s.length 0) ([],[]) hP.ord (fun b hb=>by cases hb) (by omega);have hR:IY (jE s o l):=⟨fun i hi k hk=>by
  have hb:fH (jE s o l) i∈(jE s o l).aj:=by show(jE s o l).aj.getD i kL∈_;rw[List.getD,a0D hi];exact a5p hi
  exact w1 _ hb _ (bU hk),w2,fun v hv=>hf v (h3 v hv)⟩
 refine⟨hR,?_⟩;obtain⟨ht,hn6⟩:=jo (d:=jE s o l) hP.a8t (by unfold ah;omega) (by rw[h1];rfl);have hc:=(YO (d:=jE s o l) h1 hP.a8t (by unfold ah;omega)).1;rw[a0J h hv]at hc;have hd:=(Uk ht hR (by omega) hn6).1 hc;unfold iw;rw[a0F (by rw[h1];decide),a0F (by rw[hd];decide)]
open Go Tw Pv cu
def aer:dZ aB:=bK 121 (a1 dA) iA (fun p=>(uT p).2) (fun p=>[IY p,p.ay.length<=ah,p.aH.length<=2^20,p.aO.length+1<=ah]) alP
theorem alW:Gd aer:=ar7.add fun n hO p hp=>aI hO (.o (hp _ gQ) (.o (hp _ vX) (.o (hp _ hh2) (.o (hp _ (.tail _ (.tail _ (.tail _ (.head _))))) .rr))))
def Aq(d:Dg):Dg×Int:=if((bJ d).2 != 0)=true then(iL,(bJ d).2)else(fE (bJ d).1.d,0)
def a8B:dZ aB:=bK 108 (a1 dA) (dM (a2 dA iA)) (fun p=>Aq p) (fun p=>[IY p,p.ay.length<=ah,p.aH.length<=2^20,p.aO.length<=ah,((bJ p).2 != 0)=false->ClP (bJ p).1]) aer
theorem aes:Gd a8B:=alW.add fun n hO p hp=>aI hO (.o (hp _ vX) (.o (hp _ hh2) (.o (hp _ (.tail _ (.tail _ (.tail _ (.head _))))) (.sh (fun _=>.rn (.dJ [.agg [.nil .aP,.nil .aP,.nil .aP,.nil .aP,.int .i64 0],.int .i64 (bJ p).2]) rfl) fun h=>.o (hp _ (.tail _ (.tail _ (.tail _ (.tail _ (.head _))))) h) .rr))))
def alX:dZ aB:=bK 77 (a3 iA iA iA) tA (fun p=>(if decide (p.2.2>=p.1)=true then decide (p.2.2<=p.2.1)else false)) np a8B
theorem ard:Gd alX:=aes.add fun n hO p hp=>aI hO (.ss .rr .rr)
def a2Q:dZ aB:=bK 123 (a2 (a7n frA) dA) tA (fun p=>(if decide (p.2.ay=p.1.1)=true then decide (p.2.aH=p.1.2)else false)) (fun p=>[p.2.ay.length<=ah,p.2.aH.length<=ah]) alX
theorem alY:Gd a2Q:=ard.add fun n hO p hp=>aI hO (.o (hp _ gQ) (.ss (.o (hp _ vX) .rr) .rr))
end Go.Proofs.YtmobpoiejckagaaGreat
namespace Pv
open Go Tw
variable {X:lC} {P:LI1}
theorem nR.a0N(hX:bT X P){call:bn}{f:FuncId}{first xs cap vs:List (PV X.Γ)}{v v':PV X.Γ}{ext ext':List (PB X.Γ)}(hc:nR X P call f vs v ext)(hv:views [] (first++xs++cap)=some vs)(hs:rX X 0 ext=some ext')
  (e:shift 0 v=v') (he:(if yD v||ext.any (hasB X)then bC (kX.kP (first++xs++cap)) []else [])=([]:List (PB X.Γ))):dF X P call (.fn f first cap) xs [] v' ext':=by
 subst e;intro A m h tf sD hr hf hx;cases hf with
 |gone hi _ _=>simp[bH]at hi
 |fn p1 p2 p3 p4=>
  obtain⟨w,h',m1,c1,c2,c3,c4,c5⟩:=Ir hX hc hr hv hs ⟨p1,p2⟩ hx ⟨p3,p4⟩;rw[he]at c2;exact⟨w,h',[],m1,c1,c2,c3,c4,c5,fun b hb=>by cases hb⟩
end Pv
namespace Go.Proofs.YtmobpoiejckagaaGreat
open Go Tw Pv cu
def a4I{α:Type}(g:α->Bool)(i:Nat)(x:α)(s:Unit):Unit⊕(Nat×α×Unit):=if(g x)=true then .inr (i,x,s)else .inl ()
def agQ{α:Type}(d:α)(g:α->Bool)(l:List α):Int:=if(jT (lZ (a4I g) l 0 ()))=true then -1 else(((BI (0,d,()) (lZ (a4I g) l 0 ())).1:Int))
theorem a8C{α:Type}(g:α->Bool):∀(l:List α) (i:Nat),jT (lZ (a4I g) l i ())=!(l.any g)
 | [],i=>rfl
 |x::l,i=>by
  simp only[lZ,a4I,ae5];cases g x
  .simpa using a8C g l (i+1)
  simp[jT]
theorem agR{α:Type}(d:α)(g:α->Bool)(l:List α):decide (agQ d g l>=0)=l.any g:=by have:=a8C g l 0;unfold agQ;rw[this];cases l.any g<;>simp
theorem dw{α:Type}{l:List α}{k:Nat}{d:α}(h:k<l.length):l.getD k d∈l:=by simp[List.getD,a0D h]
abbrev agS(f:Nat)(a c:List (PV aB))(H:List (PB aB))(l:List Dg)(i:Int)(x:List (Nat×PE aB)):aT aB:=⟨[(0,xL 26 l),(1,.val (.fn f a c)),(7,xi l.length),(8,xi i)]++x,[],H⟩
def alZ(f:Nat)(a c:List (PV aB))(H:List (PB aB))(l:List Dg):Unit⊕(Nat×Dg×Unit)->Ex×aT aB
 |.inl _=>(.exit 0,agS f a c H l l.length [(9,xl false)])
 |.inr r=>(.ret,⟨[(4,xi r.1)],[],H⟩)
theorem arf{n f:Nat}{a c:List (PV aB)}{H:List (PB aB)}{g:Dg->Bool}(l:List Dg)(hf:∀x∈l,iV n (.fn f a c) [.agg x.ps] H (.bool (g x)) H)(hl:l.length<=ah):iV (n+1) (.fn 204 [] []) [lDg l,.fn f a c] H (iA.put (agQ iL g l)) H:=by
 have lp:JZ n 204 0 H.length (agS f a c H l 0 []) (alZ f a c H l (lZ (a4I g) l 0 ())).1 (alZ f a c H l (lZ (a4I g) l 0 ())).2:=
  Y0 (st:=fun i _=>agS f a c H l i []) iL (fun _ _=>True) (by kernel_rfl) hl RN trivial (fun k s n hk _ ih=>aJ gU (.b (aZ hk) (.o (aC hk) (.k (hf (l.getD k iL) (dw hk)) (.ls (.ou nofun) (.nx (ih _ trivial))))))) (fun s _=>aJ gU (.b (eP l.length) (.ou nofun)))
 exact jD gU (first:=[]) (cap:=[]) (.szh (fun h=>.w (l7 lp () h) .sr) (fun h=>.w (l9 lp (0,iL,()) h) .sr))
theorem arh{n f:Nat}{a c:List (PV aB)}{H:List (PB aB)}{g:Dg->Bool}(l:List Dg)(hf:∀x∈l,iV n (.fn f a c) [.agg x.ps] H (.bool (g x)) H)(hl:l.length<=ah):iV (n+2) (.fn 173 [] []) [lDg l,.fn f a c] H (tA.put (l.any g)) H:=by rw[<-agR iL g l];have h1:=arf l hf hl;exact jD gU (first:=[]) (cap:=[]) (.k h1 .sr)
def Au(f:LI0×LI0)(d:Dg):Bool:=if decide (d.ay=f.1)=true then decide (d.aH=f.2)else false
abbrev a8D(f:LI0×LI0):PV aB:=.fn 123 [.agg [lI f.1,lI f.2]] []
structure nO(d:Dg):Prop where
 r:IY d
 s:d.ay.length<=ah
 o:d.aH.length<=2^20
 e:d.aO.length+1<=ah
theorem ari{n:Nat}(hO:Ok n a2Q)(f:LI0×LI0)(l:List Dg)(hp:∀d∈l,nO d)(hl:l.length<=ah):iV (n+4) (.fn 122 [] []) [a8D f,lDg l] [] (tA.put (l.all (Au f))) []:=by
 have hs:∀d∈l,iV n (a8D f) [.agg d.ps] [] (tA.put (Au f d)) []:=fun d hd=>nR.a0N hX (first:=[.agg [lI f.1,lI f.2]]) (cap:=[]) (hO 123 [.agg [lI f.1,lI f.2],.agg d.ps] (tA.put (Au f d)) [] [d.ay.length<=ah,d.aH.length<=ah] (by kernel_rfl) (fun p h=>by
  have h9:=hp d hd;have h8:=h9.o;rcases a2x.1 h with rfl|h
  .exact h9.s
  rw[a2U.1 h];exact h8)) rfl rfl rfl rfl
 have h1:∀d∈l,iV (n+1) (.fn 174 [] [.ptr 0 0 1]) [.agg d.ps] [.cells [a8D f]] (tA.put (!(Au f d))) [.cells [a8D f]]:=fun d hd=>
  jD gU (first:=[]) (.fr [] (hs d hd) .sr)
 have h2:=arh l h1 hl;rw[<-EW l (Au f)];exact dF.drop hX (DY hX gU (first:=[]) (cap:=[]) (H1:=[.cells [a8D f]]) (by kernel_rfl) (.k h2 .sr)) rfl rfl
abbrev wCk(l:List Dg)(i:Int)(x:List (Nat×PE aB)):aT aB:=⟨[(0,xL 26 l),(6,xL 26 l),(7,xi l.length),(8,xi i)]++x,[],[]⟩
abbrev cCk(l:List Dg)(k:Nat):Bool:=(uT (l.getD k iL)).2 != 0
def zCk(l:List Dg):Unit⊕Nat->Ex×aT aB
 |.inl _=>(.exit 0,wCk l l.length [(9,xl false)])
 |.inr k=>(.ret,⟨[(2,xi (uT (l.getD k iL)).2)],[(l.getD k iL).ps],[]⟩)
theorem lCk{n:Nat}(hO:Ok n a2Q){l:List Dg}(hp:∀d∈l,nO d)(hl:l.length<=ah):Lp n 76 0 (wCk l 0 []) (zCk l (bg (cCk l) l.length)).1 (zCk l (bg (cCk l) l.length)).2:=by
 refine iJ (st:=fun i _=>wCk l i []) (g:=gS (cCk l)) (out:=zCk l) (fun _ _=>True) (by kernel_rfl) hl trivial (fun k u m hk _ ih=>?_) (fun _ _=>?_)
 .have h9:=hp _ (dw (d:=iL) hk);unfold gS cCk;exact aJ hO (.b (aZ hk) (.o (aC hk) (.o h9.r (.o h9.s (.o h9.o (.o h9.e (.ls (.ou nofun) (.nx (ih _ trivial)))))))))
 exact aJ hO (.b (eP l.length) (.ou nofun))
def aY(l:List Dg):Int:=if jT (bg (cCk l) l.length)=true then(if(!(l.all (Au ((l.getD 0 iL).ay,(l.getD 0 iL).aH))))=true then 2 else 0)else(uT (l.getD (BI 0 (bg (cCk l) l.length)) iL)).2
def am0:dZ aB:=bK 76 (a1 a0z) iA aY (fun l=>[∀d∈l,nO d,0<l.length∧l.length<=ah]) a2Q
theorem arl:Gd am0:=alY.deep 4 fun n hn hO l hp=>by have h1:∀d∈l,nO d:=hp _ gQ;have h2:0<l.length∧l.length<=ah:=hp _ vX;have hs:=ari (n:=n-4) (hO (n-4) (by omega)) ((l.getD 0 iL).ay,(l.getD 0 iL).aH) l h1 h2.2;rw[show n-4+4=n by omega]at hs;have i0:fD 0 l.length:=⟨by omega,by omega⟩;have hl:=lCk (hO n (by omega)) h1 h2.2;show nR X0 Qp _ _ _ (iA.put (aY l)) _;unfold aY;exact aI (hO n (by omega)) (.zh (fun h=>.w (l7 hl () h) (.o i0 (.o i0 (.fr [] hs (.ss .rr .rr))))) (fun h=>.w (l9 hl 0 h) .rr))
open Go Tw Pv cu
theorem a8E{n:Int}(h:0<=n∧n<=6):n=0∨n=1∨n=2∨n=3∨n=4∨n=5∨n=6:=by omega
theorem a8F:(0:Int)<=32:=by decide
def aeu:dZ aB:=bK 206 (a2 pA pA) (dM (a2 pA pA)) (fun p=>(0,p.2)) (fun p=>[p.1=1,0<=p.2∧p.2<=6]) am0
theorem am1:Gd aeu:=arl.add fun n hO p hp=>by
 obtain⟨a,b⟩:=p;have h1:a=1:=hp _ gQ;have h2:0<=b∧b<=6:=hp _ vX;subst h1;rcases a8E h2 with rfl|rfl|rfl|rfl|rfl|rfl|rfl
 all_goals exact aI hO (.o a8F (.o a8F (.o a8F (.o a8F (.o a8F .rr)))))
def aev:dZ aB:=bK 175 (a2 pA pA) (dM (a2 pA pA)) (fun p=>(0,p.2)) (fun p=>[p.1=1,0<=p.2∧p.2<=6]) aeu
theorem am2:Gd aev:=am1.add fun n hO p hp=>aI hO (.o (hp _ gQ) (.o (hp _ vX) .rr))
def Ja:dZ aB:=bK 124 (a2 qQ iA) qQ (fun p=>List.replicate p.2.toNat (-1)) (fun p=>[p.1=[-1],0<=p.2∧p.2<=6]) aev
theorem Ur:Gd Ja:=am2.add fun n hO p hp=>by
 obtain⟨a,b⟩:=p;have h1:a=[-1]:=hp _ gQ;have h2:0<=b∧b<=6:=hp _ vX;subst h1;rcases a8E h2 with rfl|rfl|rfl|rfl|rfl|rfl|rfl
 .exact aI hO (.b (rfl:decide ((0:Int)<0)=false) (.o (rfl:(1:Int)=1) (.o (⟨by decide,by decide⟩:(0:Int)<=0∧(0:Int)<=6) (.b (rfl:decide ((0:Int)>0)=false) (.b (rfl:decide ((0:Int)>9223372036854775807)=false) (.o (rfl:(0:Int)=0) (.o (show(0:Int)<=0 by decide) (.o (show(0:Int)<=(ah:Int) by decide) (.m 8 le8 (.b (rfl:decide ((0:Int)<0)=false) .rr))))))))))
 .exact aI hO (.b (rfl:decide ((1:Int)<0)=false) (.o (rfl:(1:Int)=1) (.o (⟨by decide,by decide⟩:(0:Int)<=1∧(1:Int)<=6) (.b (rfl:decide ((0:Int)>0)=false) (.b (rfl:decide ((1:Int)>9223372036854775807)=false) (.o (rfl:(1:Int)=1) (.o (show(0:Int)<=1 by decide) (.o (show(1:Int)<=(ah:Int) by decide) (.m 8 le8 (.b (rfl:decide ((1:Int)<1)=false) .rr))))))))))
 .exact aI hO (.b (rfl:decide ((2:Int)<0)=false) (.o (rfl:(1:Int)=1) (.o (⟨by decide,by decide⟩:(0:Int)<=2∧(2:Int)<=6) (.b (rfl:decide ((0:Int)>0)=false) (.b (rfl:decide ((2:Int)>9223372036854775807)=false) (.o (rfl:(2:Int)=2) (.o (show(0:Int)<=2 by decide) (.o (show(2:Int)<=(ah:Int) by decide) (.m 8 le8 (.b (rfl:decide ((1:Int)<2)=true) (.o (show(0:Int)<=1 by decide) (.o (show(1:Int)<=2 by decide) (.o (show(2:Int)<=2 by decide) (.o (show(0:Int)<=0 by decide) (.o (show(0:Int)<=1 by decide) (.o (show(1:Int)<=2 by decide) (.b (rfl:decide ((2:Int)<2)=false) .rr)))))))))))))))))
 .exact aI hO (.b (rfl:decide ((3:Int)<0)=false) (.o (rfl:(1:Int)=1) (.o (⟨by decide,by decide⟩:(0:Int)<=3∧(3:Int)<=6) (.b (rfl:decide ((0:Int)>0)=false) (.b (rfl:decide ((3:Int)>9223372036854775807)=false) (.o (rfl:(3:Int)=3) (.o (show(0:Int)<=3 by decide) (.o (show(3:Int)<=(ah:Int) by decide) (.m 8 le8 (.b (rfl:decide ((1:Int)<3)=true) (.o (show(0:Int)<=1 by decide) (.o (show(1:Int)<=3 by decide) (.o (show(3:Int)<=3 by decide) (.o (show(0:Int)<=0 by decide) (.o (show(0:Int)<=1 by decide) (.o (show(1:Int)<=3 by decide) (.b (rfl:decide ((2:Int)<3)=true) (.o (show(0:Int)<=2 by decide) (.o (show(2:Int)<=3 by decide) (.o (show(3:Int)<=3 by decide) (.o (show(0:Int)<=0 by decide) (.o (show(0:Int)<=2 by decide) (.o (show(2:Int)<=3 by decide) (.b (rfl:decide ((3:Int)<3)=false) .rr))))))))))))))))))))))))
 .exact aI hO (.b (rfl:decide ((4:Int)<0)=false) (.o (rfl:(1:Int)=1) (.o (⟨by decide,by decide⟩:(0:Int)<=4∧(4:Int)<=6) (.b (rfl:decide ((0:Int)>0)=false) (.b (rfl:decide ((4:Int)>9223372036854775807)=false) (.o (rfl:(4:Int)=4) (.o (show(0:Int)<=4 by decide) (.o (show(4:Int)<=(ah:Int) by decide) (.m 8 le8 (.b (rfl:decide ((1:Int)<4)=true) (.o (show(0:Int)<=1 by decide) (.o (show(1:Int)<=4 by decide) (.o (show(4:Int)<=4 by decide) (.o (show(0:Int)<=0 by decide) (.o (show(0:Int)<=1 by decide) (.o (show(1:Int)<=4 by decide) (.b (rfl:decide ((2:Int)<4)=true) (.o (show(0:Int)<=2 by decide) (.o (show(2:Int)<=4 by decide) (.o (show(4:Int)<=4 by decide) (.o (show(0:Int)<=0 by decide) (.o (show(0:Int)<=2 by decide) (.o (show(2:Int)<=4 by decide) (.b (rfl:decide ((4:Int)<4)=false) .rr))))))))))))))))))))))))
 .exact aI hO (.b (rfl:decide ((5:Int)<0)=false) (.o (rfl:(1:Int)=1) (.o (⟨by decide,by decide⟩:(0:Int)<=5∧(5:Int)<=6) (.b (rfl:decide ((0:Int)>0)=false) (.b (rfl:decide ((5:Int)>9223372036854775807)=false) (.o (rfl:(5:Int)=5) (.o (show(0:Int)<=5 by decide) (.o (show(5:Int)<=(ah:Int) by decide) (.m 8 le8 (.b (rfl:decide ((1:Int)<5)=true) (.o (show(0:Int)<=1 by decide) (.o (show(1:Int)<=5 by decide) (.o (show(5:Int)<=5 by decide) (.o (show(0:Int)<=0 by decide) (.o (show(0:Int)<=1 by decide) (.o (show(1:Int)<=5 by decide) (.b (rfl:decide ((2:Int)<5)=true) (.o (show(0:Int)<=2 by decide) (.o (show(2:Int)<=5 by decide) (.o (show(5:Int)<=5 by decide) (.o (show(0:Int)<=0 by decide) (.o (show(0:Int)<=2 by decide) (.o (show(2:Int)<=5 by decide) (.b (rfl:decide ((4:Int)<5)=true) (.o (show(0:Int)<=4 by decide) (.o (show(4:Int)<=5 by decide) (.o (show(5:Int)<=5 by decide) (.o (show(0:Int)<=0 by decide) (.o (show(0:Int)<=4 by decide) (.o (show(4:Int)<=5 by decide) (.b (rfl:decide ((5:Int)<5)=false) .rr)))))))))))))))))))))))))))))))
 .exact aI hO (.b (rfl:decide ((6:Int)<0)=false) (.o (rfl:(1:Int)=1) (.o (⟨by decide,by decide⟩:(0:Int)<=6∧(6:Int)<=6) (.b (rfl:decide ((0:Int)>0)=false) (.b (rfl:decide ((6:Int)>9223372036854775807)=false) (.o (rfl:(6:Int)=6) (.o (show(0:Int)<=6 by decide) (.o (show(6:Int)<=(ah:Int) by decide) (.m 8 le8 (.b (rfl:decide ((1:Int)<6)=true) (.o (show(0:Int)<=1 by decide) (.o (show(1:Int)<=6 by decide) (.o (show(6:Int)<=6 by decide) (.o (show(0:Int)<=0 by decide) (.o (show(0:Int)<=1 by decide) (.o (show(1:Int)<=6 by decide) (.b (rfl:decide ((2:Int)<6)=true) (.o (show(0:Int)<=2 by decide) (.o (show(2:Int)<=6 by decide) (.o (show(6:Int)<=6 by decide) (.o (show(0:Int)<=0 by decide) (.o (show(0:Int)<=2 by decide) (.o (show(2:Int)<=6 by decide) (.b (rfl:decide ((4:Int)<6)=true) (.o (show(0:Int)<=4 by decide) (.o (show(4:Int)<=6 by decide) (.o (show(6:Int)<=6 by decide) (.o (show(0:Int)<=0 by decide) (.o (show(0:Int)<=4 by decide) (.o (show(4:Int)<=6 by decide) (.b (rfl:decide ((6:Int)<6)=false) .rr)))))))))))))))))))))))))))))))
open Go Tw Pv cu
structure S3 where
 a:Int
 b:Int
 c:Int
 deriving DecidableEq
abbrev S3.ps(s:S3):List (PV aB):=[.int .i64 s.a,.int .i64 s.b,.int .i64 s.c]
def S3.get(s:S3):Nat->Int
 | 0=>s.a
 | 1=>s.b
 |_=>s.c
def S3.set(s:S3)(k:Nat)(v:Int):S3:=match k with
 | 0=>⟨v,s.b,s.c⟩
 | 1=>⟨s.a,v,s.c⟩
 |_=>⟨s.a,s.b,v⟩
structure Jb where
 s:LI0
 o:LI0
 D:List Dg
 g:LI0
abbrev Jb.ps(J:Jb)(op:PV aB):List (PV aB):=[lI J.s,lI J.o,lDg J.D,lI J.g,op]
def lH(d:Dg)(x c:Int):Bool:=if decide (x>=0)=true then((au d x).var==c)else false
def MQ(d:Dg)(x c g:Int):Int:=if lH d x c=true then(au d x).aA.getD g.toNat 0 else x
theorem abE{d:Dg}{x c:Int}(e:decide (x>=0)=false):lH d x c=false:=by unfold lH;rw[e];rfl
theorem a8G{d:Dg}{x c:Int}(e:decide (x>=0)=true):lH d x c=((au d x).var==c):=by unfold lH;rw[e];rfl
abbrev lJ(D:List Dg)(k:Nat):Dg:=D.getD k iL
def kG(D:List Dg)(s:S3)(c:Int):Bool:=!(jT (bg (fun k=>lH (lJ D k) (s.get k) c) D.length))
def bP(D:List Dg)(s:S3)(c g:Int):S3:=aU (fun k y=>y.set k (MQ (lJ D k) (y.get k) c g)) D.length 0 s
def fF(D:List Dg):S3:=aU (fun k y=>y.set k (lJ D k).root) D.length 0 ⟨0,0,0⟩
theorem three{k n:Nat}(h:k<n)(hn:n<=3):k=0∨k=1∨k=2:=by omega
theorem m3{n:Nat}(h:n<=3):n<=ah:=by unfold ah;omega
section
variable {M f:Nat} {a cc:List (PV aB)} {H:List (PB aB)}
abbrev wAs(J:Jb)(op:PV aB)(H:List (PB aB))(s:S3)(c:Int)(i:Int)(x:List (Nat×PE aB)):aT aB:=⟨[(2,xi c),(4,.loc 1 0),(10,xL 26 J.D),(11,xi J.D.length),(12,xi i)]++x,[J.ps op,s.ps],H⟩
def zAs(J:Jb)(op:PV aB)(H:List (PB aB))(s:S3)(c:Int):Unit⊕Nat->Ex×aT aB
 |.inl _=>(.exit 0,wAs J op H s c J.D.length [(13,xl false)])
 |.inr k=>(.ret,⟨[(6,xl true)],[J.ps op,s.ps,(lJ J.D k).ps],H⟩)
theorem lAs(J:Jb)(s:S3)(c:Int)(hD:J.D.length<=3)(hr:∀k,k<J.D.length->decide (s.get k>=0)=true->fD (s.get k) (lJ J.D k).aj.length):JZ M 127 0 H.length (wAs J (.fn f a cc) H s c 0 []) (zAs J (.fn f a cc) H s c (bg (fun k=>lH (lJ J.D k) (s.get k) c) J.D.length)).1 (zAs J (.fn f a cc) H s c (bg (fun k=>lH (lJ J.D k) (s.get k) c) J.D.length)).2:=by
 refine iJ (st:=fun i _=>wAs J (.fn f a cc) H s c i []) (g:=gS (fun k=>lH (lJ J.D k) (s.get k) c)) (out:=zAs J (.fn f a cc) H s c) (fun _ _=>True) (by kernel_rfl) (m3 hD) trivial (fun k u m hk _ ih=>?_) (fun _ _=>?_)
 .have h1:=hr k hk;have hg:gS (fun k=>lH (lJ J.D k) (s.get k) c) k u=if lH (lJ J.D k) (s.get k) c=true then .inr k else .inl u:=rfl
  cases e:decide (s.get k>=0)
  .rw[abE e,a0F (by simp)]at hg;rw[hg];rcases three hk hD with rfl|rfl|rfl
   all_goals exact aJ gU (.b (aZ hk) (.o (aC hk) (.b e (.nx (ih _ trivial)))))
  rw[a8G e]at hg;rw[hg];rcases three hk hD with rfl|rfl|rfl
  all_goals exact aJ gU (.b (aZ hk) (.o (aC hk) (.b e (.o (h1 e) (.ls (.ou nofun) (.nx (ih _ trivial)))))))
 exact aJ gU (.b (eP J.D.length) (.ou nofun))
theorem a8H(J:Jb)(s:S3)(c:Int)(hD:J.D.length<=3)(hr:∀k,k<J.D.length->decide (s.get k>=0)=true->fD (s.get k) (lJ J.D k).aj.length):dF X0 Qp (iC (M+1)) (.fn 127 [] []) [.agg (J.ps (.fn f a cc)),.agg s.ps,.int .i64 c] H (.bool (kG J.D s c)) H:=by
 have lp:=lAs (M:=M) (f:=f) (a:=a) (cc:=cc) (H:=H) J s c hD hr;unfold kG;cases h:jT (bg (fun k=>lH (lJ J.D k) (s.get k) c) J.D.length)
 .exact fQ gU (first:=[]) (cap:=[]) (.w (l9 lp 0 h) .er)
 exact fQ gU (first:=[]) (cap:=[]) (.w (l7 lp () h) .er)
abbrev wAf(J:Jb)(op:PV aB)(H:List (PB aB))(s:S3)(c g:Int)(i:Int)(x:List (Nat×PE aB)):aT aB:=⟨[(2,xi c),(3,xi g),(5,.loc 1 0),(8,.loc 2 0),(12,xL 26 J.D),(13,xi J.D.length),(14,xi i)]++x,[J.ps op,s.ps,[.int .i64 0,.int .i64 0,.int .i64 0]],H⟩
structure a2R(d:Dg)(x c g:Int):Prop where
 n:decide (x>=0)=true->fD x d.aj.length
 k:lH d x c=true->fD g (au d x).aA.length
theorem Kw(J:Jb)(s:S3)(c g:Int)(hD:J.D.length<=3)(hr:∀k,k<J.D.length->a2R (lJ J.D k) (s.get k) c g):dF X0 Qp (iC (M+1)) (.fn 129 [] []) [.agg (J.ps (.fn f a cc)),.agg s.ps,.int .i64 c,.int .i64 g] H (.agg (bP J.D s c g).ps) H:=by
 have lp:JZ M 129 0 H.length (wAf J (.fn f a cc) H s c g 0 []) (.exit 0) (wAf J (.fn f a cc) H (bP J.D s c g) c g J.D.length [(15,xl false)]):=by
  refine sV (σ:=S3) (N:=J.D.length) (g:=fun k y=>y.set k (MQ (lJ J.D k) (y.get k) c g)) (s0:=s) (st:=fun i y=>wAf J (.fn f a cc) H y c g i []) (fin:=fun y=>wAf J (.fn f a cc) H y c g J.D.length [(15,xl false)]) (fun j y=>∀k,j<=k->k<J.D.length->y.get k=s.get k) (by kernel_rfl) (m3 hD) (fun _ _ _=>rfl) (fun j y hj hy=>?_) (fun j y hj hy m e p g9=>?_) (fun y _=>?_)
  .intro k hk lG;rw[<-hy k (by omega) lG];rcases three lG hD with rfl|rfl|rfl<;>rcases three hj hD with rfl|rfl|rfl<;>first|rfl|omega
  .have h1:=hr j hj;rw[<-hy j (a15 _) hj]at h1;obtain⟨h1,h2⟩:=h1;unfold MQ at g9;rcases three hj hD with rfl|rfl|rfl
   all_goals
    cases e1:decide (y.get _>=0)
    .unfold lH at g9;rw[e1]at g9;exact aJ gU (.b (aZ hj) (.o (aC hj) (.b e1 (.go g9))))
    .have h3:=h1 e1;cases e2:(au (lJ J.D _) (y.get _)).var==c
     .unfold lH at g9;rw[e1,a0I rfl,e2]at g9;exact aJ gU (.b (aZ hj) (.o (aC hj) (.b e1 (.o h3 (.b e2 (.go g9))))))
     .unfold lH at g9 h2;rw[e1,a0I rfl,e2]at g9 h2;exact aJ gU (.b (aZ hj) (.o (aC hj) (.b e1 (.o h3 (.b e2 (.o h3 (.o (h2 rfl) (.go g9))))))))
  exact aJ gU (.b (eP J.D.length) .ex)
 exact fQ gU (first:=[]) (cap:=[]) (.w lp .er)
abbrev wSt(J:Jb)(op:PV aB)(H:List (PB aB))(s:S3)(i:Int)(x:List (Nat×PE aB)):aT aB:=⟨[(2,.loc 1 0),(6,xL 26 J.D),(7,xi J.D.length),(8,xi i)]++x,[J.ps op,s.ps],H⟩
theorem a0O(J:Jb)(hD:J.D.length<=3):dF X0 Qp (iC (M+1)) (.fn 130 [] []) [.agg (J.ps (.fn f a cc))] H (.agg (fF J.D).ps) H:=by
 have lp:JZ M 130 0 H.length (wSt J (.fn f a cc) H ⟨0,0,0⟩ 0 []) (.exit 0) (wSt J (.fn f a cc) H (fF J.D) J.D.length [(9,xl false)]):=by
  refine sV (σ:=S3) (N:=J.D.length) (g:=fun k y=>y.set k (lJ J.D k).root) (s0:=⟨0,0,0⟩) (st:=fun i y=>wSt J (.fn f a cc) H y i []) (fin:=fun y=>wSt J (.fn f a cc) H y J.D.length [(9,xl false)]) (fun _ _=>True) (by kernel_rfl) (m3 hD) trivial (fun _ _ _ _=>trivial) (fun j y hj _ m e p g9=>?_) (fun y _=>?_)
  .rcases three hj hD with rfl|rfl|rfl
   all_goals exact aJ gU (.b (aZ hj) (.o (aC hj) (.go g9)))
  exact aJ gU (.b (eP J.D.length) .ex)
 exact fQ gU (first:=[]) (cap:=[]) (.w lp .er)
end
end Go.Proofs.YtmobpoiejckagaaGreat
namespace Pv
open Go Tw
section
variable {X:lC} {P:LI1}
theorem dF.fzR(hX:bT X P){call:bn}{fv:PV X.Γ}{xs:List (PV X.Γ)}{H H1:List (PB X.Γ)}{v v':PV X.Γ}(hs:dF X P call fv xs H v H1)(is:List Nat)(hv:views H1 [v]=some [v'])(ho:∀i,i∈kX.kP [v]->i∈is):dF X P call fv xs H v' (bC is H1):=by intro A m h tf sD hr hf hx;obtain⟨w,h',ws,m1,k1,k2,k3,k4,k5,k6⟩:=hs A m h tf sD hr hf hx;have hF:=iH (h:=h') is m1;have w1:=(lX (m':=bW is m1) hX k2 (.cons k3 .nil) hv ho).mono fun b hb=>FA.gone k2 hb;obtain⟨x,r,e,h1,_⟩:=w1.inv;cases e;exact⟨w,h',ws,bW is m1,k1,k2.bC is,h1,k4.trans hF.1,k5.trans hF.2,k6⟩
end
end Pv
namespace Go.Proofs.YtmobpoiejckagaaGreat
open Go Tw Pv cu
def aW(D:List Dg)(s:S3):List V:=(List.range D.length).map fun k=>qG (lJ D k) (s.get k)
def gCe(D:List Dg)(s:S3)(k:Nat)(l:List V):List V:=l++[qG (lJ D k) (s.get k)]
theorem a8I(D:List Dg)(s:S3):aU (gCe D s) D.length 0 []=aW D s:=by have:=bV (g:=gCe D s) (m:=D.length) (k:=0) (s:=[]) (fun k l=>l=(List.range k).map fun k=>qG (lJ D k) (s.get k)) rfl (fun j l _ _ e=>by rw[gCe,e,aem,a4Z];rfl);rw[a4v]at this;exact this
abbrev wCe(J:Jb)(op:PV aB)(H:List (PB aB))(s:S3)(l:List V)(i:Int)(x:List (Nat×PE aB)):aT aB:=⟨[(3,.loc 1 0),(4,.val (.own H.length)),(8,xL 26 J.D),(9,xi J.D.length),(10,xi i)]++x,[J.ps op,s.ps],H++[.list false false 39 l]⟩
theorem a2S{M f:Nat}(J:Jb)(s:S3)(hD:J.D.length<=3)(hr:∀k,k<J.D.length->fD (jQ (s.get k)) (lJ J.D k).aO.length):dF X0 Qp (iC (M+1)) (.fn 128 [] []) [.agg (J.ps (.fn f [] [])),.agg s.ps] [] (lV (aW J.D s)) []:=by
 have lp:JZ M 128 0 0 (wCe J (.fn f [] []) [] s [] 0 []) (.exit 0) (wCe J (.fn f [] []) [] s (aW J.D s) J.D.length [(11,xl false)]):=by
  rw[<-a8I J.D s];refine sV (σ:=List V) (N:=J.D.length) (g:=gCe J.D s) (s0:=[]) (st:=fun i l=>wCe J (.fn f [] []) [] s l i []) (fin:=fun l=>wCe J (.fn f [] []) [] s l J.D.length [(11,xl false)]) (fun k l=>l.length=k) (by kernel_rfl) (m3 hD) rfl (fun j y hj hy=>by simp[gCe,hy]) (fun j y hj hy m e p g9=>?_) (fun y _=>?_)
  .have h1:=hr j hj;have h2:y.length+[qG (lJ J.D j) (s.get j)].length<=ah:=by rw[hy,a4b];exact m3 (by omega)
   rcases three hj hD with rfl|rfl|rfl
   all_goals exact aJ gU (.b (aZ hj) (.o (aC hj) (.o h1 (.o h2 (.goG [.gc [2]] g9)))))
  exact aJ gU (.b (eP J.D.length) .ex)
 have h0:dF X0 Qp (iC (M+1)) (.fn 128 [] []) [.agg (J.ps (.fn f [] [])),.agg s.ps] [] (.own 0) ([]++[.list false false 39 (aW J.D s)]):=fQ gU (first:=[]) (cap:=[]) (.wG [.Gv 4 39] lp .er);exact dF.cut hX (dF.fzR hX h0 [0] (v':=lV (aW J.D s)) rfl (by decide)) rfl rfl rfl rfl
theorem abG{M f:Nat}{u:Int}(J:Jb)(s:S3)(hD:J.D.length<=3)(hr:∀k,k<J.D.length->fD (jQ (s.get k)) (lJ J.D k).aO.length):dF X0 Qp (iC (M+1)) (.fn 128 [] []) [.agg (J.ps (.fn f [] [.ptr 0 0 1])),.agg s.ps] [.aG [.int .u8 u]] (lV (aW J.D s)) [.aG [.int .u8 u]]:=by
 have lp:JZ M 128 0 1 (wCe J (.fn f [] [.ptr 0 0 1]) [.aG [.int .u8 u]] s [] 0 []) (.exit 0) (wCe J (.fn f [] [.ptr 0 0 1]) [.aG [.int .u8 u]] s (aW J.D s) J.D.length [(11,xl false)]):=by
  rw[<-a8I J.D s];refine sV (σ:=List V) (N:=J.D.length) (g:=gCe J.D s) (s0:=[]) (st:=fun i l=>wCe J (.fn f [] [.ptr 0 0 1]) [.aG [.int .u8 u]] s l i []) (fin:=fun l=>wCe J (.fn f [] [.ptr 0 0 1]) [.aG [.int .u8 u]] s l J.D.length [(11,xl false)]) (fun k l=>l.length=k) (by kernel_rfl) (m3 hD) rfl (fun j y hj hy=>by simp[gCe,hy]) (fun j y hj hy m e p g9=>?_) (fun y _=>?_)
  .have h1:=hr j hj;have h2:y.length+[qG (lJ J.D j) (s.get j)].length<=ah:=by rw[hy,a4b];exact m3 (by omega)
   rcases three hj hD with rfl|rfl|rfl
   all_goals exact aJ gU (.b (aZ hj) (.o (aC hj) (.o h1 (.o h2 (.goG [.gc [3]] g9)))))
  exact aJ gU (.b (eP J.D.length) .ex)
 have h0:dF X0 Qp (iC (M+1)) (.fn 128 [] []) [.agg (J.ps (.fn f [] [.ptr 0 0 1])),.agg s.ps] [.aG [.int .u8 u]] (.own 1) ([.aG [.int .u8 u]]++[.list false false 39 (aW J.D s)]):=fQ gU (first:=[]) (cap:=[]) (.wG [.Gv 4 39] lp .er);exact dF.cut hX (dF.fzR hX h0 [1] (v':=lV (aW J.D s)) rfl (by decide)) rfl rfl rfl rfl
open Go Tw Pv cu
def S3.l(s:S3):LI0:=[s.a,s.b,s.c]
theorem uSt:Tryz.prog.underlying 148=some (.array 3 3):=by kernel_rfl
theorem am3(a b:S3):aF Qp (Op.equal 148 (.agg (Eb .i64 a.l)) (.agg (Eb .i64 b.l)))=some (decide (a=b)):=by have:=CV (P:=Qp) 9998 (k:=.i64) (l:=a.l) (l':=b.l) uSt (by kernel_rfl) a4s (by kernel_rfl) rfl rfl;refine Eq.trans this ?_;obtain⟨a1,a2,a3⟩:=a;obtain⟨b1,b2,b3⟩:=b;simp[S3.l]
def kS:qc X0 Qp 148 S3 where
 pv x:=.agg x.ps
 tv x:=.agg [.int .i64 x.a,.int .i64 x.b,.int .i64 x.c]
 v x:=.agg (Eb .i64 x.l)
 hp _:=rfl
 ht _:=rfl
 hc em x:=by kernel_rfl
 hf x l:=ag5 uSt am3 x l
 hk:=ag6 uSt am3
structure Mk where
 e:List V
 n:List Br
 k:List (S3×Int)
def Wu(D:List Dg)(f:S3->Mk->Int×Mk)(s:S3)(c:Int)(j:Nat)(y:LI0×Mk):LI0×Mk:=(y.1++[(f (bP D s c j) y.2).1],(f (bP D s c j) y.2).2)
def knS(k:List (S3×Int))(s:S3):Int:=((k.find? fun e=>decide (e.1=s)).map (·.2)).getD 0
def jI(J:Jb)(op:List V->V):LI0->S3->Mk->Int×Mk
 | [],s,x=>(i64.wrap (0-((x.e++[op (aW J.D s)]).length:Int)),{ x with e:=x.e++[op (aW J.D s)] })
 |c::r,s,x=>if kG J.D s c=true then(if decide (J.g.getD c.toNat 0>=0)=true then jI J op r (bP J.D s c (J.g.getD c.toNat 0)) x
   else if s∈x.k.map (·.1)then(knS x.k s,x)
   else
    let y:=aU (Wu J.D (jI J op r) s c) (J.s.getD c.toNat 0).toNat 0 ([],x)
    ((y.2.n.length:Int),⟨y.2.e,y.2.n++[⟨c,y.1⟩],y.2.k++[(s,(y.2.n.length:Int))]⟩))
  else jI J op r s x
abbrev Jc(k:List (S3×Int)):List (PV aB×PV aB):=kS.es (k.map fun e=>(e.1,.int .i64 e.2))
abbrev pM:List (PV aB):=[.ptr 2 0 5,.ptr 1 0 5,.ptr 3 0 1,.ptr 4 0 1]
abbrev HM0(J:Jb)(f:Nat)(x:Mk):List (PB aB):=[.map (Jc x.k),.cells [lI J.s,lI J.o,.own 5,.own 6,.int .i64 0],.aG (J.ps (.fn f [] [])),.aG [.fn 126 [] pM],.aG [.map 0],Ak x.e,Am x.n]
abbrev abH(J:Jb)(f:Nat)(x:Mk):List (PB aB):=[.map (Jc x.k),.cells [lI J.s,lI J.o,.own 7,.own 8,.int .i64 0],.aG (J.ps (.fn f [] [])),.aG [.fn 126 [] pM],.aG [.map 0],.gone,.gone,Ak x.e,Am x.n]
abbrev HM1(J:Jb)(f:Nat)(u:Int)(x:Mk):List (PB aB):=[.map (Jc x.k),.cells [lI J.s,lI J.o,.own 6,.own 7,.int .i64 0],.aG (J.ps (.fn f [] [.ptr 5 0 1])),.aG [.fn 126 [] pM],.aG [.map 0],.aG [.int .u8 u],Ak x.e,Am x.n]
abbrev abI(J:Jb)(f:Nat)(u:Int)(x:Mk):List (PB aB):=[.map (Jc x.k),.cells [lI J.s,lI J.o,.own 8,.own 9,.int .i64 0],.aG (J.ps (.fn f [] [.ptr 5 0 1])),.aG [.fn 126 [] pM],.aG [.map 0],.aG [.int .u8 u],.gone,.gone,Ak x.e,Am x.n]
open Go Tw Pv cu
theorem S3.jK{s:S3}{i k:Nat}{v:Int}(hi:i<3)(hk:k<3):(s.set i v).get k=if k=i then v else s.get k:=by
 match i,k,hi,hk with
 | 0,0,_,_=>rfl
 | 0,1,_,_=>rfl
 | 0,2,_,_=>rfl
 | 1,0,_,_=>rfl
 | 1,1,_,_=>rfl
 | 1,2,_,_=>rfl
 | 2,0,_,_=>rfl
 | 2,1,_,_=>rfl
 | 2,2,_,_=>rfl
 |i+3,_,h,_=>omega
 |_,k+3,_,h=>omega
theorem Kz{D:List Dg}(hD:D.length<=3)(t:S3)(c g:Int){k:Nat}(hk:k<D.length):(bP D t c g).get k=MQ (lJ D k) (t.get k) c g:=by
 have:=bV (g:=fun k (y:S3)=>y.set k (MQ (lJ D k) (y.get k) c g)) (m:=D.length) (k:=0) (s:=t) (fun j y=>∀k,k<D.length->y.get k=if k<j then MQ (lJ D k) (t.get k) c g else t.get k) (fun k _=>by rw[a0F (by omega)]) (fun j y _ hj hy k hk=>by
  rw[S3.jK (by omega) (by omega)];by_cases e:k=j
  .subst e;rw[a0I rfl,a0I (by omega),hy k hk,a0F (by omega)]
  rw[a0F e,hy k hk];by_cases e2:k<j
  .rw[a0I e2,a0I (by omega)]
  rw[a0F e2,a0F (by omega)])
 have h:=this k hk;rw[a0I (by omega)]at h;exact h
theorem Es{D:List Dg}{t:S3}{c:Int}:kG D t c=true↔∃k,k<D.length∧lH (lJ D k) (t.get k) c=true:=by
 unfold kG;constructor
 .intro h;refine acL fun h2=>?_;have:jT (bg (fun k=>lH (lJ D k) (t.get k) c) D.length)=true:=dK.2 fun k hk=>by
   cases e:lH (lJ D k) (t.get k) c
   .rfl
   exact absurd ⟨k,hk,e⟩ h2
  rw[this]at h;cases h
 rintro⟨k,hk,h⟩;cases e:jT (bg (fun k=>lH (lJ D k) (t.get k) c) D.length)
 .rfl
 have:=dK.1 e k hk;rw[h]at this;cases this
theorem EY{d:Dg}{x c:Int}:lH d x c=true↔0<=x∧(au d x).var=c:=by
 unfold lH;split
 .rename_i h;simp at h;simp[h]
 rename_i h;simp at h;simp;omega
structure DJ(J:Jb)(d:Dg):Prop where
 t:D8 d
 n:d.aj.length<=6000
 s:d.ay=J.s
 o:d.aH=J.o
 rk:∀i,i<d.aj.length->∀k,k<(fH d i).aA.length->d.aH.idxOf (fH d i).var+1<=Fv d.aH d.aj ((fH d i).aA.getD k 0)
 two:∀i,i<d.aj.length->2<=(fH d i).aA.length
structure jV(J:Jb):Prop where
 d3:J.D.length<=3
 bQ:sJ J.s
 ord:kQ J.s.length J.o=true
 dg:∀k,k<J.D.length->DJ J (lJ J.D k)
 gl:J.g.length=J.s.length
 gv:∀c,fD c J.s.length->0<=J.g.getD c.toNat 0->J.g.getD c.toNat 0<J.s.getD c.toNat 0
def Dp(J:Jb)(a:Nat)(t:S3):Prop:=∀k,k<J.D.length->jH (lJ J.D k) (t.get k) (lJ J.D k).aj.length∧a<=Fv J.o (lJ J.D k).aj (t.get k)
theorem Dp.le{J:Jb}{a b:Nat}{t:S3}(h:Dp J a t)(hb:b<=a):Dp J b t:=fun k hk=>⟨(h k hk).1,by have:=(h k hk).2;omega⟩
section
variable {J:Jb} (hJ:jV J) {a:Nat} {t:S3} {c:Int} {r:LI0}
include hJ
theorem jV.o2:J.o.Nodup∧J.o.length=J.s.length∧∀c∈J.o,fD c J.s.length:=by have ho:=hJ.ord;unfold kQ at ho;rw[a1n]at ho;exact⟨ho.2.2,ho.1,fun c hc=>⟨(ho.2.1 c hc).1,(ho.2.1 c hc).2⟩⟩
theorem jV.at_(hr:J.o.drop a=c::r):a<J.o.length∧J.o.getD a 0=c∧J.o.drop (a+1)=r∧c∈J.o∧J.o.idxOf c=a∧fD c J.s.length:=by
 have aQ:a<J.o.length:=by have:=congrArg List.length hr;rw[a4u,a4O]at this;omega
 have hd:=a5X aQ;rw[hr]at hd;obtain⟨hc,vZ⟩:=aib hd;have Fq:c∈J.o:=by rw[hc];exact a5p aQ
 obtain⟨h1,h2,h3⟩:=jV.o2 hJ;exact⟨aQ,by rw[hc];simp[List.getD,a0D aQ],vZ.symm,Fq,by rw[hc];exact h1.idxOf_getElem a aQ,h3 c Fq⟩
theorem a0P(hr:J.o.drop a=c::r)(h:kG J.D t c=true):¬Dp J (a+1) t:=fun hd=>by obtain⟨k,hk,h1⟩:=Es.1 h;obtain⟨x0,hv⟩:=EY.1 h1;have:=(hd k hk).2;unfold Fv at this;rw[a0F (by omega)]at this;have e:((lJ J.D k).aj.getD (t.get k).toNat kL).var=c:=hv;rw[e,(jV.at_ hJ hr).2.2.2.2.1]at this;omega
theorem a2T(hr:J.o.drop a=c::r)(hd:Dp J a t){k:Nat}(hk:k<J.D.length)(hn:lH (lJ J.D k) (t.get k) c=false):a+1<=Fv J.o (lJ J.D k).aj (t.get k):=by
 have h1:=(hd k hk).2;have h2:=jV.at_ hJ hr;by_cases x0:t.get k<0
 .unfold Fv;rw[a0I x0];omega
 have iM:((lJ J.D k).aj.getD (t.get k).toNat kL).var≠c:=fun e=>by have:lH (lJ J.D k) (t.get k) c=true:=EY.2 ⟨by omega,e⟩;rw[hn]at this;cases this
 unfold Fv at h1 ⊢;rw[a0F x0]at h1 ⊢;rcases a5h a (J.o.idxOf ((lJ J.D k).aj.getD (t.get k).toNat kL).var)with h3|h3
 .exact h3
 exfalso;have e:J.o.idxOf ((lJ J.D k).aj.getD (t.get k).toNat kL).var=a:=by omega
 have aQ:J.o.idxOf ((lJ J.D k).aj.getD (t.get k).toNat kL).var<J.o.length:=by rw[e];exact h2.1
 have g:J.o.getD (J.o.idxOf ((lJ J.D k).aj.getD (t.get k).toNat kL).var) 0=((lJ J.D k).aj.getD (t.get k).toNat kL).var:=by rw[List.getD,a0D aQ,a5z];exact a9C aQ
 rw[e,h2.2.1]at g;exact iM g.symm
theorem Wv(hr:J.o.drop a=c::r)(hd:Dp J a t)(h:kG J.D t c=false):Dp J (a+1) t:=fun k hk=>by
 refine⟨(hd k hk).1,a2T hJ hr hd hk ?_⟩;cases e:lH (lJ J.D k) (t.get k) c
 .rfl
 .have:=Es.2 ⟨k,hk,e⟩;rw[h]at this;cases this
theorem Jd(hd:Dp J a t){k:Nat}(hk:k<J.D.length)(h:lH (lJ J.D k) (t.get k) c=true):fD (t.get k) (lJ J.D k).aj.length∧(au (lJ J.D k) (t.get k)).var=c∧((au (lJ J.D k) (t.get k)).aA.length:Int)=J.s.getD c.toNat 0:=by obtain⟨x0,hv⟩:=EY.1 h;have hr:fD (t.get k) (lJ J.D k).aj.length:=⟨x0,(hd k hk).1.1⟩;have hdj:=hJ.dg k hk;have:=hdj.t.ksz (t.get k).toNat (by have:=hr.2;omega);refine⟨hr,hv,?_⟩;have e:(au (lJ J.D k) (t.get k))=fH (lJ J.D k) (t.get k).toNat:=rfl;rw[e,this,<-e,hv,hdj.s]
theorem nV(hr:J.o.drop a=c::r)(hd:Dp J a t){j:Int}(hj:0<=j∧j<J.s.getD c.toNat 0):Dp J (a+1) (bP J.D t c j):=fun k hk=>by
 rw[Kz hJ.d3 t c j hk];unfold MQ;split
 .rename_i h;obtain⟨h1,h2,h3⟩:=Jd hJ hd hk h;have hdj:=hJ.dg k hk;have aQ:(t.get k).toNat<(lJ J.D k).aj.length:=by have:=h1.1;have:=h1.2;omega
  have L6:j.toNat<(fH (lJ J.D k) (t.get k).toNat).aA.length:=by have h3:((fH (lJ J.D k) (t.get k).toNat).aA.length:Int)=J.s.getD c.toNat 0:=h3;omega
  have g1:=hdj.t.Ah (t.get k).toNat aQ j.toNat L6;have g2:=hdj.rk (t.get k).toNat aQ j.toNat L6;refine⟨⟨by have:=g1.1;show(fH (lJ J.D k) (t.get k).toNat).aA.getD j.toNat 0<_;omega,g1.2⟩,?_⟩;have e:(fH (lJ J.D k) (t.get k).toNat).var=c:=h2;rw[hdj.o,e,(jV.at_ hJ hr).2.2.2.2.1]at g2;exact g2
 .rename_i h;exact⟨(hd k hk).1,a2T hJ hr hd hk (by simpa using h)⟩
theorem KA(hd:Dp J a t){j:Int}(hj:0<=j∧j<J.s.getD c.toNat 0){k:Nat}(hk:k<J.D.length):a2R (lJ J.D k) (t.get k) c j:=by refine⟨fun h=>⟨by simpa using h,(hd k hk).1.1⟩,fun h=>?_⟩;have:=(Jd hJ hd hk h).2.2;exact⟨hj.1,by rw[this];exact hj.2⟩
theorem Wx(hr:J.o.drop a=c::r)(hd:Dp J a t)(h:kG J.D t c=true):2<=(J.s.getD c.toNat 0).toNat:=by obtain⟨k,hk,h1⟩:=Es.1 h;obtain⟨h2,h3,h4⟩:=Jd hJ hd hk h1;have:=(hJ.dg k hk).two (t.get k).toNat (by have:=h2.1;have:=h2.2;omega);have h4:((fH (lJ J.D k) (t.get k).toNat).aA.length:Int)=J.s.getD c.toNat 0:=h4;omega
theorem KC(hd:Dp J J.o.length t){k:Nat}(hk:k<J.D.length):t.get k<0∧fD (jQ (t.get k)) (lJ J.D k).aO.length:=by
 have h1:=hd k hk;have:t.get k<0:=by
  refine acL fun h=>?_;have h2:=h1.2;unfold Fv at h2;rw[a0F h]at h2;have hdj:=hJ.dg k hk;have aQ:(t.get k).toNat<(lJ J.D k).aj.length:=by have:=h1.1.1;omega
  have hv:=hdj.t.var (t.get k).toNat aQ;rw[hdj.s]at hv;have:=a5t.2 (mX hJ.ord hv);have e:(fH (lJ J.D k) (t.get k).toNat).var=((lJ J.D k).aj.getD (t.get k).toNat kL).var:=rfl;rw[e]at this;omega
 exact⟨this,h1.1.2 this⟩
end
open Go Tw Pv cu
def ov(g q:LI0):LI0:=List.zipWith (fun a b=>if 0<=a then a else b) g q
theorem KD{g q:LI0}{k:Nat}(h:g.length=q.length):(ov g q).getD k 0=if k<g.length then(if 0<=g.getD k 0 then g.getD k 0 else q.getD k 0)else 0:=by
 unfold ov;by_cases hk:k<g.length
 .rw[a0I hk];simp[List.getD,List.getElem?_zipWith,a0D hk,a0D (show k<q.length by omega)]
 rw[a0F hk];simp[List.getD,List.getElem?_zipWith,a4Y (show g.length<=k by omega)]
def a8L(J:Jb)(op:List V->V)(q:LI0)(t:S3)(v:V):Prop:=∃l:List V,l.length=J.D.length∧(∀k,k<J.D.length->To (lJ J.D k) (ov J.g q) (t.get k) (l.getD k V0))∧v=op l
def Sem(J:Jb)(op:List V->V)(v:Int)(t:S3)(x:EN):Prop:=∀Z:Dg,Z.aO.length<2^61->x.1 <+: Z.aO->x.2 <+: Z.aj->∀q,jd J.s q=true->∃u,To Z q v u∧a8L J op q t u
theorem Sem.mono{J:Jb}{op:List V->V}{v:Int}{t:S3}{x y:EN}(h:Sem J op v t x)(hp:QG x y):Sem J op v t y:=fun Z hZ h1 h2=>h Z hZ (hp.1.trans h1) (hp.2.trans h2)
abbrev Mk.en(x:Mk):EN:=(x.e,x.n)
def BX(v:V):Prop:=vOk v=true∧0<=v.f
structure XOk(J:Jb)(op:List V->V)(x:Mk):Prop where
 v:PtV J.s J.o x.en
 k:∀e∈x.k,fD e.2 x.n.length∧kG J.D e.1 (x.n.getD e.2.toNat kL).var=true∧Sem J op e.2 e.1 x.en
 nd:(x.k.map (·.1)).Nodup
 e:∀v∈x.e,BX v
 w:∀b∈x.n,∀v∈b.aA,GN v
structure a4K(J:Jb)(op:List V->V)(a:Nat)(w:Nat)(t:S3)(x:Mk)(z:Int×Mk):Prop where
 pre:QG x.en z.2.en
 el:z.2.e.length<=x.e.length+w
 nl:z.2.n.length+1<=x.n.length+w
 ok:XOk J op z.2
 rf:Dc J.o z.2.en z.1 z.2.n.length a
 sm:Sem J op z.1 t z.2.en
 ks:∀e∈z.2.k,e∈x.k∨Dp J a e.1
 w:GN z.1
theorem XOk.mono{J:Jb}{op:List V->V}{x:Mk}{e:List V}(h:XOk J op x)(hp:x.e <+: e)(he:∀v∈e,BX v):XOk J op { x with e:=e }:=by have hq:QG x.en (e,x.n):=⟨hp,a5r⟩;exact⟨⟨h.v.var,h.v.ksz,fun i hi k hk=>(h.v.Ah i hi k hk).mono hq (a15 _) (a9U hi) (a15 _)⟩,fun e he=>⟨(h.k e he).1,(h.k e he).2.1,(h.k e he).2.2.mono hq⟩,h.nd,he,h.w⟩
theorem QM{J:Jb}(hJ:jV J){op:List V->V}{q:LI0}{t:S3}{a:Nat}(hd:Dp J a t){c j:Int}{u:V}(hj:(ov J.g q).getD c.toNat 0=j)(h:a8L J op q (bP J.D t c j) u):a8L J op q t u:=by
 obtain⟨l,h1,h2,h3⟩:=h;refine⟨l,h1,fun k hk=>?_,h3⟩;have h4:=h2 k hk;rw[Kz hJ.d3 t c j hk]at h4;unfold MQ at h4;split at h4
 .rename_i h5;obtain⟨h6,h7,_⟩:=Jd hJ hd hk h5;refine .step h6.1 ?_;rw[h7,hj];exact h4
 exact h4
def qH(J:Jb)(op:List V->V):Prop:=∀t,Dp J J.o.length t->BX (op (aW J.D t))
theorem abJ{J:Jb}(hJ:jV J)(op:List V->V)(jY:qH J op){t:S3}{x:Mk}(hd:Dp J J.o.length t)(hx:XOk J op x)(hb:x.e.length+1<=2^60):a4K J op J.o.length 1 t x (jI J op [] t x):=by
 have e0:i64.wrap (0-((x.e++[op (aW J.D t)]).length:Int))=-1-(x.e.length:Int):=by rw[a1p,a4b,eY (by omega) (by omega)];omega
 obtain⟨_,e2⟩:=QI (k:=x.e.length) (by omega);have hp:x.e <+: x.e++[op (aW J.D t)]:=a9D _ _;show a4K J op J.o.length 1 t x (i64.wrap (0-((x.e++[op (aW J.D t)]).length:Int)),_);rw[e0];refine⟨⟨hp,a5r⟩,by simp,a15 _,hx.mono hp (fun v hv=>by rcases a3v.1 hv with hv|hv;exact hx.e v hv;rw[a2U.1 hv];exact jY t hd),⟨fun _=>?_,?_,?_⟩,fun Z hZ g1 g2 q hq=>?_,fun e he=>.inl he,⟨by show _<=-1-(x.e.length:Int);omega,by show -1-(x.e.length:Int)<_;omega⟩⟩
 .rw[e2];exact⟨by omega,by simp;omega⟩
 .show -1-(x.e.length:Int)<_;omega
 .unfold Fv;rw[a0I (by show -1-(x.e.length:Int)<0;omega)];exact a15 _
 have h1:=To.fin (d:=Z) (q:=q) (r:=-1-(x.e.length:Int)) (by omega);rw[e2,a5D]at h1;have g1:x.e++[op (aW J.D t)] <+: Z.aO:=g1;have e3:Z.aO.getD x.e.length V0=op (aW J.D t):=by rw[Ap g1 (by simp)];simp[List.getD]
 rw[e3]at h1;refine⟨_,h1,aW J.D t,by simp[aW],fun k hk=>?_,rfl⟩;have h2:=KC hJ hd hk;have e4:(aW J.D t).getD k V0=qG (lJ J.D k) (t.get k):=by simp[aW,List.getD,hk]
 rw[e4];exact .fin h2.1
theorem Et{α:Type}{l:List α}{a:α}(h:l.Nodup)(ha:a∉l):(l++[a]).Nodup:=by rw[a9G];exact⟨h,by simp,fun x hx y hy e=>by simp at hy;subst hy;subst e;exact ha hx⟩
theorem KE{α:Type}{l:List α}{x d:α}{j:Nat}:(l++[x]).getD j d=if j<l.length then l.getD j d else if j=l.length then x else d:=by
 split
 .rename_i h;simp[List.getD,a0E h]
 rename_i h;split
 .rename_i h2;subst h2;simp[List.getD]
 rename_i h2;rw[List.getD,a4Y (by simp;omega)];rfl
theorem Us{J:Jb}(hJ:jV J)(op:List V->V)(jY:qH J op):∀(r:LI0) (a:Nat) (t:S3) (x:Mk),J.o.drop a=r->a<=J.o.length->Dp J a t->XOk J op x->x.e.length+wO J.s r<=2^60->x.n.length+wO J.s r<=2^60->a4K J op a (wO J.s r) t x (jI J op r t x)
 | [],a,t,x,hr,ha,hd,hx,hb,yN=>by
  have:a=J.o.length:=by have:=congrArg List.length hr;rw[a4u,a5C]at this;omega
  subst this;exact abJ hJ op jY hd hx hb
 |c::r,a,t,x,hr,ha,hd,hx,hb,yN=>by
  obtain⟨aQ,hoc,vZ,Fq,hci,oz⟩:=jV.at_ hJ hr;have hz:=hJ.bQ.sz _ (bU (s:=J.s) (k:=c.toNat) (by have:=oz.1;have:=oz.2;omega));have Zr:∀c'∈r,fD c' J.s.length:=fun c' h=>(jV.o2 hJ).2.2 c' (by rw[<-vZ]at h;exact a5I h);have hw:=QE hJ.bQ.sz Zr;have hw1:wO J.s r<=(J.s.getD c.toNat 0).toNat*wO J.s r:=aew _ (by omega);simp only[wO]at hb yN ⊢;have up:∀{t':S3} {z:Int×Mk},a4K J op (a+1) (wO J.s r) t' x z->(∀q u,jd J.s q=true->a8L J op q t' u->a8L J op q t u)->a4K J op a ((J.s.getD c.toNat 0).toNat*wO J.s r) t x z:=fun{t' z} h hs=>
   ⟨h.pre,by have:=h.el;omega,by have:=h.nl;omega,h.ok,h.rf.mono QG.rfl (a15 _) (a15 _) (by omega),fun Z hZ g1 g2 q hq=>let ⟨u,u1,u2⟩:=h.sm Z hZ g1 g2 q hq;⟨u,u1,hs q u hq u2⟩,fun e he=>(h.ks e he).imp id fun h=>h.le (by omega),h.w⟩
  unfold jI;cases BZ:kG J.D t c
  .rw[a0F (by simp)];exact up (Us hJ op jY r (a+1) t x vZ aQ (Wv hJ hr hd BZ) hx (by omega) (by omega)) fun _ _ _ h=>h
  rw[a0I rfl];by_cases hg:J.g.getD c.toNat 0>=0
  .rw[a0I (by simpa using hg)];refine up (Us hJ op jY r (a+1) _ x vZ aQ (nV hJ hr hd ⟨hg,hJ.gv c oz hg⟩) hx (by omega) (by omega)) fun q u hq h=>QM hJ hd ?_ h;rw[KD (by rw[hJ.gl,nS hq]),a0I (by rw[hJ.gl];have:=oz.1;have:=oz.2;omega),a0I hg]
  rw[a0F (by simpa using hg)];by_cases hk:t∈x.k.map (·.1)
  .rw[a0I hk];obtain⟨e,he,rfl⟩:=a1e.1 hk;have hkn:knS x.k e.1=e.2:=by
    have:x.k.find? (fun y=>decide (y.1=e.1))=some e:=by
     have jL:=hx.nd;clear hb up hk BZ hd;generalize x.k=l at he jL
     induction l with
     |nil=>cases he
     |cons y l ih=>
      rw[ahY];rcases a2x.1 he with rfl|he
      .simp
      have:¬y.1=e.1:=fun h=>by rw[a5g,a5n]at jL;exact jL.1 (a1e.2 ⟨e,he,h.symm⟩)
      rw[af4 this];rw[a5g,a5n]at jL;exact ih he jL.2
    unfold knS;rw[this];rfl
   rw[hkn];obtain⟨k1,k2,k3⟩:=hx.k e he;have hmul:2*1<=(J.s.getD c.toNat 0).toNat*wO J.s r:=ai5 (Wx hJ hr hd BZ) hw;refine⟨QG.rfl,by show x.e.length<=_;omega,by show x.n.length+1<=_;omega,hx,⟨fun h=>by have:=k1.1;show fD _ _;exact absurd h (by omega),k1.2,?_⟩,k3,fun _ h=>.inl h,⟨by have:=k1.1;show _<=e.2;omega,by have:=k1.2;show e.2<_;omega⟩⟩;obtain⟨k,hk,h1⟩:=Es.1 k2;obtain⟨x0,hv⟩:=EY.1 h1;have h2:=(hd k hk).2;unfold Fv at h2 ⊢;rw[a0F (by omega)]at h2;have k10:=k1.1;rw[a0F (show ¬e.2<0 by omega)];have hv:((lJ J.D k).aj.getD (e.1.get k).toNat kL).var=(x.n.getD e.2.toNat kL).var:=hv;rw[hv]at h2;exact h2
  rw[a0F hk];have hm2:=Wx hJ hr hd BZ;have Xk:∀j,j<(J.s.getD c.toNat 0).toNat->j*wO J.s r+wO J.s r<=(J.s.getD c.toNat 0).toNat*wO J.s r:=fun j hj=>by have:(j+1)*wO J.s r<=(J.s.getD c.toNat 0).toNat*wO J.s r:=a3Z _ hj;rw[a3C]at this;omega
  have inv:=bV (g:=Wu J.D (jI J op r) t c) (m:=(J.s.getD c.toNat 0).toNat) (k:=0) (s:=([],x)) (fun k y=>y.1.length=k∧QG x.en y.2.en∧y.2.e.length<=x.e.length+k*wO J.s r∧y.2.n.length+k<=x.n.length+k*wO J.s r∧XOk J op y.2∧(∀e∈y.2.k,e∈x.k∨Dp J (a+1) e.1)∧(∀v∈y.1,GN v)∧∀j:Nat,j<k->Dc J.o y.2.en (y.1.getD j 0) y.2.n.length (a+1)∧Sem J op (y.1.getD j 0) (bP J.D t c j) y.2.en)
   ⟨rfl,QG.rfl,by simp,by simp,hx,fun _ h=>.inl h,(fun v hv=>by cases hv),fun j hj=>by omega⟩ (fun j y _ hj hy=>by
    obtain⟨y1,y2,y3,y4,y5,y6,y8,y7⟩:=hy;have Xk:=Xk j (by omega);have h:=Us hJ op jY r (a+1) (bP J.D t c j) y.2 vZ aQ (nV hJ hr hd ⟨by omega,by omega⟩) y5 (by omega) (by omega);refine⟨by simp[Wu,y1],y2.trans h.pre,?_,?_,h.ok,fun e he=>?_,fun v hv=>?_,fun j' Ey=>?_⟩
    .have:=h.el;show(jI J op r (bP J.D t c j) y.2).2.e.length<=_;rw[a3C];omega
    .have:=h.nl;show(jI J op r (bP J.D t c j) y.2).2.n.length+_<=_;rw[a3C];omega
    .rcases h.ks e he with h1|h1
     .exact y6 e h1
     .exact .inr h1
    .have hv:v∈y.1++[(jI J op r (bP J.D t c j) y.2).1]:=hv;rcases a3v.1 hv with hv|hv
     .exact y8 v hv
     .rw[a2U.1 hv];exact h.w
    .have e1:(Wu J.D (jI J op r) t c j y).1.getD j' 0=if j'<j then y.1.getD j' 0 else(jI J op r (bP J.D t c j) y.2).1:=by
      show(y.1++[_]).getD j' 0=_;rw[KE,y1];split
      .rfl
      .rw[a0I (by omega)]
     rw[e1];by_cases e:j'<j
     .rw[a0I e];obtain⟨a1,a2⟩:=y7 j' e;exact⟨a1.mono h.pre h.pre.2.length_le (a15 _) (a15 _),a2.mono h.pre⟩
     .rw[a0F e];have e:j'=j:=(by omega);subst e;exact⟨h.rf,h.sm⟩)
  rw[a4v]at inv;simp only[];generalize aU (Wu J.D (jI J op r) t c) (J.s.getD c.toNat 0).toNat 0 ([],x)=y at inv;obtain⟨ks,m⟩:=y;obtain⟨y1,y2,y3,y4,y5,y6,y8,y7⟩:=inv;have y1:ks.length=(J.s.getD c.toNat 0).toNat:=y1;have hp:QG m.en (m.e,m.n++[(⟨c,ks⟩:Br)]):=⟨a5r,a9D _ _⟩;have gG:(m.n++[(⟨c,ks⟩:Br)]).getD m.n.length kL=⟨c,ks⟩:=by simp[List.getD]
  have a5Y:Sem J op (m.n.length:Int) t (m.e,m.n++[(⟨c,ks⟩:Br)]):=fun Z hZ g1 g2 q hq=>by
   have g2:m.n++[(⟨c,ks⟩:Br)] <+: Z.aj:=g2;have Zk:=(mg.1 hq).2 c.toNat (by have:=oz.1;have:=oz.2;omega);have hj:(q.getD c.toNat 0).toNat<(J.s.getD c.toNat 0).toNat:=(by omega);obtain⟨u,u1,u2⟩:=(y7 _ hj).2 Z hZ g1 ((a9D _ _).trans g2) q hq;have en:au Z (m.n.length:Int)=⟨c,ks⟩:=by show Z.aj.getD (m.n.length:Int).toNat kL=_;rw[a5D,Ap g2 (by simp),gG]
   refine⟨u,.step (by omega) (by rw[en];exact u1),QM hJ hd ?_ u2⟩;rw[KD (by rw[hJ.gl,nS hq]),a0I (by rw[hJ.gl];have:=oz.1;have:=oz.2;omega),a0F (by omega)];omega
  have hv2:PtV J.s J.o (m.e,m.n++[(⟨c,ks⟩:Br)]):=by
   have hg:∀i,i<(m.n++[(⟨c,ks⟩:Br)]).length->(i<m.n.length∧(m.n++[(⟨c,ks⟩:Br)]).getD i kL=m.n.getD i kL)∨(i=m.n.length∧(m.n++[(⟨c,ks⟩:Br)]).getD i kL=⟨c,ks⟩):=fun i hi=>by
    simp only[a1p,a4b]at hi;rcases a5h i m.n.length with h|h
    .exact .inl ⟨h,by rw[KE,a0I h]⟩
    exact .inr ⟨by omega,by rw[show i=m.n.length by omega,gG]⟩
   refine⟨fun i hi=>?_,fun i hi=>?_,fun i hi k hk=>?_⟩
   .rcases hg i hi with⟨h1,h2⟩|⟨h1,h2⟩
    .show fD ((m.n++[_]).getD i kL).var _;rw[h2];exact y5.v.var i h1
    show fD ((m.n++[_]).getD i kL).var _;rw[h2];exact oz
   .rcases hg i hi with⟨h1,h2⟩|⟨h1,h2⟩
    .show(((m.n++[_]).getD i kL).aA.length:Int)=J.s.getD ((m.n++[_]).getD i kL).var.toNat 0;rw[h2];exact y5.v.ksz i h1
    show(((m.n++[_]).getD i kL).aA.length:Int)=J.s.getD ((m.n++[_]).getD i kL).var.toNat 0;rw[h2];show(ks.length:Int)=J.s.getD c.toNat 0;omega
   rcases hg i hi with⟨h1,h2⟩|⟨h1,h2⟩
   .have hk:k<((m.n++[(⟨c,ks⟩:Br)]).getD i kL).aA.length:=hk;show Dc J.o _ (((m.n++[(⟨c,ks⟩:Br)]).getD i kL).aA.getD k 0) i (J.o.idxOf ((m.n++[(⟨c,ks⟩:Br)]).getD i kL).var+1);rw[h2]at hk ⊢;exact(y5.v.Ah i h1 k hk).mono hp (a15 _) (a9U h1) (a15 _)
   have hk:k<((m.n++[(⟨c,ks⟩:Br)]).getD i kL).aA.length:=hk;show Dc J.o _ (((m.n++[(⟨c,ks⟩:Br)]).getD i kL).aA.getD k 0) i (J.o.idxOf ((m.n++[(⟨c,ks⟩:Br)]).getD i kL).var+1);rw[h2]at hk ⊢;have hk:k<ks.length:=hk;subst h1;show Dc J.o _ (ks.getD k 0) m.n.length (J.o.idxOf c+1);rw[hci];exact(y7 k (by omega)).1.mono hp (a15 _) (a15 _) (a15 _)
  have y5:XOk J op m:=y5;have y6:∀e∈m.k,e∈x.k∨Dp J (a+1) e.1:=y6;refine⟨y2.trans hp,y3,?_,⟨hv2,fun e he=>?_,?_,y5.e,fun b hb=>?_⟩,⟨fun h=>?_,?_,?_⟩,a5Y,fun e he=>?_,⟨by show _<=(m.n.length:Int);omega,by have y4:m.n.length+_<=x.n.length+_:=y4;show(m.n.length:Int)<_;omega⟩⟩
  .show(m.n++[_]).length+1<=_;rw[a1p,a4b];have y4:m.n.length+(J.s.getD c.toNat 0).toNat<=x.n.length+(J.s.getD c.toNat 0).toNat*wO J.s r:=y4;omega
  .rcases a3v.1 he with he|he
   .obtain⟨k1,k2,k3⟩:=y5.k e he;have aQ:e.2.toNat<m.n.length:=by have:=k1.1;have:=k1.2;omega
    refine⟨⟨k1.1,?_⟩,?_,k3.mono hp⟩
    .have:=k1.2;show e.2<((m.n++[_]).length:Int);rw[a1p];omega
    show kG J.D e.1 ((m.n++[_]).getD e.2.toNat kL).var=true;rw[KE,a0I aQ];exact k2
   rw[a2U.1 he];refine⟨⟨by omega,by show(m.n.length:Int)<((m.n++[_]).length:Int);rw[a1p,a4b];omega⟩,?_,a5Y⟩;show kG J.D t ((m.n++[_]).getD (m.n.length:Int).toNat kL).var=true;rw[a5D,gG];exact BZ
  .rw[a4Z];refine Et y5.nd fun h=>?_;obtain⟨e,he,e2⟩:=a1e.1 h;rcases y6 e he with h1|h1
   .exact hk (a1e.2 ⟨e,h1,e2⟩)
   rw[e2]at h1;exact a0P hJ hr BZ h1
  .have hb:b∈m.n++[(⟨c,ks⟩:Br)]:=hb;rcases a3v.1 hb with hb|hb
   .exact y5.w b hb
   rw[a2U.1 hb];exact y8
  .exact absurd h (by show ¬((m.n.length:Int)<0);omega)
  .show(m.n.length:Int)<((m.n++[_]).length:Int);rw[a1p,a4b];omega
  .show a<=Fv J.o (m.n++[_]) (m.n.length:Int);unfold Fv;rw[a0F (by omega),a5D,gG];show a<=J.o.idxOf c;omega
  rcases a3v.1 he with he|he
  .rcases y6 e he with h1|h1
   .exact .inl h1
   exact .inr (h1.le (by omega))
  rw[a2U.1 he];exact .inr hd
open Go Tw Pv cu
def kH(J:Jb)(op:List V->V):Dg:=⟨J.s,J.o,(jI J op J.o (fF J.D) ⟨[],[],[]⟩).2.e,(jI J op J.o (fF J.D) ⟨[],[],[]⟩).2.n,(jI J op J.o (fF J.D) ⟨[],[],[]⟩).1⟩
def qj(J:Jb)(op:List V->V):Dg:=(Aq (kH J op)).1
def QN(J:Jb)(op:List V->V):List V:=(List.range (E8 J.s)).map fun(k:Nat)=>op (J.D.map fun d=>vH d (ov J.g (jO J.s k)))
theorem wY{D:List Dg}(hD:D.length<=3){k:Nat}(hk:k<D.length):(fF D).get k=(lJ D k).root:=by
 have:=bV (g:=fun k (y:S3)=>y.set k (lJ D k).root) (m:=D.length) (k:=0) (s:=⟨0,0,0⟩) (fun j y=>∀k,k<j->y.get k=(lJ D k).root) (fun k hk=>by omega) (fun j y _ hj hy k hk=>by
  rw[S3.jK (by omega) (by omega)];by_cases e:k=j
  .rw[a0I e,e]
  rw[a0F e];exact hy k (by omega))
 exact this k (by omega)
theorem am4{J:Jb}(hJ:jV J){q:LI0}(hq:jd J.s q=true):jd J.s (ov J.g q)=true:=by
 have hl:=nS hq;refine mg.2 ⟨by simp[ov,aeU,hJ.gl,hl],fun k hk=>?_⟩;rw[KD (by rw[hJ.gl,hl]),a0I (by rw[hJ.gl];exact hk)];split
 .rename_i h;exact⟨h,hJ.gv (k:Int) (aC hk) h⟩
 exact(mg.1 hq).2 k hk
theorem a0Q{J:Jb}(hJ:jV J){op:List V->V}(jY:qH J op):a4K J op 0 (wO J.s J.o) (fF J.D) ⟨[],[],[]⟩ (jI J op J.o (fF J.D) ⟨[],[],[]⟩):=by have hw:=Ep hJ.bQ.sz hJ.ord;have hm:=hJ.bQ.many;refine Us hJ op jY J.o 0 (fF J.D) ⟨[],[],[]⟩ (aaQ) (a5u _) (fun k hk=>?_) ⟨⟨fun i hi=>(by simp at hi),fun i hi=>(by simp at hi),fun i hi=>(by simp at hi)⟩,fun e he=>(by cases he),a5W,fun v hv=>(by cases hv),fun b hb=>(by cases hb)⟩ (by show 0+wO J.s J.o<=_;omega) (by show 0+wO J.s J.o<=_;omega);rw[wY hJ.d3 hk];exact⟨(hJ.dg k hk).t.root,a5u _⟩
theorem Aw{J:Jb}(hJ:jV J){op:List V->V}(jY:qH J op):bf (kH J op)=0∧(kH J op).aO.length<=2000∧∀v∈(kH J op).aO,BX v:=by have h:=a0Q hJ jY;have hw:=Ep hJ.bQ.sz hJ.ord;have hm:=hJ.bQ.many;have h1:(kH J op).aO.length<=0+wO J.s J.o:=h.el;have h2:(kH J op).aj.length+1<=0+wO J.s J.o:=h.nl;refine⟨Um (by unfold ah;omega) ?_ (fun v hv=>(h.ok.e v hv).1) (by omega) h.ok.v h.rf,by omega,h.ok.e⟩;have:bY J.s J.o=0:=kE.2 ⟨hJ.bQ,hJ.ord⟩;show(bY J.s J.o != 0)=false;rw[this];rfl
theorem a8M{J:Jb}(hJ:jV J){op:List V->V}(jY:qH J op):IY (kH J op):=by have h:=a0Q hJ jY;exact⟨fun i hi k hk=>h.ok.w _ (YA hi) _ (bU hk),h.w,fun v hv=>(h.ok.e v hv).2⟩
theorem Je{J:Jb}(hJ:jV J){op:List V->V}(jY:qH J op):bJ (kH J op)=(zF (kH J op),0)∧qj J op=jE J.s J.o (cellsD (kH J op)):=by
 obtain⟨h1,h2,h3⟩:=Aw hJ jY;have hr:=a8M hJ jY;have ho:=(jV.o2 hJ).2.1;have hl:=hJ.bQ.len;have e:=Ku hr (by unfold ah;omega);rw[h1]at e;have hf:¬(bY (kH J op).ay (kH J op).aH != 0)=true:=by have:bY J.s J.o=0:=kE.2 ⟨hJ.bQ,hJ.ord⟩;show ¬(bY J.s J.o != 0)=true;rw[this];simp
 rw[a0F hf]at e;refine⟨e,?_⟩;unfold qj Aq;rw[e];show fE (kH J op)=_;exact(YO h1 (by show J.o.length<=ah;unfold ah;omega) (by unfold ah;omega)).1
theorem a4L{J:Jb}(hJ:jV J){op:List V->V}(jY:qH J op):cellsD (kH J op)=QN J op:=by
 obtain⟨h1,h2,h3⟩:=Aw hJ jY;have h:=a0Q hJ jY;have ho:=(jV.o2 hJ).2.1;have hl:=hJ.bQ.len;have ht:=(jo (d:=kH J op) (by show J.o.length<=ah;unfold ah;omega) (by unfold ah;omega) (by rw[h1];rfl));unfold cellsD QN;refine a5v fun k _=>?_;have hq:jd J.s (jO J.s k)=true:=wW _ hJ.bQ.sz;obtain⟨u,u1,l,l1,l2,rfl⟩:=h.sm (kH J op) (by omega) a5r a5r (jO J.s k) hq;have e1:=u1.at_ ht.1 hq 6001 (by have:=h.rf.2.1;have:=ht.2;show(kH J op).root<_;have e:(kH J op).aj.length=(jI J op J.o (fF J.D) ⟨[],[],[]⟩).2.n.length:=rfl;have e2:(kH J op).root=(jI J op J.o (fF J.D) ⟨[],[],[]⟩).1:=rfl;omega) ht.1.root;show vH (kH J op) (jO J.s k)=_;unfold vH;have e1:op l=(kH J op).aO.getD (jQ (atF (kH J op) (jO J.s k) 6001 (kH J op).root)).toNat V0:=e1;rw[<-e1];congr 1;refine(o8 (d:=V0) (by rw[l1,a5c])).2 fun i hi=>?_;rw[l1]at hi;have hd:=hJ.dg i hi;have h5:=l2 i hi;rw[wY hJ.d3 hi]at h5;have hov:jd (lJ J.D i).ay (ov J.g (jO J.s k))=true:=by rw[hd.s];exact am4 hJ hq
 have h6:=h5.at_ hd.t hov 6001 (by have:=hd.t.root.1;have:=hd.n;omega) hd.t.root;rw[h6];simp[List.getD,a5m,a0D hi,vH,atR]
theorem mk_eq{J:Jb}(hJ:jV J){op:List V->V}(jY:qH J op):qj J op=jE J.s J.o (QN J op):=by rw[(Je hJ jY).2,a4L hJ jY]
open Go Tw Pv cu
def C9(J:Jb)(c:Int):LI0:=if decide (J.g.getD c.toNat 0>=0)=true then [J.g.getD c.toNat 0]else(List.range (J.s.getD c.toNat 0).toNat).map fun(j:Nat)=>(j:Int)
def yG(J:Jb)(ψ:S3->Int):LI0->S3->Int
 | [],t=>ψ t
 |c::r,t=>eH (fun j=>yG J ψ r (bP J.D t c j)) (C9 J c)
theorem Az{α β:Type}[DecidableEq α][DecidableEq β](φ:β->Int)(f:α->β):∀l:List α,eH φ (l.map f)=eH (fun a=>φ (f a)) l
 | []=>rfl
 |a::l=>by simp only[a5g,eH,Az φ f l]
theorem qR{α:Type}[DecidableEq α]{φ φ':α->Int}:∀{l:List α},(∀a∈l,φ a=φ' a)->eH φ l=eH φ' l
 | [],_=>rfl
 |a::l,h=>by rw[eH,eH,h a (by simp),qR fun b hb=>h b (by simp[hb])]
theorem Ut{α β:Type}[DecidableEq α][DecidableEq β](φ:β->Int)(f:α->List β):∀l:List α,eH φ (l.flatMap f)=eH (fun a=>eH φ (f a)) l
 | []=>rfl
 |a::l=>by rw[List.flatMap_cons,II,eH,Ut φ f l]
theorem Cb{α:Type}[DecidableEq α](x:Int):∀l:List α,eH (fun _=>x) l=l.length*x
 | []=>by simp[eH]
 |a::l=>by rw[eH,Cb x l,a4O,Int.natCast_add,agO];omega
theorem S3.abK(s:S3)(k:Nat):s.set k (s.get k)=s:=by
 match k with
 | 0=>rfl
 | 1=>rfl
 |k+2=>rfl
theorem a8N{D:List Dg}{t:S3}{c:Int}(h:kG D t c=false)(g:Int):bP D t c g=t:=by
 have hk:∀k,k<D.length->lH (lJ D k) (t.get k) c=false:=fun k hk=>by
  cases e:lH (lJ D k) (t.get k) c
  .rfl
  have:=Es.2 ⟨k,hk,e⟩;rw[h]at this;cases this
 exact bV (g:=fun k (y:S3)=>y.set k (MQ (lJ D k) (y.get k) c g)) (m:=D.length) (k:=0) (s:=t) (fun _ y=>y=t) rfl (fun j y _ hj hy=>by subst hy;show y.set j (MQ (lJ D j) (y.get j) c g)=y;unfold MQ;rw[hk j (by omega),a0F (by simp)];exact S3.abK y j)
theorem a4M{J:Jb}{ψ:S3->Int}{c:Int}{r:LI0}{t:S3}(h:decide (J.g.getD c.toNat 0>=0)=true):yG J ψ (c::r) t=yG J ψ r (bP J.D t c (J.g.getD c.toNat 0)):=by rw[yG,C9,a0I h];simp[eH]
theorem agU{J:Jb}{ψ:S3->Int}{c:Int}{r:LI0}{t:S3}(h:¬decide (J.g.getD c.toNat 0>=0)=true)(ha:kG J.D t c=false):yG J ψ (c::r) t=((J.s.getD c.toNat 0).toNat:Int)*yG J ψ r t:=by rw[yG,C9,a0F h,Az,qR (φ':=fun _=>yG J ψ r t) (fun a _=>by rw[a8N ha]),Cb,a6T]
theorem abL{J:Jb}{ψ:S3->Int}{c:Int}{r:LI0}{t:S3}(h:¬decide (J.g.getD c.toNat 0>=0)=true):yG J ψ (c::r) t=eH (fun(j:Nat)=>yG J ψ r (bP J.D t c j)) (List.range (J.s.getD c.toNat 0).toNat):=by rw[yG,C9,a0F h,Az]
def AU(J:Jb):LI0->Nat
 | []=>1
 |c::r=>(C9 J c).length*AU J r
theorem EZ{J:Jb}:∀(r:LI0) (t:S3),yG J (fun _=>1) r t=(AU J r:Int)
 | [],_=>rfl
 |c::r,t=>by rw[yG,qR (φ':=fun _=>(AU J r:Int)) (fun a _=>EZ r _),Cb,AU,aeV]
section
variable {J:Jb} (hJ:jV J)
include hJ
theorem YP{c:Int}(hc:fD c J.s.length){j:Int}:j∈C9 J c↔(0<=j∧j<J.s.getD c.toNat 0)∧(0<=J.g.getD c.toNat 0->J.g.getD c.toNat 0=j):=by
 unfold C9;split
 .rename_i h;have h:J.g.getD c.toNat 0>=0:=by simpa using h
  have:=hJ.gv c hc h;rw[a2U];constructor
  .rintro rfl;exact⟨⟨h,this⟩,fun _=>rfl⟩
  exact fun h2=>(h2.2 h).symm
 rename_i h;have h:¬J.g.getD c.toNat 0>=0:=by simpa using h
 rw[a1e];constructor
 .rintro⟨k,h1,rfl⟩;rw[a5f]at h1;exact⟨⟨by omega,by omega⟩,fun h2=>absurd h2 h⟩
 rintro⟨h1,_⟩;exact⟨j.toNat,a5f.2 (by omega),by omega⟩
theorem a8O{c:Int}(hc:fD c J.s.length):1<=(C9 J c).length∧(C9 J c).length<=(J.s.getD c.toNat 0).toNat:=by
 have hz:=hJ.bQ.sz _ (bU (s:=J.s) (k:=c.toNat) (by have:=hc.1;have:=hc.2;omega));unfold C9;split
 .exact⟨a15 _,by show 1<=_;omega⟩
 rw[a5c,a6T];exact⟨by omega,a15 _⟩
theorem KF:∀{r:LI0},(∀c∈r,fD c J.s.length)->1<=AU J r∧AU J r<=wO J.s r
 | [],_=>⟨a15 _,a15 _⟩
 |c::r,h=>by obtain⟨h1,h2⟩:=a8O hJ (h c (by simp));obtain⟨h3,h4⟩:=KF (r:=r) fun c hc=>h c (by simp[hc]);exact⟨ai5 h1 h3,ai5 h2 h4⟩
end
def plc(J:Jb):LI0->LI0->List LI0
 | [],q=>[q]
 |c::r,q=>(C9 J c).flatMap fun j=>plc J r (q.set c.toNat j)
def Wy(D:List Dg)(q:LI0):LI0->S3->S3
 | [],t=>t
 |c::r,t=>Wy D q r (bP D t c (q.getD c.toNat 0))
theorem AB{q:LI0}{i k:Nat}{v:Int}:(q.set i v).getD k 0=if k=i∧i<q.length then v else q.getD k 0:=by
 simp only[List.getD,aan];by_cases h:i=k
 .subst h;by_cases h2:i<q.length
  .simp[h2]
  simp[h2,a4Y (show q.length<=i by omega)]
 rw[a0F (fun e:k=i∧i<q.length=>h e.1.symm)];simp[h]
theorem NY{J:Jb}:∀{r q q':LI0},q'∈plc J r q->q'.length=q.length∧∀k,k∉r.map Int.toNat->q'.getD k 0=q.getD k 0
 | [],q,q',h=>by rw[plc,a2U]at h;subst h;exact⟨rfl,fun _ _=>rfl⟩
 |c::r,q,q',h=>by rw[plc,aeL]at h;obtain⟨j,_,h2⟩:=h;obtain⟨h3,h4⟩:=NY h2;refine⟨by rw[h3,a5l],fun k hk=>?_⟩;rw[a5g,a2x,aeh]at hk;rw[h4 k hk.2,AB,a0F (fun h=>hk.1 h.1)]
section
variable {J:Jb} {n:Nat}
structure a0R(n:Nat)(r:LI0):Prop where
 nd:r.Nodup
 mem:∀c∈r,fD c n
theorem a0R.tail{c:Int}{r:LI0}(h:a0R n (c::r)):a0R n r∧c.toNat∉r.map Int.toNat∧fD c n:=by
 have h1:=a5n.1 h.nd;have hc:=h.mem c (by simp);refine⟨⟨h1.2,fun c hc=>h.mem c (by simp[hc])⟩,fun h2=>?_,hc⟩;obtain⟨d,h3,h4⟩:=a1e.1 h2;have hd:=h.mem d (by simp[h3]);have:d=c:=by have:=hc.1;have:=hd.1;omega
 exact h1.1 (this▸h3)
theorem a2V(ψ:S3->Int):∀{r:LI0} (q:LI0) (t:S3),a0R q.length r->yG J ψ r t=eH (fun q'=>ψ (Wy J.D q' r t)) (plc J r q)
 | [],q,t,_=>by simp[yG,plc,Wy,eH]
 |c::r,q,t,ho=>by obtain⟨h1,h2,h3⟩:=ho.tail;rw[yG,plc,Ut];refine qR fun j _=>?_;rw[a2V ψ (q.set c.toNat j) _ (by rw[a5l];exact h1)];refine qR fun q' hq=>?_;rw[Wy,(NY hq).2 _ h2,AB,a0I ⟨rfl,by have:=h3.1;have:=h3.2;omega⟩]
theorem WA:∀{r q q':LI0},a0R q.length r->(q'∈plc J r q↔q'.length=q.length∧(∀k,k∉r.map Int.toNat->q'.getD k 0=q.getD k 0)∧∀c∈r,q'.getD c.toNat 0∈C9 J c)
 | [],q,q',_=>by
  rw[plc,a2U];constructor
  .rintro rfl;exact⟨rfl,fun _ _=>rfl,fun _ h=>by cases h⟩
  rintro⟨h1,h2,_⟩;exact(o8 (d:=0) h1).2 fun i _=>h2 i (by simp)
 |c::r,q,q',ho=>by
  obtain⟨h1,h2,h3⟩:=ho.tail;have hl:c.toNat<q.length:=by have:=h3.1;have:=h3.2;omega
  rw[plc,aeL];constructor
  .rintro⟨j,hj,h4⟩;obtain⟨h5,h6,h7⟩:=(WA (by rw[a5l];exact h1)).1 h4;refine⟨by rw[h5,a5l],fun k hk=>?_,fun d hd=>?_⟩
   .rw[a5g,a2x,aeh]at hk;rw[h6 k hk.2,AB,a0F (fun h=>hk.1 h.1)]
   rcases a2x.1 hd with rfl|hd
   .rw[h6 _ h2,AB,a0I ⟨rfl,hl⟩];exact hj
   exact h7 d hd
  rintro⟨h4,h5,h6⟩;refine⟨q'.getD c.toNat 0,h6 c (by simp),(WA (by rw[a5l];exact h1)).2 ⟨by rw[a5l];exact h4,fun k hk=>?_,fun d hd=>h6 d (by simp[hd])⟩⟩;rw[AB];split
  .rename_i h;rw[h.1]
  rename_i h;exact h5 k (by rw[a5g,a2x,aeh];exact⟨fun e=>h ⟨e,hl⟩,hk⟩)
theorem a0S(c:Int):(C9 J c).Nodup:=by
 unfold C9;split
 .simp
 rw[List.Nodup,agG];exact List.nodup_range.imp fun h e=>h (by omega)
theorem Uu:∀{r q:LI0},a0R q.length r->(plc J r q).Nodup
 | [],q,_=>by simp[plc]
 |c::r,q,ho=>by
  obtain⟨h1,h2,h3⟩:=ho.tail;have hl:c.toNat<q.length:=by have:=h3.1;have:=h3.2;omega
  rw[plc,List.Nodup,List.pairwise_flatMap];refine⟨fun j _=>Uu (by rw[a5l];exact h1),(a0S (J:=J) c).imp fun{a b} hab x hx y hy e=>?_⟩;subst e;have e1:=(NY hx).2 _ h2;have e2:=(NY hy).2 _ h2;rw[AB,a0I ⟨rfl,hl⟩]at e1 e2;exact hab (e1.symm.trans e2)
end
def YQ(J:Jb):List LI0:=((List.range (E8 J.s)).map fun(k:Nat)=>jO J.s k).filter fun q=>decide (ov J.g q=q)
section
variable {J:Jb} (hJ:jV J)
include hJ
theorem a2W{q:LI0}(hq:q.length=J.s.length):ov J.g q=q↔∀k,k<J.s.length->0<=J.g.getD k 0->J.g.getD k 0=q.getD k 0:=by
 have hg:=hJ.gl;have hl:(ov J.g q).length=q.length:=by simp[ov,aeU,hg,hq]
 rw[o8 (d:=0) hl];constructor
 .intro h k hk h0;have:=h k (by rw[hl,hq];exact hk);rw[KD (by rw[hg,hq]),a0I (by rw[hg];exact hk),a0I h0]at this;exact this
 intro h k hk;rw[hl,hq]at hk;rw[KD (by rw[hg,hq]),a0I (by rw[hg];exact hk)];split
 .exact h k hk ‹_›
 rfl
theorem a2X{q:LI0}:q∈(List.range (E8 J.s)).map (fun(k:Nat)=>jO J.s k)↔jd J.s q=true:=by
 have hc:(E8 J.s:Int)=bG J.s:=by have:=jA hJ.bQ.sz;unfold E8;omega
 constructor
 .intro h;obtain⟨k,_,rfl⟩:=a1e.1 h;exact wW _ hJ.bQ.sz
 intro h;have:=xZ h hJ.bQ.sz;refine a1e.2 ⟨(eG J.s q).toNat,a5f.2 (by omega),?_⟩;rw[show((eG J.s q).toNat:Int)=eG J.s q by omega];exact VK h hJ.bQ.sz
theorem a4N:((List.range (E8 J.s)).map (fun(k:Nat)=>jO J.s k)).Nodup:=by
 have hc:(E8 J.s:Int)=bG J.s:=by have:=jA hJ.bQ.sz;unfold E8;omega
 rw[List.Nodup,agG];refine List.Pairwise.imp_of_mem (fun{a b} ha hb h e=>h ?_) aeP;rw[a5f]at ha hb;have h1:=NR hJ.bQ.sz (n:=(a:Int)) (by omega) (by omega);have h2:=NR hJ.bQ.sz (n:=(b:Int)) (by omega) (by omega);have e:jO J.s (a:Int)=jO J.s (b:Int):=e;rw[e,h2]at h1;omega
theorem a8P:(plc J J.o (List.replicate J.s.length 0)).Perm (YQ J):=by
 obtain⟨o1,o2,o3⟩:=jV.o2 hJ;have ho:a0R (List.replicate J.s.length (0:Int)).length J.o:=⟨o1,fun c hc=>by rw[a9j];exact o3 c hc⟩;unfold YQ;refine(a7P (Uu ho) ((a4N hJ).filter _)).2 fun q=>?_;rw[WA ho,a9n,a2X hJ,a1n,a9j];constructor
 .rintro⟨h1,h2,h3⟩;have key:∀k,k<J.s.length->(0<=q.getD k 0∧q.getD k 0<J.s.getD k 0)∧(0<=J.g.getD k 0->J.g.getD k 0=q.getD k 0):=fun k hk=>by have hc:fD (k:Int) J.s.length:=aC hk;have:=h3 k (mX hJ.ord hc);rw[YP hJ hc]at this;exact this
  exact⟨mg.2 ⟨h1,fun k hk=>(key k hk).1⟩,(a2W hJ h1).2 fun k hk=>(key k hk).2⟩
 rintro⟨h1,h2⟩;have hl:=nS h1;refine⟨hl,fun k hk=>?_,fun c hc=>?_⟩
 .have L6:J.s.length<=k:=by refine acX fun aQ=>hk ?_;exact a1e.2 ⟨(k:Int),mX hJ.ord (aC aQ),by simp⟩
  simp[List.getD,a4Y (show q.length<=k by omega),a4Y (show(List.replicate J.s.length (0:Int)).length<=k by simp;omega)]
 have oz:=o3 c hc;have aQ:c.toNat<J.s.length:=by have:=oz.1;have:=oz.2;omega
 rw[YP hJ oz];exact⟨(mg.1 h1).2 _ aQ,(a2W hJ hl).1 h2 _ aQ⟩
theorem Uw{q:LI0}(hq:jd J.s q=true):∀(r:LI0) (a:Nat) (t:S3),J.o.drop a=r->a<=J.o.length->Dp J a t->Dp J J.o.length (Wy J.D q r t)∧∀k,k<J.D.length->∀v,To (lJ J.D k) q ((Wy J.D q r t).get k) v->To (lJ J.D k) q (t.get k) v
 | [],a,t,hr,ha,hd=>by
  have:a=J.o.length:=by have:=congrArg List.length hr;rw[a4u,a5C]at this;omega
  subst this;exact⟨hd,fun _ _ _ h=>h⟩
 |c::r,a,t,hr,ha,hd=>by
  obtain⟨aQ,hoc,vZ,Fq,hci,oz⟩:=jV.at_ hJ hr;have Zk:=(mg.1 hq).2 c.toNat (by have:=oz.1;have:=oz.2;omega);obtain⟨h1,h2⟩:=Uw hq r (a+1) _ vZ aQ (nV hJ hr hd Zk);refine⟨h1,fun k hk v h=>?_⟩;have h4:=h2 k hk v h;rw[Kz hJ.d3 t c _ hk]at h4;unfold MQ at h4;split at h4
  .rename_i h5;obtain⟨h6,h7,_⟩:=Jd hJ hd hk h5;refine .step h6.1 ?_;rw[h7];exact h4
  exact h4
theorem YR:Dp J 0 (fF J.D):=fun k hk=>by rw[wY hJ.d3 hk];exact⟨(hJ.dg k hk).t.root,a5u _⟩
theorem agV{q:LI0}(hq:jd J.s q=true):aW J.D (Wy J.D q J.o (fF J.D))=J.D.map fun d=>vH d q:=by
 obtain⟨h1,h2⟩:=Uw hJ hq J.o 0 (fF J.D) aaQ (a5u _) (YR hJ);unfold aW;refine(o8 (d:=V0) (by simp)).2 fun k hk=>?_;rw[a5c,a6T]at hk;have hd:=hJ.dg k hk;have h3:=KC hJ h1 hk;have h4:=h2 k hk _ (.fin h3.1);rw[wY hJ.d3 hk]at h4;have h6:=h4.at_ hd.t (by rw[hd.s];exact hq) 6001 (by have:=hd.t.root.1;have:=hd.n;omega) hd.t.root;have e1:((List.range J.D.length).map fun k=>qG (lJ J.D k) ((Wy J.D q J.o (fF J.D)).get k)).getD k V0=qG (lJ J.D k) ((Wy J.D q J.o (fF J.D)).get k):=by simp[List.getD,hk]
 have e2:(J.D.map fun d=>vH d q).getD k V0=vH (lJ J.D k) q:=by simp[List.getD,hk]
 rw[e1,e2];exact h6
theorem abM(ψ:List V->Int):yG J (fun t=>ψ (aW J.D t)) J.o (fF J.D)=eH (fun q=>ψ (J.D.map fun d=>vH d q)) (YQ J):=by obtain⟨o1,o2,o3⟩:=jV.o2 hJ;rw[a2V _ (List.replicate J.s.length 0) _ ⟨o1,fun c hc=>by rw[a9j];exact o3 c hc⟩,JQ _ (a8P hJ)];refine qR fun q hq=>?_;unfold YQ at hq;rw[a9n,a2X hJ]at hq;rw[agV hJ hq.1]
end
end Go.Proofs.YtmobpoiejckagaaGreat
namespace Pv
open Go Tw
section
variable {X:lC} {P:LI1} {kt:LI2} {α:Type} [DecidableEq α] (C:qc X P kt α)
theorem qc.am5{l:List (α×PV X.Γ)}{x:α}{v:PV X.Γ}{j:Nat}(hb:Instr.sameBits 10000 (C.v x) (C.v x)=true)(hn:(l.map (·.1)).Nodup)(h:l[j]? = some (x,v)):a6L X P kt (C.es l) (C.tv x) (C.pv x) v j:=by
 obtain⟨hj,e⟩:=a0n.1 h;have hxj:(l.map (·.1))[j]? = some x:=by simp[a0D hj,e]
 refine⟨C.v x,_,C.tv x,C.v x,C.ht x,C.hc false x,C.pk l,?_,?_,?_,C.ht x,hb⟩
 .have hu:∀(i:Nat) y,(l.map (·.1))[i]? = some y->decide (x=y)=(some i==some j):=fun i y hy=>by
   rw[a5w];simp only[a1n,a6Z,a0k];constructor
   .rintro rfl;have i1:=a0n.1 hy;have i2:=a0n.1 hxj;exact(aaD hn (h₀:=i1.1) (h₁:=i2.1)).1 (i1.2.trans i2.2.symm)
   rintro rfl;rw[hxj]at hy;exact a9Q hy
  refine C.find x _ (some j) ?_ hu;rw[aax];refine⟨by simpa using hj,by simp[e],fun i hi=>?_⟩;have hil:i<(l.map (·.1)).length:=by simp;omega
  rw[hu i _ (a0D hil)];simp;omega
 .simp[qc.es,a0D hj,e]
 simp[a0D hj,e]
theorem qc.newP{l:List (α×PV X.Γ)}{x:α}{v:PV X.Γ}(h:x∉l.map (·.1)):afj X P kt (C.es (l++[(x,v)])) (C.tv x) l.length:=by
 refine⟨C.v x,_,C.ht x,C.pk _,?_⟩;have hu:∀(i:Nat) y,((l++[(x,v)]).map (·.1))[i]? = some y->decide (x=y)=(some i==some l.length):=fun i y hy=>by
  rw[a4Z]at hy;rcases a5h i l.length with hi|hi
  .rw[a0E (by simpa using hi)]at hy;have:¬x=y:=fun e=>h (e▸a5q hy);rw[af4 this];have:¬i=l.length:=(by omega);simp[this]
  rw[a1a (by simpa using hi)]at hy;have KY:i=l.length:=by have:=(a0n.1 hy).1;simp at this;omega
  subst KY;simp at hy;subst hy;simp
 refine C.find x _ (some l.length) ?_ hu;rw[aax];refine⟨by simp,by simp,fun i hi=>?_⟩;have hil:i<((l++[(x,v)]).map (·.1)).length:=by simp;omega
 rw[hu i _ (a0D hil)];simp;omega
abbrev qc.im(m:List (α×Int)):List (PV X.Γ×PV X.Γ):=C.es (m.map fun e=>(e.1,.int .i64 e.2))
theorem qc.qy(m:List (α×Int)):(C.im m).length=m.length:=by simp[qc.im,qc.es]
theorem qc.Cc(m:List (α×Int))(j:Nat):(C.im m)[j]? = (m[j]?).map fun e=>(C.pv e.1,.int .i64 e.2):=by simp[qc.im,qc.es,a5m];rfl
theorem AL{Y:lC}(m:List (α×Int)):((m.map fun e=>(e.1,(PV.int .i64 e.2:PV Y.Γ))).map (·.1))=m.map (·.1):=by simp
theorem agW{m:List (α×Int)}{j:Nat}{f:Int->Int}{v:Int}(h:∀e,m[j]? = some e->f e.2=v):JF (C.im m) j (.int .i64 v)=C.im (m.modify j fun e=>(e.1,f e.2)):=by
 unfold JF;refine aao fun i=>?_;rw[aeN,C.Cc,C.Cc,aeN];by_cases e:j=i
 .subst e;cases h2:m[j]? with
  |none=>simp[h2]
  |some x=>simp[h2,h x h2]
 simp[e]
theorem agX{m:List (α×Int)}{x:α}{z v:Int}:JF (C.im m++[(C.pv x,.int .i64 z)]) (C.im m).length (.int .i64 v)=C.im (m++[(x,v)]):=by
 have:C.im (m++[(x,v)])=C.im m++[(C.pv x,.int .i64 v)]:=by simp[qc.im,qc.es]
 rw[this];unfold JF;generalize C.im m=l;refine aao fun i=>?_;rw[aeN];rcases Nat.lt_trichotomy i l.length with h|h|h
 .rw[a0E h,a0E h];simp[show ¬l.length=i by omega]
 .subst h;simp
 rw[a4Y (by simp;omega),a4Y (by simp;omega)];rfl
theorem qc.WB{m:List (α×Int)}{k:α}{n:Int}(hb:Instr.sameBits 10000 (C.v k) (C.v k)=true)(hn:(m.map (·.1)).Nodup)(h:k∈m.map (·.1))(hw:∀e∈m,i64.wrap (e.2+n)=e.2+n) :
  ∃j old,qO X P kt (C.im m) (C.tv k) (.int .i64 old)∧a6L X P kt (C.im m) (C.tv k) (C.pv k) (.int .i64 old) j∧j<(C.im m).length∧JF (C.im m) j (.int .i64 (i64.wrap (old+n)))=C.im (cu.tJ m k n):=by
 have aQ:=a5t.2 h;have a6V:(m.map (·.1)).idxOf k<m.length:=by simpa using aQ
 have hk:m[(m.map (·.1)).idxOf k]? = some (k,m[(m.map (·.1)).idxOf k].2):=by rw[a0D a6V];have:=a9C aQ;rw[a9L]at this;exact congrArg some (ad3 this rfl)
 have a3t:(k,m[(m.map (·.1)).idxOf k].2)∈m:=a5q hk;refine⟨(m.map (·.1)).idxOf k,m[(m.map (·.1)).idxOf k].2,C.found (by rw[AL];exact hn) (a1e.2 ⟨_,a3t,rfl⟩),C.am5 hb (by rw[AL];exact hn) (by rw[a5m,hk];rfl),by rw[C.qy];exact a6V,?_⟩;rw[hw _ a3t];unfold cu.tJ;rw[a0I h];exact agW C (f:=fun x=>x+n) fun e he=>by rw[hk]at he;cases he;rfl
theorem qc.WC{m:List (α×Int)}{k:α}{n:Int}(h:k∉m.map (·.1))(hw:i64.wrap (0+n)=n) :
  oJ X P kt (C.im m) (C.tv k)∧afj X P kt (C.im m++[(C.pv k,(PV.int .i64 0:PV X.Γ))]) (C.tv k) (C.im m).length∧(C.im m).length<(C.im m++[(C.pv k,(PV.int .i64 0:PV X.Γ))]).length∧JF (C.im m++[(C.pv k,.int .i64 0)]) (C.im m).length (.int .i64 (i64.wrap (0+n)))=C.im (cu.tJ m k n):=by
 refine⟨C.fresh (by rw[AL];exact h),?_,by simp,?_⟩
 .have:=C.newP (l:=m.map fun e=>(e.1,(PV.int .i64 e.2:PV X.Γ))) (x:=k) (v:=.int .i64 0) (by rw[AL];exact h);rw[C.qy];simpa[qc.im,qc.es]using this
 rw[hw,agX];unfold cu.tJ;rw[a0F h]
end
end Pv
namespace Go.Proofs.YtmobpoiejckagaaGreat
open Go Tw Pv cu
abbrev wSk(H:List (PB aB))(s:S3)(r:Int)(x:List (Nat×PE aB)):aT aB:=⟨[(1,xi r),(2,.val (.ptr 2 0 5)),(3,.val (.ptr 1 0 5)),(4,.val (.ptr 3 0 1)),(5,.val (.ptr 4 0 1)),(6,.loc 0 0)]++x,[s.ps],H⟩
def RS(D:List Dg)(t:S3):LI0->Nat
 | []=>0
 |c::r=>if kG D t c=true then 0 else RS D t r+1
def RU(J:Jb)(t:S3)(i:Int):Int⊕Int:=if decide (i<(J.o.length:Int))=true then(if(!(kG J.D t (J.o.getD i.toNat 0)))=true then .inl (i64.wrap (i+1))else .inr i)else .inr i
theorem a8Q{J:Jb}(hJ:jV J)(t:S3):∀(r:LI0) (a:Nat),J.o.drop a=r->a<=J.o.length->itF (RU J t) (r.length+1) (a:Int)=some ((a+RS J.D t r:Nat):Int)
 | [],a,hr,ha=>by
  have:a=J.o.length:=by have:=congrArg List.length hr;rw[a4u,a5C]at this;omega
  have e:RU J t (a:Int)=.inr (a:Int):=by unfold RU;rw[a0F (by simp;omega)]
  rw[a5C,itF,e];rfl
 |c::r,a,hr,ha=>by
  obtain⟨aQ,hoc,vZ,_⟩:=jV.at_ hJ hr;have hl:=hJ.bQ.len;have Rj:=(jV.o2 hJ).2.1;have e:RU J t (a:Int)=if(!(kG J.D t c))=true then .inl (i64.wrap ((a:Int)+1))else .inr (a:Int):=by unfold RU;rw[a0I (by simp;omega),a5D,hoc]
  rw[a4O,itF,e];cases h:kG J.D t c
  .simp only[aaO,a2s];have ew:i64.wrap ((a:Int)+1)=((a+1:Nat):Int):=by rw[eY (by omega) (by omega)];omega
   have:=a8Q hJ t r (a+1) vZ aQ;simp only[ew,RS,h];rw[this];simp;omega
  simp[RS,h]
theorem ars{M f:Nat}{J:Jb}(hJ:jV J){t:S3}{x:Mk}(r:LI0){a:Nat}(hr:J.o.drop a=r)(ha:a<=J.o.length)(hd:Dp J a t):JZ (M+1) 126 0 7 (wSk (HM0 J f x) t a []) (.exit 0) (wSk (HM0 J f x) t ((a+RS J.D t r:Nat):Int) [(32,xl false)]):=by
 have Ry:=a8Q hJ t r a hr ha;have Rj:=(jV.o2 hJ).2.1;have hl:=hJ.bQ.len;refine a0C (st:=fun i=>wSk (HM0 J f x) t i []) (g:=RU J t) (out:=fun i=>(.exit 0,wSk (HM0 J f x) t i [(32,xl false)])) (fun i=>0<=i∧i<=J.o.length) Ry (by kernel_rfl) (by have:=congrArg List.length hr;rw[a4u]at this;unfold LL;omega) ⟨by omega,by omega⟩ ?_ ?_
 .intro i i1 hi e;unfold RU at e;split at e
  .rename_i c;have c:i<(J.o.length:Int):=(by simpa using c);split at e
   .cases e;rw[eY (by omega) (by omega)];omega
   cases e
  cases e
 intro i m i' hi ih;have hs:=a8H (M:=M) (f:=f) (a:=[]) (cc:=[]) (H:=[]) J t (J.o.getD i.toNat 0) hJ.d3 (fun k hk h=>⟨by simpa using h,(hd k hk).1.1⟩);by_cases c:i<(J.o.length:Int)
 .have t1:decide (i<(J.o.length:Int))=true:=by simpa using c
  have i1:fD i J.o.length:=⟨hi.1,c⟩;cases hq:kG J.D t (J.o.getD i.toNat 0)
  .have e:RU J t i=.inl (i64.wrap (i+1)):=by unfold RU;rw[a0I t1,hq];rfl
   rw[hq]at hs;have g:=ih _ e;rw[e];exact aJ gU (.b t1 (.o i1 (.fr [] hs (.b (rfl:(!false)=true) (.go g)))))
  have e:RU J t i=.inr i:=by unfold RU;rw[a0I t1,hq];rfl
  rw[hq]at hs;rw[e];dsimp only[DZ];exact aJ gU (.b t1 (.o i1 (.fr [] hs (.b (rfl:(!true)=false) .ex))))
 have t1:decide (i<(J.o.length:Int))=false:=by simpa using c
 have e:RU J t i=.inr i:=by unfold RU;rw[a0F (by rw[t1];simp)]
 rw[e];dsimp only[DZ];exact aJ gU (.b t1 .ex)
theorem aru{M f:Nat}(u:Int){J:Jb}(hJ:jV J){t:S3}{x:Mk}(r:LI0){a:Nat}(hr:J.o.drop a=r)(ha:a<=J.o.length)(hd:Dp J a t):JZ (M+1) 126 0 8 (wSk (HM1 J f u x) t a []) (.exit 0) (wSk (HM1 J f u x) t ((a+RS J.D t r:Nat):Int) [(32,xl false)]):=by
 have Ry:=a8Q hJ t r a hr ha;have Rj:=(jV.o2 hJ).2.1;have hl:=hJ.bQ.len;refine a0C (st:=fun i=>wSk (HM1 J f u x) t i []) (g:=RU J t) (out:=fun i=>(.exit 0,wSk (HM1 J f u x) t i [(32,xl false)])) (fun i=>0<=i∧i<=J.o.length) Ry (by kernel_rfl) (by have:=congrArg List.length hr;rw[a4u]at this;unfold LL;omega) ⟨by omega,by omega⟩ ?_ ?_
 .intro i i1 hi e;unfold RU at e;split at e
  .rename_i c;have c:i<(J.o.length:Int):=(by simpa using c);split at e
   .cases e;rw[eY (by omega) (by omega)];omega
   cases e
  cases e
 intro i m i' hi ih;have hs:=a8H (M:=M) (f:=f) (a:=[]) (cc:=[.ptr 0 0 1]) (H:=[.aG [.int .u8 u]]) J t (J.o.getD i.toNat 0) hJ.d3 (fun k hk h=>⟨by simpa using h,(hd k hk).1.1⟩);by_cases c:i<(J.o.length:Int)
 .have t1:decide (i<(J.o.length:Int))=true:=by simpa using c
  have i1:fD i J.o.length:=⟨hi.1,c⟩;cases hq:kG J.D t (J.o.getD i.toNat 0)
  .have e:RU J t i=.inl (i64.wrap (i+1)):=by unfold RU;rw[a0I t1,hq];rfl
   rw[hq]at hs;have g:=ih _ e;rw[e];exact aJ gU (.b t1 (.o i1 (.fr [5] hs (.b (rfl:(!false)=true) (.go g)))))
  have e:RU J t i=.inr i:=by unfold RU;rw[a0I t1,hq];rfl
  rw[hq]at hs;rw[e];dsimp only[DZ];exact aJ gU (.b t1 (.o i1 (.fr [5] hs (.b (rfl:(!true)=false) .ex))))
 have t1:decide (i<(J.o.length:Int))=false:=by simpa using c
 have e:RU J t i=.inr i:=by unfold RU;rw[a0F (by rw[t1];simp)]
 rw[e];dsimp only[DZ];exact aJ gU (.b t1 .ex)
open Go Tw Pv cu
theorem WE{J:Jb}(hJ:jV J){op:List V->V}{x:Mk}:∀(r:LI0) (a:Nat) (t:S3),J.o.drop a=r->a<=J.o.length->Dp J a t->jI J op r t x=jI J op (r.drop (RS J.D t r)) t x∧a+RS J.D t r<=J.o.length∧Dp J (a+RS J.D t r) t∧∀c r',r.drop (RS J.D t r)=c::r'->kG J.D t c=true
 | [],a,t,hr,ha,hd=>⟨rfl,ha,hd,fun _ _ h=>by cases h⟩
 |c::r,a,t,hr,ha,hd=>by
  obtain⟨aQ,hoc,vZ,_⟩:=jV.at_ hJ hr;cases h:kG J.D t c
  .obtain⟨q1,q2,q3,q4⟩:=WE hJ (op:=op) (x:=x) r (a+1) t vZ aQ (Wv hJ hr hd h);have e:RS J.D t (c::r)=RS J.D t r+1:=(by simp[RS,h]);rw[e];refine⟨?_,by omega,by rw[show a+(RS J.D t r+1)=a+1+RS J.D t r by omega];exact q3,q4⟩;rw[List.drop_succ_cons,<-q1]
   conv=>lhs;unfold jI
   rw[a0F (by rw[h];simp)]
  have e:RS J.D t (c::r)=0:=by simp[RS,h]
  rw[e];exact⟨rfl,ha,hd,fun c' r' h2=>by cases h2;exact h⟩
theorem WG{J:Jb}(hJ:jV J):∀(r:LI0) (n:Nat),(∀c∈r,fD c J.s.length)->wO J.s (r.drop n)<=wO J.s r
 | [],n,_=>by simp
 |c::r,0,_=>a15 _
 |c::r,n+1,h=>by have h1:=WG hJ r n fun c hc=>h c (by simp[hc]);have hi:=h c (by simp);have hz:=hJ.bQ.sz _ (bU (s:=J.s) (k:=c.toNat) (by have:=hi.1;have:=hi.2;omega));have:wO J.s r<=(J.s.getD c.toNat 0).toNat*wO J.s r:=aew _ (by omega);rw[List.drop_succ_cons];simp only[wO];omega
abbrev abN(J:Jb)(f:Nat)(t:S3)(c:Int)(a:Int)(m:Mk)(ks:LI0)(i:Int)(y:List (Nat×PE aB)):aT aB:=⟨[(1,xi a),(2,.val (.ptr 2 0 5)),(3,.val (.ptr 1 0 5)),(4,.val (.ptr 3 0 1)),(5,.val (.ptr 4 0 1)),(6,.loc 0 0),(9,xi c),(13,.loc 1 0),(93,xi (J.s.getD c.toNat 0)),(94,xi i)]++y,[t.ps,[.int .i64 c,.own 9]],abH J f m++[oI false false ks]⟩
theorem arv{M f:Nat}{J:Jb}(hJ:jV J){op:List V->V}{r:LI0}{t:S3}{c a:Int}(x:Mk)(hc:fD c J.s.length)(Q:Nat->Mk->Prop)(h0:Q 0 x)(hq:∀j y,j<(J.s.getD c.toNat 0).toNat->Q j y->Q (j+1) (jI J op r (bP J.D t c j) y).2)
  (hk:∀j:Nat,j<(J.s.getD c.toNat 0).toNat->∀k,k<J.D.length->a2R (lJ J.D k) (t.get k) c j)
  (hf:∀(j:Nat) y,j<(J.s.getD c.toNat 0).toNat->Q j y->dF X0 Qp (iC (M+1)) (.fn 126 [] pM) [.agg (bP J.D t c j).ps,.int .i64 (i64.wrap (a+1))] (HM0 J f y) (.int .i64 (jI J op r (bP J.D t c j) y).1) (abH J f (jI J op r (bP J.D t c j) y).2)) :
  JZ (M+1) 126 1 7 (abN J f t c a x [] 0 []) (.exit 2) (abN J f t c a (aU (Wu J.D (jI J op r) t c) (J.s.getD c.toNat 0).toNat 0 ([],x)).2 (aU (Wu J.D (jI J op r) t c) (J.s.getD c.toNat 0).toNat 0 ([],x)).1 (((J.s.getD c.toNat 0).toNat:Nat):Int) [(95,xl false)]):=by
 have hz:=hJ.bQ.sz _ (bU (s:=J.s) (k:=c.toNat) (by have:=hc.1;have:=hc.2;omega));refine sV (σ:=LI0×Mk) (N:=(J.s.getD c.toNat 0).toNat) (g:=Wu J.D (jI J op r) t c) (s0:=([],x)) (st:=fun i y=>abN J f t c a y.2 y.1 i []) (fin:=fun y=>abN J f t c a y.2 y.1 (((J.s.getD c.toNat 0).toNat:Nat):Int) [(95,xl false)]) (fun j y=>y.1.length=j∧Q j y.2) (by kernel_rfl) (by unfold ah;omega) ⟨rfl,h0⟩ (fun j y hj hy=>⟨by simp[Wu,hy.1],hq j y.2 hj hy.2⟩) (fun j y hj hy m e p g=>?_) (fun y _=>?_)
 .have h1:=hf j y.2 hj hy.2;have ha:=Kw (M:=M) (f:=f) (a:=[]) (cc:=[]) (H:=[]) J t c j hJ.d3 (hk j hj);have t1:decide ((j:Int)<J.s.getD c.toNat 0)=true:=by rw[a1n];omega
  have h3:=hy.1;unfold Wu at g;generalize jI J op r (bP J.D t c j) y.2=z at h1 g;obtain⟨v,z⟩:=z;exact aJ gU (.b t1 (.fr [] ha (.fr [0,1,2,3,4,7,8] h1 (.o (show y.1.length+[v].length<=ah by simp only[a4b];unfold ah;omega) (.goG [.gc [10,11,13]] g)))))
 .have t1:decide ((((J.s.getD c.toNat 0).toNat:Nat):Int)<J.s.getD c.toNat 0)=false:=by rw[a2b];omega
  exact aJ gU (.b t1 .ex)
open Go Tw Pv cu
theorem YS{k:List (S3×Int)}{t:S3}(hn:(k.map (·.1)).Nodup)(h:t∈k.map (·.1)):qO X0 Qp 148 (Jc k) (.agg [.int .i64 t.a,.int .i64 t.b,.int .i64 t.c]) (.int .i64 (knS k t)):=by
 refine kS.found (x:=t) (by rw[a8K];exact hn) ?_;obtain⟨e,he,rfl⟩:=a1e.1 h;refine a1e.2 ⟨e,he,?_⟩;have:knS k e.1=e.2:=by
  have:k.find? (fun y=>decide (y.1=e.1))=some e:=by
   clear h
   induction k with
   |nil=>cases he
   |cons y l ih=>
    rw[a5g,a5n]at hn;rw[ahY];rcases a2x.1 he with rfl|he
    .simp
    have:¬y.1=e.1:=fun h=>hn.1 (a1e.2 ⟨e,he,h.symm⟩);rw[af4 this];exact ih hn.2 he
  unfold knS;rw[this];rfl
 rw[this]
abbrev agY(J:Jb)(op:List V->V)(f:Nat)(m:Nat)(r:LI0):Prop:=∀(a:Nat) (t:S3) (x:Mk),J.o.drop a=r->a<=J.o.length->Dp J a t->XOk J op x->x.e.length+wO J.s r<=ah->x.n.length+wO J.s r<=ah ->
  dF X0 Qp (iC m) (.fn 126 [] pM) [.agg t.ps,.int .i64 (a:Int)] (HM0 J f x) (.int .i64 (jI J op r t x).1) (abH J f (jI J op r t x).2)
abbrev agZ(J:Jb)(f:Nat)(x:Mk)(v:V):List (PB aB):=[.map (Jc x.k),.cells [lI J.s,lI J.o,.own 8,.own 6,.int .i64 0],.aG (J.ps (.fn f [] [])),.aG [.fn 126 [] pM],.aG [.map 0],.gone,Am x.n,.list true true 39 [v],Ak (x.e++[v])]
abbrev am6(J:Jb)(f:Nat)(x:Mk)(t:S3)(b:Br):List (PB aB):=[.map (Jc x.k++[(.agg t.ps,.int .i64 (x.n.length:Int))]),.cells [lI J.s,lI J.o,.own 7,.own 11,.int .i64 0],.aG (J.ps (.fn f [] [])),.aG [.fn 126 [] pM],.aG [.map 0],.gone,.gone,Ak x.e,.gone,.gone,.list true true 105 [b],Am (x.n++[b])]
theorem aey{N f:Nat}{J:Jb}(hJ:jV J){op:List V->V}(jY:qH J op)(hs:∀l:List V,l.length=J.D.length->dF X0 Qp (iC (N+1)) (.fn f [] []) [lV l] [] (.agg (op l).ps) [])(r:LI0)(rec:∀c r',c::r' <:+ r->agY J op f (N+1) r'):agY J op f (N+2) r:=by
 intro a t x hr ha hd hx zn yN;unfold ah at zn yN;have Rj:=(jV.o2 hJ).2.1;have hl6:=hJ.bQ.len;have lsk:=ars (M:=N) (f:=f) hJ (x:=x) r hr ha hd;obtain⟨q1,q2,q3,q4⟩:=WE hJ (op:=op) (x:=x) r a t hr ha hd;have hw:=WG hJ r (RS J.D t r) (fun c hc=>(jV.o2 hJ).2.2 c (a5I (by rw[hr];exact hc)));rw[q1];generalize RS J.D t r=n at lsk q1 q2 q3 q4 hw;have He:J.o.drop (a+n)=r.drop n:=by rw[<-hr,afL]
 have a8R:r.drop n <:+ r:=List.drop_suffix _ _;have Hz:=congrArg List.length He;rw[a4u]at Hz;clear q1 hr;generalize a+n=i at lsk q2 q3 He Hz;generalize r.drop n=r0 at q4 hw He a8R Hz;cases r0 with
 |nil=>
  have e0:i=J.o.length:=by rw[a5C]at Hz;omega
  have t0:((i:Int)==(J.o.length:Int))=true:=by rw[e0];simp
  rw[e0]at q3;have qM:(aW J.D t).length=J.D.length:=by simp[aW]
  have hce:=a2S (M:=N) (f:=f) J t hJ.d3 (fun k hk=>(KC hJ q3 hk).2);have hv:=hs (aW J.D t) qM;simp only[wO]at hw;have hb:x.e.length+[op (aW J.D t)].length<=ah:=by simp only[a4b];unfold ah;omega
  have h1:dF X0 Qp (iC (N+2)) (.fn 126 [] pM) [.agg t.ps,.int .i64 (a:Int)] (HM0 J f x) (.int .i64 (i64.wrap (0-((x.e++[op (aW J.D t)]).length:Int)))) (agZ J f x (op (aW J.D t))):=
   fQ gU (first:=[]) (cap:=pM) (.w lsk (.b t0 (.fr [] hce (.fr [] hv (.o hb .er)))))
  exact dF.gs hX h1 [.mv 6,.gc [8,9]] (by kernel_rfl)
 |cons c r'=>
  have t0:((i:Int)==(J.o.length:Int))=false:=by rw[a4O]at Hz;simp;omega
  obtain⟨aQ,hoc,vZ,Fq,hci,oz⟩:=jV.at_ hJ He;have BZ:=q4 c r' rfl;have rc:=rec c r' a8R;have ia:fD (i:Int) J.o.length:=⟨by omega,by omega⟩;have KG:J.o.getD (i:Int).toNat 0=c:=by rw[a5D];exact hoc
  have ig:fD (J.o.getD (i:Int).toNat 0) J.g.length:=by rw[KG,hJ.gl];exact oz
  have hz:=hJ.bQ.sz _ (bU (s:=J.s) (k:=c.toNat) (by have:=oz.1;have:=oz.2;omega));have Zr:∀c'∈r',fD c' J.s.length:=fun c' h=>(jV.o2 hJ).2.2 c' (by rw[<-vZ]at h;exact a5I h);have hw0:=QE hJ.bQ.sz Zr;have hw1:wO J.s r'<=(J.s.getD c.toNat 0).toNat*wO J.s r':=aew _ (by omega);have ew:i64.wrap ((i:Int)+1)=((i+1:Nat):Int):=by rw[eY (by omega) (by omega)];omega
  simp only[wO]at hw;unfold jI;rw[a0I BZ];cases tg:decide (J.g.getD c.toNat 0>=0)
  .rw[a0F (by simp)];have tg':decide (J.g.getD (J.o.getD (i:Int).toNat 0).toNat 0>=0)=false:=by rw[KG];exact tg
   by_cases hk:t∈x.k.map (·.1)
   .rw[a0I hk];have hF:qO X0 Qp 148 (Jc x.k) (.agg [.int .i64 t.a,.int .i64 t.b,.int .i64 t.c]) (.int .i64 (knS x.k t)):=YS hx.nd hk;have h1:dF X0 Qp (iC (N+2)) (.fn 126 [] pM) [.agg t.ps,.int .i64 (a:Int)] (HM0 J f x) (.int .i64 (knS x.k t)) (HM0 J f x):=
     fQ gU (first:=[]) (cap:=pM) (.w lsk (.b t0 (.o ia (.o ig (.b tg' (.c (.int .i64 (knS x.k t)) [] hF (.b (rfl:true=true) .er)))))))
    exact dF.gs hX h1 [.mv 5,.mv 6] (by kernel_rfl)
   rw[a0F hk];have hm2:=Wx hJ He q3 BZ;have hF:oJ X0 Qp 148 (Jc x.k) (.agg [.int .i64 t.a,.int .i64 t.b,.int .i64 t.c]):=kS.fresh (x:=t) (by simpa using hk);have is:fD (J.o.getD (i:Int).toNat 0) J.s.length:=by rw[KG];exact oz
   have Xk:∀j,j<(J.s.getD c.toNat 0).toNat->j*wO J.s r'+wO J.s r'<=(J.s.getD c.toNat 0).toNat*wO J.s r':=fun j hj=>by have:(j+1)*wO J.s r'<=(J.s.getD c.toNat 0).toNat*wO J.s r':=a3Z _ hj;rw[a3C]at this;omega
   let Q:Nat->Mk->Prop:=fun j y=>XOk J op y∧y.e.length<=x.e.length+j*wO J.s r'∧y.n.length+j<=x.n.length+j*wO J.s r'∧∀e∈y.k,e∈x.k∨Dp J (i+1) e.1
   have hq:∀j y,j<(J.s.getD c.toNat 0).toNat->Q j y->Q (j+1) (jI J op r' (bP J.D t c j) y).2:=fun j y hj hy=>by
    obtain⟨y1,y2,y3,y4⟩:=hy;have Xk:=Xk j hj;have h:=Us hJ op jY r' (i+1) (bP J.D t c j) y vZ aQ (nV hJ He q3 ⟨by omega,by omega⟩) y1 (by omega) (by omega);have h3:=h.el;have h4:=h.nl;refine⟨h.ok,by rw[a3C];omega,by rw[a3C];omega,fun e he=>?_⟩;rcases h.ks e he with h5|h5
    .exact y4 e h5
    exact .inr h5
   have lp:=arv (M:=N) (f:=f) hJ (op:=op) (r:=r') (t:=t) (c:=c) (a:=(i:Int)) x oz Q ⟨hx,by simp,by simp,fun e he=>.inl he⟩ hq (fun j hj k hk=>KA hJ q3 ⟨by omega,by omega⟩ hk) (fun j y hj hy=>by obtain⟨y1,y2,y3,y4⟩:=hy;have Xk:=Xk j hj;rw[ew];exact rc (i+1) (bP J.D t c j) y vZ aQ (nV hJ He q3 ⟨by omega,by omega⟩) y1 (by unfold ah;omega) (by unfold ah;omega))
   have inv:=bV (g:=Wu J.D (jI J op r') t c) (m:=(J.s.getD c.toNat 0).toNat) (k:=0) (s:=([],x)) (fun j y=>Q j y.2) ⟨hx,by simp,by simp,fun e he=>.inl he⟩ (fun j y _ hj hy=>hq j y.2 (by omega) hy);rw[a4v]at inv;simp only[];generalize aU (Wu J.D (jI J op r') t c) (J.s.getD c.toNat 0).toNat 0 ([],x)=y at lp inv;obtain⟨ks,m⟩:=y;obtain⟨y1,y2,y3,y4⟩:=inv;have hnk:t∉m.k.map (·.1):=fun h=>by
    obtain⟨e,he,e2⟩:=a1e.1 h;rcases y4 e he with h1|h1
    .exact hk (a1e.2 ⟨e,h1,e2⟩)
    rw[e2]at h1;exact a0P hJ He BZ h1
   have hF2:oJ X0 Qp 148 (Jc m.k) (.agg [.int .i64 t.a,.int .i64 t.b,.int .i64 t.c]):=kS.fresh (x:=t) (by simpa using hnk);have ek:Jc m.k++[(.agg t.ps,.int .i64 (m.n.length:Int))]=Jc (m.k++[(t,(m.n.length:Int))]):=by unfold Jc qc.es;rw[a4Z,a4Z];rfl
   have hF3:qO X0 Qp 148 (Jc m.k++[(.agg t.ps,.int .i64 (m.n.length:Int))]) (.agg [.int .i64 t.a,.int .i64 t.b,.int .i64 t.c]) (.int .i64 (m.n.length:Int)):=by
    refine(congrArg (fun l:List (PV aB×PV aB)=>qO X0 Qp 148 l (.agg [.int .i64 t.a,.int .i64 t.b,.int .i64 t.c]) (.int .i64 (m.n.length:Int))) ek).mpr ?_;refine kS.found (x:=t) ?_ ?_
    .rw[a8K,show((fun e:S3×PV X0.Γ=>e.1)∘fun e:S3×Int=>(e.1,(PV.int .i64 e.2:PV X0.Γ)))=fun e=>e.1 from rfl,a4Z];exact Et y1.nd hnk
    simp
   have hb:m.n.length+[(⟨c,ks⟩:Br)].length<=ah:=by simp only[a4b];have y3:m.n.length+(J.s.getD c.toNat 0).toNat<=x.n.length+(J.s.getD c.toNat 0).toNat*wO J.s r':=y3;unfold ah;omega
   have h1:dF X0 Qp (iC (N+2)) (.fn 126 [] pM) [.agg t.ps,.int .i64 (a:Int)] (HM0 J f x) (.int .i64 (m.n.length:Int)) (am6 J f m t ⟨c,ks⟩):=by subst KG;exact fQ gU (first:=[]) (cap:=pM) (.w lsk (.b t0 (.o ia (.o ig (.b tg' (.q (.bool false) hF (.b (rfl:false=false) (.o is (.wG [.mv 5,.mv 6,.Ph 1 1 3] lp (.q (.bool false) (kS.ck t) (.o hF2 (.o hb (.c (.int .i64 (m.n.length:Int)) [] hF3 .er)))))))))))))
   have h2:=dF.gs hX h1 [.gc [7,11]] (v':=.int .i64 (m.n.length:Int)) (H2:=[.map (Jc m.k++[(.agg t.ps,.int .i64 (m.n.length:Int))]),.cells [lI J.s,lI J.o,.own 7,.own 8,.int .i64 0],.aG (J.ps (.fn f [] [])),.aG [.fn 126 [] pM],.aG [.map 0],.gone,.gone,Ak m.e,Am (m.n++[⟨c,ks⟩])]) (by kernel_rfl);exact(congrArg (fun l:List (PV aB×PV aB)=>dF X0 Qp (iC (N+2)) (.fn 126 [] pM) [.agg t.ps,.int .i64 (a:Int)] (HM0 J f x) (.int .i64 (m.n.length:Int)) [.map l,.cells [lI J.s,lI J.o,.own 7,.own 8,.int .i64 0],.aG (J.ps (.fn f [] [])),.aG [.fn 126 [] pM],.aG [.map 0],.gone,.gone,Ak m.e,Am (m.n++[⟨c,ks⟩])]) ek).mp h2
  rw[a0I rfl];have tg':decide (J.g.getD (J.o.getD (i:Int).toNat 0).toNat 0>=0)=true:=by rw[KG];exact tg
  have hg:0<=J.g.getD c.toNat 0:=by simpa using tg
  have haf:=Kw (M:=N) (f:=f) (a:=[]) (cc:=[]) (H:=[]) J t c (J.g.getD c.toNat 0) hJ.d3 (fun k hk=>KA hJ q3 ⟨hg,hJ.gv c oz hg⟩ hk);have h2:=rc (i+1) (bP J.D t c (J.g.getD c.toNat 0)) x vZ aQ (nV hJ He q3 ⟨hg,hJ.gv c oz hg⟩) hx (by unfold ah;omega) (by unfold ah;omega);rw[<-ew]at h2;subst KG;exact fQ gU (first:=[]) (cap:=pM) (.w lsk (.b t0 (.o ia (.o ig (.b tg' (.fr [] haf (.fr [0,1,2,3,4,5,6] h2 .er)))))))
theorem arA{N f:Nat}{J:Jb}(hJ:jV J){op:List V->V}(jY:qH J op)(hs:∀m,N<=m->∀l:List V,l.length=J.D.length->dF X0 Qp (iC m) (.fn f [] []) [lV l] [] (.agg (op l).ps) []):∀(F:Nat) (r:LI0),r.length<=F->agY J op f (N+F+2) r:=by
 intro F
 induction F with
 |zero=>
  intro r hF;refine aey hJ jY (hs _ (by omega)) r fun c r' h=>?_;have:=h.length_le;rw[a4O]at this;omega
 |succ F ih=>
  intro r hF;refine aey (N:=N+F+1) hJ jY (hs _ (by omega)) r fun c r' h=>ih r' ?_;have:=h.length_le;rw[a4O]at this;omega
open Go Tw Pv cu
abbrev abP(J:Jb)(f:Nat)(u:Int)(t:S3)(c:Int)(a:Int)(m:Mk)(ks:LI0)(i:Int)(y:List (Nat×PE aB)):aT aB:=⟨[(1,xi a),(2,.val (.ptr 2 0 5)),(3,.val (.ptr 1 0 5)),(4,.val (.ptr 3 0 1)),(5,.val (.ptr 4 0 1)),(6,.loc 0 0),(9,xi c),(13,.loc 1 0),(93,xi (J.s.getD c.toNat 0)),(94,xi i)]++y,[t.ps,[.int .i64 c,.own 10]],abI J f u m++[oI false false ks]⟩
theorem arB{M f:Nat}{u:Int}{J:Jb}(hJ:jV J){op:List V->V}{r:LI0}{t:S3}{c a:Int}(x:Mk)(hc:fD c J.s.length)(Q:Nat->Mk->Prop)(h0:Q 0 x)(hq:∀j y,j<(J.s.getD c.toNat 0).toNat->Q j y->Q (j+1) (jI J op r (bP J.D t c j) y).2)
  (hk:∀j:Nat,j<(J.s.getD c.toNat 0).toNat->∀k,k<J.D.length->a2R (lJ J.D k) (t.get k) c j)
  (hf:∀(j:Nat) y,j<(J.s.getD c.toNat 0).toNat->Q j y->dF X0 Qp (iC (M+1)) (.fn 126 [] pM) [.agg (bP J.D t c j).ps,.int .i64 (i64.wrap (a+1))] (HM1 J f u y) (.int .i64 (jI J op r (bP J.D t c j) y).1) (abI J f u (jI J op r (bP J.D t c j) y).2)) :
  JZ (M+1) 126 1 8 (abP J f u t c a x [] 0 []) (.exit 2) (abP J f u t c a (aU (Wu J.D (jI J op r) t c) (J.s.getD c.toNat 0).toNat 0 ([],x)).2 (aU (Wu J.D (jI J op r) t c) (J.s.getD c.toNat 0).toNat 0 ([],x)).1 (((J.s.getD c.toNat 0).toNat:Nat):Int) [(95,xl false)]):=by
 have hz:=hJ.bQ.sz _ (bU (s:=J.s) (k:=c.toNat) (by have:=hc.1;have:=hc.2;omega));refine sV (σ:=LI0×Mk) (N:=(J.s.getD c.toNat 0).toNat) (g:=Wu J.D (jI J op r) t c) (s0:=([],x)) (st:=fun i y=>abP J f u t c a y.2 y.1 i []) (fin:=fun y=>abP J f u t c a y.2 y.1 (((J.s.getD c.toNat 0).toNat:Nat):Int) [(95,xl false)]) (fun j y=>y.1.length=j∧Q j y.2) (by kernel_rfl) (by unfold ah;omega) ⟨rfl,h0⟩ (fun j y hj hy=>⟨by simp[Wu,hy.1],hq j y.2 hj hy.2⟩) (fun j y hj hy m e p g=>?_) (fun y _=>?_)
 .have h1:=hf j y.2 hj hy.2;have ha:=Kw (M:=M) (f:=f) (a:=[]) (cc:=[.ptr 0 0 1]) (H:=[.aG [.int .u8 u]]) J t c j hJ.d3 (hk j hj);have t1:decide ((j:Int)<J.s.getD c.toNat 0)=true:=by rw[a1n];omega
  have h3:=hy.1;unfold Wu at g;generalize jI J op r (bP J.D t c j) y.2=z at h1 g;obtain⟨v,z⟩:=z;exact aJ gU (.b t1 (.fr [5] ha (.fr [0,1,2,3,4,5,8,9] h1 (.o (show y.1.length+[v].length<=ah by simp only[a4b];unfold ah;omega) (.goG [.gc [11,12,14]] g)))))
 .have t1:decide ((((J.s.getD c.toNat 0).toNat:Nat):Int)<J.s.getD c.toNat 0)=false:=by rw[a2b];omega
  exact aJ gU (.b t1 .ex)
abbrev ah0(J:Jb)(op:List V->V)(f:Nat)(u:Int)(m:Nat)(r:LI0):Prop:=∀(a:Nat) (t:S3) (x:Mk),J.o.drop a=r->a<=J.o.length->Dp J a t->XOk J op x->x.e.length+wO J.s r<=ah->x.n.length+wO J.s r<=ah ->
  dF X0 Qp (iC m) (.fn 126 [] pM) [.agg t.ps,.int .i64 (a:Int)] (HM1 J f u x) (.int .i64 (jI J op r t x).1) (abI J f u (jI J op r t x).2)
abbrev ah1(J:Jb)(f:Nat)(u:Int)(x:Mk)(v:V):List (PB aB):=[.map (Jc x.k),.cells [lI J.s,lI J.o,.own 9,.own 7,.int .i64 0],.aG (J.ps (.fn f [] [.ptr 5 0 1])),.aG [.fn 126 [] pM],.aG [.map 0],.aG [.int .u8 u],.gone,Am x.n,.list true true 39 [v],Ak (x.e++[v])]
abbrev am8(J:Jb)(f:Nat)(u:Int)(x:Mk)(t:S3)(b:Br):List (PB aB):=[.map (Jc x.k++[(.agg t.ps,.int .i64 (x.n.length:Int))]),.cells [lI J.s,lI J.o,.own 8,.own 12,.int .i64 0],.aG (J.ps (.fn f [] [.ptr 5 0 1])),.aG [.fn 126 [] pM],.aG [.map 0],.aG [.int .u8 u],.gone,.gone,Ak x.e,.gone,.gone,.list true true 105 [b],Am (x.n++[b])]
theorem aez{N f:Nat}(u:Int){J:Jb}(hJ:jV J){op:List V->V}(jY:qH J op)(hs:∀l:List V,l.length=J.D.length->dF X0 Qp (iC (N+1)) (.fn f [] [.ptr 0 0 1]) [lV l] [.aG [.int .u8 u]] (.agg (op l).ps) [.aG [.int .u8 u]])(r:LI0)(rec:∀c r',c::r' <:+ r->ah0 J op f u (N+1) r'):ah0 J op f u (N+2) r:=by
 intro a t x hr ha hd hx zn yN;unfold ah at zn yN;have Rj:=(jV.o2 hJ).2.1;have hl6:=hJ.bQ.len;have lsk:=aru (M:=N) (f:=f) u hJ (x:=x) r hr ha hd;obtain⟨q1,q2,q3,q4⟩:=WE hJ (op:=op) (x:=x) r a t hr ha hd;have hw:=WG hJ r (RS J.D t r) (fun c hc=>(jV.o2 hJ).2.2 c (a5I (by rw[hr];exact hc)));rw[q1];generalize RS J.D t r=n at lsk q1 q2 q3 q4 hw;have He:J.o.drop (a+n)=r.drop n:=by rw[<-hr,afL]
 have a8R:r.drop n <:+ r:=List.drop_suffix _ _;have Hz:=congrArg List.length He;rw[a4u]at Hz;clear q1 hr;generalize a+n=i at lsk q2 q3 He Hz;generalize r.drop n=r0 at q4 hw He a8R Hz;cases r0 with
 |nil=>
  have e0:i=J.o.length:=by rw[a5C]at Hz;omega
  have t0:((i:Int)==(J.o.length:Int))=true:=by rw[e0];simp
  rw[e0]at q3;have qM:(aW J.D t).length=J.D.length:=by simp[aW]
  have hce:=abG (M:=N) (f:=f) (u:=u) J t hJ.d3 (fun k hk=>(KC hJ q3 hk).2);have hv:=hs (aW J.D t) qM;simp only[wO]at hw;have hb:x.e.length+[op (aW J.D t)].length<=ah:=by simp only[a4b];unfold ah;omega
  have h1:dF X0 Qp (iC (N+2)) (.fn 126 [] pM) [.agg t.ps,.int .i64 (a:Int)] (HM1 J f u x) (.int .i64 (i64.wrap (0-((x.e++[op (aW J.D t)]).length:Int)))) (ah1 J f u x (op (aW J.D t))):=
   fQ gU (first:=[]) (cap:=pM) (.w lsk (.b t0 (.fr [5] hce (.fr [5] hv (.o hb .er)))))
  exact dF.gs hX h1 [.mv 7,.gc [9,10]] (by kernel_rfl)
 |cons c r'=>
  have t0:((i:Int)==(J.o.length:Int))=false:=by rw[a4O]at Hz;simp;omega
  obtain⟨aQ,hoc,vZ,Fq,hci,oz⟩:=jV.at_ hJ He;have BZ:=q4 c r' rfl;have rc:=rec c r' a8R;have ia:fD (i:Int) J.o.length:=⟨by omega,by omega⟩;have KG:J.o.getD (i:Int).toNat 0=c:=by rw[a5D];exact hoc
  have ig:fD (J.o.getD (i:Int).toNat 0) J.g.length:=by rw[KG,hJ.gl];exact oz
  have hz:=hJ.bQ.sz _ (bU (s:=J.s) (k:=c.toNat) (by have:=oz.1;have:=oz.2;omega));have Zr:∀c'∈r',fD c' J.s.length:=fun c' h=>(jV.o2 hJ).2.2 c' (by rw[<-vZ]at h;exact a5I h);have hw0:=QE hJ.bQ.sz Zr;have hw1:wO J.s r'<=(J.s.getD c.toNat 0).toNat*wO J.s r':=aew _ (by omega);have ew:i64.wrap ((i:Int)+1)=((i+1:Nat):Int):=by rw[eY (by omega) (by omega)];omega
  simp only[wO]at hw;unfold jI;rw[a0I BZ];cases tg:decide (J.g.getD c.toNat 0>=0)
  .rw[a0F (by simp)];have tg':decide (J.g.getD (J.o.getD (i:Int).toNat 0).toNat 0>=0)=false:=by rw[KG];exact tg
   by_cases hk:t∈x.k.map (·.1)
   .rw[a0I hk];have hF:qO X0 Qp 148 (Jc x.k) (.agg [.int .i64 t.a,.int .i64 t.b,.int .i64 t.c]) (.int .i64 (knS x.k t)):=YS hx.nd hk;have h1:dF X0 Qp (iC (N+2)) (.fn 126 [] pM) [.agg t.ps,.int .i64 (a:Int)] (HM1 J f u x) (.int .i64 (knS x.k t)) (HM1 J f u x):=
     fQ gU (first:=[]) (cap:=pM) (.w lsk (.b t0 (.o ia (.o ig (.b tg' (.c (.int .i64 (knS x.k t)) [] hF (.b (rfl:true=true) .er)))))))
    exact dF.gs hX h1 [.mv 6,.mv 7] (by kernel_rfl)
   rw[a0F hk];have hm2:=Wx hJ He q3 BZ;have hF:oJ X0 Qp 148 (Jc x.k) (.agg [.int .i64 t.a,.int .i64 t.b,.int .i64 t.c]):=kS.fresh (x:=t) (by simpa using hk);have is:fD (J.o.getD (i:Int).toNat 0) J.s.length:=by rw[KG];exact oz
   have Xk:∀j,j<(J.s.getD c.toNat 0).toNat->j*wO J.s r'+wO J.s r'<=(J.s.getD c.toNat 0).toNat*wO J.s r':=fun j hj=>by have:(j+1)*wO J.s r'<=(J.s.getD c.toNat 0).toNat*wO J.s r':=a3Z _ hj;rw[a3C]at this;omega
   let Q:Nat->Mk->Prop:=fun j y=>XOk J op y∧y.e.length<=x.e.length+j*wO J.s r'∧y.n.length+j<=x.n.length+j*wO J.s r'∧∀e∈y.k,e∈x.k∨Dp J (i+1) e.1
   have hq:∀j y,j<(J.s.getD c.toNat 0).toNat->Q j y->Q (j+1) (jI J op r' (bP J.D t c j) y).2:=fun j y hj hy=>by
    obtain⟨y1,y2,y3,y4⟩:=hy;have Xk:=Xk j hj;have h:=Us hJ op jY r' (i+1) (bP J.D t c j) y vZ aQ (nV hJ He q3 ⟨by omega,by omega⟩) y1 (by omega) (by omega);have h3:=h.el;have h4:=h.nl;refine⟨h.ok,by rw[a3C];omega,by rw[a3C];omega,fun e he=>?_⟩;rcases h.ks e he with h5|h5
    .exact y4 e h5
    exact .inr h5
   have lp:=arB (M:=N) (f:=f) (u:=u) hJ (op:=op) (r:=r') (t:=t) (c:=c) (a:=(i:Int)) x oz Q ⟨hx,by simp,by simp,fun e he=>.inl he⟩ hq (fun j hj k hk=>KA hJ q3 ⟨by omega,by omega⟩ hk) (fun j y hj hy=>by obtain⟨y1,y2,y3,y4⟩:=hy;have Xk:=Xk j hj;rw[ew];exact rc (i+1) (bP J.D t c j) y vZ aQ (nV hJ He q3 ⟨by omega,by omega⟩) y1 (by unfold ah;omega) (by unfold ah;omega))
   have inv:=bV (g:=Wu J.D (jI J op r') t c) (m:=(J.s.getD c.toNat 0).toNat) (k:=0) (s:=([],x)) (fun j y=>Q j y.2) ⟨hx,by simp,by simp,fun e he=>.inl he⟩ (fun j y _ hj hy=>hq j y.2 (by omega) hy);rw[a4v]at inv;simp only[];generalize aU (Wu J.D (jI J op r') t c) (J.s.getD c.toNat 0).toNat 0 ([],x)=y at lp inv;obtain⟨ks,m⟩:=y;obtain⟨y1,y2,y3,y4⟩:=inv;have hnk:t∉m.k.map (·.1):=fun h=>by
    obtain⟨e,he,e2⟩:=a1e.1 h;rcases y4 e he with h1|h1
    .exact hk (a1e.2 ⟨e,h1,e2⟩)
    rw[e2]at h1;exact a0P hJ He BZ h1
   have hF2:oJ X0 Qp 148 (Jc m.k) (.agg [.int .i64 t.a,.int .i64 t.b,.int .i64 t.c]):=kS.fresh (x:=t) (by simpa using hnk);have ek:Jc m.k++[(.agg t.ps,.int .i64 (m.n.length:Int))]=Jc (m.k++[(t,(m.n.length:Int))]):=by unfold Jc qc.es;rw[a4Z,a4Z];rfl
   have hF3:qO X0 Qp 148 (Jc m.k++[(.agg t.ps,.int .i64 (m.n.length:Int))]) (.agg [.int .i64 t.a,.int .i64 t.b,.int .i64 t.c]) (.int .i64 (m.n.length:Int)):=by
    refine(congrArg (fun l:List (PV aB×PV aB)=>qO X0 Qp 148 l (.agg [.int .i64 t.a,.int .i64 t.b,.int .i64 t.c]) (.int .i64 (m.n.length:Int))) ek).mpr ?_;refine kS.found (x:=t) ?_ ?_
    .rw[a8K,show((fun e:S3×PV X0.Γ=>e.1)∘fun e:S3×Int=>(e.1,(PV.int .i64 e.2:PV X0.Γ)))=fun e=>e.1 from rfl,a4Z];exact Et y1.nd hnk
    simp
   have hb:m.n.length+[(⟨c,ks⟩:Br)].length<=ah:=by simp only[a4b];have y3:m.n.length+(J.s.getD c.toNat 0).toNat<=x.n.length+(J.s.getD c.toNat 0).toNat*wO J.s r':=y3;unfold ah;omega
   have h1:dF X0 Qp (iC (N+2)) (.fn 126 [] pM) [.agg t.ps,.int .i64 (a:Int)] (HM1 J f u x) (.int .i64 (m.n.length:Int)) (am8 J f u m t ⟨c,ks⟩):=by subst KG;exact fQ gU (first:=[]) (cap:=pM) (.w lsk (.b t0 (.o ia (.o ig (.b tg' (.q (.bool false) hF (.b (rfl:false=false) (.o is (.wG [.mv 6,.mv 7,.Ph 1 1 3] lp (.q (.bool false) (kS.ck t) (.o hF2 (.o hb (.c (.int .i64 (m.n.length:Int)) [] hF3 .er)))))))))))))
   have h2:=dF.gs hX h1 [.gc [8,12]] (v':=.int .i64 (m.n.length:Int)) (H2:=[.map (Jc m.k++[(.agg t.ps,.int .i64 (m.n.length:Int))]),.cells [lI J.s,lI J.o,.own 8,.own 9,.int .i64 0],.aG (J.ps (.fn f [] [.ptr 5 0 1])),.aG [.fn 126 [] pM],.aG [.map 0],.aG [.int .u8 u],.gone,.gone,Ak m.e,Am (m.n++[⟨c,ks⟩])]) (by kernel_rfl);exact(congrArg (fun l:List (PV aB×PV aB)=>dF X0 Qp (iC (N+2)) (.fn 126 [] pM) [.agg t.ps,.int .i64 (a:Int)] (HM1 J f u x) (.int .i64 (m.n.length:Int)) [.map l,.cells [lI J.s,lI J.o,.own 8,.own 9,.int .i64 0],.aG (J.ps (.fn f [] [.ptr 5 0 1])),.aG [.fn 126 [] pM],.aG [.map 0],.aG [.int .u8 u],.gone,.gone,Ak m.e,Am (m.n++[⟨c,ks⟩])]) ek).mp h2
  rw[a0I rfl];have tg':decide (J.g.getD (J.o.getD (i:Int).toNat 0).toNat 0>=0)=true:=by rw[KG];exact tg
  have hg:0<=J.g.getD c.toNat 0:=by simpa using tg
  have haf:=Kw (M:=N) (f:=f) (a:=[]) (cc:=[.ptr 0 0 1]) (H:=[.aG [.int .u8 u]]) J t c (J.g.getD c.toNat 0) hJ.d3 (fun k hk=>KA hJ q3 ⟨hg,hJ.gv c oz hg⟩ hk);have h2:=rc (i+1) (bP J.D t c (J.g.getD c.toNat 0)) x vZ aQ (nV hJ He q3 ⟨hg,hJ.gv c oz hg⟩) hx (by unfold ah;omega) (by unfold ah;omega);rw[<-ew]at h2;subst KG;exact fQ gU (first:=[]) (cap:=pM) (.w lsk (.b t0 (.o ia (.o ig (.b tg' (.fr [5] haf (.fr [0,1,2,3,4,5,6,7] h2 .er)))))))
theorem arC{N f:Nat}(u:Int){J:Jb}(hJ:jV J){op:List V->V}(jY:qH J op)(hs:∀m,N<=m->∀l:List V,l.length=J.D.length->dF X0 Qp (iC m) (.fn f [] [.ptr 0 0 1]) [lV l] [.aG [.int .u8 u]] (.agg (op l).ps) [.aG [.int .u8 u]]):∀(F:Nat) (r:LI0),r.length<=F->ah0 J op f u (N+F+2) r:=by
 intro F
 induction F with
 |zero=>
  intro r hF;refine aez u hJ jY (hs _ (by omega)) r fun c r' h=>?_;have:=h.length_le;rw[a4O]at this;omega
 |succ F ih=>
  intro r hF;refine aez (N:=N+F+1) u hJ jY (hs _ (by omega)) r fun c r' h=>ih r' ?_;have:=h.length_le;rw[a4O]at this;omega
end Go.Proofs.YtmobpoiejckagaaGreat
namespace Pv
open Go Tw
section
variable {X:lC} {P:LI1}
theorem dF.am9(hX:bT X P){call:bn}{fv v:PV X.Γ}{xs:List (PV X.Γ)}{H H0 H1:List (PB X.Γ)}(gs:List G)(hs:dF X P call fv xs H0 v H1)(hg:lD H.length gs (⟨[],[],H⟩:aT X.Γ)=some ⟨[],[],H0⟩):dF X P call fv xs H v H1:=by
 intro A m h tf sD hr hf hx;obtain⟨m2,q1,q2,q3⟩:=lY hX hg A (fun b=>b∈bI m) h.length m ⟨[],[],h,[]⟩ ⟨⟨hr,rfl,fun k c hk=>(by simp at hk),.nil⟩,fun b hb=>.inl hb,fun b hb=>(by cases hb),a15 _⟩;have up:Up m m2:=fun i mb hi=>q3 i mb (by rw[<-hr.len];exact(a0n.1 hi).1) hi;obtain⟨w,h',ws,m1,k1,k2,k3,k4,k5,k6⟩:=hs A m2 h tf sD q1.st.heap (hf.step q2 up) (hx.step q2 up);refine⟨w,h',ws,m1,k1,k2,k3,q2.trans k4,fun i mb hi=>?_,fun b hb=>?_⟩
 .rcases up i mb hi with g|g
  .exact k5 i mb g
  rcases k5 i _ g with g|g<;>exact .inr g
 have hb:=k6 b hb;rcases q1.own b hb with g|g
 .exact g
 have:=q1.st.heap.inb hb;have:b<h.length:=this;omega
end
end Pv
namespace Go.Proofs.YtmobpoiejckagaaGreat
open Go Tw Pv cu
theorem NZ{n:Nat}(hO:Ok n Ja)(l:LI0)(hl:l.length<=ah):iV n (.fn 125 [] []) [.dH 3 l false] [] (lI l) []:=
 have h0:=nR.abo hX (hO 125 [.dH 3 l false] (.own 0) (lsI l) [l.length<=ah] (by kernel_rfl) (List.forall_mem_singleton.2 hl)) rfl rfl rfl rfl
 dF.cut hX (dF.fzR hX h0 [0] (v':=lI l) rfl (by decide)) rfl rfl rfl rfl
abbrev arD(J:Jb)(f:Nat)(x:Mk):List (PB aB):=[.map (Jc x.k),.cells [lI J.s,lI J.o,.own 7,.own 8,.int .i64 0],.cells (J.ps (.fn f [] [])),.cells [.fn 126 [] pM],.cells [.map 0],.gone,.gone,Ak x.e,Am x.n]
theorem abQ{m f:Nat}(hO:Ok m Ja)(J:Jb)(st:S3)(z:Int×Mk)
  (c1:dF X0 Qp (iC m) (.fn 125 [] []) [.dH 3 J.s false] [] (lI J.s) [])
  (c2:dF X0 Qp (iC m) (.fn 125 [] []) [.dH 3 J.o false] [] (lI J.o) [])
  (c3:dF X0 Qp (iC m) (.fn 130 [] []) [.agg (J.ps (.fn f [] []))] [] (.agg st.ps) [])
  (c5:dF X0 Qp (iC m) (.fn 126 [] pM) [.agg st.ps,.int .i64 (0:Int)] [.map [],.cells [lI J.s,lI J.o,.nil .aP,.nil .aP,.int .i64 0],.aG (J.ps (.fn f [] [])),.aG [.fn 126 [] pM],.aG [.map 0]] (.int .i64 z.1) (abH J f z.2))
  (hr:IY ⟨J.s,J.o,z.2.e,z.2.n,z.1⟩) (p1:J.s.length<=ah) (p2:J.o.length<=2^20) (p3:z.2.e.length<=ah) (p4:((bJ ⟨J.s,J.o,z.2.e,z.2.n,z.1⟩).2 != 0)=false->ClP (bJ ⟨J.s,J.o,z.2.e,z.2.n,z.1⟩).1) :
  dF X0 Qp (iC (m+1)) (.fn 80 [] []) [.agg (J.ps (.fn f [] []))] [] (dA.put (Aq ⟨J.s,J.o,z.2.e,z.2.n,z.1⟩).1) []:=by
 obtain⟨v,e,n,k⟩:=z;have h0:dF X0 Qp (iC (m+1)) (.fn 80 [] []) [.agg (J.ps (.fn f [] []))] [] (dA.put (Aq ⟨J.s,J.o,e,n,v⟩).1) ([]++[.cells (J.ps (.fn f [] [])),.cells [lI J.s,lI J.o,.own 7,.own 8,.int .i64 v],.map (Jc k),.cells [.map 2],.cells [.fn 126 [] [.ptr 0 0 5,.ptr 1 0 5,.ptr 4 0 1,.ptr 3 0 1]],.gone,.gone,.gone,.gone]):=
  fQ hO (first:=[]) (cap:=[]) (.fr [] c1 (.fr [] c2 (.fr [] c3 (.Pm (H2:=arD J f ⟨e,n,k⟩) [2,1,0,4,3] [2,3,4] c5 (.o hr (.o p1 (.o p2 (.o p3 (.o p4 .er)))))))))
 exact dF.cut hX h0 rfl rfl rfl rfl
theorem ah2{N f:Nat}{J:Jb}(hJ:jV J){op:List V->V}(jY:qH J op)(hs:∀m,N<=m->∀l:List V,l.length=J.D.length->dF X0 Qp (iC m) (.fn f [] []) [lV l] [] (.agg (op l).ps) [])(hO:∀m,N<=m->Ok m Ja){m:Nat}(hm:N+J.o.length+2<=m):dF X0 Qp (iC (m+1)) (.fn 80 [] []) [.agg (J.ps (.fn f [] []))] [] (dA.put (qj J op)) []:=by
 have hl:=hJ.bQ.len;have Rj:=(jV.o2 hJ).2.1;have hw:=Ep hJ.bQ.sz hJ.ord;have hmn:=hJ.bQ.many;have c1:=NZ (n:=m) (hO m (by omega)) J.s (by unfold ah;omega);have c2:=NZ (n:=m) (hO m (by omega)) J.o (by unfold ah;omega);obtain⟨m',rfl⟩:∃m',m=m'+1:=⟨m-1,by omega⟩;have c3:=a0O (M:=m') (f:=f) (a:=[]) (cc:=[]) (H:=[]) J hJ.d3;have c4:=arA (N:=m'+1-J.o.length-2) (f:=f) hJ jY (fun m2 h2=>hs m2 (by omega)) J.o.length J.o (a15 _) 0 (fF J.D) ⟨[],[],[]⟩ aaQ (a5u _) (fun k hk=>by rw[wY hJ.d3 hk];exact⟨(hJ.dg k hk).t.root,a5u _⟩) ⟨⟨fun i hi=>(by simp at hi),fun i hi=>(by simp at hi),fun i hi=>(by simp at hi)⟩,fun e he=>(by cases he),a5W,fun v hv=>(by cases hv),fun b hb=>(by cases hb)⟩ (by show 0+wO J.s J.o<=ah;unfold ah;omega) (by show 0+wO J.s J.o<=ah;unfold ah;omega)
 rw[show m'+1-J.o.length-2+J.o.length+2=m'+1 by omega]at c4;have c5:=dF.am9 hX (H:=[.map [],.cells [lI J.s,lI J.o,.nil .aP,.nil .aP,.int .i64 0],.aG (J.ps (.fn f [] [])),.aG [.fn 126 [] pM],.aG [.map 0]]) [.Vo 1 2 39,.Vo 1 3 105] c4 (by kernel_rfl);obtain⟨h1,h2,h3⟩:=Aw hJ jY;have hr:=a8M hJ jY;have h4:(bJ (kH J op)).2=0:=by rw[(Je hJ jY).1]
 have h5:=yu hr (by unfold ah;omega) (by show J.s.length<=ah;unfold ah;omega) (by show J.o.length<=ah;unfold ah;omega) h4;have p1:J.s.length<=ah:=by unfold ah;omega
 have p2:J.o.length<=2^20:=by omega
 have p3:(kH J op).aO.length<=ah:=by unfold ah;omega
 have p4:((bJ (kH J op)).2 != 0)=false->ClP (bJ (kH J op)).1:=fun _=>by rw[h5.1];exact h5.2
 exact abQ (hO (m'+1) (by omega)) J (fF J.D) (jI J op J.o (fF J.D) ⟨[],[],[]⟩) c1 c2 c3 c5 hr p1 p2 p3 p4
abbrev arE(J:Jb)(f:Nat)(u:Int)(x:Mk):List (PB aB):=[.map (Jc x.k),.cells [lI J.s,lI J.o,.own 8,.own 9,.int .i64 0],.cells (J.ps (.fn f [] [.ptr 5 0 1])),.cells [.fn 126 [] pM],.cells [.map 0],.aG [.int .u8 u],.gone,.gone,Ak x.e,Am x.n]
theorem abR{m f:Nat}(u:Int)(hO:Ok m Ja)(J:Jb)(st:S3)(z:Int×Mk)
  (c1:dF X0 Qp (iC m) (.fn 125 [] []) [.dH 3 J.s false] [] (lI J.s) [])
  (c2:dF X0 Qp (iC m) (.fn 125 [] []) [.dH 3 J.o false] [] (lI J.o) [])
  (c3:dF X0 Qp (iC m) (.fn 130 [] []) [.agg (J.ps (.fn f [] [.ptr 0 0 1]))] [.aG [.int .u8 u]] (.agg st.ps) [.aG [.int .u8 u]])
  (c5:dF X0 Qp (iC m) (.fn 126 [] pM) [.agg st.ps,.int .i64 (0:Int)] [.map [],.cells [lI J.s,lI J.o,.nil .aP,.nil .aP,.int .i64 0],.aG (J.ps (.fn f [] [.ptr 5 0 1])),.aG [.fn 126 [] pM],.aG [.map 0],.aG [.int .u8 u]] (.int .i64 z.1) (abI J f u z.2))
  (hr:IY ⟨J.s,J.o,z.2.e,z.2.n,z.1⟩) (p1:J.s.length<=ah) (p2:J.o.length<=2^20) (p3:z.2.e.length<=ah) (p4:((bJ ⟨J.s,J.o,z.2.e,z.2.n,z.1⟩).2 != 0)=false->ClP (bJ ⟨J.s,J.o,z.2.e,z.2.n,z.1⟩).1) :
  dF X0 Qp (iC (m+1)) (.fn 80 [] []) [.agg (J.ps (.fn f [] [.ptr 0 0 1]))] [.aG [.int .u8 u]] (dA.put (Aq ⟨J.s,J.o,z.2.e,z.2.n,z.1⟩).1) [.aG [.int .u8 u]]:=by
 obtain⟨v,e,n,k⟩:=z;have h0:dF X0 Qp (iC (m+1)) (.fn 80 [] []) [.agg (J.ps (.fn f [] [.ptr 0 0 1]))] [.aG [.int .u8 u]] (dA.put (Aq ⟨J.s,J.o,e,n,v⟩).1) ([.aG [.int .u8 u]]++[.cells (J.ps (.fn f [] [.ptr 0 0 1])),.cells [lI J.s,lI J.o,.own 8,.own 9,.int .i64 v],.map (Jc k),.cells [.map 3],.cells [.fn 126 [] [.ptr 1 0 5,.ptr 2 0 5,.ptr 5 0 1,.ptr 4 0 1]],.gone,.gone,.gone,.gone]):=
  fQ hO (first:=[]) (cap:=[]) (.fr [] c1 (.fr [] c2 (.fr [0] c3 (.Pm (H2:=arE J f u ⟨e,n,k⟩) [3,2,1,5,4,0] [2,3,4] c5 (.o hr (.o p1 (.o p2 (.o p3 (.o p4 .er)))))))))
 exact dF.cut hX h0 rfl rfl rfl rfl
theorem ah3{N f:Nat}(u:Int){J:Jb}(hJ:jV J){op:List V->V}(jY:qH J op)(hs:∀m,N<=m->∀l:List V,l.length=J.D.length->dF X0 Qp (iC m) (.fn f [] [.ptr 0 0 1]) [lV l] [.aG [.int .u8 u]] (.agg (op l).ps) [.aG [.int .u8 u]])(hO:∀m,N<=m->Ok m Ja){m:Nat}(hm:N+J.o.length+2<=m):dF X0 Qp (iC (m+1)) (.fn 80 [] []) [.agg (J.ps (.fn f [] [.ptr 0 0 1]))] [.aG [.int .u8 u]] (dA.put (qj J op)) [.aG [.int .u8 u]]:=by
 have hl:=hJ.bQ.len;have Rj:=(jV.o2 hJ).2.1;have hw:=Ep hJ.bQ.sz hJ.ord;have hmn:=hJ.bQ.many;have c1:=NZ (n:=m) (hO m (by omega)) J.s (by unfold ah;omega);have c2:=NZ (n:=m) (hO m (by omega)) J.o (by unfold ah;omega);obtain⟨m',rfl⟩:∃m',m=m'+1:=⟨m-1,by omega⟩;have c3:=a0O (M:=m') (f:=f) (a:=[]) (cc:=[.ptr 0 0 1]) (H:=[.aG [.int .u8 u]]) J hJ.d3;have c4:=arC (N:=m'+1-J.o.length-2) (f:=f) u hJ jY (fun m2 h2=>hs m2 (by omega)) J.o.length J.o (a15 _) 0 (fF J.D) ⟨[],[],[]⟩ aaQ (a5u _) (fun k hk=>by rw[wY hJ.d3 hk];exact⟨(hJ.dg k hk).t.root,a5u _⟩) ⟨⟨fun i hi=>(by simp at hi),fun i hi=>(by simp at hi),fun i hi=>(by simp at hi)⟩,fun e he=>(by cases he),a5W,fun v hv=>(by cases hv),fun b hb=>(by cases hb)⟩ (by show 0+wO J.s J.o<=ah;unfold ah;omega) (by show 0+wO J.s J.o<=ah;unfold ah;omega)
 rw[show m'+1-J.o.length-2+J.o.length+2=m'+1 by omega]at c4;have c5:=dF.am9 hX (H:=[.map [],.cells [lI J.s,lI J.o,.nil .aP,.nil .aP,.int .i64 0],.aG (J.ps (.fn f [] [.ptr 5 0 1])),.aG [.fn 126 [] pM],.aG [.map 0],.aG [.int .u8 u]]) [.Vo 1 2 39,.Vo 1 3 105] c4 (by kernel_rfl);obtain⟨h1,h2,h3⟩:=Aw hJ jY;have hr:=a8M hJ jY;have h4:(bJ (kH J op)).2=0:=by rw[(Je hJ jY).1]
 have h5:=yu hr (by unfold ah;omega) (by show J.s.length<=ah;unfold ah;omega) (by show J.o.length<=ah;unfold ah;omega) h4;have p1:J.s.length<=ah:=by unfold ah;omega
 have p2:J.o.length<=2^20:=by omega
 have p3:(kH J op).aO.length<=ah:=by unfold ah;omega
 have p4:((bJ (kH J op)).2 != 0)=false->ClP (bJ (kH J op)).1:=fun _=>by rw[h5.1];exact h5.2
 exact abR u (hO (m'+1) (by omega)) J (fF J.D) (jI J op J.o (fF J.D) ⟨[],[],[]⟩) c1 c2 c3 c5 hr p1 p2 p3 p4
open Go Tw Pv cu
theorem ama(x:V):Instr.sameBits 10000 (kV.v x) (kV.v x)=true:=by show Instr.sameBits 10000 (.agg #[.int .u8 x.f,.int .i64 x.n]) (.agg #[.int .u8 x.f,.int .i64 x.n])=true;simp[Instr.sameBits]
theorem a8S(x:S3):Instr.sameBits 10000 (kS.v x) (kS.v x)=true:=by show Instr.sameBits 10000 (.agg #[.int .i64 x.a,.int .i64 x.b,.int .i64 x.c]) (.agg #[.int .i64 x.a,.int .i64 x.b,.int .i64 x.c])=true;simp[Instr.sameBits]
abbrev iG:V:=⟨0,1⟩
def amb:dZ aB:=bK 79 (a1 vsA) vA (fun p=>p.getD 0 V0) (fun p=>[0<p.length]) Ja
theorem arF:Gd amb:=Ur.add fun n hO p hp=>aI hO (.o (aC (hp _ gQ)) .rr)
def amc:dZ aB:=bK 89 afP vA (fun p=>iG) np amb
theorem arG:Gd amc:=arF.add fun n hO p hp=>aI hO .rr
def a8T:dZ aB:=bK 169 (a1 vA) tA (fun p=>decide (p=iG)) np amc
theorem amd:Gd a8T:=arG.add fun n hO p hp=>aI hO (.q (.bool (decide (p=iG))) (eqV (.tmp 3) (.tmp 4) p iG) .rr)
def qP(l:List V):Bool:=l.all fun v=>decide (v=iG)
def oZ(l:List V):V:=if qP l=true then iG else V0
theorem arH{n:Nat}(hO:Ok n a8T)(l:List V)(hl:l.length<=ah):iV (n+4) (.fn 168 [] []) [.fn 169 [] [],lV l] [] (tA.put (qP l)) []:=by
 have hs:∀v:V,iV n (.fn 169 [] []) [.agg v.ps] [] (tA.put (decide (v=iG))) []:=fun v=>nR.a0N hX (first:=[]) (cap:=[]) (hO 169 [.agg v.ps] (tA.put (decide (v=iG))) [] [] (by kernel_rfl) (fun p h=>by cases h)) rfl rfl rfl rfl;have h1:∀v:V,iV (n+1) (.fn 201 [] [.ptr 0 0 1]) [.agg v.ps] [.cells [.fn 169 [] []]] (tA.put (!(decide (v=iG)))) [.cells [.fn 169 [] []]]:=fun v=>
  jD gU (first:=[]) (.fr [] (hs v) .sr)
 have h2:=agi (n:=n+2) (by omega) (f:=201) (a:=[]) (c:=[.ptr 0 0 1]) (H:=[.cells [.fn 169 [] []]]) (g:=fun v=>!(decide (v=iG))) h1 l hl;rw[JU]at h2;unfold qP;rw[<-EW l fun v=>decide (v=iG)];exact dF.drop hX (DY hX gU (first:=[]) (cap:=[]) (H1:=[.cells [.fn 169 [] []]]) (by kernel_rfl) (.k h2 .sr)) rfl rfl
def qZ:dZ aB:=bK 117 (a1 vsA) vA oZ (fun l=>[l.length<=ah]) a8T
theorem Jf:Gd qZ:=amd.deep 4 fun n hn hO l hp=>by have hs:=arH (n:=n-4) (hO (n-4) (by omega)) l (hp _ gQ);rw[show n-4+4=n by omega]at hs;show nR X0 Qp _ _ _ (vA.put (oZ l)) _;unfold oZ;exact aI (hO n (by omega)) (.fr [] hs (.ss .rr .rr))
abbrev YT:Code:=(U4 Qp 87).body
abbrev RV:Code:=(U4 Qp 136).body
abbrev a8U(J:Jb)(f:Nat):List (Nat×PE aB):=[(2,.val (.nil .map)),(3,.val (.ptr 2 0 1)),(8,.val (.fn 136 [.agg (J.ps (.fn f [] []))] []))]
abbrev LRC(J:Jb)(f:Nat)(rd:Bool)(jW:Option Code):PB aB:=.loop rd 87 (D7 Qp 87) (a8U J f) [9,10] (y9 Qp 87) (BL Qp 87) jW
abbrev HQc(J:Jb)(f:Nat)(t:List (V×Int)):List (PB aB):=[.cells (J.ps (.fn f [] [])),.map (kV.im t),.cells [.map 1]]
abbrev RX(J:Jb)(f:Nat)(rd:Bool)(jW:Option Code)(t:List (V×Int)):List (PB aB):=HQc J f t++[.mark,LRC J f rd jW]
theorem a8V(l:List V):decide (oZ l=iG)=qP l:=by unfold oZ;cases qP l<;>decide
def yT(l:List V)(w:Int)(t:List (V×Int)):List (V×Int):=if qP (l.drop 1)=true then tJ t (l.getD 0 V0) w else t
structure Tal(t:List (V×Int)):Prop where
 nd:(t.map (·.1)).Nodup
 pos:∀e∈t,0<e.2
 bnd:∀e∈t,e.2<=2000
theorem arJ{n:Nat}(hO:Ok n qZ)(J:Jb)(f:Nat){t:List (V×Int)}(ht:Tal t)(l:List V){w:Int}(h0:0<l.length)(hl:l.length<=ah)(hw:0<w∧w<=2000):iV (n+1) (.lF 4) [lV l,.int .i64 w] (RX J f true none t) (.bool true) (RX J f true none (yT l w t)):=by
 have q1:dS X0 Qp T (iC n) LL 87 true (D7 Qp 87) 5 (y9 Qp 87) ⟨uQ (a8U J f) [9,10] [lV l,.int .i64 w],[],RX J f true none t⟩ .norm ⟨[(3,.val (.ptr 2 0 1)),(4,.val (lV l)),(5,.val (.int .i64 w))],[],RX J f true none t⟩:=yX hX hO (by kernel_rfl) .xx;have i0:fD 0 l.length:=aC h0;have a1:(1:Int)<=l.length:=by omega
 have e1:(l.take l.length)=l:=abh;have c1:decide (oZ ((l.take ((l.length:Int).toNat)).drop (1:Int).toNat)=iG)=qP (l.drop 1):=by rw[a8V];simp
 have a2:((l.take ((l.length:Int).toNat)).drop (1:Int).toNat).length<=ah:=by simp;omega
 have ev:=eqV (.tmp 13) (.tmp 14) (oZ ((l.take ((l.length:Int).toNat)).drop (1:Int).toNat)) iG;have z01:(0:Int)<=1:=by decide
 have z02:(l.length:Int)<=(l.length:Int):=aa0 _;unfold yT;cases hc:qP (l.drop 1)
 .rw[hc]at c1;rw[a0F (by simp)];have q2:dS X0 Qp T (iC n) LL 87 true (D7 Qp 87) 5 (BL Qp 87) ⟨[(3,.val (.ptr 2 0 1)),(4,.val (lV l)),(5,.val (.int .i64 w))],[],RX J f false none t⟩ .norm ⟨[(3,.val (.ptr 2 0 1)),(4,.val (lV l)),(5,.val (.int .i64 w)),(15,xl false)],[],RX J f false none t⟩:=
   yX hX hO (by kernel_rfl) (.o z01 (.o a1 (.o z02 (.o a2 (.q (.bool (decide (oZ ((l.take ((l.length:Int).toNat)).drop (1:Int).toNat)=iG))) ev (.b c1 .xx))))))
  exact Iy hX (l:=4) rfl rfl (by kernel_rfl) q1 rfl q2 rfl
 rw[hc]at c1;rw[a0I rfl];by_cases hk:l.getD 0 V0∈t.map (·.1)
 .obtain⟨j,old,g1,g2,g3,g4⟩:=kV.WB (ama _) ht.nd hk (n:=w) fun e he=>eY (by have:=ht.pos e he;omega) (by have:=ht.bnd e he;omega);have q2:dS X0 Qp T (iC n) LL 87 true (D7 Qp 87) 5 (BL Qp 87) ⟨[(3,.val (.ptr 2 0 1)),(4,.val (lV l)),(5,.val (.int .i64 w))],[],RX J f false none t⟩ .norm ⟨[],[],[.cells (J.ps (.fn f [] [])),.map (JF (kV.im t) j (.int .i64 (i64.wrap (old+w)))),.cells [.map 1],.mark,LRC J f false none]⟩:=
   yX hX hO (by kernel_rfl) (.o z01 (.o a1 (.o z02 (.o a2 (.q (.bool (decide (oZ ((l.take ((l.length:Int).toNat)).drop (1:Int).toNat)=iG))) ev (.b c1 (.o i0 (.c (.int .i64 old) [] g1 (.a (.call (.int .i64 old) []) (.a (.ix j) (.o g2 (.o g3 .xx))))))))))))
  rw[g4]at q2;exact Iy hX (l:=4) rfl rfl (by kernel_rfl) q1 rfl q2 rfl
 obtain⟨g1,g2,g3,g4⟩:=kV.WC hk (n:=w) (by rw[Int.zero_add];exact eY (by omega) (by omega));have q2:dS X0 Qp T (iC n) LL 87 true (D7 Qp 87) 5 (BL Qp 87) ⟨[(3,.val (.ptr 2 0 1)),(4,.val (lV l)),(5,.val (.int .i64 w))],[],RX J f false none t⟩ .norm ⟨[],[],[.cells (J.ps (.fn f [] [])),.map (JF (kV.im t++[(.agg (l.getD 0 V0).ps,.int .i64 0)]) (kV.im t).length (.int .i64 (i64.wrap (0+w)))),.cells [.map 1],.mark,LRC J f false none]⟩:=
  yX hX hO (by kernel_rfl) (.o z01 (.o a1 (.o z02 (.o a2 (.q (.bool (decide (oZ ((l.take ((l.length:Int).toNat)).drop (1:Int).toNat)=iG))) ev (.b c1 (.o i0 (.q (.bool false) g1 (.a .calm (.o (kV.ck (l.getD 0 V0)) (.o g1 (.o g2 (.o g3 .xx)))))))))))))
 have g4:JF (kV.im t++[(.agg (l.getD 0 V0).ps,.int .i64 0)]) (kV.im t).length (.int .i64 (i64.wrap (0+w)))=kV.im (tJ t (l.getD 0 V0) w):=g4;rw[g4]at q2;exact Iy hX (l:=4) rfl rfl (by kernel_rfl) q1 rfl q2 rfl
open Go Tw Pv cu
abbrev HN(J:Jb)(f:Nat)(t:List (V×Int))(now:List (S3×Int)):List (PB aB):=RX J f true none t++[.map (kS.im now)]
abbrev bLB:Code:=fA (fA (fB (fA (fB (fB RV)))))
abbrev bB1:Code:=fA (fA (fB (fB bLB)))
abbrev bIB:Code:=fA (fA (fB (fA (fB (fB bB1)))))
abbrev bX:Code:=fA (fB (fB bIB))
abbrev bL2:Code:=fA (fA (fB (fB (fB (fB RV)))))
abbrev bX2:Code:=fA (fB (fB bL2))
abbrev a4P(J:Jb)(c:Int)(a:Int):List (Nat×PE aB):=[(1,.val (.lF 4)),(2,.loc 0 0),(6,xi c),(7,.val (.map 6)),(21,xL 3 J.o),(22,xi J.o.length),(23,xi a),(29,.val (.iter 7))]
abbrev HI(J:Jb)(f:Nat)(t:List (V×Int))(now next:List (S3×Int))(seen:List Nat):List (PB aB):=HN J f t now++[.map (kS.im next),.dD 5 now.length seen]
structure NI(J:Jb)(a:Nat)(m:List (S3×Int)):Prop where
 nd:(m.map (·.1)).Nodup
 pos:∀e∈m,0<e.2
 dp:∀e∈m,Dp J a e.1
theorem NI.add{J:Jb}{a:Nat}{m:List (S3×Int)}(h:NI J a m){s:S3}{n:Int}(hs:Dp J a s)(hn:0<n):NI J a (tJ m s n):=
 ⟨Gy h.nd s n,Qh hn h.pos,fun e he=>by
  rcases a7y he with e1|⟨e',h1,h2⟩
  .rw[e1];exact hs
  .rw[<-h2];exact h.dp e' h1⟩
theorem Ce{κ:Type}[DecidableEq κ](q:Int):∀m:List (κ×Int),dL (fun _=>q) m=dL (fun _=>1) m*q
 | []=>by simp[dL]
 |e::m=>by simp only[dL,Ce q m,agO,acP]
theorem Jg{κ:Type}[DecidableEq κ]:∀{m:List (κ×Int)},(∀e∈m,0<e.2)->0<=dL (fun _=>1) m∧∀e∈m,e.2<=dL (fun _=>1) m
 | [],_=>⟨aa0 _,fun e he=>by cases he⟩
 |x::m,h=>by
  obtain⟨h1,h2⟩:=Jg (m:=m) fun e he=>h e (by simp[he]);have h0:=h x (by simp);simp only[dL,acP];refine⟨by omega,fun e he=>?_⟩;rcases a2x.1 he with rfl|he
  .omega
  have:=h2 e he;omega
theorem a8X{κ:Type}[DecidableEq κ]{m:List (κ×Int)}{q:Nat}(hp:∀e∈m,0<e.2)(hq:1<=q)(hs:dL (fun _=>(q:Int)) m<=2000):∀e∈m,e.2<=2000:=fun e he=>by
 obtain⟨h1,h2⟩:=Jg hp;rw[Ce]at hs;have h3:=h2 e he;have:dL (fun _=>1) m<=dL (fun _=>1) m*(q:Int):=by have:=a9E (show(1:Int)<=q by omega) h1;omega
 omega
theorem YU{J:Jb}(r:LI0)(m:List (S3×Int)):dL (yG J (fun _=>1) r) m=dL (fun _=>(AU J r:Int)) m:=by
 induction m with
 |nil=>rfl
 |cons e m ih=>simp only[dL,ih,EZ]
theorem Fb{J:Jb}{a:Nat}{r:LI0}{m:List (S3×Int)}(h:NI J a m)(hq:1<=AU J r){s:S3}{n b:Int}(hn:0<n)(hs:dL (fun _=>(AU J r:Int)) m+n*(AU J r:Int)<=b)(hb:b<=2000):n<=2000∧(∀e∈m,e.2<=2000)∧∀e∈m,i64.wrap (e.2+n)=e.2+n:=by
 obtain⟨h1,h2⟩:=Jg h.pos;have h3:0<=dL (fun _=>(AU J r:Int)) m:=by rw[Ce];exact aeH h1 (by omega)
 have h4:n<=n*(AU J r:Int):=by have:=a9E (show(1:Int)<=AU J r by omega) (show 0<=n by omega);omega
 have h5:0<=n*(AU J r:Int):=by omega
 have h6:=a8X h.pos hq (show dL (fun _=>(AU J r:Int)) m<=2000 by omega);refine⟨by omega,h6,fun e he=>?_⟩;have:=h6 e he;have:=h.pos e he;exact eY (by omega) (by omega)
theorem a2Y{now:List (S3×Int)}{j:Nat}{st:S3}{w:Int}(h:now[j]? = some (st,w)):(kS.im now).length=now.length∧(kS.im now)[j]? = some (.agg st.ps,.int .i64 w):=by refine⟨kS.qy now,?_⟩;rw[kS.Cc,h];rfl
section
variable {n:Nat} {J:Jb} (hJ:jV J) {f:Nat} (t:List (V×Int)) (now:List (S3×Int)) (seen:List Nat) {a:Nat} {c:Int} {r:LI0} {st:S3} {w:Int} {j:Nat}
abbrev sX(J:Jb)(f:Nat)(t:List (V×Int))(now next:List (S3×Int))(c:Int)(a:Int)(st:S3)(w:Int)(js:List Nat):aT aB:=⟨jy (T.iK 136 7) ((31,.val (.bool true))::(30,.val (.dJ [.bool true,.agg st.ps,.int .i64 w]))::a4P J c a),[J.ps (.fn f [] [])],HI J f t now next js⟩
abbrev sZ(J:Jb)(f:Nat)(t:List (V×Int))(now next:List (S3×Int))(c:Int)(a:Int)(st:S3)(js:List Nat):aT aB:=⟨a4P J c a,[J.ps (.fn f [] []),st.ps],HI J f t now next js⟩
abbrev wDi(J:Jb)(f:Nat)(t:List (V×Int))(now:List (S3×Int))(c:Int)(a:Int)(st:S3)(w:Int)(js:List Nat)(next:List (S3×Int))(i:Int)(x:List (Nat×PE aB)):aT aB:=⟨[(1,.val (.lF 4)),(2,.loc 0 0),(6,xi c),(7,.val (.map 6)),(8,.loc 1 0),(9,xi w),(21,xL 3 J.o),(22,xi J.o.length),(23,xi a),(29,.val (.iter 7)),(75,xi (J.s.getD c.toNat 0)),(76,xi i)]++x,[J.ps (.fn f [] []),st.ps],HI J f t now next js⟩
include hJ
theorem lDi(hr:J.o.drop a=c::r)(hd:Dp J a st)(hw:0<w){next:List (S3×Int)}(hN:NI J (a+1) next)(hg:¬decide (J.g.getD c.toNat 0>=0)=true)(hb:dL (fun _=>(AU J r:Int)) next+w*(AU J (c::r):Int)<=2000)(js:List Nat) :
  ∃next',NI J (a+1) next'∧(∀ψ,dL (yG J ψ r) next'=dL (yG J ψ r) next+w*yG J ψ (c::r) st) ∧
   JZ (n+1) 136 2 5 (wDi J f t now c a st w js next 0 []) (.exit 5) (wDi J f t now c a st w js next' ((J.s.getD c.toNat 0).toNat:Nat) [(77,xl false)]):=by
 obtain⟨aQ,hoc,vZ,Fq,hci,oz⟩:=jV.at_ hJ hr;have hz:=hJ.bQ.sz _ (bU (s:=J.s) (k:=c.toNat) (by have:=oz.1;have:=oz.2;omega));have Zr:∀c'∈r,fD c' J.s.length:=fun c' h=>(jV.o2 hJ).2.2 c' (by rw[<-vZ]at h;exact a5I h);have hq:=(KF hJ Zr).1;have qM:(AU J (c::r):Int)=((J.s.getD c.toNat 0).toNat:Int)*(AU J r:Int):=by
  have:(C9 J c).length=(J.s.getD c.toNat 0).toNat:=by unfold C9;rw[a0F hg];simp
  rw[AU,this,aeV]
 let g:Nat->List (S3×Int)->List (S3×Int):=fun k y=>tJ y (bP J.D st c k) w
 have inv:=bV (g:=g) (m:=(J.s.getD c.toNat 0).toNat) (k:=0) (s:=next) (fun k y=>NI J (a+1) y∧∀ψ,dL (yG J ψ r) y=dL (yG J ψ r) next+w*eH (fun(j:Nat)=>yG J ψ r (bP J.D st c j)) (List.range k)) ⟨hN,fun ψ=>by simp[eH]⟩ (fun k y _ hk hy=>by obtain⟨h1,h2⟩:=hy;refine⟨h1.add (nV hJ hr hd ⟨by omega,by omega⟩) hw,fun ψ=>?_⟩;show dL (yG J ψ r) (tJ y _ w)=_;rw[Ac,h2 ψ,aem,II,Int.mul_add];simp only[eH,Int.add_zero];omega)
 rw[a4v]at inv;refine⟨_,inv.1,fun ψ=>by rw[inv.2 ψ,abL hg],?_⟩;have bound:∀k y,k<(J.s.getD c.toNat 0).toNat->(∀ψ,dL (yG J ψ r) y=dL (yG J ψ r) next+w*eH (fun(j:Nat)=>yG J ψ r (bP J.D st c j)) (List.range k))->dL (fun _=>(AU J r:Int)) y+w*(AU J r:Int)<=2000:=fun k y hk hy=>by have h1:=hy fun _=>1;rw[YU,YU,qR (φ':=fun _=>(AU J r:Int)) (fun _ _=>EZ r _),Cb,a6T]at h1;rw[h1];rw[qM]at hb;have h2:((k:Int)+1)*(AU J r:Int)<=((J.s.getD c.toNat 0).toNat:Int)*(AU J r:Int):=a6h (by omega) (by omega);have h3:=a9E h2 (show 0<=w by omega);rw[agO,Int.mul_add,Int.one_mul]at h3;omega
 refine sV (σ:=List (S3×Int)) (N:=(J.s.getD c.toNat 0).toNat) (g:=g) (s0:=next) (st:=fun i y=>wDi J f t now c a st w js y i []) (fin:=fun y=>wDi J f t now c a st w js y (((J.s.getD c.toNat 0).toNat:Nat):Int) [(77,xl false)]) (fun k y=>NI J (a+1) y∧∀ψ,dL (yG J ψ r) y=dL (yG J ψ r) next+w*eH (fun(j:Nat)=>yG J ψ r (bP J.D st c j)) (List.range k)) (by kernel_rfl) (by unfold ah;omega) ⟨hN,fun ψ=>by simp[eH]⟩ (fun k y hk hy=>?_) (fun k y hk hy m e p g9=>?_) (fun y _=>?_)
 .obtain⟨h1,h2⟩:=hy;refine⟨h1.add (nV hJ hr hd ⟨by omega,by omega⟩) hw,fun ψ=>?_⟩;show dL (yG J ψ r) (tJ y _ w)=_;rw[Ac,h2 ψ,aem,II,Int.mul_add];simp only[eH,Int.add_zero];omega
 .obtain⟨h1,h2⟩:=hy;obtain⟨b1,b2,b3⟩:=Fb h1 hq (s:=bP J.D st c k) hw (bound k y hk h2) (aa0 _);have t1:decide ((k:Int)<J.s.getD c.toNat 0)=true:=by rw[a1n];omega
  have ha:=Kw (M:=n) (f:=f) (a:=[]) (cc:=[]) (H:=[]) J st c k hJ.d3 fun i hi=>KA hJ hd ⟨by omega,by omega⟩ hi;have g9:dO X0 Qp T (iC (n+1)) LL 136 false _ 5 _ m (wDi J f t now c a st w js (tJ y (bP J.D st c k) w) _ []) e p:=g9;by_cases hk:bP J.D st c k∈y.map (·.1)
  .obtain⟨jj,old,g1,g2,g3,g4⟩:=kS.WB (a8S _) h1.nd hk (n:=w) b3;unfold wDi HI at g9;rw[<-g4]at g9;exact aJ gU (.b t1 (.fr [] ha (.c (.int .i64 old) [] g1 (.a (.call (.int .i64 old) []) (.a (.ix jj) (.o g2 (.o g3 (.go g9))))))))
  .obtain⟨g1,g2,g3,g4⟩:=kS.WC hk (n:=w) (by rw[Int.zero_add];exact eY (by omega) (by omega));unfold wDi HI at g9;rw[<-g4]at g9;exact aJ gU (.b t1 (.fr [] ha (.q (.bool false) g1 (.a .calm (.o (kS.ck (bP J.D st c k)) (.o g1 (.o g2 (.o g3 (.go g9)))))))))
 .have t1:decide ((((J.s.getD c.toNat 0).toNat:Nat):Int)<J.s.getD c.toNat 0)=false:=by rw[a2b];omega
  exact aJ gU (.b t1 .ex)
end
open Go Tw Pv cu
abbrev sH(J:Jb)(f:Nat)(t:List (V×Int))(now next:List (S3×Int))(c:Int)(a:Int)(js:List Nat):aT aB:=⟨a4P J c a,[J.ps (.fn f [] [])],HI J f t now next js⟩
section
variable {n:Nat} {J:Jb} (hJ:jV J) {f:Nat} (t:List (V×Int)) (now:List (S3×Int)) (seen:List Nat) {a:Nat} {c:Int} {r:LI0} {st:S3} {w:Int} {j:Nat}
include hJ
theorem ame(hr:J.o.drop a=c::r)(hd:Dp J a st)(hw:0<w){next:List (S3×Int)}(hN:NI J (a+1) next)(hj:now[j]? = some (st,w))(hb:dL (fun _=>(AU J r:Int)) next+w*(AU J (c::r):Int)<=2000) :
  ∃next' e s',NI J (a+1) next'∧(∀ψ,dL (yG J ψ r) next'=dL (yG J ψ r) next+w*yG J ψ (c::r) st)∧(e=.norm∨e=.exit 3) ∧
   dS X0 Qp T (iC (n+1)) LL 136 false (D7 Qp 136) 5 bX (sX J f t now next c a st w (j::seen)) e s' ∧
   gY X0 (T.fC 136 (eu bIB)) s'=sH J f t now next' c a (j::seen):=by
 obtain⟨aQ,hoc,vZ,Fq,hci,oz⟩:=jV.at_ hJ hr;have hz:=hJ.bQ.sz _ (bU (s:=J.s) (k:=c.toNat) (by have:=oz.1;have:=oz.2;omega));have Zr:∀c'∈r,fD c' J.s.length:=fun c' h=>(jV.o2 hJ).2.2 c' (by rw[<-vZ]at h;exact a5I h);have hq:=(KF hJ Zr).1;have hcG:fD c J.g.length:=by rw[hJ.gl];exact oz
 have ho:=a2Y hj;by_cases hg:decide (J.g.getD c.toNat 0>=0)=true
 .have hl1:(AU J (c::r):Int)=AU J r:=by rw[AU,C9,a0I hg];simp
  rw[hl1]at hb;have hgv:0<=J.g.getD c.toNat 0:=by simpa using hg
  have hd2:=nV hJ hr hd ⟨hgv,hJ.gv c oz hgv⟩;obtain⟨b1,b2,b3⟩:=Fb hN hq (s:=st) hw hb (aa0 _);have ha:=Kw (M:=n) (f:=f) (a:=[]) (cc:=[]) (H:=[]) J st c (J.g.getD c.toNat 0) hJ.d3 fun i hi=>KA hJ hd ⟨hgv,hJ.gv c oz hgv⟩ hi;refine⟨tJ next (bP J.D st c (J.g.getD c.toNat 0)) w,.exit 3,sZ J f t now (tJ next (bP J.D st c (J.g.getD c.toNat 0)) w) c a st (j::seen),hN.add hd2 hw,fun ψ=>by rw[Ac,a4M hg],.inr rfl,?_,by kernel_rfl⟩;unfold sZ HI;by_cases hk:bP J.D st c (J.g.getD c.toNat 0)∈next.map (·.1)
  .obtain⟨jj,old,g1,g2,g3,g4⟩:=kS.WB (a8S _) hN.nd hk (n:=w) b3;rw[<-g4];exact Ad hX gU (by kernel_rfl) (.c (.dJ [.agg st.ps,.int .i64 w]) [] ho (.o oz (.o hcG (.b hg (.fr [] ha (.c (.int .i64 old) [] g1 (.a (.call (.int .i64 old) []) (.a (.ix jj) (.o g2 (.o g3 (.r rfl)))))))))))
  .obtain⟨g1,g2,g3,g4⟩:=kS.WC hk (n:=w) (by rw[Int.zero_add];exact eY (by omega) (by omega));rw[<-g4];exact Ad hX gU (by kernel_rfl) (.c (.dJ [.agg st.ps,.int .i64 w]) [] ho (.o oz (.o hcG (.b hg (.fr [] ha (.q (.bool false) g1 (.a .calm (.o (kS.ck (bP J.D st c (J.g.getD c.toNat 0))) (.o g1 (.o g2 (.o g3 (.r rfl))))))))))))
 have hg':decide (J.g.getD c.toNat 0>=0)=false:=by simpa using hg
 have vW:((J.s.getD c.toNat 0).toNat:Int)=J.s.getD c.toNat 0:=by omega
 have qM:(AU J (c::r):Int)=J.s.getD c.toNat 0*(AU J r:Int):=by
  have:(C9 J c).length=(J.s.getD c.toNat 0).toNat:=by unfold C9;rw[a0F hg];simp
  rw[AU,this,aeV,vW]
 have hs:=a8H (M:=n) (f:=f) (a:=[]) (cc:=[]) (H:=[]) J st c hJ.d3 (fun k hk h=>⟨by simpa using h,(hd k hk).1.1⟩);cases BZ:kG J.D st c
 .rw[BZ]at hs;have hd2:=Wv hJ hr hd BZ;have hm:0<w*J.s.getD c.toNat 0:=Int.mul_pos hw (by omega);rw[qM,<-aia]at hb;obtain⟨b1,b2,b3⟩:=Fb hN hq (s:=st) hm hb (aa0 _);have hwm:i64.wrap (w*J.s.getD c.toNat 0)=w*J.s.getD c.toNat 0:=eY (by omega) (by omega);refine⟨tJ next st (w*J.s.getD c.toNat 0),.exit 3,sZ J f t now (tJ next st (w*J.s.getD c.toNat 0)) c a st (j::seen),hN.add hd2 hm,fun ψ=>by rw[Ac,agU hg BZ,vW,aia],.inr rfl,?_,by kernel_rfl⟩;unfold sZ HI;by_cases hk:st∈next.map (·.1)
  .obtain⟨jj,old,g1,g2,g3,g4⟩:=kS.WB (a8S _) hN.nd hk (n:=w*J.s.getD c.toNat 0) b3;rw[<-g4,<-hwm];exact Ad hX gU (by kernel_rfl) (.c (.dJ [.agg st.ps,.int .i64 w]) [] ho (.o oz (.o hcG (.b hg' (.fr [] hs (.b (rfl:(!false)=true) (.c (.int .i64 old) [] g1 (.a (.call (.int .i64 old) []) (.a (.ix jj) (.o g2 (.o g3 (.r rfl))))))))))))
  .obtain⟨g1,g2,g3,g4⟩:=kS.WC hk (n:=w*J.s.getD c.toNat 0) (by rw[Int.zero_add];exact hwm);rw[<-g4,<-hwm];exact Ad hX gU (by kernel_rfl) (.c (.dJ [.agg st.ps,.int .i64 w]) [] ho (.o oz (.o hcG (.b hg' (.fr [] hs (.b (rfl:(!false)=true) (.q (.bool false) g1 (.a .calm (.o (kS.ck st) (.o g1 (.o g2 (.o g3 (.r rfl)))))))))))))
 .rw[BZ]at hs;obtain⟨next',h1,h2,h3⟩:=lDi (n:=n) hJ (f:=f) t now hr hd hw hN hg hb (j::seen);refine⟨next',.norm,_,h1,h2,.inl rfl,Ad (ps1:=wDi J f t now c a st w (j::seen) next' ((J.s.getD c.toNat 0).toNat:Nat) [(77,xl false)]) hX gU (by kernel_rfl) (.c (.dJ [.agg st.ps,.int .i64 w]) [] ho (.o oz (.o hcG (.b hg' (.fr [] hs (.b (rfl:(!true)=false) (.w h3 (.r rfl)))))))),by kernel_rfl⟩
end
end Go.Proofs.YtmobpoiejckagaaGreat
