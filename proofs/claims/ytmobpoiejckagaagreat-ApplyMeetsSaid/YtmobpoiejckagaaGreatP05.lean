/- Part 6 of a proof: ApplyMeets -/
import Derived.Test.YtmobpoiejckagaaGreatP04
set_option linter.constructorNameAsVariable false
set_option linter.unusedVariables false
set_option linter.unusedSimpArgs false
set_option linter.unusedSectionVars false
open Go.IntKind (i64)
noncomputable section
namespace Go.Proofs.YtmobpoiejckagaaGreat
open Go Tw Pv bQ
structure Alk(d:Dg)(F:Nat)(r:Int)(s:LI0×LI0):Prop where
 eq:bY d F r (KS d s)=(yw (kJ d F r s) r,KS d (kJ d F r s))
 aA:L8 d (kJ d F r s)
 cov:X8 (kJ d F r s) r
 ext:Ext s (kJ d F r s)
theorem aeC{d}(h:CV d)(hw:Jg d)(hd:DgD d)(he:d.aO.length<=2^61):∀(F:Nat) (r:Int) (s),r+1<F->KZ d s->L8 d s->jQ d r d.au.length->1<=F->Alk d F r s
 | 0,r,s,_,_,_,_,h1=>by omega
 |F+1,r,s,hF,hs,hk,hr,_=>by
  have hn:∀o∈s.1,0<=o:=fun o ho=>(hs.n2 o ho).1;by_cases c:r<0
  .have t0:decide (r<0)=true:=(by simpa using c);obtain⟨q1,q2⟩:=ahc hd hs (hr.2 c);have e1:bY d (F+1) r (KS d s)=(i64.wrap (-1-((KS d s).e.idxOf (oP d r):Nat)),⟨fJ (KS d s).e (oP d r),(KS d s).n,(KS d s).k⟩):=by unfold bY;rw[a15 t0]
   by_cases c2:jo r∈s.2
   .have e2:kJ d (F+1) r s=s:=by unfold kJ;rw[a15 t0,a0S (by simpa using c2)]
    refine⟨?_,by rw[e2];exact hk,by rw[e2];exact⟨fun _=>c2,fun h0=>by omega⟩,by rw[e2];exact .refl s⟩;rw[e1,e2,q1,show fJ (KS d s).e (oP d r)=(KS d s).e from a15 (q2.2 c2)];unfold yw;rw[a15 c]
   have e2:kJ d (F+1) r s=(s.1,s.2++[jo r]):=by unfold kJ;rw[a15 t0,a15 (by simpa using c2)]
   have hc:X8 (s.1,s.2++[jo r]) r:=⟨fun _=>by simp,fun h0=>by omega⟩;have hx:Ext s (s.1,s.2++[jo r]):=⟨[],[jo r],by simp⟩;refine⟨?_,by rw[e2];exact fun o ho k kN=>(hk o ho k kN).ext hx,by rw[e2];exact hc,by rw[e2];exact hx⟩;rw[e1,e2,q1,ahb hk hn,show fJ (KS d s).e (oP d r)=(KS d s).e++[oP d r]from a0S (fun e=>c2 (q2.1 e))];unfold yw;rw[a15 c];simp[aap,c2,a7k c2,oP]
  have t0:¬(decide (r<0)=true):=by simpa using c
  have yK:(KS d s).k.map (·.1)=s.1:=by unfold KS;rw[a8G];exact List.map_id _
  by_cases c2:r∈s.1
  .have e2:kJ d (F+1) r s=s:=by unfold kJ;rw[a0S t0,a15 (by simpa using c2)]
   have e1:bY d (F+1) r (KS d s)=(Wi (KS d s).k r,KS d s):=by unfold bY;rw[a0S t0,a15 (by rw[yK];simpa using c2)]
   refine⟨?_,by rw[e2];exact hk,by rw[e2];exact⟨fun h0=>absurd h0 c,fun _=>c2⟩,by rw[e2];exact .refl s⟩;rw[e1,e2,ahd c2]
  have aS:r.toNat<d.au.length:=by have:=hr.1;omega
  have Dc:∀k,k<(ay d r).aA.length->(ay d r).aA.getD k 0<r:=fun k kN=>by have h9:=(h.Aj r.toNat aS k kN).1;have h9:(ay d r).aA.getD k 0<(r.toNat:Int):=h9;omega
  have MV:∀j,j<(ay d r).aA.length->jQ d ((ay d r).aA.getD j 0) d.au.length:=fun j hj=>⟨by have:=Dc j hj;have:=hr.1;omega,(h.Aj r.toNat aS j hj).2⟩;have VL:=Ur (g1:=fun j (y:LI0×Cs)=>(y.1.set j (bY d F ((ay d r).aA.getD j 0) y.2).1,(bY d F ((ay d r).aA.getD j 0) y.2).2)) (g2:=fun k y=>kJ d F ((ay d r).aA.getD k 0) y)
   (fun j (y:LI0×Cs) (t:LI0×LI0)=>y=(((ay d r).aA.take j).map (yw t)++List.replicate ((ay d r).aA.length-j) 0,KS d t)/\KZ d t/\L8 d t/\Ext s t/\r∉t.1/\∀i,i<j->X8 t ((ay d r).aA.getD i 0)) (ay d r).aA.length 0 (List.replicate (ay d r).aA.length 0,KS d s) s ⟨by simp,hs,hk,.refl s,c2,fun i hi=>by omega⟩ (fun j y t _ hj hy=>by
    obtain⟨rfl,y1,y2,y3,y4,y5⟩:=hy;have hj:j<(ay d r).aA.length:=(by omega);have ih:=aeC h hw hd he F _ t (by have:=Dc j hj;omega) y1 y2 (MV j hj) (by omega);have Zu:=a8h F ((ay d r).aA.getD j 0) r t (Dc j hj) y4 (by omega) (fun i hi k hk=>(h.Aj i hi k hk).1) (fun h5=>⟨h5,by have:=(MV j hj).1;omega⟩);have Ro:=MR h F ((ay d r).aA.getD j 0) t y1 (MV j hj);obtain⟨i1,i2,i3,i4⟩:=ih;simp only[i1];generalize kJ d F ((ay d r).aA.getD j 0) t=u at i2 i3 i4 Zu Ro ⊢;refine⟨?_,Ro,i2,y3.trans i4,Zu,fun i hi=>?_⟩
    .simp only[a1d,and_true];have hl:(List.map (yw t) (List.take j (ay d r).aA)).length=j:=by rw[a4P,a4c];omega
     rw[show(ay d r).aA.length-j=((ay d r).aA.length-(j+1))+1 by omega,af2,List.set_append_right _ _ (by rw[hl];exact a1j j)];rw[hl,afh,List.set_cons_zero,a6b hj,a4M,a6m];congr 1
     .apply a5J;intro x hx;obtain⟨i,hi,rfl⟩:=a5I.1 hx;have Bg:i<j:=by simp at hi;omega
      have:=y5 i Bg;rw[tJ (l:=(ay d r).aA) (show i<(ay d r).aA.length by omega)]at this;rw[List.getElem_take];exact(abT this i4).symm
     .rw[tJ hj];rfl
    .by_cases Bg:i<j
     .exact(y5 i Bg).ext i4
     .rw[show i=j by omega];exact i3)
  have e1:bY d (F+1) r (KS d s)=(eX (aQ (fun j (y:LI0×Cs)=>(y.1.set j (bY d F ((ay d r).aA.getD j 0) y.2).1,(bY d F ((ay d r).aA.getD j 0) y.2).2)) (ay d r).aA.length 0 (List.replicate (ay d r).aA.length 0,KS d s)).2.n (ay d r).var (aQ (fun j (y:LI0×Cs)=>(y.1.set j (bY d F ((ay d r).aA.getD j 0) y.2).1,(bY d F ((ay d r).aA.getD j 0) y.2).2)) (ay d r).aA.length 0 (List.replicate (ay d r).aA.length 0,KS d s)).1,⟨(aQ (fun j (y:LI0×Cs)=>(y.1.set j (bY d F ((ay d r).aA.getD j 0) y.2).1,(bY d F ((ay d r).aA.getD j 0) y.2).2)) (ay d r).aA.length 0 (List.replicate (ay d r).aA.length 0,KS d s)).2.e,dI (aQ (fun j (y:LI0×Cs)=>(y.1.set j (bY d F ((ay d r).aA.getD j 0) y.2).1,(bY d F ((ay d r).aA.getD j 0) y.2).2)) (ay d r).aA.length 0 (List.replicate (ay d r).aA.length 0,KS d s)).2.n (ay d r).var (aQ (fun j (y:LI0×Cs)=>(y.1.set j (bY d F ((ay d r).aA.getD j 0) y.2).1,(bY d F ((ay d r).aA.getD j 0) y.2).2)) (ay d r).aA.length 0 (List.replicate (ay d r).aA.length 0,KS d s)).1,(aQ (fun j (y:LI0×Cs)=>(y.1.set j (bY d F ((ay d r).aA.getD j 0) y.2).1,(bY d F ((ay d r).aA.getD j 0) y.2).2)) (ay d r).aA.length 0 (List.replicate (ay d r).aA.length 0,KS d s)).2.k++[(r,eX (aQ (fun j (y:LI0×Cs)=>(y.1.set j (bY d F ((ay d r).aA.getD j 0) y.2).1,(bY d F ((ay d r).aA.getD j 0) y.2).2)) (ay d r).aA.length 0 (List.replicate (ay d r).aA.length 0,KS d s)).2.n (ay d r).var (aQ (fun j (y:LI0×Cs)=>(y.1.set j (bY d F ((ay d r).aA.getD j 0) y.2).1,(bY d F ((ay d r).aA.getD j 0) y.2).2)) (ay d r).aA.length 0 (List.replicate (ay d r).aA.length 0,KS d s)).1)]⟩):=by rw[bY,a0S t0,a0S (by rw[yK];simpa using c2)]
  have e2:kJ d (F+1) r s=((aQ (fun k y=>kJ d F ((ay d r).aA.getD k 0) y) (ay d r).aA.length 0 s).1++[r],(aQ (fun k y=>kJ d F ((ay d r).aA.getD k 0) y) (ay d r).aA.length 0 s).2):=by rw[kJ,a0S t0,a0S (by simpa using c2)]
  generalize aQ (fun j (y:LI0×Cs)=>(y.1.set j (bY d F ((ay d r).aA.getD j 0) y.2).1,(bY d F ((ay d r).aA.getD j 0) y.2).2)) (ay d r).aA.length 0 (List.replicate (ay d r).aA.length 0,KS d s)=y at VL e1;generalize aQ (fun k y=>kJ d F ((ay d r).aA.getD k 0) y) (ay d r).aA.length 0 s=t at VL e2;obtain⟨rfl,f2,f3,f4,f5,f6⟩:=VL;rw[a3C]at f6;simp only[a3C,abE,afh,List.replicate_zero,a6k]at e1;have a8E:∀k∈(ay d r).aA,X8 t k:=fun k kN=>by
   obtain⟨i,hi,rfl⟩:=a5I.1 kN;have:=f6 i hi
   rwa [tJ hi]at this
  have hW:∀o,0<=o->fZ o d.au.length->∀k∈(ay d o).aA,Hg k:=fun o _ ho k kN=>by
   obtain⟨i,hi,rfl⟩:=a5I.1 kN;have:=hw.Aj o.toNat (by have:=ho.1;have:=ho.2;omega) i hi
   rwa [tJ hi]at this
  have hrI:fZ r d.au.length:=⟨by omega,hr.1⟩;have hel:t.2.length<=2^61:=a5O f2.len.2 he;have aeD:((ay d r).aA.map (yw t)).all (fun x=>x==((ay d r).aA.map (yw t)).getD 0 0)=false:=by
   cases e:((ay d r).aA.map (yw t)).all (fun x=>x==((ay d r).aA.map (yw t)).getD 0 0)
   .rfl
   exfalso;have hf:=hd.flat r.toNat aS;rw[List.all_eq_false]at hf;obtain⟨x,hx,hx2⟩:=hf;have hx:x∈(ay d r).aA:=hx;have h0:0<(ay d r).aA.length:=List.length_pos_of_mem hx;rw[a5z]at e;have:=e (yw t x) (a1u.2 ⟨x,hx,rfl⟩);rw[tJ (by simpa using h0),aa1]at this;have h00:(ay d r).aA[0]∈(ay d r).aA:=a5B h0;have:=a2W hel (a8E x hx) (a8E _ h00) (hW r (by omega) hrI x hx) (hW r (by omega) hrI _ h00) (by simpa using this);apply hx2;have h9:(fK d r.toNat).aA.getD 0 0=(ay d r).aA[0]:=tJ h0;rw[h9,this];simp
  have ag0:uQ (ay d r).var ((ay d r).aA.map (yw t))∉(KS d t).n.map Dj:=by
   intro hm;unfold KS at hm;rw[a8G]at hm;obtain⟨o,ho,e⟩:=a1u.1 hm;have ho2:=f2.n2 o ho;have OM:o.toNat<d.au.length:=by have:=ho2.1;have:=ho2.2;omega
   have ev:(fK d o.toNat).var=(fK d r.toNat).var:=congrArg Prod.fst e;have ep:Jh ((ay d o).aA.map (yw t))=Jh ((ay d r).aA.map (yw t)):=congrArg (fun z:Ky=>z.2.val) e;have hlen:((fK d o.toNat).aA.length:Int)=((fK d r.toNat).aA.length:Int):=(by rw[h.ksz _ OM,h.ksz _ aS,ev]);have hlen:(ay d o).aA.length=(ay d r).aA.length:=by exact_mod_cast hlen
   have em:=abU (by simpa using hlen) (by rw[a4P];exact h.KY _ OM) ep;have ek:=map_inj (fun x hx y hy e=>a2W hel (f3 o ho x hx) (a8E y hy) (hW o ho2.1 ho2 x hx) (hW r (by omega) hrI y hy) e) em;have:=hd.au _ _ OM aS ev ek;have:o=r:=by have:=ho2.1;omega
   exact f5 (this▸ho)
  have hnl:(KS d t).n.length=t.1.length:=by unfold KS;simp
  have hR:eX (KS d t).n (ay d r).var ((ay d r).aA.map (yw t))=(t.1.length:Int):=by unfold eX;rw[aeD,a0S (by simp),a7k ag0,a4P,hnl]
  have hS:dI (KS d t).n (ay d r).var ((ay d r).aA.map (yw t))=(KS d t).n++[⟨(ay d r).var,(ay d r).aA.map (yw t)⟩]:=by unfold dI;rw[aeD,a0S (by simp),a0S ag0]
  have hx:Ext t (t.1++[r],t.2):=⟨[r],[],by simp⟩;have hc:X8 (t.1++[r],t.2) r:=⟨fun h0=>absurd h0 c,fun _=>by simp⟩;refine⟨?_,?_,by rw[e2];exact hc,by rw[e2];exact f4.trans hx⟩
  .rw[e1,e2,hR,hS,abS f3 (fun o ho=>(f2.n2 o ho).1) (by omega) f5 a8E];unfold yw;rw[a0S c];simp[aap,f5]
  rw[e2];intro o ho k kN;rcases a3E.1 ho with ho|ho
  .exact(f3 o ho k kN).ext hx
  rw[a2m.1 ho]at kN;exact(a8E k kN).ext hx
open Go Tw Pv bQ
theorem QG(b):xZ b=b.aA.all fun x=>x==b.aA.getD 0 0:=by
 have e:jO (U5 (Qz b) 1 (max 1 b.aA.length))=true↔∀k,1<=k->k<b.aA.length->b.aA.getD k 0=b.aA.getD 0 0:=by
  unfold U5 gS;rw[J6 (r:=fun k=>k)];constructor
  .intro h k h1 h2;simpa[Qz]using h k h1 (by omega)
  intro h k h1 h2;simpa[Qz]using h k h1 (by omega)
 have e2:(b.aA.all fun x=>x==b.aA.getD 0 0)=true↔∀k,1<=k->k<b.aA.length->b.aA.getD k 0=b.aA.getD 0 0:=by
  rw[a5z];constructor
  .intro h k _ h2;have:=h _ (bV h2);simpa using this
  intro h x hx;obtain⟨k,hk,rfl⟩:=a5I.1 hx;by_cases h0:k=0
  .subst h0;rw[tJ hk];simp
  have:=h k (by omega) hk;rw[tJ hk]at this;rw[this];simp
 have:xZ b=true↔(b.aA.all fun x=>x==b.aA.getD 0 0)=true:=by rw[e2,<-e];unfold xZ;cases jO (U5 (Qz b) 1 (max 1 b.aA.length))<;>simp
 rw[a5G];exact this
theorem ahe{d}:jO (aZ (cD0 d) d.aO.length)=true↔d.aO.Nodup:=by
 rw[cO];have h1:∀i,cD0 d i=false↔∀j,j<i->d.aO.getD j V0≠d.aO.getD i V0:=fun i=>by
  have:jO (aZ (cD1 d i) i)=true↔∀j,j<i->d.aO.getD j V0≠d.aO.getD i V0:=by rw[cO];simp[cD1]
  rw[<-this];unfold cD0;cases jO (aZ (cD1 d i) i)<;>simp
 have hg:∀j,(hj:j<d.aO.length)->d.aO.getD j V0=d.aO[j]:=fun j hj=>by simp[List.getD,a0A hj]
 constructor
 .intro h;rw[acA,ad4];intro i j hi hj Bg;have:=(h1 j).1 (h j hj) i Bg
  rwa [hg i hi,hg j hj]at this
 intro h i hi;rw[h1];intro j hj;rw[acA,ad4]at h;have:=h j i (by omega) hi hj
 rwa [hg i hi,hg j (by omega)]
theorem ahf{d}:jO (aZ (cD2 d) d.au.length)=true↔(∀i j,i<d.au.length->j<d.au.length->(fK d i).var=(fK d j).var->(fK d i).aA=(fK d j).aA->i=j)/\∀i,i<d.au.length->((fK d i).aA.all fun x=>x==(fK d i).aA.getD 0 0)=false:=by
 rw[cO];have h1:∀i,cD2 d i=false↔xZ (fK d i)=false/\∀j,j<i->¬((fK d j).var=(fK d i).var/\(fK d j).aA=(fK d i).aA):=fun i=>by
  have h3:∀j,cD3 d i j=false↔¬((fK d j).var=(fK d i).var/\(fK d j).aA=(fK d i).aA):=fun j=>by
   unfold cD3;by_cases hv:(fK d j).var=(fK d i).var
   .rw[a15 (by rw[a7l];exact hv),a3k];exact⟨fun a b=>a b.2,fun a b=>a ⟨hv,b⟩⟩
   rw[a0S (by rw[a7l];exact hv)];exact⟨fun _ a=>hv a.1,fun _=>rfl⟩
  have:jO (aZ (cD3 d i) i)=true↔∀j,j<i->¬((fK d j).var=(fK d i).var/\(fK d j).aA=(fK d i).aA):=by rw[cO];exact aaK fun j=>aaK fun _=>h3 j
  rw[<-this];unfold cD2;cases xZ (fK d i)
  .cases jO (aZ (cD3 d i) i)<;>simp
  simp
 constructor
 .intro h;refine⟨fun i j hi hj hv hk=>?_,fun i hi=>by rw[<-QG];exact((h1 i).1 (h i hi)).1⟩;rcases Nat.lt_trichotomy i j with Bg|Bg|Bg
  .exact absurd ⟨hv,hk⟩ (((h1 j).1 (h j hj)).2 i Bg)
  .exact Bg
  exact absurd ⟨hv.symm,hk.symm⟩ (((h1 i).1 (h i hi)).2 j Bg)
 intro h i hi;rw[h1];refine⟨by rw[QG];exact h.2 i hi,fun j hj hc=>?_⟩;have:=h.1 j i (by omega) hi hc.1 hc.2;omega
theorem abV{d}:(jO (aZ (cD0 d) d.aO.length)=true/\jO (aZ (cD2 d) d.au.length)=true)↔DgD d:=by rw[ahe,ahf];exact⟨fun h=>⟨h.1,h.2.1,h.2.2⟩,fun h=>⟨h.aO,h.au,h.flat⟩⟩
theorem QH{l}{m:Nat}:Ai l m=true↔l=dR m:=by
 unfold Ai;have e:jO (aZ (a8c l) l.length)=true↔∀j,j<l.length->l.getD j 0=(j:Int):=by rw[cO];simp[a8c]
 constructor
 .intro h;split at h
  .rename_i h1;have hl:(l.length:Int)=(m:Int):=(by simpa using h);have hl:l.length=m:=(by omega);rw[nV (d:=0) (by rw[mQ,hl])];intro j hj;rw[e.1 h1 j hj];have:j<m:=(by omega);simp[dR,List.getD,this]
  cases h
 rintro rfl;rw[a15 (e.2 fun j hj=>by rw[mQ]at hj;simp[dR,List.getD,hj]),mQ];simp
theorem YN{d}:qG d=true↔DgD d/\srN d d.root=dR d.au.length/\srE d d.root=dR d.aO.length:=by
 rw[<-abV,<-QH,<-QH];unfold qG;cases jO (aZ (cD0 d) d.aO.length)
 .simp
 cases jO (aZ (cD2 d) d.au.length)
 .simp
 cases Ai (srN d d.root) (d.au.length:Int)<;>simp
open Go Tw Pv bQ
abbrev ZA:Cs:=⟨[],[],[]⟩
def eY(d:Dg):Dg:=⟨d.aj,d.aB,(bY d 6002 d.root ZA).2.e,(bY d 6002 d.root ZA).2.n,(bY d 6002 d.root ZA).1⟩
theorem Wp{d}:Eu d ZA:=⟨a6g,by simp,a6g,by simp,a6g,by simp⟩
abbrev a8F(b:Br):Bool:=b.aA.all fun x=>x==b.aA.getD 0 0
theorem a2Y{d}:∀(F) (r) (x),(∀b∈x.n,a8F b=false)->∀b∈(bY d F r x).2.n,a8F b=false
 | 0,_,_,h=>h
 |F+1,r,x,h=>by
  unfold bY;split
  .exact h
  split
  .exact h
  have hb:=(Ji (d:=d) (fun y=>∀b∈y.n,a8F b=false) (F:=F) (r:=r) h (fun j y _ hy=>a2Y F _ y hy)).2;intro b Sj;simp only[dI]at Sj;split at Sj
  .exact hb b Sj
  rename_i hf;split at Sj
  .exact hb b Sj
  rcases a3E.1 Sj with Sj|Sj
  .exact hb b Sj
  rw[a2m.1 Sj];simpa using hf
theorem a4V{d}(h:CV d)(e:eY d=d):DgD d:=by
 have hc:=QD h 6002 d.root ZA Wp h.root;have hf:=a2Y (d:=d) 6002 d.root ZA (by simp);have ee:(bY d 6002 d.root ZA).2.e=d.aO:=congrArg Dg.aO e;have en:(bY d 6002 d.root ZA).2.n=d.au:=congrArg Dg.au e;rw[en]at hf;have hg:∀j,(hj:j<d.au.length)->fK d j=d.au[j]:=fun j hj=>by simp[List.getD,a0A hj]
 refine⟨ee▸hc.e1,fun i j hi hj hv hk=>?_,fun i hi=>?_⟩
 .have hn:(d.au.map Dj).Nodup:=en▸hc.n1;have:=(aaL (i:=i) (j:=j) (h₀:=by simpa using hi) (h₁:=by simpa using hj) hn).1 (by rw[aa1,aa1,<-hg i hi,<-hg j hj];show uQ _ _=uQ _ _;rw[hv,hk])
  exact this
 have:=hf (fK d i) (by rw[hg i hi];exact a5B hi);exact this
theorem QI{d:Dg}{n m x}(hm:m<=2^61)(hx:Hg x)(hc:X8 (dR n,dR m) x):yw (dR n,dR m) x=x:=by
 have hid:∀(n:Nat) (y:Int),y∈dR n->(((dR n).idxOf y:Nat):Int)=y:=fun n y hy=>by have hl:=a5H.2 hy;have h1:=a9B hl;rw[mQ]at hl;simp only[dR,aa1,afe]at h1;exact h1
 unfold yw;by_cases c:x<0
 .rw[a15 c];have h1:=hid m _ (hc.1 c);have h2:jo x=-1-x:=Oa hx c;have h3:=a2R (hc.1 c);have h4:=h3.2;rw[show((((dR n,dR m):LI0×LI0).2.idxOf (jo x):Nat):Int)=jo x from h1,h2,eU (by omega) (by omega)];omega
 rw[a0S c];exact hid n _ (hc.2 (by omega))
theorem YO{α:Type}(l:List α)(f)(h:∀j,(hj:j<l.length)->f j=l[j]):(dR l.length).map f=l:=by apply aac (by simp[dR]);intro j h1 h2;simp[dR,h j h2]
theorem a2Z{d:Dg}{j}(hj):d.aO.getD ((j:Nat):Int).toNat V0=d.aO[j]:=by simp[List.getD,a0A hj]
theorem a3a{l:LI0}{m}(hl:l.length=m)(h:∀j,(hj:j<l.length)->l[j]=(j:Int)):l=dR m:=by apply aac (by rw[mQ,hl]);intro j h1 h2;rw[h j h1];simp[dR]
theorem ahg{d}(h:CV d)(hw:Jg d)(hd:DgD d)(he:d.aO.length<=2^61){t}(ht:KZ d t)(hk:L8 d t)(hc:X8 t d.root):((KS d t).e=d.aO/\(KS d t).n=d.au/\yw t d.root=d.root)↔(t.1=dR d.au.length/\t.2=dR d.aO.length):=by
 have hW:∀o,fZ o d.au.length->∀k∈(ay d o).aA,Hg k:=fun o ho k kN=>by
  obtain⟨i,hi,rfl⟩:=a5I.1 kN;have:=hw.Aj o.toNat (by have:=ho.1;have:=ho.2;omega) i hi
  rwa [tJ hi]at this
 have hg:∀j,(hj:j<d.au.length)->ay d (j:Nat)=d.au[j]:=fun j hj=>by simp[List.getD,a0A hj]
 constructor
 .rintro⟨h1,h2,h3⟩;have l1:t.2.length=d.aO.length:=by have:=congrArg List.length h1;simpa[KS]using this
  have l2:t.1.length=d.au.length:=by have:=congrArg List.length h2;simpa[KS]using this
  have e2:t.2=dR d.aO.length:=a3a l1 fun j hj=>by have tX:j<d.aO.length:=(by omega);have:(KS d t).e[j]'(by rw[h1];exact tX)=d.aO[j]:=(by simp only[h1]);unfold KS at this;simp only[aa1]at this;rw[<-a2Z tX]at this;exact YM hd.aO (ht.e2 _ (a5B hj)) (aF tX) this
  have key:∀(N:Nat) (o:Int),o∈t.1->o.toNat<N->yw t o=o:=by
   intro N
   induction N with
   |zero=>intro o _ hN;omega
   |succ N ih=>
    intro o ho hN;have ho2:=ht.n2 o ho;have aS:=a5H.2 ho;have tX:t.1.idxOf o<d.au.length:=(by omega);have hel:=a9B aS;have:(KS d t).n[t.1.idxOf o]'(by rw[h2];exact tX)=d.au[t.1.idxOf o]:=(by simp only[h2]);unfold KS at this;simp only[aa1,hel]at this;have hkm:(ay d o).aA.map (yw t)=(ay d o).aA:=by
     conv=>rhs;rw[<-List.map_id (ay d o).aA]
     apply a5J;intro k kN;show yw t k=k;have hcv:=hk o ho k kN;by_cases c:k<0
     .have:=QI (d:=d) (n:=0) (m:=d.aO.length) he (hW o ho2 k kN) ⟨fun c=>by have:=hcv.1 c;rwa [e2]at this,fun h0=>by omega⟩;unfold yw at this ⊢;rw[a15 c]at this ⊢;rw[e2];exact this
     obtain⟨i,hi,rfl⟩:=a5I.1 kN;have arQ:o.toNat<d.au.length:=by have:=ho2.1;have:=ho2.2;omega
     have h9:=(h.Aj o.toNat arQ i hi).1;have h9:(ay d o).aA.getD i 0<(o.toNat:Int):=h9;rw[tJ hi]at h9;exact ih _ (hcv.2 (by omega)) (by omega)
    rw[hkm]at this;have hv:(fK d (t.1.idxOf o)).var=(fK d o.toNat).var:=(by rw[show fK d (t.1.idxOf o)=d.au[t.1.idxOf o]from hg _ tX,<-this]);have yK:(fK d (t.1.idxOf o)).aA=(fK d o.toNat).aA:=(by rw[show fK d (t.1.idxOf o)=d.au[t.1.idxOf o]from hg _ tX,<-this]);have h8:=hd.au _ _ tX (by have:=ho2.1;have:=ho2.2;omega) hv yK;unfold yw;rw[a0S (by have:=ho2.1;omega),h8];have:=ho2.1;omega
  refine⟨a3a l2 fun j hj=>?_,e2⟩;have hm:=a5B hj;have:=key ((t.1[j]).toNat+1) _ hm (by omega);unfold yw at this;rw[a0S (by have:=(ht.n2 _ hm).1;omega)]at this;rw[<-this];have:t.1.idxOf t.1[j]=j:=by have h5:=a5H.2 hm;exact(aaL (i:=t.1.idxOf t.1[j]) (j:=j) (h₀:=h5) (h₁:=hj) ht.n1).1 (a9B h5)
  rw[this]
 rintro⟨h1,h2⟩;obtain⟨t1,t2⟩:=t;simp only at h1 h2;subst h1 h2;refine⟨?_,?_,QI (d:=d) he hw.root hc⟩
 .exact YO d.aO (fun e=>d.aO.getD e.toNat V0) fun j hj=>a2Z hj
 refine YO d.au _ fun j hj=>?_;have hkm:(ay d (j:Nat)).aA.map (yw (dR d.au.length,dR d.aO.length))=(ay d (j:Nat)).aA:=by
  conv=>rhs;rw[<-List.map_id (ay d (j:Nat)).aA]
  apply a5J;intro k kN;exact QI (d:=d) he (hW _ (aF hj) k kN) (hk _ (by show(j:Int)∈dR _;unfold dR;rw[a1u];exact⟨j,a5y.2 hj,rfl⟩) k kN)
 rw[hkm,hg j hj]
theorem Us{d}(h:CV d)(hw:Jg d)(he:d.aO.length<=2^61)(hn:d.au.length<=6000):eY d=d↔qG d=true:=by
 have main:DgD d->(eY d=d↔(srN d d.root=dR d.au.length/\srE d d.root=dR d.aO.length)):=fun hd=>by
  have hr:d.root+1<6002:=by have:=h.root.1;omega
  have ha:=aeC h hw hd he 6002 d.root ([],[]) hr sr0 (fun o ho=>by cases ho) h.root (by omega);have hs:=MR h 6002 d.root ([],[]) sr0 h.root;have hi:=ahg h hw hd he hs ha.aA ha.cov;have e0:KS d ([],[])=ZA:=rfl;have e1:=ha.eq;rw[e0]at e1;unfold srN srE;rw[<-hi];unfold eY;rw[e1];obtain⟨d1,d2,d3,d4,d5⟩:=d;simp
 rw[YN];constructor
 .intro e;have hd:=a4V h e;exact⟨hd,(main hd).1 e⟩
 rintro⟨hd,h2⟩;exact(main hd).2 h2
open Go Tw Pv bQ
abbrev HCw(l:Lo)(x:Cs):List (PB aH):=[.list false false 3 l.s,.list false false 3 l.o,.map (kV.es (Am x.e)),.map (kK.es (zF x.n)),mkC l.s l.o 12 13 0,.gone,.gone,.cells l.ps,.cells [.ptr 4 0 9],.map (kI.es (Nr x.k)),.cells [.map 9],.cells [.fn 195 [] pC],Ap x.e,Aq x.n]
structure ClP(l:Lo):Prop where
 s:l.s=l.d.aj
 o:l.o=l.d.aB
 t:CV l.d
 e:l.d.aO.length+1<=ah
 n:l.d.au.length<=6000
 k:∀i,i<l.d.au.length->1<=(fK l.d i).aA.length
 sl:l.d.aj.length<=ah
 ol:l.d.aB.length<=ah
def aeE:gU aH:=bU 161 (a1 loA) dA (fun l=>eY l.d) (fun l=>[ClP l]) aeA
theorem amr:Gd aeE:=amo.U3 6010 aes fun n hn hO hOl l hp=>by obtain⟨n,rfl⟩:∃k,n=k+6009:=⟨n-6009,by omega⟩;have h:ClP l:=hp _ gQ;obtain⟨s,o,d⟩:=l;obtain⟨e1,e2,ht,he,hn6,hk,hsl,OM⟩:=h;obtain rfl:s=d.aj:=e1;obtain rfl:o=d.aB:=e2;have hO':∀m,n+1<=m->Ok m _:=fun m hm=>hOl m (by omega);have he:d.aO.length+1<=ah:=he;have hn6:d.au.length<=6000:=hn6;have hr:=ht.root.1;have hr:d.root<(d.au.length:Int):=hr;have nR:=sCl (N:=n+1) hO' ht he (by unfold ah;omega) hk 6002 d.root ZA (by omega) Wp ht.root (by omega);have gJ:=arM (n:=n+6008) (hO' _ (by omega)) d.aj d.aB hsl OM;show nU _ _ _ _ _ (dA.put (eY d)) _;unfold eY;generalize bY d 6002 d.root ZA=z at nR ⊢;obtain⟨v,e,nd,k⟩:=z;exact aN (hO (n+6009) (by omega)) (.fr [] gJ (.RU (H2:=HCw (zG d) ⟨e,nd,k⟩) [1,2,3,4,5,6,7,0,8,9,10,11] [7,8,10,11] nR .rr))
open Go Tw Pv bQ
theorem a3b{d}(h:CV d):∀(F) (r) (x),(∀b∈x.n,b.aA.length<=12)->jQ d r d.au.length->∀b∈(bY d F r x).2.n,b.aA.length<=12
 | 0,_,_,hx,_=>hx
 |F+1,r,x,hx,hr=>by
  unfold bY;by_cases c:r<0
  .rw[a15 (by simpa using c)];exact hx
  rw[a0S (by simpa using c)];split
  .exact hx
  have aS:r.toNat<d.au.length:=by have:=hr.1;omega
  have hb:=Ji (d:=d) (fun y=>∀b∈y.n,b.aA.length<=12) (F:=F) (r:=r) hx (fun j y hj hy=>a3b h F _ y hy (by have h9:=h.Aj r.toNat aS j hj;have h8:=h9.1;have h8:(ay d r).aA.getD j 0<(r.toNat:Int):=h8;exact⟨by have:=hr.1;omega,h9.2⟩))
  intro b Sj;simp only[dI]at Sj;split at Sj
  .exact hb.2 b Sj
  split at Sj
  .exact hb.2 b Sj
  rcases a3E.1 Sj with Sj|Sj
  .exact hb.2 b Sj
  rw[a2m.1 Sj];show List.length _<=12;rw[hb.1];exact h.KY r.toNat aS
theorem yg{d}(h:Jg d)(he:d.aO.length+1<=ah)(hs:d.aj.length<=ah)(ho:d.aB.length<=ah)(h0:(bH d).2=0):(bH d).1=zG d/\ClP (zG d):=by
 rw[L6 h (by omega)]at h0 ⊢;have h0:aW d=0:=h0;have hc:=jy ho (show d.aO.length<=ah by omega) (by simp[h0]);have hf:(aY d.aj d.aB != 0)=false:=by
  cases e:aY d.aj d.aB != 0
  .rfl
  unfold aW at h0;rw[a15 e]at h0;simp[h0]at e
 refine⟨by rw[a0S (by rw[hf];simp)],rfl,rfl,hc.1,he,hc.2,fun i hi=>?_,hs,ho⟩;have h1:=hc.1.ksz i hi;have h2:=hc.1.var i hi;have h3:=(BO hf).sz _ (bV (s:=d.aj) (k:=(fK d i).var.toNat) (by have:=h2.2;have:=h2.1;omega));have h1:((fK d i).aA.length:Int)=d.aj.getD (fK d i).var.toNat 0:=h1;show 1<=(fK d i).aA.length;omega
def tK(d:Dg):Lo×Int:=if(bH d).2==0 then(if(!(Jk (eY (bH d).1.d) d))=true then((bH d).1,4)else bH d)else bH d
theorem a0Q{d}(h:CV d)(hn:d.au.length<=6000):(eY d).aO.length<=d.aO.length/\(eY d).au.length<=6000/\∀b∈(eY d).au,b.aA.length<=12:=by have hc:=QD h 6002 d.root ZA Wp h.root;refine⟨hc.amj,?_,a3b h 6002 d.root ZA (by simp) h.root⟩;have h1:=hc.KY;have h2:=hc.n2;show(bY d 6002 d.root ZA).2.n.length<=6000;omega
theorem a4W{d}(h:Jg d)(hs:d.aj.length<=ah)(ho:d.aB.length<=2^20)(he:d.aO.length+1<=ah)(h0:((bH d).2==0)=true):ClP (bH d).1/\(eY (bH d).1.d).aj.length<=ah/\(eY (bH d).1.d).aB.length<=ah/\(eY (bH d).1.d).aO.length<=ah/\(eY (bH d).1.d).au.length<=ah/\∀k,k<(eY (bH d).1.d).au.length->((eY (bH d).1.d).au.getD k kP).aA.length<=ah:=by
 have ho:d.aB.length<=ah:=by unfold ah;omega
 obtain⟨h1,h2⟩:=yg h he hs ho (by simpa using h0);rw[h1];obtain⟨a,b,c⟩:=a0Q h2.t h2.n;refine⟨h2,hs,ho,?_,?_,fun k hk=>?_⟩
 .have a:(eY d).aO.length<=d.aO.length:=a;show(eY d).aO.length<=ah;omega
 .have b:(eY d).au.length<=6000:=b;show(eY d).au.length<=ah;unfold ah;omega
 exact Yw (c _ (YI hk))
def Jm:gU aH:=bU 172 (a1 dA) (dU (a2 loA iA)) (fun p=>tK p) (fun p=>[Jg p,p.aj.length<=ah,p.aB.length<=2^20,p.aO.length+1<=ah]) aeE
theorem ams:Gd Jm:=amr.add fun n hO p hp=>aN hO (.o (hp _ vX) (.o (hp _ hh2) (.o (by have h9:p.aO.length+1<=ah:=hp _ (.tail _ (.tail _ (.tail _ (.head _))));show p.aO.length<=ah;omega) (.sh (fun h=>have q:=a4W (hp _ gQ) (hp _ vX) (hp _ hh2) (hp _ (.tail _ (.tail _ (.tail _ (.head _))))) h;.o q.1 (.o q.2.1 (.o q.2.2.1 (.o q.2.2.2.1 (.o q.2.2.2.2.1 (.o q.2.2.2.2.2 (.ss .rr .rr))))))) fun _=>.rr))))
theorem Ew{d}(h:Jg d)(hs:d.aj.length<=ah)(ho:d.aB.length<=ah)(he:d.aO.length+1<=ah):tK d=(if(aY d.aj d.aB != 0)=true then lo0 else zG d,gZ d):=by
 have h9:=L6 h (show d.aO.length<=ah by omega);unfold tK gZ;by_cases h0:(bH d).2=0
 .obtain⟨h1,h2⟩:=yg h he hs ho h0;have h3:=Us h2.t h (show d.aO.length<=2^61 by unfold ah at he;omega) h2.n;have h4:aW d=0:=by rw[h9]at h0;exact h0
  rw[a15 (show((bH d).2==0)=true by simpa using h0),h1,h4,a0S (show ¬(((0:Int) != 0)=true) by simp)];rw[h9]at h1;show(if(!(Jk (eY d) d))=true then(zG d,4)else bH d)=_;have h1:(if(aY d.aj d.aB != 0)=true then lo0 else zG d)=zG d:=h1;rw[h9,h1];by_cases h5:eY d=d
  .rw[a0S (show ¬((!(Jk (eY d) d))=true) by rw[a2U.2 h5];simp),a0S (show ¬((!(qG d))=true) by rw[h3.1 h5];simp),h4]
  have h6:Jk (eY d) d=false:=by
   cases e:Jk (eY d) d
   .rfl
   exact absurd (a2U.1 e) h5
  have h7:qG d=false:=by
   cases e:qG d
   .rfl
   exact absurd (h3.2 e) h5
  rw[a15 (show(!(Jk (eY d) d))=true by rw[h6];rfl),a15 (show(!(qG d))=true by rw[h7];rfl)]
 have h4:¬aW d=0:=by rw[h9]at h0;exact h0
 rw[a0S (show ¬(((bH d).2==0)=true) by simpa using h0),h9,a15 (show(aW d != 0)=true by simpa using h4)]
open Go Tw Pv bQ
def cellsD(d:Dg):List V:=(List.range (uK d.aj)).map fun(k:Nat)=>vT d (iV d.aj k)
open Go Tw Pv bQ
def Ey(N:List Br)(c:Int)(ks:LI0):Int:=if(ks.all fun x=>x==ks.getD 0 0)=true then ks.getD 0 0 else(N.idxOf (⟨c,ks⟩:Br):Nat)
def qg(N:List Br)(c:Int)(ks:LI0):List Br:=if(ks.all fun x=>x==ks.getD 0 0)=true then N else if(⟨c,ks⟩:Br)∈N then N else N++[⟨c,ks⟩]
abbrev EN:Type:=List V×List Br
def wQ(f:LI0->EN->Int×EN)(c:Int)(p:LI0)(j:Nat)(y:LI0×EN):LI0×EN:=(y.1++[(f (p.set c.toNat j) y.2).1],(f (p.set c.toNat j) y.2).2)
def gy(s:LI0)(l:List V):LI0->LI0->EN->Int×EN
 | [],p,x=>(i64.wrap (-1-(x.1.idxOf (l.getD (eH s p).toNat V0):Nat)),(fJ x.1 (l.getD (eH s p).toNat V0),x.2))
 |c::r,p,x=>
  let y:=aQ (wQ (gy s l r) c p) (s.getD c.toNat 0).toNat 0 ([],x)
  (Ey y.2.2 c y.1,(y.2.1,qg y.2.2 c y.1))
def wO(s:LI0):LI0->Nat
 | []=>1
 |c::r=>(s.getD c.toNat 0).toNat*wO s r
theorem QJ{s}(hs:mO s):∀{o},(∀c∈o,fZ c s.length)->1<=wO s o
 | [],_=>a1j _
 |c::r,h=>by have h1:=QJ hs (o:=r) fun c hc=>h c (by simp[hc]);obtain⟨h2,h3⟩:=h c (by simp);have h4:=hs _ (bV (s:=s) (k:=c.toNat) (by omega));have h5:1*1<=(s.getD c.toNat 0).toNat*wO s r:=aiw (by omega) h1;simpa[wO]using h5
theorem a0R(E v):(fJ E v).length<=E.length+1:=by unfold fJ;split<;>simp
theorem a8H(N c ks):(qg N c ks).length<=N.length+1:=by
 unfold qg;split
 .omega
 split<;>simp
theorem a3c{f c p n w}(h:∀q x,(f q x).2.1.length<=x.1.length+w/\(f q x).2.2.length+1<=x.2.length+w)(x):(aQ (wQ f c p) n 0 ([],x)).1.length=n/\(aQ (wQ f c p) n 0 ([],x)).2.1.length<=x.1.length+n*w/\(aQ (wQ f c p) n 0 ([],x)).2.2.length+n<=x.2.length+n*w:=by
 have:=bP (g:=wQ f c p) (m:=n) (k:=0) (s:=([],x)) (fun k y=>y.1.length=k/\y.2.1.length<=x.1.length+k*w/\y.2.2.length+k<=x.2.length+k*w) ⟨rfl,by simp,by simp⟩ (fun j y _ _ hy=>by
  obtain⟨h1,h2,h3⟩:=hy;have:=h (p.set c.toNat j) y.2;refine⟨by simp[wQ,h1],?_,?_⟩
  .simp only[wQ,a3H,aaw];omega
  simp only[wQ,a3H,aaw];omega)
 rw[a3C]at this;exact this
theorem Wq{s l}(hs:mO s):∀(o p) (x),(∀c∈o,fZ c s.length)->(gy s l o p x).2.1.length<=x.1.length+wO s o/\(gy s l o p x).2.2.length+1<=x.2.length+wO s o
 | [],p,x,_=>by have:=a0R x.1 (l.getD (eH s p).toNat V0);exact⟨this,by simp[gy,wO]⟩
 |c::r,p,x,h=>by
  obtain⟨h1,h2,h3⟩:=a3c (f:=gy s l r) (c:=c) (p:=p) (n:=(s.getD c.toNat 0).toNat) (w:=wO s r) (fun q x=>Wq hs r q x fun c hc=>h c (by simp[hc])) x;obtain⟨i1,i2⟩:=h c (by simp);have h4:=hs _ (bV (s:=s) (k:=c.toNat) (by omega));simp only[gy,wO];generalize aQ (wQ (gy s l r) c p) (s.getD c.toNat 0).toNat 0 ([],x)=y at h1 h2 h3;refine⟨h2,?_⟩;by_cases hn:(s.getD c.toNat 0).toNat=1
  .have e:qg y.2.2 c y.1=y.2.2:=by
    unfold qg;rw[a15];rw[hn]at h1
    match hy:y.1,h1 with
    | [a],_=>simp
   rw[e];omega
  have:=a8H y.2.2 c y.1;omega
abbrev dP(s o:LI0)(i j:Nat):PV aH:=.agg [lI s,lI o,.own i,.own j,.int .i64 0]
abbrev d0P:List (PV aH):=[.nil .aP,.nil .aP,.nil .aP,.nil .aP,.int .i64 0]
abbrev w1P(s o:LI0)(v:V)(i:Int)(x:List (Nat×PE aH))(H:List (PB aH)):bJ aH:=⟨[(4,.loc 0 0),(8,.loc 1 0),(10,.loc 2 0),(11,xi i)]++x,[[lI s,lI o,.own 0,.own 1,.int .i64 0],d0P,v.ps],H⟩
def z1P(s o:LI0)(E:List V)(v:V)(H:List (PB aH)):Unit⊕Nat->Ex×bJ aH
 |.inl _=>(.exit 0,w1P s o v E.length [(33,xl false)] H)
 |.inr k=>(.ret,⟨[(8,.loc 1 0),(9,xi (i64.wrap (-1-(k:Int))))],[[lI s,lI o,.own 0,.own 1,.int .i64 0],[lI s,lI o,.own 0,.own 1,.int .i64 0],v.ps],H⟩)
abbrev c1P(E:List V)(v:V)(k:Nat):Bool:=decide (E.getD k V0=v)
theorem l1P{n}(hO:Ok n Jm)(s o){E}(N v pl ko ex)(hl:E.length<=ah):JH n 135 0 3 (w1P s o v 0 [] [Ap E,Aq N,oI ko ex pl]) (z1P s o E v [Ap E,Aq N,oI ko ex pl] (aZ (c1P E v) E.length)).1 (z1P s o E v [Ap E,Aq N,oI ko ex pl] (aZ (c1P E v) E.length)).2:=
 iI (st:=fun i _=>w1P s o v i [] [Ap E,Aq N,oI ko ex pl]) (fun _ _=>True) (by kernel_rfl) hl trivial (fun k u m hk _ ih=>aI hO (.b (aV hk) (.o (aF hk) (.q (.bool (c1P E v k)) (eqV (.tmp 40) (.tmp 41) (E.getD k V0) v) (.ls (.ou nofun) (.nx (ih _ trivial)))))))
  (fun _ _=>aI hO (.b (dZ E.length) (.ou nofun)))
theorem QK{α:Type}[DecidableEq α]{l:List α}{d a c}(hc:∀k,k<l.length->c k=decide (l.getD k d=a)):(a∈l->aZ c l.length=.inr (l.idxOf a))/\(a∉l->jO (aZ c l.length)=true):=by
 constructor
 .intro h;have hi:=a5H.2 h;have h1:c (l.idxOf a)=true:=by rw[hc _ hi,a1z,List.getD,a0A hi,a5K,a9B]
  cases e:jO (aZ c l.length)
  .obtain⟨j,hj,cj,hb,e2⟩:=wM e;rw[e2];congr 1;rcases Nat.lt_trichotomy j (l.idxOf a)with g|g|g
   .exfalso;rw[hc j hj,a1z,List.getD,a0A hj,a5K]at cj;have:=List.not_of_lt_findIdx (p:=(·==a)) g;rw[cj]at this;simp at this
   .exact g
   rw[hb _ g]at h1;cases h1
  rw[cO.1 e _ hi]at h1;cases h1
 intro h;refine cO.2 fun j hj=>?_;rw[hc j hj,a3k,List.getD,a0A hj,a5K];rintro rfl;exact h (a5B hj)
abbrev w2P(s o:LI0)(l:List V)(a c:Int)(k:Nat)(x:Int)(y:List (Nat×PE aH))(H:List (PB aH)):bJ aH:=⟨[(1,xL 39 l),(2,xi a),(3,.val (.own 2)),(4,.loc 0 0),(8,.loc 1 0),(12,.loc 2 0),(13,xi x)]++y,[[lI s,lI o,.own 3,.own 4,.int .i64 0],d0P,[.int .i64 c,.own k]],H⟩
abbrev HP(pl:LI0)(ko ex:Bool)(x:EN):List (PB aH):=[.gone,.gone,oI ko ex pl,Ap x.1,Aq x.2]
theorem l2P{M}(hO:Ok M Jm){s o l a c pl ko ex f w}(hs:mO s)(hc:fZ c s.length)(hp:iF s pl=true)(hpm:pl.length<=ah)(x)(hl:∀q x,(f q x).2.1.length<=x.1.length+w/\(f q x).2.2.length+1<=x.2.length+w)(hx:x.1.length+(s.getD c.toNat 0).toNat*w<=ah/\x.2.length+(s.getD c.toNat 0).toNat*w<=ah) (Q:EN->Prop) (hQ:Q x) (hQf:∀q y,Q y->Q (f q y).2)(hf:∀q y,iF s q=true->y.1.length+w<=ah->y.2.length+w<=ah->Q y->cZ X0 Qp (iD M) (.fn 135 [] []) [dP s o 0 1,lV l,.int .i64 (i64.wrap (a+1)),.own 2] [Ap y.1,Aq y.2,oI true false q] (.dB [dP s o 3 4,.int .i64 (f q y).1]) (HP q true false (f q y).2)) :JH M 135 1 3 (w2P s o l a c 5 0 [] (HP pl ko ex x++[oI false false []])) (.exit 2) (w2P s o l a c 5 (((s.getD c.toNat 0).toNat:Nat):Int) [(70,xl false)] (HP pl ko ex (aQ (wQ f c pl) (s.getD c.toNat 0).toNat 0 ([],x)).2++[oI false false (aQ (wQ f c pl) (s.getD c.toNat 0).toNat 0 ([],x)).1])):=by
 obtain⟨c1,c2⟩:=hc;have hz:=hs _ (bV (s:=s) (k:=c.toNat) (by omega));have en:(((s.getD c.toNat 0).toNat:Nat):Int)=s.getD c.toNat 0:=by omega
 have zq:=lG hp;have og:fZ c s.length:=⟨c1,c2⟩;have hip:fZ c pl.length:=by rw[zq];exact og
 have hw:∀k,k<(s.getD c.toNat 0).toNat->k*w+w<=(s.getD c.toNat 0).toNat*w:=fun k hk=>by have:(k+1)*w<=(s.getD c.toNat 0).toNat*w:=a3I w hk;rw[a3H]at this;omega
 refine qY (σ:=LI0×EN) (N:=(s.getD c.toNat 0).toNat) (g:=wQ f c pl) (s0:=([],x)) (st:=fun k y=>w2P s o l a c 5 k [] (HP pl ko ex y.2++[oI false false y.1])) (fin:=fun y=>w2P s o l a c 5 (((s.getD c.toNat 0).toNat:Nat):Int) [(70,xl false)] (HP pl ko ex y.2++[oI false false y.1])) (fun k y=>(y.1.length=k/\y.2.1.length<=x.1.length+k*w/\y.2.2.length<=x.2.length+k*w)/\Q y.2) (by kernel_rfl) (by unfold ah;omega) ⟨⟨rfl,by simp,by simp⟩,hQ⟩ (fun j y hj hy=>?_) (fun j y hj hy m e p g=>?_) (fun y _=>?_)
 .obtain⟨⟨h1,h2,h3⟩,hq⟩:=hy;have:=hl (pl.set c.toNat j) y.2;refine⟨⟨by simp[wQ,h1],?_,?_⟩,hQf _ _ hq⟩
  .simp only[wQ,a3H,aaw];omega
  .simp only[wQ,a3H,aaw];omega
 .obtain⟨⟨h1,h2,h3⟩,hqy⟩:=hy;have Xr:=hw j hj;have hq:iF s (pl.set c.toNat j)=true:=Qx hp og (by rw[<-en]at hz ⊢;exact⟨by omega,by omega⟩);have abj:=hf (pl.set c.toNat j) y.2 hq (by omega) (by omega) hqy;have t1:decide ((j:Int)<s.getD c.toNat 0)=true:=by rw[a1z];omega
  unfold wQ at g;generalize f (pl.set c.toNat j) y.2=z at abj g;obtain⟨v,E',N'⟩:=z;exact aI hO (.o og (.b t1 (.o hpm (.o hip (.fr [3,4,6] abj (.o (show y.1.length+[v].length<=ah by simp only[a3J];unfold ah;omega) (.Zx [.gc [7,8,10]] g)))))))
 .have t1:decide ((((s.getD c.toNat 0).toNat:Nat):Int)<s.getD c.toNat 0)=false:=by rw[a3k];omega
  exact aI hO (.o og (.b t1 .ex))
abbrev w3P(s o:LI0)(c:Int)(x:Int)(y:List (Nat×PE aH))(H:List (PB aH)):bJ aH:=⟨[(4,.loc 0 0),(8,.loc 1 0),(12,.loc 2 0),(16,xi x)]++y,[[lI s,lI o,.own 3,.own 4,.int .i64 0],d0P,[.int .i64 c,.own 5]],H⟩
def z3P(s o:LI0)(c:Int)(N:List Br)(H:List (PB aH)):Unit⊕Nat->Ex×bJ aH
 |.inl _=>(.exit 4,w3P s o c N.length [(106,xl false)] H)
 |.inr k=>(.ret,⟨[(8,.loc 1 0),(9,xi (k:Int))],[[lI s,lI o,.own 3,.own 4,.int .i64 0],[lI s,lI o,.own 3,.own 4,.int .i64 0],[.int .i64 c,.own 5]],H⟩)
abbrev c3P(N:List Br)(c:Int)(ks:LI0)(k:Nat):Bool:=if((N.getD k kP).var==c)=true then decide ((N.getD k kP).aA=ks)else false
theorem ahh{N c ks k}(_:k<N.length):c3P N c ks k=decide (N.getD k kP=⟨c,ks⟩):=by
 unfold c3P;rcases N.getD k kP with⟨v,l⟩;by_cases h1:v=c
 .by_cases h2:l=ks<;>simp[h1,h2]
 simp[h1]
theorem l3P{n}(hO:Ok n Jm)(s o E){N}(c ks pl ko ex)(hl:N.length<=ah)(hk:∀b∈N,b.aA.length<=ah):JH n 135 2 3 (w3P s o c 0 [] (HP pl ko ex (E,N)++[oI false false ks])) (z3P s o c N (HP pl ko ex (E,N)++[oI false false ks]) (aZ (c3P N c ks) N.length)).1 (z3P s o c N (HP pl ko ex (E,N)++[oI false false ks]) (aZ (c3P N c ks) N.length)).2:=by
 refine iI (st:=fun i _=>w3P s o c i [] (HP pl ko ex (E,N)++[oI false false ks])) (g:=gS (c3P N c ks)) (out:=z3P s o c N (HP pl ko ex (E,N)++[oI false false ks])) (fun _ _=>True) (by kernel_rfl) hl trivial (fun k u m kN _ ih=>?_) (fun _ _=>?_)
 .have h1:=(J7 (d:=kP) (p:=fun b=>b.aA.length<=ah)).2 hk k kN;unfold gS c3P;cases e:(N.getD k kP).var==c
  .exact aI hO (.b (aV kN) (.o (aF kN) (.b e (.nx (ih _ trivial)))))
  exact aI hO (.b (aV kN) (.o (aF kN) (.b e (.o (aF kN) (.o h1 (.ls (.ou nofun) (.nx (ih _ trivial))))))))
 exact aI hO (.b (dZ N.length) (.ou nofun))
structure PtP(s o:LI0)(l:List V):Prop where
 bG:qy s
 ord:∀c∈o,fZ c s.length
 len:(l.length:Int)=bC s
 a8I:o.length<=ah
 slen:s.length<=ah
theorem a8J(c ks):xZ ⟨c,ks⟩=ks.all fun x=>x==ks.getD 0 0:=QG ⟨c,ks⟩
theorem arT{n}(hO:Ok n Jm){s o l}(h:PtP s o l)(pl ko ex)(hp:iF s pl=true)(x:EN)(hx:x.1.length+1<=ah):jd (n+1) (.fn 135 [] []) [dP s o 0 1,lV l,.int .i64 o.length,.own 2] [Ap x.1,Aq x.2,oI ko ex pl] (.dB [dP s o 3 4,.int .i64 (i64.wrap (-1-(x.1.idxOf (l.getD (eH s pl).toNat V0):Nat)))]) (HP pl ko ex (fJ x.1 (l.getD (eH s pl).toNat V0),x.2)):=by
 obtain⟨E,N⟩:=x;have hr:=xR hp h.bG.sz;have DF:fZ (eH s pl) l.length:=⟨hr.1,by rw[h.len];exact hr.2⟩;have t0:((o.length:Int)==(o.length:Int))=true:=by simp
 have hE:E.length+1<=ah:=hx;have l1:=l1P hO s o (E:=E) N (l.getD (eH s pl).toNat V0) pl ko ex (by omega);have hs:=QK (l:=E) (d:=V0) (a:=l.getD (eH s pl).toNat V0) (c:=c1P E (l.getD (eH s pl).toNat V0)) (fun _ _=>rfl);have hf:=h.bG;show cZ X0 Qp _ _ _ _ (.dB [_,.int .i64 (i64.wrap (-1-(E.idxOf (l.getD (eH s pl).toNat V0):Nat)))]) (HP pl ko ex (fJ E (l.getD (eH s pl).toNat V0),N));by_cases c:l.getD (eH s pl).toNat V0∈E
 .rw[show fJ E (l.getD (eH s pl).toNat V0)=E from a15 c];rw[hs.1 c]at l1;generalize E.idxOf (l.getD (eH s pl).toNat V0)=j at l1 ⊢;exact cZ.gs hX (kH hX hO (first:=[]) (cap:=[]) (v:=.dB [dP s o 0 1,.int .i64 (i64.wrap (-1-(j:Nat)))]) (H1:=[Ap E,Aq N,oI ko ex pl]) (by kernel_rfl) (.b t0 (.o hp (.o hf (.o DF (.w l1 .er)))))) [.mv 0,.mv 1] rfl
 rw[show fJ E (l.getD (eH s pl).toNat V0)=E++[l.getD (eH s pl).toNat V0]from a0S c,a7k c];have hi:=hs.2 c;have hz:z1P s o E (l.getD (eH s pl).toNat V0) [Ap E,Aq N,oI ko ex pl] (aZ (c1P E (l.getD (eH s pl).toNat V0)) E.length)=(.exit 0,w1P s o (l.getD (eH s pl).toNat V0) E.length [(33,xl false)] [Ap E,Aq N,oI ko ex pl]):=by
  cases e:aZ (c1P E (l.getD (eH s pl).toNat V0)) E.length with
  |inl _=>rfl
  |inr _=>rw[e]at hi;cases hi
 rw[hz]at l1;have ew:i64.wrap (-1-(E.length:Nat))=i64.wrap (0-((E++[l.getD (eH s pl).toNat V0]).length:Int)):=by rw[a1v,a3J];congr 1;push_cast;omega
 rw[ew];exact cZ.gs hX (kH hX hO (first:=[]) (cap:=[]) (v:=.dB [dP s o 4 1,.int .i64 (i64.wrap (0-((E++[l.getD (eH s pl).toNat V0]).length:Int)))]) (H1:=[.gone,Aq N,oI ko ex pl,.list true true 39 [l.getD (eH s pl).toNat V0],Ap (E++[l.getD (eH s pl).toNat V0])]) (by kernel_rfl) (.b t0 (.o hp (.o hf (.o DF (.w l1 (.o (show E.length+[l.getD (eH s pl).toNat V0].length<=ah by simpa using hE) .er))))))) [.mv 1,.gc [4,5]] rfl
theorem arU{n}(hO:Ok n Jm){s o:LI0}{l a c}(ha:a<o.length)(hc:o.getD a 0=c)(pl ko ex E0 N0 q){ks E N}(hk:1<=ks.length/\ks.length<=12)(hN:N.length+1<=ah)(hb:∀b∈N,b.aA.length<=ah)(l2:JH n 135 1 3 (w2P s o l a c 5 0 [] (HP pl ko ex (E0,N0)++[oI false false []])) (.exit 2) (w2P s o l a c 5 q [(70,xl false)] (HP pl ko ex (E,N)++[oI false false ks]))):jd (n+1) (.fn 135 [] []) [dP s o 0 1,lV l,.int .i64 a,.own 2] [Ap E0,Aq N0,oI ko ex pl] (.dB [dP s o 3 4,.int .i64 (Ey N c ks)]) (HP pl ko ex (E,qg N c ks)):=by
 have t0:((a:Int)==(o.length:Int))=false:=by simp;omega
 have ia:fZ (a:Int) o.length:=aF ha;have hkm:ks.length<=ah:=by unfold ah;omega
 have i0:fZ 0 ks.length:=⟨by omega,by omega⟩;unfold Ey qg;subst hc;cases hf:ks.all fun x=>x==ks.getD 0 0
 .rw[a0S (by simp),a0S (by simp)];have Y9:xZ ⟨o.getD a 0,ks⟩=false:=by rw[a8J];exact hf
  have l3:=l3P hO s o E (o.getD a 0) ks pl ko ex (by omega) hb;have hs:=QK (l:=N) (d:=kP) (a:=⟨o.getD a 0,ks⟩) (c:=c3P N (o.getD a 0) ks) (fun _ h=>ahh h);by_cases hm:(⟨o.getD a 0,ks⟩:Br)∈N
  .rw[a15 hm];rw[hs.1 hm]at l3;generalize N.idxOf (⟨o.getD a 0,ks⟩:Br)=j at l3 ⊢;exact cZ.gs hX (kH hX hO (first:=[]) (cap:=[]) (v:=.dB [dP s o 3 4,.int .i64 (j:Nat)]) (H1:=HP pl ko ex (E,N)++[oI false false ks]) (by kernel_rfl) (.b t0 (.o ia (.wG [.mv 0,.mv 1,.PD 2 1 3] l2 (.o hkm (.b Y9 (.w l3 .er))))))) [.gc [3,4]] rfl
  .rw[a0S hm,a7k hm];have hi:=hs.2 hm;have hz:z3P s o (o.getD a 0) N (HP pl ko ex (E,N)++[oI false false ks]) (aZ (c3P N (o.getD a 0) ks) N.length)=(.exit 4,w3P s o (o.getD a 0) N.length [(106,xl false)] (HP pl ko ex (E,N)++[oI false false ks])):=by
    cases e:aZ (c3P N (o.getD a 0) ks) N.length with
    |inl _=>rfl
    |inr _=>rw[e]at hi;cases hi
   rw[hz]at l3;have ew:((N.length:Nat):Int)=i64.wrap (((N++[(⟨o.getD a 0,ks⟩:Br)]).length:Int)-1):=by rw[a1v,a3J,eU (by unfold ah at hN;omega) (by unfold ah at hN;omega)];omega
   rw[ew];exact cZ.gs hX (kH hX hO (first:=[]) (cap:=[]) (v:=.dB [dP s o 3 7,.int .i64 (i64.wrap (((N++[(⟨o.getD a 0,ks⟩:Br)]).length:Int)-1))]) (H1:=[.gone,.gone,oI ko ex pl,Ap E,.gone,.gone,.list true true 105 [⟨o.getD a 0,ks⟩],Aq (N++[(⟨o.getD a 0,ks⟩:Br)])]) (by kernel_rfl) (.b t0 (.o ia (.wG [.mv 0,.mv 1,.PD 2 1 3] l2 (.o hkm (.b Y9 (.w l3 (.o (show N.length+[(⟨o.getD a 0,ks⟩:Br)].length<=ah by simpa using hN) .er)))))))) [.gc [3,7]] rfl
 .rw[a15 rfl,a15 rfl];have Y9:xZ ⟨o.getD a 0,ks⟩=true:=by rw[a8J];exact hf
  exact cZ.gs hX (kH hX hO (first:=[]) (cap:=[]) (v:=.dB [dP s o 3 4,.int .i64 (ks.getD 0 0)]) (H1:=HP pl ko ex (E,N)++[oI false false ks]) (by kernel_rfl) (.b t0 (.o ia (.wG [.mv 0,.mv 1,.PD 2 1 3] l2 (.o hkm (.b Y9 (.o i0 .er))))))) [.gc [3,4]] rfl
theorem Ws{s l}(hs:mO s):∀(o p) (x),(∀c∈o,fZ c s.length)->(∀b∈x.2,b.aA.length<=12)->∀b∈(gy s l o p x).2.2,b.aA.length<=12
 | [],p,x,_,hx=>hx
 |c::r,p,x,h,hx=>by
  have:=bP (g:=wQ (gy s l r) c p) (m:=(s.getD c.toNat 0).toNat) (k:=0) (s:=([],x)) (fun k y=>y.1.length=k/\∀b∈y.2.2,b.aA.length<=12) ⟨rfl,hx⟩ (fun j y _ _ hy=>⟨by simp[wQ,hy.1],Ws hs r _ y.2 (fun c hc=>h c (by simp[hc])) hy.2⟩);rw[a3C]at this;obtain⟨i1,i2⟩:=h c (by simp);have h4:=hs _ (bV (s:=s) (k:=c.toNat) (by omega));simp only[gy];generalize aQ (wQ (gy s l r) c p) (s.getD c.toNat 0).toNat 0 ([],x)=y at this;intro b hb;unfold qg at hb;split at hb
  .exact this.2 b hb
  split at hb
  .exact this.2 b hb
  rcases a3E.1 hb with hb|hb
  .exact this.2 b hb
  rw[a2m.1 hb];show y.1.length<=12;omega
theorem sPt{n0}(hO:∀m,n0<=m->Ok m Jm){s o l}(h:PtP s o l):∀(r) (a) (pl) (ko ex) (x),o.drop a=r->a<=o.length->iF s pl=true->x.1.length+wO s r<=ah->x.2.length+wO s r<=ah->(∀b∈x.2,b.aA.length<=12)->cZ X0 Qp (iD (n0+r.length+1)) (.fn 135 [] []) [dP s o 0 1,lV l,.int .i64 a,.own 2] [Ap x.1,Aq x.2,oI ko ex pl] (.dB [dP s o 3 4,.int .i64 (gy s l r pl x).1]) (HP pl ko ex (gy s l r pl x).2)
 | [],a,pl,ko,ex,x,hr,ha,hp,h1,h2,_=>by
  have:a=o.length:=by have:=congrArg List.length hr;rw[a3Q,a5L]at this;omega
  subst this;exact arT (hO _ (by omega)) h pl ko ex hp x h1
 |c::r,a,pl,ko,ex,x,hr,ha,hp,h1,h2,hb=>by
  have aS:a<o.length:=by have:=congrArg List.length hr;rw[a3Q,a4p]at this;omega
  have hd:=a6j aS;rw[hr]at hd;obtain⟨hc,wF⟩:=aiB hd;have DY:c∈o:=by rw[hc];exact a5B aS
  have og:=h.ord c DY;have ZB:∀c'∈r,fZ c' s.length:=fun c' RG=>h.ord c' (by rw[wF]at RG;exact a5N RG);have hcg:o.getD a 0=c:=by rw[hc];simp[List.getD,a0A aS]
  have ho6:i64.wrap ((a:Int)+1)=((a+1:Nat):Int):=by have:=h.a8I;unfold ah at this;rw[eU (by omega) (by omega)];omega
  have hz:=h.bG.sz _ (bV (s:=s) (k:=c.toNat) (by have:=og.1;have:=og.2;omega));have hl:=fun q (x:EN)=>Wq (l:=l) h.bG.sz r q x ZB;have hp1:=QJ h.bG.sz ZB;simp only[wO]at h1 h2;have hpm:pl.length<=ah:=by rw[lG hp];exact h.slen
  obtain⟨f1,f2,f3⟩:=a3c (f:=gy s l r) (c:=c) (p:=pl) (n:=(s.getD c.toNat 0).toNat) hl x;have aeF:=bP (g:=wQ (gy s l r) c pl) (m:=(s.getD c.toNat 0).toNat) (k:=0) (s:=([],x)) (fun k y=>∀b∈y.2.2,b.aA.length<=12) hb (fun j y _ _ hy=>Ws h.bG.sz r _ y.2 ZB hy);have hfx:∀(M:Nat),n0+r.length+1=M->∀q (y:EN),iF s q=true->y.1.length+wO s r<=ah->y.2.length+wO s r<=ah->(∀b∈y.2,b.aA.length<=12)->cZ X0 Qp (iD M) (.fn 135 [] []) [dP s o 0 1,lV l,.int .i64 (i64.wrap ((a:Int)+1)),.own 2] [Ap y.1,Aq y.2,oI true false q] (.dB [dP s o 3 4,.int .i64 (gy s l r q y).1]) (HP q true false (gy s l r q y).2):=by rintro M rfl q y hq y1 y2 y3;rw[ho6];exact sPt hO h r (a+1) q true false y wF.symm aS hq y1 y2 y3
  have l2:=l2P (hO (n0+(r.length+1)) (by omega)) (s:=s) (o:=o) (l:=l) (a:=a) (c:=c) (pl:=pl) (ko:=ko) (ex:=ex) (f:=gy s l r) (w:=wO s r) h.bG.sz og hp hpm x hl ⟨h1,h2⟩ (fun y=>∀b∈y.2,b.aA.length<=12) hb (fun q y hy=>Ws h.bG.sz r q y ZB hy) (hfx _ (by omega));simp only[gy];generalize aQ (wQ (gy s l r) c pl) (s.getD c.toNat 0).toNat 0 ([],x)=y at l2 f1 f2 f3 aeF;obtain⟨ks,E,N⟩:=y;have f1:ks.length=(s.getD c.toNat 0).toNat:=f1;have f3:N.length+(s.getD c.toNat 0).toNat<=x.2.length+(s.getD c.toNat 0).toNat*wO s r:=f3;exact arU (hO (n0+(r.length+1)) (by omega)) aS hcg pl ko ex x.1 x.2 _ ⟨by omega,by omega⟩ (by omega) (fun b hb=>by have:=aeF b hb;unfold ah;omega) l2
open Go Tw Pv bQ
def je(s o:LI0)(l:List V):Dg:=⟨s,o,(gy s l o (List.replicate s.length 0) ([],[])).2.1,(gy s l o (List.replicate s.length 0) ([],[])).2.2,(gy s l o (List.replicate s.length 0) ([],[])).1⟩
theorem Jo:∀{s},mO s->iF s (List.replicate s.length 0)=true
 | [],_=>rfl
 |a::s,h=>by have:=h a (a3G ..);simp only[a4p,af2,iF,a2o,a1z];exact⟨⟨aa0 _,by omega⟩,Jo h.tail⟩
theorem arV{n0}(hO:∀m,n0<=m->Ok m Jm){s o l}(h:PtP s o l)(hw:wO s o<=ah){k1 e1 k2 e2}:cZ X0 Qp (iD (n0+o.length+1)) (.fn 135 [] []) [.agg [.own 0,.own 1,.nil .aP,.nil .aP,.int .i64 0],lV l,.int .i64 0,.own 2] [oI k1 e1 s,oI k2 e2 o,oI true true (List.replicate s.length 0)] (.dB [dP s o 5 6,.int .i64 (gy s l o (List.replicate s.length 0) ([],[])).1]) [.gone,.gone,oI true true (List.replicate s.length 0),.gone,.gone,Ap (je s o l).aO,Aq (je s o l).au]:=by have hb:=sPt hO h o 0 (List.replicate s.length 0) true true ([],[]) rfl (a5D _) (Jo h.bG.sz) (by simpa using hw) (by simpa using hw) (by simp);unfold je;generalize gy s l o (List.replicate s.length 0) ([],[])=z at hb ⊢;obtain⟨q,E,N⟩:=z;have h1:=cZ.frame hX (ks:=[3,4,2]) (H':=[.gone,.gone,oI true true (List.replicate s.length 0),Ap [],Aq []]) (Hp:=[Ap [],Aq [],oI true true (List.replicate s.length 0)]) (Rt:=[.gone,.gone,oI true true (List.replicate s.length 0),Ap E,Aq N]) (v':=.dB [dP s o 5 6,.int .i64 q]) (fv':=.fn 135 [] []) (xs':=[.agg ([lI s,lI o]++[.own 3,.own 4,.int .i64 0]),lV l,.int .i64 0,.own 2]) hb (by decide) rfl rfl rfl rfl rfl rfl rfl;have h2:=cZ.pre hX (H:=[.gone,.gone,oI true true (List.replicate s.length 0)]) (cs:=[lI s,lI o]++[.nil .aP,.nil .aP,.int .i64 0]) [.PD 0 2 39,.PD 0 3 105] h1 rfl;exact cZ.fz hX (H:=[oI k1 e1 s,oI k2 e2 o,oI true true (List.replicate s.length 0)]) (cs:=[.own 0,.own 1]) [0,1] h2 rfl (fun i hi=>by simpa[lC.kU,lC]using hi)
def amu:gU aH:=bU 85 (a3 nY nY vsA) dA (fun p=>je p.1 p.2.1 p.2.2) (fun p=>[PtP p.1 p.2.1 p.2.2,p.2.1.length<=6,wO p.1 p.2.1<=ah]) Jm
theorem arW:Gd amu:=ams.deep 7 fun n hn hO p hp=>by
 obtain⟨s,o,l⟩:=p;have h:PtP s o l:=hp _ gQ;have h6:o.length<=6:=hp _ vX;have hw:wO s o<=ah:=hp _ hh2;have hs:=arV (n0:=n-(o.length+1)) (fun m hm=>hO m (by omega)) h hw (k1:=true) (e1:=false) (k2:=true) (e2:=false);rw[show n-(o.length+1)+o.length+1=n by omega]at hs;have hsl:=h.slen;have OM:=h.a8I;show nU _ _ _ _ _ (dA.put (je s o l)) _;have e:je s o l=⟨s,o,(je s o l).aO,(je s o l).au,(je s o l).root⟩:=rfl;have er:(gy s l o (List.replicate s.length 0) ([],[])).1=(je s o l).root:=rfl;rw[er]at hs;generalize je s o l=d at hs e;obtain⟨s',o',E,N,q⟩:=d;injection e with e1 e2;subst e1 e2;have i1:(s'.length:Int)=s'.length:=rfl;have i2:(0:Int)<=s'.length:=by omega
 have i3:(s'.length:Int)<=(ah:Int):=by omega
 exact aN (hO n (by omega)) (.o hsl (.o OM (.o i1 (.o i2 (.o i3 (.fr [0,1,2] hs .rr))))))
open Go Tw Pv bQ
theorem a8K{a b}(ha:a.length<=12)(he:a.length=b.length)(h:Jh a=Jh b):a=b:=by
 have e:∀l:LI0,l.length<=12->(Jh l).take l.length=l:=fun l hl=>by unfold Jh;rw[afk,a8b hl,List.take_left]
 rw[<-e a ha,<-e b (by omega),h,he]
def NOk(s:LI0)(N:List Br):Prop:=∀b∈N,fZ b.var s.length/\(b.aA.length:Int)=s.getD b.var.toNat 0
theorem a8L{s}(hs:mO s){N}(h:NOk s N){c ks}(hc:fZ c s.length)(hk:(ks.length:Int)=s.getD c.toNat 0){b}(hb:b∈N):Dj b=uQ c ks↔b=⟨c,ks⟩:=by
 constructor
 .intro e;obtain⟨v,l⟩:=b;have e1:v=c:=congrArg Prod.fst e;subst e1;have e2:Jh l=Jh ks:=congrArg (fun x:Ky=>x.2.1) e;have hl:=(h _ hb).2;have hl:(l.length:Int)=s.getD v.toNat 0:=hl;have hz:=hs _ (bV (s:=s) (k:=v.toNat) (by have:=hc.1;have:=hc.2;omega));rw[a8K (by omega) (by omega) e2]
 rintro rfl;rfl
theorem YP{s}(hs:mO s){N}(h:NOk s N){c ks}(hc:fZ c s.length)(hk:(ks.length:Int)=s.getD c.toNat 0):eX N c ks=Ey N c ks/\dI N c ks=qg N c ks:=by
 have hm:uQ c ks∈N.map Dj↔(⟨c,ks⟩:Br)∈N:=by
  rw[a1u];constructor
  .rintro⟨b,hb,e⟩;rw[(a8L hs h hc hk hb).1 e]at hb;exact hb
  intro hb;exact⟨_,hb,rfl⟩
 have hi:(N.map Dj).idxOf (uQ c ks)=N.idxOf (⟨c,ks⟩:Br):=by
  clear hm
  induction N with
  |nil=>rfl
  |cons b N ih=>
   have e:=a8L hs h hc hk (b:=b) (by simp);rw[a4N,aef,aef,ih fun b hb=>h b (by simp[hb])];have:(Dj b==uQ c ks)=(b==(⟨c,ks⟩:Br)):=by rw[a5G,a7l,a7l];exact e
   rw[this]
 unfold eX Ey dI qg;rw[hi];refine⟨rfl,?_⟩;split
 .rfl
 by_cases g:uQ c ks∈N.map Dj
 .rw[a15 g,a15 (hm.1 g)]
 rw[a0S g,a0S fun x=>g (hm.2 x)]
open Go Tw Pv bQ
theorem abY{s a b}(h:a.Perm b):wO s a=wO s b:=by
 induction h with
 |nil=>rfl
 |cons x _ ih=>simp only[wO,ih]
 |swap x y l=>simp only[wO];rw[<-Nat.mul_assoc,<-Nat.mul_assoc,Nat.mul_comm (s.getD y.toNat 0).toNat]
 |trans _ _ i1 i2=>rw[i1,i2]
theorem YQ{s}(hs:mO s):∀(m k),k+m=s.length->(wO s ((List.range' k m).map fun(j:Nat)=>(j:Int)):Int)=bC (s.drop k)
 | 0,k,h=>by rw[afP (by omega)];rfl
 |m+1,k,h=>by
  have hk:k<s.length:=by omega
  have hz:=hs _ (bV (s:=s) (k:=k) hk);rw[List.range'_succ,a4N,wO,Qb hk,af8,YQ hs m (k+1) (by omega),a5M,aic (by omega)]
theorem BP{s o}(hs:mO s)(h:jC s.length o=true):(wO s o:Int)=bC s:=by have h':=h;unfold jC at h';rw[a1z]at h';have hi:=Uh s.length;have wC:=hi;unfold jC at wC;rw[a1z]at wC;have hp:o.Perm (dR s.length):=(a7o h'.2.2 wC.2.2).2 fun a=>⟨fun ha=>mW hi (h'.2.1 a ha),fun ha=>mW h (wC.2.1 a ha)⟩;rw[abY hp];have:=YQ hs s.length 0 (by omega);rw[<-List.range_eq_range']at this;exact this
open Go Tw Pv bQ
inductive To(d:Dg)(q:LI0):Int->V->Prop
 |fin {r:Int} (h:r<0):To d q r (d.aO.getD (jo r).toNat V0)
 |step {r:Int} {c:V} (h:0<=r) (t:To d q ((ay d r).aA.getD (q.getD (ay d r).var.toNat 0).toNat 0) c):To d q r c
theorem To.at_{d}(h:CV d){q}(hq:iF d.aj q=true){r c}(t:To d q r c):∀F:Nat,r<F->jQ d r d.au.length->c=d.aO.getD (jo (VY d q F r)).toNat V0:=by
 induction t with
 |fin hr=>
  intro F _ _;cases F with
  |zero=>rfl
  |succ F=>rw[VY,a15 hr]
 |step hr _ ih=>
  intro F hF hk;cases F with
  |zero=>omega
  |succ F=>
   rw[VY,a0S (by omega)];have:=(QA h hq ⟨hr,hk.1⟩).2.2;exact ih F (by have:=this.1;omega) ⟨by have:=this.1;have:=hk.1;omega,this.2⟩
theorem To.of{d}(h:CV d){q}(hq:iF d.aj q=true):∀(F:Nat) (r:Int),r<F->jQ d r d.au.length->To d q r (d.aO.getD (jo (VY d q F r)).toNat V0)
 | 0,r,hr,_=>.fin (by omega)
 |F+1,r,hr,hk=>by
  rw[VY];split
  .rename_i c;exact .fin c
  rename_i c;have:=(QA h hq ⟨by omega,hk.1⟩).2.2;exact .step (by omega) (To.of h hq F _ (by have:=this.1;omega) ⟨by have:=this.1;have:=hk.1;omega,this.2⟩)
theorem To.det{d q r a b}(h:To d q r a):To d q r b->a=b:=by
 induction h with
 |fin hr=>intro g;cases g with
  |fin _=>rfl
  |step h _=>omega
 |step hr _ ih=>intro g;cases g with
  |fin h=>omega
  |step _ t=>exact ih t
theorem BQ(E v):E <+: fJ E v:=by
 unfold fJ;split
 .exact a5F
 exact a9C _ _
theorem Jp(N c ks):N <+: qg N c ks:=by
 unfold qg;split
 .exact a5F
 split
 .exact a5F
 exact a9C _ _
def QL(x y:EN):Prop:=x.1 <+: y.1/\x.2 <+: y.2
theorem QL.rfl{x}:QL x x:=⟨a5F,a5F⟩
theorem QL.trans{x y z}(a:QL x y)(b:QL y z):QL x z:=⟨a.1.trans b.1,a.2.trans b.2⟩
theorem QM{s l}:∀(r p) (x),QL x (gy s l r p x).2
 | [],p,x=>⟨BQ _ _,a5F⟩
 |c::r,p,x=>by have:=bP (g:=wQ (gy s l r) c p) (m:=(s.getD c.toNat 0).toNat) (k:=0) (s:=([],x)) (fun _ y=>QL x y.2) QL.rfl (fun j y _ _ hy=>hy.trans (QM r _ y.2));exact⟨this.1,this.2.trans (Jp _ _ _)⟩
theorem Au{α:Type}{a b:List α}{d}(h:a <+: b){k}(hk:k<a.length):b.getD k d=a.getD k d:=by obtain⟨t,rfl⟩:=h;simp[List.getD,a0P hk]
theorem QN{k:Nat}(hk:k<2^61):i64.wrap (-1-(k:Int))=-1-(k:Int)/\jo (-1-(k:Int))=(k:Int):=by refine⟨eU (by omega) (by omega),?_⟩;unfold jo;rw[eU (by omega) (by omega)];omega
theorem Ut(E v):E.idxOf v<(fJ E v).length/\(fJ E v).getD (E.idxOf v) V0=v:=by
 unfold fJ;split
 .rename_i h;have:=a5H.2 h;exact⟨this,by simp[List.getD,a0A this]⟩
 rename_i h;rw[a7k h];exact⟨by simp,by simp[List.getD]⟩
theorem Wu{N c ks}(hf:¬(ks.all fun x=>x==ks.getD 0 0)=true):N.idxOf (⟨c,ks⟩:Br)<(qg N c ks).length/\(qg N c ks).getD (N.idxOf (⟨c,ks⟩:Br)) kP=⟨c,ks⟩:=by
 unfold qg;rw[a0S hf];split
 .rename_i h;have:=a5H.2 h;exact⟨this,by simp[List.getD,a0A this]⟩
 rename_i h;rw[a7k h];exact⟨by simp,by simp[List.getD]⟩
def Agr(s r q p:LI0):Prop:=∀k:Nat,k<s.length->(k:Int)∉r->q.getD k 0=p.getD k 0
theorem Agr.set{s r q p c}(hc:fZ c s.length)(hp:p.length=s.length)(h:Agr s (c::r) q p):Agr s r q (p.set c.toNat (q.getD c.toNat 0)):=fun k hk hr=>by
 by_cases e:k=c.toNat
 .subst e;have e2:(p.set c.toNat (q.getD c.toNat 0)).getD c.toNat 0=q.getD c.toNat 0:=by simp[List.getD,a1C (show c.toNat<p.length by omega)]
  exact e2.symm
 .rw[show(p.set c.toNat (q.getD c.toNat 0)).getD k 0=p.getD k 0 by rw[List.getD,a1w (afp e)];rfl];exact h k hk (by simp only[a1B,ade];exact⟨fun e2=>e (by omega),hr⟩)
theorem Agr.back{s r q p c j}(hc:fZ c s.length)(h:Agr s r q (p.set c.toNat j)):Agr s (c::r) q p:=fun k hk hr=>by simp only[a1B,ade]at hr;have hc:=hc.1;have e:k≠c.toNat:=fun e=>hr.1 (by omega);have:=h k hk hr.2;rw[this,List.getD,a1w (afp e)];rfl
theorem ahi{s q p}(hq:q.length=s.length)(hp:p.length=s.length)(h:Agr s [] q p):q=p:=(nV (d:=(0:Int)) (by omega)).2 fun k hk=>h k (by omega) (by simp)
theorem a4X{ks:LI0}(h:(ks.all fun x=>x==ks.getD 0 0)=true){j}(hj:j<ks.length):ks.getD j 0=ks.getD 0 0:=by rw[a5z]at h;have:=h (ks.getD j 0) (bV hj);simpa using this
theorem aeH{s l}(hs:mO s):∀(r p) (x),(∀c∈r,fZ c s.length)->p.length=s.length->∀d,d.aO.length<2^61->(gy s l r p x).2.1 <+: d.aO->(gy s l r p x).2.2 <+: d.au->∀q,iF s q=true->Agr s r q p->To d q (gy s l r p x).1 (l.getD (eH s q).toNat V0)
 | [],p,x,_,hp,d,hd,h1,_,q,hq,ha=>by
  have e:=ahi (lG hq) hp ha;subst e;obtain⟨g1,g2⟩:=Ut x.1 (l.getD (eH s q).toNat V0);have h1:fJ x.1 (l.getD (eH s q).toNat V0) <+: d.aO:=h1;have aS:x.1.idxOf (l.getD (eH s q).toNat V0)<2^61:=by have:=h1.length_le;omega
  obtain⟨e1,e2⟩:=QN aS;show To d q (i64.wrap (-1-(x.1.idxOf (l.getD (eH s q).toNat V0):Nat))) _;rw[e1];have:=To.fin (d:=d) (q:=q) (r:=-1-((x.1.idxOf (l.getD (eH s q).toNat V0):Nat):Int)) (by omega);rw[e2,a5M,Au h1 g1,g2]at this;exact this
 |c::r,p,x,hr,hp,d,hd,h1,h2,q,hq,ha=>by
  have hc:=hr c (by simp);have ZB:∀c'∈r,fZ c' s.length:=fun c' h=>hr c' (by simp[h]);have Zt:=(lH.1 hq).2 c.toNat (by have:=hc.1;have:=hc.2;omega);have inv:=bP (g:=wQ (gy s l r) c p) (m:=(s.getD c.toNat 0).toNat) (k:=0) (s:=([],x)) (fun k y=>y.1.length=k/\∀j:Nat,j<k->y.2.1 <+: d.aO->y.2.2 <+: d.au->∀q,iF s q=true->Agr s r q (p.set c.toNat j)->To d q (y.1.getD j 0) (l.getD (eH s q).toNat V0)) ⟨rfl,fun j hj=>by omega⟩ (fun j y _ hj hy=>by
   obtain⟨y1,y2⟩:=hy;refine⟨by simp[wQ,y1],fun j' EG g1 g2 q hq ha=>?_⟩;have FH:=QM (s:=s) (l:=l) r (p.set c.toNat j) y.2;by_cases e:j'<j
   .have:(wQ (gy s l r) c p j y).1.getD j' 0=y.1.getD j' 0:=by show(y.1++_).getD j' 0=_;simp[List.getD,a0P (show j'<y.1.length by omega)]
    rw[this];exact y2 j' e (FH.1.trans g1) (FH.2.trans g2) q hq ha
   have e:j'=j:=(by omega);subst e;have:(wQ (gy s l r) c p j' y).1.getD j' 0=(gy s l r (p.set c.toNat j') y.2).1:=by show(y.1++[_]).getD j' 0=_;simp[List.getD,<-y1]
   rw[this];exact aeH hs r _ y.2 ZB (by simp[hp]) d hd g1 g2 q hq ha)
  rw[a3C]at inv;simp only[gy]at h1 h2 ⊢;generalize aQ (wQ (gy s l r) c p) (s.getD c.toNat 0).toNat 0 ([],x)=y at inv h1 h2;obtain⟨ks,E,N⟩:=y;obtain⟨hlen,inv⟩:=inv;have hlen:ks.length=(s.getD c.toNat 0).toNat:=hlen;have h2:qg N c ks <+: d.au:=h2;have hj:(q.getD c.toNat 0).toNat<(s.getD c.toNat 0).toNat:=by omega
  have ZJ:((q.getD c.toNat 0).toNat:Int)=q.getD c.toNat 0:=by omega
  have t:=inv (q.getD c.toNat 0).toNat hj h1 ((Jp N c ks).trans h2) q hq (by rw[ZJ];exact Agr.set hc hp ha);have t:To d q (ks.getD (q.getD c.toNat 0).toNat 0) (l.getD (eH s q).toNat V0):=t;show To d q (Ey N c ks) _;by_cases hf:(ks.all fun x=>x==ks.getD 0 0)=true
  .rw[show Ey N c ks=ks.getD 0 0 from a15 hf];rw[a4X hf (by omega)]at t;exact t
  rw[show Ey N c ks=(N.idxOf (⟨c,ks⟩:Br):Nat)from a0S hf];obtain⟨g1,g2⟩:=Wu (N:=N) (c:=c) hf;have en:ay d ((N.idxOf (⟨c,ks⟩:Br):Nat):Int)=⟨c,ks⟩:=by unfold ay;rw[a5M,Au h2 g1,g2]
  refine .step (by omega) ?_;rw[en];exact t
open Go Tw Pv bQ
def FN(o:LI0)(N:List Br)(r:Int):Nat:=if r<0 then o.length else o.idxOf (N.getD r.toNat kP).var
def Df(o:LI0)(x:EN)(v:Int)(b a:Nat):Prop:=(v<0->fZ (jo v) x.1.length)/\v<(b:Int)/\a<=FN o x.2 v
structure PtV(s o:LI0)(x:EN):Prop where
 var:∀i,i<x.2.length->fZ (x.2.getD i kP).var s.length
 ksz:∀i,i<x.2.length->((x.2.getD i kP).aA.length:Int)=s.getD (x.2.getD i kP).var.toNat 0
 Aj:∀i,i<x.2.length->∀k,k<(x.2.getD i kP).aA.length->Df o x ((x.2.getD i kP).aA.getD k 0) i (o.idxOf (x.2.getD i kP).var+1)
theorem Df.mono{o x y v b b' a a'}(h:Df o x v b a)(hp:QL x y)(hb:b<=b')(hx:b<=x.2.length)(ha:a'<=a):Df o y v b' a':=by
 obtain⟨h1,h2,h3⟩:=h;refine⟨fun hv=>⟨(h1 hv).1,by have:=(h1 hv).2;have:=hp.1.length_le;omega⟩,by omega,?_⟩;unfold FN at h3 ⊢;split
 .rename_i c;rw[a15 c]at h3;omega
 rename_i c;rw[a0S c]at h3;rw[Au hp.2 (by omega)];omega
theorem a8M{s o l}(hs:mO s)(ho:∀c∈o,fZ c s.length)(hn:o.Nodup):∀(r) (a) (p) (x),o.drop a=r->a<=o.length->PtV s o x->(gy s l r p x).2.1.length<2^61->PtV s o (gy s l r p x).2/\Df o (gy s l r p x).2 (gy s l r p x).1 (gy s l r p x).2.2.length a
 | [],a,p,x,hr,ha,hx,hE=>by
  have:a=o.length:=by have:=congrArg List.length hr;rw[a3Q,a5L]at this;omega
  subst this;obtain⟨g1,g2⟩:=Ut x.1 (l.getD (eH s p).toNat V0);have hE:(fJ x.1 (l.getD (eH s p).toNat V0)).length<2^61:=hE;obtain⟨e1,e2⟩:=QN (k:=x.1.idxOf (l.getD (eH s p).toNat V0)) (by omega);have hp:QL x (fJ x.1 (l.getD (eH s p).toNat V0),x.2):=⟨BQ _ _,a5F⟩;refine⟨⟨hx.var,hx.ksz,fun i hi k hk=>(hx.Aj i hi k hk).mono hp (a1j _) (aa9 hi) (a1j _)⟩,?_⟩;show Df o _ (i64.wrap (-1-(x.1.idxOf (l.getD (eH s p).toNat V0):Nat))) _ _;rw[e1];refine⟨fun _=>by rw[e2];exact⟨by omega,by show _<((fJ x.1 (l.getD (eH s p).toNat V0)).length:Int);omega⟩,by omega,?_⟩;unfold FN;rw[a15 (by omega)];exact a1j _
 |c::r,a,p,x,hr,ha,hx,hE=>by
  have aS:a<o.length:=by have:=congrArg List.length hr;rw[a3Q,a4p]at this;omega
  have hd:=a6j aS;rw[hr]at hd;obtain⟨hc,wF⟩:=aiB hd;have DY:c∈o:=by rw[hc];exact a5B aS
  have og:=ho c DY;have hia:o.idxOf c=a:=by rw[hc];exact hn.idxOf_getElem a aS
  have hz:=hs _ (bV (s:=s) (k:=c.toNat) (by have:=og.1;have:=og.2;omega));have mono:=fun(n:Nat) (m:Nat) (y:LI0×EN)=>(bP (g:=wQ (gy s l r) c p) (m:=m) (k:=n) (s:=y) (fun _ z=>QL y.2 z.2) QL.rfl (fun j z _ _ hz=>hz.trans (QM r _ z.2)));have hEf:(aQ (wQ (gy s l r) c p) (s.getD c.toNat 0).toNat 0 ([],x)).2.1.length<2^61:=hE;have inv:=bP (g:=wQ (gy s l r) c p) (m:=(s.getD c.toNat 0).toNat) (k:=0) (s:=([],x)) (fun k y=>y.1.length=k/\(y.2.1.length<2^61->PtV s o y.2/\∀j:Nat,j<k->Df o y.2 (y.1.getD j 0) y.2.2.length (a+1))) ⟨rfl,fun _=>⟨hx,fun j hj=>by omega⟩⟩ (fun j y _ hj hy=>by
   obtain⟨y1,y2⟩:=hy;refine⟨by simp[wQ,y1],fun hE=>?_⟩;have FH:=QM (s:=s) (l:=l) r (p.set c.toNat j) y.2;have hE:(gy s l r (p.set c.toNat j) y.2).2.1.length<2^61:=hE;obtain⟨v1,v2⟩:=y2 (by have:=FH.1.length_le;omega);obtain⟨w1,w2⟩:=a8M hs ho hn r (a+1) (p.set c.toNat j) y.2 wF.symm aS v1 hE;refine⟨w1,fun j' EG=>?_⟩;by_cases e:j'<j
   .have:(wQ (gy s l r) c p j y).1.getD j' 0=y.1.getD j' 0:=by show(y.1++_).getD j' 0=_;simp[List.getD,a0P (show j'<y.1.length by omega)]
    rw[this];exact(v2 j' e).mono FH FH.2.length_le (a1j _) (a1j _)
   have e:j'=j:=(by omega);subst e;have:(wQ (gy s l r) c p j' y).1.getD j' 0=(gy s l r (p.set c.toNat j') y.2).1:=by show(y.1++[_]).getD j' 0=_;simp[List.getD,<-y1]
   rw[this];exact w2)
  rw[a3C]at inv;simp only[gy];generalize aQ (wQ (gy s l r) c p) (s.getD c.toNat 0).toNat 0 ([],x)=y at inv hEf;obtain⟨ks,E,N⟩:=y;obtain⟨hlen,inv⟩:=inv;obtain⟨i1,i2⟩:=inv hEf;have hlen:ks.length=(s.getD c.toNat 0).toNat:=hlen;have i2:∀j:Nat,j<(s.getD c.toNat 0).toNat->Df o (E,N) (ks.getD j 0) N.length (a+1):=i2;have FH:QL (E,N) (E,qg N c ks):=⟨a5F,Jp N c ks⟩;show PtV s o (E,qg N c ks)/\Df o (E,qg N c ks) (Ey N c ks) (qg N c ks).length a;by_cases hf:(ks.all fun x=>x==ks.getD 0 0)=true
  .rw[show Ey N c ks=ks.getD 0 0 from a15 hf,show qg N c ks=N from a15 hf];exact⟨i1,(i2 0 (by omega)).mono QL.rfl (a1j _) (a1j _) (by omega)⟩
  obtain⟨g1,g2⟩:=Wu (N:=N) (c:=c) hf;rw[show Ey N c ks=(N.idxOf (⟨c,ks⟩:Br):Nat)from a0S hf];have MV:a<=FN o (qg N c ks) ((N.idxOf (⟨c,ks⟩:Br):Nat):Int):=by unfold FN;rw[a0S (by omega),a5M,g2];show a<=o.idxOf c;omega
  refine⟨?_,⟨fun h=>by omega,by omega,MV⟩⟩;by_cases hm:(⟨c,ks⟩:Br)∈N
  .rw[show qg N c ks=N by unfold qg;rw[a0S hf,a15 hm]];exact i1
  have eN:qg N c ks=N++[⟨c,ks⟩]:=by unfold qg;rw[a0S hf,a0S hm]
  rw[eN]at FH ⊢;have hold:∀i,i<N.length->(N++[(⟨c,ks⟩:Br)]).getD i kP=N.getD i kP:=fun i hi=>Au (a9C _ _) hi;have gJ:(N++[(⟨c,ks⟩:Br)]).getD N.length kP=⟨c,ks⟩:=by simp[List.getD]
  have wE:∀i,i<(N++[(⟨c,ks⟩:Br)]).length->i<N.length\/i=N.length:=fun i hi=>by rw[a1v,a3J]at hi;omega
  refine⟨fun i hi=>?_,fun i hi=>?_,fun i hi k hk=>?_⟩
  .show fZ ((N++[(⟨c,ks⟩:Br)]).getD i kP).var s.length;rcases wE i hi with h|rfl
   .rw[hold i h];exact i1.var i h
   rw[gJ];exact og
  .show(((N++[(⟨c,ks⟩:Br)]).getD i kP).aA.length:Int)=s.getD ((N++[(⟨c,ks⟩:Br)]).getD i kP).var.toNat 0;rcases wE i hi with h|rfl
   .rw[hold i h];exact i1.ksz i h
   rw[gJ];show(ks.length:Int)=s.getD c.toNat 0;omega
  have hk:k<((N++[(⟨c,ks⟩:Br)]).getD i kP).aA.length:=hk;show Df o (E,N++[(⟨c,ks⟩:Br)]) (((N++[(⟨c,ks⟩:Br)]).getD i kP).aA.getD k 0) i (o.idxOf ((N++[(⟨c,ks⟩:Br)]).getD i kP).var+1);rcases wE i hi with h|rfl
  .rw[hold i h]at hk ⊢;exact(i1.Aj i h k hk).mono FH (a1j _) (aa9 h) (a1j _)
  rw[gJ]at hk ⊢;have hk:k<ks.length:=hk;exact(i2 k (by omega)).mono FH (a1j _) (a1j _) (by show o.idxOf c+1<=a+1;omega)
open Go Tw Pv bQ
theorem Ob(d v):uP d v=(FN d.aB d.au v:Int):=by
 unfold uP FN;by_cases c:v<0
 .rw[a15 (by simpa using c),a15 c]
 rw[a0S (by simpa using c),a0S c];have hs:=QK (l:=d.aB) (d:=0) (a:=(ay d v).var) (c:=Qy d v) (fun k _=>by unfold Qy;rw[a5G];simp);by_cases hm:(ay d v).var∈d.aB
 .rw[hs.1 hm];rfl
 rw[a15 (hs.2 hm),a7k hm]
theorem L9{d}(hm:d.aO.length<=ah)(hf:(aY d.aj d.aB != 0)=false)(hv:∀v∈d.aO,vOk v=true)(hn:d.au.length<=6000)(hp:PtV d.aj d.aB (d.aO,d.au))(hr:Df d.aB (d.aO,d.au) d.root d.au.length 0):aW d=0:=by
 obtain⟨bG,QO⟩:=iL.1 (show aY d.aj d.aB=0 by simpa using hf);have amv:∀(v:Int) (b a:Nat),Df d.aB (d.aO,d.au) v b a->ji d v b=true:=fun v b a h=>by
  unfold ji;split
  .simpa using h.2.1
  rename_i c;have c:v<0:=by simpa using c
  have:=h.1 c;have e:i64.wrap ((d.aO.length:Int)-1)=(d.aO.length:Int)-1:=by unfold ah at hm;rw[eU (by omega) (by omega)]
  rw[vg,e];have h2:=this.2;have h2:jo v<(d.aO.length:Int):=h2;exact⟨this.1,by show jo v<=_;omega⟩
 have hl:mV d=true:=by
  unfold mV;rw[a15 (cO.2 fun j hj=>by rw[cLe,hv _ (by simp[List.getD,a0A hj])];rfl),a15 (cO.2 fun i hi=>?_)]
  .exact amv _ _ _ hr
  have h1:=hp.var i hi;have h2:=hp.ksz i hi;have h3:=hp.Aj i hi;have h1:fZ (fK d i).var d.aj.length:=h1;have h2:((fK d i).aA.length:Int)=d.aj.getD (fK d i).var.toNat 0:=h2;have e:xw d.aj=(d.aj.length:Int)-1:=by have:=bG.len;unfold xw;rw[eU (by omega) (by omega)]
  unfold cLn;rw[a0S,a0S (by rw[h2];simp),a15]
  .refine cO.2 fun k hk=>?_;have h4:=h3 k hk;unfold cLk;rw[a0S (by rw[amv _ _ _ h4];simp),a3k,Ob,Ob];have h5:=h4.2.2;have e6:FN d.aB d.au ((i:Nat):Int)=d.aB.idxOf (fK d i).var:=by unfold FN;rw[a0S (by omega),a5M]
   rw[e6];have h5:d.aB.idxOf (fK d i).var+1<=FN d.aB d.au ((d.au.getD i kP).aA.getD k 0):=h5;omega
  have:nX (fK d i).var 0 (xw d.aj)=true:=by rw[vg,e];have:=h1.1;have:=h1.2;exact⟨by omega,by omega⟩
  rw[this];simp
 unfold aW;rw[a0S (by rw[hf];simp),a0S (by rw[a1z];omega),a0S (by rw[hl];simp)]
structure OfP(s o:LI0)(l:List V):Prop where
 bG:qy s
 ord:jC s.length o=true
 len:(l.length:Int)=bC s
theorem OfP.p{s o l}(h:OfP s o l):PtP s o l/\o.Nodup/\o.length=s.length:=by have ho:=h.ord;unfold jC at ho;rw[a1z]at ho;have:=h.bG.len;exact⟨⟨h.bG,fun c hc=>⟨(ho.2.1 c hc).1,(ho.2.1 c hc).2⟩,h.len,by unfold ah;omega,by unfold ah;omega⟩,ho.2.2,ho.1⟩
theorem YR{s l}:∀(r p) (x),(∀q,l.getD (eH s q).toNat V0∈l\/True)->(∀q,iF s q=true->l.getD (eH s q).toNat V0∈l)->iF s p=true->(∀c∈r,fZ c s.length)->mO s->(∀v∈x.1,v∈l)->∀v∈(gy s l r p x).2.1,v∈l
 | [],p,x,_,h,hp,_,_,hx,v,hv=>by
  have hv:v∈fJ x.1 (l.getD (eH s p).toNat V0):=hv;unfold fJ at hv;split at hv
  .exact hx v hv
  rcases a3E.1 hv with hv|hv
  .exact hx v hv
  rw[a2m.1 hv];exact h p hp
 |c::r,p,x,h0,h,hp,hr,hs,hx,v,hv=>by have hc:=hr c (by simp);have hz:=hs _ (bV (s:=s) (k:=c.toNat) (by have:=hc.1;have:=hc.2;omega));have:=bP (g:=wQ (gy s l r) c p) (m:=(s.getD c.toNat 0).toNat) (k:=0) (s:=([],x)) (fun _ y=>∀v∈y.2.1,v∈l) hx (fun j y _ hj hy=>YR r _ y.2 h0 h (Qx hp hc ⟨by omega,by omega⟩) (fun c hc=>hr c (by simp[hc])) hs hy);exact this v hv
theorem Hl{s o l}(h:OfP s o l)(hv:∀v∈l,vOk v=true):aW (je s o l)=0/\(je s o l).aO.length<=2000/\(∀v∈(je s o l).aO,v∈l)/\PtV s o ((je s o l).aO,(je s o l).au)/\Df o ((je s o l).aO,(je s o l).au) (je s o l).root (je s o l).au.length 0:=by
 obtain⟨hP,hn,ho⟩:=h.p;have hz:=Jo h.bG.sz;have hm:=h.bG.many;have hlen:=Wq (l:=l) h.bG.sz o (List.replicate s.length 0) ([],[]) hP.ord;have hw:=BP h.bG.sz h.ord;have JU:∀q,iF s q=true->l.getD (eH s q).toNat V0∈l:=fun q hq=>by
  have:=xR hq h.bG.sz;have:=h.len;have aS:(eH s q).toNat<l.length:=by omega
  simp[List.getD,a0A aS]
 have mg:=YR o (List.replicate s.length 0) ([],[]) (fun _=>.inr trivial) JU hz hP.ord h.bG.sz (by simp);have XH:=a8M (l:=l) h.bG.sz hP.ord hn o 0 (List.replicate s.length 0) ([],[]) rfl (a5D _) ⟨fun i hi=>(by simp at hi),fun i hi=>(by simp at hi),fun i hi=>(by simp at hi)⟩ (by have:=hlen.1;simp at this;omega);have h1:(je s o l).aO.length<=0+wO s o:=hlen.1;have h2:(je s o l).au.length+1<=0+wO s o:=hlen.2;refine⟨L9 (by unfold ah;omega) ?_ (fun v hv2=>hv v (mg v hv2)) (by omega) XH.1 XH.2,by omega,mg,XH.1,XH.2⟩;have:aY s o=0:=iL.2 ⟨h.bG,h.ord⟩;show(aY s o != 0)=false;rw[this];rfl
theorem a3d{s o l}(h:OfP s o l)(hv:∀v∈l,vOk v=true){q}(hq:iF s q=true):vT (je s o l) q=l.getD (eH s q).toNat V0:=by
 obtain⟨hP,hn,ho⟩:=h.p;obtain⟨h1,h2,h3,h4,h5⟩:=Hl h hv;have ht:=jy (d:=je s o l) hP.a8I (by unfold ah;omega) (by rw[h1];rfl);have hto:=aeH (l:=l) h.bG.sz o (List.replicate s.length 0) ([],[]) hP.ord (by simp) (je s o l) (by omega) a5F a5F q hq (fun k hk Zu=>by exfalso;exact Zu (mW h.ord ⟨by omega,by omega⟩))
 have hr:=ht.1.root;exact(hto.at_ ht.1 hq 6001 (by have:=hr.1;have:=ht.2;show(je s o l).root<_;omega) hr).symm
theorem a0T{s o l}(h:OfP s o l)(hv:∀v∈l,vOk v=true):cellsD (je s o l)=l:=by have hl:=h.len;unfold cellsD;refine aac (by simp[uK,je];omega) fun n h1 h2=>?_;have hp:=qX (n:Int) h.bG.sz;simp only[aa1,afe];show vT (je s o l) (iV s n)=_;rw[a3d h hv hp,J8 h.bG.sz (by omega) (by omega)];simp[List.getD,a0A h2]
open Go Tw Pv bQ
def Kn(d:Dg)(x:Cs)(v:Int):Prop:=if v<0 then oP d v∈x.e else v∈x.k.map (·.1)
def wz(d:Dg)(x:Cs)(v:Int):Int:=if v<0 then i64.wrap (-1-(x.e.idxOf (oP d v):Nat))else Wi x.k v
def BU(x y:Cs):Prop:=x.e <+: y.e/\x.n <+: y.n/\x.k <+: y.k
theorem BU.rfl{x}:BU x x:=⟨a5F,a5F,a5F⟩
theorem BU.trans{x y z}(a:BU x y)(b:BU y z):BU x z:=⟨a.1.trans b.1,a.2.1.trans b.2.1,a.2.2.trans b.2.2⟩
theorem Kn.mono{d x y v}(h:Kn d x v)(hp:BU x y):Kn d y v:=by
 unfold Kn at h ⊢;split
 .rename_i c;rw[a15 c]at h;exact hp.1.subset h
 rename_i c;rw[a0S c]at h;obtain⟨t,ht⟩:=hp.2.2;rw[<-ht,a4M,a3E];exact .inl h
theorem Uu{α:Type}[BEq α][LawfulBEq α]{a b:List α}{v}(h:v∈a)(hp:a <+: b):b.idxOf v=a.idxOf v:=by obtain⟨t,rfl⟩:=hp;rw[aap,a15 h]
theorem a3e{a b v}(h:v∈a.map (·.1))(hp:a <+: b):Wi b v=Wi a v:=by
 obtain⟨t,rfl⟩:=hp;unfold Wi;rw[List.find?_append];cases e:a.find? fun p=>p.1==v with
 |none=>
  rw[a1u]at h;obtain⟨p,hp,rfl⟩:=h;have:=afj.1 e p hp;simp at this
 |some q=>rfl
theorem Uw{d x y v}(h:Kn d x v)(hp:BU x y):wz d y v=wz d x v:=by
 unfold Kn at h;unfold wz;split
 .rename_i c;rw[a15 c]at h;rw[Uu h hp.1]
 rename_i c;rw[a0S c]at h;rw[a3e h hp.2.2]
theorem YS{E v}(h:v∈E):fJ E v=E:=a15 h
theorem MW(N c ks):N <+: dI N c ks:=by
 unfold dI;split
 .exact a5F
 split
 .exact a5F
 exact a9C _ _
theorem a0U{N M c ks}(h:dI N c ks=N)(hp:N <+: M):dI M c ks=M/\eX M c ks=eX N c ks:=by
 unfold dI at h ⊢;unfold eX;by_cases hf:(ks.all fun x=>x==ks.getD 0 0)=true
 .rw[a15 hf,a15 hf,a15 hf];exact⟨rfl,rfl⟩
 rw[a0S hf]at h ⊢;rw[a0S hf,a0S hf];by_cases hm:uQ c ks∈N.map Dj
 .have hp2:N.map Dj <+: M.map Dj:=by obtain⟨t,rfl⟩:=hp;rw[a4M];exact a9C _ _
  rw[a15 (hp2.subset hm),Uu hm hp2];exact⟨rfl,rfl⟩
 rw[a0S hm]at h;have:=congrArg List.length h;simp at this
theorem a4Y(N c ks):dI (dI N c ks) c ks=dI N c ks/\eX (dI N c ks) c ks=eX N c ks:=by
 unfold eX;by_cases hf:(ks.all fun x=>x==ks.getD 0 0)=true
 .rw[a15 hf,a15 hf];have:dI N c ks=N:=a15 hf;rw[this,this];exact⟨rfl,rfl⟩
 rw[a0S hf,a0S hf];by_cases hm:uQ c ks∈N.map Dj
 .have:dI N c ks=N:=by unfold dI;rw[a0S hf,a15 hm]
  rw[this,this];exact⟨rfl,rfl⟩
 have e:dI N c ks=N++[⟨c,ks⟩]:=by unfold dI;rw[a0S hf,a0S hm]
 have hm2:uQ c ks∈(N++[(⟨c,ks⟩:Br)]).map Dj:=by rw[a4M];simp
 have e2:dI (N++[⟨c,ks⟩]) c ks=N++[⟨c,ks⟩]:=by unfold dI;rw[a0S hf,a15 hm2]
 rw[e,e2];refine⟨rfl,?_⟩;rw[a4M,aap,a0S hm,a7k hm];simp
abbrev aT(d:Dg)(v:Int):LI0:=(ay d v).aA
def YT(d:Dg)(x:Cs):Prop:=∀v∈x.k.map (·.1),(∀j,j<(aT d v).length->Kn d x ((aT d v).getD j 0))/\eX x.n (ay d v).var ((aT d v).map (wz d x))=Wi x.k v/\dI x.n (ay d v).var ((aT d v).map (wz d x))=x.n
abbrev Dk(d:Dg)(F:Nat)(r:Int)(j:Nat)(y:LI0×Cs):LI0×Cs:=(y.1.set j (bY d F ((aT d r).getD j 0) y.2).1,(bY d F ((aT d r).getD j 0) y.2).2)
theorem a8O{d}:∀(F) (r) (x),BU x (bY d F r x).2
 | 0,_,x=>BU.rfl
 |F+1,r,x=>by
  unfold bY;split
  .exact⟨BQ _ _,a5F,a5F⟩
  split
  .exact BU.rfl
  have:=bP (g:=Dk d F r) (m:=(aT d r).length) (k:=0) (s:=(List.replicate (aT d r).length 0,x)) (fun _ y=>BU x y.2) BU.rfl (fun j y _ _ hy=>hy.trans (a8O F _ y.2));exact⟨this.1,this.2.1.trans (MW _ _ _),this.2.2.trans (a9C _ _)⟩
theorem Oc{d F v x}(h:Kn d x v):bY d (F+1) v x=(wz d x v,x):=by
 unfold Kn at h;unfold bY wz;by_cases c:v<0
 .rw[a15 (by simpa using c),a15 c];rw[a15 c]at h;rw[YS h]
 rw[a0S c]at h;rw[a0S (by simpa using c),a15 (by simpa using h),a0S c]
theorem QS{d x y}{ks:LI0}(h:∀j,j<ks.length->Kn d x (ks.getD j 0))(hp:BU x y):ks.map (wz d y)=ks.map (wz d x):=by refine a5J fun v hv=>?_;obtain⟨j,hj,rfl⟩:=a90 hv;have:=h j hj;rw[List.getD,a0A hj]at this;exact Uw this hp
theorem YT.a3f{d x y v}(h:(∀j,j<(aT d v).length->Kn d x ((aT d v).getD j 0))/\eX x.n (ay d v).var ((aT d v).map (wz d x))=Wi x.k v/\dI x.n (ay d v).var ((aT d v).map (wz d x))=x.n)(hv:v∈x.k.map (·.1))(hp:BU x y):(∀j,j<(aT d v).length->Kn d y ((aT d v).getD j 0))/\eX y.n (ay d v).var ((aT d v).map (wz d y))=Wi y.k v/\dI y.n (ay d v).var ((aT d v).map (wz d y))=y.n:=by obtain⟨h1,h2,h3⟩:=h;rw[QS h1 hp];obtain⟨g1,g2⟩:=a0U h3 hp.2.1;exact⟨fun j hj=>(h1 j hj).mono hp,by rw[g2,h2,a3e hv hp.2.2],g1⟩
theorem a0V{d}(h:CV d):∀(F:Nat) (r:Int) (x),1<=F->r+1<F->jQ d r d.au.length->Eu d x->YT d x->YT d (bY d F r x).2/\Kn d (bY d F r x).2 r/\wz d (bY d F r x).2 r=(bY d F r x).1
 | 0,r,x,h1,_,_,_,_=>by omega
 |F+1,r,x,_,hF,hr,hx,hi=>by
  by_cases c:r<0
  .have e:bY d (F+1) r x=(i64.wrap (-1-(x.e.idxOf (oP d r):Nat)),⟨fJ x.e (oP d r),x.n,x.k⟩):=by unfold bY;rw[a15 (by simpa using c)]
   rw[e];have hp:BU x ⟨fJ x.e (oP d r),x.n,x.k⟩:=⟨BQ _ _,a5F,a5F⟩;refine⟨fun v hv=>YT.a3f (hi v hv) hv hp,?_,?_⟩
   .unfold Kn;rw[a15 c];show oP d r∈fJ x.e (oP d r);unfold fJ;split
    .assumption
    simp
   unfold wz;rw[a15 c];show i64.wrap (-1-((fJ x.e (oP d r)).idxOf (oP d r):Nat))=_;congr 3;unfold fJ;split
   .rfl
   rename_i hn;rw[aap,a0S hn,a7k hn];simp
  by_cases c2:r∈x.k.map (·.1)
  .have hk:Kn d x r:=by unfold Kn;rw[a0S c];exact c2
   rw[Oc hk];exact⟨hi,hk,rfl⟩
  have aS:r.toNat<d.au.length:=by have:=hr.1;omega
  have Dc:∀k,k<(aT d r).length->(aT d r).getD k 0<r:=fun k kN=>by have h9:=(h.Aj r.toNat aS k kN).1;have h9:(aT d r).getD k 0<(r.toNat:Int):=h9;omega
  have MV:∀j,j<(aT d r).length->jQ d ((aT d r).getD j 0) d.au.length:=fun j hj=>⟨by have:=Dc j hj;have:=hr.1;omega,(h.Aj r.toNat aS j hj).2⟩;have inv:=bP (g:=Dk d F r) (m:=(aT d r).length) (k:=0) (s:=(List.replicate (aT d r).length 0,x)) (fun k y=>(y.1.length=(aT d r).length/\BU x y.2)/\(Eu d y.2/\r∉y.2.k.map (·.1))/\YT d y.2/\∀j,j<k->Kn d y.2 ((aT d r).getD j 0)/\wz d y.2 ((aT d r).getD j 0)=y.1.getD j 0) ⟨⟨by simp,BU.rfl⟩,⟨hx,c2⟩,hi,fun j hj=>by omega⟩ (fun j y _ hj hy=>by
   obtain⟨⟨y1,y2⟩,⟨y3,y4⟩,y5,y6⟩:=hy;have hj:j<(aT d r).length:=(by omega);have hp:=a8O (d:=d) F ((aT d r).getD j 0) y.2;obtain⟨z1,z2,z3⟩:=a0V h F ((aT d r).getD j 0) y.2 (by omega) (by have:=Dc j hj;omega) (MV j hj) y3 y5;refine⟨⟨by simp[Dk,y1],y2.trans hp⟩,⟨QD h F _ y.2 y3 (MV j hj),YK F _ r y.2 (Dc j hj) y4 (by omega) (fun i hi k hk=>(h.Aj i hi k hk).1) (fun h5=>⟨h5,(MV j hj).1⟩)⟩,z1,fun j' EG=>?_⟩;by_cases e:j'=j
   .subst e;refine⟨z2,?_⟩;rw[z3];show(bY d F ((aT d r).getD j' 0) y.2).1=(y.1.set j' (bY d F ((aT d r).getD j' 0) y.2).1).getD j' 0;generalize (bY d F ((aT d r).getD j' 0) y.2).1=z;simp[List.getD,a1C (show j'<y.1.length by omega)]
   obtain⟨a1,a2⟩:=y6 j' (by omega);refine⟨a1.mono hp,?_⟩;rw[Uw a1 hp,a2];show _=(y.1.set j (bY d F ((aT d r).getD j 0) y.2).1).getD j' 0;generalize (bY d F ((aT d r).getD j 0) y.2).1=z;simp[List.getD,a1w (afp e)])
  rw[a3C]at inv;have e:bY d (F+1) r x=(eX (aQ (Dk d F r) (aT d r).length 0 (List.replicate (aT d r).length 0,x)).2.n (ay d r).var (aQ (Dk d F r) (aT d r).length 0 (List.replicate (aT d r).length 0,x)).1,⟨(aQ (Dk d F r) (aT d r).length 0 (List.replicate (aT d r).length 0,x)).2.e,dI (aQ (Dk d F r) (aT d r).length 0 (List.replicate (aT d r).length 0,x)).2.n (ay d r).var (aQ (Dk d F r) (aT d r).length 0 (List.replicate (aT d r).length 0,x)).1,(aQ (Dk d F r) (aT d r).length 0 (List.replicate (aT d r).length 0,x)).2.k++[(r,eX (aQ (Dk d F r) (aT d r).length 0 (List.replicate (aT d r).length 0,x)).2.n (ay d r).var (aQ (Dk d F r) (aT d r).length 0 (List.replicate (aT d r).length 0,x)).1)]⟩):=by rw[bY,a0S (by simpa using c),a0S (by simpa using c2)]
  rw[e];generalize aQ (Dk d F r) (aT d r).length 0 (List.replicate (aT d r).length 0,x)=y at inv;obtain⟨ks,y⟩:=y;obtain⟨⟨y1,y2⟩,⟨y3,y4⟩,y5,y6⟩:=inv;have y1:ks.length=(aT d r).length:=y1;have y4:r∉y.k.map (·.1):=y4;have hp:BU y ⟨y.e,dI y.n (ay d r).var ks,y.k++[(r,eX y.n (ay d r).var ks)]⟩:=⟨a5F,MW _ _ _,a9C _ _⟩;have FZ:(aT d r).map (wz d y)=ks:=by refine aac (by simp[y1]) fun j j1 j2=>?_;have hj:j<(aT d r).length:=(by omega);have:=(y6 j hj).2;rw[List.getD,List.getD,a0A hj,a0A j2]at this;simpa using this
  have gJ:Wi (y.k++[(r,eX y.n (ay d r).var ks)]) r=eX y.n (ay d r).var ks:=by
   unfold Wi;rw[List.find?_append];have:(y.k.find? fun p=>p.1==r)=none:=afj.2 fun p hp=>by simp only[a7l];intro e2;exact y4 (a1u.2 ⟨p,hp,e2⟩)
   rw[this];simp
  obtain⟨g1,g2⟩:=a4Y y.n (ay d r).var ks;refine⟨fun v hv=>?_,?_,?_⟩
  .have hv:v∈(y.k++[(r,eX y.n (ay d r).var ks)]).map (·.1):=hv;rw[a4M,a3E]at hv;rcases hv with hv|hv
   .exact YT.a3f (y5 v hv) hv hp
   have hv:v=r:=(by simpa using hv);subst hv;refine⟨fun j hj=>(y6 j hj).1.mono hp,?_,?_⟩
   .rw[QS (fun j hj=>(y6 j hj).1) hp,FZ];show eX (dI y.n (ay d v).var ks) _ ks=Wi (y.k++[(v,eX y.n (ay d v).var ks)]) v;rw[g2,gJ]
   rw[QS (fun j hj=>(y6 j hj).1) hp,FZ];exact g1
  .unfold Kn;rw[a0S c];show r∈(y.k++[(r,eX y.n (ay d r).var ks)]).map (·.1);simp
  unfold wz;rw[a0S c];exact gJ
open Go Tw Pv bQ
theorem YU{d}(h:aW d=0):∀i,i<d.au.length->∀k,k<(fK d i).aA.length->d.aB.idxOf (fK d i).var+1<=FN d.aB d.au ((fK d i).aA.getD k 0):=by
 intro i hi k hk;unfold aW at h;split at h
 .rename_i c;rw[h]at c;cases c
 split at h
 .cases h
 split at h
 .cases h
 rename_i c;have c:mV d=true:=by simpa using c
 unfold mV at c;split at c
 rotate_left
 .cases c
 split at c
 rotate_left
 .cases c
 rename_i c2;have:=cO.1 c2 i hi;unfold cLn at this;split at this
 .cases this
 split at this
 .cases this
 split at this
 .rename_i c3;have:=cO.1 c3 k hk;unfold cLk at this;split at this
  .cases this
  rw[a3k,Ob,Ob]at this;have e6:FN d.aB d.au ((i:Nat):Int)=d.aB.idxOf (fK d i).var:=by unfold FN;rw[a0S (by omega),a5M]
  rw[e6]at this;show d.aB.idxOf (fK d i).var+1<=FN d.aB d.au ((d.au.getD i kP).aA.getD k 0);omega
 cases this
theorem a0W{d}(h:CV d):∀(F) (r) (x),jQ d r d.au.length->NOk d.aj x.n->NOk d.aj (bY d F r x).2.n
 | 0,_,_,_,hx=>hx
 |F+1,r,x,hr,hx=>by
  unfold bY;by_cases c:r<0
  .rw[a15 (by simpa using c)];exact hx
  rw[a0S (by simpa using c)];split
  .exact hx
  have aS:r.toNat<d.au.length:=by have:=hr.1;omega
  have MV:∀j,j<(aT d r).length->jQ d ((aT d r).getD j 0) d.au.length:=fun j hj=>by have h9:=h.Aj r.toNat aS j hj;have h8:=h9.1;have h8:(aT d r).getD j 0<(r.toNat:Int):=h8;exact⟨by omega,h9.2⟩
  have inv:=bP (g:=Dk d F r) (m:=(aT d r).length) (k:=0) (s:=(List.replicate (aT d r).length 0,x)) (fun _ y=>y.1.length=(aT d r).length/\NOk d.aj y.2.n) ⟨by simp,hx⟩ (fun j y _ hj hy=>⟨by simp[Dk,hy.1],a0W h F _ y.2 (MV j (by omega)) hy.2⟩);show NOk d.aj (dI (aQ (Dk d F r) (aT d r).length 0 (List.replicate (aT d r).length 0,x)).2.n (ay d r).var (aQ (Dk d F r) (aT d r).length 0 (List.replicate (aT d r).length 0,x)).1);generalize aQ (Dk d F r) (aT d r).length 0 (List.replicate (aT d r).length 0,x)=y at inv;intro b hb;unfold dI at hb;split at hb
  .exact inv.2 b hb
  split at hb
  .exact inv.2 b hb
  rcases a3E.1 hb with hb|hb
  .exact inv.2 b hb
  rw[a2m.1 hb];refine⟨h.var r.toNat aS,?_⟩;show(y.1.length:Int)=d.aj.getD (ay d r).var.toNat 0;rw[inv.1];exact h.ksz r.toNat aS
theorem a8P{n}(hn:1<=n)(v:Int):((List.replicate n v).all fun x=>x==(List.replicate n v).getD 0 0)=true/\(List.replicate n v).getD 0 0=v:=by obtain⟨k,rfl⟩:∃k,n=k+1:=⟨n-1,by omega⟩;simp[af2]
theorem YV{d l}(h:CV d)(QO:jC d.aj.length d.aB=true)(hk:∀i,i<d.au.length->∀k,k<(fK d i).aA.length->d.aB.idxOf (fK d i).var+1<=FN d.aB d.au ((fK d i).aA.getD k 0)):∀(r) (a) (p) (v) (x) (F:Nat),d.aB.drop a=r->a<=d.aB.length->iF d.aj p=true->Eu d x->YT d x->NOk d.aj x.n->jQ d v d.au.length->a<=FN d.aB d.au v->1<=F->v+1<F->(∀q,iF d.aj q=true->Agr d.aj r q p->To d q v (l.getD (eH d.aj q).toNat V0))->gy d.aj l r p (x.e,x.n)=((bY d F v x).1,((bY d F v x).2.e,(bY d F v x).2.n))
 | [],a,p,v,x,F,hr,ha,hp,_,_,_,hv,MV,hF1,hF,hto=>by
  obtain⟨F,rfl⟩:∃k,F=k+1:=⟨F-1,by omega⟩;have:a=d.aB.length:=by have:=congrArg List.length hr;rw[a3Q,a5L]at this;omega
  subst this;have hv0:v<0:=by
   rcases Int.lt_or_le v 0 with c|c
   .exact c
   exfalso;unfold FN at MV;rw[a0S (by omega)]at MV;have aS:v.toNat<d.au.length:=by have:=hv.1;omega
   have hm:=mW QO (h.var v.toNat aS);have:=a5H.2 hm;have:d.aB.idxOf (d.au.getD v.toNat kP).var<d.aB.length:=this;omega
  have t:=hto p hp (fun _ _ _=>rfl);have e:l.getD (eH d.aj p).toNat V0=oP d v:=(To.fin hv0:To d p v _).det t |>.symm
  unfold bY;rw[a15 (by simpa using hv0)];show(i64.wrap (-1-(x.e.idxOf (l.getD (eH d.aj p).toNat V0):Nat)),(fJ x.e (l.getD (eH d.aj p).toNat V0),x.n))=_;rw[e]
 |c::r,a,p,v,x,F,hr,ha,hp,hx,hi,Zu,hv,MV,hF1,hF,hto=>by
  have aS:a<d.aB.length:=by have:=congrArg List.length hr;rw[a3Q,a4p]at this;omega
  have hd:=a6j aS;rw[hr]at hd;obtain⟨hc,wF⟩:=aiB hd;have ho:=QO;unfold jC at ho;rw[a1z]at ho;have DY:c∈d.aB:=by rw[hc];exact a5B aS
  have og:fZ c d.aj.length:=⟨(ho.2.1 c DY).1,(ho.2.1 c DY).2⟩;have hia:d.aB.idxOf c=a:=by rw[hc];exact ho.2.2.idxOf_getElem a aS
  have nR:c.toNat<d.aj.length:=by have:=og.1;have:=og.2;omega
  have hz:=h.bG.sz _ (bV (s:=d.aj) (k:=c.toNat) nR);have zq:=lG hp;have hcr:c∉r:=by have:(d.aB.drop a).Nodup:=ho.2.2.sublist (List.drop_sublist _ _);rw[hr]at this;exact(a5x.1 this).1
  have Gx:∀j:Nat,j<(d.aj.getD c.toNat 0).toNat->iF d.aj (p.set c.toNat j)=true:=fun j hj=>Qx hp og ⟨by omega,by omega⟩;simp only[gy];by_cases wE:0<=v/\(ay d v).var=c
  .obtain⟨hv0,hvc⟩:=wE;have a4Z:v.toNat<d.au.length:=by have:=hv.1;omega
   have LV:((aT d v).length:Int)=d.aj.getD c.toNat 0:=by rw[<-hvc];exact h.ksz v.toNat a4Z
   have hkn:(d.aj.getD c.toNat 0).toNat=(aT d v).length:=(by omega);have Dc:∀j,j<(aT d v).length->(aT d v).getD j 0<v:=fun j hj=>by have h9:=(h.Aj v.toNat a4Z j hj).1;have h9:(aT d v).getD j 0<(v.toNat:Int):=h9;omega
   have hrf:∀j,j<(aT d v).length->jQ d ((aT d v).getD j 0) d.au.length:=fun j hj=>⟨by have:=Dc j hj;have:=hv.1;omega,(h.Aj v.toNat a4Z j hj).2⟩;have amw:∀j,j<(aT d v).length->a+1<=FN d.aB d.au ((aT d v).getD j 0):=fun j hj=>by have:=hk v.toNat a4Z j hj;have:d.aB.idxOf (ay d v).var+1<=FN d.aB d.au ((aT d v).getD j 0):=this;rw[hvc,hia]at this;exact this
   have amx:∀j:Nat,j<(aT d v).length->∀q,iF d.aj q=true->Agr d.aj r q (p.set c.toNat j)->To d q ((aT d v).getD j 0) (l.getD (eH d.aj q).toNat V0):=fun j hj q hq hag=>by
    have Zt:q.getD c.toNat 0=j:=by have:=hag c.toNat nR (by rw[aic og.1];exact hcr);rw[this,List.getD,a1C (by omega)];rfl
    have t0:=hto q hq (Agr.back og hag);revert t0;generalize l.getD (eH d.aj q).toNat V0=w;intro t0;cases t0 with
    |fin h9=>omega
    |step _ t=>
     rw[hvc,Zt,a5M]at t;exact t
   rw[hkn];by_cases D8:v∈x.k.map (·.1)
   .
    have hKn:Kn d x v:=by unfold Kn;rw[a0S (by omega)];exact D8
    obtain⟨F',rfl⟩:∃k,F=k+1:=⟨F-1,by omega⟩;rw[Oc hKn];obtain⟨i1,i2,i3⟩:=hi v D8;have inv:=bP (g:=wQ (gy d.aj l r) c p) (m:=(aT d v).length) (k:=0) (s:=([],(x.e,x.n))) (fun k y=>y=(((aT d v).map (wz d x)).take k,(x.e,x.n))) (by simp) (fun j y _ hj hy=>by have hj:j<(aT d v).length:=(by omega);subst hy;have ih:=YV h QO hk r (a+1) (p.set c.toNat j) ((aT d v).getD j 0) x (F'+1) wF.symm aS (Gx j (by omega)) hx hi Zu (hrf j hj) (amw j hj) (by omega) (by have:=Dc j hj;omega) (amx j hj);rw[Oc (i1 j hj)]at ih;unfold wQ;rw[ih];refine ads ?_ rfl;show(((aT d v).map (wz d x)).take j)++[wz d x ((aT d v).getD j 0)]=_;have hjm:j<((aT d v).map (wz d x)).length:=(by simpa using hj);rw[a6b hjm];simp[List.getD,a0A hj])
    rw[a3C]at inv;rw[inv,a9L (by simp)];rw[hvc]at i2 i3;obtain⟨n1,n2⟩:=YP h.bG.sz Zu og (ks:=(aT d v).map (wz d x)) (by simpa using LV);show(Ey x.n c _,(x.e,qg x.n c _))=_;rw[<-n1,<-n2,i2,i3];unfold wz;rw[a0S (by omega)]
   obtain⟨F',rfl⟩:∃k,F=k+1:=⟨F-1,by omega⟩;have key:∀j,j<=(aT d v).length->(aQ (wQ (gy d.aj l r) c p) j 0 ([],(x.e,x.n)))=((aQ (Dk d F' v) j 0 (List.replicate (aT d v).length 0,x)).1.take j,((aQ (Dk d F' v) j 0 (List.replicate (aT d v).length 0,x)).2.e,(aQ (Dk d F' v) j 0 (List.replicate (aT d v).length 0,x)).2.n))/\(aQ (Dk d F' v) j 0 (List.replicate (aT d v).length 0,x)).1.length=(aT d v).length/\(Eu d (aQ (Dk d F' v) j 0 (List.replicate (aT d v).length 0,x)).2/\v∉(aQ (Dk d F' v) j 0 (List.replicate (aT d v).length 0,x)).2.k.map (·.1))/\YT d (aQ (Dk d F' v) j 0 (List.replicate (aT d v).length 0,x)).2/\NOk d.aj (aQ (Dk d F' v) j 0 (List.replicate (aT d v).length 0,x)).2.n:=by
    intro j
    induction j with
    |zero=>intro _;exact⟨rfl,by simp[aQ],⟨hx,D8⟩,hi,Zu⟩
    |succ j ih=>
     intro hj;have hj:j<(aT d v).length:=hj;obtain⟨q1,q2,⟨q3,q3'⟩,q4,q5⟩:=ih (by omega);rw[qO,qO,a3C];generalize aQ (Dk d F' v) j 0 (List.replicate (aT d v).length 0,x)=y at q1 q2 q3 q3' q4 q5;rw[q1];have SG:=Dc j hj;have ih2:=YV h QO hk r (a+1) (p.set c.toNat j) ((aT d v).getD j 0) y.2 F' wF.symm aS (Gx j (by omega)) q3 q4 q5 (hrf j hj) (amw j hj) (by omega) (by omega) (amx j hj);refine⟨?_,by simp[Dk,q2],⟨QD h F' _ y.2 q3 (hrf j hj),YK F' _ v y.2 SG q3' (by omega) (fun i hi k hk=>(h.Aj i hi k hk).1) (fun h5=>⟨h5,(hrf j hj).1⟩)⟩,(a0V h F' _ y.2 (by omega) (by omega) (hrf j hj) q3 q4).1,a0W h F' _ y.2 (hrf j hj) q5⟩;unfold wQ;rw[ih2];refine ads ?_ rfl;show y.1.take j++[(bY d F' ((aT d v).getD j 0) y.2).1]=(y.1.set j (bY d F' ((aT d v).getD j 0) y.2).1).take (j+1);rw[a6b (by simp;omega),List.take_set_of_le (a1j _),List.getElem_set_self]
   obtain⟨q1,q2,⟨q3,q3'⟩,q4,q5⟩:=key _ (a1j _);rw[q1];have e:bY d (F'+1) v x=(eX (aQ (Dk d F' v) (aT d v).length 0 (List.replicate (aT d v).length 0,x)).2.n (ay d v).var (aQ (Dk d F' v) (aT d v).length 0 (List.replicate (aT d v).length 0,x)).1,⟨(aQ (Dk d F' v) (aT d v).length 0 (List.replicate (aT d v).length 0,x)).2.e,dI (aQ (Dk d F' v) (aT d v).length 0 (List.replicate (aT d v).length 0,x)).2.n (ay d v).var (aQ (Dk d F' v) (aT d v).length 0 (List.replicate (aT d v).length 0,x)).1,(aQ (Dk d F' v) (aT d v).length 0 (List.replicate (aT d v).length 0,x)).2.k++[(v,eX (aQ (Dk d F' v) (aT d v).length 0 (List.replicate (aT d v).length 0,x)).2.n (ay d v).var (aQ (Dk d F' v) (aT d v).length 0 (List.replicate (aT d v).length 0,x)).1)]⟩):=by rw[bY,a0S (by simpa using hv0),a0S (by simpa using D8)]
   rw[e];generalize aQ (Dk d F' v) (aT d v).length 0 (List.replicate (aT d v).length 0,x)=y at q2 q5;rw[a9L (by omega),hvc];obtain⟨n1,n2⟩:=YP h.bG.sz q5 og (ks:=y.1) (by rw[q2];exact LV);rw[n1,n2]
  
  have amy:a+1<=FN d.aB d.au v:=by
   unfold FN at MV ⊢;split
   .omega
   rename_i c1;rw[a0S c1]at MV;have iO:d.aB.idxOf (d.au.getD v.toNat kP).var≠a:=fun e=>by
    apply wE;refine⟨by omega,?_⟩;have a4Z:v.toNat<d.au.length:=by have:=hv.1;omega
    have hm:=mW QO (h.var v.toNat a4Z);have h1:=a9B (a5H.2 hm);have e:d.aB.idxOf (fK d v.toNat).var=a:=e;show(fK d v.toNat).var=c;rw[hc,<-h1];congr 1
   omega
  obtain⟨z1,z2,z3⟩:=a0V h F v x hF1 hF hv hx hi;have Ro:=QD h F v x hx hv;have afM:=a0W h F v x hv Zu;have amA:bY d F v (bY d F v x).2=((bY d F v x).1,(bY d F v x).2):=by
   have e:∀y,Kn d y v->wz d y v=(bY d F v x).1->bY d F v y=((bY d F v x).1,y):=fun y h1 h2=>by obtain⟨F',rfl⟩:∃k,F=k+1:=⟨F-1,by omega⟩;rw[Oc h1,h2]
   exact e _ z2 z3
  have amB:∀j:Nat,∀q,iF d.aj q=true->Agr d.aj r q (p.set c.toNat j)->To d q v (l.getD (eH d.aj q).toNat V0):=fun j q hq hag=>hto q hq (Agr.back og hag);have inv:=bP (g:=wQ (gy d.aj l r) c p) (m:=(d.aj.getD c.toNat 0).toNat) (k:=0) (s:=([],(x.e,x.n))) (fun k y=>(k=0/\y=([],(x.e,x.n)))\/(0<k/\y=(List.replicate k (bY d F v x).1,((bY d F v x).2.e,(bY d F v x).2.n)))) (.inl ⟨rfl,rfl⟩) (fun j y _ hj hy=>by
   right;refine⟨by omega,?_⟩;rcases hy with⟨rfl,rfl⟩|⟨h0,rfl⟩
   .have ih:=YV h QO hk r (a+1) (p.set c.toNat ((0:Nat):Int)) v x F wF.symm aS (Gx 0 (by omega)) hx hi Zu hv amy hF1 hF (amB 0);unfold wQ;rw[ih];rfl
   have ih:=YV h QO hk r (a+1) (p.set c.toNat ((j:Nat):Int)) v (bY d F v x).2 F wF.symm aS (Gx j (by omega)) Ro z1 afM hv amy hF1 hF (amB j);rw[amA]at ih;unfold wQ;rw[ih];refine ads ?_ rfl;show List.replicate j _++[_]=_;rw[List.replicate_succ'])
  rw[a3C]at inv;rcases inv with⟨h0,_⟩|⟨h0,e⟩
  .omega
  rw[e];obtain⟨f1,f2⟩:=a8P (n:=(d.aj.getD c.toNat 0).toNat) (by omega) (bY d F v x).1;show(Ey _ c _,(_,qg _ c _))=_;unfold Ey qg;rw[a15 f1,a15 f1,f2]
theorem QU{d}(hl:aW d=0)(ho:d.aB.length<=ah)(he:d.aO.length<=ah):eY d=je d.aj d.aB (cellsD d)/\OfP d.aj d.aB (cellsD d):=by
 obtain⟨h,hn⟩:=jy ho he (by rw[hl];rfl);have hf:(aY d.aj d.aB != 0)=false:=by
  unfold aW at hl;split at hl
  .rename_i c;rw[hl]at c;cases c
  rename_i c;simpa using c
 obtain⟨bG,QO⟩:=iL.1 (show aY d.aj d.aB=0 by simpa using hf);have hlen:((cellsD d).length:Int)=bC d.aj:=by unfold cellsD;rw[a4P,a6u,bG.RZ]
 have hr:=h.root;have hr1:=hr.1;have hto:∀q,iF d.aj q=true->To d q d.root ((cellsD d).getD (eH d.aj q).toNat V0):=fun q hq=>by
  have hrn:=xR hq bG.sz;have t:=To.of h hq 6001 d.root (by omega) hr;have e:(cellsD d).getD (eH d.aj q).toNat V0=vT d q:=by
   have aS:(eH d.aj q).toNat<uK d.aj:=by unfold uK;omega
   unfold cellsD;rw[List.getD,a0A (by simpa using aS)];simp only[aa1,afe,a5K];rw[show(((eH d.aj q).toNat:Nat):Int)=eH d.aj q by omega,VK hq bG.sz]
  rw[e];exact t
 have key:=YV (l:=cellsD d) h QO (YU hl) d.aB 0 (List.replicate d.aj.length 0) d.root ZA 6002 rfl (a5D _) (Jo bG.sz) Wp (fun v hv=>by cases hv) (fun b hb=>by cases hb) hr (a5D _) (by omega) (by omega) (fun q hq _=>hto q hq);refine⟨?_,⟨bG,QO,hlen⟩⟩;have key:gy d.aj (cellsD d) d.aB (List.replicate d.aj.length 0) ([],[])=_:=key;unfold eY je;rw[key]
open Go Tw Pv bQ
theorem QV(k):Hg (i64.wrap k):=by
 have e:i64.wrap k=if k%(2^64:Int)>=(2^63:Int)then k%(2^64:Int)-2^64 else k%(2^64:Int):=by
  show(if(true&&decide (k%(2^64:Int)>=(2^63:Int)))=true then _ else _)=_;by_cases c:k%(2^64:Int)>=(2^63:Int)
  .rw[a15 (by simpa using c),a15 c];rfl
  rw[a0S (by simpa using c),a0S c];rfl
 rw[e];unfold Hg;split<;>constructor<;>omega
def EnW(x:EN):Prop:=∀b∈x.2,∀k∈b.aA,Hg k
theorem a8Q{s l}(hs:mO s):∀(r p) (x),(∀c∈r,fZ c s.length)->EnW x->(gy s l r p x).2.2.length<2^61->EnW (gy s l r p x).2/\Hg (gy s l r p x).1
 | [],p,x,_,hx,_=>⟨hx,QV _⟩
 |c::r,p,x,hr,hx,hE=>by
  have og:=hr c (by simp);have hz:=hs _ (bV (s:=s) (k:=c.toNat) (by have:=og.1;have:=og.2;omega));have hN:=Jp (aQ (wQ (gy s l r) c p) (s.getD c.toNat 0).toNat 0 ([],x)).2.2 c (aQ (wQ (gy s l r) c p) (s.getD c.toNat 0).toNat 0 ([],x)).1;have hE:(qg (aQ (wQ (gy s l r) c p) (s.getD c.toNat 0).toNat 0 ([],x)).2.2 c (aQ (wQ (gy s l r) c p) (s.getD c.toNat 0).toNat 0 ([],x)).1).length<2^61:=hE;have inv:=bP (g:=wQ (gy s l r) c p) (m:=(s.getD c.toNat 0).toNat) (k:=0) (s:=([],x)) (fun k y=>y.1.length=k/\(y.2.2.length<2^61->EnW y.2/\∀v∈y.1,Hg v)) ⟨rfl,fun _=>⟨hx,by simp⟩⟩ (fun j y _ hj hy=>by
   refine⟨by simp[wQ,hy.1],fun hE2=>?_⟩;have hE2:(gy s l r (p.set c.toNat j) y.2).2.2.length<2^61:=hE2;have hp:=(QM (s:=s) (l:=l) r (p.set c.toNat j) y.2).2.length_le;obtain⟨y1,y2⟩:=hy.2 (by omega);obtain⟨z1,z2⟩:=a8Q hs r (p.set c.toNat j) y.2 (fun c hc=>hr c (by simp[hc])) y1 hE2;refine⟨z1,fun v hv=>?_⟩;have hv:v∈y.1++[(gy s l r (p.set c.toNat j) y.2).1]:=hv;rcases a3E.1 hv with hv|hv
   .exact y2 v hv
   rw[a2m.1 hv];exact z2)
  rw[a3C]at inv;simp only[gy];generalize aQ (wQ (gy s l r) c p) (s.getD c.toNat 0).toNat 0 ([],x)=y at inv hN hE;obtain⟨ks,E,N⟩:=y;have hN:N <+: qg N c ks:=hN;have hE:(qg N c ks).length<2^61:=hE;obtain⟨i0,i1⟩:=inv;have i0:ks.length=(s.getD c.toNat 0).toNat:=i0;obtain⟨i1,i2⟩:=i1 (by have:=hN.length_le;show N.length<2^61;omega);have i1:∀b∈N,∀k∈b.aA,Hg k:=i1;have i2:∀v∈ks,Hg v:=i2;refine⟨fun b hb=>?_,?_⟩
  .have hb:b∈qg N c ks:=hb;unfold qg at hb;split at hb
   .exact i1 b hb
   split at hb
   .exact i1 b hb
   rcases a3E.1 hb with hb|hb
   .exact i1 b hb
   rw[a2m.1 hb];exact i2
  show Hg (Ey N c ks);by_cases hf:(ks.all fun x=>x==ks.getD 0 0)=true
  .rw[show Ey N c ks=ks.getD 0 0 from a15 hf];exact i2 _ (bV (s:=ks) (k:=0) (by omega))
  rw[show Ey N c ks=(N.idxOf (⟨c,ks⟩:Br):Nat)from a0S hf];have:=(Wu (N:=N) (c:=c) hf).1;exact⟨by omega,by omega⟩
theorem abZ{s o l}(h:OfP s o l)(hv:∀v∈l,vOk v=true)(hf:∀v∈l,0<=v.f):Jg (je s o l)/\gZ (je s o l)=0:=by
 obtain⟨hP,hn,ho⟩:=h.p;obtain⟨h1,h2,h3,h4,h5⟩:=Hl h hv;have hw:=BP h.bG.sz h.ord;have hm:=h.bG.many;have hlen:=Wq (l:=l) h.bG.sz o (List.replicate s.length 0) ([],[]) hP.ord;have SI:(gy s l o (List.replicate s.length 0) ([],[])).2.2.length+1<=0+wO s o:=hlen.2;obtain⟨w1,w2⟩:=a8Q (l:=l) h.bG.sz o (List.replicate s.length 0) ([],[]) hP.ord (fun b hb=>by cases hb) (by omega);have hR:Jg (je s o l):=⟨fun i hi k hk=>by
  have hb:fK (je s o l) i∈(je s o l).au:=by show(je s o l).au.getD i kP∈_;rw[List.getD,a0A hi];exact a5B hi
  exact w1 _ hb _ (bV hk),w2,fun v hv=>hf v (h3 v hv)⟩
 refine⟨hR,?_⟩;obtain⟨ht,hn6⟩:=jy (d:=je s o l) hP.a8I (by unfold ah;omega) (by rw[h1];rfl);have hc:=(QU (d:=je s o l) h1 hP.a8I (by unfold ah;omega)).1;rw[a0T h hv]at hc;have hd:=(Us ht hR (by omega) hn6).1 hc;unfold gZ;rw[a0S (by rw[h1];decide),a0S (by rw[hd];decide)]
open Go Tw Pv bQ
def aeK:gU aH:=bU 121 (a1 dA) iA (fun p=>(tK p).2) (fun p=>[Jg p,p.aj.length<=ah,p.aB.length<=2^20,p.aO.length+1<=ah]) amu
theorem amC:Gd aeK:=arW.add fun n hO p hp=>aN hO (.o (hp _ gQ) (.o (hp _ vX) (.o (hp _ hh2) (.o (hp _ (.tail _ (.tail _ (.tail _ (.head _))))) .rr))))
def Aw(d:Dg):Dg×Int:=if((bH d).2 != 0)=true then(gK,(bH d).2)else(eY (bH d).1.d,0)
def a8R:gU aH:=bU 108 (a1 dA) (dU (a2 dA iA)) (fun p=>Aw p) (fun p=>[Jg p,p.aj.length<=ah,p.aB.length<=2^20,p.aO.length<=ah,((bH p).2 != 0)=false->ClP (bH p).1]) aeK
theorem aeL:Gd a8R:=amC.add fun n hO p hp=>aN hO (.o (hp _ vX) (.o (hp _ hh2) (.o (hp _ (.tail _ (.tail _ (.tail _ (.head _))))) (.sh (fun _=>.rn (.dB [.agg [.nil .aP,.nil .aP,.nil .aP,.nil .aP,.int .i64 0],.int .i64 (bH p).2]) rfl) fun h=>.o (hp _ (.tail _ (.tail _ (.tail _ (.tail _ (.head _))))) h) .rr))))
def amD:gU aH:=bU 77 (a3 iA iA iA) tA (fun p=>(if decide (p.2.2>=p.1)=true then decide (p.2.2<=p.2.1)else false)) np a8R
theorem as2:Gd amD:=aeL.add fun n hO p hp=>aN hO (.ss .rr .rr)
def a3g:gU aH:=bU 123 (a2 (a7D frA) dA) tA (fun p=>(if decide (p.2.aj=p.1.1)=true then decide (p.2.aB=p.1.2)else false)) (fun p=>[p.2.aj.length<=ah,p.2.aB.length<=ah]) amD
theorem amE:Gd a3g:=as2.add fun n hO p hp=>aN hO (.o (hp _ gQ) (.ss (.o (hp _ vX) .rr) .rr))
end Go.Proofs.YtmobpoiejckagaaGreat
namespace Pv
open Go Tw
variable{X:mX}{P:LI1}
theorem nU.YW(hX:bT X P){call f first xs cap vs v v' ext ext'}(hc:nU X P call f vs v ext)(hv:views [] (first++xs++cap)=some vs)(hs:sD X 0 ext=some ext')(e:shift 0 v=v') (he:(if yD v||ext.any (hasB X)then bD (lC.kU (first++xs++cap)) []else [])=([]:List (PB X.Γ))):cZ X P call (.fn f first cap) xs [] v' ext':=by
 subst e;intro A m h tf rJ hr hf hx;cases hf with
 |gone hi _ _=>simp[bF]at hi
 |fn p1 p2 p3 p4=>
  obtain⟨w,h',m1,c1,c2,c3,c4,c5⟩:=IX hX hc hr hv hs ⟨p1,p2⟩ hx ⟨p3,p4⟩;rw[he]at c2;exact⟨w,h',[],m1,c1,c2,c3,c4,c5,fun b hb=>by cases hb⟩
end Pv
namespace Go.Proofs.YtmobpoiejckagaaGreat
open Go Tw Pv bQ
def a5a{α:Type}(g:α->Bool)(i:Nat)(x:α)(s:Unit):Unit⊕(Nat×α×Unit):=if(g x)=true then .inr (i,x,s)else .inl ()
def ahj{α:Type}(d:α)(g:α->Bool)(l:List α):Int:=if(jO (nI (a5a g) l 0 ()))=true then -1 else(((Eb (0,d,()) (nI (a5a g) l 0 ())).1:Int))
theorem a8S{α}(g:α->Bool):∀(l) (i),jO (nI (a5a g) l i ())=!(l.any g)
 | [],i=>rfl
 |x::l,i=>by
  simp only[nI,a5a,adz];cases g x
  .simpa using a8S g l (i+1)
  simp[jO]
theorem ahk{α}(d:α)(g l):decide (ahj d g l>=0)=l.any g:=by have:=a8S g l 0;unfold ahj;rw[this];cases l.any g<;>simp
theorem dw{α:Type}{l:List α}{k d}(h:k<l.length):l.getD k d∈l:=by simp[List.getD,a0A h]
abbrev ahl(f:Nat)(a c:List (PV aH))(H:List (PB aH))(l:List Dg)(i:Int)(x:List (Nat×PE aH)):bJ aH:=⟨[(0,xL 26 l),(1,.val (.fn f a c)),(7,xi l.length),(8,xi i)]++x,[],H⟩
def amF(f:Nat)(a c:List (PV aH))(H:List (PB aH))(l:List Dg):Unit⊕(Nat×Dg×Unit)->Ex×bJ aH
 |.inl _=>(.exit 0,ahl f a c H l l.length [(9,xl false)])
 |.inr r=>(.ret,⟨[(4,xi r.1)],[],H⟩)
theorem as4{n f:Nat}{a c:List (PV aH)}{H:List (PB aH)}{g}(l)(hf:∀x∈l,jd n (.fn f a c) [.agg x.ps] H (.bool (g x)) H)(hl:l.length<=ah):jd (n+1) (.fn 204 [] []) [lDg l,.fn f a c] H (iA.put (ahj gK g l)) H:=by
 have lp:JH n 204 0 H.length (ahl f a c H l 0 []) (amF f a c H l (nI (a5a g) l 0 ())).1 (amF f a c H l (nI (a5a g) l 0 ())).2:=
  Y5 (st:=fun i _=>ahl f a c H l i []) gK (fun _ _=>True) (by kernel_rfl) hl Ru trivial (fun k s n hk _ ih=>aI gX (.b (aV hk) (.o (aF hk) (.k (hf (l.getD k gK) (dw hk)) (.ls (.ou nofun) (.nx (ih _ trivial))))))) (fun s _=>aI gX (.b (dZ l.length) (.ou nofun)))
 exact jI gX (first:=[]) (cap:=[]) (.szh (fun h=>.w (kW lp () h) .sr) (fun h=>.w (kX lp (0,gK,()) h) .sr))
theorem as5{n f:Nat}{a c:List (PV aH)}{H:List (PB aH)}{g}(l)(hf:∀x∈l,jd n (.fn f a c) [.agg x.ps] H (.bool (g x)) H)(hl:l.length<=ah):jd (n+2) (.fn 173 [] []) [lDg l,.fn f a c] H (tA.put (l.any g)) H:=by rw[<-ahk gK g l];have h1:=as4 l hf hl;exact jI gX (first:=[]) (cap:=[]) (.k h1 .sr)
def o7(f:LI0×LI0)(d:Dg):Bool:=if decide (d.aj=f.1)=true then decide (d.aB=f.2)else false
abbrev a8T(f:LI0×LI0):PV aH:=.fn 123 [.agg [lI f.1,lI f.2]] []
structure nT(d:Dg):Prop where
 r:Jg d
 s:d.aj.length<=ah
 o:d.aB.length<=2^20
 e:d.aO.length+1<=ah
theorem as6{n}(hO:Ok n a3g)(f l)(hp:∀d∈l,nT d)(hl:l.length<=ah):jd (n+4) (.fn 122 [] []) [a8T f,lDg l] [] (tA.put (l.all (o7 f))) []:=by
 have hs:∀d∈l,jd n (a8T f) [.agg d.ps] [] (tA.put (o7 f d)) []:=fun d hd=>nU.YW hX (first:=[.agg [lI f.1,lI f.2]]) (cap:=[]) (hO 123 [.agg [lI f.1,lI f.2],.agg d.ps] (tA.put (o7 f d)) [] [d.aj.length<=ah,d.aB.length<=ah] (by kernel_rfl) (fun p h=>by
  have h9:=hp d hd;have h8:=h9.o;rcases a1B.1 h with rfl|h
  .exact h9.s
  rw[a2m.1 h];exact h8)) rfl rfl rfl rfl
 have h1:∀d∈l,jd (n+1) (.fn 174 [] [.ptr 0 0 1]) [.agg d.ps] [.cells [a8T f]] (tA.put (!(o7 f d))) [.cells [a8T f]]:=fun d hd=>
  jI gX (first:=[]) (.fr [] (hs d hd) .sr)
 have h2:=as5 l h1 hl;rw[<-Fa l (o7 f)];exact cZ.drop hX (Ea hX gX (first:=[]) (cap:=[]) (H1:=[.cells [a8T f]]) (by kernel_rfl) (.k h2 .sr)) rfl rfl
abbrev wCk(l:List Dg)(i:Int)(x:List (Nat×PE aH)):bJ aH:=⟨[(0,xL 26 l),(6,xL 26 l),(7,xi l.length),(8,xi i)]++x,[],[]⟩
abbrev Ux(l:List Dg)(k:Nat):Bool:=(tK (l.getD k gK)).2 != 0
def zCk(l:List Dg):Unit⊕Nat->Ex×bJ aH
 |.inl _=>(.exit 0,wCk l l.length [(9,xl false)])
 |.inr k=>(.ret,⟨[(2,xi (tK (l.getD k gK)).2)],[(l.getD k gK).ps],[]⟩)
theorem lCk{n}(hO:Ok n a3g){l}(hp:∀d∈l,nT d)(hl:l.length<=ah):Lp n 76 0 (wCk l 0 []) (zCk l (aZ (Ux l) l.length)).1 (zCk l (aZ (Ux l) l.length)).2:=by
 refine iI (st:=fun i _=>wCk l i []) (g:=gS (Ux l)) (out:=zCk l) (fun _ _=>True) (by kernel_rfl) hl trivial (fun k u m hk _ ih=>?_) (fun _ _=>?_)
 .have h9:=hp _ (dw (d:=gK) hk);unfold gS Ux;exact aI hO (.b (aV hk) (.o (aF hk) (.o h9.r (.o h9.s (.o h9.o (.o h9.e (.ls (.ou nofun) (.nx (ih _ trivial)))))))))
 exact aI hO (.b (dZ l.length) (.ou nofun))
def bf(l:List Dg):Int:=if jO (aZ (Ux l) l.length)=true then(if(!(l.all (o7 ((l.getD 0 gK).aj,(l.getD 0 gK).aB))))=true then 2 else 0)else(tK (l.getD (Eb 0 (aZ (Ux l) l.length)) gK)).2
def amG:gU aH:=bU 76 (a1 VW) iA bf (fun l=>[∀d∈l,nT d,0<l.length/\l.length<=ah]) a3g
theorem as9:Gd amG:=amE.deep 4 fun n hn hO l hp=>by have h1:∀d∈l,nT d:=hp _ gQ;have h2:0<l.length/\l.length<=ah:=hp _ vX;have hs:=as6 (n:=n-4) (hO (n-4) (by omega)) ((l.getD 0 gK).aj,(l.getD 0 gK).aB) l h1 h2.2;rw[show n-4+4=n by omega]at hs;have i0:fZ 0 l.length:=⟨by omega,by omega⟩;have hl:=lCk (hO n (by omega)) h1 h2.2;show nU X0 Qp _ _ _ (iA.put (bf l)) _;unfold bf;exact aN (hO n (by omega)) (.zh (fun h=>.w (kW hl () h) (.o i0 (.o i0 (.fr [] hs (.ss .rr .rr))))) (fun h=>.w (kX hl 0 h) .rr))
open Go Tw Pv bQ
theorem a8U{n:Int}(h:0<=n/\n<=6):n=0\/n=1\/n=2\/n=3\/n=4\/n=5\/n=6:=by omega
theorem a8V:(0:Int)<=32:=by decide
def aeM:gU aH:=bU 206 (a2 pA pA) (dU (a2 pA pA)) (fun p=>(0,p.2)) (fun p=>[p.1=1,0<=p.2/\p.2<=6]) amG
theorem amH:Gd aeM:=as9.add fun n hO p hp=>by
 obtain⟨a,b⟩:=p;have h1:a=1:=hp _ gQ;have h2:0<=b/\b<=6:=hp _ vX;subst h1;rcases a8U h2 with rfl|rfl|rfl|rfl|rfl|rfl|rfl
 all_goals exact aN hO (.o a8V (.o a8V (.o a8V (.o a8V (.o a8V .rr)))))
def aeN:gU aH:=bU 175 (a2 pA pA) (dU (a2 pA pA)) (fun p=>(0,p.2)) (fun p=>[p.1=1,0<=p.2/\p.2<=6]) aeM
theorem amI:Gd aeN:=amH.add fun n hO p hp=>aN hO (.o (hp _ gQ) (.o (hp _ vX) .rr))
def Gl:gU aH:=bU 124 (a2 nY iA) nY (fun p=>List.replicate p.2.toNat (-1)) (fun p=>[p.1=[-1],0<=p.2/\p.2<=6]) aeN
theorem Uy:Gd Gl:=amI.add fun n hO p hp=>by
 obtain⟨a,b⟩:=p;have h1:a=[-1]:=hp _ gQ;have h2:0<=b/\b<=6:=hp _ vX;subst h1;rcases a8U h2 with rfl|rfl|rfl|rfl|rfl|rfl|rfl
 .exact aN hO (.b (rfl:decide ((0:Int)<0)=false) (.o aiG (.o aj1 (.b (rfl:decide ((0:Int)>0)=false) (.b (rfl:decide ((0:Int)>9223372036854775807)=false) (.o aiN (.o aiD (.o (show(0:Int)<=(ah:Int) by decide) (.m 8 le8 (.b (rfl:decide ((0:Int)<0)=false) .rr))))))))))
 .exact aN hO (.b (rfl:decide ((1:Int)<0)=false) (.o aiG (.o aj2 (.b (rfl:decide ((0:Int)>0)=false) (.b (rfl:decide ((1:Int)>9223372036854775807)=false) (.o aiG (.o aiE (.o (show(1:Int)<=(ah:Int) by decide) (.m 8 le8 (.b (rfl:decide ((1:Int)<1)=false) .rr))))))))))
 .exact aN hO (.b (rfl:decide ((2:Int)<0)=false) (.o aiG (.o aj6 (.b (rfl:decide ((0:Int)>0)=false) (.b (rfl:decide ((2:Int)>9223372036854775807)=false) (.o (rfl:(2:Int)=2) (.o aiF (.o (show(2:Int)<=(ah:Int) by decide) (.m 8 le8 (.b (rfl:decide ((1:Int)<2)=true) (.o aiE (.o aiO (.o aj3 (.o aiD (.o aiE (.o aiO (.b (rfl:decide ((2:Int)<2)=false) .rr)))))))))))))))))
 .exact aN hO (.b (rfl:decide ((3:Int)<0)=false) (.o aiG (.o aj8 (.b (rfl:decide ((0:Int)>0)=false) (.b (rfl:decide ((3:Int)>9223372036854775807)=false) (.o (rfl:(3:Int)=3) (.o aj7 (.o (show(3:Int)<=(ah:Int) by decide) (.m 8 le8 (.b (rfl:decide ((1:Int)<3)=true) (.o aiE (.o aiP (.o aiQ (.o aiD (.o aiE (.o aiP (.b (rfl:decide ((2:Int)<3)=true) (.o aiF (.o aiR (.o aiQ (.o aiD (.o aiF (.o aiR (.b (rfl:decide ((3:Int)<3)=false) .rr))))))))))))))))))))))))
 .exact aN hO (.b (rfl:decide ((4:Int)<0)=false) (.o aiG (.o aj9 (.b (rfl:decide ((0:Int)>0)=false) (.b (rfl:decide ((4:Int)>9223372036854775807)=false) (.o (rfl:(4:Int)=4) (.o aiI (.o (show(4:Int)<=(ah:Int) by decide) (.m 8 le8 (.b (rfl:decide ((1:Int)<4)=true) (.o aiE (.o aiS (.o aiT (.o aiD (.o aiE (.o aiS (.b (rfl:decide ((2:Int)<4)=true) (.o aiF (.o aiU (.o aiT (.o aiD (.o aiF (.o aiU (.b (rfl:decide ((4:Int)<4)=false) .rr))))))))))))))))))))))))
 .exact aN hO (.b (rfl:decide ((5:Int)<0)=false) (.o aiG (.o ajb (.b (rfl:decide ((0:Int)>0)=false) (.b (rfl:decide ((5:Int)>9223372036854775807)=false) (.o (rfl:(5:Int)=5) (.o aja (.o (show(5:Int)<=(ah:Int) by decide) (.m 8 le8 (.b (rfl:decide ((1:Int)<5)=true) (.o aiE (.o aiV (.o aiL (.o aiD (.o aiE (.o aiV (.b (rfl:decide ((2:Int)<5)=true) (.o aiF (.o aiW (.o aiL (.o aiD (.o aiF (.o aiW (.b (rfl:decide ((4:Int)<5)=true) (.o aiI (.o aiX (.o aiL (.o aiD (.o aiI (.o aiX (.b (rfl:decide ((5:Int)<5)=false) .rr)))))))))))))))))))))))))))))))
 .exact aN hO (.b (rfl:decide ((6:Int)<0)=false) (.o aiG (.o ajd (.b (rfl:decide ((0:Int)>0)=false) (.b (rfl:decide ((6:Int)>9223372036854775807)=false) (.o (rfl:(6:Int)=6) (.o ajc (.o (show(6:Int)<=(ah:Int) by decide) (.m 8 le8 (.b (rfl:decide ((1:Int)<6)=true) (.o aiE (.o aiY (.o aiM (.o aiD (.o aiE (.o aiY (.b (rfl:decide ((2:Int)<6)=true) (.o aiF (.o aiZ (.o aiM (.o aiD (.o aiF (.o aiZ (.b (rfl:decide ((4:Int)<6)=true) (.o aiI (.o aj0 (.o aiM (.o aiD (.o aiI (.o aj0 (.b (rfl:decide ((6:Int)<6)=false) .rr)))))))))))))))))))))))))))))))
open Go Tw Pv bQ
structure S3 where
 a:Int
 b:Int
 c:Int
 deriving DecidableEq
abbrev S3.ps(s:S3):List (PV aH):=[.int .i64 s.a,.int .i64 s.b,.int .i64 s.c]
def S3.get(s:S3):Nat->Int
 | 0=>s.a
 | 1=>s.b
 |_=>s.c
def S3.set(s:S3)(k:Nat)(v:Int):S3:=match k with
 | 0=>⟨v,s.b,s.c⟩
 | 1=>⟨s.a,v,s.c⟩
 |_=>⟨s.a,s.b,v⟩
structure Jb where
 s:LI0
 o:LI0
 D:List Dg
 g:LI0
abbrev Jb.ps(J:Jb)(op:PV aH):List (PV aH):=[lI J.s,lI J.o,lDg J.D,lI J.g,op]
def lT(d:Dg)(x c:Int):Bool:=if decide (x>=0)=true then((ay d x).var==c)else false
def Ns(d:Dg)(x c g:Int):Int:=if lT d x c=true then(ay d x).aA.getD g.toNat 0 else x
theorem ac0{d x c}(e:decide (x>=0)=false):lT d x c=false:=by unfold lT;rw[e];rfl
theorem a8W{d x c}(e:decide (x>=0)=true):lT d x c=((ay d x).var==c):=by unfold lT;rw[e];rfl
abbrev lU(D:List Dg)(k:Nat):Dg:=D.getD k gK
def kL(D:List Dg)(s:S3)(c:Int):Bool:=!(jO (aZ (fun k=>lT (lU D k) (s.get k) c) D.length))
def bM(D:List Dg)(s:S3)(c g:Int):S3:=aQ (fun k y=>y.set k (Ns (lU D k) (y.get k) c g)) D.length 0 s
def fD(D:List Dg):S3:=aQ (fun k y=>y.set k (lU D k).root) D.length 0 ⟨0,0,0⟩
theorem three{k n}(h:k<n)(hn:n<=3):k=0\/k=1\/k=2:=by omega
theorem m3{n}(h:n<=3):n<=ah:=by unfold ah;omega
section
variable{M f:Nat}{a cc:List (PV aH)}{H:List (PB aH)}
abbrev wAs(J:Jb)(op:PV aH)(H:List (PB aH))(s:S3)(c:Int)(i:Int)(x:List (Nat×PE aH)):bJ aH:=⟨[(2,xi c),(4,.loc 1 0),(10,xL 26 J.D),(11,xi J.D.length),(12,xi i)]++x,[J.ps op,s.ps],H⟩
def zAs(J:Jb)(op:PV aH)(H:List (PB aH))(s:S3)(c:Int):Unit⊕Nat->Ex×bJ aH
 |.inl _=>(.exit 0,wAs J op H s c J.D.length [(13,xl false)])
 |.inr k=>(.ret,⟨[(6,xl true)],[J.ps op,s.ps,(lU J.D k).ps],H⟩)
theorem lAs(J s c)(hD:J.D.length<=3)(hr:∀k,k<J.D.length->decide (s.get k>=0)=true->fZ (s.get k) (lU J.D k).au.length):JH M 127 0 H.length (wAs J (.fn f a cc) H s c 0 []) (zAs J (.fn f a cc) H s c (aZ (fun k=>lT (lU J.D k) (s.get k) c) J.D.length)).1 (zAs J (.fn f a cc) H s c (aZ (fun k=>lT (lU J.D k) (s.get k) c) J.D.length)).2:=by
 refine iI (st:=fun i _=>wAs J (.fn f a cc) H s c i []) (g:=gS (fun k=>lT (lU J.D k) (s.get k) c)) (out:=zAs J (.fn f a cc) H s c) (fun _ _=>True) (by kernel_rfl) (m3 hD) trivial (fun k u m hk _ ih=>?_) (fun _ _=>?_)
 .have h1:=hr k hk;have hg:gS (fun k=>lT (lU J.D k) (s.get k) c) k u=if lT (lU J.D k) (s.get k) c=true then .inr k else .inl u:=rfl
  cases e:decide (s.get k>=0)
  .rw[ac0 e,a0S (by simp)]at hg;rw[hg];rcases three hk hD with rfl|rfl|rfl
   all_goals exact aI gX (.b (aV hk) (.o (aF hk) (.b e (.nx (ih _ trivial)))))
  rw[a8W e]at hg;rw[hg];rcases three hk hD with rfl|rfl|rfl
  all_goals exact aI gX (.b (aV hk) (.o (aF hk) (.b e (.o (h1 e) (.ls (.ou nofun) (.nx (ih _ trivial)))))))
 exact aI gX (.b (dZ J.D.length) (.ou nofun))
theorem a8X(J:Jb)(s c)(hD:J.D.length<=3)(hr:∀k,k<J.D.length->decide (s.get k>=0)=true->fZ (s.get k) (lU J.D k).au.length):cZ X0 Qp (iD (M+1)) (.fn 127 [] []) [.agg (J.ps (.fn f a cc)),.agg s.ps,.int .i64 c] H (.bool (kL J.D s c)) H:=by
 have lp:=lAs (M:=M) (f:=f) (a:=a) (cc:=cc) (H:=H) J s c hD hr;unfold kL;cases h:jO (aZ (fun k=>lT (lU J.D k) (s.get k) c) J.D.length)
 .exact fH gX (first:=[]) (cap:=[]) (.w (kX lp 0 h) .er)
 exact fH gX (first:=[]) (cap:=[]) (.w (kW lp () h) .er)
abbrev wAf(J:Jb)(op:PV aH)(H:List (PB aH))(s:S3)(c g:Int)(i:Int)(x:List (Nat×PE aH)):bJ aH:=⟨[(2,xi c),(3,xi g),(5,.loc 1 0),(8,.loc 2 0),(12,xL 26 J.D),(13,xi J.D.length),(14,xi i)]++x,[J.ps op,s.ps,[.int .i64 0,.int .i64 0,.int .i64 0]],H⟩
structure a3h(d:Dg)(x c g:Int):Prop where
 n:decide (x>=0)=true->fZ x d.au.length
 k:lT d x c=true->fZ g (ay d x).aA.length
theorem La(J:Jb)(s c g)(hD:J.D.length<=3)(hr:∀k,k<J.D.length->a3h (lU J.D k) (s.get k) c g):cZ X0 Qp (iD (M+1)) (.fn 129 [] []) [.agg (J.ps (.fn f a cc)),.agg s.ps,.int .i64 c,.int .i64 g] H (.agg (bM J.D s c g).ps) H:=by
 have lp:JH M 129 0 H.length (wAf J (.fn f a cc) H s c g 0 []) (.exit 0) (wAf J (.fn f a cc) H (bM J.D s c g) c g J.D.length [(15,xl false)]):=by
  refine qY (σ:=S3) (N:=J.D.length) (g:=fun k y=>y.set k (Ns (lU J.D k) (y.get k) c g)) (s0:=s) (st:=fun i y=>wAf J (.fn f a cc) H y c g i []) (fin:=fun y=>wAf J (.fn f a cc) H y c g J.D.length [(15,xl false)]) (fun j y=>∀k,j<=k->k<J.D.length->y.get k=s.get k) (by kernel_rfl) (m3 hD) (fun _ _ _=>rfl) (fun j y hj hy=>?_) (fun j y hj hy m e p g9=>?_) (fun y _=>?_)
  .intro k hk kN;rw[<-hy k (by omega) kN];rcases three kN hD with rfl|rfl|rfl<;>rcases three hj hD with rfl|rfl|rfl<;>first|rfl|omega
  .have h1:=hr j hj;rw[<-hy j (a1j _) hj]at h1;obtain⟨h1,h2⟩:=h1;unfold Ns at g9;rcases three hj hD with rfl|rfl|rfl
   all_goals
    cases e1:decide (y.get _>=0)
    .unfold lT at g9;rw[e1]at g9;exact aI gX (.b (aV hj) (.o (aF hj) (.b e1 (.go g9))))
    .have h3:=h1 e1;cases e2:(ay (lU J.D _) (y.get _)).var==c
     .unfold lT at g9;rw[e1,a15 rfl,e2]at g9;exact aI gX (.b (aV hj) (.o (aF hj) (.b e1 (.o h3 (.b e2 (.go g9))))))
     .unfold lT at g9 h2;rw[e1,a15 rfl,e2]at g9 h2;exact aI gX (.b (aV hj) (.o (aF hj) (.b e1 (.o h3 (.b e2 (.o h3 (.o (h2 rfl) (.go g9))))))))
  exact aI gX (.b (dZ J.D.length) .ex)
 exact fH gX (first:=[]) (cap:=[]) (.w lp .er)
abbrev wSt(J:Jb)(op:PV aH)(H:List (PB aH))(s:S3)(i:Int)(x:List (Nat×PE aH)):bJ aH:=⟨[(2,.loc 1 0),(6,xL 26 J.D),(7,xi J.D.length),(8,xi i)]++x,[J.ps op,s.ps],H⟩
theorem a0X(J:Jb)(hD:J.D.length<=3):cZ X0 Qp (iD (M+1)) (.fn 130 [] []) [.agg (J.ps (.fn f a cc))] H (.agg (fD J.D).ps) H:=by
 have lp:JH M 130 0 H.length (wSt J (.fn f a cc) H ⟨0,0,0⟩ 0 []) (.exit 0) (wSt J (.fn f a cc) H (fD J.D) J.D.length [(9,xl false)]):=by
  refine qY (σ:=S3) (N:=J.D.length) (g:=fun k y=>y.set k (lU J.D k).root) (s0:=⟨0,0,0⟩) (st:=fun i y=>wSt J (.fn f a cc) H y i []) (fin:=fun y=>wSt J (.fn f a cc) H y J.D.length [(9,xl false)]) (fun _ _=>True) (by kernel_rfl) (m3 hD) trivial (fun _ _ _ _=>trivial) (fun j y hj _ m e p g9=>?_) (fun y _=>?_)
  .rcases three hj hD with rfl|rfl|rfl
   all_goals exact aI gX (.b (aV hj) (.o (aF hj) (.go g9)))
  exact aI gX (.b (dZ J.D.length) .ex)
 exact fH gX (first:=[]) (cap:=[]) (.w lp .er)
end
end Go.Proofs.YtmobpoiejckagaaGreat
namespace Pv
open Go Tw
section
variable{X:mX}{P:LI1}
theorem cZ.fzR(hX:bT X P){call fv xs H H1 v v'}(hs:cZ X P call fv xs H v H1)(is)(hv:views H1 [v]=some [v'])(ho:∀i,i∈lC.kU [v]->i∈is):cZ X P call fv xs H v' (bD is H1):=by intro A m h tf rJ hr hf hx;obtain⟨w,h',ws,m1,k1,k2,k3,k4,k5,k6⟩:=hs A m h tf rJ hr hf hx;have hF:=iU (h:=h') is m1;have w1:=(mG (m':=cu is m1) hX k2 (.cons k3 .nil) hv ho).mono fun b hb=>FA.gone k2 hb;obtain⟨x,r,e,h1,_⟩:=w1.inv;cases e;exact⟨w,h',ws,cu is m1,k1,k2.bD is,h1,k4.trans hF.1,k5.trans hF.2,k6⟩
end
end Pv
namespace Go.Proofs.YtmobpoiejckagaaGreat
open Go Tw Pv bQ
def aX(D:List Dg)(s:S3):List V:=(List.range D.length).map fun k=>oP (lU D k) (s.get k)
def gCe(D:List Dg)(s:S3)(k:Nat)(l:List V):List V:=l++[oP (lU D k) (s.get k)]
theorem a8Y(D s):aQ (gCe D s) D.length 0 []=aX D s:=by have:=bP (g:=gCe D s) (m:=D.length) (k:=0) (s:=[]) (fun k l=>l=(List.range k).map fun k=>oP (lU D k) (s.get k)) rfl (fun j l _ _ e=>by rw[gCe,e,abX,a4M];rfl);rw[a3C]at this;exact this
abbrev wCe(J:Jb)(op:PV aH)(H:List (PB aH))(s:S3)(l:List V)(i:Int)(x:List (Nat×PE aH)):bJ aH:=⟨[(3,.loc 1 0),(4,.val (.own H.length)),(8,xL 26 J.D),(9,xi J.D.length),(10,xi i)]++x,[J.ps op,s.ps],H++[.list false false 39 l]⟩
theorem a3i{M f:Nat}(J:Jb)(s)(hD:J.D.length<=3)(hr:∀k,k<J.D.length->fZ (jo (s.get k)) (lU J.D k).aO.length):cZ X0 Qp (iD (M+1)) (.fn 128 [] []) [.agg (J.ps (.fn f [] [])),.agg s.ps] [] (lV (aX J.D s)) []:=by
 have lp:JH M 128 0 0 (wCe J (.fn f [] []) [] s [] 0 []) (.exit 0) (wCe J (.fn f [] []) [] s (aX J.D s) J.D.length [(11,xl false)]):=by
  rw[<-a8Y J.D s];refine qY (σ:=List V) (N:=J.D.length) (g:=gCe J.D s) (s0:=[]) (st:=fun i l=>wCe J (.fn f [] []) [] s l i []) (fin:=fun l=>wCe J (.fn f [] []) [] s l J.D.length [(11,xl false)]) (fun k l=>l.length=k) (by kernel_rfl) (m3 hD) rfl (fun j y hj hy=>by simp[gCe,hy]) (fun j y hj hy m e p g9=>?_) (fun y _=>?_)
  .have h1:=hr j hj;have h2:y.length+[oP (lU J.D j) (s.get j)].length<=ah:=by rw[hy,a3J];exact m3 (by omega)
   rcases three hj hD with rfl|rfl|rfl
   all_goals exact aI gX (.b (aV hj) (.o (aF hj) (.o h1 (.o h2 (.Zx [.gc [2]] g9)))))
  exact aI gX (.b (dZ J.D.length) .ex)
 have h0:cZ X0 Qp (iD (M+1)) (.fn 128 [] []) [.agg (J.ps (.fn f [] [])),.agg s.ps] [] (.own 0) ([]++[.list false false 39 (aX J.D s)]):=fH gX (first:=[]) (cap:=[]) (.wG [.FM 4 39] lp .er);exact cZ.cut hX (cZ.fzR hX h0 [0] (v':=lV (aX J.D s)) rfl (by decide)) rfl rfl rfl rfl
theorem ac1{M f:Nat}{u}(J:Jb)(s)(hD:J.D.length<=3)(hr:∀k,k<J.D.length->fZ (jo (s.get k)) (lU J.D k).aO.length):cZ X0 Qp (iD (M+1)) (.fn 128 [] []) [.agg (J.ps (.fn f [] [.ptr 0 0 1])),.agg s.ps] [.aG [.int .u8 u]] (lV (aX J.D s)) [.aG [.int .u8 u]]:=by
 have lp:JH M 128 0 1 (wCe J (.fn f [] [.ptr 0 0 1]) [.aG [.int .u8 u]] s [] 0 []) (.exit 0) (wCe J (.fn f [] [.ptr 0 0 1]) [.aG [.int .u8 u]] s (aX J.D s) J.D.length [(11,xl false)]):=by
  rw[<-a8Y J.D s];refine qY (σ:=List V) (N:=J.D.length) (g:=gCe J.D s) (s0:=[]) (st:=fun i l=>wCe J (.fn f [] [.ptr 0 0 1]) [.aG [.int .u8 u]] s l i []) (fin:=fun l=>wCe J (.fn f [] [.ptr 0 0 1]) [.aG [.int .u8 u]] s l J.D.length [(11,xl false)]) (fun k l=>l.length=k) (by kernel_rfl) (m3 hD) rfl (fun j y hj hy=>by simp[gCe,hy]) (fun j y hj hy m e p g9=>?_) (fun y _=>?_)
  .have h1:=hr j hj;have h2:y.length+[oP (lU J.D j) (s.get j)].length<=ah:=by rw[hy,a3J];exact m3 (by omega)
   rcases three hj hD with rfl|rfl|rfl
   all_goals exact aI gX (.b (aV hj) (.o (aF hj) (.o h1 (.o h2 (.Zx [.gc [3]] g9)))))
  exact aI gX (.b (dZ J.D.length) .ex)
 have h0:cZ X0 Qp (iD (M+1)) (.fn 128 [] []) [.agg (J.ps (.fn f [] [.ptr 0 0 1])),.agg s.ps] [.aG [.int .u8 u]] (.own 1) ([.aG [.int .u8 u]]++[.list false false 39 (aX J.D s)]):=fH gX (first:=[]) (cap:=[]) (.wG [.FM 4 39] lp .er);exact cZ.cut hX (cZ.fzR hX h0 [1] (v':=lV (aX J.D s)) rfl (by decide)) rfl rfl rfl rfl
open Go Tw Pv bQ
def S3.l(s:S3):LI0:=[s.a,s.b,s.c]
theorem uSt:Tryz.prog.underlying 148=some (.array 3 3):=by kernel_rfl
theorem amJ(a b:S3):aC Qp (Op.equal 148 (.agg (Ef .i64 a.l)) (.agg (Ef .i64 b.l)))=some (decide (a=b)):=by have:=CS (P:=Qp) 9998 (k:=.i64) (l:=a.l) (l':=b.l) uSt (by kernel_rfl) a4K (by kernel_rfl) rfl rfl;refine Eq.trans this ?_;obtain⟨a1,a2,a3⟩:=a;obtain⟨b1,b2,b3⟩:=b;simp[S3.l]
def kS:pK X0 Qp 148 S3 where
 pv x:=.agg x.ps
 tv x:=.agg [.int .i64 x.a,.int .i64 x.b,.int .i64 x.c]
 v x:=.agg (Ef .i64 x.l)
 hp _:=rfl
 ht _:=rfl
 hc em x:=by kernel_rfl
 hf x l:=agA uSt amJ x l
 hk:=agB uSt amJ
structure Mk where
 e:List V
 n:List Br
 k:List (S3×Int)
def Wv(D:List Dg)(f:S3->Mk->Int×Mk)(s:S3)(c:Int)(j:Nat)(y:LI0×Mk):LI0×Mk:=(y.1++[(f (bM D s c j) y.2).1],(f (bM D s c j) y.2).2)
def knS(k:List (S3×Int))(s:S3):Int:=((k.find? fun e=>decide (e.1=s)).map (·.2)).getD 0
def jR(J:Jb)(op:List V->V):LI0->S3->Mk->Int×Mk
 | [],s,x=>(i64.wrap (0-((x.e++[op (aX J.D s)]).length:Int)),{ x with e:=x.e++[op (aX J.D s)] })
 |c::r,s,x=>if kL J.D s c=true then(if decide (J.g.getD c.toNat 0>=0)=true then jR J op r (bM J.D s c (J.g.getD c.toNat 0)) x
   else if s∈x.k.map (·.1)then(knS x.k s,x)
   else
    let y:=aQ (Wv J.D (jR J op r) s c) (J.s.getD c.toNat 0).toNat 0 ([],x)
    ((y.2.n.length:Int),⟨y.2.e,y.2.n++[⟨c,y.1⟩],y.2.k++[(s,(y.2.n.length:Int))]⟩))
  else jR J op r s x
abbrev Jq(k:List (S3×Int)):List (PV aH×PV aH):=kS.es (k.map fun e=>(e.1,.int .i64 e.2))
abbrev pM:List (PV aH):=[.ptr 2 0 5,.ptr 1 0 5,.ptr 3 0 1,.ptr 4 0 1]
abbrev HM0(J:Jb)(f:Nat)(x:Mk):List (PB aH):=[.map (Jq x.k),.cells [lI J.s,lI J.o,.own 5,.own 6,.int .i64 0],.aG (J.ps (.fn f [] [])),.aG [.fn 126 [] pM],.aG [.map 0],Ap x.e,Aq x.n]
abbrev ac2(J:Jb)(f:Nat)(x:Mk):List (PB aH):=[.map (Jq x.k),.cells [lI J.s,lI J.o,.own 7,.own 8,.int .i64 0],.aG (J.ps (.fn f [] [])),.aG [.fn 126 [] pM],.aG [.map 0],.gone,.gone,Ap x.e,Aq x.n]
abbrev HM1(J:Jb)(f:Nat)(u:Int)(x:Mk):List (PB aH):=[.map (Jq x.k),.cells [lI J.s,lI J.o,.own 6,.own 7,.int .i64 0],.aG (J.ps (.fn f [] [.ptr 5 0 1])),.aG [.fn 126 [] pM],.aG [.map 0],.aG [.int .u8 u],Ap x.e,Aq x.n]
abbrev ac3(J:Jb)(f:Nat)(u:Int)(x:Mk):List (PB aH):=[.map (Jq x.k),.cells [lI J.s,lI J.o,.own 8,.own 9,.int .i64 0],.aG (J.ps (.fn f [] [.ptr 5 0 1])),.aG [.fn 126 [] pM],.aG [.map 0],.aG [.int .u8 u],.gone,.gone,Ap x.e,Aq x.n]
open Go Tw Pv bQ
theorem S3.jw{s:S3}{i k v}(hi:i<3)(hk:k<3):(s.set i v).get k=if k=i then v else s.get k:=by
 match i,k,hi,hk with
 | 0,0,_,_=>rfl
 | 0,1,_,_=>rfl
 | 0,2,_,_=>rfl
 | 1,0,_,_=>rfl
 | 1,1,_,_=>rfl
 | 1,2,_,_=>rfl
 | 2,0,_,_=>rfl
 | 2,1,_,_=>rfl
 | 2,2,_,_=>rfl
 |i+3,_,h,_=>omega
 |_,k+3,_,h=>omega
theorem Le{D}(hD:D.length<=3)(t c g){k}(hk:k<D.length):(bM D t c g).get k=Ns (lU D k) (t.get k) c g:=by
 have:=bP (g:=fun k (y:S3)=>y.set k (Ns (lU D k) (y.get k) c g)) (m:=D.length) (k:=0) (s:=t) (fun j y=>∀k,k<D.length->y.get k=if k<j then Ns (lU D k) (t.get k) c g else t.get k) (fun k _=>by rw[a0S (by omega)]) (fun j y _ hj hy k hk=>by
  rw[S3.jw (by omega) (by omega)];by_cases e:k=j
  .subst e;rw[a15 rfl,a15 (by omega),hy k hk,a0S (by omega)]
  rw[a0S e,hy k hk];by_cases e2:k<j
  .rw[a15 e2,a15 (by omega)]
  rw[a0S e2,a0S (by omega)])
 have h:=this k hk;rw[a15 (by omega)]at h;exact h
theorem Ez{D t c}:kL D t c=true↔∃k,k<D.length/\lT (lU D k) (t.get k) c=true:=by
 unfold kL;constructor
 .intro h;refine acY fun h2=>?_;have:jO (aZ (fun k=>lT (lU D k) (t.get k) c) D.length)=true:=cO.2 fun k hk=>by
   cases e:lT (lU D k) (t.get k) c
   .rfl
   exact absurd ⟨k,hk,e⟩ h2
  rw[this]at h;cases h
 rintro⟨k,hk,h⟩;cases e:jO (aZ (fun k=>lT (lU D k) (t.get k) c) D.length)
 .rfl
 have:=cO.1 e k hk;rw[h]at this;cases this
theorem Fg{d x c}:lT d x c=true↔0<=x/\(ay d x).var=c:=by
 unfold lT;split
 .rename_i h;simp at h;simp[h]
 rename_i h;simp at h;simp;omega
structure DJ(J:Jb)(d:Dg):Prop where
 t:CV d
 n:d.au.length<=6000
 s:d.aj=J.s
 o:d.aB=J.o
 rk:∀i,i<d.au.length->∀k,k<(fK d i).aA.length->d.aB.idxOf (fK d i).var+1<=FN d.aB d.au ((fK d i).aA.getD k 0)
 two:∀i,i<d.au.length->2<=(fK d i).aA.length
structure kQ(J:Jb):Prop where
 d3:J.D.length<=3
 bG:qy J.s
 ord:jC J.s.length J.o=true
 dg:∀k,k<J.D.length->DJ J (lU J.D k)
 gl:J.g.length=J.s.length
 gv:∀c,fZ c J.s.length->0<=J.g.getD c.toNat 0->J.g.getD c.toNat 0<J.s.getD c.toNat 0
def Dp(J:Jb)(a:Nat)(t:S3):Prop:=∀k,k<J.D.length->jQ (lU J.D k) (t.get k) (lU J.D k).au.length/\a<=FN J.o (lU J.D k).au (t.get k)
theorem Dp.le{J a b t}(h:Dp J a t)(hb:b<=a):Dp J b t:=fun k hk=>⟨(h k hk).1,by have:=(h k hk).2;omega⟩
section
variable{J:Jb}(hJ:kQ J){a:Nat}{t:S3}{c:Int}{r:LI0}
include hJ
theorem kQ.o2:J.o.Nodup/\J.o.length=J.s.length/\∀c∈J.o,fZ c J.s.length:=by have ho:=hJ.ord;unfold jC at ho;rw[a1z]at ho;exact⟨ho.2.2,ho.1,fun c hc=>⟨(ho.2.1 c hc).1,(ho.2.1 c hc).2⟩⟩
theorem kQ.at_(hr:J.o.drop a=c::r):a<J.o.length/\J.o.getD a 0=c/\J.o.drop (a+1)=r/\c∈J.o/\J.o.idxOf c=a/\fZ c J.s.length:=by
 have aS:a<J.o.length:=by have:=congrArg List.length hr;rw[a3Q,a4p]at this;omega
 have hd:=a6j aS;rw[hr]at hd;obtain⟨hc,wF⟩:=aiB hd;have DY:c∈J.o:=by rw[hc];exact a5B aS
 obtain⟨h1,h2,h3⟩:=kQ.o2 hJ;exact⟨aS,by rw[hc];simp[List.getD,a0A aS],wF.symm,DY,by rw[hc];exact h1.idxOf_getElem a aS,h3 c DY⟩
theorem a0Y(hr:J.o.drop a=c::r)(h:kL J.D t c=true):¬Dp J (a+1) t:=fun hd=>by obtain⟨k,hk,h1⟩:=Ez.1 h;obtain⟨x0,hv⟩:=Fg.1 h1;have:=(hd k hk).2;unfold FN at this;rw[a0S (by omega)]at this;have e:((lU J.D k).au.getD (t.get k).toNat kP).var=c:=hv;rw[e,(kQ.at_ hJ hr).2.2.2.2.1]at this;omega
theorem a3j(hr:J.o.drop a=c::r)(hd:Dp J a t){k}(hk:k<J.D.length)(hn:lT (lU J.D k) (t.get k) c=false):a+1<=FN J.o (lU J.D k).au (t.get k):=by
 have h1:=(hd k hk).2;have h2:=kQ.at_ hJ hr;by_cases x0:t.get k<0
 .unfold FN;rw[a15 x0];omega
 have iO:((lU J.D k).au.getD (t.get k).toNat kP).var≠c:=fun e=>by have:lT (lU J.D k) (t.get k) c=true:=Fg.2 ⟨by omega,e⟩;rw[hn]at this;cases this
 unfold FN at h1 ⊢;rw[a0S x0]at h1 ⊢;rcases a4O a (J.o.idxOf ((lU J.D k).au.getD (t.get k).toNat kP).var)with h3|h3
 .exact h3
 exfalso;have e:J.o.idxOf ((lU J.D k).au.getD (t.get k).toNat kP).var=a:=by omega
 have aS:J.o.idxOf ((lU J.D k).au.getD (t.get k).toNat kP).var<J.o.length:=by rw[e];exact h2.1
 have g:J.o.getD (J.o.idxOf ((lU J.D k).au.getD (t.get k).toNat kP).var) 0=((lU J.D k).au.getD (t.get k).toNat kP).var:=by rw[List.getD,a0A aS,a5K];exact a9B aS
 rw[e,h2.2.1]at g;exact iO g.symm
theorem Wx(hr:J.o.drop a=c::r)(hd:Dp J a t)(h:kL J.D t c=false):Dp J (a+1) t:=fun k hk=>by
 refine⟨(hd k hk).1,a3j hJ hr hd hk ?_⟩;cases e:lT (lU J.D k) (t.get k) c
 .rfl
 .have:=Ez.2 ⟨k,hk,e⟩;rw[h]at this;cases this
theorem Jr(hd:Dp J a t){k}(hk:k<J.D.length)(h:lT (lU J.D k) (t.get k) c=true):fZ (t.get k) (lU J.D k).au.length/\(ay (lU J.D k) (t.get k)).var=c/\((ay (lU J.D k) (t.get k)).aA.length:Int)=J.s.getD c.toNat 0:=by obtain⟨x0,hv⟩:=Fg.1 h;have hr:fZ (t.get k) (lU J.D k).au.length:=⟨x0,(hd k hk).1.1⟩;have hdj:=hJ.dg k hk;have:=hdj.t.ksz (t.get k).toNat (by have:=hr.2;omega);refine⟨hr,hv,?_⟩;have e:(ay (lU J.D k) (t.get k))=fK (lU J.D k) (t.get k).toNat:=rfl;rw[e,this,<-e,hv,hdj.s]
theorem nO(hr:J.o.drop a=c::r)(hd:Dp J a t){j}(hj:0<=j/\j<J.s.getD c.toNat 0):Dp J (a+1) (bM J.D t c j):=fun k hk=>by
 rw[Le hJ.d3 t c j hk];unfold Ns;split
 .rename_i h;obtain⟨h1,h2,h3⟩:=Jr hJ hd hk h;have hdj:=hJ.dg k hk;have aS:(t.get k).toNat<(lU J.D k).au.length:=by have:=h1.1;have:=h1.2;omega
  have LV:j.toNat<(fK (lU J.D k) (t.get k).toNat).aA.length:=by have h3:((fK (lU J.D k) (t.get k).toNat).aA.length:Int)=J.s.getD c.toNat 0:=h3;omega
  have g1:=hdj.t.Aj (t.get k).toNat aS j.toNat LV;have g2:=hdj.rk (t.get k).toNat aS j.toNat LV;refine⟨⟨by have:=g1.1;show(fK (lU J.D k) (t.get k).toNat).aA.getD j.toNat 0<_;omega,g1.2⟩,?_⟩;have e:(fK (lU J.D k) (t.get k).toNat).var=c:=h2;rw[hdj.o,e,(kQ.at_ hJ hr).2.2.2.2.1]at g2;exact g2
 .rename_i h;exact⟨(hd k hk).1,a3j hJ hr hd hk (by simpa using h)⟩
theorem Lh(hd:Dp J a t){j}(hj:0<=j/\j<J.s.getD c.toNat 0){k}(hk:k<J.D.length):a3h (lU J.D k) (t.get k) c j:=by refine⟨fun h=>⟨by simpa using h,(hd k hk).1.1⟩,fun h=>?_⟩;have:=(Jr hJ hd hk h).2.2;exact⟨hj.1,by rw[this];exact hj.2⟩
theorem Wy(hr:J.o.drop a=c::r)(hd:Dp J a t)(h:kL J.D t c=true):2<=(J.s.getD c.toNat 0).toNat:=by obtain⟨k,hk,h1⟩:=Ez.1 h;obtain⟨h2,h3,h4⟩:=Jr hJ hd hk h1;have:=(hJ.dg k hk).two (t.get k).toNat (by have:=h2.1;have:=h2.2;omega);have h4:((fK (lU J.D k) (t.get k).toNat).aA.length:Int)=J.s.getD c.toNat 0:=h4;omega
theorem Lj(hd:Dp J J.o.length t){k}(hk:k<J.D.length):t.get k<0/\fZ (jo (t.get k)) (lU J.D k).aO.length:=by
 have h1:=hd k hk;have:t.get k<0:=by
  refine acY fun h=>?_;have h2:=h1.2;unfold FN at h2;rw[a0S h]at h2;have hdj:=hJ.dg k hk;have aS:(t.get k).toNat<(lU J.D k).au.length:=by have:=h1.1.1;omega
  have hv:=hdj.t.var (t.get k).toNat aS;rw[hdj.s]at hv;have:=a5H.2 (mW hJ.ord hv);have e:(fK (lU J.D k) (t.get k).toNat).var=((lU J.D k).au.getD (t.get k).toNat kP).var:=rfl;rw[e]at this;omega
 exact⟨this,h1.1.2 this⟩
end
open Go Tw Pv bQ
def ov(g q:LI0):LI0:=List.zipWith (fun a b=>if 0<=a then a else b) g q
theorem Ll{g q k}(h:g.length=q.length):(ov g q).getD k 0=if k<g.length then(if 0<=g.getD k 0 then g.getD k 0 else q.getD k 0)else 0:=by
 unfold ov;by_cases hk:k<g.length
 .rw[a15 hk];simp[List.getD,List.getElem?_zipWith,a0A hk,a0A (show k<q.length by omega)]
 rw[a0S hk];simp[List.getD,List.getElem?_zipWith,a4w (show g.length<=k by omega)]
def a94(J:Jb)(op:List V->V)(q:LI0)(t:S3)(v:V):Prop:=∃l:List V,l.length=J.D.length/\(∀k,k<J.D.length->To (lU J.D k) (ov J.g q) (t.get k) (l.getD k V0))/\v=op l
def Sem(J:Jb)(op:List V->V)(v:Int)(t:S3)(x:EN):Prop:=∀Z:Dg,Z.aO.length<2^61->x.1 <+: Z.aO->x.2 <+: Z.au->∀q,iF J.s q=true->∃u,To Z q v u/\a94 J op q t u
theorem Sem.mono{J op v t x y}(h:Sem J op v t x)(hp:QL x y):Sem J op v t y:=fun Z hZ h1 h2=>h Z hZ (hp.1.trans h1) (hp.2.trans h2)
abbrev Mk.en(x:Mk):EN:=(x.e,x.n)
def HY(v:V):Prop:=vOk v=true/\0<=v.f
structure XOk(J:Jb)(op:List V->V)(x:Mk):Prop where
 v:PtV J.s J.o x.en
 k:∀e∈x.k,fZ e.2 x.n.length/\kL J.D e.1 (x.n.getD e.2.toNat kP).var=true/\Sem J op e.2 e.1 x.en
 nd:(x.k.map (·.1)).Nodup
 e:∀v∈x.e,HY v
 w:∀b∈x.n,∀v∈b.aA,Hg v
structure a5b(J:Jb)(op:List V->V)(a:Nat)(w:Nat)(t:S3)(x:Mk)(z:Int×Mk):Prop where
 pre:QL x.en z.2.en
 el:z.2.e.length<=x.e.length+w
 nl:z.2.n.length+1<=x.n.length+w
 ok:XOk J op z.2
 rf:Df J.o z.2.en z.1 z.2.n.length a
 sm:Sem J op z.1 t z.2.en
 ks:∀e∈z.2.k,e∈x.k\/Dp J a e.1
 w:Hg z.1
theorem XOk.mono{J op x e}(h:XOk J op x)(hp:x.e <+: e)(he:∀v∈e,HY v):XOk J op { x with e:=e }:=by have hq:QL x.en (e,x.n):=⟨hp,a5F⟩;exact⟨⟨h.v.var,h.v.ksz,fun i hi k hk=>(h.v.Aj i hi k hk).mono hq (a1j _) (aa9 hi) (a1j _)⟩,fun e he=>⟨(h.k e he).1,(h.k e he).2.1,(h.k e he).2.2.mono hq⟩,h.nd,he,h.w⟩
theorem QW{J}(hJ:kQ J){op q t a}(hd:Dp J a t){c j u}(hj:(ov J.g q).getD c.toNat 0=j)(h:a94 J op q (bM J.D t c j) u):a94 J op q t u:=by
 obtain⟨l,h1,h2,h3⟩:=h;refine⟨l,h1,fun k hk=>?_,h3⟩;have h4:=h2 k hk;rw[Le hJ.d3 t c j hk]at h4;unfold Ns at h4;split at h4
 .rename_i h5;obtain⟨h6,h7,_⟩:=Jr hJ hd hk h5;refine .step h6.1 ?_;rw[h7,hj];exact h4
 exact h4
def ru(J:Jb)(op:List V->V):Prop:=∀t,Dp J J.o.length t->HY (op (aX J.D t))
theorem ac4{J}(hJ:kQ J)(op)(jK:ru J op){t x}(hd:Dp J J.o.length t)(hx:XOk J op x)(hb:x.e.length+1<=2^60):a5b J op J.o.length 1 t x (jR J op [] t x):=by
 have e0:i64.wrap (0-((x.e++[op (aX J.D t)]).length:Int))=-1-(x.e.length:Int):=by rw[a1v,a3J,eU (by omega) (by omega)];omega
 obtain⟨_,e2⟩:=QN (k:=x.e.length) (by omega);have hp:x.e <+: x.e++[op (aX J.D t)]:=a9C _ _;show a5b J op J.o.length 1 t x (i64.wrap (0-((x.e++[op (aX J.D t)]).length:Int)),_);rw[e0];refine⟨⟨hp,a5F⟩,by simp,a1j _,hx.mono hp (fun v hv=>by rcases a3E.1 hv with hv|hv;exact hx.e v hv;rw[a2m.1 hv];exact jK t hd),⟨fun _=>?_,?_,?_⟩,fun Z hZ g1 g2 q hq=>?_,fun e he=>.inl he,⟨by show _<=-1-(x.e.length:Int);omega,by show -1-(x.e.length:Int)<_;omega⟩⟩
 .rw[e2];exact⟨by omega,by simp;omega⟩
 .show -1-(x.e.length:Int)<_;omega
 .unfold FN;rw[a15 (by show -1-(x.e.length:Int)<0;omega)];exact a1j _
 have h1:=To.fin (d:=Z) (q:=q) (r:=-1-(x.e.length:Int)) (by omega);rw[e2,a5M]at h1;have g1:x.e++[op (aX J.D t)] <+: Z.aO:=g1;have e3:Z.aO.getD x.e.length V0=op (aX J.D t):=by rw[Au g1 (by simp)];simp[List.getD]
 rw[e3]at h1;refine⟨_,h1,aX J.D t,by simp[aX],fun k hk=>?_,rfl⟩;have h2:=Lj hJ hd hk;have e4:(aX J.D t).getD k V0=oP (lU J.D k) (t.get k):=by simp[aX,List.getD,hk]
 rw[e4];exact .fin h2.1
theorem EC{α:Type}{l:List α}{a}(h:l.Nodup)(ha:a∉l):(l++[a]).Nodup:=by rw[a9S];exact⟨h,by simp,fun x hx y hy e=>by simp at hy;subst hy;subst e;exact ha hx⟩
theorem Lm{α:Type}{l:List α}{x d j}:(l++[x]).getD j d=if j<l.length then l.getD j d else if j=l.length then x else d:=by
 split
 .rename_i h;simp[List.getD,a0P h]
 rename_i h;split
 .rename_i h2;subst h2;simp[List.getD]
 rename_i h2;rw[List.getD,a4w (by simp;omega)];rfl
theorem Uz{J}(hJ:kQ J)(op)(jK:ru J op):∀(r) (a) (t) (x),J.o.drop a=r->a<=J.o.length->Dp J a t->XOk J op x->x.e.length+wO J.s r<=2^60->x.n.length+wO J.s r<=2^60->a5b J op a (wO J.s r) t x (jR J op r t x)
 | [],a,t,x,hr,ha,hd,hx,hb,yM=>by
  have:a=J.o.length:=by have:=congrArg List.length hr;rw[a3Q,a5L]at this;omega
  subst this;exact ac4 hJ op jK hd hx hb
 |c::r,a,t,x,hr,ha,hd,hx,hb,yM=>by
  obtain⟨aS,hoc,wF,DY,hci,og⟩:=kQ.at_ hJ hr;have hz:=hJ.bG.sz _ (bV (s:=J.s) (k:=c.toNat) (by have:=og.1;have:=og.2;omega));have ZB:∀c'∈r,fZ c' J.s.length:=fun c' h=>(kQ.o2 hJ).2.2 c' (by rw[<-wF]at h;exact a5N h);have hw:=QJ hJ.bG.sz ZB;have hw1:wO J.s r<=(J.s.getD c.toNat 0).toNat*wO J.s r:=aev _ (by omega);simp only[wO]at hb yM ⊢;have up:∀{t':S3} {z:Int×Mk},a5b J op (a+1) (wO J.s r) t' x z->(∀q u,iF J.s q=true->a94 J op q t' u->a94 J op q t u)->a5b J op a ((J.s.getD c.toNat 0).toNat*wO J.s r) t x z:=fun{t' z} h hs=>
   ⟨h.pre,by have:=h.el;omega,by have:=h.nl;omega,h.ok,h.rf.mono QL.rfl (a1j _) (a1j _) (by omega),fun Z hZ g1 g2 q hq=>let ⟨u,u1,u2⟩:=h.sm Z hZ g1 g2 q hq;⟨u,u1,hs q u hq u2⟩,fun e he=>(h.ks e he).imp id fun h=>h.le (by omega),h.w⟩
  unfold jR;cases BX:kL J.D t c
  .rw[a0S (by simp)];exact up (Uz hJ op jK r (a+1) t x wF aS (Wx hJ hr hd BX) hx (by omega) (by omega)) fun _ _ _ h=>h
  rw[a15 rfl];by_cases hg:J.g.getD c.toNat 0>=0
  .rw[a15 (by simpa using hg)];refine up (Uz hJ op jK r (a+1) _ x wF aS (nO hJ hr hd ⟨hg,hJ.gv c og hg⟩) hx (by omega) (by omega)) fun q u hq h=>QW hJ hd ?_ h;rw[Ll (by rw[hJ.gl,lG hq]),a15 (by rw[hJ.gl];have:=og.1;have:=og.2;omega),a15 hg]
  rw[a0S (by simpa using hg)];by_cases hk:t∈x.k.map (·.1)
  .rw[a15 hk];obtain⟨e,he,rfl⟩:=a1u.1 hk;have hkn:knS x.k e.1=e.2:=by
    have:x.k.find? (fun y=>decide (y.1=e.1))=some e:=by
     have jJ:=hx.nd;clear hb up hk BX hd;generalize x.k=l at he jJ
     induction l with
     |nil=>cases he
     |cons y l ih=>
      rw[ahY];rcases a1B.1 he with rfl|he
      .simp
      have:¬y.1=e.1:=fun h=>by rw[a4N,a5x]at jJ;exact jJ.1 (a1u.2 ⟨e,he,h.symm⟩)
      rw[afc this];rw[a4N,a5x]at jJ;exact ih he jJ.2
    unfold knS;rw[this];rfl
   rw[hkn];obtain⟨k1,k2,k3⟩:=hx.k e he;have hmul:2*1<=(J.s.getD c.toNat 0).toNat*wO J.s r:=aiw (Wy hJ hr hd BX) hw;refine⟨QL.rfl,by show x.e.length<=_;omega,by show x.n.length+1<=_;omega,hx,⟨fun h=>by have:=k1.1;show fZ _ _;exact absurd h (by omega),k1.2,?_⟩,k3,fun _ h=>.inl h,⟨by have:=k1.1;show _<=e.2;omega,by have:=k1.2;show e.2<_;omega⟩⟩;obtain⟨k,hk,h1⟩:=Ez.1 k2;obtain⟨x0,hv⟩:=Fg.1 h1;have h2:=(hd k hk).2;unfold FN at h2 ⊢;rw[a0S (by omega)]at h2;have k10:=k1.1;rw[a0S (show ¬e.2<0 by omega)];have hv:((lU J.D k).au.getD (e.1.get k).toNat kP).var=(x.n.getD e.2.toNat kP).var:=hv;rw[hv]at h2;exact h2
  rw[a0S hk];have hm2:=Wy hJ hr hd BX;have Xr:∀j,j<(J.s.getD c.toNat 0).toNat->j*wO J.s r+wO J.s r<=(J.s.getD c.toNat 0).toNat*wO J.s r:=fun j hj=>by have:(j+1)*wO J.s r<=(J.s.getD c.toNat 0).toNat*wO J.s r:=a3I _ hj;rw[a3H]at this;omega
  have inv:=bP (g:=Wv J.D (jR J op r) t c) (m:=(J.s.getD c.toNat 0).toNat) (k:=0) (s:=([],x)) (fun k y=>y.1.length=k/\QL x.en y.2.en/\y.2.e.length<=x.e.length+k*wO J.s r/\y.2.n.length+k<=x.n.length+k*wO J.s r/\XOk J op y.2/\(∀e∈y.2.k,e∈x.k\/Dp J (a+1) e.1)/\(∀v∈y.1,Hg v)/\∀j:Nat,j<k->Df J.o y.2.en (y.1.getD j 0) y.2.n.length (a+1)/\Sem J op (y.1.getD j 0) (bM J.D t c j) y.2.en)
   ⟨rfl,QL.rfl,by simp,by simp,hx,fun _ h=>.inl h,(fun v hv=>by cases hv),fun j hj=>by omega⟩ (fun j y _ hj hy=>by
    obtain⟨y1,y2,y3,y4,y5,y6,y8,y7⟩:=hy;have Xr:=Xr j (by omega);have h:=Uz hJ op jK r (a+1) (bM J.D t c j) y.2 wF aS (nO hJ hr hd ⟨by omega,by omega⟩) y5 (by omega) (by omega);refine⟨by simp[Wv,y1],y2.trans h.pre,?_,?_,h.ok,fun e he=>?_,fun v hv=>?_,fun j' EG=>?_⟩
    .have:=h.el;show(jR J op r (bM J.D t c j) y.2).2.e.length<=_;rw[a3H];omega
    .have:=h.nl;show(jR J op r (bM J.D t c j) y.2).2.n.length+_<=_;rw[a3H];omega
    .rcases h.ks e he with h1|h1
     .exact y6 e h1
     .exact .inr h1
    .have hv:v∈y.1++[(jR J op r (bM J.D t c j) y.2).1]:=hv;rcases a3E.1 hv with hv|hv
     .exact y8 v hv
     .rw[a2m.1 hv];exact h.w
    .have e1:(Wv J.D (jR J op r) t c j y).1.getD j' 0=if j'<j then y.1.getD j' 0 else(jR J op r (bM J.D t c j) y.2).1:=by
      show(y.1++[_]).getD j' 0=_;rw[Lm,y1];split
      .rfl
      .rw[a15 (by omega)]
     rw[e1];by_cases e:j'<j
     .rw[a15 e];obtain⟨a1,a2⟩:=y7 j' e;exact⟨a1.mono h.pre h.pre.2.length_le (a1j _) (a1j _),a2.mono h.pre⟩
     .rw[a0S e];have e:j'=j:=(by omega);subst e;exact⟨h.rf,h.sm⟩)
  rw[a3C]at inv;simp only[];generalize aQ (Wv J.D (jR J op r) t c) (J.s.getD c.toNat 0).toNat 0 ([],x)=y at inv;obtain⟨ks,m⟩:=y;obtain⟨y1,y2,y3,y4,y5,y6,y8,y7⟩:=inv;have y1:ks.length=(J.s.getD c.toNat 0).toNat:=y1;have hp:QL m.en (m.e,m.n++[(⟨c,ks⟩:Br)]):=⟨a5F,a9C _ _⟩;have gJ:(m.n++[(⟨c,ks⟩:Br)]).getD m.n.length kP=⟨c,ks⟩:=by simp[List.getD]
  have a6l:Sem J op (m.n.length:Int) t (m.e,m.n++[(⟨c,ks⟩:Br)]):=fun Z hZ g1 g2 q hq=>by
   have g2:m.n++[(⟨c,ks⟩:Br)] <+: Z.au:=g2;have Zt:=(lH.1 hq).2 c.toNat (by have:=og.1;have:=og.2;omega);have hj:(q.getD c.toNat 0).toNat<(J.s.getD c.toNat 0).toNat:=(by omega);obtain⟨u,u1,u2⟩:=(y7 _ hj).2 Z hZ g1 ((a9C _ _).trans g2) q hq;have en:ay Z (m.n.length:Int)=⟨c,ks⟩:=by show Z.au.getD (m.n.length:Int).toNat kP=_;rw[a5M,Au g2 (by simp),gJ]
   refine⟨u,.step (by omega) (by rw[en];exact u1),QW hJ hd ?_ u2⟩;rw[Ll (by rw[hJ.gl,lG hq]),a15 (by rw[hJ.gl];have:=og.1;have:=og.2;omega),a0S (by omega)];omega
  have hv2:PtV J.s J.o (m.e,m.n++[(⟨c,ks⟩:Br)]):=by
   have hg:∀i,i<(m.n++[(⟨c,ks⟩:Br)]).length->(i<m.n.length/\(m.n++[(⟨c,ks⟩:Br)]).getD i kP=m.n.getD i kP)\/(i=m.n.length/\(m.n++[(⟨c,ks⟩:Br)]).getD i kP=⟨c,ks⟩):=fun i hi=>by
    simp only[a1v,a3J]at hi;rcases a4O i m.n.length with h|h
    .exact .inl ⟨h,by rw[Lm,a15 h]⟩
    exact .inr ⟨by omega,by rw[show i=m.n.length by omega,gJ]⟩
   refine⟨fun i hi=>?_,fun i hi=>?_,fun i hi k hk=>?_⟩
   .rcases hg i hi with⟨h1,h2⟩|⟨h1,h2⟩
    .show fZ ((m.n++[_]).getD i kP).var _;rw[h2];exact y5.v.var i h1
    show fZ ((m.n++[_]).getD i kP).var _;rw[h2];exact og
   .rcases hg i hi with⟨h1,h2⟩|⟨h1,h2⟩
    .show(((m.n++[_]).getD i kP).aA.length:Int)=J.s.getD ((m.n++[_]).getD i kP).var.toNat 0;rw[h2];exact y5.v.ksz i h1
    show(((m.n++[_]).getD i kP).aA.length:Int)=J.s.getD ((m.n++[_]).getD i kP).var.toNat 0;rw[h2];show(ks.length:Int)=J.s.getD c.toNat 0;omega
   rcases hg i hi with⟨h1,h2⟩|⟨h1,h2⟩
   .have hk:k<((m.n++[(⟨c,ks⟩:Br)]).getD i kP).aA.length:=hk;show Df J.o _ (((m.n++[(⟨c,ks⟩:Br)]).getD i kP).aA.getD k 0) i (J.o.idxOf ((m.n++[(⟨c,ks⟩:Br)]).getD i kP).var+1);rw[h2]at hk ⊢;exact(y5.v.Aj i h1 k hk).mono hp (a1j _) (aa9 h1) (a1j _)
   have hk:k<((m.n++[(⟨c,ks⟩:Br)]).getD i kP).aA.length:=hk;show Df J.o _ (((m.n++[(⟨c,ks⟩:Br)]).getD i kP).aA.getD k 0) i (J.o.idxOf ((m.n++[(⟨c,ks⟩:Br)]).getD i kP).var+1);rw[h2]at hk ⊢;have hk:k<ks.length:=hk;subst h1;show Df J.o _ (ks.getD k 0) m.n.length (J.o.idxOf c+1);rw[hci];exact(y7 k (by omega)).1.mono hp (a1j _) (a1j _) (a1j _)
  have y5:XOk J op m:=y5;have y6:∀e∈m.k,e∈x.k\/Dp J (a+1) e.1:=y6;refine⟨y2.trans hp,y3,?_,⟨hv2,fun e he=>?_,?_,y5.e,fun b hb=>?_⟩,⟨fun h=>?_,?_,?_⟩,a6l,fun e he=>?_,⟨by show _<=(m.n.length:Int);omega,by have y4:m.n.length+_<=x.n.length+_:=y4;show(m.n.length:Int)<_;omega⟩⟩
  .show(m.n++[_]).length+1<=_;rw[a1v,a3J];have y4:m.n.length+(J.s.getD c.toNat 0).toNat<=x.n.length+(J.s.getD c.toNat 0).toNat*wO J.s r:=y4;omega
  .rcases a3E.1 he with he|he
   .obtain⟨k1,k2,k3⟩:=y5.k e he;have aS:e.2.toNat<m.n.length:=by have:=k1.1;have:=k1.2;omega
    refine⟨⟨k1.1,?_⟩,?_,k3.mono hp⟩
    .have:=k1.2;show e.2<((m.n++[_]).length:Int);rw[a1v];omega
    show kL J.D e.1 ((m.n++[_]).getD e.2.toNat kP).var=true;rw[Lm,a15 aS];exact k2
   rw[a2m.1 he];refine⟨⟨by omega,by show(m.n.length:Int)<((m.n++[_]).length:Int);rw[a1v,a3J];omega⟩,?_,a6l⟩;show kL J.D t ((m.n++[_]).getD (m.n.length:Int).toNat kP).var=true;rw[a5M,gJ];exact BX
  .rw[a4M];refine EC y5.nd fun h=>?_;obtain⟨e,he,e2⟩:=a1u.1 h;rcases y6 e he with h1|h1
   .exact hk (a1u.2 ⟨e,h1,e2⟩)
   rw[e2]at h1;exact a0Y hJ hr BX h1
  .have hb:b∈m.n++[(⟨c,ks⟩:Br)]:=hb;rcases a3E.1 hb with hb|hb
   .exact y5.w b hb
   rw[a2m.1 hb];exact y8
  .exact absurd h (by show ¬((m.n.length:Int)<0);omega)
  .show(m.n.length:Int)<((m.n++[_]).length:Int);rw[a1v,a3J];omega
  .show a<=FN J.o (m.n++[_]) (m.n.length:Int);unfold FN;rw[a0S (by omega),a5M,gJ];show a<=J.o.idxOf c;omega
  rcases a3E.1 he with he|he
  .rcases y6 e he with h1|h1
   .exact .inl h1
   exact .inr (h1.le (by omega))
  rw[a2m.1 he];exact .inr hd
open Go Tw Pv bQ
def kM(J:Jb)(op:List V->V):Dg:=⟨J.s,J.o,(jR J op J.o (fD J.D) ⟨[],[],[]⟩).2.e,(jR J op J.o (fD J.D) ⟨[],[],[]⟩).2.n,(jR J op J.o (fD J.D) ⟨[],[],[]⟩).1⟩
def Dh(J:Jb)(op:List V->V):Dg:=(Aw (kM J op)).1
def Ho(J:Jb)(op:List V->V):List V:=(List.range (uK J.s)).map fun(k:Nat)=>op (J.D.map fun d=>vT d (ov J.g (iV J.s k)))
theorem wX{D}(hD:D.length<=3){k}(hk:k<D.length):(fD D).get k=(lU D k).root:=by
 have:=bP (g:=fun k (y:S3)=>y.set k (lU D k).root) (m:=D.length) (k:=0) (s:=⟨0,0,0⟩) (fun j y=>∀k,k<j->y.get k=(lU D k).root) (fun k hk=>by omega) (fun j y _ hj hy k hk=>by
  rw[S3.jw (by omega) (by omega)];by_cases e:k=j
  .rw[a15 e,e]
  rw[a0S e];exact hy k (by omega))
 exact this k (by omega)
theorem amK{J}(hJ:kQ J){q}(hq:iF J.s q=true):iF J.s (ov J.g q)=true:=by
 have hl:=lG hq;refine lH.2 ⟨by simp[ov,af6,hJ.gl,hl],fun k hk=>?_⟩;rw[Ll (by rw[hJ.gl,hl]),a15 (by rw[hJ.gl];exact hk)];split
 .rename_i h;exact⟨h,hJ.gv (k:Int) (aF hk) h⟩
 exact(lH.1 hq).2 k hk
theorem a0Z{J}(hJ:kQ J){op}(jK:ru J op):a5b J op 0 (wO J.s J.o) (fD J.D) ⟨[],[],[]⟩ (jR J op J.o (fD J.D) ⟨[],[],[]⟩):=by have hw:=BP hJ.bG.sz hJ.ord;have hm:=hJ.bG.many;refine Uz hJ op jK J.o 0 (fD J.D) ⟨[],[],[]⟩ (aaO) (a5D _) (fun k hk=>?_) ⟨⟨fun i hi=>(by simp at hi),fun i hi=>(by simp at hi),fun i hi=>(by simp at hi)⟩,fun e he=>(by cases he),a6g,fun v hv=>(by cases hv),fun b hb=>(by cases hb)⟩ (by show 0+wO J.s J.o<=_;omega) (by show 0+wO J.s J.o<=_;omega);rw[wX hJ.d3 hk];exact⟨(hJ.dg k hk).t.root,a5D _⟩
theorem Az{J}(hJ:kQ J){op}(jK:ru J op):aW (kM J op)=0/\(kM J op).aO.length<=2000/\∀v∈(kM J op).aO,HY v:=by have h:=a0Z hJ jK;have hw:=BP hJ.bG.sz hJ.ord;have hm:=hJ.bG.many;have h1:(kM J op).aO.length<=0+wO J.s J.o:=h.el;have h2:(kM J op).au.length+1<=0+wO J.s J.o:=h.nl;refine⟨L9 (by unfold ah;omega) ?_ (fun v hv=>(h.ok.e v hv).1) (by omega) h.ok.v h.rf,by omega,h.ok.e⟩;have:aY J.s J.o=0:=iL.2 ⟨hJ.bG,hJ.ord⟩;show(aY J.s J.o != 0)=false;rw[this];rfl
theorem a95{J}(hJ:kQ J){op}(jK:ru J op):Jg (kM J op):=by have h:=a0Z hJ jK;exact⟨fun i hi k hk=>h.ok.w _ (YI hi) _ (bV hk),h.w,fun v hv=>(h.ok.e v hv).2⟩
theorem Js{J}(hJ:kQ J){op}(jK:ru J op):bH (kM J op)=(zG (kM J op),0)/\Dh J op=je J.s J.o (cellsD (kM J op)):=by
 obtain⟨h1,h2,h3⟩:=Az hJ jK;have hr:=a95 hJ jK;have ho:=(kQ.o2 hJ).2.1;have hl:=hJ.bG.len;have e:=L6 hr (by unfold ah;omega);rw[h1]at e;have hf:¬(aY (kM J op).aj (kM J op).aB != 0)=true:=by have:aY J.s J.o=0:=iL.2 ⟨hJ.bG,hJ.ord⟩;show ¬(aY J.s J.o != 0)=true;rw[this];simp
 rw[a0S hf]at e;refine⟨e,?_⟩;unfold Dh Aw;rw[e];show eY (kM J op)=_;exact(QU h1 (by show J.o.length<=ah;unfold ah;omega) (by unfold ah;omega)).1
theorem a5c{J}(hJ:kQ J){op}(jK:ru J op):cellsD (kM J op)=Ho J op:=by
 obtain⟨h1,h2,h3⟩:=Az hJ jK;have h:=a0Z hJ jK;have ho:=(kQ.o2 hJ).2.1;have hl:=hJ.bG.len;have ht:=(jy (d:=kM J op) (by show J.o.length<=ah;unfold ah;omega) (by unfold ah;omega) (by rw[h1];rfl));unfold cellsD Ho;refine a5J fun k _=>?_;have hq:iF J.s (iV J.s k)=true:=qX _ hJ.bG.sz;obtain⟨u,u1,l,l1,l2,rfl⟩:=h.sm (kM J op) (by omega) a5F a5F (iV J.s k) hq;have e1:=u1.at_ ht.1 hq 6001 (by have:=h.rf.2.1;have:=ht.2;show(kM J op).root<_;have e:(kM J op).au.length=(jR J op J.o (fD J.D) ⟨[],[],[]⟩).2.n.length:=rfl;have e2:(kM J op).root=(jR J op J.o (fD J.D) ⟨[],[],[]⟩).1:=rfl;omega) ht.1.root;show vT (kM J op) (iV J.s k)=_;unfold vT;have e1:op l=(kM J op).aO.getD (jo (VY (kM J op) (iV J.s k) 6001 (kM J op).root)).toNat V0:=e1;rw[<-e1];congr 1;refine(nV (d:=V0) (by rw[l1,a4P])).2 fun i hi=>?_;rw[l1]at hi;have hd:=hJ.dg i hi;have h5:=l2 i hi;rw[wX hJ.d3 hi]at h5;have hov:iF (lU J.D i).aj (ov J.g (iV J.s k))=true:=by rw[hd.s];exact amK hJ hq
 have h6:=h5.at_ hd.t hov 6001 (by have:=hd.t.root.1;have:=hd.n;omega) hd.t.root;rw[h6];simp[List.getD,a5w,a0A hi,vT,atR]
theorem mk_eq{J}(hJ:kQ J){op}(jK:ru J op):Dh J op=je J.s J.o (Ho J op):=by rw[(Js hJ jK).2,a5c hJ jK]
open Go Tw Pv bQ
def BZ(J:Jb)(c:Int):LI0:=if decide (J.g.getD c.toNat 0>=0)=true then [J.g.getD c.toNat 0]else(List.range (J.s.getD c.toNat 0).toNat).map fun(j:Nat)=>(j:Int)
def yG(J:Jb)(ψ:S3->Int):LI0->S3->Int
 | [],t=>ψ t
 |c::r,t=>eP (fun j=>yG J ψ r (bM J.D t c j)) (BZ J c)
theorem AB{α β}[DecidableEq α][DecidableEq β](φ)(f:α->β):∀l,eP φ (l.map f)=eP (fun a=>φ (f a)) l
 | []=>rfl
 |a::l=>by simp only[a4N,eP,AB φ f l]
theorem qP{α}[DecidableEq α]{φ φ':α->Int}:∀{l},(∀a∈l,φ a=φ' a)->eP φ l=eP φ' l
 | [],_=>rfl
 |a::l,h=>by rw[eP,eP,h a (by simp),qP fun b hb=>h b (by simp[hb])]
theorem UA{α β}[DecidableEq α][DecidableEq β](φ)(f:α->List β):∀l,eP φ (l.flatMap f)=eP (fun a=>eP φ (f a)) l
 | []=>rfl
 |a::l=>by rw[List.flatMap_cons,Jc,eP,UA φ f l]
theorem C9{α}[DecidableEq α](x):∀l:List α,eP (fun _=>x) l=l.length*x
 | []=>by simp[eP]
 |a::l=>by rw[eP,C9 x l,a4p,Int.natCast_add,afN];omega
theorem S3.ac5(s:S3)(k):s.set k (s.get k)=s:=by
 match k with
 | 0=>rfl
 | 1=>rfl
 |k+2=>rfl
theorem a96{D t c}(h:kL D t c=false)(g):bM D t c g=t:=by
 have hk:∀k,k<D.length->lT (lU D k) (t.get k) c=false:=fun k hk=>by
  cases e:lT (lU D k) (t.get k) c
  .rfl
  have:=Ez.2 ⟨k,hk,e⟩;rw[h]at this;cases this
 exact bP (g:=fun k (y:S3)=>y.set k (Ns (lU D k) (y.get k) c g)) (m:=D.length) (k:=0) (s:=t) (fun _ y=>y=t) rfl (fun j y _ hj hy=>by subst hy;show y.set j (Ns (lU D j) (y.get j) c g)=y;unfold Ns;rw[hk j (by omega),a0S (by simp)];exact S3.ac5 y j)
theorem a5d{J ψ c r t}(h:decide (J.g.getD c.toNat 0>=0)=true):yG J ψ (c::r) t=yG J ψ r (bM J.D t c (J.g.getD c.toNat 0)):=by rw[yG,BZ,a15 h];simp[eP]
theorem ahn{J ψ c r t}(h:¬decide (J.g.getD c.toNat 0>=0)=true)(ha:kL J.D t c=false):yG J ψ (c::r) t=((J.s.getD c.toNat 0).toNat:Int)*yG J ψ r t:=by rw[yG,BZ,a0S h,AB,qP (φ':=fun _=>yG J ψ r t) (fun a _=>by rw[a96 ha]),C9,a6u]
theorem ac6{J ψ c r t}(h:¬decide (J.g.getD c.toNat 0>=0)=true):yG J ψ (c::r) t=eP (fun(j:Nat)=>yG J ψ r (bM J.D t c j)) (List.range (J.s.getD c.toNat 0).toNat):=by rw[yG,BZ,a0S h,AB]
def AX(J:Jb):LI0->Nat
 | []=>1
 |c::r=>(BZ J c).length*AX J r
theorem Fh{J}:∀(r) (t),yG J (fun _=>1) r t=(AX J r:Int)
 | [],_=>rfl
 |c::r,t=>by rw[yG,qP (φ':=fun _=>(AX J r:Int)) (fun a _=>Fh r _),C9,AX,af8]
section
variable{J:Jb}(hJ:kQ J)
include hJ
theorem YX{c}(hc:fZ c J.s.length){j}:j∈BZ J c↔(0<=j/\j<J.s.getD c.toNat 0)/\(0<=J.g.getD c.toNat 0->J.g.getD c.toNat 0=j):=by
 unfold BZ;split
 .rename_i h;have h:J.g.getD c.toNat 0>=0:=by simpa using h
  have:=hJ.gv c hc h;rw[a2m];constructor
  .rintro rfl;exact⟨⟨h,this⟩,fun _=>rfl⟩
  exact fun h2=>(h2.2 h).symm
 rename_i h;have h:¬J.g.getD c.toNat 0>=0:=by simpa using h
 rw[a1u];constructor
 .rintro⟨k,h1,rfl⟩;rw[a5y]at h1;exact⟨⟨by omega,by omega⟩,fun h2=>absurd h2 h⟩
 rintro⟨h1,_⟩;exact⟨j.toNat,a5y.2 (by omega),by omega⟩
theorem a97{c}(hc:fZ c J.s.length):1<=(BZ J c).length/\(BZ J c).length<=(J.s.getD c.toNat 0).toNat:=by
 have hz:=hJ.bG.sz _ (bV (s:=J.s) (k:=c.toNat) (by have:=hc.1;have:=hc.2;omega));unfold BZ;split
 .exact⟨a1j _,by show 1<=_;omega⟩
 rw[a4P,a6u];exact⟨by omega,a1j _⟩
theorem Lr:∀{r},(∀c∈r,fZ c J.s.length)->1<=AX J r/\AX J r<=wO J.s r
 | [],_=>⟨a1j _,a1j _⟩
 |c::r,h=>by obtain⟨h1,h2⟩:=a97 hJ (h c (by simp));obtain⟨h3,h4⟩:=Lr (r:=r) fun c hc=>h c (by simp[hc]);exact⟨aiw h1 h3,aiw h2 h4⟩
end
def plc(J:Jb):LI0->LI0->List LI0
 | [],q=>[q]
 |c::r,q=>(BZ J c).flatMap fun j=>plc J r (q.set c.toNat j)
def WA(D:List Dg)(q:LI0):LI0->S3->S3
 | [],t=>t
 |c::r,t=>WA D q r (bM D t c (q.getD c.toNat 0))
theorem AL{q:LI0}{i k v}:(q.set i v).getD k 0=if k=i/\i<q.length then v else q.getD k 0:=by
 simp only[List.getD,aan];by_cases h:i=k
 .subst h;by_cases h2:i<q.length
  .simp[h2]
  simp[h2,a4w (show q.length<=i by omega)]
 rw[a0S (fun e:k=i/\i<q.length=>h e.1.symm)];simp[h]
theorem Oe{J}:∀{r q q'},q'∈plc J r q->q'.length=q.length/\∀k,k∉r.map Int.toNat->q'.getD k 0=q.getD k 0
 | [],q,q',h=>by rw[plc,a2m]at h;subst h;exact⟨rfl,fun _ _=>rfl⟩
 |c::r,q,q',h=>by rw[plc,aeS]at h;obtain⟨j,_,h2⟩:=h;obtain⟨h3,h4⟩:=Oe h2;refine⟨by rw[h3,a5A],fun k hk=>?_⟩;rw[a4N,a1B,ade]at hk;rw[h4 k hk.2,AL,a0S (fun h=>hk.1 h.1)]
section
variable{J:Jb}{n:Nat}
structure a13(n:Nat)(r:LI0):Prop where
 nd:r.Nodup
 mem:∀c∈r,fZ c n
theorem a13.tail{c r}(h:a13 n (c::r)):a13 n r/\c.toNat∉r.map Int.toNat/\fZ c n:=by
 have h1:=a5x.1 h.nd;have hc:=h.mem c (by simp);refine⟨⟨h1.2,fun c hc=>h.mem c (by simp[hc])⟩,fun h2=>?_,hc⟩;obtain⟨d,h3,h4⟩:=a1u.1 h2;have hd:=h.mem d (by simp[h3]);have:d=c:=by have:=hc.1;have:=hd.1;omega
 exact h1.1 (this▸h3)
theorem a3l(ψ):∀{r} (q) (t),a13 q.length r->yG J ψ r t=eP (fun q'=>ψ (WA J.D q' r t)) (plc J r q)
 | [],q,t,_=>by simp[yG,plc,WA,eP]
 |c::r,q,t,ho=>by obtain⟨h1,h2,h3⟩:=ho.tail;rw[yG,plc,UA];refine qP fun j _=>?_;rw[a3l ψ (q.set c.toNat j) _ (by rw[a5A];exact h1)];refine qP fun q' hq=>?_;rw[WA,(Oe hq).2 _ h2,AL,a15 ⟨rfl,by have:=h3.1;have:=h3.2;omega⟩]
theorem WB:∀{r q q'},a13 q.length r->(q'∈plc J r q↔q'.length=q.length/\(∀k,k∉r.map Int.toNat->q'.getD k 0=q.getD k 0)/\∀c∈r,q'.getD c.toNat 0∈BZ J c)
 | [],q,q',_=>by
  rw[plc,a2m];constructor
  .rintro rfl;exact⟨rfl,fun _ _=>rfl,fun _ h=>by cases h⟩
  rintro⟨h1,h2,_⟩;exact(nV (d:=0) h1).2 fun i _=>h2 i (by simp)
 |c::r,q,q',ho=>by
  obtain⟨h1,h2,h3⟩:=ho.tail;have hl:c.toNat<q.length:=by have:=h3.1;have:=h3.2;omega
  rw[plc,aeS];constructor
  .rintro⟨j,hj,h4⟩;obtain⟨h5,h6,h7⟩:=(WB (by rw[a5A];exact h1)).1 h4;refine⟨by rw[h5,a5A],fun k hk=>?_,fun d hd=>?_⟩
   .rw[a4N,a1B,ade]at hk;rw[h6 k hk.2,AL,a0S (fun h=>hk.1 h.1)]
   rcases a1B.1 hd with rfl|hd
   .rw[h6 _ h2,AL,a15 ⟨rfl,hl⟩];exact hj
   exact h7 d hd
  rintro⟨h4,h5,h6⟩;refine⟨q'.getD c.toNat 0,h6 c (by simp),(WB (by rw[a5A];exact h1)).2 ⟨by rw[a5A];exact h4,fun k hk=>?_,fun d hd=>h6 d (by simp[hd])⟩⟩;rw[AL];split
  .rename_i h;rw[h.1]
  rename_i h;exact h5 k (by rw[a4N,a1B,ade];exact⟨fun e=>h ⟨e,hl⟩,hk⟩)
theorem a14(c):(BZ J c).Nodup:=by
 unfold BZ;split
 .simp
 rw[List.Nodup,afB];exact List.nodup_range.imp fun h e=>h (by omega)
theorem UC:∀{r q},a13 q.length r->(plc J r q).Nodup
 | [],q,_=>by simp[plc]
 |c::r,q,ho=>by
  obtain⟨h1,h2,h3⟩:=ho.tail;have hl:c.toNat<q.length:=by have:=h3.1;have:=h3.2;omega
  rw[plc,List.Nodup,List.pairwise_flatMap];refine⟨fun j _=>UC (by rw[a5A];exact h1),(a14 (J:=J) c).imp fun{a b} hab x hx y hy e=>?_⟩;subst e;have e1:=(Oe hx).2 _ h2;have e2:=(Oe hy).2 _ h2;rw[AL,a15 ⟨rfl,hl⟩]at e1 e2;exact hab (e1.symm.trans e2)
end
def YZ(J:Jb):List LI0:=((List.range (uK J.s)).map fun(k:Nat)=>iV J.s k).filter fun q=>decide (ov J.g q=q)
section
variable{J:Jb}(hJ:kQ J)
include hJ
theorem a3m{q}(hq:q.length=J.s.length):ov J.g q=q↔∀k,k<J.s.length->0<=J.g.getD k 0->J.g.getD k 0=q.getD k 0:=by
 have hg:=hJ.gl;have hl:(ov J.g q).length=q.length:=by simp[ov,af6,hg,hq]
 rw[nV (d:=0) hl];constructor
 .intro h k hk h0;have:=h k (by rw[hl,hq];exact hk);rw[Ll (by rw[hg,hq]),a15 (by rw[hg];exact hk),a15 h0]at this;exact this
 intro h k hk;rw[hl,hq]at hk;rw[Ll (by rw[hg,hq]),a15 (by rw[hg];exact hk)];split
 .exact h k hk ‹_›
 rfl
theorem a3n{q}:q∈(List.range (uK J.s)).map (fun(k:Nat)=>iV J.s k)↔iF J.s q=true:=by
 have hc:(uK J.s:Int)=bC J.s:=by have:=jm hJ.bG.sz;unfold uK;omega
 constructor
 .intro h;obtain⟨k,_,rfl⟩:=a1u.1 h;exact qX _ hJ.bG.sz
 intro h;have:=xR h hJ.bG.sz;refine a1u.2 ⟨(eH J.s q).toNat,a5y.2 (by omega),?_⟩;rw[show((eH J.s q).toNat:Int)=eH J.s q by omega];exact VK h hJ.bG.sz
theorem a5e:((List.range (uK J.s)).map (fun(k:Nat)=>iV J.s k)).Nodup:=by
 have hc:(uK J.s:Int)=bC J.s:=by have:=jm hJ.bG.sz;unfold uK;omega
 rw[List.Nodup,afB];refine List.Pairwise.imp_of_mem (fun{a b} ha hb h e=>h ?_) af0;rw[a5y]at ha hb;have h1:=J8 hJ.bG.sz (n:=(a:Int)) (by omega) (by omega);have h2:=J8 hJ.bG.sz (n:=(b:Int)) (by omega) (by omega);have e:iV J.s (a:Int)=iV J.s (b:Int):=e;rw[e,h2]at h1;omega
theorem a98:(plc J J.o (List.replicate J.s.length 0)).Perm (YZ J):=by
 obtain⟨o1,o2,o3⟩:=kQ.o2 hJ;have ho:a13 (List.replicate J.s.length (0:Int)).length J.o:=⟨o1,fun c hc=>by rw[a6c];exact o3 c hc⟩;unfold YZ;refine(a7o (UC ho) ((a5e hJ).filter _)).2 fun q=>?_;rw[WB ho,a8f,a3n hJ,a1z,a6c];constructor
 .rintro⟨h1,h2,h3⟩;have key:∀k,k<J.s.length->(0<=q.getD k 0/\q.getD k 0<J.s.getD k 0)/\(0<=J.g.getD k 0->J.g.getD k 0=q.getD k 0):=fun k hk=>by have hc:fZ (k:Int) J.s.length:=aF hk;have:=h3 k (mW hJ.ord hc);rw[YX hJ hc]at this;exact this
  exact⟨lH.2 ⟨h1,fun k hk=>(key k hk).1⟩,(a3m hJ h1).2 fun k hk=>(key k hk).2⟩
 rintro⟨h1,h2⟩;have hl:=lG h1;refine⟨hl,fun k hk=>?_,fun c hc=>?_⟩
 .have LV:J.s.length<=k:=by refine adk fun aS=>hk ?_;exact a1u.2 ⟨(k:Int),mW hJ.ord (aF aS),by simp⟩
  simp[List.getD,a4w (show q.length<=k by omega),a4w (show(List.replicate J.s.length (0:Int)).length<=k by simp;omega)]
 have og:=o3 c hc;have aS:c.toNat<J.s.length:=by have:=og.1;have:=og.2;omega
 rw[YX hJ og];exact⟨(lH.1 h1).2 _ aS,(a3m hJ hl).1 h2 _ aS⟩
theorem UD{q}(hq:iF J.s q=true):∀(r) (a) (t),J.o.drop a=r->a<=J.o.length->Dp J a t->Dp J J.o.length (WA J.D q r t)/\∀k,k<J.D.length->∀v,To (lU J.D k) q ((WA J.D q r t).get k) v->To (lU J.D k) q (t.get k) v
 | [],a,t,hr,ha,hd=>by
  have:a=J.o.length:=by have:=congrArg List.length hr;rw[a3Q,a5L]at this;omega
  subst this;exact⟨hd,fun _ _ _ h=>h⟩
 |c::r,a,t,hr,ha,hd=>by
  obtain⟨aS,hoc,wF,DY,hci,og⟩:=kQ.at_ hJ hr;have Zt:=(lH.1 hq).2 c.toNat (by have:=og.1;have:=og.2;omega);obtain⟨h1,h2⟩:=UD hq r (a+1) _ wF aS (nO hJ hr hd Zt);refine⟨h1,fun k hk v h=>?_⟩;have h4:=h2 k hk v h;rw[Le hJ.d3 t c _ hk]at h4;unfold Ns at h4;split at h4
  .rename_i h5;obtain⟨h6,h7,_⟩:=Jr hJ hd hk h5;refine .step h6.1 ?_;rw[h7];exact h4
  exact h4
theorem Z4:Dp J 0 (fD J.D):=fun k hk=>by rw[wX hJ.d3 hk];exact⟨(hJ.dg k hk).t.root,a5D _⟩
theorem aho{q}(hq:iF J.s q=true):aX J.D (WA J.D q J.o (fD J.D))=J.D.map fun d=>vT d q:=by
 obtain⟨h1,h2⟩:=UD hJ hq J.o 0 (fD J.D) aaO (a5D _) (Z4 hJ);unfold aX;refine(nV (d:=V0) (by simp)).2 fun k hk=>?_;rw[a4P,a6u]at hk;have hd:=hJ.dg k hk;have h3:=Lj hJ h1 hk;have h4:=h2 k hk _ (.fin h3.1);rw[wX hJ.d3 hk]at h4;have h6:=h4.at_ hd.t (by rw[hd.s];exact hq) 6001 (by have:=hd.t.root.1;have:=hd.n;omega) hd.t.root;have e1:((List.range J.D.length).map fun k=>oP (lU J.D k) ((WA J.D q J.o (fD J.D)).get k)).getD k V0=oP (lU J.D k) ((WA J.D q J.o (fD J.D)).get k):=by simp[List.getD,hk]
 have e2:(J.D.map fun d=>vT d q).getD k V0=vT (lU J.D k) q:=by simp[List.getD,hk]
 rw[e1,e2];exact h6
theorem ac7(ψ:List V->Int):yG J (fun t=>ψ (aX J.D t)) J.o (fD J.D)=eP (fun q=>ψ (J.D.map fun d=>vT d q)) (YZ J):=by obtain⟨o1,o2,o3⟩:=kQ.o2 hJ;rw[a3l _ (List.replicate J.s.length 0) _ ⟨o1,fun c hc=>by rw[a6c];exact o3 c hc⟩,KJ _ (a98 hJ)];refine qP fun q hq=>?_;unfold YZ at hq;rw[a8f,a3n hJ]at hq;rw[aho hJ hq.1]
end
end Go.Proofs.YtmobpoiejckagaaGreat
namespace Pv
open Go Tw
section
variable{X:mX}{P:LI1}{kt:LI2}{α:Type}[DecidableEq α](C:pK X P kt α)
theorem pK.amL{l x v j}(hb:Instr.sameBits 10000 (C.v x) (C.v x)=true)(hn:(l.map (·.1)).Nodup)(h:l[j]? = some (x,v)):a6X X P kt (C.es l) (C.tv x) (C.pv x) v j:=by
 obtain⟨hj,e⟩:=a0u.1 h;have hxj:(l.map (·.1))[j]? = some x:=by simp[a0A hj,e]
 refine⟨C.v x,_,C.tv x,C.v x,C.ht x,C.hc false x,C.pk l,?_,?_,?_,C.ht x,hb⟩
 .have hu:∀(i:Nat) y,(l.map (·.1))[i]? = some y->decide (x=y)=(some i==some j):=fun i y hy=>by
   rw[a5G];simp only[a1z,a7l,a08];constructor
   .rintro rfl;have i1:=a0u.1 hy;have i2:=a0u.1 hxj;exact(aaL hn (h₀:=i1.1) (h₁:=i2.1)).1 (i1.2.trans i2.2.symm)
   rintro rfl;rw[hxj]at hy;exact aa5 hy
  refine C.find x _ (some j) ?_ hu;rw[aaB];refine⟨by simpa using hj,by simp[e],fun i hi=>?_⟩;have hil:i<(l.map (·.1)).length:=by simp;omega
  rw[hu i _ (a0A hil)];simp;omega
 .simp[pK.es,a0A hj,e]
 simp[a0A hj,e]
theorem pK.newP{l x v}(h:x∉l.map (·.1)):afH X P kt (C.es (l++[(x,v)])) (C.tv x) l.length:=by
 refine⟨C.v x,_,C.ht x,C.pk _,?_⟩;have hu:∀(i:Nat) y,((l++[(x,v)]).map (·.1))[i]? = some y->decide (x=y)=(some i==some l.length):=fun i y hy=>by
  rw[a4M]at hy;rcases a4O i l.length with hi|hi
  .rw[a0P (by simpa using hi)]at hy;have:¬x=y:=fun e=>h (e▸a5E hy);rw[afc this];have:¬i=l.length:=(by omega);simp[this]
  rw[a1p (by simpa using hi)]at hy;have LU:i=l.length:=by have:=(a0u.1 hy).1;simp at this;omega
  subst LU;simp at hy;subst hy;simp
 refine C.find x _ (some l.length) ?_ hu;rw[aaB];refine⟨by simp,by simp,fun i hi=>?_⟩;have hil:i<((l++[(x,v)]).map (·.1)).length:=by simp;omega
 rw[hu i _ (a0A hil)];simp;omega
abbrev pK.im(m:List (α×Int)):List (PV X.Γ×PV X.Γ):=C.es (m.map fun e=>(e.1,.int .i64 e.2))
theorem pK.qA(m):(C.im m).length=m.length:=by simp[pK.im,pK.es]
theorem pK.Cb(m)(j:Nat):(C.im m)[j]? = (m[j]?).map fun e=>(C.pv e.1,.int .i64 e.2):=by simp[pK.im,pK.es,a5w];rfl
theorem AO{Y:mX}(m:List (α×Int)):((m.map fun e=>(e.1,(PV.int .i64 e.2:PV Y.Γ))).map (·.1))=m.map (·.1):=by simp
theorem ahp{m j}{f:Int->Int}{v}(h:∀e,m[j]? = some e->f e.2=v):Ku (C.im m) j (.int .i64 v)=C.im (m.modify j fun e=>(e.1,f e.2)):=by
 unfold Ku;refine aao fun i=>?_;rw[aeT,C.Cb,C.Cb,aeT];by_cases e:j=i
 .subst e;cases h2:m[j]? with
  |none=>simp[h2]
  |some x=>simp[h2,h x h2]
 simp[e]
theorem ahq{m x z v}:Ku (C.im m++[(C.pv x,.int .i64 z)]) (C.im m).length (.int .i64 v)=C.im (m++[(x,v)]):=by
 have:C.im (m++[(x,v)])=C.im m++[(C.pv x,.int .i64 v)]:=by simp[pK.im,pK.es]
 rw[this];unfold Ku;generalize C.im m=l;refine aao fun i=>?_;rw[aeT];rcases Nat.lt_trichotomy i l.length with h|h|h
 .rw[a0P h,a0P h];simp[show ¬l.length=i by omega]
 .subst h;simp
 rw[a4w (by simp;omega),a4w (by simp;omega)];rfl
theorem pK.WC{m k n}(hb:Instr.sameBits 10000 (C.v k) (C.v k)=true)(hn:(m.map (·.1)).Nodup)(h:k∈m.map (·.1))(hw:∀e∈m,i64.wrap (e.2+n)=e.2+n) :∃j old,qN X P kt (C.im m) (C.tv k) (.int .i64 old)/\a6X X P kt (C.im m) (C.tv k) (C.pv k) (.int .i64 old) j/\j<(C.im m).length/\Ku (C.im m) j (.int .i64 (i64.wrap (old+n)))=C.im (bQ.uf m k n):=by
 have aS:=a5H.2 h;have a7h:(m.map (·.1)).idxOf k<m.length:=by simpa using aS
 have hk:m[(m.map (·.1)).idxOf k]? = some (k,m[(m.map (·.1)).idxOf k].2):=by rw[a0A a7h];have:=a9B aS;rw[aa1]at this;exact congrArg some (ads this rfl)
 have JU:(k,m[(m.map (·.1)).idxOf k].2)∈m:=a5E hk;refine⟨(m.map (·.1)).idxOf k,m[(m.map (·.1)).idxOf k].2,C.found (by rw[AO];exact hn) (a1u.2 ⟨_,JU,rfl⟩),C.amL hb (by rw[AO];exact hn) (by rw[a5w,hk];rfl),by rw[C.qA];exact a7h,?_⟩;rw[hw _ JU];unfold bQ.uf;rw[a15 h];exact ahp C (f:=fun x=>x+n) fun e he=>by rw[hk]at he;cases he;rfl
theorem pK.WE{m k n}(h:k∉m.map (·.1))(hw:i64.wrap (0+n)=n) :oG X P kt (C.im m) (C.tv k)/\afH X P kt (C.im m++[(C.pv k,(PV.int .i64 0:PV X.Γ))]) (C.tv k) (C.im m).length/\(C.im m).length<(C.im m++[(C.pv k,(PV.int .i64 0:PV X.Γ))]).length/\Ku (C.im m++[(C.pv k,.int .i64 0)]) (C.im m).length (.int .i64 (i64.wrap (0+n)))=C.im (bQ.uf m k n):=by
 refine⟨C.fresh (by rw[AO];exact h),?_,by simp,?_⟩
 .have:=C.newP (l:=m.map fun e=>(e.1,(PV.int .i64 e.2:PV X.Γ))) (x:=k) (v:=.int .i64 0) (by rw[AO];exact h);rw[C.qA];simpa[pK.im,pK.es]using this
 rw[hw,ahq];unfold bQ.uf;rw[a0S h]
end
end Pv
namespace Go.Proofs.YtmobpoiejckagaaGreat
open Go Tw Pv bQ
abbrev wSk(H:List (PB aH))(s:S3)(r:Int)(x:List (Nat×PE aH)):bJ aH:=⟨[(1,xi r),(2,.val (.ptr 2 0 5)),(3,.val (.ptr 1 0 5)),(4,.val (.ptr 3 0 1)),(5,.val (.ptr 4 0 1)),(6,.loc 0 0)]++x,[s.ps],H⟩
def Sl(D:List Dg)(t:S3):LI0->Nat
 | []=>0
 |c::r=>if kL D t c=true then 0 else Sl D t r+1
def Sm(J:Jb)(t:S3)(i:Int):Int⊕Int:=if decide (i<(J.o.length:Int))=true then(if(!(kL J.D t (J.o.getD i.toNat 0)))=true then .inl (i64.wrap (i+1))else .inr i)else .inr i
theorem a99{J}(hJ:kQ J)(t):∀(r) (a),J.o.drop a=r->a<=J.o.length->itF (Sm J t) (r.length+1) (a:Int)=some ((a+Sl J.D t r:Nat):Int)
 | [],a,hr,ha=>by
  have:a=J.o.length:=by have:=congrArg List.length hr;rw[a3Q,a5L]at this;omega
  have e:Sm J t (a:Int)=.inr (a:Int):=by unfold Sm;rw[a0S (by simp;omega)]
  rw[a5L,itF,e];rfl
 |c::r,a,hr,ha=>by
  obtain⟨aS,hoc,wF,_⟩:=kQ.at_ hJ hr;have hl:=hJ.bG.len;have OM:=(kQ.o2 hJ).2.1;have e:Sm J t (a:Int)=if(!(kL J.D t c))=true then .inl (i64.wrap ((a:Int)+1))else .inr (a:Int):=by unfold Sm;rw[a15 (by simp;omega),a5M,hoc]
  rw[a4p,itF,e];cases h:kL J.D t c
  .simp only[abD,a2l];have ew:i64.wrap ((a:Int)+1)=((a+1:Nat):Int):=by rw[eU (by omega) (by omega)];omega
   have:=a99 hJ t r (a+1) wF aS;simp only[ew,Sl,h];rw[this];simp;omega
  simp[Sl,h]
theorem asf{M f J}(hJ:kQ J){t x}(r){a}(hr:J.o.drop a=r)(ha:a<=J.o.length)(hd:Dp J a t):JH (M+1) 126 0 7 (wSk (HM0 J f x) t a []) (.exit 0) (wSk (HM0 J f x) t ((a+Sl J.D t r:Nat):Int) [(32,xl false)]):=by
 have RN:=a99 hJ t r a hr ha;have OM:=(kQ.o2 hJ).2.1;have hl:=hJ.bG.len;refine a0O (st:=fun i=>wSk (HM0 J f x) t i []) (g:=Sm J t) (out:=fun i=>(.exit 0,wSk (HM0 J f x) t i [(32,xl false)])) (fun i=>0<=i/\i<=J.o.length) RN (by kernel_rfl) (by have:=congrArg List.length hr;rw[a3Q]at this;unfold LL;omega) ⟨by omega,by omega⟩ ?_ ?_
 .intro i i1 hi e;unfold Sm at e;split at e
  .rename_i c;have c:i<(J.o.length:Int):=(by simpa using c);split at e
   .cases e;rw[eU (by omega) (by omega)];omega
   cases e
  cases e
 intro i m i' hi ih;have hs:=a8X (M:=M) (f:=f) (a:=[]) (cc:=[]) (H:=[]) J t (J.o.getD i.toNat 0) hJ.d3 (fun k hk h=>⟨by simpa using h,(hd k hk).1.1⟩);by_cases c:i<(J.o.length:Int)
 .have t1:decide (i<(J.o.length:Int))=true:=by simpa using c
  have i1:fZ i J.o.length:=⟨hi.1,c⟩;cases hq:kL J.D t (J.o.getD i.toNat 0)
  .have e:Sm J t i=.inl (i64.wrap (i+1)):=by unfold Sm;rw[a15 t1,hq];rfl
   rw[hq]at hs;have g:=ih _ e;rw[e];exact aI gX (.b t1 (.o i1 (.fr [] hs (.b aiK (.go g)))))
  have e:Sm J t i=.inr i:=by unfold Sm;rw[a15 t1,hq];rfl
  rw[hq]at hs;rw[e];dsimp only[Ec];exact aI gX (.b t1 (.o i1 (.fr [] hs (.b aiJ .ex))))
 have t1:decide (i<(J.o.length:Int))=false:=by simpa using c
 have e:Sm J t i=.inr i:=by unfold Sm;rw[a0S (by rw[t1];simp)]
 rw[e];dsimp only[Ec];exact aI gX (.b t1 .ex)
theorem ash{M f}(u){J}(hJ:kQ J){t x}(r){a}(hr:J.o.drop a=r)(ha:a<=J.o.length)(hd:Dp J a t):JH (M+1) 126 0 8 (wSk (HM1 J f u x) t a []) (.exit 0) (wSk (HM1 J f u x) t ((a+Sl J.D t r:Nat):Int) [(32,xl false)]):=by
 have RN:=a99 hJ t r a hr ha;have OM:=(kQ.o2 hJ).2.1;have hl:=hJ.bG.len;refine a0O (st:=fun i=>wSk (HM1 J f u x) t i []) (g:=Sm J t) (out:=fun i=>(.exit 0,wSk (HM1 J f u x) t i [(32,xl false)])) (fun i=>0<=i/\i<=J.o.length) RN (by kernel_rfl) (by have:=congrArg List.length hr;rw[a3Q]at this;unfold LL;omega) ⟨by omega,by omega⟩ ?_ ?_
 .intro i i1 hi e;unfold Sm at e;split at e
  .rename_i c;have c:i<(J.o.length:Int):=(by simpa using c);split at e
   .cases e;rw[eU (by omega) (by omega)];omega
   cases e
  cases e
 intro i m i' hi ih;have hs:=a8X (M:=M) (f:=f) (a:=[]) (cc:=[.ptr 0 0 1]) (H:=[.aG [.int .u8 u]]) J t (J.o.getD i.toNat 0) hJ.d3 (fun k hk h=>⟨by simpa using h,(hd k hk).1.1⟩);by_cases c:i<(J.o.length:Int)
 .have t1:decide (i<(J.o.length:Int))=true:=by simpa using c
  have i1:fZ i J.o.length:=⟨hi.1,c⟩;cases hq:kL J.D t (J.o.getD i.toNat 0)
  .have e:Sm J t i=.inl (i64.wrap (i+1)):=by unfold Sm;rw[a15 t1,hq];rfl
   rw[hq]at hs;have g:=ih _ e;rw[e];exact aI gX (.b t1 (.o i1 (.fr [5] hs (.b aiK (.go g)))))
  have e:Sm J t i=.inr i:=by unfold Sm;rw[a15 t1,hq];rfl
  rw[hq]at hs;rw[e];dsimp only[Ec];exact aI gX (.b t1 (.o i1 (.fr [5] hs (.b aiJ .ex))))
 have t1:decide (i<(J.o.length:Int))=false:=by simpa using c
 have e:Sm J t i=.inr i:=by unfold Sm;rw[a0S (by rw[t1];simp)]
 rw[e];dsimp only[Ec];exact aI gX (.b t1 .ex)
open Go Tw Pv bQ
theorem WG{J}(hJ:kQ J){op x}:∀(r) (a) (t),J.o.drop a=r->a<=J.o.length->Dp J a t->jR J op r t x=jR J op (r.drop (Sl J.D t r)) t x/\a+Sl J.D t r<=J.o.length/\Dp J (a+Sl J.D t r) t/\∀c r',r.drop (Sl J.D t r)=c::r'->kL J.D t c=true
 | [],a,t,hr,ha,hd=>⟨rfl,ha,hd,fun _ _ h=>by cases h⟩
 |c::r,a,t,hr,ha,hd=>by
  obtain⟨aS,hoc,wF,_⟩:=kQ.at_ hJ hr;cases h:kL J.D t c
  .obtain⟨q1,q2,q3,q4⟩:=WG hJ (op:=op) (x:=x) r (a+1) t wF aS (Wx hJ hr hd h);have e:Sl J.D t (c::r)=Sl J.D t r+1:=(by simp[Sl,h]);rw[e];refine⟨?_,by omega,by rw[show a+(Sl J.D t r+1)=a+1+Sl J.D t r by omega];exact q3,q4⟩;rw[List.drop_succ_cons,<-q1]
   conv=>lhs;unfold jR
   rw[a0S (by rw[h];simp)]
  have e:Sl J.D t (c::r)=0:=by simp[Sl,h]
  rw[e];exact⟨rfl,ha,hd,fun c' r' h2=>by cases h2;exact h⟩
theorem WH{J}(hJ:kQ J):∀(r) (n),(∀c∈r,fZ c J.s.length)->wO J.s (r.drop n)<=wO J.s r
 | [],n,_=>by simp
 |c::r,0,_=>a1j _
 |c::r,n+1,h=>by have h1:=WH hJ r n fun c hc=>h c (by simp[hc]);have hi:=h c (by simp);have hz:=hJ.bG.sz _ (bV (s:=J.s) (k:=c.toNat) (by have:=hi.1;have:=hi.2;omega));have:wO J.s r<=(J.s.getD c.toNat 0).toNat*wO J.s r:=aev _ (by omega);rw[List.drop_succ_cons];simp only[wO];omega
abbrev ac8(J:Jb)(f:Nat)(t:S3)(c:Int)(a:Int)(m:Mk)(ks:LI0)(i:Int)(y:List (Nat×PE aH)):bJ aH:=⟨[(1,xi a),(2,.val (.ptr 2 0 5)),(3,.val (.ptr 1 0 5)),(4,.val (.ptr 3 0 1)),(5,.val (.ptr 4 0 1)),(6,.loc 0 0),(9,xi c),(13,.loc 1 0),(93,xi (J.s.getD c.toNat 0)),(94,xi i)]++y,[t.ps,[.int .i64 c,.own 9]],ac2 J f m++[oI false false ks]⟩
theorem asi{M f J}(hJ:kQ J){op r t c a}(x)(hc:fZ c J.s.length)(Q:Nat->Mk->Prop)(h0:Q 0 x)(hq:∀j y,j<(J.s.getD c.toNat 0).toNat->Q j y->Q (j+1) (jR J op r (bM J.D t c j) y).2)(hk:∀j,j<(J.s.getD c.toNat 0).toNat->∀k,k<J.D.length->a3h (lU J.D k) (t.get k) c j)(hf:∀(j) y,j<(J.s.getD c.toNat 0).toNat->Q j y->cZ X0 Qp (iD (M+1)) (.fn 126 [] pM) [.agg (bM J.D t c j).ps,.int .i64 (i64.wrap (a+1))] (HM0 J f y) (.int .i64 (jR J op r (bM J.D t c j) y).1) (ac2 J f (jR J op r (bM J.D t c j) y).2)) :JH (M+1) 126 1 7 (ac8 J f t c a x [] 0 []) (.exit 2) (ac8 J f t c a (aQ (Wv J.D (jR J op r) t c) (J.s.getD c.toNat 0).toNat 0 ([],x)).2 (aQ (Wv J.D (jR J op r) t c) (J.s.getD c.toNat 0).toNat 0 ([],x)).1 (((J.s.getD c.toNat 0).toNat:Nat):Int) [(95,xl false)]):=by
 have hz:=hJ.bG.sz _ (bV (s:=J.s) (k:=c.toNat) (by have:=hc.1;have:=hc.2;omega));refine qY (σ:=LI0×Mk) (N:=(J.s.getD c.toNat 0).toNat) (g:=Wv J.D (jR J op r) t c) (s0:=([],x)) (st:=fun i y=>ac8 J f t c a y.2 y.1 i []) (fin:=fun y=>ac8 J f t c a y.2 y.1 (((J.s.getD c.toNat 0).toNat:Nat):Int) [(95,xl false)]) (fun j y=>y.1.length=j/\Q j y.2) (by kernel_rfl) (by unfold ah;omega) ⟨rfl,h0⟩ (fun j y hj hy=>⟨by simp[Wv,hy.1],hq j y.2 hj hy.2⟩) (fun j y hj hy m e p g=>?_) (fun y _=>?_)
 .have h1:=hf j y.2 hj hy.2;have ha:=La (M:=M) (f:=f) (a:=[]) (cc:=[]) (H:=[]) J t c j hJ.d3 (hk j hj);have t1:decide ((j:Int)<J.s.getD c.toNat 0)=true:=by rw[a1z];omega
  have h3:=hy.1;unfold Wv at g;generalize jR J op r (bM J.D t c j) y.2=z at h1 g;obtain⟨v,z⟩:=z;exact aI gX (.b t1 (.fr [] ha (.fr [0,1,2,3,4,7,8] h1 (.o (show y.1.length+[v].length<=ah by simp only[a3J];unfold ah;omega) (.Zx [.gc [10,11,13]] g)))))
 .have t1:decide ((((J.s.getD c.toNat 0).toNat:Nat):Int)<J.s.getD c.toNat 0)=false:=by rw[a3k];omega
  exact aI gX (.b t1 .ex)
open Go Tw Pv bQ
theorem Z5{k t}(hn:(k.map (·.1)).Nodup)(h:t∈k.map (·.1)):qN X0 Qp 148 (Jq k) (.agg [.int .i64 t.a,.int .i64 t.b,.int .i64 t.c]) (.int .i64 (knS k t)):=by
 refine kS.found (x:=t) (by rw[a8G];exact hn) ?_;obtain⟨e,he,rfl⟩:=a1u.1 h;refine a1u.2 ⟨e,he,?_⟩;have:knS k e.1=e.2:=by
  have:k.find? (fun y=>decide (y.1=e.1))=some e:=by
   clear h
   induction k with
   |nil=>cases he
   |cons y l ih=>
    rw[a4N,a5x]at hn;rw[ahY];rcases a1B.1 he with rfl|he
    .simp
    have:¬y.1=e.1:=fun h=>hn.1 (a1u.2 ⟨e,he,h.symm⟩);rw[afc this];exact ih hn.2 he
  unfold knS;rw[this];rfl
 rw[this]
abbrev ahr(J:Jb)(op:List V->V)(f:Nat)(m:Nat)(r:LI0):Prop:=∀(a:Nat) (t:S3) (x:Mk),J.o.drop a=r->a<=J.o.length->Dp J a t->XOk J op x->x.e.length+wO J.s r<=ah->x.n.length+wO J.s r<=ah ->
  cZ X0 Qp (iD m) (.fn 126 [] pM) [.agg t.ps,.int .i64 (a:Int)] (HM0 J f x) (.int .i64 (jR J op r t x).1) (ac2 J f (jR J op r t x).2)
abbrev ahs(J:Jb)(f:Nat)(x:Mk)(v:V):List (PB aH):=[.map (Jq x.k),.cells [lI J.s,lI J.o,.own 8,.own 6,.int .i64 0],.aG (J.ps (.fn f [] [])),.aG [.fn 126 [] pM],.aG [.map 0],.gone,Aq x.n,.list true true 39 [v],Ap (x.e++[v])]
abbrev amM(J:Jb)(f:Nat)(x:Mk)(t:S3)(b:Br):List (PB aH):=[.map (Jq x.k++[(.agg t.ps,.int .i64 (x.n.length:Int))]),.cells [lI J.s,lI J.o,.own 7,.own 11,.int .i64 0],.aG (J.ps (.fn f [] [])),.aG [.fn 126 [] pM],.aG [.map 0],.gone,.gone,Ap x.e,.gone,.gone,.list true true 105 [b],Aq (x.n++[b])]
theorem aeQ{N f:Nat}{J}(hJ:kQ J){op}(jK:ru J op)(hs:∀l,l.length=J.D.length->cZ X0 Qp (iD (N+1)) (.fn f [] []) [lV l] [] (.agg (op l).ps) [])(r)(rec:∀c r',c::r' <:+ r->ahr J op f (N+1) r'):ahr J op f (N+2) r:=by
 intro a t x hr ha hd hx CZ yM;unfold ah at CZ yM;have OM:=(kQ.o2 hJ).2.1;have hl6:=hJ.bG.len;have lsk:=asf (M:=N) (f:=f) hJ (x:=x) r hr ha hd;obtain⟨q1,q2,q3,q4⟩:=WG hJ (op:=op) (x:=x) r a t hr ha hd;have hw:=WH hJ r (Sl J.D t r) (fun c hc=>(kQ.o2 hJ).2.2 c (a5N (by rw[hr];exact hc)));rw[q1];generalize Sl J.D t r=n at lsk q1 q2 q3 q4 hw;have Gt:J.o.drop (a+n)=r.drop n:=by rw[<-hr,afn]
 have a9a:r.drop n <:+ r:=List.drop_suffix _ _;have Il:=congrArg List.length Gt;rw[a3Q]at Il;clear q1 hr;generalize a+n=i at lsk q2 q3 Gt Il;generalize r.drop n=r0 at q4 hw Gt a9a Il;cases r0 with
 |nil=>
  have e0:i=J.o.length:=by rw[a5L]at Il;omega
  have t0:((i:Int)==(J.o.length:Int))=true:=by rw[e0];simp
  rw[e0]at q3;have nR:(aX J.D t).length=J.D.length:=by simp[aX]
  have hce:=a3i (M:=N) (f:=f) J t hJ.d3 (fun k hk=>(Lj hJ q3 hk).2);have hv:=hs (aX J.D t) nR;simp only[wO]at hw;have hb:x.e.length+[op (aX J.D t)].length<=ah:=by simp only[a3J];unfold ah;omega
  have h1:cZ X0 Qp (iD (N+2)) (.fn 126 [] pM) [.agg t.ps,.int .i64 (a:Int)] (HM0 J f x) (.int .i64 (i64.wrap (0-((x.e++[op (aX J.D t)]).length:Int)))) (ahs J f x (op (aX J.D t))):=
   fH gX (first:=[]) (cap:=pM) (.w lsk (.b t0 (.fr [] hce (.fr [] hv (.o hb .er)))))
  exact cZ.gs hX h1 [.mv 6,.gc [8,9]] (by kernel_rfl)
 |cons c r'=>
  have t0:((i:Int)==(J.o.length:Int))=false:=by rw[a4p]at Il;simp;omega
  obtain⟨aS,hoc,wF,DY,hci,og⟩:=kQ.at_ hJ Gt;have BX:=q4 c r' rfl;have rc:=rec c r' a9a;have ia:fZ (i:Int) J.o.length:=⟨by omega,by omega⟩;have Ls:J.o.getD (i:Int).toNat 0=c:=by rw[a5M];exact hoc
  have ig:fZ (J.o.getD (i:Int).toNat 0) J.g.length:=by rw[Ls,hJ.gl];exact og
  have hz:=hJ.bG.sz _ (bV (s:=J.s) (k:=c.toNat) (by have:=og.1;have:=og.2;omega));have ZB:∀c'∈r',fZ c' J.s.length:=fun c' h=>(kQ.o2 hJ).2.2 c' (by rw[<-wF]at h;exact a5N h);have hw0:=QJ hJ.bG.sz ZB;have hw1:wO J.s r'<=(J.s.getD c.toNat 0).toNat*wO J.s r':=aev _ (by omega);have ew:i64.wrap ((i:Int)+1)=((i+1:Nat):Int):=by rw[eU (by omega) (by omega)];omega
  simp only[wO]at hw;unfold jR;rw[a15 BX];cases tg:decide (J.g.getD c.toNat 0>=0)
  .rw[a0S (by simp)];have tg':decide (J.g.getD (J.o.getD (i:Int).toNat 0).toNat 0>=0)=false:=by rw[Ls];exact tg
   by_cases hk:t∈x.k.map (·.1)
   .rw[a15 hk];have hF:qN X0 Qp 148 (Jq x.k) (.agg [.int .i64 t.a,.int .i64 t.b,.int .i64 t.c]) (.int .i64 (knS x.k t)):=Z5 hx.nd hk;have h1:cZ X0 Qp (iD (N+2)) (.fn 126 [] pM) [.agg t.ps,.int .i64 (a:Int)] (HM0 J f x) (.int .i64 (knS x.k t)) (HM0 J f x):=
     fH gX (first:=[]) (cap:=pM) (.w lsk (.b t0 (.o ia (.o ig (.b tg' (.c (.int .i64 (knS x.k t)) [] hF (.b aiH .er)))))))
    exact cZ.gs hX h1 [.mv 5,.mv 6] (by kernel_rfl)
   rw[a0S hk];have hm2:=Wy hJ Gt q3 BX;have hF:oG X0 Qp 148 (Jq x.k) (.agg [.int .i64 t.a,.int .i64 t.b,.int .i64 t.c]):=kS.fresh (x:=t) (by simpa using hk);have is:fZ (J.o.getD (i:Int).toNat 0) J.s.length:=by rw[Ls];exact og
   have Xr:∀j,j<(J.s.getD c.toNat 0).toNat->j*wO J.s r'+wO J.s r'<=(J.s.getD c.toNat 0).toNat*wO J.s r':=fun j hj=>by have:(j+1)*wO J.s r'<=(J.s.getD c.toNat 0).toNat*wO J.s r':=a3I _ hj;rw[a3H]at this;omega
   let Q:Nat->Mk->Prop:=fun j y=>XOk J op y/\y.e.length<=x.e.length+j*wO J.s r'/\y.n.length+j<=x.n.length+j*wO J.s r'/\∀e∈y.k,e∈x.k\/Dp J (i+1) e.1
   have hq:∀j y,j<(J.s.getD c.toNat 0).toNat->Q j y->Q (j+1) (jR J op r' (bM J.D t c j) y).2:=fun j y hj hy=>by
    obtain⟨y1,y2,y3,y4⟩:=hy;have Xr:=Xr j hj;have h:=Uz hJ op jK r' (i+1) (bM J.D t c j) y wF aS (nO hJ Gt q3 ⟨by omega,by omega⟩) y1 (by omega) (by omega);have h3:=h.el;have h4:=h.nl;refine⟨h.ok,by rw[a3H];omega,by rw[a3H];omega,fun e he=>?_⟩;rcases h.ks e he with h5|h5
    .exact y4 e h5
    exact .inr h5
   have lp:=asi (M:=N) (f:=f) hJ (op:=op) (r:=r') (t:=t) (c:=c) (a:=(i:Int)) x og Q ⟨hx,by simp,by simp,fun e he=>.inl he⟩ hq (fun j hj k hk=>Lh hJ q3 ⟨by omega,by omega⟩ hk) (fun j y hj hy=>by obtain⟨y1,y2,y3,y4⟩:=hy;have Xr:=Xr j hj;rw[ew];exact rc (i+1) (bM J.D t c j) y wF aS (nO hJ Gt q3 ⟨by omega,by omega⟩) y1 (by unfold ah;omega) (by unfold ah;omega))
   have inv:=bP (g:=Wv J.D (jR J op r') t c) (m:=(J.s.getD c.toNat 0).toNat) (k:=0) (s:=([],x)) (fun j y=>Q j y.2) ⟨hx,by simp,by simp,fun e he=>.inl he⟩ (fun j y _ hj hy=>hq j y.2 (by omega) hy);rw[a3C]at inv;simp only[];generalize aQ (Wv J.D (jR J op r') t c) (J.s.getD c.toNat 0).toNat 0 ([],x)=y at lp inv;obtain⟨ks,m⟩:=y;obtain⟨y1,y2,y3,y4⟩:=inv;have hnk:t∉m.k.map (·.1):=fun h=>by
    obtain⟨e,he,e2⟩:=a1u.1 h;rcases y4 e he with h1|h1
    .exact hk (a1u.2 ⟨e,h1,e2⟩)
    rw[e2]at h1;exact a0Y hJ Gt BX h1
   have hF2:oG X0 Qp 148 (Jq m.k) (.agg [.int .i64 t.a,.int .i64 t.b,.int .i64 t.c]):=kS.fresh (x:=t) (by simpa using hnk);have ek:Jq m.k++[(.agg t.ps,.int .i64 (m.n.length:Int))]=Jq (m.k++[(t,(m.n.length:Int))]):=by unfold Jq pK.es;rw[a4M,a4M];rfl
   have hF3:qN X0 Qp 148 (Jq m.k++[(.agg t.ps,.int .i64 (m.n.length:Int))]) (.agg [.int .i64 t.a,.int .i64 t.b,.int .i64 t.c]) (.int .i64 (m.n.length:Int)):=by
    refine(congrArg (fun l:List (PV aH×PV aH)=>qN X0 Qp 148 l (.agg [.int .i64 t.a,.int .i64 t.b,.int .i64 t.c]) (.int .i64 (m.n.length:Int))) ek).mpr ?_;refine kS.found (x:=t) ?_ ?_
    .rw[a8G,show((fun e:S3×PV X0.Γ=>e.1)∘fun e:S3×Int=>(e.1,(PV.int .i64 e.2:PV X0.Γ)))=fun e=>e.1 from rfl,a4M];exact EC y1.nd hnk
    simp
   have hb:m.n.length+[(⟨c,ks⟩:Br)].length<=ah:=by simp only[a3J];have y3:m.n.length+(J.s.getD c.toNat 0).toNat<=x.n.length+(J.s.getD c.toNat 0).toNat*wO J.s r':=y3;unfold ah;omega
   have h1:cZ X0 Qp (iD (N+2)) (.fn 126 [] pM) [.agg t.ps,.int .i64 (a:Int)] (HM0 J f x) (.int .i64 (m.n.length:Int)) (amM J f m t ⟨c,ks⟩):=by subst Ls;exact fH gX (first:=[]) (cap:=pM) (.w lsk (.b t0 (.o ia (.o ig (.b tg' (.q (.bool false) hF (.b aiC (.o is (.wG [.mv 5,.mv 6,.PD 1 1 3] lp (.q (.bool false) (kS.ck t) (.o hF2 (.o hb (.c (.int .i64 (m.n.length:Int)) [] hF3 .er)))))))))))))
   have h2:=cZ.gs hX h1 [.gc [7,11]] (v':=.int .i64 (m.n.length:Int)) (H2:=[.map (Jq m.k++[(.agg t.ps,.int .i64 (m.n.length:Int))]),.cells [lI J.s,lI J.o,.own 7,.own 8,.int .i64 0],.aG (J.ps (.fn f [] [])),.aG [.fn 126 [] pM],.aG [.map 0],.gone,.gone,Ap m.e,Aq (m.n++[⟨c,ks⟩])]) (by kernel_rfl);exact(congrArg (fun l:List (PV aH×PV aH)=>cZ X0 Qp (iD (N+2)) (.fn 126 [] pM) [.agg t.ps,.int .i64 (a:Int)] (HM0 J f x) (.int .i64 (m.n.length:Int)) [.map l,.cells [lI J.s,lI J.o,.own 7,.own 8,.int .i64 0],.aG (J.ps (.fn f [] [])),.aG [.fn 126 [] pM],.aG [.map 0],.gone,.gone,Ap m.e,Aq (m.n++[⟨c,ks⟩])]) ek).mp h2
  rw[a15 rfl];have tg':decide (J.g.getD (J.o.getD (i:Int).toNat 0).toNat 0>=0)=true:=by rw[Ls];exact tg
  have hg:0<=J.g.getD c.toNat 0:=by simpa using tg
  have haf:=La (M:=N) (f:=f) (a:=[]) (cc:=[]) (H:=[]) J t c (J.g.getD c.toNat 0) hJ.d3 (fun k hk=>Lh hJ q3 ⟨hg,hJ.gv c og hg⟩ hk);have h2:=rc (i+1) (bM J.D t c (J.g.getD c.toNat 0)) x wF aS (nO hJ Gt q3 ⟨hg,hJ.gv c og hg⟩) hx (by unfold ah;omega) (by unfold ah;omega);rw[<-ew]at h2;subst Ls;exact fH gX (first:=[]) (cap:=pM) (.w lsk (.b t0 (.o ia (.o ig (.b tg' (.fr [] haf (.fr [0,1,2,3,4,5,6] h2 .er)))))))
theorem aso{N f:Nat}{J}(hJ:kQ J){op}(jK:ru J op)(hs:∀m,N<=m->∀l,l.length=J.D.length->cZ X0 Qp (iD m) (.fn f [] []) [lV l] [] (.agg (op l).ps) []):∀(F) (r),r.length<=F->ahr J op f (N+F+2) r:=by
 intro F
 induction F with
 |zero=>
  intro r hF;refine aeQ hJ jK (hs _ (by omega)) r fun c r' h=>?_;have:=h.length_le;rw[a4p]at this;omega
 |succ F ih=>
  intro r hF;refine aeQ (N:=N+F+1) hJ jK (hs _ (by omega)) r fun c r' h=>ih r' ?_;have:=h.length_le;rw[a4p]at this;omega
open Go Tw Pv bQ
abbrev acd(J:Jb)(f:Nat)(u:Int)(t:S3)(c:Int)(a:Int)(m:Mk)(ks:LI0)(i:Int)(y:List (Nat×PE aH)):bJ aH:=⟨[(1,xi a),(2,.val (.ptr 2 0 5)),(3,.val (.ptr 1 0 5)),(4,.val (.ptr 3 0 1)),(5,.val (.ptr 4 0 1)),(6,.loc 0 0),(9,xi c),(13,.loc 1 0),(93,xi (J.s.getD c.toNat 0)),(94,xi i)]++y,[t.ps,[.int .i64 c,.own 10]],ac3 J f u m++[oI false false ks]⟩
theorem asq{M f u J}(hJ:kQ J){op r t c a}(x)(hc:fZ c J.s.length)(Q:Nat->Mk->Prop)(h0:Q 0 x)(hq:∀j y,j<(J.s.getD c.toNat 0).toNat->Q j y->Q (j+1) (jR J op r (bM J.D t c j) y).2)(hk:∀j,j<(J.s.getD c.toNat 0).toNat->∀k,k<J.D.length->a3h (lU J.D k) (t.get k) c j)(hf:∀(j) y,j<(J.s.getD c.toNat 0).toNat->Q j y->cZ X0 Qp (iD (M+1)) (.fn 126 [] pM) [.agg (bM J.D t c j).ps,.int .i64 (i64.wrap (a+1))] (HM1 J f u y) (.int .i64 (jR J op r (bM J.D t c j) y).1) (ac3 J f u (jR J op r (bM J.D t c j) y).2)) :JH (M+1) 126 1 8 (acd J f u t c a x [] 0 []) (.exit 2) (acd J f u t c a (aQ (Wv J.D (jR J op r) t c) (J.s.getD c.toNat 0).toNat 0 ([],x)).2 (aQ (Wv J.D (jR J op r) t c) (J.s.getD c.toNat 0).toNat 0 ([],x)).1 (((J.s.getD c.toNat 0).toNat:Nat):Int) [(95,xl false)]):=by
 have hz:=hJ.bG.sz _ (bV (s:=J.s) (k:=c.toNat) (by have:=hc.1;have:=hc.2;omega));refine qY (σ:=LI0×Mk) (N:=(J.s.getD c.toNat 0).toNat) (g:=Wv J.D (jR J op r) t c) (s0:=([],x)) (st:=fun i y=>acd J f u t c a y.2 y.1 i []) (fin:=fun y=>acd J f u t c a y.2 y.1 (((J.s.getD c.toNat 0).toNat:Nat):Int) [(95,xl false)]) (fun j y=>y.1.length=j/\Q j y.2) (by kernel_rfl) (by unfold ah;omega) ⟨rfl,h0⟩ (fun j y hj hy=>⟨by simp[Wv,hy.1],hq j y.2 hj hy.2⟩) (fun j y hj hy m e p g=>?_) (fun y _=>?_)
 .have h1:=hf j y.2 hj hy.2;have ha:=La (M:=M) (f:=f) (a:=[]) (cc:=[.ptr 0 0 1]) (H:=[.aG [.int .u8 u]]) J t c j hJ.d3 (hk j hj);have t1:decide ((j:Int)<J.s.getD c.toNat 0)=true:=by rw[a1z];omega
  have h3:=hy.1;unfold Wv at g;generalize jR J op r (bM J.D t c j) y.2=z at h1 g;obtain⟨v,z⟩:=z;exact aI gX (.b t1 (.fr [5] ha (.fr [0,1,2,3,4,5,8,9] h1 (.o (show y.1.length+[v].length<=ah by simp only[a3J];unfold ah;omega) (.Zx [.gc [11,12,14]] g)))))
 .have t1:decide ((((J.s.getD c.toNat 0).toNat:Nat):Int)<J.s.getD c.toNat 0)=false:=by rw[a3k];omega
  exact aI gX (.b t1 .ex)
abbrev aht(J:Jb)(op:List V->V)(f:Nat)(u:Int)(m:Nat)(r:LI0):Prop:=∀(a:Nat) (t:S3) (x:Mk),J.o.drop a=r->a<=J.o.length->Dp J a t->XOk J op x->x.e.length+wO J.s r<=ah->x.n.length+wO J.s r<=ah ->
  cZ X0 Qp (iD m) (.fn 126 [] pM) [.agg t.ps,.int .i64 (a:Int)] (HM1 J f u x) (.int .i64 (jR J op r t x).1) (ac3 J f u (jR J op r t x).2)
abbrev ahu(J:Jb)(f:Nat)(u:Int)(x:Mk)(v:V):List (PB aH):=[.map (Jq x.k),.cells [lI J.s,lI J.o,.own 9,.own 7,.int .i64 0],.aG (J.ps (.fn f [] [.ptr 5 0 1])),.aG [.fn 126 [] pM],.aG [.map 0],.aG [.int .u8 u],.gone,Aq x.n,.list true true 39 [v],Ap (x.e++[v])]
abbrev amO(J:Jb)(f:Nat)(u:Int)(x:Mk)(t:S3)(b:Br):List (PB aH):=[.map (Jq x.k++[(.agg t.ps,.int .i64 (x.n.length:Int))]),.cells [lI J.s,lI J.o,.own 8,.own 12,.int .i64 0],.aG (J.ps (.fn f [] [.ptr 5 0 1])),.aG [.fn 126 [] pM],.aG [.map 0],.aG [.int .u8 u],.gone,.gone,Ap x.e,.gone,.gone,.list true true 105 [b],Aq (x.n++[b])]
theorem aeR{N f:Nat}(u){J}(hJ:kQ J){op}(jK:ru J op)(hs:∀l,l.length=J.D.length->cZ X0 Qp (iD (N+1)) (.fn f [] [.ptr 0 0 1]) [lV l] [.aG [.int .u8 u]] (.agg (op l).ps) [.aG [.int .u8 u]])(r)(rec:∀c r',c::r' <:+ r->aht J op f u (N+1) r'):aht J op f u (N+2) r:=by
 intro a t x hr ha hd hx CZ yM;unfold ah at CZ yM;have OM:=(kQ.o2 hJ).2.1;have hl6:=hJ.bG.len;have lsk:=ash (M:=N) (f:=f) u hJ (x:=x) r hr ha hd;obtain⟨q1,q2,q3,q4⟩:=WG hJ (op:=op) (x:=x) r a t hr ha hd;have hw:=WH hJ r (Sl J.D t r) (fun c hc=>(kQ.o2 hJ).2.2 c (a5N (by rw[hr];exact hc)));rw[q1];generalize Sl J.D t r=n at lsk q1 q2 q3 q4 hw;have Gt:J.o.drop (a+n)=r.drop n:=by rw[<-hr,afn]
 have a9a:r.drop n <:+ r:=List.drop_suffix _ _;have Il:=congrArg List.length Gt;rw[a3Q]at Il;clear q1 hr;generalize a+n=i at lsk q2 q3 Gt Il;generalize r.drop n=r0 at q4 hw Gt a9a Il;cases r0 with
 |nil=>
  have e0:i=J.o.length:=by rw[a5L]at Il;omega
  have t0:((i:Int)==(J.o.length:Int))=true:=by rw[e0];simp
  rw[e0]at q3;have nR:(aX J.D t).length=J.D.length:=by simp[aX]
  have hce:=ac1 (M:=N) (f:=f) (u:=u) J t hJ.d3 (fun k hk=>(Lj hJ q3 hk).2);have hv:=hs (aX J.D t) nR;simp only[wO]at hw;have hb:x.e.length+[op (aX J.D t)].length<=ah:=by simp only[a3J];unfold ah;omega
  have h1:cZ X0 Qp (iD (N+2)) (.fn 126 [] pM) [.agg t.ps,.int .i64 (a:Int)] (HM1 J f u x) (.int .i64 (i64.wrap (0-((x.e++[op (aX J.D t)]).length:Int)))) (ahu J f u x (op (aX J.D t))):=
   fH gX (first:=[]) (cap:=pM) (.w lsk (.b t0 (.fr [5] hce (.fr [5] hv (.o hb .er)))))
  exact cZ.gs hX h1 [.mv 7,.gc [9,10]] (by kernel_rfl)
 |cons c r'=>
  have t0:((i:Int)==(J.o.length:Int))=false:=by rw[a4p]at Il;simp;omega
  obtain⟨aS,hoc,wF,DY,hci,og⟩:=kQ.at_ hJ Gt;have BX:=q4 c r' rfl;have rc:=rec c r' a9a;have ia:fZ (i:Int) J.o.length:=⟨by omega,by omega⟩;have Ls:J.o.getD (i:Int).toNat 0=c:=by rw[a5M];exact hoc
  have ig:fZ (J.o.getD (i:Int).toNat 0) J.g.length:=by rw[Ls,hJ.gl];exact og
  have hz:=hJ.bG.sz _ (bV (s:=J.s) (k:=c.toNat) (by have:=og.1;have:=og.2;omega));have ZB:∀c'∈r',fZ c' J.s.length:=fun c' h=>(kQ.o2 hJ).2.2 c' (by rw[<-wF]at h;exact a5N h);have hw0:=QJ hJ.bG.sz ZB;have hw1:wO J.s r'<=(J.s.getD c.toNat 0).toNat*wO J.s r':=aev _ (by omega);have ew:i64.wrap ((i:Int)+1)=((i+1:Nat):Int):=by rw[eU (by omega) (by omega)];omega
  simp only[wO]at hw;unfold jR;rw[a15 BX];cases tg:decide (J.g.getD c.toNat 0>=0)
  .rw[a0S (by simp)];have tg':decide (J.g.getD (J.o.getD (i:Int).toNat 0).toNat 0>=0)=false:=by rw[Ls];exact tg
   by_cases hk:t∈x.k.map (·.1)
   .rw[a15 hk];have hF:qN X0 Qp 148 (Jq x.k) (.agg [.int .i64 t.a,.int .i64 t.b,.int .i64 t.c]) (.int .i64 (knS x.k t)):=Z5 hx.nd hk;have h1:cZ X0 Qp (iD (N+2)) (.fn 126 [] pM) [.agg t.ps,.int .i64 (a:Int)] (HM1 J f u x) (.int .i64 (knS x.k t)) (HM1 J f u x):=
     fH gX (first:=[]) (cap:=pM) (.w lsk (.b t0 (.o ia (.o ig (.b tg' (.c (.int .i64 (knS x.k t)) [] hF (.b aiH .er)))))))
    exact cZ.gs hX h1 [.mv 6,.mv 7] (by kernel_rfl)
   rw[a0S hk];have hm2:=Wy hJ Gt q3 BX;have hF:oG X0 Qp 148 (Jq x.k) (.agg [.int .i64 t.a,.int .i64 t.b,.int .i64 t.c]):=kS.fresh (x:=t) (by simpa using hk);have is:fZ (J.o.getD (i:Int).toNat 0) J.s.length:=by rw[Ls];exact og
   have Xr:∀j,j<(J.s.getD c.toNat 0).toNat->j*wO J.s r'+wO J.s r'<=(J.s.getD c.toNat 0).toNat*wO J.s r':=fun j hj=>by have:(j+1)*wO J.s r'<=(J.s.getD c.toNat 0).toNat*wO J.s r':=a3I _ hj;rw[a3H]at this;omega
   let Q:Nat->Mk->Prop:=fun j y=>XOk J op y/\y.e.length<=x.e.length+j*wO J.s r'/\y.n.length+j<=x.n.length+j*wO J.s r'/\∀e∈y.k,e∈x.k\/Dp J (i+1) e.1
   have hq:∀j y,j<(J.s.getD c.toNat 0).toNat->Q j y->Q (j+1) (jR J op r' (bM J.D t c j) y).2:=fun j y hj hy=>by
    obtain⟨y1,y2,y3,y4⟩:=hy;have Xr:=Xr j hj;have h:=Uz hJ op jK r' (i+1) (bM J.D t c j) y wF aS (nO hJ Gt q3 ⟨by omega,by omega⟩) y1 (by omega) (by omega);have h3:=h.el;have h4:=h.nl;refine⟨h.ok,by rw[a3H];omega,by rw[a3H];omega,fun e he=>?_⟩;rcases h.ks e he with h5|h5
    .exact y4 e h5
    exact .inr h5
   have lp:=asq (M:=N) (f:=f) (u:=u) hJ (op:=op) (r:=r') (t:=t) (c:=c) (a:=(i:Int)) x og Q ⟨hx,by simp,by simp,fun e he=>.inl he⟩ hq (fun j hj k hk=>Lh hJ q3 ⟨by omega,by omega⟩ hk) (fun j y hj hy=>by obtain⟨y1,y2,y3,y4⟩:=hy;have Xr:=Xr j hj;rw[ew];exact rc (i+1) (bM J.D t c j) y wF aS (nO hJ Gt q3 ⟨by omega,by omega⟩) y1 (by unfold ah;omega) (by unfold ah;omega))
   have inv:=bP (g:=Wv J.D (jR J op r') t c) (m:=(J.s.getD c.toNat 0).toNat) (k:=0) (s:=([],x)) (fun j y=>Q j y.2) ⟨hx,by simp,by simp,fun e he=>.inl he⟩ (fun j y _ hj hy=>hq j y.2 (by omega) hy);rw[a3C]at inv;simp only[];generalize aQ (Wv J.D (jR J op r') t c) (J.s.getD c.toNat 0).toNat 0 ([],x)=y at lp inv;obtain⟨ks,m⟩:=y;obtain⟨y1,y2,y3,y4⟩:=inv;have hnk:t∉m.k.map (·.1):=fun h=>by
    obtain⟨e,he,e2⟩:=a1u.1 h;rcases y4 e he with h1|h1
    .exact hk (a1u.2 ⟨e,h1,e2⟩)
    rw[e2]at h1;exact a0Y hJ Gt BX h1
   have hF2:oG X0 Qp 148 (Jq m.k) (.agg [.int .i64 t.a,.int .i64 t.b,.int .i64 t.c]):=kS.fresh (x:=t) (by simpa using hnk);have ek:Jq m.k++[(.agg t.ps,.int .i64 (m.n.length:Int))]=Jq (m.k++[(t,(m.n.length:Int))]):=by unfold Jq pK.es;rw[a4M,a4M];rfl
   have hF3:qN X0 Qp 148 (Jq m.k++[(.agg t.ps,.int .i64 (m.n.length:Int))]) (.agg [.int .i64 t.a,.int .i64 t.b,.int .i64 t.c]) (.int .i64 (m.n.length:Int)):=by
    refine(congrArg (fun l:List (PV aH×PV aH)=>qN X0 Qp 148 l (.agg [.int .i64 t.a,.int .i64 t.b,.int .i64 t.c]) (.int .i64 (m.n.length:Int))) ek).mpr ?_;refine kS.found (x:=t) ?_ ?_
    .rw[a8G,show((fun e:S3×PV X0.Γ=>e.1)∘fun e:S3×Int=>(e.1,(PV.int .i64 e.2:PV X0.Γ)))=fun e=>e.1 from rfl,a4M];exact EC y1.nd hnk
    simp
   have hb:m.n.length+[(⟨c,ks⟩:Br)].length<=ah:=by simp only[a3J];have y3:m.n.length+(J.s.getD c.toNat 0).toNat<=x.n.length+(J.s.getD c.toNat 0).toNat*wO J.s r':=y3;unfold ah;omega
   have h1:cZ X0 Qp (iD (N+2)) (.fn 126 [] pM) [.agg t.ps,.int .i64 (a:Int)] (HM1 J f u x) (.int .i64 (m.n.length:Int)) (amO J f u m t ⟨c,ks⟩):=by subst Ls;exact fH gX (first:=[]) (cap:=pM) (.w lsk (.b t0 (.o ia (.o ig (.b tg' (.q (.bool false) hF (.b aiC (.o is (.wG [.mv 6,.mv 7,.PD 1 1 3] lp (.q (.bool false) (kS.ck t) (.o hF2 (.o hb (.c (.int .i64 (m.n.length:Int)) [] hF3 .er)))))))))))))
   have h2:=cZ.gs hX h1 [.gc [8,12]] (v':=.int .i64 (m.n.length:Int)) (H2:=[.map (Jq m.k++[(.agg t.ps,.int .i64 (m.n.length:Int))]),.cells [lI J.s,lI J.o,.own 8,.own 9,.int .i64 0],.aG (J.ps (.fn f [] [.ptr 5 0 1])),.aG [.fn 126 [] pM],.aG [.map 0],.aG [.int .u8 u],.gone,.gone,Ap m.e,Aq (m.n++[⟨c,ks⟩])]) (by kernel_rfl);exact(congrArg (fun l:List (PV aH×PV aH)=>cZ X0 Qp (iD (N+2)) (.fn 126 [] pM) [.agg t.ps,.int .i64 (a:Int)] (HM1 J f u x) (.int .i64 (m.n.length:Int)) [.map l,.cells [lI J.s,lI J.o,.own 8,.own 9,.int .i64 0],.aG (J.ps (.fn f [] [.ptr 5 0 1])),.aG [.fn 126 [] pM],.aG [.map 0],.aG [.int .u8 u],.gone,.gone,Ap m.e,Aq (m.n++[⟨c,ks⟩])]) ek).mp h2
  rw[a15 rfl];have tg':decide (J.g.getD (J.o.getD (i:Int).toNat 0).toNat 0>=0)=true:=by rw[Ls];exact tg
  have hg:0<=J.g.getD c.toNat 0:=by simpa using tg
  have haf:=La (M:=N) (f:=f) (a:=[]) (cc:=[.ptr 0 0 1]) (H:=[.aG [.int .u8 u]]) J t c (J.g.getD c.toNat 0) hJ.d3 (fun k hk=>Lh hJ q3 ⟨hg,hJ.gv c og hg⟩ hk);have h2:=rc (i+1) (bM J.D t c (J.g.getD c.toNat 0)) x wF aS (nO hJ Gt q3 ⟨hg,hJ.gv c og hg⟩) hx (by unfold ah;omega) (by unfold ah;omega);rw[<-ew]at h2;subst Ls;exact fH gX (first:=[]) (cap:=pM) (.w lsk (.b t0 (.o ia (.o ig (.b tg' (.fr [5] haf (.fr [0,1,2,3,4,5,6,7] h2 .er)))))))
theorem asr{N f:Nat}(u){J}(hJ:kQ J){op}(jK:ru J op)(hs:∀m,N<=m->∀l,l.length=J.D.length->cZ X0 Qp (iD m) (.fn f [] [.ptr 0 0 1]) [lV l] [.aG [.int .u8 u]] (.agg (op l).ps) [.aG [.int .u8 u]]):∀(F) (r),r.length<=F->aht J op f u (N+F+2) r:=by
 intro F
 induction F with
 |zero=>
  intro r hF;refine aeR u hJ jK (hs _ (by omega)) r fun c r' h=>?_;have:=h.length_le;rw[a4p]at this;omega
 |succ F ih=>
  intro r hF;refine aeR (N:=N+F+1) u hJ jK (hs _ (by omega)) r fun c r' h=>ih r' ?_;have:=h.length_le;rw[a4p]at this;omega
end Go.Proofs.YtmobpoiejckagaaGreat
namespace Pv
open Go Tw
section
variable{X:mX}{P:LI1}
theorem cZ.amP(hX:bT X P){call fv v xs H H0 H1}(gs)(hs:cZ X P call fv xs H0 v H1)(hg:lQ H.length gs (⟨[],[],H⟩:bJ X.Γ)=some ⟨[],[],H0⟩):cZ X P call fv xs H v H1:=by
 intro A m h tf rJ hr hf hx;obtain⟨m2,q1,q2,q3⟩:=mM hX hg A (fun b=>b∈bn m) h.length m ⟨[],[],h,[]⟩ ⟨⟨hr,rfl,fun k c hk=>(by simp at hk),.nil⟩,fun b hb=>.inl hb,fun b hb=>(by cases hb),a1j _⟩;have up:Up m m2:=fun i mb hi=>q3 i mb (by rw[<-hr.len];exact(a0u.1 hi).1) hi;obtain⟨w,h',ws,m1,k1,k2,k3,k4,k5,k6⟩:=hs A m2 h tf rJ q1.st.heap (hf.step q2 up) (hx.step q2 up);refine⟨w,h',ws,m1,k1,k2,k3,q2.trans k4,fun i mb hi=>?_,fun b hb=>?_⟩
 .rcases up i mb hi with g|g
  .exact k5 i mb g
  rcases k5 i _ g with g|g<;>exact .inr g
 have hb:=k6 b hb;rcases q1.own b hb with g|g
 .exact g
 have:=q1.st.heap.inb hb;have:b<h.length:=this;omega
end
end Pv
namespace Go.Proofs.YtmobpoiejckagaaGreat
open Go Tw Pv bQ
theorem Og{n}(hO:Ok n Gl)(l:LI0)(hl:l.length<=ah):jd n (.fn 125 [] []) [.dF 3 l false] [] (lI l) []:=
 have h0:=nU.a8k hX (hO 125 [.dF 3 l false] (.own 0) (lsI l) [l.length<=ah] (by kernel_rfl) (afd.2 hl)) rfl rfl rfl rfl
 cZ.cut hX (cZ.fzR hX h0 [0] (v':=lI l) rfl (by decide)) rfl rfl rfl rfl
abbrev asu(J:Jb)(f:Nat)(x:Mk):List (PB aH):=[.map (Jq x.k),.cells [lI J.s,lI J.o,.own 7,.own 8,.int .i64 0],.cells (J.ps (.fn f [] [])),.cells [.fn 126 [] pM],.cells [.map 0],.gone,.gone,Ap x.e,Aq x.n]
theorem ace{m f:Nat}(hO:Ok m Gl)(J)(st:S3)(z:Int×Mk)(c1:cZ X0 Qp (iD m) (.fn 125 [] []) [.dF 3 J.s false] [] (lI J.s) [])(c2:cZ X0 Qp (iD m) (.fn 125 [] []) [.dF 3 J.o false] [] (lI J.o) [])(c3:cZ X0 Qp (iD m) (.fn 130 [] []) [.agg (J.ps (.fn f [] []))] [] (.agg st.ps) [])(c5:cZ X0 Qp (iD m) (.fn 126 [] pM) [.agg st.ps,.int .i64 (0:Int)] [.map [],.cells [lI J.s,lI J.o,.nil .aP,.nil .aP,.int .i64 0],.aG (J.ps (.fn f [] [])),.aG [.fn 126 [] pM],.aG [.map 0]] (.int .i64 z.1) (ac2 J f z.2))(hr:Jg ⟨J.s,J.o,z.2.e,z.2.n,z.1⟩) (p1:J.s.length<=ah) (p2:J.o.length<=2^20) (p3:z.2.e.length<=ah) (p4:((bH ⟨J.s,J.o,z.2.e,z.2.n,z.1⟩).2 != 0)=false->ClP (bH ⟨J.s,J.o,z.2.e,z.2.n,z.1⟩).1) :cZ X0 Qp (iD (m+1)) (.fn 80 [] []) [.agg (J.ps (.fn f [] []))] [] (dA.put (Aw ⟨J.s,J.o,z.2.e,z.2.n,z.1⟩).1) []:=by
 obtain⟨v,e,n,k⟩:=z;have h0:cZ X0 Qp (iD (m+1)) (.fn 80 [] []) [.agg (J.ps (.fn f [] []))] [] (dA.put (Aw ⟨J.s,J.o,e,n,v⟩).1) ([]++[.cells (J.ps (.fn f [] [])),.cells [lI J.s,lI J.o,.own 7,.own 8,.int .i64 v],.map (Jq k),.cells [.map 2],.cells [.fn 126 [] [.ptr 0 0 5,.ptr 1 0 5,.ptr 4 0 1,.ptr 3 0 1]],.gone,.gone,.gone,.gone]):=
  fH hO (first:=[]) (cap:=[]) (.fr [] c1 (.fr [] c2 (.fr [] c3 (.RU (H2:=asu J f ⟨e,n,k⟩) [2,1,0,4,3] [2,3,4] c5 (.o hr (.o p1 (.o p2 (.o p3 (.o p4 .er)))))))))
 exact cZ.cut hX h0 rfl rfl rfl rfl
theorem ahv{N f:Nat}{J}(hJ:kQ J){op}(jK:ru J op)(hs:∀m,N<=m->∀l,l.length=J.D.length->cZ X0 Qp (iD m) (.fn f [] []) [lV l] [] (.agg (op l).ps) [])(hO:∀m,N<=m->Ok m Gl){m}(hm:N+J.o.length+2<=m):cZ X0 Qp (iD (m+1)) (.fn 80 [] []) [.agg (J.ps (.fn f [] []))] [] (dA.put (Dh J op)) []:=by
 have hl:=hJ.bG.len;have OM:=(kQ.o2 hJ).2.1;have hw:=BP hJ.bG.sz hJ.ord;have hmn:=hJ.bG.many;have c1:=Og (n:=m) (hO m (by omega)) J.s (by unfold ah;omega);have c2:=Og (n:=m) (hO m (by omega)) J.o (by unfold ah;omega);obtain⟨m',rfl⟩:∃m',m=m'+1:=⟨m-1,by omega⟩;have c3:=a0X (M:=m') (f:=f) (a:=[]) (cc:=[]) (H:=[]) J hJ.d3;have c4:=aso (N:=m'+1-J.o.length-2) (f:=f) hJ jK (fun m2 h2=>hs m2 (by omega)) J.o.length J.o (a1j _) 0 (fD J.D) ⟨[],[],[]⟩ aaO (a5D _) (fun k hk=>by rw[wX hJ.d3 hk];exact⟨(hJ.dg k hk).t.root,a5D _⟩) ⟨⟨fun i hi=>(by simp at hi),fun i hi=>(by simp at hi),fun i hi=>(by simp at hi)⟩,fun e he=>(by cases he),a6g,fun v hv=>(by cases hv),fun b hb=>(by cases hb)⟩ (by show 0+wO J.s J.o<=ah;unfold ah;omega) (by show 0+wO J.s J.o<=ah;unfold ah;omega)
 rw[show m'+1-J.o.length-2+J.o.length+2=m'+1 by omega]at c4;have c5:=cZ.amP hX (H:=[.map [],.cells [lI J.s,lI J.o,.nil .aP,.nil .aP,.int .i64 0],.aG (J.ps (.fn f [] [])),.aG [.fn 126 [] pM],.aG [.map 0]]) [.Vr 1 2 39,.Vr 1 3 105] c4 (by kernel_rfl);obtain⟨h1,h2,h3⟩:=Az hJ jK;have hr:=a95 hJ jK;have h4:(bH (kM J op)).2=0:=by rw[(Js hJ jK).1]
 have h5:=yg hr (by unfold ah;omega) (by show J.s.length<=ah;unfold ah;omega) (by show J.o.length<=ah;unfold ah;omega) h4;have p1:J.s.length<=ah:=by unfold ah;omega
 have p2:J.o.length<=2^20:=by omega
 have p3:(kM J op).aO.length<=ah:=by unfold ah;omega
 have p4:((bH (kM J op)).2 != 0)=false->ClP (bH (kM J op)).1:=fun _=>by rw[h5.1];exact h5.2
 exact ace (hO (m'+1) (by omega)) J (fD J.D) (jR J op J.o (fD J.D) ⟨[],[],[]⟩) c1 c2 c3 c5 hr p1 p2 p3 p4
abbrev asv(J:Jb)(f:Nat)(u:Int)(x:Mk):List (PB aH):=[.map (Jq x.k),.cells [lI J.s,lI J.o,.own 8,.own 9,.int .i64 0],.cells (J.ps (.fn f [] [.ptr 5 0 1])),.cells [.fn 126 [] pM],.cells [.map 0],.aG [.int .u8 u],.gone,.gone,Ap x.e,Aq x.n]
theorem acf{m f:Nat}(u)(hO:Ok m Gl)(J)(st:S3)(z:Int×Mk)(c1:cZ X0 Qp (iD m) (.fn 125 [] []) [.dF 3 J.s false] [] (lI J.s) [])(c2:cZ X0 Qp (iD m) (.fn 125 [] []) [.dF 3 J.o false] [] (lI J.o) [])(c3:cZ X0 Qp (iD m) (.fn 130 [] []) [.agg (J.ps (.fn f [] [.ptr 0 0 1]))] [.aG [.int .u8 u]] (.agg st.ps) [.aG [.int .u8 u]])(c5:cZ X0 Qp (iD m) (.fn 126 [] pM) [.agg st.ps,.int .i64 (0:Int)] [.map [],.cells [lI J.s,lI J.o,.nil .aP,.nil .aP,.int .i64 0],.aG (J.ps (.fn f [] [.ptr 5 0 1])),.aG [.fn 126 [] pM],.aG [.map 0],.aG [.int .u8 u]] (.int .i64 z.1) (ac3 J f u z.2))(hr:Jg ⟨J.s,J.o,z.2.e,z.2.n,z.1⟩) (p1:J.s.length<=ah) (p2:J.o.length<=2^20) (p3:z.2.e.length<=ah) (p4:((bH ⟨J.s,J.o,z.2.e,z.2.n,z.1⟩).2 != 0)=false->ClP (bH ⟨J.s,J.o,z.2.e,z.2.n,z.1⟩).1) :cZ X0 Qp (iD (m+1)) (.fn 80 [] []) [.agg (J.ps (.fn f [] [.ptr 0 0 1]))] [.aG [.int .u8 u]] (dA.put (Aw ⟨J.s,J.o,z.2.e,z.2.n,z.1⟩).1) [.aG [.int .u8 u]]:=by
 obtain⟨v,e,n,k⟩:=z;have h0:cZ X0 Qp (iD (m+1)) (.fn 80 [] []) [.agg (J.ps (.fn f [] [.ptr 0 0 1]))] [.aG [.int .u8 u]] (dA.put (Aw ⟨J.s,J.o,e,n,v⟩).1) ([.aG [.int .u8 u]]++[.cells (J.ps (.fn f [] [.ptr 0 0 1])),.cells [lI J.s,lI J.o,.own 8,.own 9,.int .i64 v],.map (Jq k),.cells [.map 3],.cells [.fn 126 [] [.ptr 1 0 5,.ptr 2 0 5,.ptr 5 0 1,.ptr 4 0 1]],.gone,.gone,.gone,.gone]):=
  fH hO (first:=[]) (cap:=[]) (.fr [] c1 (.fr [] c2 (.fr [0] c3 (.RU (H2:=asv J f u ⟨e,n,k⟩) [3,2,1,5,4,0] [2,3,4] c5 (.o hr (.o p1 (.o p2 (.o p3 (.o p4 .er)))))))))
 exact cZ.cut hX h0 rfl rfl rfl rfl
theorem ahw{N f:Nat}(u){J}(hJ:kQ J){op}(jK:ru J op)(hs:∀m,N<=m->∀l,l.length=J.D.length->cZ X0 Qp (iD m) (.fn f [] [.ptr 0 0 1]) [lV l] [.aG [.int .u8 u]] (.agg (op l).ps) [.aG [.int .u8 u]])(hO:∀m,N<=m->Ok m Gl){m}(hm:N+J.o.length+2<=m):cZ X0 Qp (iD (m+1)) (.fn 80 [] []) [.agg (J.ps (.fn f [] [.ptr 0 0 1]))] [.aG [.int .u8 u]] (dA.put (Dh J op)) [.aG [.int .u8 u]]:=by
 have hl:=hJ.bG.len;have OM:=(kQ.o2 hJ).2.1;have hw:=BP hJ.bG.sz hJ.ord;have hmn:=hJ.bG.many;have c1:=Og (n:=m) (hO m (by omega)) J.s (by unfold ah;omega);have c2:=Og (n:=m) (hO m (by omega)) J.o (by unfold ah;omega);obtain⟨m',rfl⟩:∃m',m=m'+1:=⟨m-1,by omega⟩;have c3:=a0X (M:=m') (f:=f) (a:=[]) (cc:=[.ptr 0 0 1]) (H:=[.aG [.int .u8 u]]) J hJ.d3;have c4:=asr (N:=m'+1-J.o.length-2) (f:=f) u hJ jK (fun m2 h2=>hs m2 (by omega)) J.o.length J.o (a1j _) 0 (fD J.D) ⟨[],[],[]⟩ aaO (a5D _) (fun k hk=>by rw[wX hJ.d3 hk];exact⟨(hJ.dg k hk).t.root,a5D _⟩) ⟨⟨fun i hi=>(by simp at hi),fun i hi=>(by simp at hi),fun i hi=>(by simp at hi)⟩,fun e he=>(by cases he),a6g,fun v hv=>(by cases hv),fun b hb=>(by cases hb)⟩ (by show 0+wO J.s J.o<=ah;unfold ah;omega) (by show 0+wO J.s J.o<=ah;unfold ah;omega)
 rw[show m'+1-J.o.length-2+J.o.length+2=m'+1 by omega]at c4;have c5:=cZ.amP hX (H:=[.map [],.cells [lI J.s,lI J.o,.nil .aP,.nil .aP,.int .i64 0],.aG (J.ps (.fn f [] [.ptr 5 0 1])),.aG [.fn 126 [] pM],.aG [.map 0],.aG [.int .u8 u]]) [.Vr 1 2 39,.Vr 1 3 105] c4 (by kernel_rfl);obtain⟨h1,h2,h3⟩:=Az hJ jK;have hr:=a95 hJ jK;have h4:(bH (kM J op)).2=0:=by rw[(Js hJ jK).1]
 have h5:=yg hr (by unfold ah;omega) (by show J.s.length<=ah;unfold ah;omega) (by show J.o.length<=ah;unfold ah;omega) h4;have p1:J.s.length<=ah:=by unfold ah;omega
 have p2:J.o.length<=2^20:=by omega
 have p3:(kM J op).aO.length<=ah:=by unfold ah;omega
 have p4:((bH (kM J op)).2 != 0)=false->ClP (bH (kM J op)).1:=fun _=>by rw[h5.1];exact h5.2
 exact acf u (hO (m'+1) (by omega)) J (fD J.D) (jR J op J.o (fD J.D) ⟨[],[],[]⟩) c1 c2 c3 c5 hr p1 p2 p3 p4
open Go Tw Pv bQ
theorem amQ(x):Instr.sameBits 10000 (kV.v x) (kV.v x)=true:=by show Instr.sameBits 10000 (.agg #[.int .u8 x.f,.int .i64 x.n]) (.agg #[.int .u8 x.f,.int .i64 x.n])=true;simp[Instr.sameBits]
theorem a9b(x):Instr.sameBits 10000 (kS.v x) (kS.v x)=true:=by show Instr.sameBits 10000 (.agg #[.int .i64 x.a,.int .i64 x.b,.int .i64 x.c]) (.agg #[.int .i64 x.a,.int .i64 x.b,.int .i64 x.c])=true;simp[Instr.sameBits]
abbrev dJ:V:=⟨0,1⟩
def amR:gU aH:=bU 79 (a1 vsA) vA (fun p=>p.getD 0 V0) (fun p=>[0<p.length]) Gl
theorem asw:Gd amR:=Uy.add fun n hO p hp=>aN hO (.o (aF (hp _ gQ)) .rr)
def amS:gU aH:=bU 89 agh vA (fun p=>dJ) np amR
theorem asx:Gd amS:=asw.add fun n hO p hp=>aN hO .rr
def a9c:gU aH:=bU 169 (a1 vA) tA (fun p=>decide (p=dJ)) np amS
theorem amT:Gd a9c:=asx.add fun n hO p hp=>aN hO (.q (.bool (decide (p=dJ))) (eqV (.tmp 3) (.tmp 4) p dJ) .rr)
def oM(l:List V):Bool:=l.all fun v=>decide (v=dJ)
def iM(l:List V):V:=if oM l=true then dJ else V0
theorem asy{n}(hO:Ok n a9c)(l)(hl:l.length<=ah):jd (n+4) (.fn 168 [] []) [.fn 169 [] [],lV l] [] (tA.put (oM l)) []:=by
 have hs:∀v:V,jd n (.fn 169 [] []) [.agg v.ps] [] (tA.put (decide (v=dJ))) []:=fun v=>nU.YW hX (first:=[]) (cap:=[]) (hO 169 [.agg v.ps] (tA.put (decide (v=dJ))) [] [] (by kernel_rfl) (fun p h=>by cases h)) rfl rfl rfl rfl;have h1:∀v:V,jd (n+1) (.fn 201 [] [.ptr 0 0 1]) [.agg v.ps] [.cells [.fn 169 [] []]] (tA.put (!(decide (v=dJ)))) [.cells [.fn 169 [] []]]:=fun v=>
  jI gX (first:=[]) (.fr [] (hs v) .sr)
 have h2:=agL (n:=n+2) (by omega) (f:=201) (a:=[]) (c:=[.ptr 0 0 1]) (H:=[.cells [.fn 169 [] []]]) (g:=fun v=>!(decide (v=dJ))) h1 l hl;rw[KO]at h2;unfold oM;rw[<-Fa l fun v=>decide (v=dJ)];exact cZ.drop hX (Ea hX gX (first:=[]) (cap:=[]) (H1:=[.cells [.fn 169 [] []]]) (by kernel_rfl) (.k h2 .sr)) rfl rfl
def rC:gU aH:=bU 117 (a1 vsA) vA iM (fun l=>[l.length<=ah]) a9c
theorem Jt:Gd rC:=amT.deep 4 fun n hn hO l hp=>by have hs:=asy (n:=n-4) (hO (n-4) (by omega)) l (hp _ gQ);rw[show n-4+4=n by omega]at hs;show nU X0 Qp _ _ _ (vA.put (iM l)) _;unfold iM;exact aN (hO n (by omega)) (.fr [] hs (.ss .rr .rr))
abbrev Z7:Code:=(Ue Qp 87).body
abbrev Sr:Code:=(Ue Qp 136).body
abbrev a9d(J:Jb)(f:Nat):List (Nat×PE aH):=[(2,.val (.nil .map)),(3,.val (.ptr 2 0 1)),(8,.val (.fn 136 [.agg (J.ps (.fn f [] []))] []))]
abbrev LRC(J:Jb)(f:Nat)(rd:Bool)(kC:Option Code):PB aH:=.loop rd 87 (Di Qp 87) (a9d J f) [9,10] (xU Qp 87) (BJ Qp 87) kC
abbrev HQc(J:Jb)(f:Nat)(t:List (V×Int)):List (PB aH):=[.cells (J.ps (.fn f [] [])),.map (kV.im t),.cells [.map 1]]
abbrev Sv(J:Jb)(f:Nat)(rd:Bool)(kC:Option Code)(t:List (V×Int)):List (PB aH):=HQc J f t++[.mark,LRC J f rd kC]
theorem a9e(l):decide (iM l=dJ)=oM l:=by unfold iM;cases oM l<;>decide
def yT(l:List V)(w:Int)(t:List (V×Int)):List (V×Int):=if oM (l.drop 1)=true then uf t (l.getD 0 V0) w else t
structure Tal(t:List (V×Int)):Prop where
 nd:(t.map (·.1)).Nodup
 pos:∀e∈t,0<e.2
 bnd:∀e∈t,e.2<=2000
theorem asA{n}(hO:Ok n rC)(J f){t}(ht:Tal t)(l){w}(h0:0<l.length)(hl:l.length<=ah)(hw:0<w/\w<=2000):jd (n+1) (.lJ 4) [lV l,.int .i64 w] (Sv J f true none t) (.bool true) (Sv J f true none (yT l w t)):=by
 have q1:dQ X0 Qp T (iD n) LL 87 true (Di Qp 87) 5 (xU Qp 87) ⟨uZ (a9d J f) [9,10] [lV l,.int .i64 w],[],Sv J f true none t⟩ .norm ⟨[(3,.val (.ptr 2 0 1)),(4,.val (lV l)),(5,.val (.int .i64 w))],[],Sv J f true none t⟩:=yX hX hO (by kernel_rfl) .xx;have i0:fZ 0 l.length:=aF h0;have a1:(1:Int)<=l.length:=by omega
 have e1:(l.take l.length)=l:=abE;have c1:decide (iM ((l.take ((l.length:Int).toNat)).drop (1:Int).toNat)=dJ)=oM (l.drop 1):=by rw[a9e];simp
 have a2:((l.take ((l.length:Int).toNat)).drop (1:Int).toNat).length<=ah:=by simp;omega
 have ev:=eqV (.tmp 13) (.tmp 14) (iM ((l.take ((l.length:Int).toNat)).drop (1:Int).toNat)) dJ;have z01:(0:Int)<=1:=by decide
 have z02:(l.length:Int)<=(l.length:Int):=aa0 _;unfold yT;cases hc:oM (l.drop 1)
 .rw[hc]at c1;rw[a0S (by simp)];have q2:dQ X0 Qp T (iD n) LL 87 true (Di Qp 87) 5 (BJ Qp 87) ⟨[(3,.val (.ptr 2 0 1)),(4,.val (lV l)),(5,.val (.int .i64 w))],[],Sv J f false none t⟩ .norm ⟨[(3,.val (.ptr 2 0 1)),(4,.val (lV l)),(5,.val (.int .i64 w)),(15,xl false)],[],Sv J f false none t⟩:=
   yX hX hO (by kernel_rfl) (.o z01 (.o a1 (.o z02 (.o a2 (.q (.bool (decide (iM ((l.take ((l.length:Int).toNat)).drop (1:Int).toNat)=dJ))) ev (.b c1 .xx))))))
  exact J3 hX (l:=4) rfl rfl (by kernel_rfl) q1 rfl q2 rfl
 rw[hc]at c1;rw[a15 rfl];by_cases hk:l.getD 0 V0∈t.map (·.1)
 .obtain⟨j,old,g1,g2,g3,g4⟩:=kV.WC (amQ _) ht.nd hk (n:=w) fun e he=>eU (by have:=ht.pos e he;omega) (by have:=ht.bnd e he;omega);have q2:dQ X0 Qp T (iD n) LL 87 true (Di Qp 87) 5 (BJ Qp 87) ⟨[(3,.val (.ptr 2 0 1)),(4,.val (lV l)),(5,.val (.int .i64 w))],[],Sv J f false none t⟩ .norm ⟨[],[],[.cells (J.ps (.fn f [] [])),.map (Ku (kV.im t) j (.int .i64 (i64.wrap (old+w)))),.cells [.map 1],.mark,LRC J f false none]⟩:=
   yX hX hO (by kernel_rfl) (.o z01 (.o a1 (.o z02 (.o a2 (.q (.bool (decide (iM ((l.take ((l.length:Int).toNat)).drop (1:Int).toNat)=dJ))) ev (.b c1 (.o i0 (.c (.int .i64 old) [] g1 (.a (.call (.int .i64 old) []) (.a (.ix j) (.o g2 (.o g3 .xx))))))))))))
  rw[g4]at q2;exact J3 hX (l:=4) rfl rfl (by kernel_rfl) q1 rfl q2 rfl
 obtain⟨g1,g2,g3,g4⟩:=kV.WE hk (n:=w) (by rw[Int.zero_add];exact eU (by omega) (by omega));have q2:dQ X0 Qp T (iD n) LL 87 true (Di Qp 87) 5 (BJ Qp 87) ⟨[(3,.val (.ptr 2 0 1)),(4,.val (lV l)),(5,.val (.int .i64 w))],[],Sv J f false none t⟩ .norm ⟨[],[],[.cells (J.ps (.fn f [] [])),.map (Ku (kV.im t++[(.agg (l.getD 0 V0).ps,.int .i64 0)]) (kV.im t).length (.int .i64 (i64.wrap (0+w)))),.cells [.map 1],.mark,LRC J f false none]⟩:=
  yX hX hO (by kernel_rfl) (.o z01 (.o a1 (.o z02 (.o a2 (.q (.bool (decide (iM ((l.take ((l.length:Int).toNat)).drop (1:Int).toNat)=dJ))) ev (.b c1 (.o i0 (.q (.bool false) g1 (.a .calm (.o (kV.ck (l.getD 0 V0)) (.o g1 (.o g2 (.o g3 .xx)))))))))))))
 have g4:Ku (kV.im t++[(.agg (l.getD 0 V0).ps,.int .i64 0)]) (kV.im t).length (.int .i64 (i64.wrap (0+w)))=kV.im (uf t (l.getD 0 V0) w):=g4;rw[g4]at q2;exact J3 hX (l:=4) rfl rfl (by kernel_rfl) q1 rfl q2 rfl
open Go Tw Pv bQ
abbrev HN(J:Jb)(f:Nat)(t:List (V×Int))(now:List (S3×Int)):List (PB aH):=Sv J f true none t++[.map (kS.im now)]
abbrev bLB:Code:=fA (fA (fB (fA (fB (fB Sr)))))
abbrev bB1:Code:=fA (fA (fB (fB bLB)))
abbrev bIB:Code:=fA (fA (fB (fA (fB (fB bB1)))))
abbrev bX:Code:=fA (fB (fB bIB))
abbrev bL2:Code:=fA (fA (fB (fB (fB (fB Sr)))))
abbrev bX2:Code:=fA (fB (fB bL2))
abbrev a5g(J:Jb)(c:Int)(a:Int):List (Nat×PE aH):=[(1,.val (.lJ 4)),(2,.loc 0 0),(6,xi c),(7,.val (.map 6)),(21,xL 3 J.o),(22,xi J.o.length),(23,xi a),(29,.val (.iter 7))]
abbrev HI(J:Jb)(f:Nat)(t:List (V×Int))(now next:List (S3×Int))(seen:List Nat):List (PB aH):=HN J f t now++[.map (kS.im next),.dD 5 now.length seen]
structure NI(J:Jb)(a:Nat)(m:List (S3×Int)):Prop where
 nd:(m.map (·.1)).Nodup
 pos:∀e∈m,0<e.2
 dp:∀e∈m,Dp J a e.1
theorem NI.add{J a m}(h:NI J a m){s n}(hs:Dp J a s)(hn:0<n):NI J a (uf m s n):=
 ⟨H8 h.nd s n,Qj hn h.pos,fun e he=>by
  rcases a7M he with e1|⟨e',h1,h2⟩
  .rw[e1];exact hs
  .rw[<-h2];exact h.dp e' h1⟩
theorem Cc{κ}[DecidableEq κ](q):∀m:List (κ×Int),dK (fun _=>q) m=dK (fun _=>1) m*q
 | []=>by simp[dK]
 |e::m=>by simp only[dK,Cc q m,afN,ad8]
theorem Ju{κ}[DecidableEq κ]:∀{m:List (κ×Int)},(∀e∈m,0<e.2)->0<=dK (fun _=>1) m/\∀e∈m,e.2<=dK (fun _=>1) m
 | [],_=>⟨aa0 _,fun e he=>by cases he⟩
 |x::m,h=>by
  obtain⟨h1,h2⟩:=Ju (m:=m) fun e he=>h e (by simp[he]);have h0:=h x (by simp);simp only[dK,ad8];refine⟨by omega,fun e he=>?_⟩;rcases a1B.1 he with rfl|he
  .omega
  have:=h2 e he;omega
theorem a9g{κ}[DecidableEq κ]{m:List (κ×Int)}{q:Nat}(hp:∀e∈m,0<e.2)(hq:1<=q)(hs:dK (fun _=>(q:Int)) m<=2000):∀e∈m,e.2<=2000:=fun e he=>by
 obtain⟨h1,h2⟩:=Ju hp;rw[Cc]at hs;have h3:=h2 e he;have:dK (fun _=>1) m<=dK (fun _=>1) m*(q:Int):=by have:=a9Q (show(1:Int)<=q by omega) h1;omega
 omega
theorem Z8{J}(r m):dK (yG J (fun _=>1) r) m=dK (fun _=>(AX J r:Int)) m:=by
 induction m with
 |nil=>rfl
 |cons e m ih=>simp only[dK,ih,Fh]
theorem FB{J a r m}(h:NI J a m)(hq:1<=AX J r){s:S3}{n b}(hn:0<n)(hs:dK (fun _=>(AX J r:Int)) m+n*(AX J r:Int)<=b)(hb:b<=2000):n<=2000/\(∀e∈m,e.2<=2000)/\∀e∈m,i64.wrap (e.2+n)=e.2+n:=by
 obtain⟨h1,h2⟩:=Ju h.pos;have h3:0<=dK (fun _=>(AX J r:Int)) m:=by rw[Cc];exact aeJ h1 (by omega)
 have h4:n<=n*(AX J r:Int):=by have:=a9Q (show(1:Int)<=AX J r by omega) (show 0<=n by omega);omega
 have h5:0<=n*(AX J r:Int):=by omega
 have h6:=a9g h.pos hq (show dK (fun _=>(AX J r:Int)) m<=2000 by omega);refine⟨by omega,h6,fun e he=>?_⟩;have:=h6 e he;have:=h.pos e he;exact eU (by omega) (by omega)
theorem a3o{now}{j:Nat}{st w}(h:now[j]? = some (st,w)):(kS.im now).length=now.length/\(kS.im now)[j]? = some (.agg st.ps,.int .i64 w):=by refine⟨kS.qA now,?_⟩;rw[kS.Cb,h];rfl
section
variable{n:Nat}{J:Jb}(hJ:kQ J){f:Nat}(t:List (V×Int))(now:List (S3×Int))(seen:List Nat){a:Nat}{c:Int}{r:LI0}{st:S3}{w:Int}{j:Nat}
abbrev sX(J:Jb)(f:Nat)(t:List (V×Int))(now next:List (S3×Int))(c:Int)(a:Int)(st:S3)(w:Int)(js:List Nat):bJ aH:=⟨jG (T.iP 136 7) ((31,.val (.bool true))::(30,.val (.dB [.bool true,.agg st.ps,.int .i64 w]))::a5g J c a),[J.ps (.fn f [] [])],HI J f t now next js⟩
abbrev sZ(J:Jb)(f:Nat)(t:List (V×Int))(now next:List (S3×Int))(c:Int)(a:Int)(st:S3)(js:List Nat):bJ aH:=⟨a5g J c a,[J.ps (.fn f [] []),st.ps],HI J f t now next js⟩
abbrev wDi(J:Jb)(f:Nat)(t:List (V×Int))(now:List (S3×Int))(c:Int)(a:Int)(st:S3)(w:Int)(js:List Nat)(next:List (S3×Int))(i:Int)(x:List (Nat×PE aH)):bJ aH:=⟨[(1,.val (.lJ 4)),(2,.loc 0 0),(6,xi c),(7,.val (.map 6)),(8,.loc 1 0),(9,xi w),(21,xL 3 J.o),(22,xi J.o.length),(23,xi a),(29,.val (.iter 7)),(75,xi (J.s.getD c.toNat 0)),(76,xi i)]++x,[J.ps (.fn f [] []),st.ps],HI J f t now next js⟩
include hJ
theorem lDi(hr:J.o.drop a=c::r)(hd:Dp J a st)(hw:0<w){next:List (S3×Int)}(hN:NI J (a+1) next)(hg:¬decide (J.g.getD c.toNat 0>=0)=true)(hb:dK (fun _=>(AX J r:Int)) next+w*(AX J (c::r):Int)<=2000)(js:List Nat) :∃next',NI J (a+1) next'/\(∀ψ,dK (yG J ψ r) next'=dK (yG J ψ r) next+w*yG J ψ (c::r) st) /\JH (n+1) 136 2 5 (wDi J f t now c a st w js next 0 []) (.exit 5) (wDi J f t now c a st w js next' ((J.s.getD c.toNat 0).toNat:Nat) [(77,xl false)]):=by
 obtain⟨aS,hoc,wF,DY,hci,og⟩:=kQ.at_ hJ hr;have hz:=hJ.bG.sz _ (bV (s:=J.s) (k:=c.toNat) (by have:=og.1;have:=og.2;omega));have ZB:∀c'∈r,fZ c' J.s.length:=fun c' h=>(kQ.o2 hJ).2.2 c' (by rw[<-wF]at h;exact a5N h);have hq:=(Lr hJ ZB).1;have nR:(AX J (c::r):Int)=((J.s.getD c.toNat 0).toNat:Int)*(AX J r:Int):=by
  have:(BZ J c).length=(J.s.getD c.toNat 0).toNat:=by unfold BZ;rw[a0S hg];simp
  rw[AX,this,af8]
 let g:Nat->List (S3×Int)->List (S3×Int):=fun k y=>uf y (bM J.D st c k) w
 have inv:=bP (g:=g) (m:=(J.s.getD c.toNat 0).toNat) (k:=0) (s:=next) (fun k y=>NI J (a+1) y/\∀ψ,dK (yG J ψ r) y=dK (yG J ψ r) next+w*eP (fun(j:Nat)=>yG J ψ r (bM J.D st c j)) (List.range k)) ⟨hN,fun ψ=>by simp[eP]⟩ (fun k y _ hk hy=>by obtain⟨h1,h2⟩:=hy;refine⟨h1.add (nO hJ hr hd ⟨by omega,by omega⟩) hw,fun ψ=>?_⟩;show dK (yG J ψ r) (uf y _ w)=_;rw[Af,h2 ψ,abX,Jc,Int.mul_add];simp only[eP,Int.add_zero];omega)
 rw[a3C]at inv;refine⟨_,inv.1,fun ψ=>by rw[inv.2 ψ,ac6 hg],?_⟩;have bound:∀k y,k<(J.s.getD c.toNat 0).toNat->(∀ψ,dK (yG J ψ r) y=dK (yG J ψ r) next+w*eP (fun(j:Nat)=>yG J ψ r (bM J.D st c j)) (List.range k))->dK (fun _=>(AX J r:Int)) y+w*(AX J r:Int)<=2000:=fun k y hk hy=>by have h1:=hy fun _=>1;rw[Z8,Z8,qP (φ':=fun _=>(AX J r:Int)) (fun _ _=>Fh r _),C9,a6u]at h1;rw[h1];rw[nR]at hb;have h2:((k:Int)+1)*(AX J r:Int)<=((J.s.getD c.toNat 0).toNat:Int)*(AX J r:Int):=ab5 (by omega) (by omega);have h3:=a9Q h2 (show 0<=w by omega);rw[afN,Int.mul_add,Int.one_mul]at h3;omega
 refine qY (σ:=List (S3×Int)) (N:=(J.s.getD c.toNat 0).toNat) (g:=g) (s0:=next) (st:=fun i y=>wDi J f t now c a st w js y i []) (fin:=fun y=>wDi J f t now c a st w js y (((J.s.getD c.toNat 0).toNat:Nat):Int) [(77,xl false)]) (fun k y=>NI J (a+1) y/\∀ψ,dK (yG J ψ r) y=dK (yG J ψ r) next+w*eP (fun(j:Nat)=>yG J ψ r (bM J.D st c j)) (List.range k)) (by kernel_rfl) (by unfold ah;omega) ⟨hN,fun ψ=>by simp[eP]⟩ (fun k y hk hy=>?_) (fun k y hk hy m e p g9=>?_) (fun y _=>?_)
 .obtain⟨h1,h2⟩:=hy;refine⟨h1.add (nO hJ hr hd ⟨by omega,by omega⟩) hw,fun ψ=>?_⟩;show dK (yG J ψ r) (uf y _ w)=_;rw[Af,h2 ψ,abX,Jc,Int.mul_add];simp only[eP,Int.add_zero];omega
 .obtain⟨h1,h2⟩:=hy;obtain⟨b1,b2,b3⟩:=FB h1 hq (s:=bM J.D st c k) hw (bound k y hk h2) (aa0 _);have t1:decide ((k:Int)<J.s.getD c.toNat 0)=true:=by rw[a1z];omega
  have ha:=La (M:=n) (f:=f) (a:=[]) (cc:=[]) (H:=[]) J st c k hJ.d3 fun i hi=>Lh hJ hd ⟨by omega,by omega⟩ hi;have g9:dN X0 Qp T (iD (n+1)) LL 136 false _ 5 _ m (wDi J f t now c a st w js (uf y (bM J.D st c k) w) _ []) e p:=g9;by_cases hk:bM J.D st c k∈y.map (·.1)
  .obtain⟨jj,old,g1,g2,g3,g4⟩:=kS.WC (a9b _) h1.nd hk (n:=w) b3;unfold wDi HI at g9;rw[<-g4]at g9;exact aI gX (.b t1 (.fr [] ha (.c (.int .i64 old) [] g1 (.a (.call (.int .i64 old) []) (.a (.ix jj) (.o g2 (.o g3 (.go g9))))))))
  .obtain⟨g1,g2,g3,g4⟩:=kS.WE hk (n:=w) (by rw[Int.zero_add];exact eU (by omega) (by omega));unfold wDi HI at g9;rw[<-g4]at g9;exact aI gX (.b t1 (.fr [] ha (.q (.bool false) g1 (.a .calm (.o (kS.ck (bM J.D st c k)) (.o g1 (.o g2 (.o g3 (.go g9)))))))))
 .have t1:decide ((((J.s.getD c.toNat 0).toNat:Nat):Int)<J.s.getD c.toNat 0)=false:=by rw[a3k];omega
  exact aI gX (.b t1 .ex)
end
open Go Tw Pv bQ
abbrev sH(J:Jb)(f:Nat)(t:List (V×Int))(now next:List (S3×Int))(c:Int)(a:Int)(js:List Nat):bJ aH:=⟨a5g J c a,[J.ps (.fn f [] [])],HI J f t now next js⟩
section
variable{n:Nat}{J:Jb}(hJ:kQ J){f:Nat}(t:List (V×Int))(now:List (S3×Int))(seen:List Nat){a:Nat}{c:Int}{r:LI0}{st:S3}{w:Int}{j:Nat}
include hJ
theorem amU(hr:J.o.drop a=c::r)(hd:Dp J a st)(hw:0<w){next}(hN:NI J (a+1) next)(hj:now[j]? = some (st,w))(hb:dK (fun _=>(AX J r:Int)) next+w*(AX J (c::r):Int)<=2000) :∃next' e s',NI J (a+1) next'/\(∀ψ,dK (yG J ψ r) next'=dK (yG J ψ r) next+w*yG J ψ (c::r) st)/\(e=.norm\/e=.exit 3) /\dQ X0 Qp T (iD (n+1)) LL 136 false (Di Qp 136) 5 bX (sX J f t now next c a st w (j::seen)) e s' /\iy X0 (T.fC 136 (eu bIB)) s'=sH J f t now next' c a (j::seen):=by
 obtain⟨aS,hoc,wF,DY,hci,og⟩:=kQ.at_ hJ hr;have hz:=hJ.bG.sz _ (bV (s:=J.s) (k:=c.toNat) (by have:=og.1;have:=og.2;omega));have ZB:∀c'∈r,fZ c' J.s.length:=fun c' h=>(kQ.o2 hJ).2.2 c' (by rw[<-wF]at h;exact a5N h);have hq:=(Lr hJ ZB).1;have hcG:fZ c J.g.length:=by rw[hJ.gl];exact og
 have ho:=a3o hj;by_cases hg:decide (J.g.getD c.toNat 0>=0)=true
 .have hl1:(AX J (c::r):Int)=AX J r:=by rw[AX,BZ,a15 hg];simp
  rw[hl1]at hb;have hgv:0<=J.g.getD c.toNat 0:=by simpa using hg
  have hd2:=nO hJ hr hd ⟨hgv,hJ.gv c og hgv⟩;obtain⟨b1,b2,b3⟩:=FB hN hq (s:=st) hw hb (aa0 _);have ha:=La (M:=n) (f:=f) (a:=[]) (cc:=[]) (H:=[]) J st c (J.g.getD c.toNat 0) hJ.d3 fun i hi=>Lh hJ hd ⟨hgv,hJ.gv c og hgv⟩ hi;refine⟨uf next (bM J.D st c (J.g.getD c.toNat 0)) w,.exit 3,sZ J f t now (uf next (bM J.D st c (J.g.getD c.toNat 0)) w) c a st (j::seen),hN.add hd2 hw,fun ψ=>by rw[Af,a5d hg],.inr rfl,?_,by kernel_rfl⟩;unfold sZ HI;by_cases hk:bM J.D st c (J.g.getD c.toNat 0)∈next.map (·.1)
  .obtain⟨jj,old,g1,g2,g3,g4⟩:=kS.WC (a9b _) hN.nd hk (n:=w) b3;rw[<-g4];exact Ag hX gX (by kernel_rfl) (.c (.dB [.agg st.ps,.int .i64 w]) [] ho (.o og (.o hcG (.b hg (.fr [] ha (.c (.int .i64 old) [] g1 (.a (.call (.int .i64 old) []) (.a (.ix jj) (.o g2 (.o g3 (.r rfl)))))))))))
  .obtain⟨g1,g2,g3,g4⟩:=kS.WE hk (n:=w) (by rw[Int.zero_add];exact eU (by omega) (by omega));rw[<-g4];exact Ag hX gX (by kernel_rfl) (.c (.dB [.agg st.ps,.int .i64 w]) [] ho (.o og (.o hcG (.b hg (.fr [] ha (.q (.bool false) g1 (.a .calm (.o (kS.ck (bM J.D st c (J.g.getD c.toNat 0))) (.o g1 (.o g2 (.o g3 (.r rfl))))))))))))
 have hg':decide (J.g.getD c.toNat 0>=0)=false:=by simpa using hg
 have qV:((J.s.getD c.toNat 0).toNat:Int)=J.s.getD c.toNat 0:=by omega
 have nR:(AX J (c::r):Int)=J.s.getD c.toNat 0*(AX J r:Int):=by
  have:(BZ J c).length=(J.s.getD c.toNat 0).toNat:=by unfold BZ;rw[a0S hg];simp
  rw[AX,this,af8,qV]
 have hs:=a8X (M:=n) (f:=f) (a:=[]) (cc:=[]) (H:=[]) J st c hJ.d3 (fun k hk h=>⟨by simpa using h,(hd k hk).1.1⟩);cases BX:kL J.D st c
 .rw[BX]at hs;have hd2:=Wx hJ hr hd BX;have hm:0<w*J.s.getD c.toNat 0:=Int.mul_pos hw (by omega);rw[nR,<-aiA]at hb;obtain⟨b1,b2,b3⟩:=FB hN hq (s:=st) hm hb (aa0 _);have hwm:i64.wrap (w*J.s.getD c.toNat 0)=w*J.s.getD c.toNat 0:=eU (by omega) (by omega);refine⟨uf next st (w*J.s.getD c.toNat 0),.exit 3,sZ J f t now (uf next st (w*J.s.getD c.toNat 0)) c a st (j::seen),hN.add hd2 hm,fun ψ=>by rw[Af,ahn hg BX,qV,aiA],.inr rfl,?_,by kernel_rfl⟩;unfold sZ HI;by_cases hk:st∈next.map (·.1)
  .obtain⟨jj,old,g1,g2,g3,g4⟩:=kS.WC (a9b _) hN.nd hk (n:=w*J.s.getD c.toNat 0) b3;rw[<-g4,<-hwm];exact Ag hX gX (by kernel_rfl) (.c (.dB [.agg st.ps,.int .i64 w]) [] ho (.o og (.o hcG (.b hg' (.fr [] hs (.b aiK (.c (.int .i64 old) [] g1 (.a (.call (.int .i64 old) []) (.a (.ix jj) (.o g2 (.o g3 (.r rfl))))))))))))
  .obtain⟨g1,g2,g3,g4⟩:=kS.WE hk (n:=w*J.s.getD c.toNat 0) (by rw[Int.zero_add];exact hwm);rw[<-g4,<-hwm];exact Ag hX gX (by kernel_rfl) (.c (.dB [.agg st.ps,.int .i64 w]) [] ho (.o og (.o hcG (.b hg' (.fr [] hs (.b aiK (.q (.bool false) g1 (.a .calm (.o (kS.ck st) (.o g1 (.o g2 (.o g3 (.r rfl)))))))))))))
 .rw[BX]at hs;obtain⟨next',h1,h2,h3⟩:=lDi (n:=n) hJ (f:=f) t now hr hd hw hN hg hb (j::seen);refine⟨next',.norm,_,h1,h2,.inl rfl,Ag (ps1:=wDi J f t now c a st w (j::seen) next' ((J.s.getD c.toNat 0).toNat:Nat) [(77,xl false)]) hX gX (by kernel_rfl) (.c (.dB [.agg st.ps,.int .i64 w]) [] ho (.o og (.o hcG (.b hg' (.fr [] hs (.b aiJ (.w h3 (.r rfl)))))))),by kernel_rfl⟩
end
end Go.Proofs.YtmobpoiejckagaaGreat
namespace Pv
open Go Tw
section
variable{X:mX}{P:LI1}{T:vw}{call:dM}{cd:xH}{L f nt B:Nat}
theorem aK.Ce{a b ps s1 Q}(hn:oN a=true)(ha:dQ X P T call L f false nt B a ps .norm s1)(hb:aK X P T call cd L f nt B b s1 Q):aK X P T call cd L f nt B (.seq a b) ps Q:=
 aK.seq (R:=fun e s=>e=.norm/\s=s1) (dQ.dem hn ha ⟨rfl,rfl⟩) (fun s h=>by obtain⟨_,rfl⟩:=h;exact hb) (fun i s h=>by cases h.1) (fun s h=>by cases h.1)
theorem aK.step{c ps e ps1 Q}(hn:oN c=true)(ha:dQ X P T call L f false nt B c ps e ps1)(hq:Q e ps1):aK X P T call cd L f nt B c ps Q:=dQ.dem hn ha hq
end
end Pv
namespace Go.Proofs.YtmobpoiejckagaaGreat
open Go Tw Pv bQ
theorem MX{α}[DecidableEq α](φ:α->Int)(p):∀l,eP φ l=eP φ (l.filter p)+eP φ (l.filter fun a=>!p a)
 | []=>rfl
 |a::l=>by
  rw[eP,MX φ p l];cases h:p a
  .rw[adv (by simp[h]),adx (by simp[h]),eP];omega
  rw[adx h,adv (by simp[h]),eP];omega
theorem WI{α}[DecidableEq α]{φ:α->Int}:∀{l},(∀a∈l,0<=φ a)->0<=eP φ l
 | [],_=>aa0 _
 |a::l,h=>by have:=WI (l:=l) fun b hb=>h b (by simp[hb]);have:=h a (by simp);rw[eP];omega
theorem Lu{n l}(hn:l.Nodup)(hl:∀j∈l,j<n):((List.range n).filter fun j=>l.contains j).Perm l:=
 (a7o (List.nodup_range.filter _) hn).2 fun j=>by rw[a8f,a5y,List.contains_iff_mem];exact⟨fun h=>h.2,fun h=>⟨hl j h,h⟩⟩
theorem WJ{n φ l}(hn:l.Nodup)(hl:∀j∈l,j<n)(hp:∀j,j<n->0<=φ j):eP φ l<=eP φ (List.range n):=by rw[MX φ (fun j=>l.contains j) (List.range n),KJ φ (Lu hn hl)];have:=WI (φ:=φ) (l:=(List.range n).filter fun j=>!l.contains j) fun j hj=>hp j (a5y.1 (a8f.1 hj).1);omega
theorem QX{n φ l}(hn:l.Nodup)(hl:∀j∈l,j<n)(ha:∀j,j<n->j∈l):eP φ l=eP φ (List.range n):=
 (KJ φ ((a7o af0 hn).2 fun j=>⟨fun h=>ha j (a5y.1 h),fun h=>a5y.2 (hl j h)⟩)).symm
abbrev nowAt(now:List (S3×Int))(j:Nat):S3×Int:=now.getD j (⟨0,0,0⟩,0)
theorem Jv{φ}(now):eP (fun j=>(nowAt now j).2*φ (nowAt now j).1) (List.range now.length)=dK φ now:=by
 have h1:dK φ now=eP (fun e:S3×Int=>e.2*φ e.1) now:=by
  induction now with
  |nil=>rfl
  |cons e m ih=>simp only[dK,eP,ih]
 have h2:now=(List.range now.length).map fun j=>nowAt now j:=by refine(nV (d:=(⟨⟨0,0,0⟩,0⟩:S3×Int)) (by simp)).2 fun k hk=>?_;simp[List.getD,hk]
 rw[h1]
 conv=>rhs;rw[h2]
 rw[AB]
theorem Z9{now j e}(h:now[j]? = some e):nowAt now j=e/\j<now.length/\e∈now:=by obtain⟨h1,h2⟩:=a0u.1 h;exact⟨by simp[nowAt,List.getD,h],h1,h2▸a5B h1⟩
section
variable{n:Nat}{J:Jb}(hJ:kQ J){f:Nat}(t:List (V×Int))(now:List (S3×Int)){a:Nat}{c:Int}{r:LI0}
def InS(J:Jb)(f:Nat)(t:List (V×Int))(now:List (S3×Int))(a:Nat)(c:Int)(r:LI0)(seen:List Nat)(s:bJ aH):Prop:=
 seen.Nodup/\(∀j∈seen,j<now.length)/\∃next,NI J (a+1) next/\(∀ψ,dK (yG J ψ r) next=eP (fun j=>(nowAt now j).2*yG J ψ (c::r) (nowAt now j).1) seen)/\iy X0 (T.fC 136 (eu bIB)) s=sH J f t now next c a seen
structure zf(J:Jb)(a:Nat)(now:List (S3×Int)):Prop where
 i:NI J a now
 s:∀ψ,dK (yG J ψ (J.o.drop a)) now=yG J ψ J.o (fD J.D)
include hJ
theorem ahy:(AX J J.o:Int)<=2000:=by have h1:=(Lr hJ (kQ.o2 hJ).2.2).2;have hw:=BP hJ.bG.sz hJ.ord;have hm:=hJ.bG.many;omega
theorem Oh(h:zf J a now):dK (fun _=>(AX J (J.o.drop a):Int)) now<=2000:=by have:=h.s fun _=>1;rw[Z8,Fh]at this;have:=ahy hJ;omega
theorem Za(a:Nat):1<=AX J (J.o.drop a):=(Lr hJ fun c hc=>(kQ.o2 hJ).2.2 c (a5N hc)).1
theorem a3p(h:zf J a now):now.length<=2000/\∀e∈now,e.2<=2000:=by
 have h1:=a9g h.i.pos (Za hJ a) (Oh hJ now h);obtain⟨h2,h3⟩:=Ju h.i.pos;have h4:=Oh hJ now h;rw[Cc]at h4;have h5:=a9Q (show(1:Int)<=AX J (J.o.drop a) by have:=Za hJ a;omega) h2;have h6:∀{m:List (S3×Int)},(∀e∈m,0<e.2)->(m.length:Int)<=dK (fun _=>1) m:=by
  intro m
  induction m with
  |nil=>intro _;exact aa0 _
  |cons e m ih=>
   intro hp;have:=ih fun e he=>hp e (by simp[he]);have:=hp e (by simp);simp only[dK,a4p,ad8];omega
 have:=h6 h.i.pos;exact⟨by omega,h1⟩
set_option maxRecDepth 20000 in
theorem inLoop(hr:J.o.drop a=c::r)(h:zf J a now):aK X0 Qp T (iD (n+1)) DN LL 136 (Di Qp 136) 5 (.block 2 (.loop bIB)) (sH J f t now [] c a []) fun e s=>e=.norm/\∃next seen,NI J (a+1) next/\(∀ψ,dK (yG J ψ r) next=dK (yG J ψ (c::r)) now)/\s={ sH J f t now next c a seen with env:=jG (T.iP 136 7) ((31,.val (.bool false))::(30,.val (.dB [.bool false]))::a5g J c a) }:=by
 have e0:bIB=.seq (.region 7 (a7S (fA bIB)) false) (.seq (.cond (.tmp 31) .skip (.exit 2)) (.block 3 bX)):=by kernel_rfl
 rw[e0];have hlen:=a3p hJ now h;have hlL:(kS.im now).length=now.length:=kS.qA now;have hql:=(Lr hJ (r:=c::r) fun c' hc=>(kQ.o2 hJ).2.2 c' (by rw[<-hr]at hc;exact a5N hc)).1;refine VQ hX (n:=now.length) (b:=7) (r:=5) (it:=29) (nx:=30) (mo:=31) (es:=kS.im now) (fun seen s=>InS J f t now a c r seen s) (by kernel_rfl) (a7j (by kernel_rfl)) (a7j (by kernel_rfl)) hlL (by unfold LL;omega)
  ⟨a6g,(fun j hj=>(by cases hj)),[],⟨a6g,(fun e he=>(by cases he)),(fun e he=>(by cases he))⟩,(fun ψ=>rfl),(by kernel_rfl)⟩ (fun seen s hi=>?_)
 obtain⟨jJ,aS,next,h1,h2,h3⟩:=hi;rw[<-e0];refine⟨_,h3,by kernel_rfl,by kernel_rfl,by kernel_rfl,fun ho=>⟨by kernel_rfl,next,seen,h1,fun ψ=>?_,rfl⟩,fun j e hj he=>⟨by kernel_rfl,?_⟩⟩
 .rw[h2,QX jJ aS ho,Jv]
 .rw[kS.Cb,a0x]at he;obtain⟨⟨st,w⟩,tX,rfl⟩:=he;obtain⟨q1,q2,q3⟩:=Z9 tX;have Hq:(j::seen).Nodup:=a5x.2 ⟨hj,jJ⟩;have FP:∀k∈j::seen,k<now.length:=fun k hk=>by
   rcases a1B.1 hk with rfl|hk
   .exact q2
   .exact aS k hk
  have hb:dK (fun _=>(AX J r:Int)) next+w*(AX J (c::r):Int)<=2000:=by
   have e1:=h2 fun _=>1;rw[Z8]at e1;have e2:=WJ (φ:=fun j=>(nowAt now j).2*yG J (fun _=>1) (c::r) (nowAt now j).1) Hq FP fun k hk=>by have:=h.i.pos _ (dw (d:=(⟨⟨0,0,0⟩,0⟩:S3×Int)) hk);rw[Fh];exact aeJ (afi this) (Int.natCast_nonneg _)
   rw[Jv,eP,q1]at e2;have e3:=Oh hJ now h;rw[hr]at e3;rw[Z8]at e2;have e4:yG J (fun _=>1) (c::r) st=(AX J (c::r):Int):=Fh _ _;simp only[e4]at e2;omega
  obtain⟨next',e',s',g1,g2,g3,g4,g5⟩:=amU (n:=n) hJ (f:=f) t now seen (st:=st) (w:=w) (j:=j) hr (h.i.dp _ q3) (h.i.pos _ q3) h1 tX hb;refine aK.step (by kernel_rfl) g4 ⟨g3,Hq,FP,next',g1,fun ψ=>?_,g5⟩;rw[g2,h2,eP,q1,ahD]
end
end Go.Proofs.YtmobpoiejckagaaGreat
