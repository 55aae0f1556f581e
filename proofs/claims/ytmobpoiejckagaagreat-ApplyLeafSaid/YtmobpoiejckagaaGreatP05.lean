/- Part 6 of a proof: ApplyLeaf -/
import Derived.Test.YtmobpoiejckagaaGreatP04
set_option linter.constructorNameAsVariable false
set_option linter.unusedVariables false
set_option linter.unusedSimpArgs false
set_option linter.unusedSectionVars false
open Go.IntKind (i64)
noncomputable section
namespace Go.Proofs.YtmobpoiejckagaaGreat
open Go Tw Pv dB
abbrev YD:Cs:=⟨[],[],[]⟩
def dW(d:Dg):Dg:=⟨d.aA,d.aH,(bV d 6002 d.root YD).2.e,(bV d 6002 d.root YD).2.n,(bV d 6002 d.root YD).1⟩
theorem Vf{d:Dg}:DR d YD:=⟨a5L,by simp,a5L,by simp,a5L,by simp⟩
abbrev a7G(b:Br):Bool:=b.ay.all fun x=>x==b.ay.getD 0 0
theorem a1U{d:Dg}:∀(F:Nat) (r:Int) (x:Cs),(∀b∈x.n,a7G b=false)->∀b∈(bV d F r x).2.n,a7G b=false
 | 0,_,_,h=>h
 |F+1,r,x,h=>by
  unfold bV;split
  .exact h
  split
  .exact h
  have hb:=(Ik (d:=d) (fun y=>∀b∈y.n,a7G b=false) (F:=F) (r:=r) h (fun j y _ hy=>a1U F _ y hy)).2;intro b QJ;simp only[dG]at QJ;split at QJ
  .exact hb b QJ
  rename_i hf;split at QJ
  .exact hb b QJ
  rcases a3c.1 QJ with QJ|QJ
  .exact hb b QJ
  rw[a2D.1 QJ];simpa using hf
theorem a3Q{d:Dg}(h:Ce d)(e:dW d=d):DgD d:=by
 have hc:=PS h 6002 d.root YD Vf h.root;have hf:=a1U (d:=d) 6002 d.root YD (by simp);have ee:(bV d 6002 d.root YD).2.e=d.aK:=congrArg Dg.aK e;have en:(bV d 6002 d.root YD).2.n=d.au:=congrArg Dg.au e;rw[en]at hf;have hg:∀j,(hj:j<d.au.length)->fE d j=d.au[j]:=fun j hj=>by simp[List.getD,a0n hj]
 refine⟨ee▸hc.e1,fun i j hi hj hv hk=>?_,fun i hi=>?_⟩
 .have hn:(d.au.map CB).Nodup:=en▸hc.n1;have:=(aaP (i:=i) (j:=j) (h₀:=by simpa using hi) (h₁:=by simpa using hj) hn).1 (by rw[a9i,a9i,<-hg i hi,<-hg j hj];show ug _ _=ug _ _;rw[hv,hk])
  exact this
 have:=hf (fE d i) (by rw[hg i hi];exact a4D hi);exact this
theorem PZ{d:Dg}{n m:Nat}{x:Int}(hm:m<=2^61)(hx:Gi x)(hc:VL (dO n,dO m) x):xO (dO n,dO m) x=x:=by
 have hid:∀(n:Nat) (y:Int),y∈dO n->(((dO n).idxOf y:Nat):Int)=y:=fun n y hy=>by have hl:=a4H.2 hy;have h1:=a8Z hl;rw[lW]at hl;simp only[dO,a9i,aei]at h1;exact h1
 unfold xO;by_cases c:x<0
 .rw[a0u c];have h1:=hid m _ (hc.1 c);have h2:ji x=-1-x:=Nb hx c;have h3:=a1N (hc.1 c);have h4:=h3.2;rw[show((((dO n,dO m):LI0×LI0).2.idxOf (ji x):Nat):Int)=ji x from h1,h2,eP (by omega) (by omega)];omega
 rw[a0q c];exact hid n _ (hc.2 (by omega))
theorem Y0{α:Type}(l:List α)(f:Int->α)(h:∀j,(hj:j<l.length)->f j=l[j]):(dO l.length).map f=l:=by apply a9J (by simp[dO]);intro j h1 h2;simp[dO,h j h2]
theorem a1V{d:Dg}{j:Nat}(hj:j<d.aK.length):d.aK.getD ((j:Nat):Int).toNat V0=d.aK[j]:=by simp[List.getD,a0n hj]
theorem a1W{l:LI0}{m:Nat}(hl:l.length=m)(h:∀j,(hj:j<l.length)->l[j]=(j:Int)):l=dO m:=by apply a9J (by rw[lW,hl]);intro j h1 h2;rw[h j h1];simp[dO]
theorem afQ{d:Dg}(h:Ce d)(hw:Na d)(hd:DgD d)(he:d.aK.length<=2^61){t:LI0×LI0}(ht:JE d t)(hk:JF d t)(hc:VL t d.root):((KS d t).e=d.aK∧(KS d t).n=d.au∧xO t d.root=d.root)↔(t.1=dO d.au.length∧t.2=dO d.aK.length):=by
 have hW:∀o,fF o d.au.length->∀k∈(aj d o).ay,Gi k:=fun o ho k kN=>by
  obtain⟨i,hi,rfl⟩:=a4N.1 kN;have:=hw.zS o.toNat (by have:=ho.1;have:=ho.2;omega) i hi
  rwa [rX hi]at this
 have hg:∀j,(hj:j<d.au.length)->aj d (j:Nat)=d.au[j]:=fun j hj=>by simp[List.getD,a0n hj]
 constructor
 .rintro⟨h1,h2,h3⟩;have l1:t.2.length=d.aK.length:=by have:=congrArg List.length h1;simpa[KS]using this
  have l2:t.1.length=d.au.length:=by have:=congrArg List.length h2;simpa[KS]using this
  have e2:t.2=dO d.aK.length:=a1W l1 fun j hj=>by have sD:j<d.aK.length:=(by omega);have:(KS d t).e[j]'(by rw[h1];exact sD)=d.aK[j]:=(by simp only[h1]);unfold KS at this;simp only[a9i]at this;rw[<-a1V sD]at this;exact XY hd.aK (ht.e2 _ (a4D hj)) (aG sD) this
  have key:∀(N:Nat) (o:Int),o∈t.1->o.toNat<N->xO t o=o:=by
   intro N
   induction N with
   |zero=>intro o _ hN;omega
   |succ N ih=>
    intro o ho hN;have Zd:=ht.n2 o ho;have aQ:=a4H.2 ho;have sD:t.1.idxOf o<d.au.length:=(by omega);have hel:=a8Z aQ;have:(KS d t).n[t.1.idxOf o]'(by rw[h2];exact sD)=d.au[t.1.idxOf o]:=(by simp only[h2]);unfold KS at this;simp only[a9i,hel]at this;have hkm:(aj d o).ay.map (xO t)=(aj d o).ay:=by
     conv=>rhs;rw[<-List.map_id (aj d o).ay]
     apply a4V;intro k kN;show xO t k=k;have hcv:=hk o ho k kN;by_cases c:k<0
     .have:=PZ (d:=d) (n:=0) (m:=d.aK.length) he (hW o Zd k kN) ⟨fun c=>by have:=hcv.1 c;rwa [e2]at this,fun h0=>by omega⟩;unfold xO at this ⊢;rw[a0u c]at this ⊢;rw[e2];exact this
     obtain⟨i,hi,rfl⟩:=a4N.1 kN;have apC:o.toNat<d.au.length:=by have:=Zd.1;have:=Zd.2;omega
     have h9:=(h.zS o.toNat apC i hi).1;have h9:(aj d o).ay.getD i 0<(o.toNat:Int):=h9;rw[rX hi]at h9;exact ih _ (hcv.2 (by omega)) (by omega)
    rw[hkm]at this;have hv:(fE d (t.1.idxOf o)).var=(fE d o.toNat).var:=(by rw[show fE d (t.1.idxOf o)=d.au[t.1.idxOf o]from hg _ sD,<-this]);have yj:(fE d (t.1.idxOf o)).ay=(fE d o.toNat).ay:=(by rw[show fE d (t.1.idxOf o)=d.au[t.1.idxOf o]from hg _ sD,<-this]);have h8:=hd.au _ _ sD (by have:=Zd.1;have:=Zd.2;omega) hv yj;unfold xO;rw[a0q (by have:=Zd.1;omega),h8];have:=Zd.1;omega
  refine⟨a1W l2 fun j hj=>?_,e2⟩;have hm:=a4D hj;have:=key ((t.1[j]).toNat+1) _ hm (by omega);unfold xO at this;rw[a0q (by have:=(ht.n2 _ hm).1;omega)]at this;rw[<-this];have:t.1.idxOf t.1[j]=j:=by have h5:=a4H.2 hm;exact(aaP (i:=t.1.idxOf t.1[j]) (j:=j) (h₀:=h5) (h₁:=hj) ht.n1).1 (a8Z h5)
  rw[this]
 rintro⟨h1,h2⟩;obtain⟨t1,t2⟩:=t;simp only at h1 h2;subst h1 h2;refine⟨?_,?_,PZ (d:=d) he hw.root hc⟩
 .exact Y0 d.aK (fun e=>d.aK.getD e.toNat V0) fun j hj=>a1V hj
 refine Y0 d.au _ fun j hj=>?_;have hkm:(aj d (j:Nat)).ay.map (xO (dO d.au.length,dO d.aK.length))=(aj d (j:Nat)).ay:=by
  conv=>rhs;rw[<-List.map_id (aj d (j:Nat)).ay]
  apply a4V;intro k kN;exact PZ (d:=d) he (hW _ (aG hj) k kN) (hk _ (by show(j:Int)∈dO _;unfold dO;rw[a1k];exact⟨j,a4B.2 hj,rfl⟩) k kN)
 rw[hkm,hg j hj]
theorem TB{d:Dg}(h:Ce d)(hw:Na d)(he:d.aK.length<=2^61)(hn:d.au.length<=6000):dW d=d↔ql d=true:=by
 have main:DgD d->(dW d=d↔(srN d d.root=dO d.au.length∧srE d d.root=dO d.aK.length)):=fun hd=>by
  have hr:d.root+1<6002:=by have:=h.root.1;omega
  have ha:=adp h hw hd he 6002 d.root ([],[]) hr sr0 (fun o ho=>by cases ho) h.root (by omega);have hs:=KU h 6002 d.root ([],[]) sr0 h.root;have hi:=afQ h hw hd he hs ha.ay ha.cov;have e0:KS d ([],[])=YD:=rfl;have e1:=ha.eq;rw[e0]at e1;unfold srN srE;rw[<-hi];unfold dW;rw[e1];obtain⟨d1,d2,d3,d4,d5⟩:=d;simp
 rw[XZ];constructor
 .intro e;have hd:=a3Q h e;exact⟨hd,(main hd).1 e⟩
 rintro⟨hd,h2⟩;exact(main hd).2 h2
open Go Tw Pv dB
abbrev HCw(l:Lo)(x:Cs):List (PB aC):=[.list false false 3 l.s,.list false false 3 l.o,.map (kV.es (zU x.e)),.map (kK.es (yX x.n)),mkC l.s l.o 12 13 0,.gone,.gone,.cells l.ps,.cells [.ptr 4 0 9],.map (kI.es (LD x.k)),.cells [.map 9],.cells [.fn 195 [] pC],zV x.e,zW x.n]
structure ClP(l:Lo):Prop where
 s:l.s=l.d.aA
 o:l.o=l.d.aH
 t:Ce l.d
 e:l.d.aK.length+1<=ah
 n:l.d.au.length<=6000
 k:∀i,i<l.d.au.length->1<=(fE l.d i).ay.length
 sl:l.d.aA.length<=ah
 ol:l.d.aH.length<=ah
def adr:fB aC:=cu 161 (a1 loA) dA (fun l=>dW l.d) (fun l=>[ClP l]) adn
theorem aku:Gd adr:=aks.Xk 6010 ade fun n hn hO hOl l hp=>by obtain⟨n,rfl⟩:∃k,n=k+6009:=⟨n-6009,by omega⟩;have h:ClP l:=hp _ iD;obtain⟨s,o,d⟩:=l;obtain⟨e1,e2,ht,he,hn6,hk,hsl,LQ⟩:=h;obtain rfl:s=d.aA:=e1;obtain rfl:o=d.aH:=e2;have hO':∀m,n+1<=m->Ok m _:=fun m hm=>hOl m (by omega);have he:d.aK.length+1<=ah:=he;have hn6:d.au.length<=6000:=hn6;have hr:=ht.root.1;have hr:d.root<(d.au.length:Int):=hr;have pV:=sCl (N:=n+1) hO' ht he (by unfold ah;omega) hk 6002 d.root YD (by omega) Vf ht.root (by omega);have gy:=apy (n:=n+6008) (hO' _ (by omega)) d.aA d.aH hsl LQ;show pO _ _ _ _ _ (dA.put (dW d)) _;unfold dW;generalize bV d 6002 d.root YD=z at pV ⊢;obtain⟨v,e,nd,k⟩:=z;exact aO (hO (n+6009) (by omega)) (.fr [] gy (.QC (H2:=HCw (yY d) ⟨e,nd,k⟩) [1,2,3,4,5,6,7,0,8,9,10,11] [7,8,10,11] pV .rr))
open Go Tw Pv dB
theorem a1X{d:Dg}(h:Ce d):∀(F:Nat) (r:Int) (x:Cs),(∀b∈x.n,b.ay.length<=12)->jC d r d.au.length->∀b∈(bV d F r x).2.n,b.ay.length<=12
 | 0,_,_,hx,_=>hx
 |F+1,r,x,hx,hr=>by
  unfold bV;by_cases c:r<0
  .rw[a0u (by simpa using c)];exact hx
  rw[a0q (by simpa using c)];split
  .exact hx
  have aQ:r.toNat<d.au.length:=by have:=hr.1;omega
  have hb:=Ik (d:=d) (fun y=>∀b∈y.n,b.ay.length<=12) (F:=F) (r:=r) hx (fun j y hj hy=>a1X h F _ y hy (by have h9:=h.zS r.toNat aQ j hj;have h8:=h9.1;have h8:(aj d r).ay.getD j 0<(r.toNat:Int):=h8;exact⟨by have:=hr.1;omega,h9.2⟩))
  intro b QJ;simp only[dG]at QJ;split at QJ
  .exact hb.2 b QJ
  split at QJ
  .exact hb.2 b QJ
  rcases a3c.1 QJ with QJ|QJ
  .exact hb.2 b QJ
  rw[a2D.1 QJ];show List.length _<=12;rw[hb.1];exact h.JD r.toNat aQ
theorem xH{d:Dg}(h:Na d)(he:d.aK.length+1<=ah)(hs:d.aA.length<=ah)(ho:d.aH.length<=ah)(h0:(bG d).2=0):(bG d).1=yY d∧ClP (yY d):=by
 rw[Eu h (by omega)]at h0 ⊢;have h0:aZ d=0:=h0;have hc:=jK ho (show d.aK.length<=ah by omega) (by simp[h0]);have hf:(aV d.aA d.aH != 0)=false:=by
  cases e:aV d.aA d.aH != 0
  .rfl
  unfold aZ at h0;rw[a0u e]at h0;simp[h0]at e
 refine⟨by rw[a0q (by rw[hf];simp)],rfl,rfl,hc.1,he,hc.2,fun i hi=>?_,hs,ho⟩;have h1:=hc.1.ksz i hi;have h2:=hc.1.var i hi;have h3:=(Bd hf).sz _ (bT (s:=d.aA) (k:=(fE d i).var.toNat) (by have:=h2.2;have:=h2.1;omega));have h1:((fE d i).ay.length:Int)=d.aA.getD (fE d i).var.toNat 0:=h1;show 1<=(fE d i).ay.length;omega
def yI(d:Dg):Lo×Int:=if(bG d).2==0 then(if(!(Io (dW (bG d).1.d) d))=true then((bG d).1,4)else bG d)else bG d
theorem ZY{d:Dg}(h:Ce d)(hn:d.au.length<=6000):(dW d).aK.length<=d.aK.length∧(dW d).au.length<=6000∧∀b∈(dW d).au,b.ay.length<=12:=by have hc:=PS h 6002 d.root YD Vf h.root;refine⟨hc.akn,?_,a1X h 6002 d.root YD (by simp) h.root⟩;have h1:=hc.JD;have h2:=hc.n2;show(bV d 6002 d.root YD).2.n.length<=6000;omega
theorem a3R{d:Dg}(h:Na d)(hs:d.aA.length<=ah)(ho:d.aH.length<=2^20)(he:d.aK.length+1<=ah)(h0:((bG d).2==0)=true):ClP (bG d).1∧(dW (bG d).1.d).aA.length<=ah∧(dW (bG d).1.d).aH.length<=ah∧(dW (bG d).1.d).aK.length<=ah∧(dW (bG d).1.d).au.length<=ah∧∀k,k<(dW (bG d).1.d).au.length->((dW (bG d).1.d).au.getD k kW).ay.length<=ah:=by
 have ho:d.aH.length<=ah:=by unfold ah;omega
 obtain⟨h1,h2⟩:=xH h he hs ho (by simpa using h0);rw[h1];obtain⟨a,b,c⟩:=ZY h2.t h2.n;refine⟨h2,hs,ho,?_,?_,fun k hk=>?_⟩
 .have a:(dW d).aK.length<=d.aK.length:=a;show(dW d).aK.length<=ah;omega
 .have b:(dW d).au.length<=6000:=b;show(dW d).au.length<=ah;unfold ah;omega
 exact m12 (c _ (XT hk))
def Iq:fB aC:=cu 172 (a1 dA) (dS (a2 loA iA)) (fun p=>yI p) (fun p=>[Na p,p.aA.length<=ah,p.aH.length<=2^20,p.aK.length+1<=ah]) adr
theorem akv:Gd Iq:=aku.add fun n hO p hp=>aO hO (.o (hp _ xM) (.o (hp _ hh2) (.o (by have h9:p.aK.length+1<=ah:=hp _ (.tail _ (.tail _ (.tail _ (.head _))));show p.aK.length<=ah;omega) (.sh (fun h=>have q:=a3R (hp _ iD) (hp _ xM) (hp _ hh2) (hp _ (.tail _ (.tail _ (.tail _ (.head _))))) h;.o q.1 (.o q.2.1 (.o q.2.2.1 (.o q.2.2.2.1 (.o q.2.2.2.2.1 (.o q.2.2.2.2.2 (.ss .rr .rr))))))) fun _=>.rr))))
theorem a7I{d:Dg}(h:Na d)(hs:d.aA.length<=ah)(ho:d.aH.length<=ah)(he:d.aK.length+1<=ah):yI d=(if(aV d.aA d.aH != 0)=true then lo0 else yY d,vN d):=by
 have h9:=Eu h (show d.aK.length<=ah by omega);unfold yI vN;by_cases h0:(bG d).2=0
 .obtain⟨h1,h2⟩:=xH h he hs ho h0;have h3:=TB h2.t h (show d.aK.length<=2^61 by unfold ah at he;omega) h2.n;have h4:aZ d=0:=by rw[h9]at h0;exact h0
  rw[a0u (show((bG d).2==0)=true by simpa using h0),h1,h4,a0q (show ¬(((0:Int) != 0)=true) by simp)];rw[h9]at h1;show(if(!(Io (dW d) d))=true then(yY d,4)else bG d)=_;have h1:(if(aV d.aA d.aH != 0)=true then lo0 else yY d)=yY d:=h1;rw[h9,h1];by_cases h5:dW d=d
  .rw[a0q (show ¬((!(Io (dW d) d))=true) by rw[a1Q.2 h5];simp),a0q (show ¬((!(ql d))=true) by rw[h3.1 h5];simp),h4]
  have h6:Io (dW d) d=false:=by
   cases e:Io (dW d) d
   .rfl
   exact absurd (a1Q.1 e) h5
  have h7:ql d=false:=by
   cases e:ql d
   .rfl
   exact absurd (h3.2 e) h5
  rw[a0u (show(!(Io (dW d) d))=true by rw[h6];rfl),a0u (show(!(ql d))=true by rw[h7];rfl)]
 have h4:¬aZ d=0:=by rw[h9]at h0;exact h0
 rw[a0q (show ¬(((bG d).2==0)=true) by simpa using h0),h9,a0u (show(aZ d != 0)=true by simpa using h4)]
open Go Tw Pv dB
def cellsD(d:Dg):List V:=(List.range (uM d.aA)).map fun(k:Nat)=>Ci d (mg d.aA k)
open Go Tw Pv dB
def DT(N:List Br)(c:Int)(ks:LI0):Int:=if(ks.all fun x=>x==ks.getD 0 0)=true then ks.getD 0 0 else(N.idxOf (⟨c,ks⟩:Br):Nat)
def oZ(N:List Br)(c:Int)(ks:LI0):List Br:=if(ks.all fun x=>x==ks.getD 0 0)=true then N else if(⟨c,ks⟩:Br)∈N then N else N++[⟨c,ks⟩]
abbrev EN:Type:=List V×List Br
def vX(f:LI0->EN->Int×EN)(c:Int)(p:LI0)(j:Nat)(y:LI0×EN):LI0×EN:=(y.1++[(f (p.set c.toNat j) y.2).1],(f (p.set c.toNat j) y.2).2)
def fU(s:LI0)(l:List V):LI0->LI0->EN->Int×EN
 | [],p,x=>(i64.wrap (-1-(x.1.idxOf (l.getD (dV s p).toNat V0):Nat)),(fC x.1 (l.getD (dV s p).toNat V0),x.2))
 |c::r,p,x=>
  let y:=aU (vX (fU s l r) c p) (s.getD c.toNat 0).toNat 0 ([],x)
  (DT y.2.2 c y.1,(y.2.1,oZ y.2.2 c y.1))
def wO(s:LI0):LI0->Nat
 | []=>1
 |c::r=>(s.getD c.toNat 0).toNat*wO s r
theorem Q5{s:LI0}(hs:mZ s):∀{o:LI0},(∀c∈o,fF c s.length)->1<=wO s o
 | [],_=>a0E _
 |c::r,h=>by have h1:=Q5 hs (o:=r) fun c hc=>h c (by simp[hc]);obtain⟨h2,h3⟩:=h c (by simp);have h4:=hs _ (bT (s:=s) (k:=c.toNat) (by omega));have h5:1*1<=(s.getD c.toNat 0).toNat*wO s r:=ahb (by omega) h1;simpa[wO]using h5
theorem a00(E:List V)(v:V):(fC E v).length<=E.length+1:=by unfold fC;split<;>simp
theorem a7J(N:List Br)(c:Int)(ks:LI0):(oZ N c ks).length<=N.length+1:=by
 unfold oZ;split
 .omega
 split<;>simp
theorem a1Y{f:LI0->EN->Int×EN}{c:Int}{p:LI0}{n w:Nat}(h:∀q x,(f q x).2.1.length<=x.1.length+w∧(f q x).2.2.length+1<=x.2.length+w)(x:EN):(aU (vX f c p) n 0 ([],x)).1.length=n∧(aU (vX f c p) n 0 ([],x)).2.1.length<=x.1.length+n*w∧(aU (vX f c p) n 0 ([],x)).2.2.length+n<=x.2.length+n*w:=by
 have:=bU (g:=vX f c p) (m:=n) (k:=0) (s:=([],x)) (fun k y=>y.1.length=k∧y.2.1.length<=x.1.length+k*w∧y.2.2.length+k<=x.2.length+k*w) ⟨rfl,by simp,by simp⟩ (fun j y _ _ hy=>by
  obtain⟨h1,h2,h3⟩:=hy;have:=h (p.set c.toNat j) y.2;refine⟨by simp[vX,h1],?_,?_⟩
  .simp only[vX,a3i,aa8];omega
  simp only[vX,a3i,aa8];omega)
 rw[a3I]at this;exact this
theorem Vg{s:LI0}{l:List V}(hs:mZ s):∀(o p:LI0) (x:EN),(∀c∈o,fF c s.length)->(fU s l o p x).2.1.length<=x.1.length+wO s o∧(fU s l o p x).2.2.length+1<=x.2.length+wO s o
 | [],p,x,_=>by have:=a00 x.1 (l.getD (dV s p).toNat V0);exact⟨this,by simp[fU,wO]⟩
 |c::r,p,x,h=>by
  obtain⟨h1,h2,h3⟩:=a1Y (f:=fU s l r) (c:=c) (p:=p) (n:=(s.getD c.toNat 0).toNat) (w:=wO s r) (fun q x=>Vg hs r q x fun c hc=>h c (by simp[hc])) x;obtain⟨i1,i2⟩:=h c (by simp);have h4:=hs _ (bT (s:=s) (k:=c.toNat) (by omega));simp only[fU,wO];generalize aU (vX (fU s l r) c p) (s.getD c.toNat 0).toNat 0 ([],x)=y at h1 h2 h3;refine⟨h2,?_⟩;by_cases hn:(s.getD c.toNat 0).toNat=1
  .have e:oZ y.2.2 c y.1=y.2.2:=by
    unfold oZ;rw[a0u];rw[hn]at h1
    match hy:y.1,h1 with
    | [a],_=>simp
   rw[e];omega
  have:=a7J y.2.2 c y.1;omega
abbrev dP(s o:LI0)(i j:Nat):PV aC:=.agg [lI s,lI o,.own i,.own j,.int .i64 0]
abbrev d0P:List (PV aC):=[.nil .aP,.nil .aP,.nil .aP,.nil .aP,.int .i64 0]
abbrev w1P(s o:LI0)(v:V)(i:Int)(x:List (Nat×PE aC))(H:List (PB aC)):aT aC:=⟨[(4,.loc 0 0),(8,.loc 1 0),(10,.loc 2 0),(11,xi i)]++x,[[lI s,lI o,.own 0,.own 1,.int .i64 0],d0P,v.ps],H⟩
def z1P(s o:LI0)(E:List V)(v:V)(H:List (PB aC)):Unit⊕Nat->Ex×aT aC
 |.inl _=>(.exit 0,w1P s o v E.length [(33,xl false)] H)
 |.inr k=>(.ret,⟨[(8,.loc 1 0),(9,xi (i64.wrap (-1-(k:Int))))],[[lI s,lI o,.own 0,.own 1,.int .i64 0],[lI s,lI o,.own 0,.own 1,.int .i64 0],v.ps],H⟩)
abbrev c1P(E:List V)(v:V)(k:Nat):Bool:=decide (E.getD k V0=v)
theorem l1P{n:Nat}(hO:Ok n Iq)(s o:LI0){E:List V}(N:List Br)(v:V)(pl:LI0)(ko ex:Bool)(hl:E.length<=ah):Ii n 135 0 3 (w1P s o v 0 [] [zV E,zW N,oI ko ex pl]) (z1P s o E v [zV E,zW N,oI ko ex pl] (bK (c1P E v) E.length)).1 (z1P s o E v [zV E,zW N,oI ko ex pl] (bK (c1P E v) E.length)).2:=
 jh (st:=fun i _=>w1P s o v i [] [zV E,zW N,oI ko ex pl]) (fun _ _=>True) (by kernel_rfl) hl trivial (fun k u m hk _ ih=>aN hO (.b (bF hk) (.o (aG hk) (.q (.bool (c1P E v k)) (eqV (.tmp 40) (.tmp 41) (E.getD k V0) v) (.ls (.ou nofun) (.nx (ih _ trivial)))))))
  (fun _ _=>aN hO (.b (fH E.length) (.ou nofun)))
theorem Q7{α:Type}[DecidableEq α]{l:List α}{d a:α}{c:Nat->Bool}(hc:∀k,k<l.length->c k=decide (l.getD k d=a)):(a∈l->bK c l.length=.inr (l.idxOf a))∧(a∉l->kU (bK c l.length)=true):=by
 constructor
 .intro h;have hi:=a4H.2 h;have h1:c (l.idxOf a)=true:=by rw[hc _ hi,a1n,List.getD,a0n hi,a6k,a8Z]
  cases e:kU (bK c l.length)
  .obtain⟨j,hj,cj,hb,e2⟩:=UR e;rw[e2];congr 1;rcases Nat.lt_trichotomy j (l.idxOf a)with g|g|g
   .exfalso;rw[hc j hj,a1n,List.getD,a0n hj,a6k]at cj;have:=List.not_of_lt_findIdx (p:=(·==a)) g;rw[cj]at this;simp at this
   .exact g
   rw[hb _ g]at h1;cases h1
  rw[eG.1 e _ hi]at h1;cases h1
 intro h;refine eG.2 fun j hj=>?_;rw[hc j hj,a2K,List.getD,a0n hj,a6k];rintro rfl;exact h (a4D hj)
abbrev w2P(s o:LI0)(l:List V)(a c:Int)(k:Nat)(x:Int)(y:List (Nat×PE aC))(H:List (PB aC)):aT aC:=⟨[(1,xL 39 l),(2,xi a),(3,.val (.own 2)),(4,.loc 0 0),(8,.loc 1 0),(12,.loc 2 0),(13,xi x)]++y,[[lI s,lI o,.own 3,.own 4,.int .i64 0],d0P,[.int .i64 c,.own k]],H⟩
abbrev HP(pl:LI0)(ko ex:Bool)(x:EN):List (PB aC):=[.gone,.gone,oI ko ex pl,zV x.1,zW x.2]
theorem l2P{M:Nat}(hO:Ok M Iq){s o:LI0}{l:List V}{a c:Int}{pl:LI0}{ko ex:Bool}{f:LI0->EN->Int×EN}{w:Nat}(hs:mZ s)(hc:fF c s.length)(hp:jf s pl=true)(hpm:pl.length<=ah)(x:EN)(hl:∀q x,(f q x).2.1.length<=x.1.length+w∧(f q x).2.2.length+1<=x.2.length+w)
  (hx:x.1.length+(s.getD c.toNat 0).toNat*w<=ah∧x.2.length+(s.getD c.toNat 0).toNat*w<=ah) (Q:EN->Prop) (hQ:Q x) (hQf:∀q y,Q y->Q (f q y).2)
  (hf:∀q y,jf s q=true->y.1.length+w<=ah->y.2.length+w<=ah->Q y->bZ X0 Qp (iC M) (.fn 135 [] []) [dP s o 0 1,lV l,.int .i64 (i64.wrap (a+1)),.own 2] [zV y.1,zW y.2,oI true false q] (.cO [dP s o 3 4,.int .i64 (f q y).1]) (HP q true false (f q y).2)) :
  Ii M 135 1 3 (w2P s o l a c 5 0 [] (HP pl ko ex x++[oI false false []])) (.exit 2) (w2P s o l a c 5 (((s.getD c.toNat 0).toNat:Nat):Int) [(70,xl false)] (HP pl ko ex (aU (vX f c pl) (s.getD c.toNat 0).toNat 0 ([],x)).2++[oI false false (aU (vX f c pl) (s.getD c.toNat 0).toNat 0 ([],x)).1])):=by
 obtain⟨c1,c2⟩:=hc;have hz:=hs _ (bT (s:=s) (k:=c.toNat) (by omega));have en:(((s.getD c.toNat 0).toNat:Nat):Int)=s.getD c.toNat 0:=by omega
 have Eb:=qh hp;have nP:fF c s.length:=⟨c1,c2⟩;have hip:fF c pl.length:=by rw[Eb];exact nP
 have hw:∀k,k<(s.getD c.toNat 0).toNat->k*w+w<=(s.getD c.toNat 0).toNat*w:=fun k hk=>by have:(k+1)*w<=(s.getD c.toNat 0).toNat*w:=a3w w hk;rw[a3i]at this;omega
 refine vM (σ:=LI0×EN) (N:=(s.getD c.toNat 0).toNat) (g:=vX f c pl) (s0:=([],x)) (st:=fun k y=>w2P s o l a c 5 k [] (HP pl ko ex y.2++[oI false false y.1])) (fin:=fun y=>w2P s o l a c 5 (((s.getD c.toNat 0).toNat:Nat):Int) [(70,xl false)] (HP pl ko ex y.2++[oI false false y.1])) (fun k y=>(y.1.length=k∧y.2.1.length<=x.1.length+k*w∧y.2.2.length<=x.2.length+k*w)∧Q y.2) (by kernel_rfl) (by unfold ah;omega) ⟨⟨rfl,by simp,by simp⟩,hQ⟩ (fun j y hj hy=>?_) (fun j y hj hy m e p g=>?_) (fun y _=>?_)
 .obtain⟨⟨h1,h2,h3⟩,hq⟩:=hy;have:=hl (pl.set c.toNat j) y.2;refine⟨⟨by simp[vX,h1],?_,?_⟩,hQf _ _ hq⟩
  .simp only[vX,a3i,aa8];omega
  .simp only[vX,a3i,aa8];omega
 .obtain⟨⟨h1,h2,h3⟩,hqy⟩:=hy;have Wu:=hw j hj;have hq:jf s (pl.set c.toNat j)=true:=Pz hp nP (by rw[<-en]at hz ⊢;exact⟨by omega,by omega⟩);have aag:=hf (pl.set c.toNat j) y.2 hq (by omega) (by omega) hqy;have t1:decide ((j:Int)<s.getD c.toNat 0)=true:=by rw[a1n];omega
  unfold vX at g;generalize f (pl.set c.toNat j) y.2=z at aag g;obtain⟨v,E',N'⟩:=z;exact aN hO (.o nP (.b t1 (.o hpm (.o hip (.fr [3,4,6] aag (.o (show y.1.length+[v].length<=ah by simp only[a3j];unfold ah;omega) (.goG [.gc [7,8,10]] g)))))))
 .have t1:decide ((((s.getD c.toNat 0).toNat:Nat):Int)<s.getD c.toNat 0)=false:=by rw[a2K];omega
  exact aN hO (.o nP (.b t1 .ex))
abbrev w3P(s o:LI0)(c:Int)(x:Int)(y:List (Nat×PE aC))(H:List (PB aC)):aT aC:=⟨[(4,.loc 0 0),(8,.loc 1 0),(12,.loc 2 0),(16,xi x)]++y,[[lI s,lI o,.own 3,.own 4,.int .i64 0],d0P,[.int .i64 c,.own 5]],H⟩
def z3P(s o:LI0)(c:Int)(N:List Br)(H:List (PB aC)):Unit⊕Nat->Ex×aT aC
 |.inl _=>(.exit 4,w3P s o c N.length [(106,xl false)] H)
 |.inr k=>(.ret,⟨[(8,.loc 1 0),(9,xi (k:Int))],[[lI s,lI o,.own 3,.own 4,.int .i64 0],[lI s,lI o,.own 3,.own 4,.int .i64 0],[.int .i64 c,.own 5]],H⟩)
abbrev c3P(N:List Br)(c:Int)(ks:LI0)(k:Nat):Bool:=if((N.getD k kW).var==c)=true then decide ((N.getD k kW).ay=ks)else false
theorem afR{N:List Br}{c:Int}{ks:LI0}{k:Nat}(_:k<N.length):c3P N c ks k=decide (N.getD k kW=⟨c,ks⟩):=by
 unfold c3P;rcases N.getD k kW with⟨v,l⟩;by_cases h1:v=c
 .by_cases h2:l=ks<;>simp[h1,h2]
 simp[h1]
theorem l3P{n:Nat}(hO:Ok n Iq)(s o:LI0)(E:List V){N:List Br}(c:Int)(ks pl:LI0)(ko ex:Bool)(hl:N.length<=ah)(hk:∀b∈N,b.ay.length<=ah):Ii n 135 2 3 (w3P s o c 0 [] (HP pl ko ex (E,N)++[oI false false ks])) (z3P s o c N (HP pl ko ex (E,N)++[oI false false ks]) (bK (c3P N c ks) N.length)).1 (z3P s o c N (HP pl ko ex (E,N)++[oI false false ks]) (bK (c3P N c ks) N.length)).2:=by
 refine jh (st:=fun i _=>w3P s o c i [] (HP pl ko ex (E,N)++[oI false false ks])) (g:=gS (c3P N c ks)) (out:=z3P s o c N (HP pl ko ex (E,N)++[oI false false ks])) (fun _ _=>True) (by kernel_rfl) hl trivial (fun k u m kN _ ih=>?_) (fun _ _=>?_)
 .have h1:=(Ia (d:=kW) (p:=fun b=>b.ay.length<=ah)).2 hk k kN;unfold gS c3P;cases e:(N.getD k kW).var==c
  .exact aN hO (.b (bF kN) (.o (aG kN) (.b e (.nx (ih _ trivial)))))
  exact aN hO (.b (bF kN) (.o (aG kN) (.b e (.o (aG kN) (.o h1 (.ls (.ou nofun) (.nx (ih _ trivial))))))))
 exact aN hO (.b (fH N.length) (.ou nofun))
structure PtP(s o:LI0)(l:List V):Prop where
 bI:ng s
 ord:∀c∈o,fF c s.length
 len:(l.length:Int)=bg s
 a7K:o.length<=ah
 slen:s.length<=ah
theorem a7L(c:Int)(ks:LI0):xC ⟨c,ks⟩=ks.all fun x=>x==ks.getD 0 0:=PX ⟨c,ks⟩
theorem apF{n:Nat}(hO:Ok n Iq){s o:LI0}{l:List V}(h:PtP s o l)(pl:LI0)(ko ex:Bool)(hp:jf s pl=true)(x:EN)(hx:x.1.length+1<=ah):iW (n+1) (.fn 135 [] []) [dP s o 0 1,lV l,.int .i64 o.length,.own 2] [zV x.1,zW x.2,oI ko ex pl] (.cO [dP s o 3 4,.int .i64 (i64.wrap (-1-(x.1.idxOf (l.getD (dV s pl).toNat V0):Nat)))]) (HP pl ko ex (fC x.1 (l.getD (dV s pl).toNat V0),x.2)):=by
 obtain⟨E,N⟩:=x;have hr:=wZ hp h.bI.sz;have CZ:fF (dV s pl) l.length:=⟨hr.1,by rw[h.len];exact hr.2⟩;have t0:((o.length:Int)==(o.length:Int))=true:=by simp
 have hE:E.length+1<=ah:=hx;have l1:=l1P hO s o (E:=E) N (l.getD (dV s pl).toNat V0) pl ko ex (by omega);have hs:=Q7 (l:=E) (d:=V0) (a:=l.getD (dV s pl).toNat V0) (c:=c1P E (l.getD (dV s pl).toNat V0)) (fun _ _=>rfl);have hf:=h.bI;show bZ X0 Qp _ _ _ _ (.cO [_,.int .i64 (i64.wrap (-1-(E.idxOf (l.getD (dV s pl).toNat V0):Nat)))]) (HP pl ko ex (fC E (l.getD (dV s pl).toNat V0),N));by_cases c:l.getD (dV s pl).toNat V0∈E
 .rw[show fC E (l.getD (dV s pl).toNat V0)=E from a0u c];rw[hs.1 c]at l1;generalize E.idxOf (l.getD (dV s pl).toNat V0)=j at l1 ⊢;exact bZ.gs hX (jV hX hO (first:=[]) (cap:=[]) (v:=.cO [dP s o 0 1,.int .i64 (i64.wrap (-1-(j:Nat)))]) (H1:=[zV E,zW N,oI ko ex pl]) (by kernel_rfl) (.b t0 (.o hp (.o hf (.o CZ (.w l1 .er)))))) [.mv 0,.mv 1] rfl
 rw[show fC E (l.getD (dV s pl).toNat V0)=E++[l.getD (dV s pl).toNat V0]from a0q c,a6m c];have hi:=hs.2 c;have hz:z1P s o E (l.getD (dV s pl).toNat V0) [zV E,zW N,oI ko ex pl] (bK (c1P E (l.getD (dV s pl).toNat V0)) E.length)=(.exit 0,w1P s o (l.getD (dV s pl).toNat V0) E.length [(33,xl false)] [zV E,zW N,oI ko ex pl]):=by
  cases e:bK (c1P E (l.getD (dV s pl).toNat V0)) E.length with
  |inl _=>rfl
  |inr _=>rw[e]at hi;cases hi
 rw[hz]at l1;have ew:i64.wrap (-1-(E.length:Nat))=i64.wrap (0-((E++[l.getD (dV s pl).toNat V0]).length:Int)):=by rw[a1o,a3j];congr 1;push_cast;omega
 rw[ew];exact bZ.gs hX (jV hX hO (first:=[]) (cap:=[]) (v:=.cO [dP s o 4 1,.int .i64 (i64.wrap (0-((E++[l.getD (dV s pl).toNat V0]).length:Int)))]) (H1:=[.gone,zW N,oI ko ex pl,.list true true 39 [l.getD (dV s pl).toNat V0],zV (E++[l.getD (dV s pl).toNat V0])]) (by kernel_rfl) (.b t0 (.o hp (.o hf (.o CZ (.w l1 (.o (show E.length+[l.getD (dV s pl).toNat V0].length<=ah by simpa using hE) .er))))))) [.mv 1,.gc [4,5]] rfl
theorem apG{n:Nat}(hO:Ok n Iq){s o:LI0}{l:List V}{a:Nat}{c:Int}(ha:a<o.length)(hc:o.getD a 0=c)(pl:LI0)(ko ex:Bool)(E0:List V)(N0:List Br)(q:Int){ks:LI0}{E:List V}{N:List Br}(hk:1<=ks.length∧ks.length<=12)(hN:N.length+1<=ah)(hb:∀b∈N,b.ay.length<=ah)
  (l2:Ii n 135 1 3 (w2P s o l a c 5 0 [] (HP pl ko ex (E0,N0)++[oI false false []])) (.exit 2) (w2P s o l a c 5 q [(70,xl false)] (HP pl ko ex (E,N)++[oI false false ks]))):iW (n+1) (.fn 135 [] []) [dP s o 0 1,lV l,.int .i64 a,.own 2] [zV E0,zW N0,oI ko ex pl] (.cO [dP s o 3 4,.int .i64 (DT N c ks)]) (HP pl ko ex (E,oZ N c ks)):=by
 have t0:((a:Int)==(o.length:Int))=false:=by simp;omega
 have ia:fF (a:Int) o.length:=aG ha;have hkm:ks.length<=ah:=by unfold ah;omega
 have i0:fF 0 ks.length:=⟨by omega,by omega⟩;unfold DT oZ;subst hc;cases hf:ks.all fun x=>x==ks.getD 0 0
 .rw[a0q (by simp),a0q (by simp)];have Xm:xC ⟨o.getD a 0,ks⟩=false:=by rw[a7L];exact hf
  have l3:=l3P hO s o E (o.getD a 0) ks pl ko ex (by omega) hb;have hs:=Q7 (l:=N) (d:=kW) (a:=⟨o.getD a 0,ks⟩) (c:=c3P N (o.getD a 0) ks) (fun _ h=>afR h);by_cases hm:(⟨o.getD a 0,ks⟩:Br)∈N
  .rw[a0u hm];rw[hs.1 hm]at l3;generalize N.idxOf (⟨o.getD a 0,ks⟩:Br)=j at l3 ⊢;exact bZ.gs hX (jV hX hO (first:=[]) (cap:=[]) (v:=.cO [dP s o 3 4,.int .i64 (j:Nat)]) (H1:=HP pl ko ex (E,N)++[oI false false ks]) (by kernel_rfl) (.b t0 (.o ia (.wG [.mv 0,.mv 1,.QB 2 1 3] l2 (.o hkm (.b Xm (.w l3 .er))))))) [.gc [3,4]] rfl
  .rw[a0q hm,a6m hm];have hi:=hs.2 hm;have hz:z3P s o (o.getD a 0) N (HP pl ko ex (E,N)++[oI false false ks]) (bK (c3P N (o.getD a 0) ks) N.length)=(.exit 4,w3P s o (o.getD a 0) N.length [(106,xl false)] (HP pl ko ex (E,N)++[oI false false ks])):=by
    cases e:bK (c3P N (o.getD a 0) ks) N.length with
    |inl _=>rfl
    |inr _=>rw[e]at hi;cases hi
   rw[hz]at l3;have ew:((N.length:Nat):Int)=i64.wrap (((N++[(⟨o.getD a 0,ks⟩:Br)]).length:Int)-1):=by rw[a1o,a3j,eP (by unfold ah at hN;omega) (by unfold ah at hN;omega)];omega
   rw[ew];exact bZ.gs hX (jV hX hO (first:=[]) (cap:=[]) (v:=.cO [dP s o 3 7,.int .i64 (i64.wrap (((N++[(⟨o.getD a 0,ks⟩:Br)]).length:Int)-1))]) (H1:=[.gone,.gone,oI ko ex pl,zV E,.gone,.gone,.list true true 105 [⟨o.getD a 0,ks⟩],zW (N++[(⟨o.getD a 0,ks⟩:Br)])]) (by kernel_rfl) (.b t0 (.o ia (.wG [.mv 0,.mv 1,.QB 2 1 3] l2 (.o hkm (.b Xm (.w l3 (.o (show N.length+[(⟨o.getD a 0,ks⟩:Br)].length<=ah by simpa using hN) .er)))))))) [.gc [3,7]] rfl
 .rw[a0u rfl,a0u rfl];have Xm:xC ⟨o.getD a 0,ks⟩=true:=by rw[a7L];exact hf
  exact bZ.gs hX (jV hX hO (first:=[]) (cap:=[]) (v:=.cO [dP s o 3 4,.int .i64 (ks.getD 0 0)]) (H1:=HP pl ko ex (E,N)++[oI false false ks]) (by kernel_rfl) (.b t0 (.o ia (.wG [.mv 0,.mv 1,.QB 2 1 3] l2 (.o hkm (.b Xm (.o i0 .er))))))) [.gc [3,4]] rfl
theorem Vh{s:LI0}{l:List V}(hs:mZ s):∀(o p:LI0) (x:EN),(∀c∈o,fF c s.length)->(∀b∈x.2,b.ay.length<=12)->∀b∈(fU s l o p x).2.2,b.ay.length<=12
 | [],p,x,_,hx=>hx
 |c::r,p,x,h,hx=>by
  have:=bU (g:=vX (fU s l r) c p) (m:=(s.getD c.toNat 0).toNat) (k:=0) (s:=([],x)) (fun k y=>y.1.length=k∧∀b∈y.2.2,b.ay.length<=12) ⟨rfl,hx⟩ (fun j y _ _ hy=>⟨by simp[vX,hy.1],Vh hs r _ y.2 (fun c hc=>h c (by simp[hc])) hy.2⟩);rw[a3I]at this;obtain⟨i1,i2⟩:=h c (by simp);have h4:=hs _ (bT (s:=s) (k:=c.toNat) (by omega));simp only[fU];generalize aU (vX (fU s l r) c p) (s.getD c.toNat 0).toNat 0 ([],x)=y at this;intro b hb;unfold oZ at hb;split at hb
  .exact this.2 b hb
  split at hb
  .exact this.2 b hb
  rcases a3c.1 hb with hb|hb
  .exact this.2 b hb
  rw[a2D.1 hb];show y.1.length<=12;omega
theorem sPt{n0:Nat}(hO:∀m,n0<=m->Ok m Iq){s o:LI0}{l:List V}(h:PtP s o l):∀(r:LI0) (a:Nat) (pl:LI0) (ko ex:Bool) (x:EN),o.drop a=r->a<=o.length->jf s pl=true->x.1.length+wO s r<=ah->x.2.length+wO s r<=ah->(∀b∈x.2,b.ay.length<=12)->bZ X0 Qp (iC (n0+r.length+1)) (.fn 135 [] []) [dP s o 0 1,lV l,.int .i64 a,.own 2] [zV x.1,zW x.2,oI ko ex pl] (.cO [dP s o 3 4,.int .i64 (fU s l r pl x).1]) (HP pl ko ex (fU s l r pl x).2)
 | [],a,pl,ko,ex,x,hr,ha,hp,h1,h2,_=>by
  have:a=o.length:=by have:=congrArg List.length hr;rw[a3H,a4O]at this;omega
  subst this;exact apF (hO _ (by omega)) h pl ko ex hp x h1
 |c::r,a,pl,ko,ex,x,hr,ha,hp,h1,h2,hb=>by
  have aQ:a<o.length:=by have:=congrArg List.length hr;rw[a3H,a4q]at this;omega
  have hd:=a6d aQ;rw[hr]at hd;obtain⟨hc,vC⟩:=ahg hd;have EL:c∈o:=by rw[hc];exact a4D aQ
  have nP:=h.ord c EL;have YE:∀c'∈r,fF c' s.length:=fun c' Qu=>h.ord c' (by rw[vC]at Qu;exact a4X Qu);have hcg:o.getD a 0=c:=by rw[hc];simp[List.getD,a0n aQ]
  have ho6:i64.wrap ((a:Int)+1)=((a+1:Nat):Int):=by have:=h.a7K;unfold ah at this;rw[eP (by omega) (by omega)];omega
  have hz:=h.bI.sz _ (bT (s:=s) (k:=c.toNat) (by have:=nP.1;have:=nP.2;omega));have hl:=fun q (x:EN)=>Vg (l:=l) h.bI.sz r q x YE;have hp1:=Q5 h.bI.sz YE;simp only[wO]at h1 h2;have hpm:pl.length<=ah:=by rw[qh hp];exact h.slen
  obtain⟨f1,f2,f3⟩:=a1Y (f:=fU s l r) (c:=c) (p:=pl) (n:=(s.getD c.toNat 0).toNat) hl x;have adt:=bU (g:=vX (fU s l r) c pl) (m:=(s.getD c.toNat 0).toNat) (k:=0) (s:=([],x)) (fun k y=>∀b∈y.2.2,b.ay.length<=12) hb (fun j y _ _ hy=>Vh h.bI.sz r _ y.2 YE hy);have hfx:∀(M:Nat),n0+r.length+1=M->∀q (y:EN),jf s q=true->y.1.length+wO s r<=ah->y.2.length+wO s r<=ah->(∀b∈y.2,b.ay.length<=12)->bZ X0 Qp (iC M) (.fn 135 [] []) [dP s o 0 1,lV l,.int .i64 (i64.wrap ((a:Int)+1)),.own 2] [zV y.1,zW y.2,oI true false q] (.cO [dP s o 3 4,.int .i64 (fU s l r q y).1]) (HP q true false (fU s l r q y).2):=by rintro M rfl q y hq y1 y2 y3;rw[ho6];exact sPt hO h r (a+1) q true false y vC.symm aQ hq y1 y2 y3
  have l2:=l2P (hO (n0+(r.length+1)) (by omega)) (s:=s) (o:=o) (l:=l) (a:=a) (c:=c) (pl:=pl) (ko:=ko) (ex:=ex) (f:=fU s l r) (w:=wO s r) h.bI.sz nP hp hpm x hl ⟨h1,h2⟩ (fun y=>∀b∈y.2,b.ay.length<=12) hb (fun q y hy=>Vh h.bI.sz r q y YE hy) (hfx _ (by omega));simp only[fU];generalize aU (vX (fU s l r) c pl) (s.getD c.toNat 0).toNat 0 ([],x)=y at l2 f1 f2 f3 adt;obtain⟨ks,E,N⟩:=y;have f1:ks.length=(s.getD c.toNat 0).toNat:=f1;have f3:N.length+(s.getD c.toNat 0).toNat<=x.2.length+(s.getD c.toNat 0).toNat*wO s r:=f3;exact apG (hO (n0+(r.length+1)) (by omega)) aQ hcg pl ko ex x.1 x.2 _ ⟨by omega,by omega⟩ (by omega) (fun b hb=>by have:=adt b hb;unfold ah;omega) l2
open Go Tw Pv dB
def jD(s o:LI0)(l:List V):Dg:=⟨s,o,(fU s l o (List.replicate s.length 0) ([],[])).2.1,(fU s l o (List.replicate s.length 0) ([],[])).2.2,(fU s l o (List.replicate s.length 0) ([],[])).1⟩
theorem Ir:∀{s:LI0},mZ s->jf s (List.replicate s.length 0)=true
 | [],_=>rfl
 |a::s,h=>by have:=h a (a2M ..);simp only[a4q,ae3,jf,a2f,a1n];exact⟨⟨a9d _,by omega⟩,Ir h.tail⟩
theorem apH{n0:Nat}(hO:∀m,n0<=m->Ok m Iq){s o:LI0}{l:List V}(h:PtP s o l)(hw:wO s o<=ah){k1 e1 k2 e2:Bool}:bZ X0 Qp (iC (n0+o.length+1)) (.fn 135 [] []) [.agg [.own 0,.own 1,.nil .aP,.nil .aP,.int .i64 0],lV l,.int .i64 0,.own 2] [oI k1 e1 s,oI k2 e2 o,oI true true (List.replicate s.length 0)] (.cO [dP s o 5 6,.int .i64 (fU s l o (List.replicate s.length 0) ([],[])).1]) [.gone,.gone,oI true true (List.replicate s.length 0),.gone,.gone,zV (jD s o l).aK,zW (jD s o l).au]:=by have hb:=sPt hO h o 0 (List.replicate s.length 0) true true ([],[]) rfl (a4G _) (Ir h.bI.sz) (by simpa using hw) (by simpa using hw) (by simp);unfold jD;generalize fU s l o (List.replicate s.length 0) ([],[])=z at hb ⊢;obtain⟨q,E,N⟩:=z;have h1:=bZ.frame hX (ks:=[3,4,2]) (H':=[.gone,.gone,oI true true (List.replicate s.length 0),zV [],zW []]) (Hp:=[zV [],zW [],oI true true (List.replicate s.length 0)]) (Qo:=[.gone,.gone,oI true true (List.replicate s.length 0),zV E,zW N]) (v':=.cO [dP s o 5 6,.int .i64 q]) (fv':=.fn 135 [] []) (xs':=[.agg ([lI s,lI o]++[.own 3,.own 4,.int .i64 0]),lV l,.int .i64 0,.own 2]) hb (by decide) rfl rfl rfl rfl rfl rfl rfl;have h2:=bZ.pre hX (H:=[.gone,.gone,oI true true (List.replicate s.length 0)]) (cs:=[lI s,lI o]++[.nil .aP,.nil .aP,.int .i64 0]) [.QB 0 2 39,.QB 0 3 105] h1 rfl;exact bZ.fz hX (H:=[oI k1 e1 s,oI k2 e2 o,oI true true (List.replicate s.length 0)]) (cs:=[.own 0,.own 1]) [0,1] h2 rfl (fun i hi=>by simpa[kG.ku,kG]using hi)
def akw:fB aC:=cu 85 (a3 oh oh vsA) dA (fun p=>jD p.1 p.2.1 p.2.2) (fun p=>[PtP p.1 p.2.1 p.2.2,p.2.1.length<=6,wO p.1 p.2.1<=ah]) Iq
theorem apI:Gd akw:=akv.deep 7 fun n hn hO p hp=>by
 obtain⟨s,o,l⟩:=p;have h:PtP s o l:=hp _ iD;have h6:o.length<=6:=hp _ xM;have hw:wO s o<=ah:=hp _ hh2;have hs:=apH (n0:=n-(o.length+1)) (fun m hm=>hO m (by omega)) h hw (k1:=true) (e1:=false) (k2:=true) (e2:=false);rw[show n-(o.length+1)+o.length+1=n by omega]at hs;have hsl:=h.slen;have LQ:=h.a7K;show pO _ _ _ _ _ (dA.put (jD s o l)) _;have e:jD s o l=⟨s,o,(jD s o l).aK,(jD s o l).au,(jD s o l).root⟩:=rfl;have er:(fU s l o (List.replicate s.length 0) ([],[])).1=(jD s o l).root:=rfl;rw[er]at hs;generalize jD s o l=d at hs e;obtain⟨s',o',E,N,q⟩:=d;injection e with e1 e2;subst e1 e2;have i1:(s'.length:Int)=s'.length:=rfl;have i2:(0:Int)<=s'.length:=by omega
 have i3:(s'.length:Int)<=(ah:Int):=by omega
 exact aO (hO n (by omega)) (.o hsl (.o LQ (.o i1 (.o i2 (.o i3 (.fr [0,1,2] hs .rr))))))
open Go Tw Pv dB
theorem a7M{a b:LI0}(ha:a.length<=12)(he:a.length=b.length)(h:Ij a=Ij b):a=b:=by
 have e:∀l:LI0,l.length<=12->(Ij l).take l.length=l:=fun l hl=>by unfold Ij;rw[aeT,a88 hl,List.take_left]
 rw[<-e a ha,<-e b (by omega),h,he]
def NOk(s:LI0)(N:List Br):Prop:=∀b∈N,fF b.var s.length∧(b.ay.length:Int)=s.getD b.var.toNat 0
theorem a7N{s:LI0}(hs:mZ s){N:List Br}(h:NOk s N){c:Int}{ks:LI0}(hc:fF c s.length)(hk:(ks.length:Int)=s.getD c.toNat 0){b:Br}(hb:b∈N):CB b=ug c ks↔b=⟨c,ks⟩:=by
 constructor
 .intro e;obtain⟨v,l⟩:=b;have e1:v=c:=congrArg Prod.fst e;subst e1;have e2:Ij l=Ij ks:=congrArg (fun x:Ky=>x.2.1) e;have hl:=(h _ hb).2;have hl:(l.length:Int)=s.getD v.toNat 0:=hl;have hz:=hs _ (bT (s:=s) (k:=v.toNat) (by have:=hc.1;have:=hc.2;omega));rw[a7M (by omega) (by omega) e2]
 rintro rfl;rfl
theorem Y1{s:LI0}(hs:mZ s){N:List Br}(h:NOk s N){c:Int}{ks:LI0}(hc:fF c s.length)(hk:(ks.length:Int)=s.getD c.toNat 0):eH N c ks=DT N c ks∧dG N c ks=oZ N c ks:=by
 have hm:ug c ks∈N.map CB↔(⟨c,ks⟩:Br)∈N:=by
  rw[a1k];constructor
  .rintro⟨b,hb,e⟩;rw[(a7N hs h hc hk hb).1 e]at hb;exact hb
  intro hb;exact⟨_,hb,rfl⟩
 have hi:(N.map CB).idxOf (ug c ks)=N.idxOf (⟨c,ks⟩:Br):=by
  clear hm
  induction N with
  |nil=>rfl
  |cons b N ih=>
   have e:=a7N hs h hc hk (b:=b) (by simp);rw[a4t,adF,adF,ih fun b hb=>h b (by simp[hb])];have:(CB b==ug c ks)=(b==(⟨c,ks⟩:Br)):=by rw[a4J,a6P,a6P];exact e
   rw[this]
 unfold eH DT dG oZ;rw[hi];refine⟨rfl,?_⟩;split
 .rfl
 by_cases g:ug c ks∈N.map CB
 .rw[a0u g,a0u (hm.1 g)]
 rw[a0q g,a0q fun x=>g (hm.2 x)]
open Go Tw Pv dB
theorem aaQ{s:LI0}{a b:LI0}(h:a.Perm b):wO s a=wO s b:=by
 induction h with
 |nil=>rfl
 |cons x _ ih=>simp only[wO,ih]
 |swap x y l=>simp only[wO];rw[<-Nat.mul_assoc,<-Nat.mul_assoc,Nat.mul_comm (s.getD y.toNat 0).toNat]
 |trans _ _ i1 i2=>rw[i1,i2]
theorem Y2{s:LI0}(hs:mZ s):∀(m k:Nat),k+m=s.length->(wO s ((List.range' k m).map fun(j:Nat)=>(j:Int)):Int)=bg (s.drop k)
 | 0,k,h=>by rw[ag8 (by omega)];rfl
 |m+1,k,h=>by
  have hk:k<s.length:=by omega
  have hz:=hs _ (bT (s:=s) (k:=k) hk);rw[List.range'_succ,a4t,wO,OY hk,ae7,Y2 hs m (k+1) (by omega),a4T,ah6 (by omega)]
theorem DU{s o:LI0}(hs:mZ s)(h:iG s.length o=true):(wO s o:Int)=bg s:=by have h':=h;unfold iG at h';rw[a1n]at h';have hi:=Tf s.length;have wF:=hi;unfold iG at wF;rw[a1n]at wF;have hp:o.Perm (dO s.length):=(a7H h'.2.2 wF.2.2).2 fun a=>⟨fun ha=>kE hi (h'.2.1 a ha),fun ha=>kE h (wF.2.1 a ha)⟩;rw[aaQ hp];have:=Y2 hs s.length 0 (by omega);rw[<-List.range_eq_range']at this;exact this
open Go Tw Pv dB
inductive To(d:Dg)(q:LI0):Int->V->Prop
 |fin {r:Int} (h:r<0):To d q r (d.aK.getD (ji r).toNat V0)
 |step {r:Int} {c:V} (h:0<=r) (t:To d q ((aj d r).ay.getD (q.getD (aj d r).var.toNat 0).toNat 0) c):To d q r c
theorem To.at_{d:Dg}(h:Ce d){q:LI0}(hq:jf d.aA q=true){r:Int}{c:V}(t:To d q r c):∀F:Nat,r<F->jC d r d.au.length->c=d.aK.getD (ji (PK d q F r)).toNat V0:=by
 induction t with
 |fin hr=>
  intro F _ _;cases F with
  |zero=>rfl
  |succ F=>rw[PK,a0u hr]
 |step hr _ ih=>
  intro F hF hk;cases F with
  |zero=>omega
  |succ F=>
   rw[PK,a0q (by omega)];have:=(PL h hq ⟨hr,hk.1⟩).2.2;exact ih F (by have:=this.1;omega) ⟨by have:=this.1;have:=hk.1;omega,this.2⟩
theorem To.of{d:Dg}(h:Ce d){q:LI0}(hq:jf d.aA q=true):∀(F:Nat) (r:Int),r<F->jC d r d.au.length->To d q r (d.aK.getD (ji (PK d q F r)).toNat V0)
 | 0,r,hr,_=>.fin (by omega)
 |F+1,r,hr,hk=>by
  rw[PK];split
  .rename_i c;exact .fin c
  rename_i c;have:=(PL h hq ⟨by omega,hk.1⟩).2.2;exact .step (by omega) (To.of h hq F _ (by have:=this.1;omega) ⟨by have:=this.1;have:=hk.1;omega,this.2⟩)
theorem To.det{d:Dg}{q:LI0}{r:Int}{a b:V}(h:To d q r a):To d q r b->a=b:=by
 induction h with
 |fin hr=>intro g;cases g with
  |fin _=>rfl
  |step h _=>omega
 |step hr _ ih=>intro g;cases g with
  |fin h=>omega
  |step _ t=>exact ih t
theorem Bf(E:List V)(v:V):E <+: fC E v:=by
 unfold fC;split
 .exact a4K
 exact a90 _ _
theorem Iu(N:List Br)(c:Int)(ks:LI0):N <+: oZ N c ks:=by
 unfold oZ;split
 .exact a4K
 split
 .exact a4K
 exact a90 _ _
def Q8(x y:EN):Prop:=x.1 <+: y.1∧x.2 <+: y.2
theorem Q8.rfl{x:EN}:Q8 x x:=⟨a4K,a4K⟩
theorem Q8.trans{x y z:EN}(a:Q8 x y)(b:Q8 y z):Q8 x z:=⟨a.1.trans b.1,a.2.trans b.2⟩
theorem Q9{s:LI0}{l:List V}:∀(r p:LI0) (x:EN),Q8 x (fU s l r p x).2
 | [],p,x=>⟨Bf _ _,a4K⟩
 |c::r,p,x=>by have:=bU (g:=vX (fU s l r) c p) (m:=(s.getD c.toNat 0).toNat) (k:=0) (s:=([],x)) (fun _ y=>Q8 x y.2) Q8.rfl (fun j y _ _ hy=>hy.trans (Q9 r _ y.2));exact⟨this.1,this.2.trans (Iu _ _ _)⟩
theorem zX{α:Type}{a b:List α}{d:α}(h:a <+: b){k:Nat}(hk:k<a.length):b.getD k d=a.getD k d:=by obtain⟨t,rfl⟩:=h;simp[List.getD,a0p hk]
theorem DV{k:Nat}(hk:k<2^61):i64.wrap (-1-(k:Int))=-1-(k:Int)∧ji (-1-(k:Int))=(k:Int):=by refine⟨eP (by omega) (by omega),?_⟩;unfold ji;rw[eP (by omega) (by omega)];omega
theorem TD(E:List V)(v:V):E.idxOf v<(fC E v).length∧(fC E v).getD (E.idxOf v) V0=v:=by
 unfold fC;split
 .rename_i h;have:=a4H.2 h;exact⟨this,by simp[List.getD,a0n this]⟩
 rename_i h;rw[a6m h];exact⟨by simp,by simp[List.getD]⟩
theorem Vj{N:List Br}{c:Int}{ks:LI0}(hf:¬(ks.all fun x=>x==ks.getD 0 0)=true):N.idxOf (⟨c,ks⟩:Br)<(oZ N c ks).length∧(oZ N c ks).getD (N.idxOf (⟨c,ks⟩:Br)) kW=⟨c,ks⟩:=by
 unfold oZ;rw[a0q hf];split
 .rename_i h;have:=a4H.2 h;exact⟨this,by simp[List.getD,a0n this]⟩
 rename_i h;rw[a6m h];exact⟨by simp,by simp[List.getD]⟩
def Agr(s r q p:LI0):Prop:=∀k:Nat,k<s.length->(k:Int)∉r->q.getD k 0=p.getD k 0
theorem Agr.set{s r q p:LI0}{c:Int}(hc:fF c s.length)(hp:p.length=s.length)(h:Agr s (c::r) q p):Agr s r q (p.set c.toNat (q.getD c.toNat 0)):=fun k hk hr=>by
 by_cases e:k=c.toNat
 .subst e;have e2:(p.set c.toNat (q.getD c.toNat 0)).getD c.toNat 0=q.getD c.toNat 0:=by simp[List.getD,a1E (show c.toNat<p.length by omega)]
  exact e2.symm
 .rw[show(p.set c.toNat (q.getD c.toNat 0)).getD k 0=p.getD k 0 by rw[List.getD,a1l (Ne.symm e)];rfl];exact h k hk (by simp only[a1F,adE];exact⟨fun e2=>e (by omega),hr⟩)
theorem Agr.back{s r q p:LI0}{c j:Int}(hc:fF c s.length)(h:Agr s r q (p.set c.toNat j)):Agr s (c::r) q p:=fun k hk hr=>by simp only[a1F,adE]at hr;have hc:=hc.1;have e:k≠c.toNat:=fun e=>hr.1 (by omega);have:=h k hk hr.2;rw[this,List.getD,a1l (Ne.symm e)];rfl
theorem afS{s q p:LI0}(hq:q.length=s.length)(hp:p.length=s.length)(h:Agr s [] q p):q=p:=(rO (d:=(0:Int)) (by omega)).2 fun k hk=>h k (by omega) (by simp)
theorem a3S{ks:LI0}(h:(ks.all fun x=>x==ks.getD 0 0)=true){j:Nat}(hj:j<ks.length):ks.getD j 0=ks.getD 0 0:=by rw[a4I]at h;have:=h (ks.getD j 0) (bT hj);simpa using this
theorem adv{s:LI0}{l:List V}(hs:mZ s):∀(r p:LI0) (x:EN),(∀c∈r,fF c s.length)->p.length=s.length->∀d:Dg,d.aK.length<2^61->(fU s l r p x).2.1 <+: d.aK->(fU s l r p x).2.2 <+: d.au->∀q,jf s q=true->Agr s r q p->To d q (fU s l r p x).1 (l.getD (dV s q).toNat V0)
 | [],p,x,_,hp,d,hd,h1,_,q,hq,ha=>by
  have e:=afS (qh hq) hp ha;subst e;obtain⟨g1,g2⟩:=TD x.1 (l.getD (dV s q).toNat V0);have h1:fC x.1 (l.getD (dV s q).toNat V0) <+: d.aK:=h1;have aQ:x.1.idxOf (l.getD (dV s q).toNat V0)<2^61:=by have:=h1.length_le;omega
  obtain⟨e1,e2⟩:=DV aQ;show To d q (i64.wrap (-1-(x.1.idxOf (l.getD (dV s q).toNat V0):Nat))) _;rw[e1];have:=To.fin (d:=d) (q:=q) (r:=-1-((x.1.idxOf (l.getD (dV s q).toNat V0):Nat):Int)) (by omega);rw[e2,a4T,zX h1 g1,g2]at this;exact this
 |c::r,p,x,hr,hp,d,hd,h1,h2,q,hq,ha=>by
  have hc:=hr c (by simp);have YE:∀c'∈r,fF c' s.length:=fun c' h=>hr c' (by simp[h]);have Yx:=(ny.1 hq).2 c.toNat (by have:=hc.1;have:=hc.2;omega);have inv:=bU (g:=vX (fU s l r) c p) (m:=(s.getD c.toNat 0).toNat) (k:=0) (s:=([],x)) (fun k y=>y.1.length=k∧∀j:Nat,j<k->y.2.1 <+: d.aK->y.2.2 <+: d.au->∀q,jf s q=true->Agr s r q (p.set c.toNat j)->To d q (y.1.getD j 0) (l.getD (dV s q).toNat V0)) ⟨rfl,fun j hj=>by omega⟩ (fun j y _ hj hy=>by
   obtain⟨y1,y2⟩:=hy;refine⟨by simp[vX,y1],fun j' E5 g1 g2 q hq ha=>?_⟩;have EI:=Q9 (s:=s) (l:=l) r (p.set c.toNat j) y.2;by_cases e:j'<j
   .have:(vX (fU s l r) c p j y).1.getD j' 0=y.1.getD j' 0:=by show(y.1++_).getD j' 0=_;simp[List.getD,a0p (show j'<y.1.length by omega)]
    rw[this];exact y2 j' e (EI.1.trans g1) (EI.2.trans g2) q hq ha
   have e:j'=j:=(by omega);subst e;have:(vX (fU s l r) c p j' y).1.getD j' 0=(fU s l r (p.set c.toNat j') y.2).1:=by show(y.1++[_]).getD j' 0=_;simp[List.getD,<-y1]
   rw[this];exact adv hs r _ y.2 YE (by simp[hp]) d hd g1 g2 q hq ha)
  rw[a3I]at inv;simp only[fU]at h1 h2 ⊢;generalize aU (vX (fU s l r) c p) (s.getD c.toNat 0).toNat 0 ([],x)=y at inv h1 h2;obtain⟨ks,E,N⟩:=y;obtain⟨hlen,inv⟩:=inv;have hlen:ks.length=(s.getD c.toNat 0).toNat:=hlen;have h2:oZ N c ks <+: d.au:=h2;have hj:(q.getD c.toNat 0).toNat<(s.getD c.toNat 0).toNat:=by omega
  have YL:((q.getD c.toNat 0).toNat:Int)=q.getD c.toNat 0:=by omega
  have t:=inv (q.getD c.toNat 0).toNat hj h1 ((Iu N c ks).trans h2) q hq (by rw[YL];exact Agr.set hc hp ha);have t:To d q (ks.getD (q.getD c.toNat 0).toNat 0) (l.getD (dV s q).toNat V0):=t;show To d q (DT N c ks) _;by_cases hf:(ks.all fun x=>x==ks.getD 0 0)=true
  .rw[show DT N c ks=ks.getD 0 0 from a0u hf];rw[a3S hf (by omega)]at t;exact t
  rw[show DT N c ks=(N.idxOf (⟨c,ks⟩:Br):Nat)from a0q hf];obtain⟨g1,g2⟩:=Vj (N:=N) (c:=c) hf;have en:aj d ((N.idxOf (⟨c,ks⟩:Br):Nat):Int)=⟨c,ks⟩:=by unfold aj;rw[a4T,zX h2 g1,g2]
  refine .step (by omega) ?_;rw[en];exact t
open Go Tw Pv dB
def Ey(o:LI0)(N:List Br)(r:Int):Nat:=if r<0 then o.length else o.idxOf (N.getD r.toNat kW).var
def Bg(o:LI0)(x:EN)(v:Int)(b a:Nat):Prop:=(v<0->fF (ji v) x.1.length)∧v<(b:Int)∧a<=Ey o x.2 v
structure PtV(s o:LI0)(x:EN):Prop where
 var:∀i,i<x.2.length->fF (x.2.getD i kW).var s.length
 ksz:∀i,i<x.2.length->((x.2.getD i kW).ay.length:Int)=s.getD (x.2.getD i kW).var.toNat 0
 zS:∀i,i<x.2.length->∀k,k<(x.2.getD i kW).ay.length->Bg o x ((x.2.getD i kW).ay.getD k 0) i (o.idxOf (x.2.getD i kW).var+1)
theorem Bg.mono{o:LI0}{x y:EN}{v:Int}{b b' a a':Nat}(h:Bg o x v b a)(hp:Q8 x y)(hb:b<=b')(hx:b<=x.2.length)(ha:a'<=a):Bg o y v b' a':=by
 obtain⟨h1,h2,h3⟩:=h;refine⟨fun hv=>⟨(h1 hv).1,by have:=(h1 hv).2;have:=hp.1.length_le;omega⟩,by omega,?_⟩;unfold Ey at h3 ⊢;split
 .rename_i c;rw[a0u c]at h3;omega
 rename_i c;rw[a0q c]at h3;rw[zX hp.2 (by omega)];omega
theorem a7O{s o:LI0}{l:List V}(hs:mZ s)(ho:∀c∈o,fF c s.length)(hn:o.Nodup):∀(r:LI0) (a:Nat) (p:LI0) (x:EN),o.drop a=r->a<=o.length->PtV s o x->(fU s l r p x).2.1.length<2^61->PtV s o (fU s l r p x).2∧Bg o (fU s l r p x).2 (fU s l r p x).1 (fU s l r p x).2.2.length a
 | [],a,p,x,hr,ha,hx,hE=>by
  have:a=o.length:=by have:=congrArg List.length hr;rw[a3H,a4O]at this;omega
  subst this;obtain⟨g1,g2⟩:=TD x.1 (l.getD (dV s p).toNat V0);have hE:(fC x.1 (l.getD (dV s p).toNat V0)).length<2^61:=hE;obtain⟨e1,e2⟩:=DV (k:=x.1.idxOf (l.getD (dV s p).toNat V0)) (by omega);have hp:Q8 x (fC x.1 (l.getD (dV s p).toNat V0),x.2):=⟨Bf _ _,a4K⟩;refine⟨⟨hx.var,hx.ksz,fun i hi k hk=>(hx.zS i hi k hk).mono hp (a0E _) (a9I hi) (a0E _)⟩,?_⟩;show Bg o _ (i64.wrap (-1-(x.1.idxOf (l.getD (dV s p).toNat V0):Nat))) _ _;rw[e1];refine⟨fun _=>by rw[e2];exact⟨by omega,by show _<((fC x.1 (l.getD (dV s p).toNat V0)).length:Int);omega⟩,by omega,?_⟩;unfold Ey;rw[a0u (by omega)];exact a0E _
 |c::r,a,p,x,hr,ha,hx,hE=>by
  have aQ:a<o.length:=by have:=congrArg List.length hr;rw[a3H,a4q]at this;omega
  have hd:=a6d aQ;rw[hr]at hd;obtain⟨hc,vC⟩:=ahg hd;have EL:c∈o:=by rw[hc];exact a4D aQ
  have nP:=ho c EL;have hia:o.idxOf c=a:=by rw[hc];exact hn.idxOf_getElem a aQ
  have hz:=hs _ (bT (s:=s) (k:=c.toNat) (by have:=nP.1;have:=nP.2;omega));have mono:=fun(n:Nat) (m:Nat) (y:LI0×EN)=>(bU (g:=vX (fU s l r) c p) (m:=m) (k:=n) (s:=y) (fun _ z=>Q8 y.2 z.2) Q8.rfl (fun j z _ _ hz=>hz.trans (Q9 r _ z.2)));have hEf:(aU (vX (fU s l r) c p) (s.getD c.toNat 0).toNat 0 ([],x)).2.1.length<2^61:=hE;have inv:=bU (g:=vX (fU s l r) c p) (m:=(s.getD c.toNat 0).toNat) (k:=0) (s:=([],x)) (fun k y=>y.1.length=k∧(y.2.1.length<2^61->PtV s o y.2∧∀j:Nat,j<k->Bg o y.2 (y.1.getD j 0) y.2.2.length (a+1))) ⟨rfl,fun _=>⟨hx,fun j hj=>by omega⟩⟩ (fun j y _ hj hy=>by
   obtain⟨y1,y2⟩:=hy;refine⟨by simp[vX,y1],fun hE=>?_⟩;have EI:=Q9 (s:=s) (l:=l) r (p.set c.toNat j) y.2;have hE:(fU s l r (p.set c.toNat j) y.2).2.1.length<2^61:=hE;obtain⟨v1,v2⟩:=y2 (by have:=EI.1.length_le;omega);obtain⟨w1,w2⟩:=a7O hs ho hn r (a+1) (p.set c.toNat j) y.2 vC.symm aQ v1 hE;refine⟨w1,fun j' E5=>?_⟩;by_cases e:j'<j
   .have:(vX (fU s l r) c p j y).1.getD j' 0=y.1.getD j' 0:=by show(y.1++_).getD j' 0=_;simp[List.getD,a0p (show j'<y.1.length by omega)]
    rw[this];exact(v2 j' e).mono EI EI.2.length_le (a0E _) (a0E _)
   have e:j'=j:=(by omega);subst e;have:(vX (fU s l r) c p j' y).1.getD j' 0=(fU s l r (p.set c.toNat j') y.2).1:=by show(y.1++[_]).getD j' 0=_;simp[List.getD,<-y1]
   rw[this];exact w2)
  rw[a3I]at inv;simp only[fU];generalize aU (vX (fU s l r) c p) (s.getD c.toNat 0).toNat 0 ([],x)=y at inv hEf;obtain⟨ks,E,N⟩:=y;obtain⟨hlen,inv⟩:=inv;obtain⟨i1,i2⟩:=inv hEf;have hlen:ks.length=(s.getD c.toNat 0).toNat:=hlen;have i2:∀j:Nat,j<(s.getD c.toNat 0).toNat->Bg o (E,N) (ks.getD j 0) N.length (a+1):=i2;have EI:Q8 (E,N) (E,oZ N c ks):=⟨a4K,Iu N c ks⟩;show PtV s o (E,oZ N c ks)∧Bg o (E,oZ N c ks) (DT N c ks) (oZ N c ks).length a;by_cases hf:(ks.all fun x=>x==ks.getD 0 0)=true
  .rw[show DT N c ks=ks.getD 0 0 from a0u hf,show oZ N c ks=N from a0u hf];exact⟨i1,(i2 0 (by omega)).mono Q8.rfl (a0E _) (a0E _) (by omega)⟩
  obtain⟨g1,g2⟩:=Vj (N:=N) (c:=c) hf;rw[show DT N c ks=(N.idxOf (⟨c,ks⟩:Br):Nat)from a0q hf];have KX:a<=Ey o (oZ N c ks) ((N.idxOf (⟨c,ks⟩:Br):Nat):Int):=by unfold Ey;rw[a0q (by omega),a4T,g2];show a<=o.idxOf c;omega
  refine⟨?_,⟨fun h=>by omega,by omega,KX⟩⟩;by_cases hm:(⟨c,ks⟩:Br)∈N
  .rw[show oZ N c ks=N by unfold oZ;rw[a0q hf,a0u hm]];exact i1
  have eN:oZ N c ks=N++[⟨c,ks⟩]:=by unfold oZ;rw[a0q hf,a0q hm]
  rw[eN]at EI ⊢;have hold:∀i,i<N.length->(N++[(⟨c,ks⟩:Br)]).getD i kW=N.getD i kW:=fun i hi=>zX (a90 _ _) hi;have gy:(N++[(⟨c,ks⟩:Br)]).getD N.length kW=⟨c,ks⟩:=by simp[List.getD]
  have vw:∀i,i<(N++[(⟨c,ks⟩:Br)]).length->i<N.length∨i=N.length:=fun i hi=>by rw[a1o,a3j]at hi;omega
  refine⟨fun i hi=>?_,fun i hi=>?_,fun i hi k hk=>?_⟩
  .show fF ((N++[(⟨c,ks⟩:Br)]).getD i kW).var s.length;rcases vw i hi with h|rfl
   .rw[hold i h];exact i1.var i h
   rw[gy];exact nP
  .show(((N++[(⟨c,ks⟩:Br)]).getD i kW).ay.length:Int)=s.getD ((N++[(⟨c,ks⟩:Br)]).getD i kW).var.toNat 0;rcases vw i hi with h|rfl
   .rw[hold i h];exact i1.ksz i h
   rw[gy];show(ks.length:Int)=s.getD c.toNat 0;omega
  have hk:k<((N++[(⟨c,ks⟩:Br)]).getD i kW).ay.length:=hk;show Bg o (E,N++[(⟨c,ks⟩:Br)]) (((N++[(⟨c,ks⟩:Br)]).getD i kW).ay.getD k 0) i (o.idxOf ((N++[(⟨c,ks⟩:Br)]).getD i kW).var+1);rcases vw i hi with h|rfl
  .rw[hold i h]at hk ⊢;exact(i1.zS i h k hk).mono EI (a0E _) (a9I h) (a0E _)
  rw[gy]at hk ⊢;have hk:k<ks.length:=hk;exact(i2 k (by omega)).mono EI (a0E _) (a0E _) (by show o.idxOf c+1<=a+1;omega)
open Go Tw Pv dB
theorem Nc(d:Dg)(v:Int):uf d v=(Ey d.aH d.au v:Int):=by
 unfold uf Ey;by_cases c:v<0
 .rw[a0u (by simpa using c),a0u c]
 rw[a0q (by simpa using c),a0q c];have hs:=Q7 (l:=d.aH) (d:=0) (a:=(aj d v).var) (c:=PD d v) (fun k _=>by unfold PD;rw[a4J];simp);by_cases hm:(aj d v).var∈d.aH
 .rw[hs.1 hm];rfl
 rw[a0u (hs.2 hm),a6m hm]
theorem Ez{d:Dg}(hm:d.aK.length<=ah)(hf:(aV d.aA d.aH != 0)=false)(hv:∀v∈d.aK,YC v=true)(hn:d.au.length<=6000)(hp:PtV d.aA d.aH (d.aK,d.au))(hr:Bg d.aH (d.aK,d.au) d.root d.au.length 0):aZ d=0:=by
 obtain⟨bI,Qa⟩:=iM.1 (show aV d.aA d.aH=0 by simpa using hf);have akx:∀(v:Int) (b a:Nat),Bg d.aH (d.aK,d.au) v b a->iR d v b=true:=fun v b a h=>by
  unfold iR;split
  .simpa using h.2.1
  rename_i c;have c:v<0:=by simpa using c
  have:=h.1 c;have e:i64.wrap ((d.aK.length:Int)-1)=(d.aK.length:Int)-1:=by unfold ah at hm;rw[eP (by omega) (by omega)]
  rw[uw,e];have h2:=this.2;have h2:ji v<(d.aK.length:Int):=h2;exact⟨this.1,by show ji v<=_;omega⟩
 have hl:lX d=true:=by
  unfold lX;rw[a0u (eG.2 fun j hj=>by rw[cLe,hv _ (by simp[List.getD,a0n hj])];rfl),a0u (eG.2 fun i hi=>?_)]
  .exact akx _ _ _ hr
  have h1:=hp.var i hi;have h2:=hp.ksz i hi;have h3:=hp.zS i hi;have h1:fF (fE d i).var d.aA.length:=h1;have h2:((fE d i).ay.length:Int)=d.aA.getD (fE d i).var.toNat 0:=h2;have e:xw d.aA=(d.aA.length:Int)-1:=by have:=bI.len;unfold xw;rw[eP (by omega) (by omega)]
  unfold ZX;rw[a0q,a0q (by rw[h2];simp),a0u]
  .refine eG.2 fun k hk=>?_;have h4:=h3 k hk;unfold cLk;rw[a0q (by rw[akx _ _ _ h4];simp),a2K,Nc,Nc];have h5:=h4.2.2;have e6:Ey d.aH d.au ((i:Nat):Int)=d.aH.idxOf (fE d i).var:=by unfold Ey;rw[a0q (by omega),a4T]
   rw[e6];have h5:d.aH.idxOf (fE d i).var+1<=Ey d.aH d.au ((d.au.getD i kW).ay.getD k 0):=h5;omega
  have:jq (fE d i).var 0 (xw d.aA)=true:=by rw[uw,e];have:=h1.1;have:=h1.2;exact⟨by omega,by omega⟩
  rw[this];simp
 unfold aZ;rw[a0q (by rw[hf];simp),a0q (by rw[a1n];omega),a0q (by rw[hl];simp)]
structure OfP(s o:LI0)(l:List V):Prop where
 bI:ng s
 ord:iG s.length o=true
 len:(l.length:Int)=bg s
theorem OfP.p{s o:LI0}{l:List V}(h:OfP s o l):PtP s o l∧o.Nodup∧o.length=s.length:=by have ho:=h.ord;unfold iG at ho;rw[a1n]at ho;have:=h.bI.len;exact⟨⟨h.bI,fun c hc=>⟨(ho.2.1 c hc).1,(ho.2.1 c hc).2⟩,h.len,by unfold ah;omega,by unfold ah;omega⟩,ho.2.2,ho.1⟩
theorem Y3{s:LI0}{l:List V}:∀(r p:LI0) (x:EN),(∀q,l.getD (dV s q).toNat V0∈l∨True)->(∀q,jf s q=true->l.getD (dV s q).toNat V0∈l)->jf s p=true->(∀c∈r,fF c s.length)->mZ s->(∀v∈x.1,v∈l)->∀v∈(fU s l r p x).2.1,v∈l
 | [],p,x,_,h,hp,_,_,hx,v,hv=>by
  have hv:v∈fC x.1 (l.getD (dV s p).toNat V0):=hv;unfold fC at hv;split at hv
  .exact hx v hv
  rcases a3c.1 hv with hv|hv
  .exact hx v hv
  rw[a2D.1 hv];exact h p hp
 |c::r,p,x,h0,h,hp,hr,hs,hx,v,hv=>by have hc:=hr c (by simp);have hz:=hs _ (bT (s:=s) (k:=c.toNat) (by have:=hc.1;have:=hc.2;omega));have:=bU (g:=vX (fU s l r) c p) (m:=(s.getD c.toNat 0).toNat) (k:=0) (s:=([],x)) (fun _ y=>∀v∈y.2.1,v∈l) hx (fun j y _ hj hy=>Y3 r _ y.2 h0 h (Pz hp hc ⟨by omega,by omega⟩) (fun c hc=>hr c (by simp[hc])) hs hy);exact this v hv
theorem Gj{s o:LI0}{l:List V}(h:OfP s o l)(hv:∀v∈l,YC v=true):aZ (jD s o l)=0∧(jD s o l).aK.length<=2000∧(∀v∈(jD s o l).aK,v∈l)∧PtV s o ((jD s o l).aK,(jD s o l).au)∧Bg o ((jD s o l).aK,(jD s o l).au) (jD s o l).root (jD s o l).au.length 0:=by
 obtain⟨hP,hn,ho⟩:=h.p;have hz:=Ir h.bI.sz;have hm:=h.bI.many;have hlen:=Vg (l:=l) h.bI.sz o (List.replicate s.length 0) ([],[]) hP.ord;have hw:=DU h.bI.sz h.ord;have a2B:∀q,jf s q=true->l.getD (dV s q).toNat V0∈l:=fun q hq=>by
  have:=wZ hq h.bI.sz;have:=h.len;have aQ:(dV s q).toNat<l.length:=by omega
  simp[List.getD,a0n aQ]
 have nN:=Y3 o (List.replicate s.length 0) ([],[]) (fun _=>.inr trivial) a2B hz hP.ord h.bI.sz (by simp);have WS:=a7O (l:=l) h.bI.sz hP.ord hn o 0 (List.replicate s.length 0) ([],[]) rfl (a4G _) ⟨fun i hi=>(by simp at hi),fun i hi=>(by simp at hi),fun i hi=>(by simp at hi)⟩ (by have:=hlen.1;simp at this;omega);have h1:(jD s o l).aK.length<=0+wO s o:=hlen.1;have h2:(jD s o l).au.length+1<=0+wO s o:=hlen.2;refine⟨Ez (by unfold ah;omega) ?_ (fun v hv2=>hv v (nN v hv2)) (by omega) WS.1 WS.2,by omega,nN,WS.1,WS.2⟩;have:aV s o=0:=iM.2 ⟨h.bI,h.ord⟩;show(aV s o != 0)=false;rw[this];rfl
theorem aaR{s o:LI0}{l:List V}(h:OfP s o l)(hv:∀v∈l,YC v=true){q:LI0}(hq:jf s q=true):Ci (jD s o l) q=l.getD (dV s q).toNat V0:=by
 obtain⟨hP,hn,ho⟩:=h.p;obtain⟨h1,h2,h3,h4,h5⟩:=Gj h hv;have ht:=jK (d:=jD s o l) hP.a7K (by unfold ah;omega) (by rw[h1];rfl);have hto:=adv (l:=l) h.bI.sz o (List.replicate s.length 0) ([],[]) hP.ord (by simp) (jD s o l) (by omega) a4K a4K q hq (fun k hk Yy=>by exfalso;exact Yy (kE h.ord ⟨by omega,by omega⟩))
 have hr:=ht.1.root;exact(hto.at_ ht.1 hq 6001 (by have:=hr.1;have:=ht.2;show(jD s o l).root<_;omega) hr).symm
theorem a02{s o:LI0}{l:List V}(h:OfP s o l)(hv:∀v∈l,YC v=true):cellsD (jD s o l)=l:=by have hl:=h.len;unfold cellsD;refine a9J (by simp[uM,jD];omega) fun n h1 h2=>?_;have hp:=wu (n:Int) h.bI.sz;simp only[a9i,aei];show Ci (jD s o l) (mg s n)=_;rw[aaR h hv hp,MZ h.bI.sz (by omega) (by omega)];simp[List.getD,a0n h2]
open Go Tw Pv dB
def Kn(d:Dg)(x:Cs)(v:Int):Prop:=if v<0 then oq d v∈x.e else v∈x.k.map (·.1)
def uZ(d:Dg)(x:Cs)(v:Int):Int:=if v<0 then i64.wrap (-1-(x.e.idxOf (oq d v):Nat))else Vb x.k v
def Bh(x y:Cs):Prop:=x.e <+: y.e∧x.n <+: y.n∧x.k <+: y.k
theorem Bh.rfl{x:Cs}:Bh x x:=⟨a4K,a4K,a4K⟩
theorem Bh.trans{x y z:Cs}(a:Bh x y)(b:Bh y z):Bh x z:=⟨a.1.trans b.1,a.2.1.trans b.2.1,a.2.2.trans b.2.2⟩
theorem Kn.mono{d:Dg}{x y:Cs}{v:Int}(h:Kn d x v)(hp:Bh x y):Kn d y v:=by
 unfold Kn at h ⊢;split
 .rename_i c;rw[a0u c]at h;exact hp.1.subset h
 rename_i c;rw[a0q c]at h;obtain⟨t,ht⟩:=hp.2.2;rw[<-ht,a4s,a3c];exact .inl h
theorem TF{α:Type}[BEq α][LawfulBEq α]{a b:List α}{v:α}(h:v∈a)(hp:a <+: b):b.idxOf v=a.idxOf v:=by obtain⟨t,rfl⟩:=hp;rw[aa4,a0u h]
theorem a1Z{a b:List (Int×Int)}{v:Int}(h:v∈a.map (·.1))(hp:a <+: b):Vb b v=Vb a v:=by
 obtain⟨t,rfl⟩:=hp;unfold Vb;rw[List.find?_append];cases e:a.find? fun p=>p.1==v with
 |none=>
  rw[a1k]at h;obtain⟨p,hp,rfl⟩:=h;have:=aez.1 e p hp;simp at this
 |some q=>rfl
theorem TG{d:Dg}{x y:Cs}{v:Int}(h:Kn d x v)(hp:Bh x y):uZ d y v=uZ d x v:=by
 unfold Kn at h;unfold uZ;split
 .rename_i c;rw[a0u c]at h;rw[TF h hp.1]
 rename_i c;rw[a0q c]at h;rw[a1Z h hp.2.2]
theorem Y4{E:List V}{v:V}(h:v∈E):fC E v=E:=a0u h
theorem KY(N:List Br)(c:Int)(ks:LI0):N <+: dG N c ks:=by
 unfold dG;split
 .exact a4K
 split
 .exact a4K
 exact a90 _ _
theorem a03{N M:List Br}{c:Int}{ks:LI0}(h:dG N c ks=N)(hp:N <+: M):dG M c ks=M∧eH M c ks=eH N c ks:=by
 unfold dG at h ⊢;unfold eH;by_cases hf:(ks.all fun x=>x==ks.getD 0 0)=true
 .rw[a0u hf,a0u hf,a0u hf];exact⟨rfl,rfl⟩
 rw[a0q hf]at h ⊢;rw[a0q hf,a0q hf];by_cases hm:ug c ks∈N.map CB
 .have hp2:N.map CB <+: M.map CB:=by obtain⟨t,rfl⟩:=hp;rw[a4s];exact a90 _ _
  rw[a0u (hp2.subset hm),TF hm hp2];exact⟨rfl,rfl⟩
 rw[a0q hm]at h;have:=congrArg List.length h;simp at this
theorem a3T(N:List Br)(c:Int)(ks:LI0):dG (dG N c ks) c ks=dG N c ks∧eH (dG N c ks) c ks=eH N c ks:=by
 unfold eH;by_cases hf:(ks.all fun x=>x==ks.getD 0 0)=true
 .rw[a0u hf,a0u hf];have:dG N c ks=N:=a0u hf;rw[this,this];exact⟨rfl,rfl⟩
 rw[a0q hf,a0q hf];by_cases hm:ug c ks∈N.map CB
 .have:dG N c ks=N:=by unfold dG;rw[a0q hf,a0u hm]
  rw[this,this];exact⟨rfl,rfl⟩
 have e:dG N c ks=N++[⟨c,ks⟩]:=by unfold dG;rw[a0q hf,a0q hm]
 have hm2:ug c ks∈(N++[(⟨c,ks⟩:Br)]).map CB:=by rw[a4s];simp
 have e2:dG (N++[⟨c,ks⟩]) c ks=N++[⟨c,ks⟩]:=by unfold dG;rw[a0q hf,a0u hm2]
 rw[e,e2];refine⟨rfl,?_⟩;rw[a4s,aa4,a0q hm,a6m hm];simp
abbrev aS(d:Dg)(v:Int):LI0:=(aj d v).ay
def Y5(d:Dg)(x:Cs):Prop:=∀v∈x.k.map (·.1),(∀j,j<(aS d v).length->Kn d x ((aS d v).getD j 0))∧eH x.n (aj d v).var ((aS d v).map (uZ d x))=Vb x.k v∧dG x.n (aj d v).var ((aS d v).map (uZ d x))=x.n
abbrev CG(d:Dg)(F:Nat)(r:Int)(j:Nat)(y:LI0×Cs):LI0×Cs:=(y.1.set j (bV d F ((aS d r).getD j 0) y.2).1,(bV d F ((aS d r).getD j 0) y.2).2)
theorem a7P{d:Dg}:∀(F:Nat) (r:Int) (x:Cs),Bh x (bV d F r x).2
 | 0,_,x=>Bh.rfl
 |F+1,r,x=>by
  unfold bV;split
  .exact⟨Bf _ _,a4K,a4K⟩
  split
  .exact Bh.rfl
  have:=bU (g:=CG d F r) (m:=(aS d r).length) (k:=0) (s:=(List.replicate (aS d r).length 0,x)) (fun _ y=>Bh x y.2) Bh.rfl (fun j y _ _ hy=>hy.trans (a7P F _ y.2));exact⟨this.1,this.2.1.trans (KY _ _ _),this.2.2.trans (a90 _ _)⟩
theorem Nh{d:Dg}{F:Nat}{v:Int}{x:Cs}(h:Kn d x v):bV d (F+1) v x=(uZ d x v,x):=by
 unfold Kn at h;unfold bV uZ;by_cases c:v<0
 .rw[a0u (by simpa using c),a0u c];rw[a0u c]at h;rw[Y4 h]
 rw[a0q c]at h;rw[a0q (by simpa using c),a0u (by simpa using h),a0q c]
theorem Qb{d:Dg}{x y:Cs}{ks:LI0}(h:∀j,j<ks.length->Kn d x (ks.getD j 0))(hp:Bh x y):ks.map (uZ d y)=ks.map (uZ d x):=by refine a4V fun v hv=>?_;obtain⟨j,hj,rfl⟩:=ads hv;have:=h j hj;rw[List.getD,a0n hj]at this;exact TG this hp
theorem Y5.a2a{d:Dg}{x y:Cs}{v:Int}(h:(∀j,j<(aS d v).length->Kn d x ((aS d v).getD j 0))∧eH x.n (aj d v).var ((aS d v).map (uZ d x))=Vb x.k v∧dG x.n (aj d v).var ((aS d v).map (uZ d x))=x.n)(hv:v∈x.k.map (·.1))(hp:Bh x y):(∀j,j<(aS d v).length->Kn d y ((aS d v).getD j 0))∧eH y.n (aj d v).var ((aS d v).map (uZ d y))=Vb y.k v∧dG y.n (aj d v).var ((aS d v).map (uZ d y))=y.n:=by obtain⟨h1,h2,h3⟩:=h;rw[Qb h1 hp];obtain⟨g1,g2⟩:=a03 h3 hp.2.1;exact⟨fun j hj=>(h1 j hj).mono hp,by rw[g2,h2,a1Z hv hp.2.2],g1⟩
theorem a04{d:Dg}(h:Ce d):∀(F:Nat) (r:Int) (x:Cs),1<=F->r+1<F->jC d r d.au.length->DR d x->Y5 d x->Y5 d (bV d F r x).2∧Kn d (bV d F r x).2 r∧uZ d (bV d F r x).2 r=(bV d F r x).1
 | 0,r,x,h1,_,_,_,_=>by omega
 |F+1,r,x,_,hF,hr,hx,hi=>by
  by_cases c:r<0
  .have e:bV d (F+1) r x=(i64.wrap (-1-(x.e.idxOf (oq d r):Nat)),⟨fC x.e (oq d r),x.n,x.k⟩):=by unfold bV;rw[a0u (by simpa using c)]
   rw[e];have hp:Bh x ⟨fC x.e (oq d r),x.n,x.k⟩:=⟨Bf _ _,a4K,a4K⟩;refine⟨fun v hv=>Y5.a2a (hi v hv) hv hp,?_,?_⟩
   .unfold Kn;rw[a0u c];show oq d r∈fC x.e (oq d r);unfold fC;split
    .assumption
    simp
   unfold uZ;rw[a0u c];show i64.wrap (-1-((fC x.e (oq d r)).idxOf (oq d r):Nat))=_;congr 3;unfold fC;split
   .rfl
   rename_i hn;rw[aa4,a0q hn,a6m hn];simp
  by_cases c2:r∈x.k.map (·.1)
  .have hk:Kn d x r:=by unfold Kn;rw[a0q c];exact c2
   rw[Nh hk];exact⟨hi,hk,rfl⟩
  have aQ:r.toNat<d.au.length:=by have:=hr.1;omega
  have Cj:∀k,k<(aS d r).length->(aS d r).getD k 0<r:=fun k kN=>by have h9:=(h.zS r.toNat aQ k kN).1;have h9:(aS d r).getD k 0<(r.toNat:Int):=h9;omega
  have KX:∀j,j<(aS d r).length->jC d ((aS d r).getD j 0) d.au.length:=fun j hj=>⟨by have:=Cj j hj;have:=hr.1;omega,(h.zS r.toNat aQ j hj).2⟩;have inv:=bU (g:=CG d F r) (m:=(aS d r).length) (k:=0) (s:=(List.replicate (aS d r).length 0,x)) (fun k y=>(y.1.length=(aS d r).length∧Bh x y.2)∧(DR d y.2∧r∉y.2.k.map (·.1))∧Y5 d y.2∧∀j,j<k->Kn d y.2 ((aS d r).getD j 0)∧uZ d y.2 ((aS d r).getD j 0)=y.1.getD j 0) ⟨⟨by simp,Bh.rfl⟩,⟨hx,c2⟩,hi,fun j hj=>by omega⟩ (fun j y _ hj hy=>by
   obtain⟨⟨y1,y2⟩,⟨y3,y4⟩,y5,y6⟩:=hy;have hj:j<(aS d r).length:=(by omega);have hp:=a7P (d:=d) F ((aS d r).getD j 0) y.2;obtain⟨z1,z2,z3⟩:=a04 h F ((aS d r).getD j 0) y.2 (by omega) (by have:=Cj j hj;omega) (KX j hj) y3 y5;refine⟨⟨by simp[CG,y1],y2.trans hp⟩,⟨PS h F _ y.2 y3 (KX j hj),XV F _ r y.2 (Cj j hj) y4 (by omega) (fun i hi k hk=>(h.zS i hi k hk).1) (fun h5=>⟨h5,(KX j hj).1⟩)⟩,z1,fun j' E5=>?_⟩;by_cases e:j'=j
   .subst e;refine⟨z2,?_⟩;rw[z3];show(bV d F ((aS d r).getD j' 0) y.2).1=(y.1.set j' (bV d F ((aS d r).getD j' 0) y.2).1).getD j' 0;generalize (bV d F ((aS d r).getD j' 0) y.2).1=z;simp[List.getD,a1E (show j'<y.1.length by omega)]
   obtain⟨a1,a2⟩:=y6 j' (by omega);refine⟨a1.mono hp,?_⟩;rw[TG a1 hp,a2];show _=(y.1.set j (bV d F ((aS d r).getD j 0) y.2).1).getD j' 0;generalize (bV d F ((aS d r).getD j 0) y.2).1=z;simp[List.getD,a1l (Ne.symm e)])
  rw[a3I]at inv;have e:bV d (F+1) r x=(eH (aU (CG d F r) (aS d r).length 0 (List.replicate (aS d r).length 0,x)).2.n (aj d r).var (aU (CG d F r) (aS d r).length 0 (List.replicate (aS d r).length 0,x)).1,⟨(aU (CG d F r) (aS d r).length 0 (List.replicate (aS d r).length 0,x)).2.e,dG (aU (CG d F r) (aS d r).length 0 (List.replicate (aS d r).length 0,x)).2.n (aj d r).var (aU (CG d F r) (aS d r).length 0 (List.replicate (aS d r).length 0,x)).1,(aU (CG d F r) (aS d r).length 0 (List.replicate (aS d r).length 0,x)).2.k++[(r,eH (aU (CG d F r) (aS d r).length 0 (List.replicate (aS d r).length 0,x)).2.n (aj d r).var (aU (CG d F r) (aS d r).length 0 (List.replicate (aS d r).length 0,x)).1)]⟩):=by rw[bV,a0q (by simpa using c),a0q (by simpa using c2)]
  rw[e];generalize aU (CG d F r) (aS d r).length 0 (List.replicate (aS d r).length 0,x)=y at inv;obtain⟨ks,y⟩:=y;obtain⟨⟨y1,y2⟩,⟨y3,y4⟩,y5,y6⟩:=inv;have y1:ks.length=(aS d r).length:=y1;have y4:r∉y.k.map (·.1):=y4;have hp:Bh y ⟨y.e,dG y.n (aj d r).var ks,y.k++[(r,eH y.n (aj d r).var ks)]⟩:=⟨a4K,KY _ _ _,a90 _ _⟩;have EX:(aS d r).map (uZ d y)=ks:=by refine a9J (by simp[y1]) fun j j1 j2=>?_;have hj:j<(aS d r).length:=(by omega);have:=(y6 j hj).2;rw[List.getD,List.getD,a0n hj,a0n j2]at this;simpa using this
  have gy:Vb (y.k++[(r,eH y.n (aj d r).var ks)]) r=eH y.n (aj d r).var ks:=by
   unfold Vb;rw[List.find?_append];have:(y.k.find? fun p=>p.1==r)=none:=aez.2 fun p hp=>by simp only[a6P];intro e2;exact y4 (a1k.2 ⟨p,hp,e2⟩)
   rw[this];simp
  obtain⟨g1,g2⟩:=a3T y.n (aj d r).var ks;refine⟨fun v hv=>?_,?_,?_⟩
  .have hv:v∈(y.k++[(r,eH y.n (aj d r).var ks)]).map (·.1):=hv;rw[a4s,a3c]at hv;rcases hv with hv|hv
   .exact Y5.a2a (y5 v hv) hv hp
   have hv:v=r:=(by simpa using hv);subst hv;refine⟨fun j hj=>(y6 j hj).1.mono hp,?_,?_⟩
   .rw[Qb (fun j hj=>(y6 j hj).1) hp,EX];show eH (dG y.n (aj d v).var ks) _ ks=Vb (y.k++[(v,eH y.n (aj d v).var ks)]) v;rw[g2,gy]
   rw[Qb (fun j hj=>(y6 j hj).1) hp,EX];exact g1
  .unfold Kn;rw[a0q c];show r∈(y.k++[(r,eH y.n (aj d r).var ks)]).map (·.1);simp
  unfold uZ;rw[a0q c];exact gy
open Go Tw Pv dB
theorem Y6{d:Dg}(h:aZ d=0):∀i,i<d.au.length->∀k,k<(fE d i).ay.length->d.aH.idxOf (fE d i).var+1<=Ey d.aH d.au ((fE d i).ay.getD k 0):=by
 intro i hi k hk;unfold aZ at h;split at h
 .rename_i c;rw[h]at c;cases c
 split at h
 .cases h
 split at h
 .cases h
 rename_i c;have c:lX d=true:=by simpa using c
 unfold lX at c;split at c
 rotate_left
 .cases c
 split at c
 rotate_left
 .cases c
 rename_i c2;have:=eG.1 c2 i hi;unfold ZX at this;split at this
 .cases this
 split at this
 .cases this
 split at this
 .rename_i c3;have:=eG.1 c3 k hk;unfold cLk at this;split at this
  .cases this
  rw[a2K,Nc,Nc]at this;have e6:Ey d.aH d.au ((i:Nat):Int)=d.aH.idxOf (fE d i).var:=by unfold Ey;rw[a0q (by omega),a4T]
  rw[e6]at this;show d.aH.idxOf (fE d i).var+1<=Ey d.aH d.au ((d.au.getD i kW).ay.getD k 0);omega
 cases this
theorem a05{d:Dg}(h:Ce d):∀(F:Nat) (r:Int) (x:Cs),jC d r d.au.length->NOk d.aA x.n->NOk d.aA (bV d F r x).2.n
 | 0,_,_,_,hx=>hx
 |F+1,r,x,hr,hx=>by
  unfold bV;by_cases c:r<0
  .rw[a0u (by simpa using c)];exact hx
  rw[a0q (by simpa using c)];split
  .exact hx
  have aQ:r.toNat<d.au.length:=by have:=hr.1;omega
  have KX:∀j,j<(aS d r).length->jC d ((aS d r).getD j 0) d.au.length:=fun j hj=>by have h9:=h.zS r.toNat aQ j hj;have h8:=h9.1;have h8:(aS d r).getD j 0<(r.toNat:Int):=h8;exact⟨by omega,h9.2⟩
  have inv:=bU (g:=CG d F r) (m:=(aS d r).length) (k:=0) (s:=(List.replicate (aS d r).length 0,x)) (fun _ y=>y.1.length=(aS d r).length∧NOk d.aA y.2.n) ⟨by simp,hx⟩ (fun j y _ hj hy=>⟨by simp[CG,hy.1],a05 h F _ y.2 (KX j (by omega)) hy.2⟩);show NOk d.aA (dG (aU (CG d F r) (aS d r).length 0 (List.replicate (aS d r).length 0,x)).2.n (aj d r).var (aU (CG d F r) (aS d r).length 0 (List.replicate (aS d r).length 0,x)).1);generalize aU (CG d F r) (aS d r).length 0 (List.replicate (aS d r).length 0,x)=y at inv;intro b hb;unfold dG at hb;split at hb
  .exact inv.2 b hb
  split at hb
  .exact inv.2 b hb
  rcases a3c.1 hb with hb|hb
  .exact inv.2 b hb
  rw[a2D.1 hb];refine⟨h.var r.toNat aQ,?_⟩;show(y.1.length:Int)=d.aA.getD (aj d r).var.toNat 0;rw[inv.1];exact h.ksz r.toNat aQ
theorem a7Q{n:Nat}(hn:1<=n)(v:Int):((List.replicate n v).all fun x=>x==(List.replicate n v).getD 0 0)=true∧(List.replicate n v).getD 0 0=v:=by obtain⟨k,rfl⟩:∃k,n=k+1:=⟨n-1,by omega⟩;simp[ae3]
theorem Y7{d:Dg}{l:List V}(h:Ce d)(Qa:iG d.aA.length d.aH=true)(hk:∀i,i<d.au.length->∀k,k<(fE d i).ay.length->d.aH.idxOf (fE d i).var+1<=Ey d.aH d.au ((fE d i).ay.getD k 0)):∀(r:LI0) (a:Nat) (p:LI0) (v:Int) (x:Cs) (F:Nat),d.aH.drop a=r->a<=d.aH.length->jf d.aA p=true->DR d x->Y5 d x->NOk d.aA x.n->jC d v d.au.length->a<=Ey d.aH d.au v->1<=F->v+1<F->(∀q,jf d.aA q=true->Agr d.aA r q p->To d q v (l.getD (dV d.aA q).toNat V0))->fU d.aA l r p (x.e,x.n)=((bV d F v x).1,((bV d F v x).2.e,(bV d F v x).2.n))
 | [],a,p,v,x,F,hr,ha,hp,_,_,_,hv,KX,hF1,hF,hto=>by
  obtain⟨F,rfl⟩:∃k,F=k+1:=⟨F-1,by omega⟩;have:a=d.aH.length:=by have:=congrArg List.length hr;rw[a3H,a4O]at this;omega
  subst this;have hv0:v<0:=by
   rcases Int.lt_or_le v 0 with c|c
   .exact c
   exfalso;unfold Ey at KX;rw[a0q (by omega)]at KX;have aQ:v.toNat<d.au.length:=by have:=hv.1;omega
   have hm:=kE Qa (h.var v.toNat aQ);have:=a4H.2 hm;have:d.aH.idxOf (d.au.getD v.toNat kW).var<d.aH.length:=this;omega
  have t:=hto p hp (fun _ _ _=>rfl);have e:l.getD (dV d.aA p).toNat V0=oq d v:=(To.fin hv0:To d p v _).det t |>.symm
  unfold bV;rw[a0u (by simpa using hv0)];show(i64.wrap (-1-(x.e.idxOf (l.getD (dV d.aA p).toNat V0):Nat)),(fC x.e (l.getD (dV d.aA p).toNat V0),x.n))=_;rw[e]
 |c::r,a,p,v,x,F,hr,ha,hp,hx,hi,Yy,hv,KX,hF1,hF,hto=>by
  have aQ:a<d.aH.length:=by have:=congrArg List.length hr;rw[a3H,a4q]at this;omega
  have hd:=a6d aQ;rw[hr]at hd;obtain⟨hc,vC⟩:=ahg hd;have ho:=Qa;unfold iG at ho;rw[a1n]at ho;have EL:c∈d.aH:=by rw[hc];exact a4D aQ
  have nP:fF c d.aA.length:=⟨(ho.2.1 c EL).1,(ho.2.1 c EL).2⟩;have hia:d.aH.idxOf c=a:=by rw[hc];exact ho.2.2.idxOf_getElem a aQ
  have pV:c.toNat<d.aA.length:=by have:=nP.1;have:=nP.2;omega
  have hz:=h.bI.sz _ (bT (s:=d.aA) (k:=c.toNat) pV);have Eb:=qh hp;have hcr:c∉r:=by have:(d.aH.drop a).Nodup:=ho.2.2.sublist (List.drop_sublist _ _);rw[hr]at this;exact(a4z.1 this).1
  have FK:∀j:Nat,j<(d.aA.getD c.toNat 0).toNat->jf d.aA (p.set c.toNat j)=true:=fun j hj=>Pz hp nP ⟨by omega,by omega⟩;simp only[fU];by_cases vw:0<=v∧(aj d v).var=c
  .obtain⟨hv0,hvc⟩:=vw;have a3U:v.toNat<d.au.length:=by have:=hv.1;omega
   have Kz:((aS d v).length:Int)=d.aA.getD c.toNat 0:=by rw[<-hvc];exact h.ksz v.toNat a3U
   have hkn:(d.aA.getD c.toNat 0).toNat=(aS d v).length:=(by omega);have Cj:∀j,j<(aS d v).length->(aS d v).getD j 0<v:=fun j hj=>by have h9:=(h.zS v.toNat a3U j hj).1;have h9:(aS d v).getD j 0<(v.toNat:Int):=h9;omega
   have hrf:∀j,j<(aS d v).length->jC d ((aS d v).getD j 0) d.au.length:=fun j hj=>⟨by have:=Cj j hj;have:=hv.1;omega,(h.zS v.toNat a3U j hj).2⟩;have aky:∀j,j<(aS d v).length->a+1<=Ey d.aH d.au ((aS d v).getD j 0):=fun j hj=>by have:=hk v.toNat a3U j hj;have:d.aH.idxOf (aj d v).var+1<=Ey d.aH d.au ((aS d v).getD j 0):=this;rw[hvc,hia]at this;exact this
   have akz:∀j:Nat,j<(aS d v).length->∀q,jf d.aA q=true->Agr d.aA r q (p.set c.toNat j)->To d q ((aS d v).getD j 0) (l.getD (dV d.aA q).toNat V0):=fun j hj q hq hag=>by
    have Yx:q.getD c.toNat 0=j:=by have:=hag c.toNat pV (by rw[ah6 nP.1];exact hcr);rw[this,List.getD,a1E (by omega)];rfl
    have t0:=hto q hq (Agr.back nP hag);revert t0;generalize l.getD (dV d.aA q).toNat V0=w;intro t0;cases t0 with
    |fin h9=>omega
    |step _ t=>
     rw[hvc,Yx,a4T]at t;exact t
   rw[hkn];by_cases OH:v∈x.k.map (·.1)
   .-- known
    have hKn:Kn d x v:=by unfold Kn;rw[a0q (by omega)];exact OH
    obtain⟨F',rfl⟩:∃k,F=k+1:=⟨F-1,by omega⟩;rw[Nh hKn];obtain⟨i1,i2,i3⟩:=hi v OH;have inv:=bU (g:=vX (fU d.aA l r) c p) (m:=(aS d v).length) (k:=0) (s:=([],(x.e,x.n))) (fun k y=>y=(((aS d v).map (uZ d x)).take k,(x.e,x.n))) (by simp) (fun j y _ hj hy=>by have hj:j<(aS d v).length:=(by omega);subst hy;have ih:=Y7 h Qa hk r (a+1) (p.set c.toNat j) ((aS d v).getD j 0) x (F'+1) vC.symm aQ (FK j (by omega)) hx hi Yy (hrf j hj) (aky j hj) (by omega) (by have:=Cj j hj;omega) (akz j hj);rw[Nh (i1 j hj)]at ih;unfold vX;rw[ih];refine ado ?_ rfl;show(((aS d v).map (uZ d x)).take j)++[uZ d x ((aS d v).getD j 0)]=_;have hjm:j<((aS d v).map (uZ d x)).length:=(by simpa using hj);rw[a5r hjm];simp[List.getD,a0n hj])
    rw[a3I]at inv;rw[inv,a94 (by simp)];rw[hvc]at i2 i3;obtain⟨n1,n2⟩:=Y1 h.bI.sz Yy nP (ks:=(aS d v).map (uZ d x)) (by simpa using Kz);show(DT x.n c _,(x.e,oZ x.n c _))=_;rw[<-n1,<-n2,i2,i3];unfold uZ;rw[a0q (by omega)]
   obtain⟨F',rfl⟩:∃k,F=k+1:=⟨F-1,by omega⟩;have key:∀j,j<=(aS d v).length->(aU (vX (fU d.aA l r) c p) j 0 ([],(x.e,x.n)))=((aU (CG d F' v) j 0 (List.replicate (aS d v).length 0,x)).1.take j,((aU (CG d F' v) j 0 (List.replicate (aS d v).length 0,x)).2.e,(aU (CG d F' v) j 0 (List.replicate (aS d v).length 0,x)).2.n))∧(aU (CG d F' v) j 0 (List.replicate (aS d v).length 0,x)).1.length=(aS d v).length∧(DR d (aU (CG d F' v) j 0 (List.replicate (aS d v).length 0,x)).2∧v∉(aU (CG d F' v) j 0 (List.replicate (aS d v).length 0,x)).2.k.map (·.1))∧Y5 d (aU (CG d F' v) j 0 (List.replicate (aS d v).length 0,x)).2∧NOk d.aA (aU (CG d F' v) j 0 (List.replicate (aS d v).length 0,x)).2.n:=by
    intro j
    induction j with
    |zero=>intro _;exact⟨rfl,by simp[aU],⟨hx,OH⟩,hi,Yy⟩
    |succ j ih=>
     intro hj;have hj:j<(aS d v).length:=hj;obtain⟨q1,q2,⟨q3,q3'⟩,q4,q5⟩:=ih (by omega);rw[qE,qE,a3I];generalize aU (CG d F' v) j 0 (List.replicate (aS d v).length 0,x)=y at q1 q2 q3 q3' q4 q5;rw[q1];have QX:=Cj j hj;have ih2:=Y7 h Qa hk r (a+1) (p.set c.toNat j) ((aS d v).getD j 0) y.2 F' vC.symm aQ (FK j (by omega)) q3 q4 q5 (hrf j hj) (aky j hj) (by omega) (by omega) (akz j hj);refine⟨?_,by simp[CG,q2],⟨PS h F' _ y.2 q3 (hrf j hj),XV F' _ v y.2 QX q3' (by omega) (fun i hi k hk=>(h.zS i hi k hk).1) (fun h5=>⟨h5,(hrf j hj).1⟩)⟩,(a04 h F' _ y.2 (by omega) (by omega) (hrf j hj) q3 q4).1,a05 h F' _ y.2 (hrf j hj) q5⟩;unfold vX;rw[ih2];refine ado ?_ rfl;show y.1.take j++[(bV d F' ((aS d v).getD j 0) y.2).1]=(y.1.set j (bV d F' ((aS d v).getD j 0) y.2).1).take (j+1);rw[a5r (by simp;omega),List.take_set_of_le (a0E _),List.getElem_set_self]
   obtain⟨q1,q2,⟨q3,q3'⟩,q4,q5⟩:=key _ (a0E _);rw[q1];have e:bV d (F'+1) v x=(eH (aU (CG d F' v) (aS d v).length 0 (List.replicate (aS d v).length 0,x)).2.n (aj d v).var (aU (CG d F' v) (aS d v).length 0 (List.replicate (aS d v).length 0,x)).1,⟨(aU (CG d F' v) (aS d v).length 0 (List.replicate (aS d v).length 0,x)).2.e,dG (aU (CG d F' v) (aS d v).length 0 (List.replicate (aS d v).length 0,x)).2.n (aj d v).var (aU (CG d F' v) (aS d v).length 0 (List.replicate (aS d v).length 0,x)).1,(aU (CG d F' v) (aS d v).length 0 (List.replicate (aS d v).length 0,x)).2.k++[(v,eH (aU (CG d F' v) (aS d v).length 0 (List.replicate (aS d v).length 0,x)).2.n (aj d v).var (aU (CG d F' v) (aS d v).length 0 (List.replicate (aS d v).length 0,x)).1)]⟩):=by rw[bV,a0q (by simpa using hv0),a0q (by simpa using OH)]
   rw[e];generalize aU (CG d F' v) (aS d v).length 0 (List.replicate (aS d v).length 0,x)=y at q2 q5;rw[a94 (by omega),hvc];obtain⟨n1,n2⟩:=Y1 h.bI.sz q5 nP (ks:=y.1) (by rw[q2];exact Kz);rw[n1,n2]
  -- asked later,or an end
  have akA:a+1<=Ey d.aH d.au v:=by
   unfold Ey at KX ⊢;split
   .omega
   rename_i c1;rw[a0q c1]at KX;have iF:d.aH.idxOf (d.au.getD v.toNat kW).var≠a:=fun e=>by
    apply vw;refine⟨by omega,?_⟩;have a3U:v.toNat<d.au.length:=by have:=hv.1;omega
    have hm:=kE Qa (h.var v.toNat a3U);have h1:=a8Z (a4H.2 hm);have e:d.aH.idxOf (fE d v.toNat).var=a:=e;show(fE d v.toNat).var=c;rw[hc,<-h1];congr 1
   omega
  obtain⟨z1,z2,z3⟩:=a04 h F v x hF1 hF hv hx hi;have QW:=PS h F v x hx hv;have aev:=a05 h F v x hv Yy;have akB:bV d F v (bV d F v x).2=((bV d F v x).1,(bV d F v x).2):=by
   have e:∀y,Kn d y v->uZ d y v=(bV d F v x).1->bV d F v y=((bV d F v x).1,y):=fun y h1 h2=>by obtain⟨F',rfl⟩:∃k,F=k+1:=⟨F-1,by omega⟩;rw[Nh h1,h2]
   exact e _ z2 z3
  have akC:∀j:Nat,∀q,jf d.aA q=true->Agr d.aA r q (p.set c.toNat j)->To d q v (l.getD (dV d.aA q).toNat V0):=fun j q hq hag=>hto q hq (Agr.back nP hag);have inv:=bU (g:=vX (fU d.aA l r) c p) (m:=(d.aA.getD c.toNat 0).toNat) (k:=0) (s:=([],(x.e,x.n))) (fun k y=>(k=0∧y=([],(x.e,x.n)))∨(0<k∧y=(List.replicate k (bV d F v x).1,((bV d F v x).2.e,(bV d F v x).2.n)))) (.inl ⟨rfl,rfl⟩) (fun j y _ hj hy=>by
   right;refine⟨by omega,?_⟩;rcases hy with⟨rfl,rfl⟩|⟨h0,rfl⟩
   .have ih:=Y7 h Qa hk r (a+1) (p.set c.toNat ((0:Nat):Int)) v x F vC.symm aQ (FK 0 (by omega)) hx hi Yy hv akA hF1 hF (akC 0);unfold vX;rw[ih];rfl
   have ih:=Y7 h Qa hk r (a+1) (p.set c.toNat ((j:Nat):Int)) v (bV d F v x).2 F vC.symm aQ (FK j (by omega)) QW z1 aev hv akA hF1 hF (akC j);rw[akB]at ih;unfold vX;rw[ih];refine ado ?_ rfl;show List.replicate j _++[_]=_;rw[List.replicate_succ'])
  rw[a3I]at inv;rcases inv with⟨h0,_⟩|⟨h0,e⟩
  .omega
  rw[e];obtain⟨f1,f2⟩:=a7Q (n:=(d.aA.getD c.toNat 0).toNat) (by omega) (bV d F v x).1;show(DT _ c _,(_,oZ _ c _))=_;unfold DT oZ;rw[a0u f1,a0u f1,f2]
theorem Iw{d:Dg}(hl:aZ d=0)(ho:d.aH.length<=ah)(he:d.aK.length<=ah):dW d=jD d.aA d.aH (cellsD d)∧OfP d.aA d.aH (cellsD d):=by
 obtain⟨h,hn⟩:=jK ho he (by rw[hl];rfl);have hf:(aV d.aA d.aH != 0)=false:=by
  unfold aZ at hl;split at hl
  .rename_i c;rw[hl]at c;cases c
  rename_i c;simpa using c
 obtain⟨bI,Qa⟩:=iM.1 (show aV d.aA d.aH=0 by simpa using hf);have hlen:((cellsD d).length:Int)=bg d.aA:=by unfold cellsD;rw[a4A,a98,bI.a6F]
 have hr:=h.root;have hr1:=hr.1;have hto:∀q,jf d.aA q=true->To d q d.root ((cellsD d).getD (dV d.aA q).toNat V0):=fun q hq=>by
  have hrn:=wZ hq bI.sz;have t:=To.of h hq 6001 d.root (by omega) hr;have e:(cellsD d).getD (dV d.aA q).toNat V0=Ci d q:=by
   have aQ:(dV d.aA q).toNat<uM d.aA:=by unfold uM;omega
   unfold cellsD;rw[List.getD,a0n (by simpa using aQ)];simp only[a9i,aei,a6k];rw[show(((dV d.aA q).toNat:Nat):Int)=dV d.aA q by omega,UU hq bI.sz]
  rw[e];exact t
 have key:=Y7 (l:=cellsD d) h Qa (Y6 hl) d.aH 0 (List.replicate d.aA.length 0) d.root YD 6002 rfl (a4G _) (Ir bI.sz) Vf (fun v hv=>by cases hv) (fun b hb=>by cases hb) hr (a4G _) (by omega) (by omega) (fun q hq _=>hto q hq);refine⟨?_,⟨bI,Qa,hlen⟩⟩;have key:fU d.aA (cellsD d) d.aH (List.replicate d.aA.length 0) ([],[])=_:=key;unfold dW jD;rw[key]
open Go Tw Pv dB
theorem Qc(k:Int):Gi (i64.wrap k):=by
 have e:i64.wrap k=if k%(2^64:Int)>=(2^63:Int)then k%(2^64:Int)-2^64 else k%(2^64:Int):=by
  show(if(true&&decide (k%(2^64:Int)>=(2^63:Int)))=true then _ else _)=_;by_cases c:k%(2^64:Int)>=(2^63:Int)
  .rw[a0u (by simpa using c),a0u c];rfl
  rw[a0q (by simpa using c),a0q c];rfl
 rw[e];unfold Gi;split<;>constructor<;>omega
def EnW(x:EN):Prop:=∀b∈x.2,∀k∈b.ay,Gi k
theorem a7R{s:LI0}{l:List V}(hs:mZ s):∀(r p:LI0) (x:EN),(∀c∈r,fF c s.length)->EnW x->(fU s l r p x).2.2.length<2^61->EnW (fU s l r p x).2∧Gi (fU s l r p x).1
 | [],p,x,_,hx,_=>⟨hx,Qc _⟩
 |c::r,p,x,hr,hx,hE=>by
  have nP:=hr c (by simp);have hz:=hs _ (bT (s:=s) (k:=c.toNat) (by have:=nP.1;have:=nP.2;omega));have hN:=Iu (aU (vX (fU s l r) c p) (s.getD c.toNat 0).toNat 0 ([],x)).2.2 c (aU (vX (fU s l r) c p) (s.getD c.toNat 0).toNat 0 ([],x)).1;have hE:(oZ (aU (vX (fU s l r) c p) (s.getD c.toNat 0).toNat 0 ([],x)).2.2 c (aU (vX (fU s l r) c p) (s.getD c.toNat 0).toNat 0 ([],x)).1).length<2^61:=hE;have inv:=bU (g:=vX (fU s l r) c p) (m:=(s.getD c.toNat 0).toNat) (k:=0) (s:=([],x)) (fun k y=>y.1.length=k∧(y.2.2.length<2^61->EnW y.2∧∀v∈y.1,Gi v)) ⟨rfl,fun _=>⟨hx,by simp⟩⟩ (fun j y _ hj hy=>by
   refine⟨by simp[vX,hy.1],fun hE2=>?_⟩;have hE2:(fU s l r (p.set c.toNat j) y.2).2.2.length<2^61:=hE2;have hp:=(Q9 (s:=s) (l:=l) r (p.set c.toNat j) y.2).2.length_le;obtain⟨y1,y2⟩:=hy.2 (by omega);obtain⟨z1,z2⟩:=a7R hs r (p.set c.toNat j) y.2 (fun c hc=>hr c (by simp[hc])) y1 hE2;refine⟨z1,fun v hv=>?_⟩;have hv:v∈y.1++[(fU s l r (p.set c.toNat j) y.2).1]:=hv;rcases a3c.1 hv with hv|hv
   .exact y2 v hv
   rw[a2D.1 hv];exact z2)
  rw[a3I]at inv;simp only[fU];generalize aU (vX (fU s l r) c p) (s.getD c.toNat 0).toNat 0 ([],x)=y at inv hN hE;obtain⟨ks,E,N⟩:=y;have hN:N <+: oZ N c ks:=hN;have hE:(oZ N c ks).length<2^61:=hE;obtain⟨i0,i1⟩:=inv;have i0:ks.length=(s.getD c.toNat 0).toNat:=i0;obtain⟨i1,i2⟩:=i1 (by have:=hN.length_le;show N.length<2^61;omega);have i1:∀b∈N,∀k∈b.ay,Gi k:=i1;have i2:∀v∈ks,Gi v:=i2;refine⟨fun b hb=>?_,?_⟩
  .have hb:b∈oZ N c ks:=hb;unfold oZ at hb;split at hb
   .exact i1 b hb
   split at hb
   .exact i1 b hb
   rcases a3c.1 hb with hb|hb
   .exact i1 b hb
   rw[a2D.1 hb];exact i2
  show Gi (DT N c ks);by_cases hf:(ks.all fun x=>x==ks.getD 0 0)=true
  .rw[show DT N c ks=ks.getD 0 0 from a0u hf];exact i2 _ (bT (s:=ks) (k:=0) (by omega))
  rw[show DT N c ks=(N.idxOf (⟨c,ks⟩:Br):Nat)from a0q hf];have:=(Vj (N:=N) (c:=c) hf).1;exact⟨by omega,by omega⟩
theorem aaS{s o:LI0}{l:List V}(h:OfP s o l)(hv:∀v∈l,YC v=true)(hf:∀v∈l,0<=v.f):Na (jD s o l)∧vN (jD s o l)=0:=by
 obtain⟨hP,hn,ho⟩:=h.p;obtain⟨h1,h2,h3,h4,h5⟩:=Gj h hv;have hw:=DU h.bI.sz h.ord;have hm:=h.bI.many;have hlen:=Vg (l:=l) h.bI.sz o (List.replicate s.length 0) ([],[]) hP.ord;have QZ:(fU s l o (List.replicate s.length 0) ([],[])).2.2.length+1<=0+wO s o:=hlen.2;obtain⟨w1,w2⟩:=a7R (l:=l) h.bI.sz o (List.replicate s.length 0) ([],[]) hP.ord (fun b hb=>by cases hb) (by omega);have hR:Na (jD s o l):=⟨fun i hi k hk=>by
  have hb:fE (jD s o l) i∈(jD s o l).au:=by show(jD s o l).au.getD i kW∈_;rw[List.getD,a0n hi];exact a4D hi
  exact w1 _ hb _ (bT hk),w2,fun v hv=>hf v (h3 v hv)⟩
 refine⟨hR,?_⟩;obtain⟨ht,hn6⟩:=jK (d:=jD s o l) hP.a7K (by unfold ah;omega) (by rw[h1];rfl);have hc:=(Iw (d:=jD s o l) h1 hP.a7K (by unfold ah;omega)).1;rw[a02 h hv]at hc;have hd:=(TB ht hR (by omega) hn6).1 hc;unfold vN;rw[a0q (by rw[h1];decide),a0q (by rw[hd];decide)]
open Go Tw Pv dB
def adz:fB aC:=cu 121 (a1 dA) iA (fun p=>(yI p).2) (fun p=>[Na p,p.aA.length<=ah,p.aH.length<=2^20,p.aK.length+1<=ah]) akw
theorem akD:Gd adz:=apI.add fun n hO p hp=>aO hO (.o (hp _ iD) (.o (hp _ xM) (.o (hp _ hh2) (.o (hp _ (.tail _ (.tail _ (.tail _ (.head _))))) .rr))))
def vO(d:Dg):Dg×Int:=if((bG d).2 != 0)=true then(mG,(bG d).2)else(dW (bG d).1.d,0)
def a7S:fB aC:=cu 108 (a1 dA) (dS (a2 dA iA)) (fun p=>vO p) (fun p=>[Na p,p.aA.length<=ah,p.aH.length<=2^20,p.aK.length<=ah,((bG p).2 != 0)=false->ClP (bG p).1]) adz
theorem adA:Gd a7S:=akD.add fun n hO p hp=>aO hO (.o (hp _ xM) (.o (hp _ hh2) (.o (hp _ (.tail _ (.tail _ (.tail _ (.head _))))) (.sh (fun _=>.rn (.cO [.agg [.nil .aP,.nil .aP,.nil .aP,.nil .aP,.int .i64 0],.int .i64 (bG p).2]) rfl) fun h=>.o (hp _ (.tail _ (.tail _ (.tail _ (.tail _ (.head _))))) h) .rr))))
def akE:fB aC:=cu 77 (a3 iA iA iA) tA (fun p=>(if decide (p.2.2>=p.1)=true then decide (p.2.2<=p.2.1)else false)) np a7S
theorem apO:Gd akE:=adA.add fun n hO p hp=>aO hO (.ss .rr .rr)
def a2b:fB aC:=cu 123 (a2 (a3k frA) dA) tA (fun p=>(if decide (p.2.aA=p.1.1)=true then decide (p.2.aH=p.1.2)else false)) (fun p=>[p.2.aA.length<=ah,p.2.aH.length<=ah]) akE
theorem akF:Gd a2b:=apO.add fun n hO p hp=>aO hO (.o (hp _ iD) (.ss (.o (hp _ xM) .rr) .rr))
end Go.Proofs.YtmobpoiejckagaaGreat
namespace Pv
open Go Tw
variable {X:kP} {P:LI1}
theorem pO.a3V(hX:bP X P){call:aY}{f:FuncId}{first xs cap vs:List (PV X.Γ)}{v v':PV X.Γ}{ext ext':List (PB X.Γ)}(hc:pO X P call f vs v ext)(hv:views [] (first++xs++cap)=some vs)(hs:qZ X 0 ext=some ext')
  (e:shift 0 v=v') (he:(if xU v||ext.any (hasB X)then bn (kG.ku (first++xs++cap)) []else [])=([]:List (PB X.Γ))):bZ X P call (.fn f first cap) xs [] v' ext':=by
 subst e;intro A m h tf qN hr hf hx;cases hf with
 |gone hi _ _=>simp[bD]at hi
 |fn p1 p2 p3 p4=>
  obtain⟨w,h',m1,c1,c2,c3,c4,c5⟩:=I4 hX hc hr hv hs ⟨p1,p2⟩ hx ⟨p3,p4⟩;rw[he]at c2;exact⟨w,h',[],m1,c1,c2,c3,c4,c5,fun b hb=>by cases hb⟩
end Pv
namespace Go.Proofs.YtmobpoiejckagaaGreat
open Go Tw Pv dB
def a3W{α:Type}(g:α->Bool)(i:Nat)(x:α)(s:Unit):Unit⊕(Nat×α×Unit):=if(g x)=true then .inr (i,x,s)else .inl ()
def afT{α:Type}(d:α)(g:α->Bool)(l:List α):Int:=if(kU (mY (a3W g) l 0 ()))=true then -1 else(((Dq (0,d,()) (mY (a3W g) l 0 ())).1:Int))
theorem a7T{α:Type}(g:α->Bool):∀(l:List α) (i:Nat),kU (mY (a3W g) l i ())=!(l.any g)
 | [],i=>rfl
 |x::l,i=>by
  simp only[mY,a3W,ady];cases g x
  .simpa using a7T g l (i+1)
  simp[kU]
theorem afU{α:Type}(d:α)(g:α->Bool)(l:List α):decide (afT d g l>=0)=l.any g:=by have:=a7T g l 0;unfold afT;rw[this];cases l.any g<;>simp
theorem gY{α:Type}{l:List α}{k:Nat}{d:α}(h:k<l.length):l.getD k d∈l:=by simp[List.getD,a0n h]
abbrev afV(f:Nat)(a c:List (PV aC))(H:List (PB aC))(l:List Dg)(i:Int)(x:List (Nat×PE aC)):aT aC:=⟨[(0,xL 26 l),(1,.val (.fn f a c)),(7,xi l.length),(8,xi i)]++x,[],H⟩
def akG(f:Nat)(a c:List (PV aC))(H:List (PB aC))(l:List Dg):Unit⊕(Nat×Dg×Unit)->Ex×aT aC
 |.inl _=>(.exit 0,afV f a c H l l.length [(9,xl false)])
 |.inr r=>(.ret,⟨[(4,xi r.1)],[],H⟩)
theorem apP{n f:Nat}{a c:List (PV aC)}{H:List (PB aC)}{g:Dg->Bool}(l:List Dg)(hf:∀x∈l,iW n (.fn f a c) [.agg x.ps] H (.bool (g x)) H)(hl:l.length<=ah):iW (n+1) (.fn 204 [] []) [lDg l,.fn f a c] H (iA.put (afT mG g l)) H:=by
 have lp:Ii n 204 0 H.length (afV f a c H l 0 []) (akG f a c H l (mY (a3W g) l 0 ())).1 (akG f a c H l (mY (a3W g) l 0 ())).2:=
  Xh (st:=fun i _=>afV f a c H l i []) mG (fun _ _=>True) (by kernel_rfl) hl QH trivial (fun k s n hk _ ih=>aN gK (.b (bF hk) (.o (aG hk) (.k (hf (l.getD k mG) (gY hk)) (.ls (.ou nofun) (.nx (ih _ trivial))))))) (fun s _=>aN gK (.b (fH l.length) (.ou nofun)))
 exact jr gK (first:=[]) (cap:=[]) (.szh (fun h=>.w (kZ lp () h) .sr) (fun h=>.w (l7 lp (0,mG,()) h) .sr))
theorem apQ{n f:Nat}{a c:List (PV aC)}{H:List (PB aC)}{g:Dg->Bool}(l:List Dg)(hf:∀x∈l,iW n (.fn f a c) [.agg x.ps] H (.bool (g x)) H)(hl:l.length<=ah):iW (n+2) (.fn 173 [] []) [lDg l,.fn f a c] H (tA.put (l.any g)) H:=by rw[<-afU mG g l];have h1:=apP l hf hl;exact jr gK (first:=[]) (cap:=[]) (.k h1 .sr)
def Qd(f:LI0×LI0)(d:Dg):Bool:=if decide (d.aA=f.1)=true then decide (d.aH=f.2)else false
abbrev a7U(f:LI0×LI0):PV aC:=.fn 123 [.agg [lI f.1,lI f.2]] []
structure sF(d:Dg):Prop where
 r:Na d
 s:d.aA.length<=ah
 o:d.aH.length<=2^20
 e:d.aK.length+1<=ah
theorem apR{n:Nat}(hO:Ok n a2b)(f:LI0×LI0)(l:List Dg)(hp:∀d∈l,sF d)(hl:l.length<=ah):iW (n+4) (.fn 122 [] []) [a7U f,lDg l] [] (tA.put (l.all (Qd f))) []:=by
 have hs:∀d∈l,iW n (a7U f) [.agg d.ps] [] (tA.put (Qd f d)) []:=fun d hd=>pO.a3V hX (first:=[.agg [lI f.1,lI f.2]]) (cap:=[]) (hO 123 [.agg [lI f.1,lI f.2],.agg d.ps] (tA.put (Qd f d)) [] [d.aA.length<=ah,d.aH.length<=ah] (by kernel_rfl) (fun p h=>by
  have h9:=hp d hd;have h8:=h9.o;rcases a1F.1 h with rfl|h
  .exact h9.s
  rw[a2D.1 h];exact h8)) rfl rfl rfl rfl
 have h1:∀d∈l,iW (n+1) (.fn 174 [] [.ptr 0 0 1]) [.agg d.ps] [.cells [a7U f]] (tA.put (!(Qd f d))) [.cells [a7U f]]:=fun d hd=>
  jr gK (first:=[]) (.fr [] (hs d hd) .sr)
 have h2:=apQ l h1 hl;rw[<-Et l (Qd f)];exact bZ.drop hX (Dn hX gK (first:=[]) (cap:=[]) (H1:=[.cells [a7U f]]) (by kernel_rfl) (.k h2 .sr)) rfl rfl
abbrev wCk(l:List Dg)(i:Int)(x:List (Nat×PE aC)):aT aC:=⟨[(0,xL 26 l),(6,xL 26 l),(7,xi l.length),(8,xi i)]++x,[],[]⟩
abbrev cCk(l:List Dg)(k:Nat):Bool:=(yI (l.getD k mG)).2 != 0
def zCk(l:List Dg):Unit⊕Nat->Ex×aT aC
 |.inl _=>(.exit 0,wCk l l.length [(9,xl false)])
 |.inr k=>(.ret,⟨[(2,xi (yI (l.getD k mG)).2)],[(l.getD k mG).ps],[]⟩)
theorem lCk{n:Nat}(hO:Ok n a2b){l:List Dg}(hp:∀d∈l,sF d)(hl:l.length<=ah):Lp n 76 0 (wCk l 0 []) (zCk l (bK (cCk l) l.length)).1 (zCk l (bK (cCk l) l.length)).2:=by
 refine jh (st:=fun i _=>wCk l i []) (g:=gS (cCk l)) (out:=zCk l) (fun _ _=>True) (by kernel_rfl) hl trivial (fun k u m hk _ ih=>?_) (fun _ _=>?_)
 .have h9:=hp _ (gY (d:=mG) hk);unfold gS cCk;exact aN hO (.b (bF hk) (.o (aG hk) (.o h9.r (.o h9.s (.o h9.o (.o h9.e (.ls (.ou nofun) (.nx (ih _ trivial)))))))))
 exact aN hO (.b (fH l.length) (.ou nofun))
def bW(l:List Dg):Int:=if kU (bK (cCk l) l.length)=true then(if(!(l.all (Qd ((l.getD 0 mG).aA,(l.getD 0 mG).aH))))=true then 2 else 0)else(yI (l.getD (Dq 0 (bK (cCk l) l.length)) mG)).2
def akH:fB aC:=cu 76 (a1 aoV) iA bW (fun l=>[∀d∈l,sF d,0<l.length∧l.length<=ah]) a2b
theorem apU:Gd akH:=akF.deep 4 fun n hn hO l hp=>by have h1:∀d∈l,sF d:=hp _ iD;have h2:0<l.length∧l.length<=ah:=hp _ xM;have hs:=apR (n:=n-4) (hO (n-4) (by omega)) ((l.getD 0 mG).aA,(l.getD 0 mG).aH) l h1 h2.2;rw[show n-4+4=n by omega]at hs;have i0:fF 0 l.length:=⟨by omega,by omega⟩;have hl:=lCk (hO n (by omega)) h1 h2.2;show pO X0 Qp _ _ _ (iA.put (bW l)) _;unfold bW;exact aO (hO n (by omega)) (.zh (fun h=>.w (kZ hl () h) (.o i0 (.o i0 (.fr [] hs (.ss .rr .rr))))) (fun h=>.w (l7 hl 0 h) .rr))
open Go Tw Pv dB
theorem a7V{n:Int}(h:0<=n∧n<=6):n=0∨n=1∨n=2∨n=3∨n=4∨n=5∨n=6:=by omega
theorem a7W:(0:Int)<=32:=by decide
def adC:fB aC:=cu 206 (a2 pA pA) (dS (a2 pA pA)) (fun p=>(0,p.2)) (fun p=>[p.1=1,0<=p.2∧p.2<=6]) akH
theorem akI:Gd adC:=apU.add fun n hO p hp=>by
 obtain⟨a,b⟩:=p;have h1:a=1:=hp _ iD;have h2:0<=b∧b<=6:=hp _ xM;subst h1;rcases a7V h2 with rfl|rfl|rfl|rfl|rfl|rfl|rfl
 all_goals exact aO hO (.o a7W (.o a7W (.o a7W (.o a7W (.o a7W .rr)))))
def adD:fB aC:=cu 175 (a2 pA pA) (dS (a2 pA pA)) (fun p=>(0,p.2)) (fun p=>[p.1=1,0<=p.2∧p.2<=6]) adC
theorem akJ:Gd adD:=akI.add fun n hO p hp=>aO hO (.o (hp _ iD) (.o (hp _ xM) .rr))
def Iy:fB aC:=cu 124 (a2 oh iA) oh (fun p=>List.replicate p.2.toNat (-1)) (fun p=>[p.1=[-1],0<=p.2∧p.2<=6]) adD
theorem Y8:Gd Iy:=akJ.add fun n hO p hp=>by
 obtain⟨a,b⟩:=p;have h1:a=[-1]:=hp _ iD;have h2:0<=b∧b<=6:=hp _ xM;subst h1;rcases a7V h2 with rfl|rfl|rfl|rfl|rfl|rfl|rfl
 .exact aO hO (.b (rfl:decide ((0:Int)<0)=false) (.o (rfl:(1:Int)=1) (.o (⟨by decide,by decide⟩:(0:Int)<=0∧(0:Int)<=6) (.b (rfl:decide ((0:Int)>0)=false) (.b (rfl:decide ((0:Int)>9223372036854775807)=false) (.o (rfl:(0:Int)=0) (.o (show(0:Int)<=0 by decide) (.o (show(0:Int)<=(ah:Int) by decide) (.m 8 le8 (.b (rfl:decide ((0:Int)<0)=false) .rr))))))))))
 .exact aO hO (.b (rfl:decide ((1:Int)<0)=false) (.o (rfl:(1:Int)=1) (.o (⟨by decide,by decide⟩:(0:Int)<=1∧(1:Int)<=6) (.b (rfl:decide ((0:Int)>0)=false) (.b (rfl:decide ((1:Int)>9223372036854775807)=false) (.o (rfl:(1:Int)=1) (.o (show(0:Int)<=1 by decide) (.o (show(1:Int)<=(ah:Int) by decide) (.m 8 le8 (.b (rfl:decide ((1:Int)<1)=false) .rr))))))))))
 .exact aO hO (.b (rfl:decide ((2:Int)<0)=false) (.o (rfl:(1:Int)=1) (.o (⟨by decide,by decide⟩:(0:Int)<=2∧(2:Int)<=6) (.b (rfl:decide ((0:Int)>0)=false) (.b (rfl:decide ((2:Int)>9223372036854775807)=false) (.o (rfl:(2:Int)=2) (.o (show(0:Int)<=2 by decide) (.o (show(2:Int)<=(ah:Int) by decide) (.m 8 le8 (.b (rfl:decide ((1:Int)<2)=true) (.o (show(0:Int)<=1 by decide) (.o (show(1:Int)<=2 by decide) (.o (show(2:Int)<=2 by decide) (.o (show(0:Int)<=0 by decide) (.o (show(0:Int)<=1 by decide) (.o (show(1:Int)<=2 by decide) (.b (rfl:decide ((2:Int)<2)=false) .rr)))))))))))))))))
 .exact aO hO (.b (rfl:decide ((3:Int)<0)=false) (.o (rfl:(1:Int)=1) (.o (⟨by decide,by decide⟩:(0:Int)<=3∧(3:Int)<=6) (.b (rfl:decide ((0:Int)>0)=false) (.b (rfl:decide ((3:Int)>9223372036854775807)=false) (.o (rfl:(3:Int)=3) (.o (show(0:Int)<=3 by decide) (.o (show(3:Int)<=(ah:Int) by decide) (.m 8 le8 (.b (rfl:decide ((1:Int)<3)=true) (.o (show(0:Int)<=1 by decide) (.o (show(1:Int)<=3 by decide) (.o (show(3:Int)<=3 by decide) (.o (show(0:Int)<=0 by decide) (.o (show(0:Int)<=1 by decide) (.o (show(1:Int)<=3 by decide) (.b (rfl:decide ((2:Int)<3)=true) (.o (show(0:Int)<=2 by decide) (.o (show(2:Int)<=3 by decide) (.o (show(3:Int)<=3 by decide) (.o (show(0:Int)<=0 by decide) (.o (show(0:Int)<=2 by decide) (.o (show(2:Int)<=3 by decide) (.b (rfl:decide ((3:Int)<3)=false) .rr))))))))))))))))))))))))
 .exact aO hO (.b (rfl:decide ((4:Int)<0)=false) (.o (rfl:(1:Int)=1) (.o (⟨by decide,by decide⟩:(0:Int)<=4∧(4:Int)<=6) (.b (rfl:decide ((0:Int)>0)=false) (.b (rfl:decide ((4:Int)>9223372036854775807)=false) (.o (rfl:(4:Int)=4) (.o (show(0:Int)<=4 by decide) (.o (show(4:Int)<=(ah:Int) by decide) (.m 8 le8 (.b (rfl:decide ((1:Int)<4)=true) (.o (show(0:Int)<=1 by decide) (.o (show(1:Int)<=4 by decide) (.o (show(4:Int)<=4 by decide) (.o (show(0:Int)<=0 by decide) (.o (show(0:Int)<=1 by decide) (.o (show(1:Int)<=4 by decide) (.b (rfl:decide ((2:Int)<4)=true) (.o (show(0:Int)<=2 by decide) (.o (show(2:Int)<=4 by decide) (.o (show(4:Int)<=4 by decide) (.o (show(0:Int)<=0 by decide) (.o (show(0:Int)<=2 by decide) (.o (show(2:Int)<=4 by decide) (.b (rfl:decide ((4:Int)<4)=false) .rr))))))))))))))))))))))))
 .exact aO hO (.b (rfl:decide ((5:Int)<0)=false) (.o (rfl:(1:Int)=1) (.o (⟨by decide,by decide⟩:(0:Int)<=5∧(5:Int)<=6) (.b (rfl:decide ((0:Int)>0)=false) (.b (rfl:decide ((5:Int)>9223372036854775807)=false) (.o (rfl:(5:Int)=5) (.o (show(0:Int)<=5 by decide) (.o (show(5:Int)<=(ah:Int) by decide) (.m 8 le8 (.b (rfl:decide ((1:Int)<5)=true) (.o (show(0:Int)<=1 by decide) (.o (show(1:Int)<=5 by decide) (.o (show(5:Int)<=5 by decide) (.o (show(0:Int)<=0 by decide) (.o (show(0:Int)<=1 by decide) (.o (show(1:Int)<=5 by decide) (.b (rfl:decide ((2:Int)<5)=true) (.o (show(0:Int)<=2 by decide) (.o (show(2:Int)<=5 by decide) (.o (show(5:Int)<=5 by decide) (.o (show(0:Int)<=0 by decide) (.o (show(0:Int)<=2 by decide) (.o (show(2:Int)<=5 by decide) (.b (rfl:decide ((4:Int)<5)=true) (.o (show(0:Int)<=4 by decide) (.o (show(4:Int)<=5 by decide) (.o (show(5:Int)<=5 by decide) (.o (show(0:Int)<=0 by decide) (.o (show(0:Int)<=4 by decide) (.o (show(4:Int)<=5 by decide) (.b (rfl:decide ((5:Int)<5)=false) .rr)))))))))))))))))))))))))))))))
 .exact aO hO (.b (rfl:decide ((6:Int)<0)=false) (.o (rfl:(1:Int)=1) (.o (⟨by decide,by decide⟩:(0:Int)<=6∧(6:Int)<=6) (.b (rfl:decide ((0:Int)>0)=false) (.b (rfl:decide ((6:Int)>9223372036854775807)=false) (.o (rfl:(6:Int)=6) (.o (show(0:Int)<=6 by decide) (.o (show(6:Int)<=(ah:Int) by decide) (.m 8 le8 (.b (rfl:decide ((1:Int)<6)=true) (.o (show(0:Int)<=1 by decide) (.o (show(1:Int)<=6 by decide) (.o (show(6:Int)<=6 by decide) (.o (show(0:Int)<=0 by decide) (.o (show(0:Int)<=1 by decide) (.o (show(1:Int)<=6 by decide) (.b (rfl:decide ((2:Int)<6)=true) (.o (show(0:Int)<=2 by decide) (.o (show(2:Int)<=6 by decide) (.o (show(6:Int)<=6 by decide) (.o (show(0:Int)<=0 by decide) (.o (show(0:Int)<=2 by decide) (.o (show(2:Int)<=6 by decide) (.b (rfl:decide ((4:Int)<6)=true) (.o (show(0:Int)<=4 by decide) (.o (show(4:Int)<=6 by decide) (.o (show(6:Int)<=6 by decide) (.o (show(0:Int)<=0 by decide) (.o (show(0:Int)<=4 by decide) (.o (show(4:Int)<=6 by decide) (.b (rfl:decide ((6:Int)<6)=false) .rr)))))))))))))))))))))))))))))))
open Go Tw Pv dB
structure S3 where
 a:Int
 b:Int
 c:Int
 deriving DecidableEq
abbrev S3.ps(s:S3):List (PV aC):=[.int .i64 s.a,.int .i64 s.b,.int .i64 s.c]
def S3.get(s:S3):Nat->Int
 | 0=>s.a
 | 1=>s.b
 |_=>s.c
def S3.set(s:S3)(k:Nat)(v:Int):S3:=match k with
 | 0=>⟨v,s.b,s.c⟩
 | 1=>⟨s.a,v,s.c⟩
 |_=>⟨s.a,s.b,v⟩
structure Jb where
 s:LI0
 o:LI0
 D:List Dg
 g:LI0
abbrev Jb.ps(J:Jb)(op:PV aC):List (PV aC):=[lI J.s,lI J.o,lDg J.D,lI J.g,op]
def lq(d:Dg)(x c:Int):Bool:=if decide (x>=0)=true then((aj d x).var==c)else false
def LG(d:Dg)(x c g:Int):Int:=if lq d x c=true then(aj d x).ay.getD g.toNat 0 else x
theorem aaT{d:Dg}{x c:Int}(e:decide (x>=0)=false):lq d x c=false:=by unfold lq;rw[e];rfl
theorem a7X{d:Dg}{x c:Int}(e:decide (x>=0)=true):lq d x c=((aj d x).var==c):=by unfold lq;rw[e];rfl
abbrev lF(D:List Dg)(k:Nat):Dg:=D.getD k mG
def jX(D:List Dg)(s:S3)(c:Int):Bool:=!(kU (bK (fun k=>lq (lF D k) (s.get k) c) D.length))
def bM(D:List Dg)(s:S3)(c g:Int):S3:=aU (fun k y=>y.set k (LG (lF D k) (y.get k) c g)) D.length 0 s
def fO(D:List Dg):S3:=aU (fun k y=>y.set k (lF D k).root) D.length 0 ⟨0,0,0⟩
theorem three{k n:Nat}(h:k<n)(hn:n<=3):k=0∨k=1∨k=2:=by omega
theorem m3{n:Nat}(h:n<=3):n<=ah:=by unfold ah;omega
section
variable {M f:Nat} {a cc:List (PV aC)} {H:List (PB aC)}
abbrev wAs(J:Jb)(op:PV aC)(H:List (PB aC))(s:S3)(c:Int)(i:Int)(x:List (Nat×PE aC)):aT aC:=⟨[(2,xi c),(4,.loc 1 0),(10,xL 26 J.D),(11,xi J.D.length),(12,xi i)]++x,[J.ps op,s.ps],H⟩
def zAs(J:Jb)(op:PV aC)(H:List (PB aC))(s:S3)(c:Int):Unit⊕Nat->Ex×aT aC
 |.inl _=>(.exit 0,wAs J op H s c J.D.length [(13,xl false)])
 |.inr k=>(.ret,⟨[(6,xl true)],[J.ps op,s.ps,(lF J.D k).ps],H⟩)
theorem lAs(J:Jb)(s:S3)(c:Int)(hD:J.D.length<=3)(hr:∀k,k<J.D.length->decide (s.get k>=0)=true->fF (s.get k) (lF J.D k).au.length):Ii M 127 0 H.length (wAs J (.fn f a cc) H s c 0 []) (zAs J (.fn f a cc) H s c (bK (fun k=>lq (lF J.D k) (s.get k) c) J.D.length)).1 (zAs J (.fn f a cc) H s c (bK (fun k=>lq (lF J.D k) (s.get k) c) J.D.length)).2:=by
 refine jh (st:=fun i _=>wAs J (.fn f a cc) H s c i []) (g:=gS (fun k=>lq (lF J.D k) (s.get k) c)) (out:=zAs J (.fn f a cc) H s c) (fun _ _=>True) (by kernel_rfl) (m3 hD) trivial (fun k u m hk _ ih=>?_) (fun _ _=>?_)
 .have h1:=hr k hk;have hg:gS (fun k=>lq (lF J.D k) (s.get k) c) k u=if lq (lF J.D k) (s.get k) c=true then .inr k else .inl u:=rfl
  cases e:decide (s.get k>=0)
  .rw[aaT e,a0q (by simp)]at hg;rw[hg];rcases three hk hD with rfl|rfl|rfl
   all_goals exact aN gK (.b (bF hk) (.o (aG hk) (.b e (.nx (ih _ trivial)))))
  rw[a7X e]at hg;rw[hg];rcases three hk hD with rfl|rfl|rfl
  all_goals exact aN gK (.b (bF hk) (.o (aG hk) (.b e (.o (h1 e) (.ls (.ou nofun) (.nx (ih _ trivial)))))))
 exact aN gK (.b (fH J.D.length) (.ou nofun))
theorem a7Y(J:Jb)(s:S3)(c:Int)(hD:J.D.length<=3)(hr:∀k,k<J.D.length->decide (s.get k>=0)=true->fF (s.get k) (lF J.D k).au.length):bZ X0 Qp (iC (M+1)) (.fn 127 [] []) [.agg (J.ps (.fn f a cc)),.agg s.ps,.int .i64 c] H (.bool (jX J.D s c)) H:=by
 have lp:=lAs (M:=M) (f:=f) (a:=a) (cc:=cc) (H:=H) J s c hD hr;unfold jX;cases h:kU (bK (fun k=>lq (lF J.D k) (s.get k) c) J.D.length)
 .exact fK gK (first:=[]) (cap:=[]) (.w (l7 lp 0 h) .er)
 exact fK gK (first:=[]) (cap:=[]) (.w (kZ lp () h) .er)
abbrev wAf(J:Jb)(op:PV aC)(H:List (PB aC))(s:S3)(c g:Int)(i:Int)(x:List (Nat×PE aC)):aT aC:=⟨[(2,xi c),(3,xi g),(5,.loc 1 0),(8,.loc 2 0),(12,xL 26 J.D),(13,xi J.D.length),(14,xi i)]++x,[J.ps op,s.ps,[.int .i64 0,.int .i64 0,.int .i64 0]],H⟩
structure a2c(d:Dg)(x c g:Int):Prop where
 n:decide (x>=0)=true->fF x d.au.length
 k:lq d x c=true->fF g (aj d x).ay.length
theorem JG(J:Jb)(s:S3)(c g:Int)(hD:J.D.length<=3)(hr:∀k,k<J.D.length->a2c (lF J.D k) (s.get k) c g):bZ X0 Qp (iC (M+1)) (.fn 129 [] []) [.agg (J.ps (.fn f a cc)),.agg s.ps,.int .i64 c,.int .i64 g] H (.agg (bM J.D s c g).ps) H:=by
 have lp:Ii M 129 0 H.length (wAf J (.fn f a cc) H s c g 0 []) (.exit 0) (wAf J (.fn f a cc) H (bM J.D s c g) c g J.D.length [(15,xl false)]):=by
  refine vM (σ:=S3) (N:=J.D.length) (g:=fun k y=>y.set k (LG (lF J.D k) (y.get k) c g)) (s0:=s) (st:=fun i y=>wAf J (.fn f a cc) H y c g i []) (fin:=fun y=>wAf J (.fn f a cc) H y c g J.D.length [(15,xl false)]) (fun j y=>∀k,j<=k->k<J.D.length->y.get k=s.get k) (by kernel_rfl) (m3 hD) (fun _ _ _=>rfl) (fun j y hj hy=>?_) (fun j y hj hy m e p g9=>?_) (fun y _=>?_)
  .intro k hk kN;rw[<-hy k (by omega) kN];rcases three kN hD with rfl|rfl|rfl<;>rcases three hj hD with rfl|rfl|rfl<;>first|rfl|omega
  .have h1:=hr j hj;rw[<-hy j (a0E _) hj]at h1;obtain⟨h1,h2⟩:=h1;unfold LG at g9;rcases three hj hD with rfl|rfl|rfl
   all_goals
    cases e1:decide (y.get _>=0)
    .unfold lq at g9;rw[e1]at g9;exact aN gK (.b (bF hj) (.o (aG hj) (.b e1 (.go g9))))
    .have h3:=h1 e1;cases e2:(aj (lF J.D _) (y.get _)).var==c
     .unfold lq at g9;rw[e1,a0u rfl,e2]at g9;exact aN gK (.b (bF hj) (.o (aG hj) (.b e1 (.o h3 (.b e2 (.go g9))))))
     .unfold lq at g9 h2;rw[e1,a0u rfl,e2]at g9 h2;exact aN gK (.b (bF hj) (.o (aG hj) (.b e1 (.o h3 (.b e2 (.o h3 (.o (h2 rfl) (.go g9))))))))
  exact aN gK (.b (fH J.D.length) .ex)
 exact fK gK (first:=[]) (cap:=[]) (.w lp .er)
abbrev wSt(J:Jb)(op:PV aC)(H:List (PB aC))(s:S3)(i:Int)(x:List (Nat×PE aC)):aT aC:=⟨[(2,.loc 1 0),(6,xL 26 J.D),(7,xi J.D.length),(8,xi i)]++x,[J.ps op,s.ps],H⟩
theorem a06(J:Jb)(hD:J.D.length<=3):bZ X0 Qp (iC (M+1)) (.fn 130 [] []) [.agg (J.ps (.fn f a cc))] H (.agg (fO J.D).ps) H:=by
 have lp:Ii M 130 0 H.length (wSt J (.fn f a cc) H ⟨0,0,0⟩ 0 []) (.exit 0) (wSt J (.fn f a cc) H (fO J.D) J.D.length [(9,xl false)]):=by
  refine vM (σ:=S3) (N:=J.D.length) (g:=fun k y=>y.set k (lF J.D k).root) (s0:=⟨0,0,0⟩) (st:=fun i y=>wSt J (.fn f a cc) H y i []) (fin:=fun y=>wSt J (.fn f a cc) H y J.D.length [(9,xl false)]) (fun _ _=>True) (by kernel_rfl) (m3 hD) trivial (fun _ _ _ _=>trivial) (fun j y hj _ m e p g9=>?_) (fun y _=>?_)
  .rcases three hj hD with rfl|rfl|rfl
   all_goals exact aN gK (.b (bF hj) (.o (aG hj) (.go g9)))
  exact aN gK (.b (fH J.D.length) .ex)
 exact fK gK (first:=[]) (cap:=[]) (.w lp .er)
end
end Go.Proofs.YtmobpoiejckagaaGreat
namespace Pv
open Go Tw
section
variable {X:kP} {P:LI1}
theorem bZ.fzR(hX:bP X P){call:aY}{fv:PV X.Γ}{xs:List (PV X.Γ)}{H H1:List (PB X.Γ)}{v v':PV X.Γ}(hs:bZ X P call fv xs H v H1)(is:List Nat)(hv:views H1 [v]=some [v'])(ho:∀i,i∈kG.ku [v]->i∈is):bZ X P call fv xs H v' (bn is H1):=by intro A m h tf qN hr hf hx;obtain⟨w,h',ws,m1,k1,k2,k3,k4,k5,k6⟩:=hs A m h tf qN hr hf hx;have hF:=iJ (h:=h') is m1;have w1:=(lM (m':=dw is m1) hX k2 (.cons k3 .nil) hv ho).mono fun b hb=>FA.gone k2 hb;obtain⟨x,r,e,h1,_⟩:=w1.inv;cases e;exact⟨w,h',ws,dw is m1,k1,k2.bn is,h1,k4.trans hF.1,k5.trans hF.2,k6⟩
end
end Pv
namespace Go.Proofs.YtmobpoiejckagaaGreat
open Go Tw Pv dB
def aW(D:List Dg)(s:S3):List V:=(List.range D.length).map fun k=>oq (lF D k) (s.get k)
def gCe(D:List Dg)(s:S3)(k:Nat)(l:List V):List V:=l++[oq (lF D k) (s.get k)]
theorem a7Z(D:List Dg)(s:S3):aU (gCe D s) D.length 0 []=aW D s:=by have:=bU (g:=gCe D s) (m:=D.length) (k:=0) (s:=[]) (fun k l=>l=(List.range k).map fun k=>oq (lF D k) (s.get k)) rfl (fun j l _ _ e=>by rw[gCe,e,abX,a4s];rfl);rw[a3I]at this;exact this
abbrev wCe(J:Jb)(op:PV aC)(H:List (PB aC))(s:S3)(l:List V)(i:Int)(x:List (Nat×PE aC)):aT aC:=⟨[(3,.loc 1 0),(4,.val (.own H.length)),(8,xL 26 J.D),(9,xi J.D.length),(10,xi i)]++x,[J.ps op,s.ps],H++[.list false false 39 l]⟩
theorem a2d{M f:Nat}(J:Jb)(s:S3)(hD:J.D.length<=3)(hr:∀k,k<J.D.length->fF (ji (s.get k)) (lF J.D k).aK.length):bZ X0 Qp (iC (M+1)) (.fn 128 [] []) [.agg (J.ps (.fn f [] [])),.agg s.ps] [] (lV (aW J.D s)) []:=by
 have lp:Ii M 128 0 0 (wCe J (.fn f [] []) [] s [] 0 []) (.exit 0) (wCe J (.fn f [] []) [] s (aW J.D s) J.D.length [(11,xl false)]):=by
  rw[<-a7Z J.D s];refine vM (σ:=List V) (N:=J.D.length) (g:=gCe J.D s) (s0:=[]) (st:=fun i l=>wCe J (.fn f [] []) [] s l i []) (fin:=fun l=>wCe J (.fn f [] []) [] s l J.D.length [(11,xl false)]) (fun k l=>l.length=k) (by kernel_rfl) (m3 hD) rfl (fun j y hj hy=>by simp[gCe,hy]) (fun j y hj hy m e p g9=>?_) (fun y _=>?_)
  .have h1:=hr j hj;have h2:y.length+[oq (lF J.D j) (s.get j)].length<=ah:=by rw[hy,a3j];exact m3 (by omega)
   rcases three hj hD with rfl|rfl|rfl
   all_goals exact aN gK (.b (bF hj) (.o (aG hj) (.o h1 (.o h2 (.goG [.gc [2]] g9)))))
  exact aN gK (.b (fH J.D.length) .ex)
 have h0:bZ X0 Qp (iC (M+1)) (.fn 128 [] []) [.agg (J.ps (.fn f [] [])),.agg s.ps] [] (.own 0) ([]++[.list false false 39 (aW J.D s)]):=fK gK (first:=[]) (cap:=[]) (.wG [.FZ 4 39] lp .er);exact bZ.cut hX (bZ.fzR hX h0 [0] (v':=lV (aW J.D s)) rfl (by decide)) rfl rfl rfl rfl
theorem aaU{M f:Nat}{u:Int}(J:Jb)(s:S3)(hD:J.D.length<=3)(hr:∀k,k<J.D.length->fF (ji (s.get k)) (lF J.D k).aK.length):bZ X0 Qp (iC (M+1)) (.fn 128 [] []) [.agg (J.ps (.fn f [] [.ptr 0 0 1])),.agg s.ps] [.aF [.int .u8 u]] (lV (aW J.D s)) [.aF [.int .u8 u]]:=by
 have lp:Ii M 128 0 1 (wCe J (.fn f [] [.ptr 0 0 1]) [.aF [.int .u8 u]] s [] 0 []) (.exit 0) (wCe J (.fn f [] [.ptr 0 0 1]) [.aF [.int .u8 u]] s (aW J.D s) J.D.length [(11,xl false)]):=by
  rw[<-a7Z J.D s];refine vM (σ:=List V) (N:=J.D.length) (g:=gCe J.D s) (s0:=[]) (st:=fun i l=>wCe J (.fn f [] [.ptr 0 0 1]) [.aF [.int .u8 u]] s l i []) (fin:=fun l=>wCe J (.fn f [] [.ptr 0 0 1]) [.aF [.int .u8 u]] s l J.D.length [(11,xl false)]) (fun k l=>l.length=k) (by kernel_rfl) (m3 hD) rfl (fun j y hj hy=>by simp[gCe,hy]) (fun j y hj hy m e p g9=>?_) (fun y _=>?_)
  .have h1:=hr j hj;have h2:y.length+[oq (lF J.D j) (s.get j)].length<=ah:=by rw[hy,a3j];exact m3 (by omega)
   rcases three hj hD with rfl|rfl|rfl
   all_goals exact aN gK (.b (bF hj) (.o (aG hj) (.o h1 (.o h2 (.goG [.gc [3]] g9)))))
  exact aN gK (.b (fH J.D.length) .ex)
 have h0:bZ X0 Qp (iC (M+1)) (.fn 128 [] []) [.agg (J.ps (.fn f [] [.ptr 0 0 1])),.agg s.ps] [.aF [.int .u8 u]] (.own 1) ([.aF [.int .u8 u]]++[.list false false 39 (aW J.D s)]):=fK gK (first:=[]) (cap:=[]) (.wG [.FZ 4 39] lp .er);exact bZ.cut hX (bZ.fzR hX h0 [1] (v':=lV (aW J.D s)) rfl (by decide)) rfl rfl rfl rfl
open Go Tw Pv dB
def S3.l(s:S3):LI0:=[s.a,s.b,s.c]
theorem uSt:Tryz.prog.underlying 148=some (.array 3 3):=by kernel_rfl
theorem akK(a b:S3):aB Qp (Op.equal 148 (.agg (Dx .i64 a.l)) (.agg (Dx .i64 b.l)))=some (decide (a=b)):=by have:=BQ (P:=Qp) 9998 (k:=.i64) (l:=a.l) (l':=b.l) uSt (by kernel_rfl) a3E (by kernel_rfl) rfl rfl;refine Eq.trans this ?_;obtain⟨a1,a2,a3⟩:=a;obtain⟨b1,b2,b3⟩:=b;simp[S3.l]
def kS:oN X0 Qp 148 S3 where
 pv x:=.agg x.ps
 tv x:=.agg [.int .i64 x.a,.int .i64 x.b,.int .i64 x.c]
 v x:=.agg (Dx .i64 x.l)
 hp _:=rfl
 ht _:=rfl
 hc em x:=by kernel_rfl
 hf x l:=afe uSt akK x l
 hk:=aff uSt akK
structure Mk where
 e:List V
 n:List Br
 k:List (S3×Int)
def Vk(D:List Dg)(f:S3->Mk->Int×Mk)(s:S3)(c:Int)(j:Nat)(y:LI0×Mk):LI0×Mk:=(y.1++[(f (bM D s c j) y.2).1],(f (bM D s c j) y.2).2)
def knS(k:List (S3×Int))(s:S3):Int:=((k.find? fun e=>decide (e.1=s)).map (·.2)).getD 0
def jO(J:Jb)(op:List V->V):LI0->S3->Mk->Int×Mk
 | [],s,x=>(i64.wrap (0-((x.e++[op (aW J.D s)]).length:Int)),{ x with e:=x.e++[op (aW J.D s)] })
 |c::r,s,x=>if jX J.D s c=true then(if decide (J.g.getD c.toNat 0>=0)=true then jO J op r (bM J.D s c (J.g.getD c.toNat 0)) x
   else if s∈x.k.map (·.1)then(knS x.k s,x)
   else
    let y:=aU (Vk J.D (jO J op r) s c) (J.s.getD c.toNat 0).toNat 0 ([],x)
    ((y.2.n.length:Int),⟨y.2.e,y.2.n++[⟨c,y.1⟩],y.2.k++[(s,(y.2.n.length:Int))]⟩))
  else jO J op r s x
abbrev Iz(k:List (S3×Int)):List (PV aC×PV aC):=kS.es (k.map fun e=>(e.1,.int .i64 e.2))
abbrev pM:List (PV aC):=[.ptr 2 0 5,.ptr 1 0 5,.ptr 3 0 1,.ptr 4 0 1]
abbrev HM0(J:Jb)(f:Nat)(x:Mk):List (PB aC):=[.map (Iz x.k),.cells [lI J.s,lI J.o,.own 5,.own 6,.int .i64 0],.aF (J.ps (.fn f [] [])),.aF [.fn 126 [] pM],.aF [.map 0],zV x.e,zW x.n]
abbrev aaV(J:Jb)(f:Nat)(x:Mk):List (PB aC):=[.map (Iz x.k),.cells [lI J.s,lI J.o,.own 7,.own 8,.int .i64 0],.aF (J.ps (.fn f [] [])),.aF [.fn 126 [] pM],.aF [.map 0],.gone,.gone,zV x.e,zW x.n]
abbrev HM1(J:Jb)(f:Nat)(u:Int)(x:Mk):List (PB aC):=[.map (Iz x.k),.cells [lI J.s,lI J.o,.own 6,.own 7,.int .i64 0],.aF (J.ps (.fn f [] [.ptr 5 0 1])),.aF [.fn 126 [] pM],.aF [.map 0],.aF [.int .u8 u],zV x.e,zW x.n]
abbrev aaW(J:Jb)(f:Nat)(u:Int)(x:Mk):List (PB aC):=[.map (Iz x.k),.cells [lI J.s,lI J.o,.own 8,.own 9,.int .i64 0],.aF (J.ps (.fn f [] [.ptr 5 0 1])),.aF [.fn 126 [] pM],.aF [.map 0],.aF [.int .u8 u],.gone,.gone,zV x.e,zW x.n]
open Go Tw Pv dB
theorem S3.jF{s:S3}{i k:Nat}{v:Int}(hi:i<3)(hk:k<3):(s.set i v).get k=if k=i then v else s.get k:=by
 match i,k,hi,hk with
 | 0,0,_,_=>rfl
 | 0,1,_,_=>rfl
 | 0,2,_,_=>rfl
 | 1,0,_,_=>rfl
 | 1,1,_,_=>rfl
 | 1,2,_,_=>rfl
 | 2,0,_,_=>rfl
 | 2,1,_,_=>rfl
 | 2,2,_,_=>rfl
 |i+3,_,h,_=>omega
 |_,k+3,_,h=>omega
theorem JH{D:List Dg}(hD:D.length<=3)(t:S3)(c g:Int){k:Nat}(hk:k<D.length):(bM D t c g).get k=LG (lF D k) (t.get k) c g:=by
 have:=bU (g:=fun k (y:S3)=>y.set k (LG (lF D k) (y.get k) c g)) (m:=D.length) (k:=0) (s:=t) (fun j y=>∀k,k<D.length->y.get k=if k<j then LG (lF D k) (t.get k) c g else t.get k) (fun k _=>by rw[a0q (by omega)]) (fun j y _ hj hy k hk=>by
  rw[S3.jF (by omega) (by omega)];by_cases e:k=j
  .subst e;rw[a0u rfl,a0u (by omega),hy k hk,a0q (by omega)]
  rw[a0q e,hy k hk];by_cases e2:k<j
  .rw[a0u e2,a0u (by omega)]
  rw[a0q e2,a0q (by omega)])
 have h:=this k hk;rw[a0u (by omega)]at h;exact h
theorem DW{D:List Dg}{t:S3}{c:Int}:jX D t c=true↔∃k,k<D.length∧lq (lF D k) (t.get k) c=true:=by
 unfold jX;constructor
 .intro h;refine acd fun h2=>?_;have:kU (bK (fun k=>lq (lF D k) (t.get k) c) D.length)=true:=eG.2 fun k hk=>by
   cases e:lq (lF D k) (t.get k) c
   .rfl
   exact absurd ⟨k,hk,e⟩ h2
  rw[this]at h;cases h
 rintro⟨k,hk,h⟩;cases e:kU (bK (fun k=>lq (lF D k) (t.get k) c) D.length)
 .rfl
 have:=eG.1 e k hk;rw[h]at this;cases this
theorem EC{d:Dg}{x c:Int}:lq d x c=true↔0<=x∧(aj d x).var=c:=by
 unfold lq;split
 .rename_i h;simp at h;simp[h]
 rename_i h;simp at h;simp;omega
structure DJ(J:Jb)(d:Dg):Prop where
 t:Ce d
 n:d.au.length<=6000
 s:d.aA=J.s
 o:d.aH=J.o
 rk:∀i,i<d.au.length->∀k,k<(fE d i).ay.length->d.aH.idxOf (fE d i).var+1<=Ey d.aH d.au ((fE d i).ay.getD k 0)
 two:∀i,i<d.au.length->2<=(fE d i).ay.length
structure kQ(J:Jb):Prop where
 d3:J.D.length<=3
 bI:ng J.s
 ord:iG J.s.length J.o=true
 dg:∀k,k<J.D.length->DJ J (lF J.D k)
 gl:J.g.length=J.s.length
 gv:∀c,fF c J.s.length->0<=J.g.getD c.toNat 0->J.g.getD c.toNat 0<J.s.getD c.toNat 0
def Dp(J:Jb)(a:Nat)(t:S3):Prop:=∀k,k<J.D.length->jC (lF J.D k) (t.get k) (lF J.D k).au.length∧a<=Ey J.o (lF J.D k).au (t.get k)
theorem Dp.le{J:Jb}{a b:Nat}{t:S3}(h:Dp J a t)(hb:b<=a):Dp J b t:=fun k hk=>⟨(h k hk).1,by have:=(h k hk).2;omega⟩
section
variable {J:Jb} (hJ:kQ J) {a:Nat} {t:S3} {c:Int} {r:LI0}
include hJ
theorem kQ.o2:J.o.Nodup∧J.o.length=J.s.length∧∀c∈J.o,fF c J.s.length:=by have ho:=hJ.ord;unfold iG at ho;rw[a1n]at ho;exact⟨ho.2.2,ho.1,fun c hc=>⟨(ho.2.1 c hc).1,(ho.2.1 c hc).2⟩⟩
theorem kQ.at_(hr:J.o.drop a=c::r):a<J.o.length∧J.o.getD a 0=c∧J.o.drop (a+1)=r∧c∈J.o∧J.o.idxOf c=a∧fF c J.s.length:=by
 have aQ:a<J.o.length:=by have:=congrArg List.length hr;rw[a3H,a4q]at this;omega
 have hd:=a6d aQ;rw[hr]at hd;obtain⟨hc,vC⟩:=ahg hd;have EL:c∈J.o:=by rw[hc];exact a4D aQ
 obtain⟨h1,h2,h3⟩:=kQ.o2 hJ;exact⟨aQ,by rw[hc];simp[List.getD,a0n aQ],vC.symm,EL,by rw[hc];exact h1.idxOf_getElem a aQ,h3 c EL⟩
theorem a07(hr:J.o.drop a=c::r)(h:jX J.D t c=true):¬Dp J (a+1) t:=fun hd=>by obtain⟨k,hk,h1⟩:=DW.1 h;obtain⟨x0,hv⟩:=EC.1 h1;have:=(hd k hk).2;unfold Ey at this;rw[a0q (by omega)]at this;have e:((lF J.D k).au.getD (t.get k).toNat kW).var=c:=hv;rw[e,(kQ.at_ hJ hr).2.2.2.2.1]at this;omega
theorem a2e(hr:J.o.drop a=c::r)(hd:Dp J a t){k:Nat}(hk:k<J.D.length)(hn:lq (lF J.D k) (t.get k) c=false):a+1<=Ey J.o (lF J.D k).au (t.get k):=by
 have h1:=(hd k hk).2;have h2:=kQ.at_ hJ hr;by_cases x0:t.get k<0
 .unfold Ey;rw[a0u x0];omega
 have iF:((lF J.D k).au.getD (t.get k).toNat kW).var≠c:=fun e=>by have:lq (lF J.D k) (t.get k) c=true:=EC.2 ⟨by omega,e⟩;rw[hn]at this;cases this
 unfold Ey at h1 ⊢;rw[a0q x0]at h1 ⊢;rcases a4u a (J.o.idxOf ((lF J.D k).au.getD (t.get k).toNat kW).var)with h3|h3
 .exact h3
 exfalso;have e:J.o.idxOf ((lF J.D k).au.getD (t.get k).toNat kW).var=a:=by omega
 have aQ:J.o.idxOf ((lF J.D k).au.getD (t.get k).toNat kW).var<J.o.length:=by rw[e];exact h2.1
 have g:J.o.getD (J.o.idxOf ((lF J.D k).au.getD (t.get k).toNat kW).var) 0=((lF J.D k).au.getD (t.get k).toNat kW).var:=by rw[List.getD,a0n aQ,a6k];exact a8Z aQ
 rw[e,h2.2.1]at g;exact iF g.symm
theorem Vl(hr:J.o.drop a=c::r)(hd:Dp J a t)(h:jX J.D t c=false):Dp J (a+1) t:=fun k hk=>by
 refine⟨(hd k hk).1,a2e hJ hr hd hk ?_⟩;cases e:lq (lF J.D k) (t.get k) c
 .rfl
 .have:=DW.2 ⟨k,hk,e⟩;rw[h]at this;cases this
theorem IB(hd:Dp J a t){k:Nat}(hk:k<J.D.length)(h:lq (lF J.D k) (t.get k) c=true):fF (t.get k) (lF J.D k).au.length∧(aj (lF J.D k) (t.get k)).var=c∧((aj (lF J.D k) (t.get k)).ay.length:Int)=J.s.getD c.toNat 0:=by obtain⟨x0,hv⟩:=EC.1 h;have hr:fF (t.get k) (lF J.D k).au.length:=⟨x0,(hd k hk).1.1⟩;have hdj:=hJ.dg k hk;have:=hdj.t.ksz (t.get k).toNat (by have:=hr.2;omega);refine⟨hr,hv,?_⟩;have e:(aj (lF J.D k) (t.get k))=fE (lF J.D k) (t.get k).toNat:=rfl;rw[e,this,<-e,hv,hdj.s]
theorem nG(hr:J.o.drop a=c::r)(hd:Dp J a t){j:Int}(hj:0<=j∧j<J.s.getD c.toNat 0):Dp J (a+1) (bM J.D t c j):=fun k hk=>by
 rw[JH hJ.d3 t c j hk];unfold LG;split
 .rename_i h;obtain⟨h1,h2,h3⟩:=IB hJ hd hk h;have hdj:=hJ.dg k hk;have aQ:(t.get k).toNat<(lF J.D k).au.length:=by have:=h1.1;have:=h1.2;omega
  have Kz:j.toNat<(fE (lF J.D k) (t.get k).toNat).ay.length:=by have h3:((fE (lF J.D k) (t.get k).toNat).ay.length:Int)=J.s.getD c.toNat 0:=h3;omega
  have g1:=hdj.t.zS (t.get k).toNat aQ j.toNat Kz;have g2:=hdj.rk (t.get k).toNat aQ j.toNat Kz;refine⟨⟨by have:=g1.1;show(fE (lF J.D k) (t.get k).toNat).ay.getD j.toNat 0<_;omega,g1.2⟩,?_⟩;have e:(fE (lF J.D k) (t.get k).toNat).var=c:=h2;rw[hdj.o,e,(kQ.at_ hJ hr).2.2.2.2.1]at g2;exact g2
 .rename_i h;exact⟨(hd k hk).1,a2e hJ hr hd hk (by simpa using h)⟩
theorem JI(hd:Dp J a t){j:Int}(hj:0<=j∧j<J.s.getD c.toNat 0){k:Nat}(hk:k<J.D.length):a2c (lF J.D k) (t.get k) c j:=by refine⟨fun h=>⟨by simpa using h,(hd k hk).1.1⟩,fun h=>?_⟩;have:=(IB hJ hd hk h).2.2;exact⟨hj.1,by rw[this];exact hj.2⟩
theorem Vm(hr:J.o.drop a=c::r)(hd:Dp J a t)(h:jX J.D t c=true):2<=(J.s.getD c.toNat 0).toNat:=by obtain⟨k,hk,h1⟩:=DW.1 h;obtain⟨h2,h3,h4⟩:=IB hJ hd hk h1;have:=(hJ.dg k hk).two (t.get k).toNat (by have:=h2.1;have:=h2.2;omega);have h4:((fE (lF J.D k) (t.get k).toNat).ay.length:Int)=J.s.getD c.toNat 0:=h4;omega
theorem JJ(hd:Dp J J.o.length t){k:Nat}(hk:k<J.D.length):t.get k<0∧fF (ji (t.get k)) (lF J.D k).aK.length:=by
 have h1:=hd k hk;have:t.get k<0:=by
  refine acd fun h=>?_;have h2:=h1.2;unfold Ey at h2;rw[a0q h]at h2;have hdj:=hJ.dg k hk;have aQ:(t.get k).toNat<(lF J.D k).au.length:=by have:=h1.1.1;omega
  have hv:=hdj.t.var (t.get k).toNat aQ;rw[hdj.s]at hv;have:=a4H.2 (kE hJ.ord hv);have e:(fE (lF J.D k) (t.get k).toNat).var=((lF J.D k).au.getD (t.get k).toNat kW).var:=rfl;rw[e]at this;omega
 exact⟨this,h1.1.2 this⟩
end
open Go Tw Pv dB
def ov(g q:LI0):LI0:=List.zipWith (fun a b=>if 0<=a then a else b) g q
theorem Vo{g q:LI0}{k:Nat}(h:g.length=q.length):(ov g q).getD k 0=if k<g.length then(if 0<=g.getD k 0 then g.getD k 0 else q.getD k 0)else 0:=by
 unfold ov;by_cases hk:k<g.length
 .rw[a0u hk];simp[List.getD,List.getElem?_zipWith,a0n hk,a0n (show k<q.length by omega)]
 rw[a0q hk];simp[List.getD,List.getElem?_zipWith,a4r (show g.length<=k by omega)]
def a8a(J:Jb)(op:List V->V)(q:LI0)(t:S3)(v:V):Prop:=∃l:List V,l.length=J.D.length∧(∀k,k<J.D.length->To (lF J.D k) (ov J.g q) (t.get k) (l.getD k V0))∧v=op l
def Sem(J:Jb)(op:List V->V)(v:Int)(t:S3)(x:EN):Prop:=∀Z:Dg,Z.aK.length<2^61->x.1 <+: Z.aK->x.2 <+: Z.au->∀q,jf J.s q=true->∃u,To Z q v u∧a8a J op q t u
theorem Sem.mono{J:Jb}{op:List V->V}{v:Int}{t:S3}{x y:EN}(h:Sem J op v t x)(hp:Q8 x y):Sem J op v t y:=fun Z hZ h1 h2=>h Z hZ (hp.1.trans h1) (hp.2.trans h2)
abbrev Mk.en(x:Mk):EN:=(x.e,x.n)
def Gs(v:V):Prop:=YC v=true∧0<=v.f
structure XOk(J:Jb)(op:List V->V)(x:Mk):Prop where
 v:PtV J.s J.o x.en
 k:∀e∈x.k,fF e.2 x.n.length∧jX J.D e.1 (x.n.getD e.2.toNat kW).var=true∧Sem J op e.2 e.1 x.en
 nd:(x.k.map (·.1)).Nodup
 e:∀v∈x.e,Gs v
 w:∀b∈x.n,∀v∈b.ay,Gi v
structure a3X(J:Jb)(op:List V->V)(a:Nat)(w:Nat)(t:S3)(x:Mk)(z:Int×Mk):Prop where
 pre:Q8 x.en z.2.en
 el:z.2.e.length<=x.e.length+w
 nl:z.2.n.length+1<=x.n.length+w
 ok:XOk J op z.2
 rf:Bg J.o z.2.en z.1 z.2.n.length a
 sm:Sem J op z.1 t z.2.en
 ks:∀e∈z.2.k,e∈x.k∨Dp J a e.1
 w:Gi z.1
theorem XOk.mono{J:Jb}{op:List V->V}{x:Mk}{e:List V}(h:XOk J op x)(hp:x.e <+: e)(he:∀v∈e,Gs v):XOk J op { x with e:=e }:=by have hq:Q8 x.en (e,x.n):=⟨hp,a4K⟩;exact⟨⟨h.v.var,h.v.ksz,fun i hi k hk=>(h.v.zS i hi k hk).mono hq (a0E _) (a9I hi) (a0E _)⟩,fun e he=>⟨(h.k e he).1,(h.k e he).2.1,(h.k e he).2.2.mono hq⟩,h.nd,he,h.w⟩
theorem Qe{J:Jb}(hJ:kQ J){op:List V->V}{q:LI0}{t:S3}{a:Nat}(hd:Dp J a t){c j:Int}{u:V}(hj:(ov J.g q).getD c.toNat 0=j)(h:a8a J op q (bM J.D t c j) u):a8a J op q t u:=by
 obtain⟨l,h1,h2,h3⟩:=h;refine⟨l,h1,fun k hk=>?_,h3⟩;have h4:=h2 k hk;rw[JH hJ.d3 t c j hk]at h4;unfold LG at h4;split at h4
 .rename_i h5;obtain⟨h6,h7,_⟩:=IB hJ hd hk h5;refine .step h6.1 ?_;rw[h7,hj];exact h4
 exact h4
def xI(J:Jb)(op:List V->V):Prop:=∀t,Dp J J.o.length t->Gs (op (aW J.D t))
theorem aaX{J:Jb}(hJ:kQ J)(op:List V->V)(kY:xI J op){t:S3}{x:Mk}(hd:Dp J J.o.length t)(hx:XOk J op x)(hb:x.e.length+1<=2^60):a3X J op J.o.length 1 t x (jO J op [] t x):=by
 have e0:i64.wrap (0-((x.e++[op (aW J.D t)]).length:Int))=-1-(x.e.length:Int):=by rw[a1o,a3j,eP (by omega) (by omega)];omega
 obtain⟨_,e2⟩:=DV (k:=x.e.length) (by omega);have hp:x.e <+: x.e++[op (aW J.D t)]:=a90 _ _;show a3X J op J.o.length 1 t x (i64.wrap (0-((x.e++[op (aW J.D t)]).length:Int)),_);rw[e0];refine⟨⟨hp,a4K⟩,by simp,a0E _,hx.mono hp (fun v hv=>by rcases a3c.1 hv with hv|hv;exact hx.e v hv;rw[a2D.1 hv];exact kY t hd),⟨fun _=>?_,?_,?_⟩,fun Z hZ g1 g2 q hq=>?_,fun e he=>.inl he,⟨by show _<=-1-(x.e.length:Int);omega,by show -1-(x.e.length:Int)<_;omega⟩⟩
 .rw[e2];exact⟨by omega,by simp;omega⟩
 .show -1-(x.e.length:Int)<_;omega
 .unfold Ey;rw[a0u (by show -1-(x.e.length:Int)<0;omega)];exact a0E _
 have h1:=To.fin (d:=Z) (q:=q) (r:=-1-(x.e.length:Int)) (by omega);rw[e2,a4T]at h1;have g1:x.e++[op (aW J.D t)] <+: Z.aK:=g1;have e3:Z.aK.getD x.e.length V0=op (aW J.D t):=by rw[zX g1 (by simp)];simp[List.getD]
 rw[e3]at h1;refine⟨_,h1,aW J.D t,by simp[aW],fun k hk=>?_,rfl⟩;have h2:=JJ hJ hd hk;have e4:(aW J.D t).getD k V0=oq (lF J.D k) (t.get k):=by simp[aW,List.getD,hk]
 rw[e4];exact .fin h2.1
theorem DX{α:Type}{l:List α}{a:α}(h:l.Nodup)(ha:a∉l):(l++[a]).Nodup:=by rw[a96];exact⟨h,by simp,fun x hx y hy e=>by simp at hy;subst hy;subst e;exact ha hx⟩
theorem JK{α:Type}{l:List α}{x d:α}{j:Nat}:(l++[x]).getD j d=if j<l.length then l.getD j d else if j=l.length then x else d:=by
 split
 .rename_i h;simp[List.getD,a0p h]
 rename_i h;split
 .rename_i h2;subst h2;simp[List.getD]
 rename_i h2;rw[List.getD,a4r (by simp;omega)];rfl
theorem TI{J:Jb}(hJ:kQ J)(op:List V->V)(kY:xI J op):∀(r:LI0) (a:Nat) (t:S3) (x:Mk),J.o.drop a=r->a<=J.o.length->Dp J a t->XOk J op x->x.e.length+wO J.s r<=2^60->x.n.length+wO J.s r<=2^60->a3X J op a (wO J.s r) t x (jO J op r t x)
 | [],a,t,x,hr,ha,hd,hx,hb,yu=>by
  have:a=J.o.length:=by have:=congrArg List.length hr;rw[a3H,a4O]at this;omega
  subst this;exact aaX hJ op kY hd hx hb
 |c::r,a,t,x,hr,ha,hd,hx,hb,yu=>by
  obtain⟨aQ,hoc,vC,EL,hci,nP⟩:=kQ.at_ hJ hr;have hz:=hJ.bI.sz _ (bT (s:=J.s) (k:=c.toNat) (by have:=nP.1;have:=nP.2;omega));have YE:∀c'∈r,fF c' J.s.length:=fun c' h=>(kQ.o2 hJ).2.2 c' (by rw[<-vC]at h;exact a4X h);have hw:=Q5 hJ.bI.sz YE;have hw1:wO J.s r<=(J.s.getD c.toNat 0).toNat*wO J.s r:=adP _ (by omega);simp only[wO]at hb yu ⊢;have up:∀{t':S3} {z:Int×Mk},a3X J op (a+1) (wO J.s r) t' x z->(∀q u,jf J.s q=true->a8a J op q t' u->a8a J op q t u)->a3X J op a ((J.s.getD c.toNat 0).toNat*wO J.s r) t x z:=fun{t' z} h hs=>
   ⟨h.pre,by have:=h.el;omega,by have:=h.nl;omega,h.ok,h.rf.mono Q8.rfl (a0E _) (a0E _) (by omega),fun Z hZ g1 g2 q hq=>let ⟨u,u1,u2⟩:=h.sm Z hZ g1 g2 q hq;⟨u,u1,hs q u hq u2⟩,fun e he=>(h.ks e he).imp id fun h=>h.le (by omega),h.w⟩
  unfold jO;cases Bj:jX J.D t c
  .rw[a0q (by simp)];exact up (TI hJ op kY r (a+1) t x vC aQ (Vl hJ hr hd Bj) hx (by omega) (by omega)) fun _ _ _ h=>h
  rw[a0u rfl];by_cases hg:J.g.getD c.toNat 0>=0
  .rw[a0u (by simpa using hg)];refine up (TI hJ op kY r (a+1) _ x vC aQ (nG hJ hr hd ⟨hg,hJ.gv c nP hg⟩) hx (by omega) (by omega)) fun q u hq h=>Qe hJ hd ?_ h;rw[Vo (by rw[hJ.gl,qh hq]),a0u (by rw[hJ.gl];have:=nP.1;have:=nP.2;omega),a0u hg]
  rw[a0q (by simpa using hg)];by_cases hk:t∈x.k.map (·.1)
  .rw[a0u hk];obtain⟨e,he,rfl⟩:=a1k.1 hk;have hkn:knS x.k e.1=e.2:=by
    have:x.k.find? (fun y=>decide (y.1=e.1))=some e:=by
     have jG:=hx.nd;clear hb up hk Bj hd;generalize x.k=l at he jG
     induction l with
     |nil=>cases he
     |cons y l ih=>
      rw[ah4];rcases a1F.1 he with rfl|he
      .simp
      have:¬y.1=e.1:=fun h=>by rw[a4t,a4z]at jG;exact jG.1 (a1k.2 ⟨e,he,h.symm⟩)
      rw[aeg this];rw[a4t,a4z]at jG;exact ih he jG.2
    unfold knS;rw[this];rfl
   rw[hkn];obtain⟨k1,k2,k3⟩:=hx.k e he;have hmul:2*1<=(J.s.getD c.toNat 0).toNat*wO J.s r:=ahb (Vm hJ hr hd Bj) hw;refine⟨Q8.rfl,by show x.e.length<=_;omega,by show x.n.length+1<=_;omega,hx,⟨fun h=>by have:=k1.1;show fF _ _;exact absurd h (by omega),k1.2,?_⟩,k3,fun _ h=>.inl h,⟨by have:=k1.1;show _<=e.2;omega,by have:=k1.2;show e.2<_;omega⟩⟩;obtain⟨k,hk,h1⟩:=DW.1 k2;obtain⟨x0,hv⟩:=EC.1 h1;have h2:=(hd k hk).2;unfold Ey at h2 ⊢;rw[a0q (by omega)]at h2;have k10:=k1.1;rw[a0q (show ¬e.2<0 by omega)];have hv:((lF J.D k).au.getD (e.1.get k).toNat kW).var=(x.n.getD e.2.toNat kW).var:=hv;rw[hv]at h2;exact h2
  rw[a0q hk];have hm2:=Vm hJ hr hd Bj;have Wu:∀j,j<(J.s.getD c.toNat 0).toNat->j*wO J.s r+wO J.s r<=(J.s.getD c.toNat 0).toNat*wO J.s r:=fun j hj=>by have:(j+1)*wO J.s r<=(J.s.getD c.toNat 0).toNat*wO J.s r:=a3w _ hj;rw[a3i]at this;omega
  have inv:=bU (g:=Vk J.D (jO J op r) t c) (m:=(J.s.getD c.toNat 0).toNat) (k:=0) (s:=([],x)) (fun k y=>y.1.length=k∧Q8 x.en y.2.en∧y.2.e.length<=x.e.length+k*wO J.s r∧y.2.n.length+k<=x.n.length+k*wO J.s r∧XOk J op y.2∧(∀e∈y.2.k,e∈x.k∨Dp J (a+1) e.1)∧(∀v∈y.1,Gi v)∧∀j:Nat,j<k->Bg J.o y.2.en (y.1.getD j 0) y.2.n.length (a+1)∧Sem J op (y.1.getD j 0) (bM J.D t c j) y.2.en)
   ⟨rfl,Q8.rfl,by simp,by simp,hx,fun _ h=>.inl h,(fun v hv=>by cases hv),fun j hj=>by omega⟩ (fun j y _ hj hy=>by
    obtain⟨y1,y2,y3,y4,y5,y6,y8,y7⟩:=hy;have Wu:=Wu j (by omega);have h:=TI hJ op kY r (a+1) (bM J.D t c j) y.2 vC aQ (nG hJ hr hd ⟨by omega,by omega⟩) y5 (by omega) (by omega);refine⟨by simp[Vk,y1],y2.trans h.pre,?_,?_,h.ok,fun e he=>?_,fun v hv=>?_,fun j' E5=>?_⟩
    .have:=h.el;show(jO J op r (bM J.D t c j) y.2).2.e.length<=_;rw[a3i];omega
    .have:=h.nl;show(jO J op r (bM J.D t c j) y.2).2.n.length+_<=_;rw[a3i];omega
    .rcases h.ks e he with h1|h1
     .exact y6 e h1
     .exact .inr h1
    .have hv:v∈y.1++[(jO J op r (bM J.D t c j) y.2).1]:=hv;rcases a3c.1 hv with hv|hv
     .exact y8 v hv
     .rw[a2D.1 hv];exact h.w
    .have e1:(Vk J.D (jO J op r) t c j y).1.getD j' 0=if j'<j then y.1.getD j' 0 else(jO J op r (bM J.D t c j) y.2).1:=by
      show(y.1++[_]).getD j' 0=_;rw[JK,y1];split
      .rfl
      .rw[a0u (by omega)]
     rw[e1];by_cases e:j'<j
     .rw[a0u e];obtain⟨a1,a2⟩:=y7 j' e;exact⟨a1.mono h.pre h.pre.2.length_le (a0E _) (a0E _),a2.mono h.pre⟩
     .rw[a0q e];have e:j'=j:=(by omega);subst e;exact⟨h.rf,h.sm⟩)
  rw[a3I]at inv;simp only[];generalize aU (Vk J.D (jO J op r) t c) (J.s.getD c.toNat 0).toNat 0 ([],x)=y at inv;obtain⟨ks,m⟩:=y;obtain⟨y1,y2,y3,y4,y5,y6,y8,y7⟩:=inv;have y1:ks.length=(J.s.getD c.toNat 0).toNat:=y1;have hp:Q8 m.en (m.e,m.n++[(⟨c,ks⟩:Br)]):=⟨a4K,a90 _ _⟩;have gy:(m.n++[(⟨c,ks⟩:Br)]).getD m.n.length kW=⟨c,ks⟩:=by simp[List.getD]
  have a5i:Sem J op (m.n.length:Int) t (m.e,m.n++[(⟨c,ks⟩:Br)]):=fun Z hZ g1 g2 q hq=>by
   have g2:m.n++[(⟨c,ks⟩:Br)] <+: Z.au:=g2;have Yx:=(ny.1 hq).2 c.toNat (by have:=nP.1;have:=nP.2;omega);have hj:(q.getD c.toNat 0).toNat<(J.s.getD c.toNat 0).toNat:=(by omega);obtain⟨u,u1,u2⟩:=(y7 _ hj).2 Z hZ g1 ((a90 _ _).trans g2) q hq;have en:aj Z (m.n.length:Int)=⟨c,ks⟩:=by show Z.au.getD (m.n.length:Int).toNat kW=_;rw[a4T,zX g2 (by simp),gy]
   refine⟨u,.step (by omega) (by rw[en];exact u1),Qe hJ hd ?_ u2⟩;rw[Vo (by rw[hJ.gl,qh hq]),a0u (by rw[hJ.gl];have:=nP.1;have:=nP.2;omega),a0q (by omega)];omega
  have hv2:PtV J.s J.o (m.e,m.n++[(⟨c,ks⟩:Br)]):=by
   have hg:∀i,i<(m.n++[(⟨c,ks⟩:Br)]).length->(i<m.n.length∧(m.n++[(⟨c,ks⟩:Br)]).getD i kW=m.n.getD i kW)∨(i=m.n.length∧(m.n++[(⟨c,ks⟩:Br)]).getD i kW=⟨c,ks⟩):=fun i hi=>by
    simp only[a1o,a3j]at hi;rcases a4u i m.n.length with h|h
    .exact .inl ⟨h,by rw[JK,a0u h]⟩
    exact .inr ⟨by omega,by rw[show i=m.n.length by omega,gy]⟩
   refine⟨fun i hi=>?_,fun i hi=>?_,fun i hi k hk=>?_⟩
   .rcases hg i hi with⟨h1,h2⟩|⟨h1,h2⟩
    .show fF ((m.n++[_]).getD i kW).var _;rw[h2];exact y5.v.var i h1
    show fF ((m.n++[_]).getD i kW).var _;rw[h2];exact nP
   .rcases hg i hi with⟨h1,h2⟩|⟨h1,h2⟩
    .show(((m.n++[_]).getD i kW).ay.length:Int)=J.s.getD ((m.n++[_]).getD i kW).var.toNat 0;rw[h2];exact y5.v.ksz i h1
    show(((m.n++[_]).getD i kW).ay.length:Int)=J.s.getD ((m.n++[_]).getD i kW).var.toNat 0;rw[h2];show(ks.length:Int)=J.s.getD c.toNat 0;omega
   rcases hg i hi with⟨h1,h2⟩|⟨h1,h2⟩
   .have hk:k<((m.n++[(⟨c,ks⟩:Br)]).getD i kW).ay.length:=hk;show Bg J.o _ (((m.n++[(⟨c,ks⟩:Br)]).getD i kW).ay.getD k 0) i (J.o.idxOf ((m.n++[(⟨c,ks⟩:Br)]).getD i kW).var+1);rw[h2]at hk ⊢;exact(y5.v.zS i h1 k hk).mono hp (a0E _) (a9I h1) (a0E _)
   have hk:k<((m.n++[(⟨c,ks⟩:Br)]).getD i kW).ay.length:=hk;show Bg J.o _ (((m.n++[(⟨c,ks⟩:Br)]).getD i kW).ay.getD k 0) i (J.o.idxOf ((m.n++[(⟨c,ks⟩:Br)]).getD i kW).var+1);rw[h2]at hk ⊢;have hk:k<ks.length:=hk;subst h1;show Bg J.o _ (ks.getD k 0) m.n.length (J.o.idxOf c+1);rw[hci];exact(y7 k (by omega)).1.mono hp (a0E _) (a0E _) (a0E _)
  have y5:XOk J op m:=y5;have y6:∀e∈m.k,e∈x.k∨Dp J (a+1) e.1:=y6;refine⟨y2.trans hp,y3,?_,⟨hv2,fun e he=>?_,?_,y5.e,fun b hb=>?_⟩,⟨fun h=>?_,?_,?_⟩,a5i,fun e he=>?_,⟨by show _<=(m.n.length:Int);omega,by have y4:m.n.length+_<=x.n.length+_:=y4;show(m.n.length:Int)<_;omega⟩⟩
  .show(m.n++[_]).length+1<=_;rw[a1o,a3j];have y4:m.n.length+(J.s.getD c.toNat 0).toNat<=x.n.length+(J.s.getD c.toNat 0).toNat*wO J.s r:=y4;omega
  .rcases a3c.1 he with he|he
   .obtain⟨k1,k2,k3⟩:=y5.k e he;have aQ:e.2.toNat<m.n.length:=by have:=k1.1;have:=k1.2;omega
    refine⟨⟨k1.1,?_⟩,?_,k3.mono hp⟩
    .have:=k1.2;show e.2<((m.n++[_]).length:Int);rw[a1o];omega
    show jX J.D e.1 ((m.n++[_]).getD e.2.toNat kW).var=true;rw[JK,a0u aQ];exact k2
   rw[a2D.1 he];refine⟨⟨by omega,by show(m.n.length:Int)<((m.n++[_]).length:Int);rw[a1o,a3j];omega⟩,?_,a5i⟩;show jX J.D t ((m.n++[_]).getD (m.n.length:Int).toNat kW).var=true;rw[a4T,gy];exact Bj
  .rw[a4s];refine DX y5.nd fun h=>?_;obtain⟨e,he,e2⟩:=a1k.1 h;rcases y6 e he with h1|h1
   .exact hk (a1k.2 ⟨e,h1,e2⟩)
   rw[e2]at h1;exact a07 hJ hr Bj h1
  .have hb:b∈m.n++[(⟨c,ks⟩:Br)]:=hb;rcases a3c.1 hb with hb|hb
   .exact y5.w b hb
   rw[a2D.1 hb];exact y8
  .exact absurd h (by show ¬((m.n.length:Int)<0);omega)
  .show(m.n.length:Int)<((m.n++[_]).length:Int);rw[a1o,a3j];omega
  .show a<=Ey J.o (m.n++[_]) (m.n.length:Int);unfold Ey;rw[a0q (by omega),a4T,gy];show a<=J.o.idxOf c;omega
  rcases a3c.1 he with he|he
  .rcases y6 e he with h1|h1
   .exact .inl h1
   exact .inr (h1.le (by omega))
  rw[a2D.1 he];exact .inr hd
open Go Tw Pv dB
def qm(J:Jb)(op:List V->V):Dg:=⟨J.s,J.o,(jO J op J.o (fO J.D) ⟨[],[],[]⟩).2.e,(jO J op J.o (fO J.D) ⟨[],[],[]⟩).2.n,(jO J op J.o (fO J.D) ⟨[],[],[]⟩).1⟩
def JL(J:Jb)(op:List V->V):Dg:=(vO (qm J op)).1
theorem zY{D:List Dg}(hD:D.length<=3){k:Nat}(hk:k<D.length):(fO D).get k=(lF D k).root:=by
 have:=bU (g:=fun k (y:S3)=>y.set k (lF D k).root) (m:=D.length) (k:=0) (s:=⟨0,0,0⟩) (fun j y=>∀k,k<j->y.get k=(lF D k).root) (fun k hk=>by omega) (fun j y _ hj hy k hk=>by
  rw[S3.jF (by omega) (by omega)];by_cases e:k=j
  .rw[a0u e,e]
  rw[a0q e];exact hy k (by omega))
 exact this k (by omega)
theorem a8b{J:Jb}(hJ:kQ J){op:List V->V}(kY:xI J op):a3X J op 0 (wO J.s J.o) (fO J.D) ⟨[],[],[]⟩ (jO J op J.o (fO J.D) ⟨[],[],[]⟩):=by have hw:=DU hJ.bI.sz hJ.ord;have hm:=hJ.bI.many;refine TI hJ op kY J.o 0 (fO J.D) ⟨[],[],[]⟩ (ab3) (a4G _) (fun k hk=>?_) ⟨⟨fun i hi=>(by simp at hi),fun i hi=>(by simp at hi),fun i hi=>(by simp at hi)⟩,fun e he=>(by cases he),a5L,fun v hv=>(by cases hv),fun b hb=>(by cases hb)⟩ (by show 0+wO J.s J.o<=_;omega) (by show 0+wO J.s J.o<=_;omega);rw[zY hJ.d3 hk];exact⟨(hJ.dg k hk).t.root,a4G _⟩
theorem JM{J:Jb}(hJ:kQ J){op:List V->V}(kY:xI J op):aZ (qm J op)=0∧(qm J op).aK.length<=2000∧∀v∈(qm J op).aK,Gs v:=by have h:=a8b hJ kY;have hw:=DU hJ.bI.sz hJ.ord;have hm:=hJ.bI.many;have h1:(qm J op).aK.length<=0+wO J.s J.o:=h.el;have h2:(qm J op).au.length+1<=0+wO J.s J.o:=h.nl;refine⟨Ez (by unfold ah;omega) ?_ (fun v hv=>(h.ok.e v hv).1) (by omega) h.ok.v h.rf,by omega,h.ok.e⟩;have:aV J.s J.o=0:=iM.2 ⟨hJ.bI,hJ.ord⟩;show(aV J.s J.o != 0)=false;rw[this];rfl
theorem a8c{J:Jb}(hJ:kQ J){op:List V->V}(kY:xI J op):Na (qm J op):=by have h:=a8b hJ kY;exact⟨fun i hi k hk=>h.ok.w _ (XT hi) _ (bT hk),h.w,fun v hv=>(h.ok.e v hv).2⟩
theorem Y9{J:Jb}(hJ:kQ J){op:List V->V}(kY:xI J op):bG (qm J op)=(yY (qm J op),0)∧JL J op=jD J.s J.o (cellsD (qm J op)):=by
 obtain⟨h1,h2,h3⟩:=JM hJ kY;have hr:=a8c hJ kY;have ho:=(kQ.o2 hJ).2.1;have hl:=hJ.bI.len;have e:=Eu hr (by unfold ah;omega);rw[h1]at e;have hf:¬(aV (qm J op).aA (qm J op).aH != 0)=true:=by have:aV J.s J.o=0:=iM.2 ⟨hJ.bI,hJ.ord⟩;show ¬(aV J.s J.o != 0)=true;rw[this];simp
 rw[a0q hf]at e;refine⟨e,?_⟩;unfold JL vO;rw[e];show dW (qm J op)=_;exact(Iw h1 (by show J.o.length<=ah;unfold ah;omega) (by unfold ah;omega)).1
open Go Tw Pv dB
def Bo(J:Jb)(c:Int):LI0:=if decide (J.g.getD c.toNat 0>=0)=true then [J.g.getD c.toNat 0]else(List.range (J.s.getD c.toNat 0).toNat).map fun(j:Nat)=>(j:Int)
def xZ(J:Jb)(ψ:S3->Int):LI0->S3->Int
 | [],t=>ψ t
 |c::r,t=>eu (fun j=>xZ J ψ r (bM J.D t c j)) (Bo J c)
theorem zZ{α β:Type}[DecidableEq α][DecidableEq β](φ:β->Int)(f:α->β):∀l:List α,eu φ (l.map f)=eu (fun a=>φ (f a)) l
 | []=>rfl
 |a::l=>by simp only[a4t,eu,zZ φ f l]
theorem qF{α:Type}[DecidableEq α]{φ φ':α->Int}:∀{l:List α},(∀a∈l,φ a=φ' a)->eu φ l=eu φ' l
 | [],_=>rfl
 |a::l,h=>by rw[eu,eu,h a (by simp),qF fun b hb=>h b (by simp[hb])]
theorem TJ{α β:Type}[DecidableEq α][DecidableEq β](φ:β->Int)(f:α->List β):∀l:List α,eu φ (l.flatMap f)=eu (fun a=>eu φ (f a)) l
 | []=>rfl
 |a::l=>by rw[List.flatMap_cons,Ie,eu,TJ φ f l]
theorem Bq{α:Type}[DecidableEq α](x:Int):∀l:List α,eu (fun _=>x) l=l.length*x
 | []=>by simp[eu]
 |a::l=>by rw[eu,Bq x l,a4q,Int.natCast_add,afW];omega
theorem S3.aaY(s:S3)(k:Nat):s.set k (s.get k)=s:=by
 match k with
 | 0=>rfl
 | 1=>rfl
 |k+2=>rfl
theorem a8d{D:List Dg}{t:S3}{c:Int}(h:jX D t c=false)(g:Int):bM D t c g=t:=by
 have hk:∀k,k<D.length->lq (lF D k) (t.get k) c=false:=fun k hk=>by
  cases e:lq (lF D k) (t.get k) c
  .rfl
  have:=DW.2 ⟨k,hk,e⟩;rw[h]at this;cases this
 exact bU (g:=fun k (y:S3)=>y.set k (LG (lF D k) (y.get k) c g)) (m:=D.length) (k:=0) (s:=t) (fun _ y=>y=t) rfl (fun j y _ hj hy=>by subst hy;show y.set j (LG (lF D j) (y.get j) c g)=y;unfold LG;rw[hk j (by omega),a0q (by simp)];exact S3.aaY y j)
theorem a3Y{J:Jb}{ψ:S3->Int}{c:Int}{r:LI0}{t:S3}(h:decide (J.g.getD c.toNat 0>=0)=true):xZ J ψ (c::r) t=xZ J ψ r (bM J.D t c (J.g.getD c.toNat 0)):=by rw[xZ,Bo,a0u h];simp[eu]
theorem afX{J:Jb}{ψ:S3->Int}{c:Int}{r:LI0}{t:S3}(h:¬decide (J.g.getD c.toNat 0>=0)=true)(ha:jX J.D t c=false):xZ J ψ (c::r) t=((J.s.getD c.toNat 0).toNat:Int)*xZ J ψ r t:=by rw[xZ,Bo,a0q h,zZ,qF (φ':=fun _=>xZ J ψ r t) (fun a _=>by rw[a8d ha]),Bq,a98]
theorem aaZ{J:Jb}{ψ:S3->Int}{c:Int}{r:LI0}{t:S3}(h:¬decide (J.g.getD c.toNat 0>=0)=true):xZ J ψ (c::r) t=eu (fun(j:Nat)=>xZ J ψ r (bM J.D t c j)) (List.range (J.s.getD c.toNat 0).toNat):=by rw[xZ,Bo,a0q h,zZ]
def Af(J:Jb):LI0->Nat
 | []=>1
 |c::r=>(Bo J c).length*Af J r
theorem ED{J:Jb}:∀(r:LI0) (t:S3),xZ J (fun _=>1) r t=(Af J r:Int)
 | [],_=>rfl
 |c::r,t=>by rw[xZ,qF (φ':=fun _=>(Af J r:Int)) (fun a _=>ED r _),Bq,Af,ae7]
section
variable {J:Jb} (hJ:kQ J)
include hJ
theorem Ya{c:Int}(hc:fF c J.s.length){j:Int}:j∈Bo J c↔(0<=j∧j<J.s.getD c.toNat 0)∧(0<=J.g.getD c.toNat 0->J.g.getD c.toNat 0=j):=by
 unfold Bo;split
 .rename_i h;have h:J.g.getD c.toNat 0>=0:=by simpa using h
  have:=hJ.gv c hc h;rw[a2D];constructor
  .rintro rfl;exact⟨⟨h,this⟩,fun _=>rfl⟩
  exact fun h2=>(h2.2 h).symm
 rename_i h;have h:¬J.g.getD c.toNat 0>=0:=by simpa using h
 rw[a1k];constructor
 .rintro⟨k,h1,rfl⟩;rw[a4B]at h1;exact⟨⟨by omega,by omega⟩,fun h2=>absurd h2 h⟩
 rintro⟨h1,_⟩;exact⟨j.toNat,a4B.2 (by omega),by omega⟩
theorem a8e{c:Int}(hc:fF c J.s.length):1<=(Bo J c).length∧(Bo J c).length<=(J.s.getD c.toNat 0).toNat:=by
 have hz:=hJ.bI.sz _ (bT (s:=J.s) (k:=c.toNat) (by have:=hc.1;have:=hc.2;omega));unfold Bo;split
 .exact⟨a0E _,by show 1<=_;omega⟩
 rw[a4A,a98];exact⟨by omega,a0E _⟩
theorem JO:∀{r:LI0},(∀c∈r,fF c J.s.length)->1<=Af J r∧Af J r<=wO J.s r
 | [],_=>⟨a0E _,a0E _⟩
 |c::r,h=>by obtain⟨h1,h2⟩:=a8e hJ (h c (by simp));obtain⟨h3,h4⟩:=JO (r:=r) fun c hc=>h c (by simp[hc]);exact⟨ahb h1 h3,ahb h2 h4⟩
end
def plc(J:Jb):LI0->LI0->List LI0
 | [],q=>[q]
 |c::r,q=>(Bo J c).flatMap fun j=>plc J r (q.set c.toNat j)
def Vp(D:List Dg)(q:LI0):LI0->S3->S3
 | [],t=>t
 |c::r,t=>Vp D q r (bM D t c (q.getD c.toNat 0))
theorem A8{q:LI0}{i k:Nat}{v:Int}:(q.set i v).getD k 0=if k=i∧i<q.length then v else q.getD k 0:=by
 simp only[List.getD,a9V];by_cases h:i=k
 .subst h;by_cases h2:i<q.length
  .simp[h2]
  simp[h2,a4r (show q.length<=i by omega)]
 rw[a0q (fun e:k=i∧i<q.length=>h e.1.symm)];simp[h]
theorem Nj{J:Jb}:∀{r q q':LI0},q'∈plc J r q->q'.length=q.length∧∀k,k∉r.map Int.toNat->q'.getD k 0=q.getD k 0
 | [],q,q',h=>by rw[plc,a2D]at h;subst h;exact⟨rfl,fun _ _=>rfl⟩
 |c::r,q,q',h=>by rw[plc,adY]at h;obtain⟨j,_,h2⟩:=h;obtain⟨h3,h4⟩:=Nj h2;refine⟨by rw[h3,a4F],fun k hk=>?_⟩;rw[a4t,a1F,adE]at hk;rw[h4 k hk.2,A8,a0q (fun h=>hk.1 h.1)]
section
variable {J:Jb} {n:Nat}
structure a08(n:Nat)(r:LI0):Prop where
 nd:r.Nodup
 mem:∀c∈r,fF c n
theorem a08.tail{c:Int}{r:LI0}(h:a08 n (c::r)):a08 n r∧c.toNat∉r.map Int.toNat∧fF c n:=by
 have h1:=a4z.1 h.nd;have hc:=h.mem c (by simp);refine⟨⟨h1.2,fun c hc=>h.mem c (by simp[hc])⟩,fun h2=>?_,hc⟩;obtain⟨d,h3,h4⟩:=a1k.1 h2;have hd:=h.mem d (by simp[h3]);have:d=c:=by have:=hc.1;have:=hd.1;omega
 exact h1.1 (this▸h3)
theorem a2g(ψ:S3->Int):∀{r:LI0} (q:LI0) (t:S3),a08 q.length r->xZ J ψ r t=eu (fun q'=>ψ (Vp J.D q' r t)) (plc J r q)
 | [],q,t,_=>by simp[xZ,plc,Vp,eu]
 |c::r,q,t,ho=>by obtain⟨h1,h2,h3⟩:=ho.tail;rw[xZ,plc,TJ];refine qF fun j _=>?_;rw[a2g ψ (q.set c.toNat j) _ (by rw[a4F];exact h1)];refine qF fun q' hq=>?_;rw[Vp,(Nj hq).2 _ h2,A8,a0u ⟨rfl,by have:=h3.1;have:=h3.2;omega⟩]
theorem Vq:∀{r q q':LI0},a08 q.length r->(q'∈plc J r q↔q'.length=q.length∧(∀k,k∉r.map Int.toNat->q'.getD k 0=q.getD k 0)∧∀c∈r,q'.getD c.toNat 0∈Bo J c)
 | [],q,q',_=>by
  rw[plc,a2D];constructor
  .rintro rfl;exact⟨rfl,fun _ _=>rfl,fun _ h=>by cases h⟩
  rintro⟨h1,h2,_⟩;exact(rO (d:=0) h1).2 fun i _=>h2 i (by simp)
 |c::r,q,q',ho=>by
  obtain⟨h1,h2,h3⟩:=ho.tail;have hl:c.toNat<q.length:=by have:=h3.1;have:=h3.2;omega
  rw[plc,adY];constructor
  .rintro⟨j,hj,h4⟩;obtain⟨h5,h6,h7⟩:=(Vq (by rw[a4F];exact h1)).1 h4;refine⟨by rw[h5,a4F],fun k hk=>?_,fun d hd=>?_⟩
   .rw[a4t,a1F,adE]at hk;rw[h6 k hk.2,A8,a0q (fun h=>hk.1 h.1)]
   rcases a1F.1 hd with rfl|hd
   .rw[h6 _ h2,A8,a0u ⟨rfl,hl⟩];exact hj
   exact h7 d hd
  rintro⟨h4,h5,h6⟩;refine⟨q'.getD c.toNat 0,h6 c (by simp),(Vq (by rw[a4F];exact h1)).2 ⟨by rw[a4F];exact h4,fun k hk=>?_,fun d hd=>h6 d (by simp[hd])⟩⟩;rw[A8];split
  .rename_i h;rw[h.1]
  rename_i h;exact h5 k (by rw[a4t,a1F,adE];exact⟨fun e=>h ⟨e,hl⟩,hk⟩)
theorem a09(c:Int):(Bo J c).Nodup:=by
 unfold Bo;split
 .simp
 rw[List.Nodup,afK];exact List.nodup_range.imp fun h e=>h (by omega)
theorem TK:∀{r q:LI0},a08 q.length r->(plc J r q).Nodup
 | [],q,_=>by simp[plc]
 |c::r,q,ho=>by
  obtain⟨h1,h2,h3⟩:=ho.tail;have hl:c.toNat<q.length:=by have:=h3.1;have:=h3.2;omega
  rw[plc,List.Nodup,List.pairwise_flatMap];refine⟨fun j _=>TK (by rw[a4F];exact h1),(a09 (J:=J) c).imp fun{a b} hab x hx y hy e=>?_⟩;subst e;have e1:=(Nj hx).2 _ h2;have e2:=(Nj hy).2 _ h2;rw[A8,a0u ⟨rfl,hl⟩]at e1 e2;exact hab (e1.symm.trans e2)
end
def Yb(J:Jb):List LI0:=((List.range (uM J.s)).map fun(k:Nat)=>mg J.s k).filter fun q=>decide (ov J.g q=q)
section
variable {J:Jb} (hJ:kQ J)
include hJ
theorem a2h{q:LI0}(hq:q.length=J.s.length):ov J.g q=q↔∀k,k<J.s.length->0<=J.g.getD k 0->J.g.getD k 0=q.getD k 0:=by
 have hg:=hJ.gl;have hl:(ov J.g q).length=q.length:=by simp[ov,List.length_zipWith,hg,hq]
 rw[rO (d:=0) hl];constructor
 .intro h k hk h0;have:=h k (by rw[hl,hq];exact hk);rw[Vo (by rw[hg,hq]),a0u (by rw[hg];exact hk),a0u h0]at this;exact this
 intro h k hk;rw[hl,hq]at hk;rw[Vo (by rw[hg,hq]),a0u (by rw[hg];exact hk)];split
 .exact h k hk ‹_›
 rfl
theorem a2i{q:LI0}:q∈(List.range (uM J.s)).map (fun(k:Nat)=>mg J.s k)↔jf J.s q=true:=by
 have hc:(uM J.s:Int)=bg J.s:=by have:=iY hJ.bI.sz;unfold uM;omega
 constructor
 .intro h;obtain⟨k,_,rfl⟩:=a1k.1 h;exact wu _ hJ.bI.sz
 intro h;have:=wZ h hJ.bI.sz;refine a1k.2 ⟨(dV J.s q).toNat,a4B.2 (by omega),?_⟩;rw[show((dV J.s q).toNat:Int)=dV J.s q by omega];exact UU h hJ.bI.sz
theorem a3Z:((List.range (uM J.s)).map (fun(k:Nat)=>mg J.s k)).Nodup:=by
 have hc:(uM J.s:Int)=bg J.s:=by have:=iY hJ.bI.sz;unfold uM;omega
 rw[List.Nodup,afK];refine List.Pairwise.imp_of_mem (fun{a b} ha hb h e=>h ?_) ae0;rw[a4B]at ha hb;have h1:=MZ hJ.bI.sz (n:=(a:Int)) (by omega) (by omega);have h2:=MZ hJ.bI.sz (n:=(b:Int)) (by omega) (by omega);have e:mg J.s (a:Int)=mg J.s (b:Int):=e;rw[e,h2]at h1;omega
theorem a8f:(plc J J.o (List.replicate J.s.length 0)).Perm (Yb J):=by
 obtain⟨o1,o2,o3⟩:=kQ.o2 hJ;have ho:a08 (List.replicate J.s.length (0:Int)).length J.o:=⟨o1,fun c hc=>by rw[a7h];exact o3 c hc⟩;unfold Yb;refine(a7H (TK ho) ((a3Z hJ).filter _)).2 fun q=>?_;rw[Vq ho,a8G,a2i hJ,a1n,a7h];constructor
 .rintro⟨h1,h2,h3⟩;have key:∀k,k<J.s.length->(0<=q.getD k 0∧q.getD k 0<J.s.getD k 0)∧(0<=J.g.getD k 0->J.g.getD k 0=q.getD k 0):=fun k hk=>by have hc:fF (k:Int) J.s.length:=aG hk;have:=h3 k (kE hJ.ord hc);rw[Ya hJ hc]at this;exact this
  exact⟨ny.2 ⟨h1,fun k hk=>(key k hk).1⟩,(a2h hJ h1).2 fun k hk=>(key k hk).2⟩
 rintro⟨h1,h2⟩;have hl:=qh h1;refine⟨hl,fun k hk=>?_,fun c hc=>?_⟩
 .have Kz:J.s.length<=k:=by refine ad8 fun aQ=>hk ?_;exact a1k.2 ⟨(k:Int),kE hJ.ord (aG aQ),by simp⟩
  simp[List.getD,a4r (show q.length<=k by omega),a4r (show(List.replicate J.s.length (0:Int)).length<=k by simp;omega)]
 have nP:=o3 c hc;have aQ:c.toNat<J.s.length:=by have:=nP.1;have:=nP.2;omega
 rw[Ya hJ nP];exact⟨(ny.1 h1).2 _ aQ,(a2h hJ hl).1 h2 _ aQ⟩
theorem TL{q:LI0}(hq:jf J.s q=true):∀(r:LI0) (a:Nat) (t:S3),J.o.drop a=r->a<=J.o.length->Dp J a t->Dp J J.o.length (Vp J.D q r t)∧∀k,k<J.D.length->∀v,To (lF J.D k) q ((Vp J.D q r t).get k) v->To (lF J.D k) q (t.get k) v
 | [],a,t,hr,ha,hd=>by
  have:a=J.o.length:=by have:=congrArg List.length hr;rw[a3H,a4O]at this;omega
  subst this;exact⟨hd,fun _ _ _ h=>h⟩
 |c::r,a,t,hr,ha,hd=>by
  obtain⟨aQ,hoc,vC,EL,hci,nP⟩:=kQ.at_ hJ hr;have Yx:=(ny.1 hq).2 c.toNat (by have:=nP.1;have:=nP.2;omega);obtain⟨h1,h2⟩:=TL hq r (a+1) _ vC aQ (nG hJ hr hd Yx);refine⟨h1,fun k hk v h=>?_⟩;have h4:=h2 k hk v h;rw[JH hJ.d3 t c _ hk]at h4;unfold LG at h4;split at h4
  .rename_i h5;obtain⟨h6,h7,_⟩:=IB hJ hd hk h5;refine .step h6.1 ?_;rw[h7];exact h4
  exact h4
theorem Yc:Dp J 0 (fO J.D):=fun k hk=>by rw[zY hJ.d3 hk];exact⟨(hJ.dg k hk).t.root,a4G _⟩
theorem afY{q:LI0}(hq:jf J.s q=true):aW J.D (Vp J.D q J.o (fO J.D))=J.D.map fun d=>Ci d q:=by
 obtain⟨h1,h2⟩:=TL hJ hq J.o 0 (fO J.D) ab3 (a4G _) (Yc hJ);unfold aW;refine(rO (d:=V0) (by simp)).2 fun k hk=>?_;rw[a4A,a98]at hk;have hd:=hJ.dg k hk;have h3:=JJ hJ h1 hk;have h4:=h2 k hk _ (.fin h3.1);rw[zY hJ.d3 hk]at h4;have h6:=h4.at_ hd.t (by rw[hd.s];exact hq) 6001 (by have:=hd.t.root.1;have:=hd.n;omega) hd.t.root;have e1:((List.range J.D.length).map fun k=>oq (lF J.D k) ((Vp J.D q J.o (fO J.D)).get k)).getD k V0=oq (lF J.D k) ((Vp J.D q J.o (fO J.D)).get k):=by simp[List.getD,hk]
 have e2:(J.D.map fun d=>Ci d q).getD k V0=Ci (lF J.D k) q:=by simp[List.getD,hk]
 rw[e1,e2];exact h6
theorem ab1(ψ:List V->Int):xZ J (fun t=>ψ (aW J.D t)) J.o (fO J.D)=eu (fun q=>ψ (J.D.map fun d=>Ci d q)) (Yb J):=by obtain⟨o1,o2,o3⟩:=kQ.o2 hJ;rw[a2g _ (List.replicate J.s.length 0) _ ⟨o1,fun c hc=>by rw[a7h];exact o3 c hc⟩,Jr _ (a8f hJ)];refine qF fun q hq=>?_;unfold Yb at hq;rw[a8G,a2i hJ]at hq;rw[afY hJ hq.1]
end
end Go.Proofs.YtmobpoiejckagaaGreat
namespace Pv
open Go Tw
section
variable {X:kP} {P:LI1} {kt:LI2} {α:Type} [DecidableEq α] (C:oN X P kt α)
theorem oN.akL{l:List (α×PV X.Γ)}{x:α}{v:PV X.Γ}{j:Nat}(hb:Instr.sameBits 10000 (C.v x) (C.v x)=true)(hn:(l.map (·.1)).Nodup)(h:l[j]? = some (x,v)):a5V X P kt (C.es l) (C.tv x) (C.pv x) v j:=by
 obtain⟨hj,e⟩:=a0a.1 h;have hxj:(l.map (·.1))[j]? = some x:=by simp[a0n hj,e]
 refine⟨C.v x,_,C.tv x,C.v x,C.ht x,C.hc false x,C.pk l,?_,?_,?_,C.ht x,hb⟩
 .have hu:∀(i:Nat) y,(l.map (·.1))[i]? = some y->decide (x=y)=(some i==some j):=fun i y hy=>by
   rw[a4J];simp only[a1n,a6P,a01];constructor
   .rintro rfl;have i1:=a0a.1 hy;have i2:=a0a.1 hxj;exact(aaP hn (h₀:=i1.1) (h₁:=i2.1)).1 (i1.2.trans i2.2.symm)
   rintro rfl;rw[hxj]at hy;exact a9o hy
  refine C.find x _ (some j) ?_ hu;rw[aay];refine⟨by simpa using hj,by simp[e],fun i hi=>?_⟩;have hil:i<(l.map (·.1)).length:=by simp;omega
  rw[hu i _ (a0n hil)];simp;omega
 .simp[oN.es,a0n hj,e]
 simp[a0n hj,e]
theorem oN.newP{l:List (α×PV X.Γ)}{x:α}{v:PV X.Γ}(h:x∉l.map (·.1)):aeo X P kt (C.es (l++[(x,v)])) (C.tv x) l.length:=by
 refine⟨C.v x,_,C.ht x,C.pk _,?_⟩;have hu:∀(i:Nat) y,((l++[(x,v)]).map (·.1))[i]? = some y->decide (x=y)=(some i==some l.length):=fun i y hy=>by
  rw[a4s]at hy;rcases a4u i l.length with hi|hi
  .rw[a0p (by simpa using hi)]at hy;have:¬x=y:=fun e=>h (e▸a4E hy);rw[aeg this];have:¬i=l.length:=(by omega);simp[this]
  rw[a0G (by simpa using hi)]at hy;have Le:i=l.length:=by have:=(a0a.1 hy).1;simp at this;omega
  subst Le;simp at hy;subst hy;simp
 refine C.find x _ (some l.length) ?_ hu;rw[aay];refine⟨by simp,by simp,fun i hi=>?_⟩;have hil:i<((l++[(x,v)]).map (·.1)).length:=by simp;omega
 rw[hu i _ (a0n hil)];simp;omega
abbrev oN.im(m:List (α×Int)):List (PV X.Γ×PV X.Γ):=C.es (m.map fun e=>(e.1,.int .i64 e.2))
theorem oN.pR(m:List (α×Int)):(C.im m).length=m.length:=by simp[oN.im,oN.es]
theorem oN.Bv(m:List (α×Int))(j:Nat):(C.im m)[j]? = (m[j]?).map fun e=>(C.pv e.1,.int .i64 e.2):=by simp[oN.im,oN.es,a4y];rfl
theorem Aa{Y:kP}(m:List (α×Int)):((m.map fun e=>(e.1,(PV.int .i64 e.2:PV Y.Γ))).map (·.1))=m.map (·.1):=by simp
theorem afZ{m:List (α×Int)}{j:Nat}{f:Int->Int}{v:Int}(h:∀e,m[j]? = some e->f e.2=v):Jg (C.im m) j (.int .i64 v)=C.im (m.modify j fun e=>(e.1,f e.2)):=by
 unfold Jg;refine a9X fun i=>?_;rw[adZ,C.Bv,C.Bv,adZ];by_cases e:j=i
 .subst e;cases h2:m[j]? with
  |none=>simp[h2]
  |some x=>simp[h2,h x h2]
 simp[e]
theorem ag0{m:List (α×Int)}{x:α}{z v:Int}:Jg (C.im m++[(C.pv x,.int .i64 z)]) (C.im m).length (.int .i64 v)=C.im (m++[(x,v)]):=by
 have:C.im (m++[(x,v)])=C.im m++[(C.pv x,.int .i64 v)]:=by simp[oN.im,oN.es]
 rw[this];unfold Jg;generalize C.im m=l;refine a9X fun i=>?_;rw[adZ];rcases Nat.lt_trichotomy i l.length with h|h|h
 .rw[a0p h,a0p h];simp[show ¬l.length=i by omega]
 .subst h;simp
 rw[a4r (by simp;omega),a4r (by simp;omega)];rfl
theorem oN.Vr{m:List (α×Int)}{k:α}{n:Int}(hb:Instr.sameBits 10000 (C.v k) (C.v k)=true)(hn:(m.map (·.1)).Nodup)(h:k∈m.map (·.1))(hw:∀e∈m,i64.wrap (e.2+n)=e.2+n) :
  ∃j old,qB X P kt (C.im m) (C.tv k) (.int .i64 old)∧a5V X P kt (C.im m) (C.tv k) (C.pv k) (.int .i64 old) j∧j<(C.im m).length∧Jg (C.im m) j (.int .i64 (i64.wrap (old+n)))=C.im (dB.sG m k n):=by
 have aQ:=a4H.2 h;have a6f:(m.map (·.1)).idxOf k<m.length:=by simpa using aQ
 have hk:m[(m.map (·.1)).idxOf k]? = some (k,m[(m.map (·.1)).idxOf k].2):=by rw[a0n a6f];have:=a8Z aQ;rw[a9i]at this;exact congrArg some (ado this rfl)
 have a2B:(k,m[(m.map (·.1)).idxOf k].2)∈m:=a4E hk;refine⟨(m.map (·.1)).idxOf k,m[(m.map (·.1)).idxOf k].2,C.found (by rw[Aa];exact hn) (a1k.2 ⟨_,a2B,rfl⟩),C.akL hb (by rw[Aa];exact hn) (by rw[a4y,hk];rfl),by rw[C.pR];exact a6f,?_⟩;rw[hw _ a2B];unfold dB.sG;rw[a0u h];exact afZ C (f:=fun x=>x+n) fun e he=>by rw[hk]at he;cases he;rfl
theorem oN.Vt{m:List (α×Int)}{k:α}{n:Int}(h:k∉m.map (·.1))(hw:i64.wrap (0+n)=n) :
  nV X P kt (C.im m) (C.tv k)∧aeo X P kt (C.im m++[(C.pv k,(PV.int .i64 0:PV X.Γ))]) (C.tv k) (C.im m).length∧(C.im m).length<(C.im m++[(C.pv k,(PV.int .i64 0:PV X.Γ))]).length∧Jg (C.im m++[(C.pv k,.int .i64 0)]) (C.im m).length (.int .i64 (i64.wrap (0+n)))=C.im (dB.sG m k n):=by
 refine⟨C.fresh (by rw[Aa];exact h),?_,by simp,?_⟩
 .have:=C.newP (l:=m.map fun e=>(e.1,(PV.int .i64 e.2:PV X.Γ))) (x:=k) (v:=.int .i64 0) (by rw[Aa];exact h);rw[C.pR];simpa[oN.im,oN.es]using this
 rw[hw,ag0];unfold dB.sG;rw[a0q h]
end
end Pv
namespace Go.Proofs.YtmobpoiejckagaaGreat
open Go Tw Pv dB
abbrev wSk(H:List (PB aC))(s:S3)(r:Int)(x:List (Nat×PE aC)):aT aC:=⟨[(1,xi r),(2,.val (.ptr 2 0 5)),(3,.val (.ptr 1 0 5)),(4,.val (.ptr 3 0 1)),(5,.val (.ptr 4 0 1)),(6,.loc 0 0)]++x,[s.ps],H⟩
def QK(D:List Dg)(t:S3):LI0->Nat
 | []=>0
 |c::r=>if jX D t c=true then 0 else QK D t r+1
def QL(J:Jb)(t:S3)(i:Int):Int⊕Int:=if decide (i<(J.o.length:Int))=true then(if(!(jX J.D t (J.o.getD i.toNat 0)))=true then .inl (i64.wrap (i+1))else .inr i)else .inr i
theorem a8g{J:Jb}(hJ:kQ J)(t:S3):∀(r:LI0) (a:Nat),J.o.drop a=r->a<=J.o.length->itF (QL J t) (r.length+1) (a:Int)=some ((a+QK J.D t r:Nat):Int)
 | [],a,hr,ha=>by
  have:a=J.o.length:=by have:=congrArg List.length hr;rw[a3H,a4O]at this;omega
  have e:QL J t (a:Int)=.inr (a:Int):=by unfold QL;rw[a0q (by simp;omega)]
  rw[a4O,itF,e];rfl
 |c::r,a,hr,ha=>by
  obtain⟨aQ,hoc,vC,_⟩:=kQ.at_ hJ hr;have hl:=hJ.bI.len;have LQ:=(kQ.o2 hJ).2.1;have e:QL J t (a:Int)=if(!(jX J.D t c))=true then .inl (i64.wrap ((a:Int)+1))else .inr (a:Int):=by unfold QL;rw[a0u (by simp;omega),a4T,hoc]
  rw[a4q,itF,e];cases h:jX J.D t c
  .simp only[abM,a1I];have ew:i64.wrap ((a:Int)+1)=((a+1:Nat):Int):=by rw[eP (by omega) (by omega)];omega
   have:=a8g hJ t r (a+1) vC aQ;simp only[ew,QK,h];rw[this];simp;omega
  simp[QK,h]
theorem apZ{M f:Nat}{J:Jb}(hJ:kQ J){t:S3}{x:Mk}(r:LI0){a:Nat}(hr:J.o.drop a=r)(ha:a<=J.o.length)(hd:Dp J a t):Ii (M+1) 126 0 7 (wSk (HM0 J f x) t a []) (.exit 0) (wSk (HM0 J f x) t ((a+QK J.D t r:Nat):Int) [(32,xl false)]):=by
 have Qy:=a8g hJ t r a hr ha;have LQ:=(kQ.o2 hJ).2.1;have hl:=hJ.bI.len;refine ZW (st:=fun i=>wSk (HM0 J f x) t i []) (g:=QL J t) (out:=fun i=>(.exit 0,wSk (HM0 J f x) t i [(32,xl false)])) (fun i=>0<=i∧i<=J.o.length) Qy (by kernel_rfl) (by have:=congrArg List.length hr;rw[a3H]at this;unfold LL;omega) ⟨by omega,by omega⟩ ?_ ?_
 .intro i i1 hi e;unfold QL at e;split at e
  .rename_i c;have c:i<(J.o.length:Int):=(by simpa using c);split at e
   .cases e;rw[eP (by omega) (by omega)];omega
   cases e
  cases e
 intro i m i' hi ih;have hs:=a7Y (M:=M) (f:=f) (a:=[]) (cc:=[]) (H:=[]) J t (J.o.getD i.toNat 0) hJ.d3 (fun k hk h=>⟨by simpa using h,(hd k hk).1.1⟩);by_cases c:i<(J.o.length:Int)
 .have t1:decide (i<(J.o.length:Int))=true:=by simpa using c
  have i1:fF i J.o.length:=⟨hi.1,c⟩;cases hq:jX J.D t (J.o.getD i.toNat 0)
  .have e:QL J t i=.inl (i64.wrap (i+1)):=by unfold QL;rw[a0u t1,hq];rfl
   rw[hq]at hs;have g:=ih _ e;rw[e];exact aN gK (.b t1 (.o i1 (.fr [] hs (.b (rfl:(!false)=true) (.go g)))))
  have e:QL J t i=.inr i:=by unfold QL;rw[a0u t1,hq];rfl
  rw[hq]at hs;rw[e];dsimp only[Du];exact aN gK (.b t1 (.o i1 (.fr [] hs (.b (rfl:(!true)=false) .ex))))
 have t1:decide (i<(J.o.length:Int))=false:=by simpa using c
 have e:QL J t i=.inr i:=by unfold QL;rw[a0q (by rw[t1];simp)]
 rw[e];dsimp only[Du];exact aN gK (.b t1 .ex)
theorem aq0{M f:Nat}(u:Int){J:Jb}(hJ:kQ J){t:S3}{x:Mk}(r:LI0){a:Nat}(hr:J.o.drop a=r)(ha:a<=J.o.length)(hd:Dp J a t):Ii (M+1) 126 0 8 (wSk (HM1 J f u x) t a []) (.exit 0) (wSk (HM1 J f u x) t ((a+QK J.D t r:Nat):Int) [(32,xl false)]):=by
 have Qy:=a8g hJ t r a hr ha;have LQ:=(kQ.o2 hJ).2.1;have hl:=hJ.bI.len;refine ZW (st:=fun i=>wSk (HM1 J f u x) t i []) (g:=QL J t) (out:=fun i=>(.exit 0,wSk (HM1 J f u x) t i [(32,xl false)])) (fun i=>0<=i∧i<=J.o.length) Qy (by kernel_rfl) (by have:=congrArg List.length hr;rw[a3H]at this;unfold LL;omega) ⟨by omega,by omega⟩ ?_ ?_
 .intro i i1 hi e;unfold QL at e;split at e
  .rename_i c;have c:i<(J.o.length:Int):=(by simpa using c);split at e
   .cases e;rw[eP (by omega) (by omega)];omega
   cases e
  cases e
 intro i m i' hi ih;have hs:=a7Y (M:=M) (f:=f) (a:=[]) (cc:=[.ptr 0 0 1]) (H:=[.aF [.int .u8 u]]) J t (J.o.getD i.toNat 0) hJ.d3 (fun k hk h=>⟨by simpa using h,(hd k hk).1.1⟩);by_cases c:i<(J.o.length:Int)
 .have t1:decide (i<(J.o.length:Int))=true:=by simpa using c
  have i1:fF i J.o.length:=⟨hi.1,c⟩;cases hq:jX J.D t (J.o.getD i.toNat 0)
  .have e:QL J t i=.inl (i64.wrap (i+1)):=by unfold QL;rw[a0u t1,hq];rfl
   rw[hq]at hs;have g:=ih _ e;rw[e];exact aN gK (.b t1 (.o i1 (.fr [5] hs (.b (rfl:(!false)=true) (.go g)))))
  have e:QL J t i=.inr i:=by unfold QL;rw[a0u t1,hq];rfl
  rw[hq]at hs;rw[e];dsimp only[Du];exact aN gK (.b t1 (.o i1 (.fr [5] hs (.b (rfl:(!true)=false) .ex))))
 have t1:decide (i<(J.o.length:Int))=false:=by simpa using c
 have e:QL J t i=.inr i:=by unfold QL;rw[a0q (by rw[t1];simp)]
 rw[e];dsimp only[Du];exact aN gK (.b t1 .ex)
open Go Tw Pv dB
theorem Vu{J:Jb}(hJ:kQ J){op:List V->V}{x:Mk}:∀(r:LI0) (a:Nat) (t:S3),J.o.drop a=r->a<=J.o.length->Dp J a t->jO J op r t x=jO J op (r.drop (QK J.D t r)) t x∧a+QK J.D t r<=J.o.length∧Dp J (a+QK J.D t r) t∧∀c r',r.drop (QK J.D t r)=c::r'->jX J.D t c=true
 | [],a,t,hr,ha,hd=>⟨rfl,ha,hd,fun _ _ h=>by cases h⟩
 |c::r,a,t,hr,ha,hd=>by
  obtain⟨aQ,hoc,vC,_⟩:=kQ.at_ hJ hr;cases h:jX J.D t c
  .obtain⟨q1,q2,q3,q4⟩:=Vu hJ (op:=op) (x:=x) r (a+1) t vC aQ (Vl hJ hr hd h);have e:QK J.D t (c::r)=QK J.D t r+1:=(by simp[QK,h]);rw[e];refine⟨?_,by omega,by rw[show a+(QK J.D t r+1)=a+1+QK J.D t r by omega];exact q3,q4⟩;rw[List.drop_succ_cons,<-q1]
   conv=>lhs;unfold jO
   rw[a0q (by rw[h];simp)]
  have e:QK J.D t (c::r)=0:=by simp[QK,h]
  rw[e];exact⟨rfl,ha,hd,fun c' r' h2=>by cases h2;exact h⟩
theorem Vw{J:Jb}(hJ:kQ J):∀(r:LI0) (n:Nat),(∀c∈r,fF c J.s.length)->wO J.s (r.drop n)<=wO J.s r
 | [],n,_=>by simp
 |c::r,0,_=>a0E _
 |c::r,n+1,h=>by have h1:=Vw hJ r n fun c hc=>h c (by simp[hc]);have hi:=h c (by simp);have hz:=hJ.bI.sz _ (bT (s:=J.s) (k:=c.toNat) (by have:=hi.1;have:=hi.2;omega));have:wO J.s r<=(J.s.getD c.toNat 0).toNat*wO J.s r:=adP _ (by omega);rw[List.drop_succ_cons];simp only[wO];omega
abbrev ab2(J:Jb)(f:Nat)(t:S3)(c:Int)(a:Int)(m:Mk)(ks:LI0)(i:Int)(y:List (Nat×PE aC)):aT aC:=⟨[(1,xi a),(2,.val (.ptr 2 0 5)),(3,.val (.ptr 1 0 5)),(4,.val (.ptr 3 0 1)),(5,.val (.ptr 4 0 1)),(6,.loc 0 0),(9,xi c),(13,.loc 1 0),(93,xi (J.s.getD c.toNat 0)),(94,xi i)]++y,[t.ps,[.int .i64 c,.own 9]],aaV J f m++[oI false false ks]⟩
theorem aq1{M f:Nat}{J:Jb}(hJ:kQ J){op:List V->V}{r:LI0}{t:S3}{c a:Int}(x:Mk)(hc:fF c J.s.length)(Q:Nat->Mk->Prop)(h0:Q 0 x)(hq:∀j y,j<(J.s.getD c.toNat 0).toNat->Q j y->Q (j+1) (jO J op r (bM J.D t c j) y).2)
  (hk:∀j:Nat,j<(J.s.getD c.toNat 0).toNat->∀k,k<J.D.length->a2c (lF J.D k) (t.get k) c j)
  (hf:∀(j:Nat) y,j<(J.s.getD c.toNat 0).toNat->Q j y->bZ X0 Qp (iC (M+1)) (.fn 126 [] pM) [.agg (bM J.D t c j).ps,.int .i64 (i64.wrap (a+1))] (HM0 J f y) (.int .i64 (jO J op r (bM J.D t c j) y).1) (aaV J f (jO J op r (bM J.D t c j) y).2)) :
  Ii (M+1) 126 1 7 (ab2 J f t c a x [] 0 []) (.exit 2) (ab2 J f t c a (aU (Vk J.D (jO J op r) t c) (J.s.getD c.toNat 0).toNat 0 ([],x)).2 (aU (Vk J.D (jO J op r) t c) (J.s.getD c.toNat 0).toNat 0 ([],x)).1 (((J.s.getD c.toNat 0).toNat:Nat):Int) [(95,xl false)]):=by
 have hz:=hJ.bI.sz _ (bT (s:=J.s) (k:=c.toNat) (by have:=hc.1;have:=hc.2;omega));refine vM (σ:=LI0×Mk) (N:=(J.s.getD c.toNat 0).toNat) (g:=Vk J.D (jO J op r) t c) (s0:=([],x)) (st:=fun i y=>ab2 J f t c a y.2 y.1 i []) (fin:=fun y=>ab2 J f t c a y.2 y.1 (((J.s.getD c.toNat 0).toNat:Nat):Int) [(95,xl false)]) (fun j y=>y.1.length=j∧Q j y.2) (by kernel_rfl) (by unfold ah;omega) ⟨rfl,h0⟩ (fun j y hj hy=>⟨by simp[Vk,hy.1],hq j y.2 hj hy.2⟩) (fun j y hj hy m e p g=>?_) (fun y _=>?_)
 .have h1:=hf j y.2 hj hy.2;have ha:=JG (M:=M) (f:=f) (a:=[]) (cc:=[]) (H:=[]) J t c j hJ.d3 (hk j hj);have t1:decide ((j:Int)<J.s.getD c.toNat 0)=true:=by rw[a1n];omega
  have h3:=hy.1;unfold Vk at g;generalize jO J op r (bM J.D t c j) y.2=z at h1 g;obtain⟨v,z⟩:=z;exact aN gK (.b t1 (.fr [] ha (.fr [0,1,2,3,4,7,8] h1 (.o (show y.1.length+[v].length<=ah by simp only[a3j];unfold ah;omega) (.goG [.gc [10,11,13]] g)))))
 .have t1:decide ((((J.s.getD c.toNat 0).toNat:Nat):Int)<J.s.getD c.toNat 0)=false:=by rw[a2K];omega
  exact aN gK (.b t1 .ex)
open Go Tw Pv dB
theorem Yd{k:List (S3×Int)}{t:S3}(hn:(k.map (·.1)).Nodup)(h:t∈k.map (·.1)):qB X0 Qp 148 (Iz k) (.agg [.int .i64 t.a,.int .i64 t.b,.int .i64 t.c]) (.int .i64 (knS k t)):=by
 refine kS.found (x:=t) (by rw[a8m];exact hn) ?_;obtain⟨e,he,rfl⟩:=a1k.1 h;refine a1k.2 ⟨e,he,?_⟩;have:knS k e.1=e.2:=by
  have:k.find? (fun y=>decide (y.1=e.1))=some e:=by
   clear h
   induction k with
   |nil=>cases he
   |cons y l ih=>
    rw[a4t,a4z]at hn;rw[ah4];rcases a1F.1 he with rfl|he
    .simp
    have:¬y.1=e.1:=fun h=>hn.1 (a1k.2 ⟨e,he,h.symm⟩);rw[aeg this];exact ih hn.2 he
  unfold knS;rw[this];rfl
 rw[this]
abbrev ag2(J:Jb)(op:List V->V)(f:Nat)(m:Nat)(r:LI0):Prop:=∀(a:Nat) (t:S3) (x:Mk),J.o.drop a=r->a<=J.o.length->Dp J a t->XOk J op x->x.e.length+wO J.s r<=ah->x.n.length+wO J.s r<=ah ->
  bZ X0 Qp (iC m) (.fn 126 [] pM) [.agg t.ps,.int .i64 (a:Int)] (HM0 J f x) (.int .i64 (jO J op r t x).1) (aaV J f (jO J op r t x).2)
abbrev ag3(J:Jb)(f:Nat)(x:Mk)(v:V):List (PB aC):=[.map (Iz x.k),.cells [lI J.s,lI J.o,.own 8,.own 6,.int .i64 0],.aF (J.ps (.fn f [] [])),.aF [.fn 126 [] pM],.aF [.map 0],.gone,zW x.n,.list true true 39 [v],zV (x.e++[v])]
abbrev akM(J:Jb)(f:Nat)(x:Mk)(t:S3)(b:Br):List (PB aC):=[.map (Iz x.k++[(.agg t.ps,.int .i64 (x.n.length:Int))]),.cells [lI J.s,lI J.o,.own 7,.own 11,.int .i64 0],.aF (J.ps (.fn f [] [])),.aF [.fn 126 [] pM],.aF [.map 0],.gone,.gone,zV x.e,.gone,.gone,.list true true 105 [b],zW (x.n++[b])]
theorem adG{N f:Nat}{J:Jb}(hJ:kQ J){op:List V->V}(kY:xI J op)(hs:∀l:List V,l.length=J.D.length->bZ X0 Qp (iC (N+1)) (.fn f [] []) [lV l] [] (.agg (op l).ps) [])(r:LI0)(rec:∀c r',c::r' <:+ r->ag2 J op f (N+1) r'):ag2 J op f (N+2) r:=by
 intro a t x hr ha hd hx CW yu;unfold ah at CW yu;have LQ:=(kQ.o2 hJ).2.1;have hl6:=hJ.bI.len;have lsk:=apZ (M:=N) (f:=f) hJ (x:=x) r hr ha hd;obtain⟨q1,q2,q3,q4⟩:=Vu hJ (op:=op) (x:=x) r a t hr ha hd;have hw:=Vw hJ r (QK J.D t r) (fun c hc=>(kQ.o2 hJ).2.2 c (a4X (by rw[hr];exact hc)));rw[q1];generalize QK J.D t r=n at lsk q1 q2 q3 q4 hw;have Gw:J.o.drop (a+n)=r.drop n:=by rw[<-hr,afv]
 have a8h:r.drop n <:+ r:=List.drop_suffix _ _;have GV:=congrArg List.length Gw;rw[a3H]at GV;clear q1 hr;generalize a+n=i at lsk q2 q3 Gw GV;generalize r.drop n=r0 at q4 hw Gw a8h GV;cases r0 with
 |nil=>
  have e0:i=J.o.length:=by rw[a4O]at GV;omega
  have t0:((i:Int)==(J.o.length:Int))=true:=by rw[e0];simp
  rw[e0]at q3;have pV:(aW J.D t).length=J.D.length:=by simp[aW]
  have hce:=a2d (M:=N) (f:=f) J t hJ.d3 (fun k hk=>(JJ hJ q3 hk).2);have hv:=hs (aW J.D t) pV;simp only[wO]at hw;have hb:x.e.length+[op (aW J.D t)].length<=ah:=by simp only[a3j];unfold ah;omega
  have h1:bZ X0 Qp (iC (N+2)) (.fn 126 [] pM) [.agg t.ps,.int .i64 (a:Int)] (HM0 J f x) (.int .i64 (i64.wrap (0-((x.e++[op (aW J.D t)]).length:Int)))) (ag3 J f x (op (aW J.D t))):=
   fK gK (first:=[]) (cap:=pM) (.w lsk (.b t0 (.fr [] hce (.fr [] hv (.o hb .er)))))
  exact bZ.gs hX h1 [.mv 6,.gc [8,9]] (by kernel_rfl)
 |cons c r'=>
  have t0:((i:Int)==(J.o.length:Int))=false:=by rw[a4q]at GV;simp;omega
  obtain⟨aQ,hoc,vC,EL,hci,nP⟩:=kQ.at_ hJ Gw;have Bj:=q4 c r' rfl;have rc:=rec c r' a8h;have ia:fF (i:Int) J.o.length:=⟨by omega,by omega⟩;have JQ:J.o.getD (i:Int).toNat 0=c:=by rw[a4T];exact hoc
  have ig:fF (J.o.getD (i:Int).toNat 0) J.g.length:=by rw[JQ,hJ.gl];exact nP
  have hz:=hJ.bI.sz _ (bT (s:=J.s) (k:=c.toNat) (by have:=nP.1;have:=nP.2;omega));have YE:∀c'∈r',fF c' J.s.length:=fun c' h=>(kQ.o2 hJ).2.2 c' (by rw[<-vC]at h;exact a4X h);have hw0:=Q5 hJ.bI.sz YE;have hw1:wO J.s r'<=(J.s.getD c.toNat 0).toNat*wO J.s r':=adP _ (by omega);have ew:i64.wrap ((i:Int)+1)=((i+1:Nat):Int):=by rw[eP (by omega) (by omega)];omega
  simp only[wO]at hw;unfold jO;rw[a0u Bj];cases tg:decide (J.g.getD c.toNat 0>=0)
  .rw[a0q (by simp)];have tg':decide (J.g.getD (J.o.getD (i:Int).toNat 0).toNat 0>=0)=false:=by rw[JQ];exact tg
   by_cases hk:t∈x.k.map (·.1)
   .rw[a0u hk];have hF:qB X0 Qp 148 (Iz x.k) (.agg [.int .i64 t.a,.int .i64 t.b,.int .i64 t.c]) (.int .i64 (knS x.k t)):=Yd hx.nd hk;have h1:bZ X0 Qp (iC (N+2)) (.fn 126 [] pM) [.agg t.ps,.int .i64 (a:Int)] (HM0 J f x) (.int .i64 (knS x.k t)) (HM0 J f x):=
     fK gK (first:=[]) (cap:=pM) (.w lsk (.b t0 (.o ia (.o ig (.b tg' (.c (.int .i64 (knS x.k t)) [] hF (.b (rfl:true=true) .er)))))))
    exact bZ.gs hX h1 [.mv 5,.mv 6] (by kernel_rfl)
   rw[a0q hk];have hm2:=Vm hJ Gw q3 Bj;have hF:nV X0 Qp 148 (Iz x.k) (.agg [.int .i64 t.a,.int .i64 t.b,.int .i64 t.c]):=kS.fresh (x:=t) (by simpa using hk);have is:fF (J.o.getD (i:Int).toNat 0) J.s.length:=by rw[JQ];exact nP
   have Wu:∀j,j<(J.s.getD c.toNat 0).toNat->j*wO J.s r'+wO J.s r'<=(J.s.getD c.toNat 0).toNat*wO J.s r':=fun j hj=>by have:(j+1)*wO J.s r'<=(J.s.getD c.toNat 0).toNat*wO J.s r':=a3w _ hj;rw[a3i]at this;omega
   let Q:Nat->Mk->Prop:=fun j y=>XOk J op y∧y.e.length<=x.e.length+j*wO J.s r'∧y.n.length+j<=x.n.length+j*wO J.s r'∧∀e∈y.k,e∈x.k∨Dp J (i+1) e.1
   have hq:∀j y,j<(J.s.getD c.toNat 0).toNat->Q j y->Q (j+1) (jO J op r' (bM J.D t c j) y).2:=fun j y hj hy=>by
    obtain⟨y1,y2,y3,y4⟩:=hy;have Wu:=Wu j hj;have h:=TI hJ op kY r' (i+1) (bM J.D t c j) y vC aQ (nG hJ Gw q3 ⟨by omega,by omega⟩) y1 (by omega) (by omega);have h3:=h.el;have h4:=h.nl;refine⟨h.ok,by rw[a3i];omega,by rw[a3i];omega,fun e he=>?_⟩;rcases h.ks e he with h5|h5
    .exact y4 e h5
    exact .inr h5
   have lp:=aq1 (M:=N) (f:=f) hJ (op:=op) (r:=r') (t:=t) (c:=c) (a:=(i:Int)) x nP Q ⟨hx,by simp,by simp,fun e he=>.inl he⟩ hq (fun j hj k hk=>JI hJ q3 ⟨by omega,by omega⟩ hk) (fun j y hj hy=>by obtain⟨y1,y2,y3,y4⟩:=hy;have Wu:=Wu j hj;rw[ew];exact rc (i+1) (bM J.D t c j) y vC aQ (nG hJ Gw q3 ⟨by omega,by omega⟩) y1 (by unfold ah;omega) (by unfold ah;omega))
   have inv:=bU (g:=Vk J.D (jO J op r') t c) (m:=(J.s.getD c.toNat 0).toNat) (k:=0) (s:=([],x)) (fun j y=>Q j y.2) ⟨hx,by simp,by simp,fun e he=>.inl he⟩ (fun j y _ hj hy=>hq j y.2 (by omega) hy);rw[a3I]at inv;simp only[];generalize aU (Vk J.D (jO J op r') t c) (J.s.getD c.toNat 0).toNat 0 ([],x)=y at lp inv;obtain⟨ks,m⟩:=y;obtain⟨y1,y2,y3,y4⟩:=inv;have hnk:t∉m.k.map (·.1):=fun h=>by
    obtain⟨e,he,e2⟩:=a1k.1 h;rcases y4 e he with h1|h1
    .exact hk (a1k.2 ⟨e,h1,e2⟩)
    rw[e2]at h1;exact a07 hJ Gw Bj h1
   have hF2:nV X0 Qp 148 (Iz m.k) (.agg [.int .i64 t.a,.int .i64 t.b,.int .i64 t.c]):=kS.fresh (x:=t) (by simpa using hnk);have ek:Iz m.k++[(.agg t.ps,.int .i64 (m.n.length:Int))]=Iz (m.k++[(t,(m.n.length:Int))]):=by unfold Iz oN.es;rw[a4s,a4s];rfl
   have hF3:qB X0 Qp 148 (Iz m.k++[(.agg t.ps,.int .i64 (m.n.length:Int))]) (.agg [.int .i64 t.a,.int .i64 t.b,.int .i64 t.c]) (.int .i64 (m.n.length:Int)):=by
    refine(congrArg (fun l:List (PV aC×PV aC)=>qB X0 Qp 148 l (.agg [.int .i64 t.a,.int .i64 t.b,.int .i64 t.c]) (.int .i64 (m.n.length:Int))) ek).mpr ?_;refine kS.found (x:=t) ?_ ?_
    .rw[a8m,show((fun e:S3×PV X0.Γ=>e.1)∘fun e:S3×Int=>(e.1,(PV.int .i64 e.2:PV X0.Γ)))=fun e=>e.1 from rfl,a4s];exact DX y1.nd hnk
    simp
   have hb:m.n.length+[(⟨c,ks⟩:Br)].length<=ah:=by simp only[a3j];have y3:m.n.length+(J.s.getD c.toNat 0).toNat<=x.n.length+(J.s.getD c.toNat 0).toNat*wO J.s r':=y3;unfold ah;omega
   have h1:bZ X0 Qp (iC (N+2)) (.fn 126 [] pM) [.agg t.ps,.int .i64 (a:Int)] (HM0 J f x) (.int .i64 (m.n.length:Int)) (akM J f m t ⟨c,ks⟩):=by subst JQ;exact fK gK (first:=[]) (cap:=pM) (.w lsk (.b t0 (.o ia (.o ig (.b tg' (.q (.bool false) hF (.b (rfl:false=false) (.o is (.wG [.mv 5,.mv 6,.QB 1 1 3] lp (.q (.bool false) (kS.ck t) (.o hF2 (.o hb (.c (.int .i64 (m.n.length:Int)) [] hF3 .er)))))))))))))
   have h2:=bZ.gs hX h1 [.gc [7,11]] (v':=.int .i64 (m.n.length:Int)) (H2:=[.map (Iz m.k++[(.agg t.ps,.int .i64 (m.n.length:Int))]),.cells [lI J.s,lI J.o,.own 7,.own 8,.int .i64 0],.aF (J.ps (.fn f [] [])),.aF [.fn 126 [] pM],.aF [.map 0],.gone,.gone,zV m.e,zW (m.n++[⟨c,ks⟩])]) (by kernel_rfl);exact(congrArg (fun l:List (PV aC×PV aC)=>bZ X0 Qp (iC (N+2)) (.fn 126 [] pM) [.agg t.ps,.int .i64 (a:Int)] (HM0 J f x) (.int .i64 (m.n.length:Int)) [.map l,.cells [lI J.s,lI J.o,.own 7,.own 8,.int .i64 0],.aF (J.ps (.fn f [] [])),.aF [.fn 126 [] pM],.aF [.map 0],.gone,.gone,zV m.e,zW (m.n++[⟨c,ks⟩])]) ek).mp h2
  rw[a0u rfl];have tg':decide (J.g.getD (J.o.getD (i:Int).toNat 0).toNat 0>=0)=true:=by rw[JQ];exact tg
  have hg:0<=J.g.getD c.toNat 0:=by simpa using tg
  have haf:=JG (M:=N) (f:=f) (a:=[]) (cc:=[]) (H:=[]) J t c (J.g.getD c.toNat 0) hJ.d3 (fun k hk=>JI hJ q3 ⟨hg,hJ.gv c nP hg⟩ hk);have h2:=rc (i+1) (bM J.D t c (J.g.getD c.toNat 0)) x vC aQ (nG hJ Gw q3 ⟨hg,hJ.gv c nP hg⟩) hx (by unfold ah;omega) (by unfold ah;omega);rw[<-ew]at h2;subst JQ;exact fK gK (first:=[]) (cap:=pM) (.w lsk (.b t0 (.o ia (.o ig (.b tg' (.fr [] haf (.fr [0,1,2,3,4,5,6] h2 .er)))))))
theorem aq5{N f:Nat}{J:Jb}(hJ:kQ J){op:List V->V}(kY:xI J op)(hs:∀m,N<=m->∀l:List V,l.length=J.D.length->bZ X0 Qp (iC m) (.fn f [] []) [lV l] [] (.agg (op l).ps) []):∀(F:Nat) (r:LI0),r.length<=F->ag2 J op f (N+F+2) r:=by
 intro F
 induction F with
 |zero=>
  intro r hF;refine adG hJ kY (hs _ (by omega)) r fun c r' h=>?_;have:=h.length_le;rw[a4q]at this;omega
 |succ F ih=>
  intro r hF;refine adG (N:=N+F+1) hJ kY (hs _ (by omega)) r fun c r' h=>ih r' ?_;have:=h.length_le;rw[a4q]at this;omega
open Go Tw Pv dB
abbrev ab4(J:Jb)(f:Nat)(u:Int)(t:S3)(c:Int)(a:Int)(m:Mk)(ks:LI0)(i:Int)(y:List (Nat×PE aC)):aT aC:=⟨[(1,xi a),(2,.val (.ptr 2 0 5)),(3,.val (.ptr 1 0 5)),(4,.val (.ptr 3 0 1)),(5,.val (.ptr 4 0 1)),(6,.loc 0 0),(9,xi c),(13,.loc 1 0),(93,xi (J.s.getD c.toNat 0)),(94,xi i)]++y,[t.ps,[.int .i64 c,.own 10]],aaW J f u m++[oI false false ks]⟩
theorem aq6{M f:Nat}{u:Int}{J:Jb}(hJ:kQ J){op:List V->V}{r:LI0}{t:S3}{c a:Int}(x:Mk)(hc:fF c J.s.length)(Q:Nat->Mk->Prop)(h0:Q 0 x)(hq:∀j y,j<(J.s.getD c.toNat 0).toNat->Q j y->Q (j+1) (jO J op r (bM J.D t c j) y).2)
  (hk:∀j:Nat,j<(J.s.getD c.toNat 0).toNat->∀k,k<J.D.length->a2c (lF J.D k) (t.get k) c j)
  (hf:∀(j:Nat) y,j<(J.s.getD c.toNat 0).toNat->Q j y->bZ X0 Qp (iC (M+1)) (.fn 126 [] pM) [.agg (bM J.D t c j).ps,.int .i64 (i64.wrap (a+1))] (HM1 J f u y) (.int .i64 (jO J op r (bM J.D t c j) y).1) (aaW J f u (jO J op r (bM J.D t c j) y).2)) :
  Ii (M+1) 126 1 8 (ab4 J f u t c a x [] 0 []) (.exit 2) (ab4 J f u t c a (aU (Vk J.D (jO J op r) t c) (J.s.getD c.toNat 0).toNat 0 ([],x)).2 (aU (Vk J.D (jO J op r) t c) (J.s.getD c.toNat 0).toNat 0 ([],x)).1 (((J.s.getD c.toNat 0).toNat:Nat):Int) [(95,xl false)]):=by
 have hz:=hJ.bI.sz _ (bT (s:=J.s) (k:=c.toNat) (by have:=hc.1;have:=hc.2;omega));refine vM (σ:=LI0×Mk) (N:=(J.s.getD c.toNat 0).toNat) (g:=Vk J.D (jO J op r) t c) (s0:=([],x)) (st:=fun i y=>ab4 J f u t c a y.2 y.1 i []) (fin:=fun y=>ab4 J f u t c a y.2 y.1 (((J.s.getD c.toNat 0).toNat:Nat):Int) [(95,xl false)]) (fun j y=>y.1.length=j∧Q j y.2) (by kernel_rfl) (by unfold ah;omega) ⟨rfl,h0⟩ (fun j y hj hy=>⟨by simp[Vk,hy.1],hq j y.2 hj hy.2⟩) (fun j y hj hy m e p g=>?_) (fun y _=>?_)
 .have h1:=hf j y.2 hj hy.2;have ha:=JG (M:=M) (f:=f) (a:=[]) (cc:=[.ptr 0 0 1]) (H:=[.aF [.int .u8 u]]) J t c j hJ.d3 (hk j hj);have t1:decide ((j:Int)<J.s.getD c.toNat 0)=true:=by rw[a1n];omega
  have h3:=hy.1;unfold Vk at g;generalize jO J op r (bM J.D t c j) y.2=z at h1 g;obtain⟨v,z⟩:=z;exact aN gK (.b t1 (.fr [5] ha (.fr [0,1,2,3,4,5,8,9] h1 (.o (show y.1.length+[v].length<=ah by simp only[a3j];unfold ah;omega) (.goG [.gc [11,12,14]] g)))))
 .have t1:decide ((((J.s.getD c.toNat 0).toNat:Nat):Int)<J.s.getD c.toNat 0)=false:=by rw[a2K];omega
  exact aN gK (.b t1 .ex)
abbrev ag4(J:Jb)(op:List V->V)(f:Nat)(u:Int)(m:Nat)(r:LI0):Prop:=∀(a:Nat) (t:S3) (x:Mk),J.o.drop a=r->a<=J.o.length->Dp J a t->XOk J op x->x.e.length+wO J.s r<=ah->x.n.length+wO J.s r<=ah ->
  bZ X0 Qp (iC m) (.fn 126 [] pM) [.agg t.ps,.int .i64 (a:Int)] (HM1 J f u x) (.int .i64 (jO J op r t x).1) (aaW J f u (jO J op r t x).2)
abbrev ag5(J:Jb)(f:Nat)(u:Int)(x:Mk)(v:V):List (PB aC):=[.map (Iz x.k),.cells [lI J.s,lI J.o,.own 9,.own 7,.int .i64 0],.aF (J.ps (.fn f [] [.ptr 5 0 1])),.aF [.fn 126 [] pM],.aF [.map 0],.aF [.int .u8 u],.gone,zW x.n,.list true true 39 [v],zV (x.e++[v])]
abbrev akO(J:Jb)(f:Nat)(u:Int)(x:Mk)(t:S3)(b:Br):List (PB aC):=[.map (Iz x.k++[(.agg t.ps,.int .i64 (x.n.length:Int))]),.cells [lI J.s,lI J.o,.own 8,.own 12,.int .i64 0],.aF (J.ps (.fn f [] [.ptr 5 0 1])),.aF [.fn 126 [] pM],.aF [.map 0],.aF [.int .u8 u],.gone,.gone,zV x.e,.gone,.gone,.list true true 105 [b],zW (x.n++[b])]
theorem adH{N f:Nat}(u:Int){J:Jb}(hJ:kQ J){op:List V->V}(kY:xI J op)(hs:∀l:List V,l.length=J.D.length->bZ X0 Qp (iC (N+1)) (.fn f [] [.ptr 0 0 1]) [lV l] [.aF [.int .u8 u]] (.agg (op l).ps) [.aF [.int .u8 u]])(r:LI0)(rec:∀c r',c::r' <:+ r->ag4 J op f u (N+1) r'):ag4 J op f u (N+2) r:=by
 intro a t x hr ha hd hx CW yu;unfold ah at CW yu;have LQ:=(kQ.o2 hJ).2.1;have hl6:=hJ.bI.len;have lsk:=aq0 (M:=N) (f:=f) u hJ (x:=x) r hr ha hd;obtain⟨q1,q2,q3,q4⟩:=Vu hJ (op:=op) (x:=x) r a t hr ha hd;have hw:=Vw hJ r (QK J.D t r) (fun c hc=>(kQ.o2 hJ).2.2 c (a4X (by rw[hr];exact hc)));rw[q1];generalize QK J.D t r=n at lsk q1 q2 q3 q4 hw;have Gw:J.o.drop (a+n)=r.drop n:=by rw[<-hr,afv]
 have a8h:r.drop n <:+ r:=List.drop_suffix _ _;have GV:=congrArg List.length Gw;rw[a3H]at GV;clear q1 hr;generalize a+n=i at lsk q2 q3 Gw GV;generalize r.drop n=r0 at q4 hw Gw a8h GV;cases r0 with
 |nil=>
  have e0:i=J.o.length:=by rw[a4O]at GV;omega
  have t0:((i:Int)==(J.o.length:Int))=true:=by rw[e0];simp
  rw[e0]at q3;have pV:(aW J.D t).length=J.D.length:=by simp[aW]
  have hce:=aaU (M:=N) (f:=f) (u:=u) J t hJ.d3 (fun k hk=>(JJ hJ q3 hk).2);have hv:=hs (aW J.D t) pV;simp only[wO]at hw;have hb:x.e.length+[op (aW J.D t)].length<=ah:=by simp only[a3j];unfold ah;omega
  have h1:bZ X0 Qp (iC (N+2)) (.fn 126 [] pM) [.agg t.ps,.int .i64 (a:Int)] (HM1 J f u x) (.int .i64 (i64.wrap (0-((x.e++[op (aW J.D t)]).length:Int)))) (ag5 J f u x (op (aW J.D t))):=
   fK gK (first:=[]) (cap:=pM) (.w lsk (.b t0 (.fr [5] hce (.fr [5] hv (.o hb .er)))))
  exact bZ.gs hX h1 [.mv 7,.gc [9,10]] (by kernel_rfl)
 |cons c r'=>
  have t0:((i:Int)==(J.o.length:Int))=false:=by rw[a4q]at GV;simp;omega
  obtain⟨aQ,hoc,vC,EL,hci,nP⟩:=kQ.at_ hJ Gw;have Bj:=q4 c r' rfl;have rc:=rec c r' a8h;have ia:fF (i:Int) J.o.length:=⟨by omega,by omega⟩;have JQ:J.o.getD (i:Int).toNat 0=c:=by rw[a4T];exact hoc
  have ig:fF (J.o.getD (i:Int).toNat 0) J.g.length:=by rw[JQ,hJ.gl];exact nP
  have hz:=hJ.bI.sz _ (bT (s:=J.s) (k:=c.toNat) (by have:=nP.1;have:=nP.2;omega));have YE:∀c'∈r',fF c' J.s.length:=fun c' h=>(kQ.o2 hJ).2.2 c' (by rw[<-vC]at h;exact a4X h);have hw0:=Q5 hJ.bI.sz YE;have hw1:wO J.s r'<=(J.s.getD c.toNat 0).toNat*wO J.s r':=adP _ (by omega);have ew:i64.wrap ((i:Int)+1)=((i+1:Nat):Int):=by rw[eP (by omega) (by omega)];omega
  simp only[wO]at hw;unfold jO;rw[a0u Bj];cases tg:decide (J.g.getD c.toNat 0>=0)
  .rw[a0q (by simp)];have tg':decide (J.g.getD (J.o.getD (i:Int).toNat 0).toNat 0>=0)=false:=by rw[JQ];exact tg
   by_cases hk:t∈x.k.map (·.1)
   .rw[a0u hk];have hF:qB X0 Qp 148 (Iz x.k) (.agg [.int .i64 t.a,.int .i64 t.b,.int .i64 t.c]) (.int .i64 (knS x.k t)):=Yd hx.nd hk;have h1:bZ X0 Qp (iC (N+2)) (.fn 126 [] pM) [.agg t.ps,.int .i64 (a:Int)] (HM1 J f u x) (.int .i64 (knS x.k t)) (HM1 J f u x):=
     fK gK (first:=[]) (cap:=pM) (.w lsk (.b t0 (.o ia (.o ig (.b tg' (.c (.int .i64 (knS x.k t)) [] hF (.b (rfl:true=true) .er)))))))
    exact bZ.gs hX h1 [.mv 6,.mv 7] (by kernel_rfl)
   rw[a0q hk];have hm2:=Vm hJ Gw q3 Bj;have hF:nV X0 Qp 148 (Iz x.k) (.agg [.int .i64 t.a,.int .i64 t.b,.int .i64 t.c]):=kS.fresh (x:=t) (by simpa using hk);have is:fF (J.o.getD (i:Int).toNat 0) J.s.length:=by rw[JQ];exact nP
   have Wu:∀j,j<(J.s.getD c.toNat 0).toNat->j*wO J.s r'+wO J.s r'<=(J.s.getD c.toNat 0).toNat*wO J.s r':=fun j hj=>by have:(j+1)*wO J.s r'<=(J.s.getD c.toNat 0).toNat*wO J.s r':=a3w _ hj;rw[a3i]at this;omega
   let Q:Nat->Mk->Prop:=fun j y=>XOk J op y∧y.e.length<=x.e.length+j*wO J.s r'∧y.n.length+j<=x.n.length+j*wO J.s r'∧∀e∈y.k,e∈x.k∨Dp J (i+1) e.1
   have hq:∀j y,j<(J.s.getD c.toNat 0).toNat->Q j y->Q (j+1) (jO J op r' (bM J.D t c j) y).2:=fun j y hj hy=>by
    obtain⟨y1,y2,y3,y4⟩:=hy;have Wu:=Wu j hj;have h:=TI hJ op kY r' (i+1) (bM J.D t c j) y vC aQ (nG hJ Gw q3 ⟨by omega,by omega⟩) y1 (by omega) (by omega);have h3:=h.el;have h4:=h.nl;refine⟨h.ok,by rw[a3i];omega,by rw[a3i];omega,fun e he=>?_⟩;rcases h.ks e he with h5|h5
    .exact y4 e h5
    exact .inr h5
   have lp:=aq6 (M:=N) (f:=f) (u:=u) hJ (op:=op) (r:=r') (t:=t) (c:=c) (a:=(i:Int)) x nP Q ⟨hx,by simp,by simp,fun e he=>.inl he⟩ hq (fun j hj k hk=>JI hJ q3 ⟨by omega,by omega⟩ hk) (fun j y hj hy=>by obtain⟨y1,y2,y3,y4⟩:=hy;have Wu:=Wu j hj;rw[ew];exact rc (i+1) (bM J.D t c j) y vC aQ (nG hJ Gw q3 ⟨by omega,by omega⟩) y1 (by unfold ah;omega) (by unfold ah;omega))
   have inv:=bU (g:=Vk J.D (jO J op r') t c) (m:=(J.s.getD c.toNat 0).toNat) (k:=0) (s:=([],x)) (fun j y=>Q j y.2) ⟨hx,by simp,by simp,fun e he=>.inl he⟩ (fun j y _ hj hy=>hq j y.2 (by omega) hy);rw[a3I]at inv;simp only[];generalize aU (Vk J.D (jO J op r') t c) (J.s.getD c.toNat 0).toNat 0 ([],x)=y at lp inv;obtain⟨ks,m⟩:=y;obtain⟨y1,y2,y3,y4⟩:=inv;have hnk:t∉m.k.map (·.1):=fun h=>by
    obtain⟨e,he,e2⟩:=a1k.1 h;rcases y4 e he with h1|h1
    .exact hk (a1k.2 ⟨e,h1,e2⟩)
    rw[e2]at h1;exact a07 hJ Gw Bj h1
   have hF2:nV X0 Qp 148 (Iz m.k) (.agg [.int .i64 t.a,.int .i64 t.b,.int .i64 t.c]):=kS.fresh (x:=t) (by simpa using hnk);have ek:Iz m.k++[(.agg t.ps,.int .i64 (m.n.length:Int))]=Iz (m.k++[(t,(m.n.length:Int))]):=by unfold Iz oN.es;rw[a4s,a4s];rfl
   have hF3:qB X0 Qp 148 (Iz m.k++[(.agg t.ps,.int .i64 (m.n.length:Int))]) (.agg [.int .i64 t.a,.int .i64 t.b,.int .i64 t.c]) (.int .i64 (m.n.length:Int)):=by
    refine(congrArg (fun l:List (PV aC×PV aC)=>qB X0 Qp 148 l (.agg [.int .i64 t.a,.int .i64 t.b,.int .i64 t.c]) (.int .i64 (m.n.length:Int))) ek).mpr ?_;refine kS.found (x:=t) ?_ ?_
    .rw[a8m,show((fun e:S3×PV X0.Γ=>e.1)∘fun e:S3×Int=>(e.1,(PV.int .i64 e.2:PV X0.Γ)))=fun e=>e.1 from rfl,a4s];exact DX y1.nd hnk
    simp
   have hb:m.n.length+[(⟨c,ks⟩:Br)].length<=ah:=by simp only[a3j];have y3:m.n.length+(J.s.getD c.toNat 0).toNat<=x.n.length+(J.s.getD c.toNat 0).toNat*wO J.s r':=y3;unfold ah;omega
   have h1:bZ X0 Qp (iC (N+2)) (.fn 126 [] pM) [.agg t.ps,.int .i64 (a:Int)] (HM1 J f u x) (.int .i64 (m.n.length:Int)) (akO J f u m t ⟨c,ks⟩):=by subst JQ;exact fK gK (first:=[]) (cap:=pM) (.w lsk (.b t0 (.o ia (.o ig (.b tg' (.q (.bool false) hF (.b (rfl:false=false) (.o is (.wG [.mv 6,.mv 7,.QB 1 1 3] lp (.q (.bool false) (kS.ck t) (.o hF2 (.o hb (.c (.int .i64 (m.n.length:Int)) [] hF3 .er)))))))))))))
   have h2:=bZ.gs hX h1 [.gc [8,12]] (v':=.int .i64 (m.n.length:Int)) (H2:=[.map (Iz m.k++[(.agg t.ps,.int .i64 (m.n.length:Int))]),.cells [lI J.s,lI J.o,.own 8,.own 9,.int .i64 0],.aF (J.ps (.fn f [] [.ptr 5 0 1])),.aF [.fn 126 [] pM],.aF [.map 0],.aF [.int .u8 u],.gone,.gone,zV m.e,zW (m.n++[⟨c,ks⟩])]) (by kernel_rfl);exact(congrArg (fun l:List (PV aC×PV aC)=>bZ X0 Qp (iC (N+2)) (.fn 126 [] pM) [.agg t.ps,.int .i64 (a:Int)] (HM1 J f u x) (.int .i64 (m.n.length:Int)) [.map l,.cells [lI J.s,lI J.o,.own 8,.own 9,.int .i64 0],.aF (J.ps (.fn f [] [.ptr 5 0 1])),.aF [.fn 126 [] pM],.aF [.map 0],.aF [.int .u8 u],.gone,.gone,zV m.e,zW (m.n++[⟨c,ks⟩])]) ek).mp h2
  rw[a0u rfl];have tg':decide (J.g.getD (J.o.getD (i:Int).toNat 0).toNat 0>=0)=true:=by rw[JQ];exact tg
  have hg:0<=J.g.getD c.toNat 0:=by simpa using tg
  have haf:=JG (M:=N) (f:=f) (a:=[]) (cc:=[.ptr 0 0 1]) (H:=[.aF [.int .u8 u]]) J t c (J.g.getD c.toNat 0) hJ.d3 (fun k hk=>JI hJ q3 ⟨hg,hJ.gv c nP hg⟩ hk);have h2:=rc (i+1) (bM J.D t c (J.g.getD c.toNat 0)) x vC aQ (nG hJ Gw q3 ⟨hg,hJ.gv c nP hg⟩) hx (by unfold ah;omega) (by unfold ah;omega);rw[<-ew]at h2;subst JQ;exact fK gK (first:=[]) (cap:=pM) (.w lsk (.b t0 (.o ia (.o ig (.b tg' (.fr [5] haf (.fr [0,1,2,3,4,5,6,7] h2 .er)))))))
theorem aq7{N f:Nat}(u:Int){J:Jb}(hJ:kQ J){op:List V->V}(kY:xI J op)(hs:∀m,N<=m->∀l:List V,l.length=J.D.length->bZ X0 Qp (iC m) (.fn f [] [.ptr 0 0 1]) [lV l] [.aF [.int .u8 u]] (.agg (op l).ps) [.aF [.int .u8 u]]):∀(F:Nat) (r:LI0),r.length<=F->ag4 J op f u (N+F+2) r:=by
 intro F
 induction F with
 |zero=>
  intro r hF;refine adH u hJ kY (hs _ (by omega)) r fun c r' h=>?_;have:=h.length_le;rw[a4q]at this;omega
 |succ F ih=>
  intro r hF;refine adH (N:=N+F+1) u hJ kY (hs _ (by omega)) r fun c r' h=>ih r' ?_;have:=h.length_le;rw[a4q]at this;omega
end Go.Proofs.YtmobpoiejckagaaGreat
namespace Pv
open Go Tw
section
variable {X:kP} {P:LI1}
theorem bZ.akP(hX:bP X P){call:aY}{fv v:PV X.Γ}{xs:List (PV X.Γ)}{H H0 H1:List (PB X.Γ)}(gs:List G)(hs:bZ X P call fv xs H0 v H1)(hg:kT H.length gs (⟨[],[],H⟩:aT X.Γ)=some ⟨[],[],H0⟩):bZ X P call fv xs H v H1:=by
 intro A m h tf qN hr hf hx;obtain⟨m2,q1,q2,q3⟩:=lS hX hg A (fun b=>b∈bC m) h.length m ⟨[],[],h,[]⟩ ⟨⟨hr,rfl,fun k c hk=>(by simp at hk),.nil⟩,fun b hb=>.inl hb,fun b hb=>(by cases hb),a0E _⟩;have up:Up m m2:=fun i mb hi=>q3 i mb (by rw[<-hr.len];exact(a0a.1 hi).1) hi;obtain⟨w,h',ws,m1,k1,k2,k3,k4,k5,k6⟩:=hs A m2 h tf qN q1.st.heap (hf.step q2 up) (hx.step q2 up);refine⟨w,h',ws,m1,k1,k2,k3,q2.trans k4,fun i mb hi=>?_,fun b hb=>?_⟩
 .rcases up i mb hi with g|g
  .exact k5 i mb g
  rcases k5 i _ g with g|g<;>exact .inr g
 have hb:=k6 b hb;rcases q1.own b hb with g|g
 .exact g
 have:=q1.st.heap.inb hb;have:b<h.length:=this;omega
end
end Pv
namespace Go.Proofs.YtmobpoiejckagaaGreat
open Go Tw Pv dB
theorem Nk{n:Nat}(hO:Ok n Iy)(l:LI0)(hl:l.length<=ah):iW n (.fn 125 [] []) [.dJ 3 l false] [] (lI l) []:=
 have h0:=pO.aaE hX (hO 125 [.dJ 3 l false] (.own 0) (lsI l) [l.length<=ah] (by kernel_rfl) (List.forall_mem_singleton.2 hl)) rfl rfl rfl rfl
 bZ.cut hX (bZ.fzR hX h0 [0] (v':=lI l) rfl (by decide)) rfl rfl rfl rfl
abbrev aq8(J:Jb)(f:Nat)(x:Mk):List (PB aC):=[.map (Iz x.k),.cells [lI J.s,lI J.o,.own 7,.own 8,.int .i64 0],.cells (J.ps (.fn f [] [])),.cells [.fn 126 [] pM],.cells [.map 0],.gone,.gone,zV x.e,zW x.n]
theorem ab5{m f:Nat}(hO:Ok m Iy)(J:Jb)(st:S3)(z:Int×Mk)
  (c1:bZ X0 Qp (iC m) (.fn 125 [] []) [.dJ 3 J.s false] [] (lI J.s) [])
  (c2:bZ X0 Qp (iC m) (.fn 125 [] []) [.dJ 3 J.o false] [] (lI J.o) [])
  (c3:bZ X0 Qp (iC m) (.fn 130 [] []) [.agg (J.ps (.fn f [] []))] [] (.agg st.ps) [])
  (c5:bZ X0 Qp (iC m) (.fn 126 [] pM) [.agg st.ps,.int .i64 (0:Int)] [.map [],.cells [lI J.s,lI J.o,.nil .aP,.nil .aP,.int .i64 0],.aF (J.ps (.fn f [] [])),.aF [.fn 126 [] pM],.aF [.map 0]] (.int .i64 z.1) (aaV J f z.2))
  (hr:Na ⟨J.s,J.o,z.2.e,z.2.n,z.1⟩) (p1:J.s.length<=ah) (p2:J.o.length<=2^20) (p3:z.2.e.length<=ah) (p4:((bG ⟨J.s,J.o,z.2.e,z.2.n,z.1⟩).2 != 0)=false->ClP (bG ⟨J.s,J.o,z.2.e,z.2.n,z.1⟩).1) :
  bZ X0 Qp (iC (m+1)) (.fn 80 [] []) [.agg (J.ps (.fn f [] []))] [] (dA.put (vO ⟨J.s,J.o,z.2.e,z.2.n,z.1⟩).1) []:=by
 obtain⟨v,e,n,k⟩:=z;have h0:bZ X0 Qp (iC (m+1)) (.fn 80 [] []) [.agg (J.ps (.fn f [] []))] [] (dA.put (vO ⟨J.s,J.o,e,n,v⟩).1) ([]++[.cells (J.ps (.fn f [] [])),.cells [lI J.s,lI J.o,.own 7,.own 8,.int .i64 v],.map (Iz k),.cells [.map 2],.cells [.fn 126 [] [.ptr 0 0 5,.ptr 1 0 5,.ptr 4 0 1,.ptr 3 0 1]],.gone,.gone,.gone,.gone]):=
  fK hO (first:=[]) (cap:=[]) (.fr [] c1 (.fr [] c2 (.fr [] c3 (.QC (H2:=aq8 J f ⟨e,n,k⟩) [2,1,0,4,3] [2,3,4] c5 (.o hr (.o p1 (.o p2 (.o p3 (.o p4 .er)))))))))
 exact bZ.cut hX h0 rfl rfl rfl rfl
theorem ag6{N f:Nat}{J:Jb}(hJ:kQ J){op:List V->V}(kY:xI J op)(hs:∀m,N<=m->∀l:List V,l.length=J.D.length->bZ X0 Qp (iC m) (.fn f [] []) [lV l] [] (.agg (op l).ps) [])(hO:∀m,N<=m->Ok m Iy){m:Nat}(hm:N+J.o.length+2<=m):bZ X0 Qp (iC (m+1)) (.fn 80 [] []) [.agg (J.ps (.fn f [] []))] [] (dA.put (JL J op)) []:=by
 have hl:=hJ.bI.len;have LQ:=(kQ.o2 hJ).2.1;have hw:=DU hJ.bI.sz hJ.ord;have hmn:=hJ.bI.many;have c1:=Nk (n:=m) (hO m (by omega)) J.s (by unfold ah;omega);have c2:=Nk (n:=m) (hO m (by omega)) J.o (by unfold ah;omega);obtain⟨m',rfl⟩:∃m',m=m'+1:=⟨m-1,by omega⟩;have c3:=a06 (M:=m') (f:=f) (a:=[]) (cc:=[]) (H:=[]) J hJ.d3;have c4:=aq5 (N:=m'+1-J.o.length-2) (f:=f) hJ kY (fun m2 h2=>hs m2 (by omega)) J.o.length J.o (a0E _) 0 (fO J.D) ⟨[],[],[]⟩ ab3 (a4G _) (fun k hk=>by rw[zY hJ.d3 hk];exact⟨(hJ.dg k hk).t.root,a4G _⟩) ⟨⟨fun i hi=>(by simp at hi),fun i hi=>(by simp at hi),fun i hi=>(by simp at hi)⟩,fun e he=>(by cases he),a5L,fun v hv=>(by cases hv),fun b hb=>(by cases hb)⟩ (by show 0+wO J.s J.o<=ah;unfold ah;omega) (by show 0+wO J.s J.o<=ah;unfold ah;omega)
 rw[show m'+1-J.o.length-2+J.o.length+2=m'+1 by omega]at c4;have c5:=bZ.akP hX (H:=[.map [],.cells [lI J.s,lI J.o,.nil .aP,.nil .aP,.int .i64 0],.aF (J.ps (.fn f [] [])),.aF [.fn 126 [] pM],.aF [.map 0]]) [.Uw 1 2 39,.Uw 1 3 105] c4 (by kernel_rfl);obtain⟨h1,h2,h3⟩:=JM hJ kY;have hr:=a8c hJ kY;have h4:(bG (qm J op)).2=0:=by rw[(Y9 hJ kY).1]
 have h5:=xH hr (by unfold ah;omega) (by show J.s.length<=ah;unfold ah;omega) (by show J.o.length<=ah;unfold ah;omega) h4;have p1:J.s.length<=ah:=by unfold ah;omega
 have p2:J.o.length<=2^20:=by omega
 have p3:(qm J op).aK.length<=ah:=by unfold ah;omega
 have p4:((bG (qm J op)).2 != 0)=false->ClP (bG (qm J op)).1:=fun _=>by rw[h5.1];exact h5.2
 exact ab5 (hO (m'+1) (by omega)) J (fO J.D) (jO J op J.o (fO J.D) ⟨[],[],[]⟩) c1 c2 c3 c5 hr p1 p2 p3 p4
abbrev aq9(J:Jb)(f:Nat)(u:Int)(x:Mk):List (PB aC):=[.map (Iz x.k),.cells [lI J.s,lI J.o,.own 8,.own 9,.int .i64 0],.cells (J.ps (.fn f [] [.ptr 5 0 1])),.cells [.fn 126 [] pM],.cells [.map 0],.aF [.int .u8 u],.gone,.gone,zV x.e,zW x.n]
theorem ab6{m f:Nat}(u:Int)(hO:Ok m Iy)(J:Jb)(st:S3)(z:Int×Mk)
  (c1:bZ X0 Qp (iC m) (.fn 125 [] []) [.dJ 3 J.s false] [] (lI J.s) [])
  (c2:bZ X0 Qp (iC m) (.fn 125 [] []) [.dJ 3 J.o false] [] (lI J.o) [])
  (c3:bZ X0 Qp (iC m) (.fn 130 [] []) [.agg (J.ps (.fn f [] [.ptr 0 0 1]))] [.aF [.int .u8 u]] (.agg st.ps) [.aF [.int .u8 u]])
  (c5:bZ X0 Qp (iC m) (.fn 126 [] pM) [.agg st.ps,.int .i64 (0:Int)] [.map [],.cells [lI J.s,lI J.o,.nil .aP,.nil .aP,.int .i64 0],.aF (J.ps (.fn f [] [.ptr 5 0 1])),.aF [.fn 126 [] pM],.aF [.map 0],.aF [.int .u8 u]] (.int .i64 z.1) (aaW J f u z.2))
  (hr:Na ⟨J.s,J.o,z.2.e,z.2.n,z.1⟩) (p1:J.s.length<=ah) (p2:J.o.length<=2^20) (p3:z.2.e.length<=ah) (p4:((bG ⟨J.s,J.o,z.2.e,z.2.n,z.1⟩).2 != 0)=false->ClP (bG ⟨J.s,J.o,z.2.e,z.2.n,z.1⟩).1) :
  bZ X0 Qp (iC (m+1)) (.fn 80 [] []) [.agg (J.ps (.fn f [] [.ptr 0 0 1]))] [.aF [.int .u8 u]] (dA.put (vO ⟨J.s,J.o,z.2.e,z.2.n,z.1⟩).1) [.aF [.int .u8 u]]:=by
 obtain⟨v,e,n,k⟩:=z;have h0:bZ X0 Qp (iC (m+1)) (.fn 80 [] []) [.agg (J.ps (.fn f [] [.ptr 0 0 1]))] [.aF [.int .u8 u]] (dA.put (vO ⟨J.s,J.o,e,n,v⟩).1) ([.aF [.int .u8 u]]++[.cells (J.ps (.fn f [] [.ptr 0 0 1])),.cells [lI J.s,lI J.o,.own 8,.own 9,.int .i64 v],.map (Iz k),.cells [.map 3],.cells [.fn 126 [] [.ptr 1 0 5,.ptr 2 0 5,.ptr 5 0 1,.ptr 4 0 1]],.gone,.gone,.gone,.gone]):=
  fK hO (first:=[]) (cap:=[]) (.fr [] c1 (.fr [] c2 (.fr [0] c3 (.QC (H2:=aq9 J f u ⟨e,n,k⟩) [3,2,1,5,4,0] [2,3,4] c5 (.o hr (.o p1 (.o p2 (.o p3 (.o p4 .er)))))))))
 exact bZ.cut hX h0 rfl rfl rfl rfl
theorem ag7{N f:Nat}(u:Int){J:Jb}(hJ:kQ J){op:List V->V}(kY:xI J op)(hs:∀m,N<=m->∀l:List V,l.length=J.D.length->bZ X0 Qp (iC m) (.fn f [] [.ptr 0 0 1]) [lV l] [.aF [.int .u8 u]] (.agg (op l).ps) [.aF [.int .u8 u]])(hO:∀m,N<=m->Ok m Iy){m:Nat}(hm:N+J.o.length+2<=m):bZ X0 Qp (iC (m+1)) (.fn 80 [] []) [.agg (J.ps (.fn f [] [.ptr 0 0 1]))] [.aF [.int .u8 u]] (dA.put (JL J op)) [.aF [.int .u8 u]]:=by
 have hl:=hJ.bI.len;have LQ:=(kQ.o2 hJ).2.1;have hw:=DU hJ.bI.sz hJ.ord;have hmn:=hJ.bI.many;have c1:=Nk (n:=m) (hO m (by omega)) J.s (by unfold ah;omega);have c2:=Nk (n:=m) (hO m (by omega)) J.o (by unfold ah;omega);obtain⟨m',rfl⟩:∃m',m=m'+1:=⟨m-1,by omega⟩;have c3:=a06 (M:=m') (f:=f) (a:=[]) (cc:=[.ptr 0 0 1]) (H:=[.aF [.int .u8 u]]) J hJ.d3;have c4:=aq7 (N:=m'+1-J.o.length-2) (f:=f) u hJ kY (fun m2 h2=>hs m2 (by omega)) J.o.length J.o (a0E _) 0 (fO J.D) ⟨[],[],[]⟩ ab3 (a4G _) (fun k hk=>by rw[zY hJ.d3 hk];exact⟨(hJ.dg k hk).t.root,a4G _⟩) ⟨⟨fun i hi=>(by simp at hi),fun i hi=>(by simp at hi),fun i hi=>(by simp at hi)⟩,fun e he=>(by cases he),a5L,fun v hv=>(by cases hv),fun b hb=>(by cases hb)⟩ (by show 0+wO J.s J.o<=ah;unfold ah;omega) (by show 0+wO J.s J.o<=ah;unfold ah;omega)
 rw[show m'+1-J.o.length-2+J.o.length+2=m'+1 by omega]at c4;have c5:=bZ.akP hX (H:=[.map [],.cells [lI J.s,lI J.o,.nil .aP,.nil .aP,.int .i64 0],.aF (J.ps (.fn f [] [.ptr 5 0 1])),.aF [.fn 126 [] pM],.aF [.map 0],.aF [.int .u8 u]]) [.Uw 1 2 39,.Uw 1 3 105] c4 (by kernel_rfl);obtain⟨h1,h2,h3⟩:=JM hJ kY;have hr:=a8c hJ kY;have h4:(bG (qm J op)).2=0:=by rw[(Y9 hJ kY).1]
 have h5:=xH hr (by unfold ah;omega) (by show J.s.length<=ah;unfold ah;omega) (by show J.o.length<=ah;unfold ah;omega) h4;have p1:J.s.length<=ah:=by unfold ah;omega
 have p2:J.o.length<=2^20:=by omega
 have p3:(qm J op).aK.length<=ah:=by unfold ah;omega
 have p4:((bG (qm J op)).2 != 0)=false->ClP (bG (qm J op)).1:=fun _=>by rw[h5.1];exact h5.2
 exact ab6 u (hO (m'+1) (by omega)) J (fO J.D) (jO J op J.o (fO J.D) ⟨[],[],[]⟩) c1 c2 c3 c5 hr p1 p2 p3 p4
open Go Tw Pv dB
theorem akQ(x:V):Instr.sameBits 10000 (kV.v x) (kV.v x)=true:=by show Instr.sameBits 10000 (.agg #[.int .u8 x.f,.int .i64 x.n]) (.agg #[.int .u8 x.f,.int .i64 x.n])=true;simp[Instr.sameBits]
theorem a8i(x:S3):Instr.sameBits 10000 (kS.v x) (kS.v x)=true:=by show Instr.sameBits 10000 (.agg #[.int .i64 x.a,.int .i64 x.b,.int .i64 x.c]) (.agg #[.int .i64 x.a,.int .i64 x.b,.int .i64 x.c])=true;simp[Instr.sameBits]
abbrev lY:V:=⟨0,1⟩
def akR:fB aC:=cu 79 (a1 vsA) vA (fun p=>p.getD 0 V0) (fun p=>[0<p.length]) Iy
theorem aqa:Gd akR:=Y8.add fun n hO p hp=>aO hO (.o (aG (hp _ iD)) .rr)
def akS:fB aC:=cu 89 aeX vA (fun p=>lY) np akR
theorem aqb:Gd akS:=aqa.add fun n hO p hp=>aO hO .rr
def a8j:fB aC:=cu 169 (a1 vA) tA (fun p=>decide (p=lY)) np akS
theorem akT:Gd a8j:=aqb.add fun n hO p hp=>aO hO (.q (.bool (decide (p=lY))) (eqV (.tmp 3) (.tmp 4) p lY) .rr)
def qC(l:List V):Bool:=l.all fun v=>decide (v=lY)
def oz(l:List V):V:=if qC l=true then lY else V0
theorem aqc{n:Nat}(hO:Ok n a8j)(l:List V)(hl:l.length<=ah):iW (n+4) (.fn 168 [] []) [.fn 169 [] [],lV l] [] (tA.put (qC l)) []:=by
 have hs:∀v:V,iW n (.fn 169 [] []) [.agg v.ps] [] (tA.put (decide (v=lY))) []:=fun v=>pO.a3V hX (first:=[]) (cap:=[]) (hO 169 [.agg v.ps] (tA.put (decide (v=lY))) [] [] (by kernel_rfl) (fun p h=>by cases h)) rfl rfl rfl rfl;have h1:∀v:V,iW (n+1) (.fn 201 [] [.ptr 0 0 1]) [.agg v.ps] [.cells [.fn 169 [] []]] (tA.put (!(decide (v=lY)))) [.cells [.fn 169 [] []]]:=fun v=>
  jr gK (first:=[]) (.fr [] (hs v) .sr)
 have h2:=afn (n:=n+2) (by omega) (f:=201) (a:=[]) (c:=[.ptr 0 0 1]) (H:=[.cells [.fn 169 [] []]]) (g:=fun v=>!(decide (v=lY))) h1 l hl;rw[Jv]at h2;unfold qC;rw[<-Et l fun v=>decide (v=lY)];exact bZ.drop hX (Dn hX gK (first:=[]) (cap:=[]) (H1:=[.cells [.fn 169 [] []]]) (by kernel_rfl) (.k h2 .sr)) rfl rfl
def rY:fB aC:=cu 117 (a1 vsA) vA oz (fun l=>[l.length<=ah]) a8j
theorem KZ:Gd rY:=akT.deep 4 fun n hn hO l hp=>by have hs:=aqc (n:=n-4) (hO (n-4) (by omega)) l (hp _ iD);rw[show n-4+4=n by omega]at hs;show pO X0 Qp _ _ _ (vA.put (oz l)) _;unfold oz;exact aO (hO n (by omega)) (.fr [] hs (.ss .rr .rr))
abbrev Ye:Code:=(SY Qp 87).body
abbrev QM:Code:=(SY Qp 136).body
abbrev a8k(J:Jb)(f:Nat):List (Nat×PE aC):=[(2,.val (.nil .map)),(3,.val (.ptr 2 0 1)),(8,.val (.fn 136 [.agg (J.ps (.fn f [] []))] []))]
abbrev LRC(J:Jb)(f:Nat)(rd:Bool)(jP:Option Code):PB aC:=.loop rd 87 (Cm Qp 87) (a8k J f) [9,10] (xk Qp 87) (AY Qp 87) jP
abbrev HQc(J:Jb)(f:Nat)(t:List (V×Int)):List (PB aC):=[.cells (J.ps (.fn f [] [])),.map (kV.im t),.cells [.map 1]]
abbrev QN(J:Jb)(f:Nat)(rd:Bool)(jP:Option Code)(t:List (V×Int)):List (PB aC):=HQc J f t++[.mark,LRC J f rd jP]
theorem a8l(l:List V):decide (oz l=lY)=qC l:=by unfold oz;cases qC l<;>decide
def yT(l:List V)(w:Int)(t:List (V×Int)):List (V×Int):=if qC (l.drop 1)=true then sG t (l.getD 0 V0) w else t
structure Tal(t:List (V×Int)):Prop where
 nd:(t.map (·.1)).Nodup
 pos:∀e∈t,0<e.2
 bnd:∀e∈t,e.2<=2000
theorem aqe{n:Nat}(hO:Ok n rY)(J:Jb)(f:Nat){t:List (V×Int)}(ht:Tal t)(l:List V){w:Int}(h0:0<l.length)(hl:l.length<=ah)(hw:0<w∧w<=2000):iW (n+1) (.kX 4) [lV l,.int .i64 w] (QN J f true none t) (.bool true) (QN J f true none (yT l w t)):=by
 have q1:dN X0 Qp T (iC n) LL 87 true (Cm Qp 87) 5 (xk Qp 87) ⟨uq (a8k J f) [9,10] [lV l,.int .i64 w],[],QN J f true none t⟩ .norm ⟨[(3,.val (.ptr 2 0 1)),(4,.val (lV l)),(5,.val (.int .i64 w))],[],QN J f true none t⟩:=yF hX hO (by kernel_rfl) .xx;have i0:fF 0 l.length:=aG h0;have a1:(1:Int)<=l.length:=by omega
 have e1:(l.take l.length)=l:=abN;have c1:decide (oz ((l.take ((l.length:Int).toNat)).drop (1:Int).toNat)=lY)=qC (l.drop 1):=by rw[a8l];simp
 have a2:((l.take ((l.length:Int).toNat)).drop (1:Int).toNat).length<=ah:=by simp;omega
 have ev:=eqV (.tmp 13) (.tmp 14) (oz ((l.take ((l.length:Int).toNat)).drop (1:Int).toNat)) lY;have z01:(0:Int)<=1:=by decide
 have z02:(l.length:Int)<=(l.length:Int):=a9d _;unfold yT;cases hc:qC (l.drop 1)
 .rw[hc]at c1;rw[a0q (by simp)];have q2:dN X0 Qp T (iC n) LL 87 true (Cm Qp 87) 5 (AY Qp 87) ⟨[(3,.val (.ptr 2 0 1)),(4,.val (lV l)),(5,.val (.int .i64 w))],[],QN J f false none t⟩ .norm ⟨[(3,.val (.ptr 2 0 1)),(4,.val (lV l)),(5,.val (.int .i64 w)),(15,xl false)],[],QN J f false none t⟩:=
   yF hX hO (by kernel_rfl) (.o z01 (.o a1 (.o z02 (.o a2 (.q (.bool (decide (oz ((l.take ((l.length:Int).toNat)).drop (1:Int).toNat)=lY))) ev (.b c1 .xx))))))
  exact I8 hX (l:=4) rfl rfl (by kernel_rfl) q1 rfl q2 rfl
 rw[hc]at c1;rw[a0u rfl];by_cases hk:l.getD 0 V0∈t.map (·.1)
 .obtain⟨j,old,g1,g2,g3,g4⟩:=kV.Vr (akQ _) ht.nd hk (n:=w) fun e he=>eP (by have:=ht.pos e he;omega) (by have:=ht.bnd e he;omega);have q2:dN X0 Qp T (iC n) LL 87 true (Cm Qp 87) 5 (AY Qp 87) ⟨[(3,.val (.ptr 2 0 1)),(4,.val (lV l)),(5,.val (.int .i64 w))],[],QN J f false none t⟩ .norm ⟨[],[],[.cells (J.ps (.fn f [] [])),.map (Jg (kV.im t) j (.int .i64 (i64.wrap (old+w)))),.cells [.map 1],.mark,LRC J f false none]⟩:=
   yF hX hO (by kernel_rfl) (.o z01 (.o a1 (.o z02 (.o a2 (.q (.bool (decide (oz ((l.take ((l.length:Int).toNat)).drop (1:Int).toNat)=lY))) ev (.b c1 (.o i0 (.c (.int .i64 old) [] g1 (.a (.call (.int .i64 old) []) (.a (.ix j) (.o g2 (.o g3 .xx))))))))))))
  rw[g4]at q2;exact I8 hX (l:=4) rfl rfl (by kernel_rfl) q1 rfl q2 rfl
 obtain⟨g1,g2,g3,g4⟩:=kV.Vt hk (n:=w) (by rw[Int.zero_add];exact eP (by omega) (by omega));have q2:dN X0 Qp T (iC n) LL 87 true (Cm Qp 87) 5 (AY Qp 87) ⟨[(3,.val (.ptr 2 0 1)),(4,.val (lV l)),(5,.val (.int .i64 w))],[],QN J f false none t⟩ .norm ⟨[],[],[.cells (J.ps (.fn f [] [])),.map (Jg (kV.im t++[(.agg (l.getD 0 V0).ps,.int .i64 0)]) (kV.im t).length (.int .i64 (i64.wrap (0+w)))),.cells [.map 1],.mark,LRC J f false none]⟩:=
  yF hX hO (by kernel_rfl) (.o z01 (.o a1 (.o z02 (.o a2 (.q (.bool (decide (oz ((l.take ((l.length:Int).toNat)).drop (1:Int).toNat)=lY))) ev (.b c1 (.o i0 (.q (.bool false) g1 (.a .calm (.o (kV.ck (l.getD 0 V0)) (.o g1 (.o g2 (.o g3 .xx)))))))))))))
 have g4:Jg (kV.im t++[(.agg (l.getD 0 V0).ps,.int .i64 0)]) (kV.im t).length (.int .i64 (i64.wrap (0+w)))=kV.im (sG t (l.getD 0 V0) w):=g4;rw[g4]at q2;exact I8 hX (l:=4) rfl rfl (by kernel_rfl) q1 rfl q2 rfl
open Go Tw Pv dB
abbrev HN(J:Jb)(f:Nat)(t:List (V×Int))(now:List (S3×Int)):List (PB aC):=QN J f true none t++[.map (kS.im now)]
abbrev bLB:Code:=eU (eU (eX (eU (eX (eX QM)))))
abbrev bB1:Code:=eU (eU (eX (eX bLB)))
abbrev bIB:Code:=eU (eU (eX (eU (eX (eX bB1)))))
abbrev bX:Code:=eU (eX (eX bIB))
abbrev bL2:Code:=eU (eU (eX (eX (eX (eX QM)))))
abbrev bX2:Code:=eU (eX (eX bL2))
abbrev a4b(J:Jb)(c:Int)(a:Int):List (Nat×PE aC):=[(1,.val (.kX 4)),(2,.loc 0 0),(6,xi c),(7,.val (.map 6)),(21,xL 3 J.o),(22,xi J.o.length),(23,xi a),(29,.val (.iter 7))]
abbrev HI(J:Jb)(f:Nat)(t:List (V×Int))(now next:List (S3×Int))(seen:List Nat):List (PB aC):=HN J f t now++[.map (kS.im next),.dD 5 now.length seen]
structure NI(J:Jb)(a:Nat)(m:List (S3×Int)):Prop where
 nd:(m.map (·.1)).Nodup
 pos:∀e∈m,0<e.2
 dp:∀e∈m,Dp J a e.1
theorem NI.add{J:Jb}{a:Nat}{m:List (S3×Int)}(h:NI J a m){s:S3}{n:Int}(hs:Dp J a s)(hn:0<n):NI J a (sG m s n):=
 ⟨G8 h.nd s n,P9 hn h.pos,fun e he=>by
  rcases a6M he with e1|⟨e',h1,h2⟩
  .rw[e1];exact hs
  .rw[<-h2];exact h.dp e' h1⟩
theorem Bz{κ:Type}[DecidableEq κ](q:Int):∀m:List (κ×Int),dI (fun _=>q) m=dI (fun _=>1) m*q
 | []=>by simp[dI]
 |e::m=>by simp only[dI,Bz q m,afW,acf]
theorem IC{κ:Type}[DecidableEq κ]:∀{m:List (κ×Int)},(∀e∈m,0<e.2)->0<=dI (fun _=>1) m∧∀e∈m,e.2<=dI (fun _=>1) m
 | [],_=>⟨a9d _,fun e he=>by cases he⟩
 |x::m,h=>by
  obtain⟨h1,h2⟩:=IC (m:=m) fun e he=>h e (by simp[he]);have h0:=h x (by simp);simp only[dI,acf];refine⟨by omega,fun e he=>?_⟩;rcases a1F.1 he with rfl|he
  .omega
  have:=h2 e he;omega
theorem a8n{κ:Type}[DecidableEq κ]{m:List (κ×Int)}{q:Nat}(hp:∀e∈m,0<e.2)(hq:1<=q)(hs:dI (fun _=>(q:Int)) m<=2000):∀e∈m,e.2<=2000:=fun e he=>by
 obtain⟨h1,h2⟩:=IC hp;rw[Bz]at hs;have h3:=h2 e he;have:dI (fun _=>1) m<=dI (fun _=>1) m*(q:Int):=by have:=a95 (show(1:Int)<=q by omega) h1;omega
 omega
theorem Yf{J:Jb}(r:LI0)(m:List (S3×Int)):dI (xZ J (fun _=>1) r) m=dI (fun _=>(Af J r:Int)) m:=by
 induction m with
 |nil=>rfl
 |cons e m ih=>simp only[dI,ih,ED]
theorem EH{J:Jb}{a:Nat}{r:LI0}{m:List (S3×Int)}(h:NI J a m)(hq:1<=Af J r){s:S3}{n b:Int}(hn:0<n)(hs:dI (fun _=>(Af J r:Int)) m+n*(Af J r:Int)<=b)(hb:b<=2000):n<=2000∧(∀e∈m,e.2<=2000)∧∀e∈m,i64.wrap (e.2+n)=e.2+n:=by
 obtain⟨h1,h2⟩:=IC h.pos;have h3:0<=dI (fun _=>(Af J r:Int)) m:=by rw[Bz];exact adW h1 (by omega)
 have h4:n<=n*(Af J r:Int):=by have:=a95 (show(1:Int)<=Af J r by omega) (show 0<=n by omega);omega
 have h5:0<=n*(Af J r:Int):=by omega
 have h6:=a8n h.pos hq (show dI (fun _=>(Af J r:Int)) m<=2000 by omega);refine⟨by omega,h6,fun e he=>?_⟩;have:=h6 e he;have:=h.pos e he;exact eP (by omega) (by omega)
theorem a2j{now:List (S3×Int)}{j:Nat}{st:S3}{w:Int}(h:now[j]? = some (st,w)):(kS.im now).length=now.length∧(kS.im now)[j]? = some (.agg st.ps,.int .i64 w):=by refine⟨kS.pR now,?_⟩;rw[kS.Bv,h];rfl
section
variable {n:Nat} {J:Jb} (hJ:kQ J) {f:Nat} (t:List (V×Int)) (now:List (S3×Int)) (seen:List Nat) {a:Nat} {c:Int} {r:LI0} {st:S3} {w:Int} {j:Nat}
abbrev sX(J:Jb)(f:Nat)(t:List (V×Int))(now next:List (S3×Int))(c:Int)(a:Int)(st:S3)(w:Int)(js:List Nat):aT aC:=⟨jo (T.iE 136 7) ((31,.val (.bool true))::(30,.val (.cO [.bool true,.agg st.ps,.int .i64 w]))::a4b J c a),[J.ps (.fn f [] [])],HI J f t now next js⟩
abbrev sZ(J:Jb)(f:Nat)(t:List (V×Int))(now next:List (S3×Int))(c:Int)(a:Int)(st:S3)(js:List Nat):aT aC:=⟨a4b J c a,[J.ps (.fn f [] []),st.ps],HI J f t now next js⟩
abbrev wDi(J:Jb)(f:Nat)(t:List (V×Int))(now:List (S3×Int))(c:Int)(a:Int)(st:S3)(w:Int)(js:List Nat)(next:List (S3×Int))(i:Int)(x:List (Nat×PE aC)):aT aC:=⟨[(1,.val (.kX 4)),(2,.loc 0 0),(6,xi c),(7,.val (.map 6)),(8,.loc 1 0),(9,xi w),(21,xL 3 J.o),(22,xi J.o.length),(23,xi a),(29,.val (.iter 7)),(75,xi (J.s.getD c.toNat 0)),(76,xi i)]++x,[J.ps (.fn f [] []),st.ps],HI J f t now next js⟩
include hJ
theorem lDi(hr:J.o.drop a=c::r)(hd:Dp J a st)(hw:0<w){next:List (S3×Int)}(hN:NI J (a+1) next)(hg:¬decide (J.g.getD c.toNat 0>=0)=true)(hb:dI (fun _=>(Af J r:Int)) next+w*(Af J (c::r):Int)<=2000)(js:List Nat) :
  ∃next',NI J (a+1) next'∧(∀ψ,dI (xZ J ψ r) next'=dI (xZ J ψ r) next+w*xZ J ψ (c::r) st) ∧
   Ii (n+1) 136 2 5 (wDi J f t now c a st w js next 0 []) (.exit 5) (wDi J f t now c a st w js next' ((J.s.getD c.toNat 0).toNat:Nat) [(77,xl false)]):=by
 obtain⟨aQ,hoc,vC,EL,hci,nP⟩:=kQ.at_ hJ hr;have hz:=hJ.bI.sz _ (bT (s:=J.s) (k:=c.toNat) (by have:=nP.1;have:=nP.2;omega));have YE:∀c'∈r,fF c' J.s.length:=fun c' h=>(kQ.o2 hJ).2.2 c' (by rw[<-vC]at h;exact a4X h);have hq:=(JO hJ YE).1;have pV:(Af J (c::r):Int)=((J.s.getD c.toNat 0).toNat:Int)*(Af J r:Int):=by
  have:(Bo J c).length=(J.s.getD c.toNat 0).toNat:=by unfold Bo;rw[a0q hg];simp
  rw[Af,this,ae7]
 let g:Nat->List (S3×Int)->List (S3×Int):=fun k y=>sG y (bM J.D st c k) w
 have inv:=bU (g:=g) (m:=(J.s.getD c.toNat 0).toNat) (k:=0) (s:=next) (fun k y=>NI J (a+1) y∧∀ψ,dI (xZ J ψ r) y=dI (xZ J ψ r) next+w*eu (fun(j:Nat)=>xZ J ψ r (bM J.D st c j)) (List.range k)) ⟨hN,fun ψ=>by simp[eu]⟩ (fun k y _ hk hy=>by obtain⟨h1,h2⟩:=hy;refine⟨h1.add (nG hJ hr hd ⟨by omega,by omega⟩) hw,fun ψ=>?_⟩;show dI (xZ J ψ r) (sG y _ w)=_;rw[zN,h2 ψ,abX,Ie,Int.mul_add];simp only[eu,Int.add_zero];omega)
 rw[a3I]at inv;refine⟨_,inv.1,fun ψ=>by rw[inv.2 ψ,aaZ hg],?_⟩;have bound:∀k y,k<(J.s.getD c.toNat 0).toNat->(∀ψ,dI (xZ J ψ r) y=dI (xZ J ψ r) next+w*eu (fun(j:Nat)=>xZ J ψ r (bM J.D st c j)) (List.range k))->dI (fun _=>(Af J r:Int)) y+w*(Af J r:Int)<=2000:=fun k y hk hy=>by have h1:=hy fun _=>1;rw[Yf,Yf,qF (φ':=fun _=>(Af J r:Int)) (fun _ _=>ED r _),Bq,a98]at h1;rw[h1];rw[pV]at hb;have h2:((k:Int)+1)*(Af J r:Int)<=((J.s.getD c.toNat 0).toNat:Int)*(Af J r:Int):=abI (by omega) (by omega);have h3:=a95 h2 (show 0<=w by omega);rw[afW,Int.mul_add,Int.one_mul]at h3;omega
 refine vM (σ:=List (S3×Int)) (N:=(J.s.getD c.toNat 0).toNat) (g:=g) (s0:=next) (st:=fun i y=>wDi J f t now c a st w js y i []) (fin:=fun y=>wDi J f t now c a st w js y (((J.s.getD c.toNat 0).toNat:Nat):Int) [(77,xl false)]) (fun k y=>NI J (a+1) y∧∀ψ,dI (xZ J ψ r) y=dI (xZ J ψ r) next+w*eu (fun(j:Nat)=>xZ J ψ r (bM J.D st c j)) (List.range k)) (by kernel_rfl) (by unfold ah;omega) ⟨hN,fun ψ=>by simp[eu]⟩ (fun k y hk hy=>?_) (fun k y hk hy m e p g9=>?_) (fun y _=>?_)
 .obtain⟨h1,h2⟩:=hy;refine⟨h1.add (nG hJ hr hd ⟨by omega,by omega⟩) hw,fun ψ=>?_⟩;show dI (xZ J ψ r) (sG y _ w)=_;rw[zN,h2 ψ,abX,Ie,Int.mul_add];simp only[eu,Int.add_zero];omega
 .obtain⟨h1,h2⟩:=hy;obtain⟨b1,b2,b3⟩:=EH h1 hq (s:=bM J.D st c k) hw (bound k y hk h2) (a9d _);have t1:decide ((k:Int)<J.s.getD c.toNat 0)=true:=by rw[a1n];omega
  have ha:=JG (M:=n) (f:=f) (a:=[]) (cc:=[]) (H:=[]) J st c k hJ.d3 fun i hi=>JI hJ hd ⟨by omega,by omega⟩ hi;have g9:dK X0 Qp T (iC (n+1)) LL 136 false _ 5 _ m (wDi J f t now c a st w js (sG y (bM J.D st c k) w) _ []) e p:=g9;by_cases hk:bM J.D st c k∈y.map (·.1)
  .obtain⟨jj,old,g1,g2,g3,g4⟩:=kS.Vr (a8i _) h1.nd hk (n:=w) b3;unfold wDi HI at g9;rw[<-g4]at g9;exact aN gK (.b t1 (.fr [] ha (.c (.int .i64 old) [] g1 (.a (.call (.int .i64 old) []) (.a (.ix jj) (.o g2 (.o g3 (.go g9))))))))
  .obtain⟨g1,g2,g3,g4⟩:=kS.Vt hk (n:=w) (by rw[Int.zero_add];exact eP (by omega) (by omega));unfold wDi HI at g9;rw[<-g4]at g9;exact aN gK (.b t1 (.fr [] ha (.q (.bool false) g1 (.a .calm (.o (kS.ck (bM J.D st c k)) (.o g1 (.o g2 (.o g3 (.go g9)))))))))
 .have t1:decide ((((J.s.getD c.toNat 0).toNat:Nat):Int)<J.s.getD c.toNat 0)=false:=by rw[a2K];omega
  exact aN gK (.b t1 .ex)
end
open Go Tw Pv dB
abbrev sH(J:Jb)(f:Nat)(t:List (V×Int))(now next:List (S3×Int))(c:Int)(a:Int)(js:List Nat):aT aC:=⟨a4b J c a,[J.ps (.fn f [] [])],HI J f t now next js⟩
section
variable {n:Nat} {J:Jb} (hJ:kQ J) {f:Nat} (t:List (V×Int)) (now:List (S3×Int)) (seen:List Nat) {a:Nat} {c:Int} {r:LI0} {st:S3} {w:Int} {j:Nat}
include hJ
theorem akU(hr:J.o.drop a=c::r)(hd:Dp J a st)(hw:0<w){next:List (S3×Int)}(hN:NI J (a+1) next)(hj:now[j]? = some (st,w))(hb:dI (fun _=>(Af J r:Int)) next+w*(Af J (c::r):Int)<=2000) :
  ∃next' e s',NI J (a+1) next'∧(∀ψ,dI (xZ J ψ r) next'=dI (xZ J ψ r) next+w*xZ J ψ (c::r) st)∧(e=.norm∨e=.exit 3) ∧
   dN X0 Qp T (iC (n+1)) LL 136 false (Cm Qp 136) 5 bX (sX J f t now next c a st w (j::seen)) e s' ∧
   gW X0 (T.eY 136 (dU bIB)) s'=sH J f t now next' c a (j::seen):=by
 obtain⟨aQ,hoc,vC,EL,hci,nP⟩:=kQ.at_ hJ hr;have hz:=hJ.bI.sz _ (bT (s:=J.s) (k:=c.toNat) (by have:=nP.1;have:=nP.2;omega));have YE:∀c'∈r,fF c' J.s.length:=fun c' h=>(kQ.o2 hJ).2.2 c' (by rw[<-vC]at h;exact a4X h);have hq:=(JO hJ YE).1;have hcG:fF c J.g.length:=by rw[hJ.gl];exact nP
 have ho:=a2j hj;by_cases hg:decide (J.g.getD c.toNat 0>=0)=true
 .have hl1:(Af J (c::r):Int)=Af J r:=by rw[Af,Bo,a0u hg];simp
  rw[hl1]at hb;have hgv:0<=J.g.getD c.toNat 0:=by simpa using hg
  have hd2:=nG hJ hr hd ⟨hgv,hJ.gv c nP hgv⟩;obtain⟨b1,b2,b3⟩:=EH hN hq (s:=st) hw hb (a9d _);have ha:=JG (M:=n) (f:=f) (a:=[]) (cc:=[]) (H:=[]) J st c (J.g.getD c.toNat 0) hJ.d3 fun i hi=>JI hJ hd ⟨hgv,hJ.gv c nP hgv⟩ hi;refine⟨sG next (bM J.D st c (J.g.getD c.toNat 0)) w,.exit 3,sZ J f t now (sG next (bM J.D st c (J.g.getD c.toNat 0)) w) c a st (j::seen),hN.add hd2 hw,fun ψ=>by rw[zN,a3Y hg],.inr rfl,?_,by kernel_rfl⟩;unfold sZ HI;by_cases hk:bM J.D st c (J.g.getD c.toNat 0)∈next.map (·.1)
  .obtain⟨jj,old,g1,g2,g3,g4⟩:=kS.Vr (a8i _) hN.nd hk (n:=w) b3;rw[<-g4];exact zO hX gK (by kernel_rfl) (.c (.cO [.agg st.ps,.int .i64 w]) [] ho (.o nP (.o hcG (.b hg (.fr [] ha (.c (.int .i64 old) [] g1 (.a (.call (.int .i64 old) []) (.a (.ix jj) (.o g2 (.o g3 (.r rfl)))))))))))
  .obtain⟨g1,g2,g3,g4⟩:=kS.Vt hk (n:=w) (by rw[Int.zero_add];exact eP (by omega) (by omega));rw[<-g4];exact zO hX gK (by kernel_rfl) (.c (.cO [.agg st.ps,.int .i64 w]) [] ho (.o nP (.o hcG (.b hg (.fr [] ha (.q (.bool false) g1 (.a .calm (.o (kS.ck (bM J.D st c (J.g.getD c.toNat 0))) (.o g1 (.o g2 (.o g3 (.r rfl))))))))))))
 have hg':decide (J.g.getD c.toNat 0>=0)=false:=by simpa using hg
 have vk:((J.s.getD c.toNat 0).toNat:Int)=J.s.getD c.toNat 0:=by omega
 have pV:(Af J (c::r):Int)=J.s.getD c.toNat 0*(Af J r:Int):=by
  have:(Bo J c).length=(J.s.getD c.toNat 0).toNat:=by unfold Bo;rw[a0q hg];simp
  rw[Af,this,ae7,vk]
 have hs:=a7Y (M:=n) (f:=f) (a:=[]) (cc:=[]) (H:=[]) J st c hJ.d3 (fun k hk h=>⟨by simpa using h,(hd k hk).1.1⟩);cases Bj:jX J.D st c
 .rw[Bj]at hs;have hd2:=Vl hJ hr hd Bj;have hm:0<w*J.s.getD c.toNat 0:=Int.mul_pos hw (by omega);rw[pV,<-ahf]at hb;obtain⟨b1,b2,b3⟩:=EH hN hq (s:=st) hm hb (a9d _);have hwm:i64.wrap (w*J.s.getD c.toNat 0)=w*J.s.getD c.toNat 0:=eP (by omega) (by omega);refine⟨sG next st (w*J.s.getD c.toNat 0),.exit 3,sZ J f t now (sG next st (w*J.s.getD c.toNat 0)) c a st (j::seen),hN.add hd2 hm,fun ψ=>by rw[zN,afX hg Bj,vk,ahf],.inr rfl,?_,by kernel_rfl⟩;unfold sZ HI;by_cases hk:st∈next.map (·.1)
  .obtain⟨jj,old,g1,g2,g3,g4⟩:=kS.Vr (a8i _) hN.nd hk (n:=w*J.s.getD c.toNat 0) b3;rw[<-g4,<-hwm];exact zO hX gK (by kernel_rfl) (.c (.cO [.agg st.ps,.int .i64 w]) [] ho (.o nP (.o hcG (.b hg' (.fr [] hs (.b (rfl:(!false)=true) (.c (.int .i64 old) [] g1 (.a (.call (.int .i64 old) []) (.a (.ix jj) (.o g2 (.o g3 (.r rfl))))))))))))
  .obtain⟨g1,g2,g3,g4⟩:=kS.Vt hk (n:=w*J.s.getD c.toNat 0) (by rw[Int.zero_add];exact hwm);rw[<-g4,<-hwm];exact zO hX gK (by kernel_rfl) (.c (.cO [.agg st.ps,.int .i64 w]) [] ho (.o nP (.o hcG (.b hg' (.fr [] hs (.b (rfl:(!false)=true) (.q (.bool false) g1 (.a .calm (.o (kS.ck st) (.o g1 (.o g2 (.o g3 (.r rfl)))))))))))))
 .rw[Bj]at hs;obtain⟨next',h1,h2,h3⟩:=lDi (n:=n) hJ (f:=f) t now hr hd hw hN hg hb (j::seen);refine⟨next',.norm,_,h1,h2,.inl rfl,zO (ps1:=wDi J f t now c a st w (j::seen) next' ((J.s.getD c.toNat 0).toNat:Nat) [(77,xl false)]) hX gK (by kernel_rfl) (.c (.cO [.agg st.ps,.int .i64 w]) [] ho (.o nP (.o hcG (.b hg' (.fr [] hs (.b (rfl:(!true)=false) (.w h3 (.r rfl)))))))),by kernel_rfl⟩
end
end Go.Proofs.YtmobpoiejckagaaGreat
namespace Pv
open Go Tw
section
variable {X:kP} {P:LI1} {T:qK} {call:aY} {cd:vG} {L f nt B:Nat}
theorem aJ.BA{a b:Code}{ps s1:aT X.Γ}{Q:Ex->aT X.Γ->Prop}(hn:o8 a=true)(ha:dN X P T call L f false nt B a ps .norm s1)(hb:aJ X P T call cd L f nt B b s1 Q):aJ X P T call cd L f nt B (.seq a b) ps Q:=
 aJ.seq (R:=fun e s=>e=.norm∧s=s1) (dN.dem hn ha ⟨rfl,rfl⟩) (fun s h=>by obtain⟨_,rfl⟩:=h;exact hb) (fun i s h=>by cases h.1) (fun s h=>by cases h.1)
theorem aJ.step{c:Code}{ps:aT X.Γ}{e:Ex}{ps1:aT X.Γ}{Q:Ex->aT X.Γ->Prop}(hn:o8 c=true)(ha:dN X P T call L f false nt B c ps e ps1)(hq:Q e ps1):aJ X P T call cd L f nt B c ps Q:=dN.dem hn ha hq
end
end Pv
namespace Go.Proofs.YtmobpoiejckagaaGreat
open Go Tw Pv dB
theorem L6{α:Type}[DecidableEq α](φ:α->Int)(p:α->Bool):∀l:List α,eu φ l=eu φ (l.filter p)+eu φ (l.filter fun a=>!p a)
 | []=>rfl
 |a::l=>by
  rw[eu,L6 φ p l];cases h:p a
  .rw[adu (by simp[h]),adw (by simp[h]),eu];omega
  rw[adw h,adu (by simp[h]),eu];omega
theorem Vx{α:Type}[DecidableEq α]{φ:α->Int}:∀{l:List α},(∀a∈l,0<=φ a)->0<=eu φ l
 | [],_=>a9d _
 |a::l,h=>by have:=Vx (l:=l) fun b hb=>h b (by simp[hb]);have:=h a (by simp);rw[eu];omega
theorem JR{n:Nat}{l:List Nat}(hn:l.Nodup)(hl:∀j∈l,j<n):((List.range n).filter fun j=>l.contains j).Perm l:=
 (a7H (List.nodup_range.filter _) hn).2 fun j=>by rw[a8G,a4B,List.contains_iff_mem];exact⟨fun h=>h.2,fun h=>⟨hl j h,h⟩⟩
theorem Vy{n:Nat}{φ:Nat->Int}{l:List Nat}(hn:l.Nodup)(hl:∀j∈l,j<n)(hp:∀j,j<n->0<=φ j):eu φ l<=eu φ (List.range n):=by rw[L6 φ (fun j=>l.contains j) (List.range n),Jr φ (JR hn hl)];have:=Vx (φ:=φ) (l:=(List.range n).filter fun j=>!l.contains j) fun j hj=>hp j (a4B.1 (a8G.1 hj).1);omega
theorem Qg{n:Nat}{φ:Nat->Int}{l:List Nat}(hn:l.Nodup)(hl:∀j∈l,j<n)(ha:∀j,j<n->j∈l):eu φ l=eu φ (List.range n):=
 (Jr φ ((a7H ae0 hn).2 fun j=>⟨fun h=>ha j (a4B.1 h),fun h=>a4B.2 (hl j h)⟩)).symm
abbrev nowAt(now:List (S3×Int))(j:Nat):S3×Int:=now.getD j (⟨0,0,0⟩,0)
theorem IE{φ:S3->Int}(now:List (S3×Int)):eu (fun j=>(nowAt now j).2*φ (nowAt now j).1) (List.range now.length)=dI φ now:=by
 have h1:dI φ now=eu (fun e:S3×Int=>e.2*φ e.1) now:=by
  induction now with
  |nil=>rfl
  |cons e m ih=>simp only[dI,eu,ih]
 have h2:now=(List.range now.length).map fun j=>nowAt now j:=by refine(rO (d:=(⟨⟨0,0,0⟩,0⟩:S3×Int)) (by simp)).2 fun k hk=>?_;simp[List.getD,hk]
 rw[h1]
 conv=>rhs;rw[h2]
 rw[zZ]
theorem Yg{now:List (S3×Int)}{j:Nat}{e:S3×Int}(h:now[j]? = some e):nowAt now j=e∧j<now.length∧e∈now:=by obtain⟨h1,h2⟩:=a0a.1 h;exact⟨by simp[nowAt,List.getD,h],h1,h2▸a4D h1⟩
section
variable {n:Nat} {J:Jb} (hJ:kQ J) {f:Nat} (t:List (V×Int)) (now:List (S3×Int)) {a:Nat} {c:Int} {r:LI0}
def InS(J:Jb)(f:Nat)(t:List (V×Int))(now:List (S3×Int))(a:Nat)(c:Int)(r:LI0)(seen:List Nat)(s:aT aC):Prop:=
 seen.Nodup∧(∀j∈seen,j<now.length)∧∃next,NI J (a+1) next∧(∀ψ,dI (xZ J ψ r) next=eu (fun j=>(nowAt now j).2*xZ J ψ (c::r) (nowAt now j).1) seen)∧gW X0 (T.eY 136 (dU bIB)) s=sH J f t now next c a seen
structure yJ(J:Jb)(a:Nat)(now:List (S3×Int)):Prop where
 i:NI J a now
 s:∀ψ,dI (xZ J ψ (J.o.drop a)) now=xZ J ψ J.o (fO J.D)
include hJ
theorem ag9:(Af J J.o:Int)<=2000:=by have h1:=(JO hJ (kQ.o2 hJ).2.2).2;have hw:=DU hJ.bI.sz hJ.ord;have hm:=hJ.bI.many;omega
theorem Nl(h:yJ J a now):dI (fun _=>(Af J (J.o.drop a):Int)) now<=2000:=by have:=h.s fun _=>1;rw[Yf,ED]at this;have:=ag9 hJ;omega
theorem Yh(a:Nat):1<=Af J (J.o.drop a):=(JO hJ fun c hc=>(kQ.o2 hJ).2.2 c (a4X hc)).1
theorem a2k(h:yJ J a now):now.length<=2000∧∀e∈now,e.2<=2000:=by
 have h1:=a8n h.i.pos (Yh hJ a) (Nl hJ now h);obtain⟨h2,h3⟩:=IC h.i.pos;have h4:=Nl hJ now h;rw[Bz]at h4;have h5:=a95 (show(1:Int)<=Af J (J.o.drop a) by have:=Yh hJ a;omega) h2;have h6:∀{m:List (S3×Int)},(∀e∈m,0<e.2)->(m.length:Int)<=dI (fun _=>1) m:=by
  intro m
  induction m with
  |nil=>intro _;exact a9d _
  |cons e m ih=>
   intro hp;have:=ih fun e he=>hp e (by simp[he]);have:=hp e (by simp);simp only[dI,a4q,acf];omega
 have:=h6 h.i.pos;exact⟨by omega,h1⟩
set_option maxRecDepth 20000 in
theorem inLoop(hr:J.o.drop a=c::r)(h:yJ J a now):aJ X0 Qp T (iC (n+1)) D8 LL 136 (Cm Qp 136) 5 (.block 2 (.loop bIB)) (sH J f t now [] c a [])
  fun e s=>e=.norm∧∃next seen,NI J (a+1) next∧(∀ψ,dI (xZ J ψ r) next=dI (xZ J ψ (c::r)) now)∧s={ sH J f t now next c a seen with env:=jo (T.iE 136 7) ((31,.val (.bool false))::(30,.val (.cO [.bool false]))::a4b J c a) }:=by
 have e0:bIB=.seq (.region 7 (a6U (eU bIB)) false) (.seq (.cond (.tmp 31) .skip (.exit 2)) (.block 3 bX)):=by kernel_rfl
 rw[e0];have hlen:=a2k hJ now h;have hlL:(kS.im now).length=now.length:=kS.pR now;have hql:=(JO hJ (r:=c::r) fun c' hc=>(kQ.o2 hJ).2.2 c' (by rw[<-hr]at hc;exact a4X hc)).1;refine V5 hX (n:=now.length) (b:=7) (r:=5) (it:=29) (nx:=30) (mo:=31) (es:=kS.im now) (fun seen s=>InS J f t now a c r seen s) (by kernel_rfl) (a81 (by kernel_rfl)) (a81 (by kernel_rfl)) hlL (by unfold LL;omega)
  ⟨a5L,(fun j hj=>(by cases hj)),[],⟨a5L,(fun e he=>(by cases he)),(fun e he=>(by cases he))⟩,(fun ψ=>rfl),(by kernel_rfl)⟩ (fun seen s hi=>?_)
 obtain⟨jG,aQ,next,h1,h2,h3⟩:=hi;rw[<-e0];refine⟨_,h3,by kernel_rfl,by kernel_rfl,by kernel_rfl,fun ho=>⟨by kernel_rfl,next,seen,h1,fun ψ=>?_,rfl⟩,fun j e hj he=>⟨by kernel_rfl,?_⟩⟩
 .rw[h2,Qg jG aQ ho,IE]
 .rw[kS.Bv,a0i]at he;obtain⟨⟨st,w⟩,sD,rfl⟩:=he;obtain⟨q1,q2,q3⟩:=Yg sD;have Gl:(j::seen).Nodup:=a4z.2 ⟨hj,jG⟩;have Gm:∀k∈j::seen,k<now.length:=fun k hk=>by
   rcases a1F.1 hk with rfl|hk
   .exact q2
   .exact aQ k hk
  have hb:dI (fun _=>(Af J r:Int)) next+w*(Af J (c::r):Int)<=2000:=by
   have e1:=h2 fun _=>1;rw[Yf]at e1;have e2:=Vy (φ:=fun j=>(nowAt now j).2*xZ J (fun _=>1) (c::r) (nowAt now j).1) Gl Gm fun k hk=>by have:=h.i.pos _ (gY (d:=(⟨⟨0,0,0⟩,0⟩:S3×Int)) hk);rw[ED];exact adW (aey this) (Int.natCast_nonneg _)
   rw[IE,eu,q1]at e2;have e3:=Nl hJ now h;rw[hr]at e3;rw[Yf]at e2;have e4:xZ J (fun _=>1) (c::r) st=(Af J (c::r):Int):=ED _ _;simp only[e4]at e2;omega
  obtain⟨next',e',s',g1,g2,g3,g4,g5⟩:=akU (n:=n) hJ (f:=f) t now seen (st:=st) (w:=w) (j:=j) hr (h.i.dp _ q3) (h.i.pos _ q3) h1 sD hb;refine aJ.step (by kernel_rfl) g4 ⟨g3,Gl,Gm,next',g1,fun ψ=>?_,g5⟩;rw[g2,h2,eu,q1,ah2]
end
open Go Tw Pv dB
abbrev akW(J:Jb)(a:Int)(x:List (Nat×PE aC)):List (Nat×PE aC):=[(1,.val (.kX 4)),(2,.loc 0 0),(4,.val (.map 5)),(21,xL 3 J.o),(22,xi J.o.length),(23,xi a)]++x
abbrev Vz(J:Jb)(f:Nat)(t:List (V×Int))(now:List (S3×Int))(a:Int)(x:List (Nat×PE aC)):aT aC:=⟨akW J a x,[J.ps (.fn f [] [])],HN J f t now⟩
abbrev ntE:Nat:=Cm Qp 136
abbrev ExE(n:Nat)(c:Code)(s:aT aC)(e:Ex)(s':aT aC):Prop:=dN X0 Qp T (iC (n+1)) LL 136 false ntE 5 c s e s'
abbrev ExD(n:Nat)(c:Code)(s:aT aC)(Q:Ex->aT aC->Prop):Prop:=aJ X0 Qp T (iC (n+1)) D8 LL 136 ntE 5 c s Q
section
variable {n:Nat} {J:Jb} (hJ:kQ J) {f:Nat} (t:List (V×Int)) {now:List (S3×Int)} {a:Nat}
include hJ
set_option maxRecDepth 20000 in
theorem aga(h:yJ J a now)(aQ:a<J.o.length):ExD n bLB (Vz J f t now a []) fun e s=>e=.norm∧∃JU,yJ J (a+1) JU∧kT 5 [.gc [6]] (gW X0 (T.eY 136 (dU bLB)) s)=some (Vz J f t JU ((a+1:Nat):Int) []):=by
 have hr:J.o.drop a=J.o.getD a 0::J.o.drop (a+1):=by rw[a6d aQ];simp[List.getD,a0n aQ]
 have LQ:J.o.length<=6:=by rw[(kQ.o2 hJ).2.1];exact hJ.bI.len
 have t1:decide ((a:Int)<(J.o.length:Int))=true:=bF aQ;have e0:bLB=.seq (eU bLB) (.seq (.cond (.tmp 24) .skip (.exit 0)) (.seq (.block 1 bB1) (eX (eX (eX bLB))))):=by kernel_rfl
 have e1:bB1=.seq (eU bB1) (.seq (eU (eX bB1)) (.seq (.seq (eU (eU (eX (eX bB1)))) (.block 2 (.loop bIB))) (eX (eX (eX bB1))))):=by kernel_rfl
 have x3:ExE n (eU bLB) (Vz J f t now a []) .norm (Vz J f t now a [(24,.val (.bool (decide ((a:Int)<(J.o.length:Int)))))]):=zO hX gK (by kernel_rfl) (.r rfl);have hc:Ae (Vz J f t now a [(24,.val (.bool (decide ((a:Int)<(J.o.length:Int)))))]).env (.tmp 24)=some (.bool true):=by rw[<-t1];kernel_rfl
 have i1:fF (a:Int) J.o.length:=aG aQ;have x4:ExE n (eU bB1) (Vz J f t now a [(24,.val (.bool (decide ((a:Int)<(J.o.length:Int)))))]) .norm ⟨[(1,.val (.kX 4)),(2,.loc 0 0),(4,.val (.map 5)),(6,xi (J.o.getD a 0)),(21,xL 3 J.o),(22,xi J.o.length),(23,xi a)],[J.ps (.fn f [] [])],HN J f t now⟩:=zO hX gK (by kernel_rfl) (.o i1 (.r rfl));have x5:ExE n (eU (eX bB1)) ⟨[(1,.val (.kX 4)),(2,.loc 0 0),(4,.val (.map 5)),(6,xi (J.o.getD a 0)),(21,xL 3 J.o),(22,xi J.o.length),(23,xi a)],[J.ps (.fn f [] [])],HN J f t now⟩ .norm ⟨[(1,.val (.kX 4)),(2,.loc 0 0),(4,.val (.map 5)),(6,xi (J.o.getD a 0)),(7,.val (.map 6)),(21,xL 3 J.o),(22,xi J.o.length),(23,xi a)],[J.ps (.fn f [] [])],HN J f t now++[.map []]⟩:=zO hX gK (by kernel_rfl) (.r rfl);have x6:ExE n (eU (eU (eX (eX bB1)))) ⟨[(1,.val (.kX 4)),(2,.loc 0 0),(4,.val (.map 5)),(6,xi (J.o.getD a 0)),(7,.val (.map 6)),(21,xL 3 J.o),(22,xi J.o.length),(23,xi a)],[J.ps (.fn f [] [])],HN J f t now++[.map []]⟩ .norm ⟨a4b J (J.o.getD a 0) a,[J.ps (.fn f [] [])],HN J f t now++[.map (kS.im []),.dD 5 (kS.im now).length []]⟩:=zO hX gK (by kernel_rfl) (.r rfl);rw[kS.pR now]at x6;rw[e0];refine aJ.BA (by kernel_rfl) x3 (aJ.seq (R:=fun e s=>e=.norm∧s=Vz J f t now a [(24,.val (.bool (decide ((a:Int)<(J.o.length:Int)))))]) (aJ.cond (t:=true) hc (aJ.step (by kernel_rfl) (zO hX gK (an:=.n) (by kernel_rfl) (.r rfl)) ⟨rfl,rfl⟩)) (fun s hs=>?_) (fun i s h=>by cases h.1) (fun s h=>by cases h.1));obtain⟨_,rfl⟩:=hs;refine aJ.seq (R:=fun e s=>e=.norm∧∃next seen,yJ J (a+1) next∧s=⟨[(1,.val (.kX 4)),(2,.loc 0 0),(4,.val (.map 6)),(21,xL 3 J.o),(22,xi J.o.length),(23,xi a)],[J.ps (.fn f [] [])],HI J f t now next seen⟩) ?_ (fun s hs=>?_) (fun i s h=>by cases h.1) (fun s h=>by cases h.1)
 .refine aJ.block ?_;rw[e1];refine(aJ.BA (by kernel_rfl) x4 (aJ.BA (by kernel_rfl) x5 (aJ.seq (R:=fun e s=>e=.norm∧∃next seen,NI J (a+1) next∧(∀ψ,dI (xZ J ψ (J.o.drop (a+1))) next=dI (xZ J ψ (J.o.getD a 0::J.o.drop (a+1))) now)∧s={ sH J f t now next (J.o.getD a 0) a seen with env:=jo (T.iE 136 7) ((31,.val (.bool false))::(30,.val (.cO [.bool false]))::a4b J (J.o.getD a 0) a) }) (Q:=fun e s=>e=.norm∧∃next seen,yJ J (a+1) next∧s=⟨[(1,.val (.kX 4)),(2,.loc 0 0),(4,.val (.map 6)),(21,xL 3 J.o),(22,xi J.o.length),(23,xi a)],[J.ps (.fn f [] [])],HI J f t now next seen⟩) (aJ.BA (by kernel_rfl) x6 (inLoop (n:=n) hJ t now hr h)) (fun s hs=>?_) (fun i s h=>by cases h.1) (fun s h=>by cases h.1)))).mono fun e s h=>?_
  .obtain⟨_,next,seen,g1,g2,rfl⟩:=hs;refine aJ.step (by kernel_rfl) (zO (ps1:=⟨[(1,.val (.kX 4)),(2,.loc 0 0),(4,.val (.map 6)),(21,xL 3 J.o),(22,xi J.o.length),(23,xi a)],[J.ps (.fn f [] [])],HI J f t now next seen⟩) hX gK (an:=.n) (by kernel_rfl) (.r rfl)) ⟨rfl,next,seen,⟨g1,fun ψ=>?_⟩,rfl⟩;rw[g2,<-hr,h.s]
  obtain⟨rfl,h2⟩:=h;exact⟨rfl,h2⟩
 obtain⟨_,next,seen,g1,rfl⟩:=hs;refine aJ.step (by kernel_rfl) (zO (ps1:=⟨[(1,.val (.kX 4)),(2,.loc 0 0),(4,.val (.map 6)),(21,xL 3 J.o),(22,xi J.o.length),(23,xi (i64.wrap ((a:Int)+1)))],[J.ps (.fn f [] [])],HI J f t now next seen⟩) hX gK (an:=.n) (by kernel_rfl) (.r rfl)) ⟨rfl,next,g1,?_⟩;rw[yE (by unfold ah;omega)]
 kernel_rfl
set_option maxRecDepth 20000 in
theorem a8o:ExD n bLB (Vz J f t now J.o.length []) fun e s=>e=.exit 0∧s=Vz J f t now J.o.length [(24,.val (.bool (decide ((J.o.length:Int)<(J.o.length:Int)))))]:=by
 have t1:decide ((J.o.length:Int)<(J.o.length:Int))=false:=fH _;have e0:bLB=.seq (eU bLB) (.seq (.cond (.tmp 24) .skip (.exit 0)) (.seq (.block 1 bB1) (eX (eX (eX bLB))))):=by kernel_rfl
 have x3:ExE n (eU bLB) (Vz J f t now J.o.length []) .norm (Vz J f t now J.o.length [(24,.val (.bool (decide ((J.o.length:Int)<(J.o.length:Int)))))]):=zO hX gK (by kernel_rfl) (.r rfl);have hc:Ae (Vz J f t now J.o.length [(24,.val (.bool (decide ((J.o.length:Int)<(J.o.length:Int)))))]).env (.tmp 24)=some (.bool false):=by rw[<-t1];kernel_rfl
 rw[e0];refine aJ.BA (by kernel_rfl) x3 (aJ.seq (R:=fun e s=>e=.exit 0∧s=Vz J f t now J.o.length [(24,.val (.bool (decide ((J.o.length:Int)<(J.o.length:Int)))))]) (aJ.cond (t:=false) hc (aJ.step (by kernel_rfl) (zO hX gK (an:=.n) (by kernel_rfl) (.r rfl)) ⟨rfl,rfl⟩)) (fun s hs=>by cases hs.1) (fun i s h=>h) (fun s h=>by cases h.1))
set_option maxRecDepth 20000 in
theorem ab8(h:yJ J 0 now):ExD n (.block 0 (.loop bLB)) (Vz J f t now 0 []) fun e s=>e=.norm∧∃JU,yJ J J.o.length JU∧s=Vz J f t JU J.o.length [(24,.val (.bool (decide ((J.o.length:Int)<(J.o.length:Int)))))]:=by
 have LQ:J.o.length<=6:=by rw[(kQ.o2 hJ).2.1];exact hJ.bI.len
 refine aJ.block ?_;refine aJ.loop (fun k s=>∃a JU gs,a+k=J.o.length∧yJ J a JU∧kT 5 gs (gW X0 (T.eY 136 (dU bLB)) s)=some (Vz J f t JU (a:Int) [])) (fun k s hi=>?_) (k:=J.o.length) ⟨0,now,[],by omega,h,by kernel_rfl⟩ (by unfold LL;omega);obtain⟨a,JU,gs,hk,h1,h2⟩:=hi;refine aJ.ghost hX h2 ?_;rcases a4u a J.o.length with aQ|ET
 .refine(aga (n:=n) hJ t h1 aQ).mono fun e s h3=>?_;obtain⟨rfl,aqk,h4,h5⟩:=h3;exact⟨k-1,by omega,a+1,aqk,_,by omega,h4,h5⟩
 have:a=J.o.length:=by omega
 subst this;refine(a8o (n:=n) hJ t).mono fun e s h3=>?_;obtain⟨rfl,rfl⟩:=h3;dsimp only;rw[a0u rfl];exact⟨rfl,JU,h1,rfl⟩
end
end Go.Proofs.YtmobpoiejckagaaGreat
