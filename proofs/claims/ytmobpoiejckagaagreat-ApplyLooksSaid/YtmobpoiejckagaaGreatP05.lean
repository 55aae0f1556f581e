/- Part 6 of a proof: ApplyLooks -/
import Derived.Test.YtmobpoiejckagaaGreatP04
set_option linter.constructorNameAsVariable false
set_option linter.unusedVariables false
set_option linter.unusedSimpArgs false
set_option linter.unusedSectionVars false
open Go.IntKind (i64)
noncomputable section
namespace Go.Proofs.YtmobpoiejckagaaGreat
open Go Tw Pv bQ
abbrev ZB:Cs:=⟨[],[],[]⟩
def fA(d:Dg):Dg:=⟨d.aA,d.aH,(bV d 6002 d.root ZB).2.e,(bV d 6002 d.root ZB).2.n,(bV d 6002 d.root ZB).1⟩
theorem UO{d:Dg}:Dn d ZB:=⟨a5O,by simp,a5O,by simp,a5O,by simp⟩
abbrev a7l(b:Br):Bool:=b.ay.all fun x=>x==b.ay.getD 0 0
theorem a1y{d:Dg}:∀(F:Nat) (r:Int) (x:Cs),(∀b∈x.n,a7l b=false)->∀b∈(bV d F r x).2.n,a7l b=false
 | 0,_,_,h=>h
 |F+1,r,x,h=>by
  unfold bV;split
  .exact h
  split
  .exact h
  have hb:=(Hw (d:=d) (fun y=>∀b∈y.n,a7l b=false) (F:=F) (r:=r) h (fun j y _ hy=>a1y F _ y hy)).2;intro b Qn;simp only[dn]at Qn;split at Qn
  .exact hb b Qn
  rename_i hf;split at Qn
  .exact hb b Qn
  rcases a3k.1 Qn with Qn|Qn
  .exact hb b Qn
  rw[a2p.1 Qn];simpa using hf
theorem a3s{d:Dg}(h:BH d)(e:fA d=d):DgD d:=by
 have hc:=P7 h 6002 d.root ZB UO h.root;have hf:=a1y (d:=d) 6002 d.root ZB (by simp);have ee:(bV d 6002 d.root ZB).2.e=d.aO:=congrArg Dg.aO e;have en:(bV d 6002 d.root ZB).2.n=d.au:=congrArg Dg.au e;rw[en]at hf;have hg:∀j,(hj:j<d.au.length)->fD d j=d.au[j]:=fun j hj=>by simp[List.getD,a0a hj]
 refine⟨ee▸hc.e1,fun i j hi hj hv hk=>?_,fun i hi=>?_⟩
 .have hn:(d.au.map BL).Nodup:=en▸hc.n1;have:=(a9P (i:=i) (j:=j) (h₀:=by simpa using hi) (h₁:=by simpa using hj) hn).1 (by rw[a8Z,a8Z,<-hg i hi,<-hg j hj];show tJ _ _=tJ _ _;rw[hv,hk])
  exact this
 have:=hf (fD d i) (by rw[hg i hi];exact a4q hi);exact this
theorem Ph{d:Dg}{n m:Nat}{x:Int}(hm:m<=2^61)(hx:KY x)(hc:Vr (dN n,dN m) x):wV (dN n,dN m) x=x:=by
 have hid:∀(n:Nat) (y:Int),y∈dN n->(((dN n).idxOf y:Nat):Int)=y:=fun n y hy=>by have hl:=a4C.2 hy;have h1:=a8F hl;rw[lF]at hl;simp only[dN,a8Z,agX]at h1;exact h1
 unfold wV;by_cases c:x<0
 .rw[a0g c];have h1:=hid m _ (hc.1 c);have h2:jG x=-1-x:=MF hx c;have h3:=a1r (hc.1 c);have h4:=h3.2;rw[show((((dN n,dN m):LI0×LI0).2.idxOf (jG x):Nat):Int)=jG x from h1,h2,fK (by omega) (by omega)];omega
 rw[a0c c];exact hid n _ (hc.2 (by omega))
theorem XG{α:Type}(l:List α)(f:Int->α)(h:∀j,(hj:j<l.length)->f j=l[j]):(dN l.length).map f=l:=by apply a9R (by simp[dN]);intro j h1 h2;simp[dN,h j h2]
theorem a1z{d:Dg}{j:Nat}(hj:j<d.aO.length):d.aO.getD ((j:Nat):Int).toNat V0=d.aO[j]:=by simp[List.getD,a0a hj]
theorem a1A{l:LI0}{m:Nat}(hl:l.length=m)(h:∀j,(hj:j<l.length)->l[j]=(j:Int)):l=dN m:=by apply a9R (by rw[lF,hl]);intro j h1 h2;rw[h j h1];simp[dN]
theorem afw{d:Dg}(h:BH d)(hw:KD d)(hd:DgD d)(he:d.aO.length<=2^61){t:LI0×LI0}(ht:Jo d t)(hk:Jq d t)(hc:Vr t d.root):((KS d t).e=d.aO∧(KS d t).n=d.au∧wV t d.root=d.root)↔(t.1=dN d.au.length∧t.2=dN d.aO.length):=by
 have hW:∀o,gW o d.au.length->∀k∈(aj d o).ay,KY k:=fun o ho k kN=>by
  obtain⟨i,hi,rfl⟩:=a4v.1 kN;have:=hw.Au o.toNat (by have:=ho.1;have:=ho.2;omega) i hi
  rwa [rP hi]at this
 have hg:∀j,(hj:j<d.au.length)->aj d (j:Nat)=d.au[j]:=fun j hj=>by simp[List.getD,a0a hj]
 constructor
 .rintro⟨h1,h2,h3⟩;have l1:t.2.length=d.aO.length:=by have:=congrArg List.length h1;simpa[KS]using this
  have l2:t.1.length=d.au.length:=by have:=congrArg List.length h2;simpa[KS]using this
  have e2:t.2=dN d.aO.length:=a1A l1 fun j hj=>by have rU:j<d.aO.length:=(by omega);have:(KS d t).e[j]'(by rw[h1];exact rU)=d.aO[j]:=(by simp only[h1]);unfold KS at this;simp only[a8Z]at this;rw[<-a1z rU]at this;exact XD hd.aO (ht.e2 _ (a4q hj)) (aG rU) this
  have key:∀(N:Nat) (o:Int),o∈t.1->o.toNat<N->wV t o=o:=by
   intro N
   induction N with
   |zero=>intro o _ hN;omega
   |succ N ih=>
    intro o ho hN;have YM:=ht.n2 o ho;have aT:=a4C.2 ho;have rU:t.1.idxOf o<d.au.length:=(by omega);have hel:=a8F aT;have:(KS d t).n[t.1.idxOf o]'(by rw[h2];exact rU)=d.au[t.1.idxOf o]:=(by simp only[h2]);unfold KS at this;simp only[a8Z,hel]at this;have hkm:(aj d o).ay.map (wV t)=(aj d o).ay:=by
     conv=>rhs;rw[<-List.map_id (aj d o).ay]
     apply a5m;intro k kN;show wV t k=k;have hcv:=hk o ho k kN;by_cases c:k<0
     .have:=Ph (d:=d) (n:=0) (m:=d.aO.length) he (hW o YM k kN) ⟨fun c=>by have:=hcv.1 c;rwa [e2]at this,fun h0=>by omega⟩;unfold wV at this ⊢;rw[a0g c]at this ⊢;rw[e2];exact this
     obtain⟨i,hi,rfl⟩:=a4v.1 kN;have apb:o.toNat<d.au.length:=by have:=YM.1;have:=YM.2;omega
     have h9:=(h.Au o.toNat apb i hi).1;have h9:(aj d o).ay.getD i 0<(o.toNat:Int):=h9;rw[rP hi]at h9;exact ih _ (hcv.2 (by omega)) (by omega)
    rw[hkm]at this;have hv:(fD d (t.1.idxOf o)).var=(fD d o.toNat).var:=(by rw[show fD d (t.1.idxOf o)=d.au[t.1.idxOf o]from hg _ rU,<-this]);have xJ:(fD d (t.1.idxOf o)).ay=(fD d o.toNat).ay:=(by rw[show fD d (t.1.idxOf o)=d.au[t.1.idxOf o]from hg _ rU,<-this]);have h8:=hd.au _ _ rU (by have:=YM.1;have:=YM.2;omega) hv xJ;unfold wV;rw[a0c (by have:=YM.1;omega),h8];have:=YM.1;omega
  refine⟨a1A l2 fun j hj=>?_,e2⟩;have hm:=a4q hj;have:=key ((t.1[j]).toNat+1) _ hm (by omega);unfold wV at this;rw[a0c (by have:=(ht.n2 _ hm).1;omega)]at this;rw[<-this];have:t.1.idxOf t.1[j]=j:=by have h5:=a4C.2 hm;exact(a9P (i:=t.1.idxOf t.1[j]) (j:=j) (h₀:=h5) (h₁:=hj) ht.n1).1 (a8F h5)
  rw[this]
 rintro⟨h1,h2⟩;obtain⟨t1,t2⟩:=t;simp only at h1 h2;subst h1 h2;refine⟨?_,?_,Ph (d:=d) he hw.root hc⟩
 .exact XG d.aO (fun e=>d.aO.getD e.toNat V0) fun j hj=>a1z hj
 refine XG d.au _ fun j hj=>?_;have hkm:(aj d (j:Nat)).ay.map (wV (dN d.au.length,dN d.aO.length))=(aj d (j:Nat)).ay:=by
  conv=>rhs;rw[<-List.map_id (aj d (j:Nat)).ay]
  apply a5m;intro k kN;exact Ph (d:=d) he (hW _ (aG hj) k kN) (hk _ (by show(j:Int)∈dN _;unfold dN;rw[a1g];exact⟨j,a4i.2 hj,rfl⟩) k kN)
 rw[hkm,hg j hj]
theorem a3t{d:Dg}(h:BH d)(hw:KD d)(he:d.aO.length<=2^61)(hn:d.au.length<=6000):fA d=d↔pJ d=true:=by
 have main:DgD d->(fA d=d↔(srN d d.root=dN d.au.length∧srE d d.root=dN d.aO.length)):=fun hd=>by
  have hr:d.root+1<6002:=by have:=h.root.1;omega
  have ha:=ad3 h hw hd he 6002 d.root ([],[]) hr sr0 (fun o ho=>by cases ho) h.root (by omega);have hs:=KA h 6002 d.root ([],[]) sr0 h.root;have hi:=afw h hw hd he hs ha.ay ha.cov;have e0:KS d ([],[])=ZB:=rfl;have e1:=ha.eq;rw[e0]at e1;unfold srN srE;rw[<-hi];unfold fA;rw[e1];obtain⟨d1,d2,d3,d4,d5⟩:=d;simp
 rw[XF];constructor
 .intro e;have hd:=a3s h e;exact⟨hd,(main hd).1 e⟩
 rintro⟨hd,h2⟩;exact(main hd).2 h2
open Go Tw Pv bQ
abbrev HCw(l:Lo)(x:Cs):List (PB aC):=[.list false false 3 l.s,.list false false 3 l.o,.map (kV.es (zD x.e)),.map (kK.es (yH x.n)),mkC l.s l.o 12 13 0,.gone,.gone,.cells l.ps,.cells [.ptr 4 0 9],.map (kI.es (KZ x.k)),.cells [.map 9],.cells [.fn 195 [] pC],PX x.e,PY x.n]
structure ClP(l:Lo):Prop where
 s:l.s=l.d.aA
 o:l.o=l.d.aH
 t:BH l.d
 e:l.d.aO.length+1<=ah
 n:l.d.au.length<=6000
 k:∀i,i<l.d.au.length->1<=(fD l.d i).ay.length
 sl:l.d.aA.length<=ah
 ol:l.d.aH.length<=ah
def ad5:eY aC:=bT 161 (a1 loA) dA (fun l=>fA l.d) (fun l=>[ClP l]) ad1
theorem akg:Gd ad5:=ake.WY 6010 acT fun n hn hO hOl l hp=>by obtain⟨n,rfl⟩:∃k,n=k+6009:=⟨n-6009,by omega⟩;have h:ClP l:=hp _ gZ;obtain⟨s,o,d⟩:=l;obtain⟨e1,e2,ht,he,hn6,hk,hsl,QN⟩:=h;obtain rfl:s=d.aA:=e1;obtain rfl:o=d.aH:=e2;have hO':∀m,n+1<=m->Ok m _:=fun m hm=>hOl m (by omega);have he:d.aO.length+1<=ah:=he;have hn6:d.au.length<=6000:=hn6;have hr:=ht.root.1;have hr:d.root<(d.au.length:Int):=hr;have pF:=sCl (N:=n+1) hO' ht he (by unfold ah;omega) hk 6002 d.root ZB (by omega) UO ht.root (by omega);have gV:=ap7 (n:=n+6008) (hO' _ (by omega)) d.aA d.aH hsl QN;show nY _ _ _ _ _ (dA.put (fA d)) _;unfold fA;generalize bV d 6002 d.root ZB=z at pF ⊢;obtain⟨v,e,nd,k⟩:=z;exact aN (hO (n+6009) (by omega)) (.fr [] gV (.Qe (H2:=HCw (yJ d) ⟨e,nd,k⟩) [1,2,3,4,5,6,7,0,8,9,10,11] [7,8,10,11] pF .rr))
open Go Tw Pv bQ
theorem a1B{d:Dg}(h:BH d):∀(F:Nat) (r:Int) (x:Cs),(∀b∈x.n,b.ay.length<=12)->jq d r d.au.length->∀b∈(bV d F r x).2.n,b.ay.length<=12
 | 0,_,_,hx,_=>hx
 |F+1,r,x,hx,hr=>by
  unfold bV;by_cases c:r<0
  .rw[a0g (by simpa using c)];exact hx
  rw[a0c (by simpa using c)];split
  .exact hx
  have aT:r.toNat<d.au.length:=by have:=hr.1;omega
  have hb:=Hw (d:=d) (fun y=>∀b∈y.n,b.ay.length<=12) (F:=F) (r:=r) hx (fun j y hj hy=>a1B h F _ y hy (by have h9:=h.Au r.toNat aT j hj;have h8:=h9.1;have h8:(aj d r).ay.getD j 0<(r.toNat:Int):=h8;exact⟨by have:=hr.1;omega,h9.2⟩))
  intro b Qn;simp only[dn]at Qn;split at Qn
  .exact hb.2 b Qn
  split at Qn
  .exact hb.2 b Qn
  rcases a3k.1 Qn with Qn|Qn
  .exact hb.2 b Qn
  rw[a2p.1 Qn];show List.length _<=12;rw[hb.1];exact h.KW r.toNat aT
theorem wQ{d:Dg}(h:KD d)(he:d.aO.length+1<=ah)(hs:d.aA.length<=ah)(ho:d.aH.length<=ah)(h0:(bF d).2=0):(bF d).1=yJ d∧ClP (yJ d):=by
 rw[Jp h (by omega)]at h0 ⊢;have h0:bG d=0:=h0;have hc:=mV ho (show d.aO.length<=ah by omega) (by simp[h0]);have hf:(dh d.aA d.aH != 0)=false:=by
  cases e:dh d.aA d.aH != 0
  .rfl
  unfold bG at h0;rw[a0g e]at h0;simp[h0]at e
 refine⟨by rw[a0c (by rw[hf];simp)],rfl,rfl,hc.1,he,hc.2,fun i hi=>?_,hs,ho⟩;have h1:=hc.1.ksz i hi;have h2:=hc.1.var i hi;have h3:=(Aq hf).sz _ (eu (s:=d.aA) (k:=(fD d i).var.toNat) (by have:=h2.2;have:=h2.1;omega));have h1:((fD d i).ay.length:Int)=d.aA.getD (fD d i).var.toNat 0:=h1;show 1<=(fD d i).ay.length;omega
def vI(d:Dg):Lo×Int:=if(bF d).2==0 then(if(!(Hz (fA (bF d).1.d) d))=true then((bF d).1,4)else bF d)else bF d
theorem ZC{d:Dg}(h:BH d)(hn:d.au.length<=6000):(fA d).aO.length<=d.aO.length∧(fA d).au.length<=6000∧∀b∈(fA d).au,b.ay.length<=12:=by have hc:=P7 h 6002 d.root ZB UO h.root;refine⟨hc.ak8,?_,a1B h 6002 d.root ZB (by simp) h.root⟩;have h1:=hc.KW;have h2:=hc.n2;show(bV d 6002 d.root ZB).2.n.length<=6000;omega
theorem a3u{d:Dg}(h:KD d)(hs:d.aA.length<=ah)(ho:d.aH.length<=2^20)(he:d.aO.length+1<=ah)(h0:((bF d).2==0)=true):ClP (bF d).1∧(fA (bF d).1.d).aA.length<=ah∧(fA (bF d).1.d).aH.length<=ah∧(fA (bF d).1.d).aO.length<=ah∧(fA (bF d).1.d).au.length<=ah∧∀k,k<(fA (bF d).1.d).au.length->((fA (bF d).1.d).au.getD k ny).ay.length<=ah:=by
 have ho:d.aH.length<=ah:=by unfold ah;omega
 obtain⟨h1,h2⟩:=wQ h he hs ho (by simpa using h0);rw[h1];obtain⟨a,b,c⟩:=ZC h2.t h2.n;refine⟨h2,hs,ho,?_,?_,fun k hk=>?_⟩
 .have a:(fA d).aO.length<=d.aO.length:=a;show(fA d).aO.length<=ah;omega
 .have b:(fA d).au.length<=6000:=b;show(fA d).au.length<=ah;unfold ah;omega
 exact m12 (c _ (Xz hk))
def ad6:eY aC:=bT 172 (a1 dA) (dR (a2 loA iA)) (fun p=>vI p) (fun p=>[KD p,p.aA.length<=ah,p.aH.length<=2^20,p.aO.length+1<=ah]) ad5
theorem akh:Gd ad6:=akg.add fun n hO p hp=>aN hO (.o (hp _ yI) (.o (hp _ hh2) (.o (by have h9:p.aO.length+1<=ah:=hp _ (.tail _ (.tail _ (.tail _ (.head _))));show p.aO.length<=ah;omega) (.sh (fun h=>have q:=a3u (hp _ gZ) (hp _ yI) (hp _ hh2) (hp _ (.tail _ (.tail _ (.tail _ (.head _))))) h;.o q.1 (.o q.2.1 (.o q.2.2.1 (.o q.2.2.2.1 (.o q.2.2.2.2.1 (.o q.2.2.2.2.2 (.ss .rr .rr))))))) fun _=>.rr))))
theorem XH{d:Dg}(h:KD d)(hs:d.aA.length<=ah)(ho:d.aH.length<=ah)(he:d.aO.length+1<=ah):vI d=(if(dh d.aA d.aH != 0)=true then lo0 else yJ d,rO d):=by
 have h9:=Jp h (show d.aO.length<=ah by omega);unfold vI rO;by_cases h0:(bF d).2=0
 .obtain⟨h1,h2⟩:=wQ h he hs ho h0;have h3:=a3t h2.t h (show d.aO.length<=2^61 by unfold ah at he;omega) h2.n;have h4:bG d=0:=by rw[h9]at h0;exact h0
  rw[a0g (show((bF d).2==0)=true by simpa using h0),h1,h4,a0c (show ¬(((0:Int) != 0)=true) by simp)];rw[h9]at h1;show(if(!(Hz (fA d) d))=true then(yJ d,4)else bF d)=_;have h1:(if(dh d.aA d.aH != 0)=true then lo0 else yJ d)=yJ d:=h1;rw[h9,h1];by_cases h5:fA d=d
  .rw[a0c (show ¬((!(Hz (fA d) d))=true) by rw[a1u.2 h5];simp),a0c (show ¬((!(pJ d))=true) by rw[h3.1 h5];simp),h4]
  have h6:Hz (fA d) d=false:=by
   cases e:Hz (fA d) d
   .rfl
   exact absurd (a1u.1 e) h5
  have h7:pJ d=false:=by
   cases e:pJ d
   .rfl
   exact absurd (h3.2 e) h5
  rw[a0g (show(!(Hz (fA d) d))=true by rw[h6];rfl),a0g (show(!(pJ d))=true by rw[h7];rfl)]
 have h4:¬bG d=0:=by rw[h9]at h0;exact h0
 rw[a0c (show ¬(((bF d).2==0)=true) by simpa using h0),h9,a0g (show(bG d != 0)=true by simpa using h4)]
open Go Tw Pv bQ
def cellsD(d:Dg):List V:=(List.range (FD d.aA)).map fun(k:Nat)=>Em d (ng d.aA k)
open Go Tw Pv bQ
def a3v(N:List Br)(c:Int)(ks:LI0):Int:=if(ks.all fun x=>x==ks.getD 0 0)=true then ks.getD 0 0 else(N.idxOf (⟨c,ks⟩:Br):Nat)
def a3w(N:List Br)(c:Int)(ks:LI0):List Br:=if(ks.all fun x=>x==ks.getD 0 0)=true then N else if(⟨c,ks⟩:Br)∈N then N else N++[⟨c,ks⟩]
abbrev EN:Type:=List V×List Br
def gPt(f:LI0->EN->Int×EN)(c:Int)(p:LI0)(j:Nat)(y:LI0×EN):LI0×EN:=(y.1++[(f (p.set c.toNat j) y.2).1],(f (p.set c.toNat j) y.2).2)
def Qo(s:LI0)(l:List V):LI0->LI0->EN->Int×EN
 | [],p,x=>(i64.wrap (-1-(x.1.idxOf (l.getD (qA s p).toNat V0):Nat)),(jV x.1 (l.getD (qA s p).toNat V0),x.2))
 |c::r,p,x=>
  let y:=aU (gPt (Qo s l r) c p) (s.getD c.toNat 0).toNat 0 ([],x)
  (a3v y.2.2 c y.1,(y.2.1,a3w y.2.2 c y.1))
def wO(s:LI0):LI0->Nat
 | []=>1
 |c::r=>(s.getD c.toNat 0).toNat*wO s r
theorem UQ{s:LI0}(hs:qh s):∀{o:LI0},(∀c∈o,gW c s.length)->1<=wO s o
 | [],_=>a0U _
 |c::r,h=>by have h1:=UQ hs (o:=r) fun c hc=>h c (by simp[hc]);obtain⟨h2,h3⟩:=h c (by simp);have h4:=hs _ (eu (s:=s) (k:=c.toNat) (by omega));have h5:1*1<=(s.getD c.toNat 0).toNat*wO s r:=agU (by omega) h1;simpa[wO]using h5
theorem a7n{α:Type}[DecidableEq α]{l:List α}{d a:α}{c:Nat->Bool}(hc:∀k,k<l.length->c k=decide (l.getD k d=a)):(a∈l->bC c l.length=.inr (l.idxOf a))∧(a∉l->jP (bC c l.length)=true):=by
 constructor
 .intro h;have hi:=a4C.2 h;have h1:c (l.idxOf a)=true:=by rw[hc _ hi,a1o,List.getD,a0a hi,a4r,a8F]
  cases e:jP (bC c l.length)
  .obtain⟨j,hj,cj,hb,e2⟩:=DW e;rw[e2];congr 1;rcases Nat.lt_trichotomy j (l.idxOf a)with g|g|g
   .exfalso;rw[hc j hj,a1o,List.getD,a0a hj,a4r]at cj;have:=List.not_of_lt_findIdx (p:=(·==a)) g;rw[cj]at this;simp at this
   .exact g
   rw[hb _ g]at h1;cases h1
  rw[dH.1 e _ hi]at h1;cases h1
 intro h;refine dH.2 fun j hj=>?_;rw[hc j hj,a2I,List.getD,a0a hj,a4r];rintro rfl;exact h (a4q hj)
open Go Tw Pv bQ
def afx(s o:LI0)(l:List V):Dg:=⟨s,o,(Qo s l o (List.replicate s.length 0) ([],[])).2.1,(Qo s l o (List.replicate s.length 0) ([],[])).2.2,(Qo s l o (List.replicate s.length 0) ([],[])).1⟩
theorem XI:∀{s:LI0},qh s->ni s (List.replicate s.length 0)=true
 | [],_=>rfl
 |a::s,h=>by have:=h a (a2O ..);simp only[a4b,adK,ni,a2f,a1o];exact⟨⟨a8M _,by omega⟩,XI h.tail⟩
open Go Tw Pv bQ
theorem a7o{a b:LI0}(ha:a.length<=12)(he:a.length=b.length)(h:Hu a=Hu b):a=b:=by
 have e:∀l:LI0,l.length<=12->(Hu l).take l.length=l:=fun l hl=>by unfold Hu;rw[afb,a7F hl,List.take_left]
 rw[<-e a ha,<-e b (by omega),h,he]
def NOk(s:LI0)(N:List Br):Prop:=∀b∈N,gW b.var s.length∧(b.ay.length:Int)=s.getD b.var.toNat 0
theorem a7p{s:LI0}(hs:qh s){N:List Br}(h:NOk s N){c:Int}{ks:LI0}(hc:gW c s.length)(hk:(ks.length:Int)=s.getD c.toNat 0){b:Br}(hb:b∈N):BL b=tJ c ks↔b=⟨c,ks⟩:=by
 constructor
 .intro e;obtain⟨v,l⟩:=b;have e1:v=c:=congrArg Prod.fst e;subst e1;have e2:Hu l=Hu ks:=congrArg (fun x:Ky=>x.2.1) e;have hl:=(h _ hb).2;have hl:(l.length:Int)=s.getD v.toNat 0:=hl;have hz:=hs _ (eu (s:=s) (k:=v.toNat) (by have:=hc.1;have:=hc.2;omega));rw[a7o (by omega) (by omega) e2]
 rintro rfl;rfl
theorem XJ{s:LI0}(hs:qh s){N:List Br}(h:NOk s N){c:Int}{ks:LI0}(hc:gW c s.length)(hk:(ks.length:Int)=s.getD c.toNat 0):dZ N c ks=a3v N c ks∧dn N c ks=a3w N c ks:=by
 have hm:tJ c ks∈N.map BL↔(⟨c,ks⟩:Br)∈N:=by
  rw[a1g];constructor
  .rintro⟨b,hb,e⟩;rw[(a7p hs h hc hk hb).1 e]at hb;exact hb
  intro hb;exact⟨_,hb,rfl⟩
 have hi:(N.map BL).idxOf (tJ c ks)=N.idxOf (⟨c,ks⟩:Br):=by
  clear hm
  induction N with
  |nil=>rfl
  |cons b N ih=>
   have e:=a7p hs h hc hk (b:=b) (by simp);rw[a4c,ads,ads,ih fun b hb=>h b (by simp[hb])];have:(BL b==tJ c ks)=(b==(⟨c,ks⟩:Br)):=by rw[a4u,a7r,a7r];exact e
   rw[this]
 unfold dZ a3v dn a3w;rw[hi];refine⟨rfl,?_⟩;split
 .rfl
 by_cases g:tJ c ks∈N.map BL
 .rw[a0g g,a0g (hm.1 g)]
 rw[a0c g,a0c fun x=>g (hm.2 x)]
open Go Tw Pv bQ
theorem aav{s:LI0}{a b:LI0}(h:a.Perm b):wO s a=wO s b:=by
 induction h with
 |nil=>rfl
 |cons x _ ih=>simp only[wO,ih]
 |swap x y l=>simp only[wO];rw[<-Nat.mul_assoc,<-Nat.mul_assoc,Nat.mul_comm (s.getD y.toNat 0).toNat]
 |trans _ _ i1 i2=>rw[i1,i2]
theorem XK{s:LI0}(hs:qh s):∀(m k:Nat),k+m=s.length->(wO s ((List.range' k m).map fun(j:Nat)=>(j:Int)):Int)=bD (s.drop k)
 | 0,k,h=>by rw[ag2 (by omega)];rfl
 |m+1,k,h=>by
  have hk:k<s.length:=by omega
  have hz:=hs _ (eu (s:=s) (k:=k) hk);rw[List.range'_succ,a4c,wO,OA hk,adT,XK hs m (k+1) (by omega),a6t,agO (by omega)]
theorem Pj{s o:LI0}(hs:qh s)(h:kD s.length o=true):(wO s o:Int)=bD s:=by have h':=h;unfold kD at h';rw[a1o]at h';have hi:=SC s.length;have wY:=hi;unfold kD at wY;rw[a1o]at wY;have hp:o.Perm (dN s.length):=(a7y h'.2.2 wY.2.2).2 fun a=>⟨fun ha=>mW hi (h'.2.1 a ha),fun ha=>mW h (wY.2.1 a ha)⟩;rw[aav hp];have:=XK hs s.length 0 (by omega);rw[<-List.range_eq_range']at this;exact this
open Go Tw Pv bQ
inductive To(d:Dg)(q:LI0):Int->V->Prop
 |fin {r:Int} (h:r<0):To d q r (d.aO.getD (jG r).toNat V0)
 |step {r:Int} {c:V} (h:0<=r) (t:To d q ((aj d r).ay.getD (q.getD (aj d r).var.toNat 0).toNat 0) c):To d q r c
theorem To.at_{d:Dg}(h:BH d){q:LI0}(hq:ni d.aA q=true){r:Int}{c:V}(t:To d q r c):∀F:Nat,r<F->jq d r d.au.length->c=d.aO.getD (jG (atF d q F r)).toNat V0:=by
 induction t with
 |fin hr=>
  intro F _ _;cases F with
  |zero=>rfl
  |succ F=>rw[atF,a0g hr]
 |step hr _ ih=>
  intro F hF hk;cases F with
  |zero=>omega
  |succ F=>
   rw[atF,a0c (by omega)];have:=(OZ h hq ⟨hr,hk.1⟩).2.2;exact ih F (by have:=this.1;omega) ⟨by have:=this.1;have:=hk.1;omega,this.2⟩
theorem To.of{d:Dg}(h:BH d){q:LI0}(hq:ni d.aA q=true):∀(F:Nat) (r:Int),r<F->jq d r d.au.length->To d q r (d.aO.getD (jG (atF d q F r)).toNat V0)
 | 0,r,hr,_=>.fin (by omega)
 |F+1,r,hr,hk=>by
  rw[atF];split
  .rename_i c;exact .fin c
  rename_i c;have:=(OZ h hq ⟨by omega,hk.1⟩).2.2;exact .step (by omega) (To.of h hq F _ (by have:=this.1;omega) ⟨by have:=this.1;have:=hk.1;omega,this.2⟩)
theorem To.det{d:Dg}{q:LI0}{r:Int}{a b:V}(h:To d q r a):To d q r b->a=b:=by
 induction h with
 |fin hr=>intro g;cases g with
  |fin _=>rfl
  |step h _=>omega
 |step hr _ ih=>intro g;cases g with
  |fin h=>omega
  |step _ t=>exact ih t
theorem Pm(E:List V)(v:V):E <+: jV E v:=by
 unfold jV;split
 .exact a5P
 exact a94 _ _
def ZE(x y:EN):Prop:=x.1 <+: y.1∧x.2 <+: y.2
theorem ZE.rfl{x:EN}:ZE x x:=⟨a5P,a5P⟩
theorem ZE.trans{x y z:EN}(a:ZE x y)(b:ZE y z):ZE x z:=⟨a.1.trans b.1,a.2.trans b.2⟩
theorem Pn{α:Type}{a b:List α}{d:α}(h:a <+: b){k:Nat}(hk:k<a.length):b.getD k d=a.getD k d:=by obtain⟨t,rfl⟩:=h;simp[List.getD,a0b hk]
theorem a7q{k:Nat}(hk:k<2^61):i64.wrap (-1-(k:Int))=-1-(k:Int)∧jG (-1-(k:Int))=(k:Int):=by refine⟨fK (by omega) (by omega),?_⟩;unfold jG;rw[fK (by omega) (by omega)];omega
def Agr(s r q p:LI0):Prop:=∀k:Nat,k<s.length->(k:Int)∉r->q.getD k 0=p.getD k 0
theorem Agr.set{s r q p:LI0}{c:Int}(hc:gW c s.length)(hp:p.length=s.length)(h:Agr s (c::r) q p):Agr s r q (p.set c.toNat (q.getD c.toNat 0)):=fun k hk hr=>by
 by_cases e:k=c.toNat
 .subst e;have e2:(p.set c.toNat (q.getD c.toNat 0)).getD c.toNat 0=q.getD c.toNat 0:=by simp[List.getD,a2c (show c.toNat<p.length by omega)]
  exact e2.symm
 .rw[show(p.set c.toNat (q.getD c.toNat 0)).getD k 0=p.getD k 0 by rw[List.getD,a1l (Ne.symm e)];rfl];exact h k hk (by simp only[a2d,adl];exact⟨fun e2=>e (by omega),hr⟩)
theorem Agr.back{s r q p:LI0}{c j:Int}(hc:gW c s.length)(h:Agr s r q (p.set c.toNat j)):Agr s (c::r) q p:=fun k hk hr=>by simp only[a2d,adl]at hr;have hc:=hc.1;have e:k≠c.toNat:=fun e=>hr.1 (by omega);have:=h k hk hr.2;rw[this,List.getD,a1l (Ne.symm e)];rfl
open Go Tw Pv bQ
def FW(o:LI0)(N:List Br)(r:Int):Nat:=if r<0 then o.length else o.idxOf (N.getD r.toNat ny).var
def Po(o:LI0)(x:EN)(v:Int)(b a:Nat):Prop:=(v<0->gW (jG v) x.1.length)∧v<(b:Int)∧a<=FW o x.2 v
structure PtV(s o:LI0)(x:EN):Prop where
 var:∀i,i<x.2.length->gW (x.2.getD i ny).var s.length
 ksz:∀i,i<x.2.length->((x.2.getD i ny).ay.length:Int)=s.getD (x.2.getD i ny).var.toNat 0
 Au:∀i,i<x.2.length->∀k,k<(x.2.getD i ny).ay.length->Po o x ((x.2.getD i ny).ay.getD k 0) i (o.idxOf (x.2.getD i ny).var+1)
theorem Po.mono{o:LI0}{x y:EN}{v:Int}{b b' a a':Nat}(h:Po o x v b a)(hp:ZE x y)(hb:b<=b')(hx:b<=x.2.length)(ha:a'<=a):Po o y v b' a':=by
 obtain⟨h1,h2,h3⟩:=h;refine⟨fun hv=>⟨(h1 hv).1,by have:=(h1 hv).2;have:=hp.1.length_le;omega⟩,by omega,?_⟩;unfold FW at h3 ⊢;split
 .rename_i c;rw[a0g c]at h3;omega
 rename_i c;rw[a0c c]at h3;rw[Pn hp.2 (by omega)];omega
open Go Tw Pv bQ
theorem MH(d:Dg)(v:Int):tH d v=(FW d.aH d.au v:Int):=by
 unfold tH FW;by_cases c:v<0
 .rw[a0g (by simpa using c),a0g c]
 rw[a0c (by simpa using c),a0c c];have hs:=a7n (l:=d.aH) (d:=0) (a:=(aj d v).var) (c:=OX d v) (fun k _=>by unfold OX;rw[a4u];simp);by_cases hm:(aj d v).var∈d.aH
 .rw[hs.1 hm];rfl
 rw[a0g (hs.2 hm),a9h hm]
theorem a3x{d:Dg}(hm:d.aO.length<=ah)(hf:(dh d.aA d.aH != 0)=false)(hv:∀v∈d.aO,vOk v=true)(hn:d.au.length<=6000)(hp:PtV d.aA d.aH (d.aO,d.au))(hr:Po d.aH (d.aO,d.au) d.root d.au.length 0):bG d=0:=by
 obtain⟨eF,Pq⟩:=mF.1 (show dh d.aA d.aH=0 by simpa using hf);have aki:∀(v:Int) (b a:Nat),Po d.aH (d.aO,d.au) v b a->iL d v b=true:=fun v b a h=>by
  unfold iL;split
  .simpa using h.2.1
  rename_i c;have c:v<0:=by simpa using c
  have:=h.1 c;have e:i64.wrap ((d.aO.length:Int)-1)=(d.aO.length:Int)-1:=by unfold ah at hm;rw[fK (by omega) (by omega)]
  rw[vH,e];have h2:=this.2;have h2:jG v<(d.aO.length:Int):=h2;exact⟨this.1,by show jG v<=_;omega⟩
 have hl:lG d=true:=by
  unfold lG;rw[a0g (dH.2 fun j hj=>by rw[cLe,hv _ (by simp[List.getD,a0a hj])];rfl),a0g (dH.2 fun i hi=>?_)]
  .exact aki _ _ _ hr
  have h1:=hp.var i hi;have h2:=hp.ksz i hi;have h3:=hp.Au i hi;have h1:gW (fD d i).var d.aA.length:=h1;have h2:((fD d i).ay.length:Int)=d.aA.getD (fD d i).var.toNat 0:=h2;have e:xw d.aA=(d.aA.length:Int)-1:=by have:=eF.len;unfold xw;rw[fK (by omega) (by omega)]
  unfold ZA;rw[a0c,a0c (by rw[h2];simp),a0g]
  .refine dH.2 fun k hk=>?_;have h4:=h3 k hk;unfold cLk;rw[a0c (by rw[aki _ _ _ h4];simp),a2I,MH,MH];have h5:=h4.2.2;have e6:FW d.aH d.au ((i:Nat):Int)=d.aH.idxOf (fD d i).var:=by unfold FW;rw[a0c (by omega),a6t]
   rw[e6];have h5:d.aH.idxOf (fD d i).var+1<=FW d.aH d.au ((d.au.getD i ny).ay.getD k 0):=h5;omega
  have:nT (fD d i).var 0 (xw d.aA)=true:=by rw[vH,e];have:=h1.1;have:=h1.2;exact⟨by omega,by omega⟩
  rw[this];simp
 unfold bG;rw[a0c (by rw[hf];simp),a0c (by rw[a1o];omega),a0c (by rw[hl];simp)]
structure OfP(s o:LI0)(l:List V):Prop where
 eF:wH s
 ord:kD s.length o=true
 len:(l.length:Int)=bD s
open Go Tw Pv bQ
def Kn(d:Dg)(x:Cs)(v:Int):Prop:=if v<0 then pK d v∈x.e else v∈x.k.map (·.1)
def uS(d:Dg)(x:Cs)(v:Int):Int:=if v<0 then i64.wrap (-1-(x.e.idxOf (pK d v):Nat))else UL x.k v
def Az(x y:Cs):Prop:=x.e <+: y.e∧x.n <+: y.n∧x.k <+: y.k
theorem Az.rfl{x:Cs}:Az x x:=⟨a5P,a5P,a5P⟩
theorem Az.trans{x y z:Cs}(a:Az x y)(b:Az y z):Az x z:=⟨a.1.trans b.1,a.2.1.trans b.2.1,a.2.2.trans b.2.2⟩
theorem Kn.mono{d:Dg}{x y:Cs}{v:Int}(h:Kn d x v)(hp:Az x y):Kn d y v:=by
 unfold Kn at h ⊢;split
 .rename_i c;rw[a0g c]at h;exact hp.1.subset h
 rename_i c;rw[a0c c]at h;obtain⟨t,ht⟩:=hp.2.2;rw[<-ht,a3Z,a3k];exact .inl h
theorem SS{α:Type}[BEq α][LawfulBEq α]{a b:List α}{v:α}(h:v∈a)(hp:a <+: b):b.idxOf v=a.idxOf v:=by obtain⟨t,rfl⟩:=hp;rw[a9u,a0g h]
theorem a1C{a b:List (Int×Int)}{v:Int}(h:v∈a.map (·.1))(hp:a <+: b):UL b v=UL a v:=by
 obtain⟨t,rfl⟩:=hp;unfold UL;rw[List.find?_append];cases e:a.find? fun p=>p.1==v with
 |none=>
  rw[a1g]at h;obtain⟨p,hp,rfl⟩:=h;have:=adu.1 e p hp;simp at this
 |some q=>rfl
theorem SV{d:Dg}{x y:Cs}{v:Int}(h:Kn d x v)(hp:Az x y):uS d y v=uS d x v:=by
 unfold Kn at h;unfold uS;split
 .rename_i c;rw[a0g c]at h;rw[SS h hp.1]
 rename_i c;rw[a0c c]at h;rw[a1C h hp.2.2]
theorem XL{E:List V}{v:V}(h:v∈E):jV E v=E:=a0g h
theorem KE(N:List Br)(c:Int)(ks:LI0):N <+: dn N c ks:=by
 unfold dn;split
 .exact a5P
 split
 .exact a5P
 exact a94 _ _
theorem ZF{N M:List Br}{c:Int}{ks:LI0}(h:dn N c ks=N)(hp:N <+: M):dn M c ks=M∧dZ M c ks=dZ N c ks:=by
 unfold dn at h ⊢;unfold dZ;by_cases hf:(ks.all fun x=>x==ks.getD 0 0)=true
 .rw[a0g hf,a0g hf,a0g hf];exact⟨rfl,rfl⟩
 rw[a0c hf]at h ⊢;rw[a0c hf,a0c hf];by_cases hm:tJ c ks∈N.map BL
 .have hp2:N.map BL <+: M.map BL:=by obtain⟨t,rfl⟩:=hp;rw[a3Z];exact a94 _ _
  rw[a0g (hp2.subset hm),SS hm hp2];exact⟨rfl,rfl⟩
 rw[a0c hm]at h;have:=congrArg List.length h;simp at this
theorem a3y(N:List Br)(c:Int)(ks:LI0):dn (dn N c ks) c ks=dn N c ks∧dZ (dn N c ks) c ks=dZ N c ks:=by
 unfold dZ;by_cases hf:(ks.all fun x=>x==ks.getD 0 0)=true
 .rw[a0g hf,a0g hf];have:dn N c ks=N:=a0g hf;rw[this,this];exact⟨rfl,rfl⟩
 rw[a0c hf,a0c hf];by_cases hm:tJ c ks∈N.map BL
 .have:dn N c ks=N:=by unfold dn;rw[a0c hf,a0g hm]
  rw[this,this];exact⟨rfl,rfl⟩
 have e:dn N c ks=N++[⟨c,ks⟩]:=by unfold dn;rw[a0c hf,a0c hm]
 have hm2:tJ c ks∈(N++[(⟨c,ks⟩:Br)]).map BL:=by rw[a3Z];simp
 have e2:dn (N++[⟨c,ks⟩]) c ks=N++[⟨c,ks⟩]:=by unfold dn;rw[a0c hf,a0g hm2]
 rw[e,e2];refine⟨rfl,?_⟩;rw[a3Z,a9u,a0c hm,a9h hm];simp
abbrev aQ(d:Dg)(v:Int):LI0:=(aj d v).ay
def XM(d:Dg)(x:Cs):Prop:=∀v∈x.k.map (·.1),(∀j,j<(aQ d v).length->Kn d x ((aQ d v).getD j 0))∧dZ x.n (aj d v).var ((aQ d v).map (uS d x))=UL x.k v∧dn x.n (aj d v).var ((aQ d v).map (uS d x))=x.n
abbrev BM(d:Dg)(F:Nat)(r:Int)(j:Nat)(y:LI0×Cs):LI0×Cs:=(y.1.set j (bV d F ((aQ d r).getD j 0) y.2).1,(bV d F ((aQ d r).getD j 0) y.2).2)
theorem a7s{d:Dg}:∀(F:Nat) (r:Int) (x:Cs),Az x (bV d F r x).2
 | 0,_,x=>Az.rfl
 |F+1,r,x=>by
  unfold bV;split
  .exact⟨Pm _ _,a5P,a5P⟩
  split
  .exact Az.rfl
  have:=dU (g:=BM d F r) (m:=(aQ d r).length) (k:=0) (s:=(List.replicate (aQ d r).length 0,x)) (fun _ y=>Az x y.2) Az.rfl (fun j y _ _ hy=>hy.trans (a7s F _ y.2));exact⟨this.1,this.2.1.trans (KE _ _ _),this.2.2.trans (a94 _ _)⟩
theorem MI{d:Dg}{F:Nat}{v:Int}{x:Cs}(h:Kn d x v):bV d (F+1) v x=(uS d x v,x):=by
 unfold Kn at h;unfold bV uS;by_cases c:v<0
 .rw[a0g (by simpa using c),a0g c];rw[a0g c]at h;rw[XL h]
 rw[a0c c]at h;rw[a0c (by simpa using c),a0g (by simpa using h),a0c c]
theorem Px{d:Dg}{x y:Cs}{ks:LI0}(h:∀j,j<ks.length->Kn d x (ks.getD j 0))(hp:Az x y):ks.map (uS d y)=ks.map (uS d x):=by refine a5m fun v hv=>?_;obtain⟨j,hj,rfl⟩:=a8k hv;have:=h j hj;rw[List.getD,a0a hj]at this;exact SV this hp
theorem XM.a1D{d:Dg}{x y:Cs}{v:Int}(h:(∀j,j<(aQ d v).length->Kn d x ((aQ d v).getD j 0))∧dZ x.n (aj d v).var ((aQ d v).map (uS d x))=UL x.k v∧dn x.n (aj d v).var ((aQ d v).map (uS d x))=x.n)(hv:v∈x.k.map (·.1))(hp:Az x y):(∀j,j<(aQ d v).length->Kn d y ((aQ d v).getD j 0))∧dZ y.n (aj d v).var ((aQ d v).map (uS d y))=UL y.k v∧dn y.n (aj d v).var ((aQ d v).map (uS d y))=y.n:=by obtain⟨h1,h2,h3⟩:=h;rw[Px h1 hp];obtain⟨g1,g2⟩:=ZF h3 hp.2.1;exact⟨fun j hj=>(h1 j hj).mono hp,by rw[g2,h2,a1C hv hp.2.2],g1⟩
theorem ZG{d:Dg}(h:BH d):∀(F:Nat) (r:Int) (x:Cs),1<=F->r+1<F->jq d r d.au.length->Dn d x->XM d x->XM d (bV d F r x).2∧Kn d (bV d F r x).2 r∧uS d (bV d F r x).2 r=(bV d F r x).1
 | 0,r,x,h1,_,_,_,_=>by omega
 |F+1,r,x,_,hF,hr,hx,hi=>by
  by_cases c:r<0
  .have e:bV d (F+1) r x=(i64.wrap (-1-(x.e.idxOf (pK d r):Nat)),⟨jV x.e (pK d r),x.n,x.k⟩):=by unfold bV;rw[a0g (by simpa using c)]
   rw[e];have hp:Az x ⟨jV x.e (pK d r),x.n,x.k⟩:=⟨Pm _ _,a5P,a5P⟩;refine⟨fun v hv=>XM.a1D (hi v hv) hv hp,?_,?_⟩
   .unfold Kn;rw[a0g c];show pK d r∈jV x.e (pK d r);unfold jV;split
    .assumption
    simp
   unfold uS;rw[a0g c];show i64.wrap (-1-((jV x.e (pK d r)).idxOf (pK d r):Nat))=_;congr 3;unfold jV;split
   .rfl
   rename_i hn;rw[a9u,a0c hn,a9h hn];simp
  by_cases c2:r∈x.k.map (·.1)
  .have hk:Kn d x r:=by unfold Kn;rw[a0c c];exact c2
   rw[MI hk];exact⟨hi,hk,rfl⟩
  have aT:r.toNat<d.au.length:=by have:=hr.1;omega
  have BI:∀k,k<(aQ d r).length->(aQ d r).getD k 0<r:=fun k kN=>by have h9:=(h.Au r.toNat aT k kN).1;have h9:(aQ d r).getD k 0<(r.toNat:Int):=h9;omega
  have MG:∀j,j<(aQ d r).length->jq d ((aQ d r).getD j 0) d.au.length:=fun j hj=>⟨by have:=BI j hj;have:=hr.1;omega,(h.Au r.toNat aT j hj).2⟩;have inv:=dU (g:=BM d F r) (m:=(aQ d r).length) (k:=0) (s:=(List.replicate (aQ d r).length 0,x)) (fun k y=>(y.1.length=(aQ d r).length∧Az x y.2)∧(Dn d y.2∧r∉y.2.k.map (·.1))∧XM d y.2∧∀j,j<k->Kn d y.2 ((aQ d r).getD j 0)∧uS d y.2 ((aQ d r).getD j 0)=y.1.getD j 0) ⟨⟨by simp,Az.rfl⟩,⟨hx,c2⟩,hi,fun j hj=>by omega⟩ (fun j y _ hj hy=>by
   obtain⟨⟨y1,y2⟩,⟨y3,y4⟩,y5,y6⟩:=hy;have hj:j<(aQ d r).length:=(by omega);have hp:=a7s (d:=d) F ((aQ d r).getD j 0) y.2;obtain⟨z1,z2,z3⟩:=ZG h F ((aQ d r).getD j 0) y.2 (by omega) (by have:=BI j hj;omega) (MG j hj) y3 y5;refine⟨⟨by simp[BM,y1],y2.trans hp⟩,⟨P7 h F _ y.2 y3 (MG j hj),XB F _ r y.2 (BI j hj) y4 (by omega) (fun i hi k hk=>(h.Au i hi k hk).1) (fun h5=>⟨h5,(MG j hj).1⟩)⟩,z1,fun j' Eu=>?_⟩;by_cases e:j'=j
   .subst e;refine⟨z2,?_⟩;rw[z3];show(bV d F ((aQ d r).getD j' 0) y.2).1=(y.1.set j' (bV d F ((aQ d r).getD j' 0) y.2).1).getD j' 0;generalize (bV d F ((aQ d r).getD j' 0) y.2).1=z;simp[List.getD,a2c (show j'<y.1.length by omega)]
   obtain⟨a1,a2⟩:=y6 j' (by omega);refine⟨a1.mono hp,?_⟩;rw[SV a1 hp,a2];show _=(y.1.set j (bV d F ((aQ d r).getD j 0) y.2).1).getD j' 0;generalize (bV d F ((aQ d r).getD j 0) y.2).1=z;simp[List.getD,a1l (Ne.symm e)])
  rw[a3T]at inv;have e:bV d (F+1) r x=(dZ (aU (BM d F r) (aQ d r).length 0 (List.replicate (aQ d r).length 0,x)).2.n (aj d r).var (aU (BM d F r) (aQ d r).length 0 (List.replicate (aQ d r).length 0,x)).1,⟨(aU (BM d F r) (aQ d r).length 0 (List.replicate (aQ d r).length 0,x)).2.e,dn (aU (BM d F r) (aQ d r).length 0 (List.replicate (aQ d r).length 0,x)).2.n (aj d r).var (aU (BM d F r) (aQ d r).length 0 (List.replicate (aQ d r).length 0,x)).1,(aU (BM d F r) (aQ d r).length 0 (List.replicate (aQ d r).length 0,x)).2.k++[(r,dZ (aU (BM d F r) (aQ d r).length 0 (List.replicate (aQ d r).length 0,x)).2.n (aj d r).var (aU (BM d F r) (aQ d r).length 0 (List.replicate (aQ d r).length 0,x)).1)]⟩):=by rw[bV,a0c (by simpa using c),a0c (by simpa using c2)]
  rw[e];generalize aU (BM d F r) (aQ d r).length 0 (List.replicate (aQ d r).length 0,x)=y at inv;obtain⟨ks,y⟩:=y;obtain⟨⟨y1,y2⟩,⟨y3,y4⟩,y5,y6⟩:=inv;have y1:ks.length=(aQ d r).length:=y1;have y4:r∉y.k.map (·.1):=y4;have hp:Az y ⟨y.e,dn y.n (aj d r).var ks,y.k++[(r,dZ y.n (aj d r).var ks)]⟩:=⟨a5P,KE _ _ _,a94 _ _⟩;have Ez:(aQ d r).map (uS d y)=ks:=by refine a9R (by simp[y1]) fun j j1 j2=>?_;have hj:j<(aQ d r).length:=(by omega);have:=(y6 j hj).2;rw[List.getD,List.getD,a0a hj,a0a j2]at this;simpa using this
  have gV:UL (y.k++[(r,dZ y.n (aj d r).var ks)]) r=dZ y.n (aj d r).var ks:=by
   unfold UL;rw[List.find?_append];have:(y.k.find? fun p=>p.1==r)=none:=adu.2 fun p hp=>by simp only[a7r];intro e2;exact y4 (a1g.2 ⟨p,hp,e2⟩)
   rw[this];simp
  obtain⟨g1,g2⟩:=a3y y.n (aj d r).var ks;refine⟨fun v hv=>?_,?_,?_⟩
  .have hv:v∈(y.k++[(r,dZ y.n (aj d r).var ks)]).map (·.1):=hv;rw[a3Z,a3k]at hv;rcases hv with hv|hv
   .exact XM.a1D (y5 v hv) hv hp
   have hv:v=r:=(by simpa using hv);subst hv;refine⟨fun j hj=>(y6 j hj).1.mono hp,?_,?_⟩
   .rw[Px (fun j hj=>(y6 j hj).1) hp,Ez];show dZ (dn y.n (aj d v).var ks) _ ks=UL (y.k++[(v,dZ y.n (aj d v).var ks)]) v;rw[g2,gV]
   rw[Px (fun j hj=>(y6 j hj).1) hp,Ez];exact g1
  .unfold Kn;rw[a0c c];show r∈(y.k++[(r,dZ y.n (aj d r).var ks)]).map (·.1);simp
  unfold uS;rw[a0c c];exact gV
open Go Tw Pv bQ
theorem XO{d:Dg}(h:bG d=0):∀i,i<d.au.length->∀k,k<(fD d i).ay.length->d.aH.idxOf (fD d i).var+1<=FW d.aH d.au ((fD d i).ay.getD k 0):=by
 intro i hi k hk;unfold bG at h;split at h
 .rename_i c;rw[h]at c;cases c
 split at h
 .cases h
 split at h
 .cases h
 rename_i c;have c:lG d=true:=by simpa using c
 unfold lG at c;split at c
 rotate_left
 .cases c
 split at c
 rotate_left
 .cases c
 rename_i c2;have:=dH.1 c2 i hi;unfold ZA at this;split at this
 .cases this
 split at this
 .cases this
 split at this
 .rename_i c3;have:=dH.1 c3 k hk;unfold cLk at this;split at this
  .cases this
  rw[a2I,MH,MH]at this;have e6:FW d.aH d.au ((i:Nat):Int)=d.aH.idxOf (fD d i).var:=by unfold FW;rw[a0c (by omega),a6t]
  rw[e6]at this;show d.aH.idxOf (fD d i).var+1<=FW d.aH d.au ((d.au.getD i ny).ay.getD k 0);omega
 cases this
theorem ZH{d:Dg}(h:BH d):∀(F:Nat) (r:Int) (x:Cs),jq d r d.au.length->NOk d.aA x.n->NOk d.aA (bV d F r x).2.n
 | 0,_,_,_,hx=>hx
 |F+1,r,x,hr,hx=>by
  unfold bV;by_cases c:r<0
  .rw[a0g (by simpa using c)];exact hx
  rw[a0c (by simpa using c)];split
  .exact hx
  have aT:r.toNat<d.au.length:=by have:=hr.1;omega
  have MG:∀j,j<(aQ d r).length->jq d ((aQ d r).getD j 0) d.au.length:=fun j hj=>by have h9:=h.Au r.toNat aT j hj;have h8:=h9.1;have h8:(aQ d r).getD j 0<(r.toNat:Int):=h8;exact⟨by omega,h9.2⟩
  have inv:=dU (g:=BM d F r) (m:=(aQ d r).length) (k:=0) (s:=(List.replicate (aQ d r).length 0,x)) (fun _ y=>y.1.length=(aQ d r).length∧NOk d.aA y.2.n) ⟨by simp,hx⟩ (fun j y _ hj hy=>⟨by simp[BM,hy.1],ZH h F _ y.2 (MG j (by omega)) hy.2⟩);show NOk d.aA (dn (aU (BM d F r) (aQ d r).length 0 (List.replicate (aQ d r).length 0,x)).2.n (aj d r).var (aU (BM d F r) (aQ d r).length 0 (List.replicate (aQ d r).length 0,x)).1);generalize aU (BM d F r) (aQ d r).length 0 (List.replicate (aQ d r).length 0,x)=y at inv;intro b hb;unfold dn at hb;split at hb
  .exact inv.2 b hb
  split at hb
  .exact inv.2 b hb
  rcases a3k.1 hb with hb|hb
  .exact inv.2 b hb
  rw[a2p.1 hb];refine⟨h.var r.toNat aT,?_⟩;show(y.1.length:Int)=d.aA.getD (aj d r).var.toNat 0;rw[inv.1];exact h.ksz r.toNat aT
theorem a7t{n:Nat}(hn:1<=n)(v:Int):((List.replicate n v).all fun x=>x==(List.replicate n v).getD 0 0)=true∧(List.replicate n v).getD 0 0=v:=by obtain⟨k,rfl⟩:∃k,n=k+1:=⟨n-1,by omega⟩;simp[adK]
theorem XP{d:Dg}{l:List V}(h:BH d)(Pq:kD d.aA.length d.aH=true)(hk:∀i,i<d.au.length->∀k,k<(fD d i).ay.length->d.aH.idxOf (fD d i).var+1<=FW d.aH d.au ((fD d i).ay.getD k 0)):∀(r:LI0) (a:Nat) (p:LI0) (v:Int) (x:Cs) (F:Nat),d.aH.drop a=r->a<=d.aH.length->ni d.aA p=true->Dn d x->XM d x->NOk d.aA x.n->jq d v d.au.length->a<=FW d.aH d.au v->1<=F->v+1<F->(∀q,ni d.aA q=true->Agr d.aA r q p->To d q v (l.getD (qA d.aA q).toNat V0))->Qo d.aA l r p (x.e,x.n)=((bV d F v x).1,((bV d F v x).2.e,(bV d F v x).2.n))
 | [],a,p,v,x,F,hr,ha,hp,_,_,_,hv,MG,hF1,hF,hto=>by
  obtain⟨F,rfl⟩:∃k,F=k+1:=⟨F-1,by omega⟩;have:a=d.aH.length:=by have:=congrArg List.length hr;rw[a3X,a4Q]at this;omega
  subst this;have hv0:v<0:=by
   rcases Int.lt_or_le v 0 with c|c
   .exact c
   exfalso;unfold FW at MG;rw[a0c (by omega)]at MG;have aT:v.toNat<d.au.length:=by have:=hv.1;omega
   have hm:=mW Pq (h.var v.toNat aT);have:=a4C.2 hm;have:d.aH.idxOf (d.au.getD v.toNat ny).var<d.aH.length:=this;omega
  have t:=hto p hp (fun _ _ _=>rfl);have e:l.getD (qA d.aA p).toNat V0=pK d v:=(To.fin hv0:To d p v _).det t |>.symm
  unfold bV;rw[a0g (by simpa using hv0)];show(i64.wrap (-1-(x.e.idxOf (l.getD (qA d.aA p).toNat V0):Nat)),(jV x.e (l.getD (qA d.aA p).toNat V0),x.n))=_;rw[e]
 |c::r,a,p,v,x,F,hr,ha,hp,hx,hi,hno,hv,MG,hF1,hF,hto=>by
  have aT:a<d.aH.length:=by have:=congrArg List.length hr;rw[a3X,a4b]at this;omega
  have hd:=a7E aT;rw[hr]at hd;obtain⟨hc,xg⟩:=List.cons.inj hd;have ho:=Pq;unfold kD at ho;rw[a1o]at ho;have GU:c∈d.aH:=by rw[hc];exact a4q aT
  have rZ:gW c d.aA.length:=⟨(ho.2.1 c GU).1,(ho.2.1 c GU).2⟩;have hia:d.aH.idxOf c=a:=by rw[hc];exact ho.2.2.idxOf_getElem a aT
  have pF:c.toNat<d.aA.length:=by have:=rZ.1;have:=rZ.2;omega
  have hz:=h.eF.sz _ (eu (s:=d.aA) (k:=c.toNat) pF);have FT:=zq hp;have hcr:c∉r:=by have:(d.aH.drop a).Nodup:=ho.2.2.sublist (List.drop_sublist _ _);rw[hr]at this;exact(a4k.1 this).1
  have EZ:∀j:Nat,j<(d.aA.getD c.toNat 0).toNat->ni d.aA (p.set c.toNat j)=true:=fun j hj=>a6H hp rZ ⟨by omega,by omega⟩;simp only[Qo];by_cases Bf:0<=v∧(aj d v).var=c
  .obtain⟨hv0,hvc⟩:=Bf;have a3z:v.toNat<d.au.length:=by have:=hv.1;omega
   have JQ:((aQ d v).length:Int)=d.aA.getD c.toNat 0:=by rw[<-hvc];exact h.ksz v.toNat a3z
   have hkn:(d.aA.getD c.toNat 0).toNat=(aQ d v).length:=(by omega);have BI:∀j,j<(aQ d v).length->(aQ d v).getD j 0<v:=fun j hj=>by have h9:=(h.Au v.toNat a3z j hj).1;have h9:(aQ d v).getD j 0<(v.toNat:Int):=h9;omega
   have hrf:∀j,j<(aQ d v).length->jq d ((aQ d v).getD j 0) d.au.length:=fun j hj=>⟨by have:=BI j hj;have:=hv.1;omega,(h.Au v.toNat a3z j hj).2⟩;have akj:∀j,j<(aQ d v).length->a+1<=FW d.aH d.au ((aQ d v).getD j 0):=fun j hj=>by have:=hk v.toNat a3z j hj;have:d.aH.idxOf (aj d v).var+1<=FW d.aH d.au ((aQ d v).getD j 0):=this;rw[hvc,hia]at this;exact this
   have akk:∀j:Nat,j<(aQ d v).length->∀q,ni d.aA q=true->Agr d.aA r q (p.set c.toNat j)->To d q ((aQ d v).getD j 0) (l.getD (qA d.aA q).toNat V0):=fun j hj q hq hag=>by
    have Yp:q.getD c.toNat 0=j:=by have:=hag c.toNat pF (by rw[agO rZ.1];exact hcr);rw[this,List.getD,a2c (by omega)];rfl
    have t0:=hto q hq (Agr.back rZ hag);revert t0;generalize l.getD (qA d.aA q).toNat V0=w;intro t0;cases t0 with
    |fin h9=>omega
    |step _ t=>
     rw[hvc,Yp,a6t]at t;exact t
   rw[hkn];by_cases Oj:v∈x.k.map (·.1)
   .-- known
    have hKn:Kn d x v:=by unfold Kn;rw[a0c (by omega)];exact Oj
    obtain⟨F',rfl⟩:∃k,F=k+1:=⟨F-1,by omega⟩;rw[MI hKn];obtain⟨i1,i2,i3⟩:=hi v Oj;have inv:=dU (g:=gPt (Qo d.aA l r) c p) (m:=(aQ d v).length) (k:=0) (s:=([],(x.e,x.n))) (fun k y=>y=(((aQ d v).map (uS d x)).take k,(x.e,x.n))) (by simp) (fun j y _ hj hy=>by have hj:j<(aQ d v).length:=(by omega);subst hy;have ih:=XP h Pq hk r (a+1) (p.set c.toNat j) ((aQ d v).getD j 0) x (F'+1) xg.symm aT (EZ j (by omega)) hx hi hno (hrf j hj) (akj j hj) (by omega) (by have:=BI j hj;omega) (akk j hj);rw[MI (i1 j hj)]at ih;unfold gPt;rw[ih];refine acV ?_ rfl;show(((aQ d v).map (uS d x)).take j)++[uS d x ((aQ d v).getD j 0)]=_;have hjm:j<((aQ d v).map (uS d x)).length:=(by simpa using hj);rw[a5K hjm];simp[List.getD,a0a hj])
    rw[a3T]at inv;rw[inv,a8O (by simp)];rw[hvc]at i2 i3;obtain⟨n1,n2⟩:=XJ h.eF.sz hno rZ (ks:=(aQ d v).map (uS d x)) (by simpa using JQ);show(a3v x.n c _,(x.e,a3w x.n c _))=_;rw[<-n1,<-n2,i2,i3];unfold uS;rw[a0c (by omega)]
   obtain⟨F',rfl⟩:∃k,F=k+1:=⟨F-1,by omega⟩;have key:∀j,j<=(aQ d v).length->(aU (gPt (Qo d.aA l r) c p) j 0 ([],(x.e,x.n)))=((aU (BM d F' v) j 0 (List.replicate (aQ d v).length 0,x)).1.take j,((aU (BM d F' v) j 0 (List.replicate (aQ d v).length 0,x)).2.e,(aU (BM d F' v) j 0 (List.replicate (aQ d v).length 0,x)).2.n))∧(aU (BM d F' v) j 0 (List.replicate (aQ d v).length 0,x)).1.length=(aQ d v).length∧(Dn d (aU (BM d F' v) j 0 (List.replicate (aQ d v).length 0,x)).2∧v∉(aU (BM d F' v) j 0 (List.replicate (aQ d v).length 0,x)).2.k.map (·.1))∧XM d (aU (BM d F' v) j 0 (List.replicate (aQ d v).length 0,x)).2∧NOk d.aA (aU (BM d F' v) j 0 (List.replicate (aQ d v).length 0,x)).2.n:=by
    intro j
    induction j with
    |zero=>intro _;exact⟨rfl,by simp[aU],⟨hx,Oj⟩,hi,hno⟩
    |succ j ih=>
     intro hj;have hj:j<(aQ d v).length:=hj;obtain⟨q1,q2,⟨q3,q3'⟩,q4,q5⟩:=ih (by omega);rw[sU,sU,a3T];generalize aU (BM d F' v) j 0 (List.replicate (aQ d v).length 0,x)=y at q1 q2 q3 q3' q4 q5;rw[q1];have QC:=BI j hj;have ih2:=XP h Pq hk r (a+1) (p.set c.toNat j) ((aQ d v).getD j 0) y.2 F' xg.symm aT (EZ j (by omega)) q3 q4 q5 (hrf j hj) (akj j hj) (by omega) (by omega) (akk j hj);refine⟨?_,by simp[BM,q2],⟨P7 h F' _ y.2 q3 (hrf j hj),XB F' _ v y.2 QC q3' (by omega) (fun i hi k hk=>(h.Au i hi k hk).1) (fun h5=>⟨h5,(hrf j hj).1⟩)⟩,(ZG h F' _ y.2 (by omega) (by omega) (hrf j hj) q3 q4).1,ZH h F' _ y.2 (hrf j hj) q5⟩;unfold gPt;rw[ih2];refine acV ?_ rfl;show y.1.take j++[(bV d F' ((aQ d v).getD j 0) y.2).1]=(y.1.set j (bV d F' ((aQ d v).getD j 0) y.2).1).take (j+1);rw[a5K (by simp;omega),List.take_set_of_le (a0U _),List.getElem_set_self]
   obtain⟨q1,q2,⟨q3,q3'⟩,q4,q5⟩:=key _ (a0U _);rw[q1];have e:bV d (F'+1) v x=(dZ (aU (BM d F' v) (aQ d v).length 0 (List.replicate (aQ d v).length 0,x)).2.n (aj d v).var (aU (BM d F' v) (aQ d v).length 0 (List.replicate (aQ d v).length 0,x)).1,⟨(aU (BM d F' v) (aQ d v).length 0 (List.replicate (aQ d v).length 0,x)).2.e,dn (aU (BM d F' v) (aQ d v).length 0 (List.replicate (aQ d v).length 0,x)).2.n (aj d v).var (aU (BM d F' v) (aQ d v).length 0 (List.replicate (aQ d v).length 0,x)).1,(aU (BM d F' v) (aQ d v).length 0 (List.replicate (aQ d v).length 0,x)).2.k++[(v,dZ (aU (BM d F' v) (aQ d v).length 0 (List.replicate (aQ d v).length 0,x)).2.n (aj d v).var (aU (BM d F' v) (aQ d v).length 0 (List.replicate (aQ d v).length 0,x)).1)]⟩):=by rw[bV,a0c (by simpa using hv0),a0c (by simpa using Oj)]
   rw[e];generalize aU (BM d F' v) (aQ d v).length 0 (List.replicate (aQ d v).length 0,x)=y at q2 q5;rw[a8O (by omega),hvc];obtain⟨n1,n2⟩:=XJ h.eF.sz q5 rZ (ks:=y.1) (by rw[q2];exact JQ);rw[n1,n2]
  -- asked later,or an end
  have akl:a+1<=FW d.aH d.au v:=by
   unfold FW at MG ⊢;split
   .omega
   rename_i c1;rw[a0c c1]at MG;have iq:d.aH.idxOf (d.au.getD v.toNat ny).var≠a:=fun e=>by
    apply Bf;refine⟨by omega,?_⟩;have a3z:v.toNat<d.au.length:=by have:=hv.1;omega
    have hm:=mW Pq (h.var v.toNat a3z);have h1:=a8F (a4C.2 hm);have e:d.aH.idxOf (fD d v.toNat).var=a:=e;show(fD d v.toNat).var=c;rw[hc,<-h1];congr 1
   omega
  obtain⟨z1,z2,z3⟩:=ZG h F v x hF1 hF hv hx hi;have QB:=P7 h F v x hx hv;have ae8:=ZH h F v x hv hno;have akm:bV d F v (bV d F v x).2=((bV d F v x).1,(bV d F v x).2):=by
   have e:∀y,Kn d y v->uS d y v=(bV d F v x).1->bV d F v y=((bV d F v x).1,y):=fun y h1 h2=>by obtain⟨F',rfl⟩:∃k,F=k+1:=⟨F-1,by omega⟩;rw[MI h1,h2]
   exact e _ z2 z3
  have akn:∀j:Nat,∀q,ni d.aA q=true->Agr d.aA r q (p.set c.toNat j)->To d q v (l.getD (qA d.aA q).toNat V0):=fun j q hq hag=>hto q hq (Agr.back rZ hag);have inv:=dU (g:=gPt (Qo d.aA l r) c p) (m:=(d.aA.getD c.toNat 0).toNat) (k:=0) (s:=([],(x.e,x.n))) (fun k y=>(k=0∧y=([],(x.e,x.n)))∨(0<k∧y=(List.replicate k (bV d F v x).1,((bV d F v x).2.e,(bV d F v x).2.n)))) (.inl ⟨rfl,rfl⟩) (fun j y _ hj hy=>by
   right;refine⟨by omega,?_⟩;rcases hy with⟨rfl,rfl⟩|⟨h0,rfl⟩
   .have ih:=XP h Pq hk r (a+1) (p.set c.toNat ((0:Nat):Int)) v x F xg.symm aT (EZ 0 (by omega)) hx hi hno hv akl hF1 hF (akn 0);unfold gPt;rw[ih];rfl
   have ih:=XP h Pq hk r (a+1) (p.set c.toNat ((j:Nat):Int)) v (bV d F v x).2 F xg.symm aT (EZ j (by omega)) QB z1 ae8 hv akl hF1 hF (akn j);rw[akm]at ih;unfold gPt;rw[ih];refine acV ?_ rfl;show List.replicate j _++[_]=_;rw[List.replicate_succ'])
  rw[a3T]at inv;rcases inv with⟨h0,_⟩|⟨h0,e⟩
  .omega
  rw[e];obtain⟨f1,f2⟩:=a7t (n:=(d.aA.getD c.toNat 0).toNat) (by omega) (bV d F v x).1;show(a3v _ c _,(_,a3w _ c _))=_;unfold a3v a3w;rw[a0g f1,a0g f1,f2]
theorem a7u{d:Dg}(hl:bG d=0)(ho:d.aH.length<=ah)(he:d.aO.length<=ah):fA d=afx d.aA d.aH (cellsD d)∧OfP d.aA d.aH (cellsD d):=by
 obtain⟨h,hn⟩:=mV ho he (by rw[hl];rfl);have hf:(dh d.aA d.aH != 0)=false:=by
  unfold bG at hl;split at hl
  .rename_i c;rw[hl]at c;cases c
  rename_i c;simpa using c
 obtain⟨eF,Pq⟩:=mF.1 (show dh d.aA d.aH=0 by simpa using hf);have hlen:((cellsD d).length:Int)=bD d.aA:=by unfold cellsD;rw[a4h,a8D,eF.a6l]
 have hr:=h.root;have hr1:=hr.1;have hto:∀q,ni d.aA q=true->To d q d.root ((cellsD d).getD (qA d.aA q).toNat V0):=fun q hq=>by
  have hrn:=He hq eF.sz;have t:=To.of h hq 6001 d.root (by omega) hr;have e:(cellsD d).getD (qA d.aA q).toNat V0=Em d q:=by
   have aT:(qA d.aA q).toNat<FD d.aA:=by unfold FD;omega
   unfold cellsD;rw[List.getD,a0a (by simpa using aT)];simp only[a8Z,agX,a4r];rw[show(((qA d.aA q).toNat:Nat):Int)=qA d.aA q by omega,Uy hq eF.sz]
  rw[e];exact t
 have key:=XP (l:=cellsD d) h Pq (XO hl) d.aH 0 (List.replicate d.aA.length 0) d.root ZB 6002 rfl (a4E _) (XI eF.sz) UO (fun v hv=>by cases hv) (fun b hb=>by cases hb) hr (a4E _) (by omega) (by omega) (fun q hq _=>hto q hq);refine⟨?_,⟨eF,Pq,hlen⟩⟩;have key:Qo d.aA (cellsD d) d.aH (List.replicate d.aA.length 0) ([],[])=_:=key;unfold fA afx;rw[key]
open Go Tw Pv bQ
theorem XQ(k:Int):KY (i64.wrap k):=by
 have e:i64.wrap k=if k%(2^64:Int)>=(2^63:Int)then k%(2^64:Int)-2^64 else k%(2^64:Int):=by
  show(if(true&&decide (k%(2^64:Int)>=(2^63:Int)))=true then _ else _)=_;by_cases c:k%(2^64:Int)>=(2^63:Int)
  .rw[a0g (by simpa using c),a0g c];rfl
  rw[a0c (by simpa using c),a0c c];rfl
 rw[e];unfold KY;split<;>constructor<;>omega
open Go Tw Pv bQ
def ad9:eY aC:=bT 121 (a1 dA) iA (fun p=>(vI p).2) (fun p=>[KD p,p.aA.length<=ah,p.aH.length<=2^20,p.aO.length+1<=ah]) ad6
theorem ako:Gd ad9:=akh.add fun n hO p hp=>aN hO (.o (hp _ gZ) (.o (hp _ yI) (.o (hp _ hh2) (.o (hp _ (.tail _ (.tail _ (.tail _ (.head _))))) .rr))))
def zF(d:Dg):Dg×Int:=if((bF d).2 != 0)=true then(jf,(bF d).2)else(fA (bF d).1.d,0)
def a7v:eY aC:=bT 108 (a1 dA) (dR (a2 dA iA)) (fun p=>zF p) (fun p=>[KD p,p.aA.length<=ah,p.aH.length<=2^20,p.aO.length<=ah,((bF p).2 != 0)=false->ClP (bF p).1]) ad9
theorem ada:Gd a7v:=ako.add fun n hO p hp=>aN hO (.o (hp _ yI) (.o (hp _ hh2) (.o (hp _ (.tail _ (.tail _ (.tail _ (.head _))))) (.sh (fun _=>.rn (.dG [.agg [.nil .aP,.nil .aP,.nil .aP,.nil .aP,.int .i64 0],.int .i64 (bF p).2]) rfl) fun h=>.o (hp _ (.tail _ (.tail _ (.tail _ (.tail _ (.head _))))) h) .rr))))
def akp:eY aC:=bT 77 (a3 iA iA iA) tA (fun p=>(if decide (p.2.2>=p.1)=true then decide (p.2.2<=p.2.1)else false)) np a7v
theorem ape:Gd akp:=ada.add fun n hO p hp=>aN hO (.ss .rr .rr)
def a1E:eY aC:=bT 123 (a2 (a6f frA) dA) tA (fun p=>(if decide (p.2.aA=p.1.1)=true then decide (p.2.aH=p.1.2)else false)) (fun p=>[p.2.aA.length<=ah,p.2.aH.length<=ah]) akp
theorem akq:Gd a1E:=ape.add fun n hO p hp=>aN hO (.o (hp _ gZ) (.ss (.o (hp _ yI) .rr) .rr))
end Go.Proofs.YtmobpoiejckagaaGreat
namespace Pv
open Go Tw
variable {X:kJ} {P:LI1}
theorem nY.ZI(hX:bP X P){call:aY}{f:FuncId}{first xs cap vs:List (PV X.Γ)}{v v':PV X.Γ}{ext ext':List (PB X.Γ)}(hc:nY X P call f vs v ext)(hv:views [] (first++xs++cap)=some vs)(hs:qN X 0 ext=some ext')
  (e:shift 0 v=v') (he:(if xk v||ext.any (hasB X)then bf (kP.jX (first++xs++cap)) []else [])=([]:List (PB X.Γ))):dD X P call (.fn f first cap) xs [] v' ext':=by
 subst e;intro A m h tf qU hr hf hx;cases hf with
 |gone hi _ _=>simp[bn]at hi
 |fn p1 p2 p3 p4=>
  obtain⟨w,h',m1,c1,c2,c3,c4,c5⟩:=GY hX hc hr hv hs ⟨p1,p2⟩ hx ⟨p3,p4⟩;rw[he]at c2;exact⟨w,h',[],m1,c1,c2,c3,c4,c5,fun b hb=>by cases hb⟩
end Pv
namespace Go.Proofs.YtmobpoiejckagaaGreat
open Go Tw Pv bQ
def a3A{α:Type}(g:α->Bool)(i:Nat)(x:α)(s:Unit):Unit⊕(Nat×α×Unit):=if(g x)=true then .inr (i,x,s)else .inl ()
def afy{α:Type}(d:α)(g:α->Bool)(l:List α):Int:=if(jP (mg (a3A g) l 0 ()))=true then -1 else(((CX (0,d,()) (mg (a3A g) l 0 ())).1:Int))
theorem a7w{α:Type}(g:α->Bool):∀(l:List α) (i:Nat),jP (mg (a3A g) l i ())=!(l.any g)
 | [],i=>rfl
 |x::l,i=>by
  simp only[mg,a3A,adg];cases g x
  .simpa using a7w g l (i+1)
  simp[jP]
theorem afz{α:Type}(d:α)(g:α->Bool)(l:List α):decide (afy d g l>=0)=l.any g:=by have:=a7w g l 0;unfold afy;rw[this];cases l.any g<;>simp
theorem dK{α:Type}{l:List α}{k:Nat}{d:α}(h:k<l.length):l.getD k d∈l:=by simp[List.getD,a0a h]
abbrev afA(f:Nat)(a c:List (PV aC))(H:List (PB aC))(l:List Dg)(i:Int)(x:List (Nat×PE aC)):aS aC:=⟨[(0,xL 26 l),(1,.val (.fn f a c)),(7,xi l.length),(8,xi i)]++x,[],H⟩
def akr(f:Nat)(a c:List (PV aC))(H:List (PB aC))(l:List Dg):Unit⊕(Nat×Dg×Unit)->Ex×aS aC
 |.inl _=>(.exit 0,afA f a c H l l.length [(9,xl false)])
 |.inr r=>(.ret,⟨[(4,xi r.1)],[],H⟩)
theorem apf{n f:Nat}{a c:List (PV aC)}{H:List (PB aC)}{g:Dg->Bool}(l:List Dg)(hf:∀x∈l,iQ n (.fn f a c) [.agg x.ps] H (.bool (g x)) H)(hl:l.length<=ah):iQ (n+1) (.fn 204 [] []) [lDg l,.fn f a c] H (iA.put (afy jf g l)) H:=by
 have lp:MC n 204 0 H.length (afA f a c H l 0 []) (akr f a c H l (mg (a3A g) l 0 ())).1 (akr f a c H l (mg (a3A g) l 0 ())).2:=
  WV (st:=fun i _=>afA f a c H l i []) jf (fun _ _=>True) (by kernel_rfl) hl SB trivial (fun k s n hk _ ih=>aJ fZ (.b (aW hk) (.o (aG hk) (.k (hf (l.getD k jf) (dK hk)) (.ls (.ou nofun) (.nx (ih _ trivial))))))) (fun s _=>aJ fZ (.b (eH l.length) (.ou nofun)))
 exact jh fZ (first:=[]) (cap:=[]) (.szh (fun h=>.w (ku lp () h) .sr) (fun h=>.w (kC lp (0,jf,()) h) .sr))
theorem apg{n f:Nat}{a c:List (PV aC)}{H:List (PB aC)}{g:Dg->Bool}(l:List Dg)(hf:∀x∈l,iQ n (.fn f a c) [.agg x.ps] H (.bool (g x)) H)(hl:l.length<=ah):iQ (n+2) (.fn 173 [] []) [lDg l,.fn f a c] H (tA.put (l.any g)) H:=by rw[<-afz jf g l];have h1:=apf l hf hl;exact jh fZ (first:=[]) (cap:=[]) (.k h1 .sr)
def Dq(f:LI0×LI0)(d:Dg):Bool:=if decide (d.aA=f.1)=true then decide (d.aH=f.2)else false
abbrev a7x(f:LI0×LI0):PV aC:=.fn 123 [.agg [lI f.1,lI f.2]] []
structure qC(d:Dg):Prop where
 r:KD d
 s:d.aA.length<=ah
 o:d.aH.length<=2^20
 e:d.aO.length+1<=ah
theorem aph{n:Nat}(hO:Ok n a1E)(f:LI0×LI0)(l:List Dg)(hp:∀d∈l,qC d)(hl:l.length<=ah):iQ (n+4) (.fn 122 [] []) [a7x f,lDg l] [] (tA.put (l.all (Dq f))) []:=by
 have hs:∀d∈l,iQ n (a7x f) [.agg d.ps] [] (tA.put (Dq f d)) []:=fun d hd=>nY.ZI hX (first:=[.agg [lI f.1,lI f.2]]) (cap:=[]) (hO 123 [.agg [lI f.1,lI f.2],.agg d.ps] (tA.put (Dq f d)) [] [d.aA.length<=ah,d.aH.length<=ah] (by kernel_rfl) (fun p h=>by
  have h9:=hp d hd;have h8:=h9.o;rcases a2d.1 h with rfl|h
  .exact h9.s
  rw[a2p.1 h];exact h8)) rfl rfl rfl rfl
 have h1:∀d∈l,iQ (n+1) (.fn 174 [] [.ptr 0 0 1]) [.agg d.ps] [.cells [a7x f]] (tA.put (!(Dq f d))) [.cells [a7x f]]:=fun d hd=>
  jh fZ (first:=[]) (.fr [] (hs d hd) .sr)
 have h2:=apg l h1 hl;rw[<-E8 l (Dq f)];exact dD.drop hX (CW hX fZ (first:=[]) (cap:=[]) (H1:=[.cells [a7x f]]) (by kernel_rfl) (.k h2 .sr)) rfl rfl
abbrev wCk(l:List Dg)(i:Int)(x:List (Nat×PE aC)):aS aC:=⟨[(0,xL 26 l),(6,xL 26 l),(7,xi l.length),(8,xi i)]++x,[],[]⟩
abbrev cCk(l:List Dg)(k:Nat):Bool:=(vI (l.getD k jf)).2 != 0
def zCk(l:List Dg):Unit⊕Nat->Ex×aS aC
 |.inl _=>(.exit 0,wCk l l.length [(9,xl false)])
 |.inr k=>(.ret,⟨[(2,xi (vI (l.getD k jf)).2)],[(l.getD k jf).ps],[]⟩)
theorem lCk{n:Nat}(hO:Ok n a1E){l:List Dg}(hp:∀d∈l,qC d)(hl:l.length<=ah):Lp n 76 0 (wCk l 0 []) (zCk l (bC (cCk l) l.length)).1 (zCk l (bC (cCk l) l.length)).2:=by
 refine iK (st:=fun i _=>wCk l i []) (g:=gS (cCk l)) (out:=zCk l) (fun _ _=>True) (by kernel_rfl) hl trivial (fun k u m hk _ ih=>?_) (fun _ _=>?_)
 .have h9:=hp _ (dK (d:=jf) hk);unfold gS cCk;exact aJ hO (.b (aW hk) (.o (aG hk) (.o h9.r (.o h9.s (.o h9.o (.o h9.e (.ls (.ou nofun) (.nx (ih _ trivial)))))))))
 exact aJ hO (.b (eH l.length) (.ou nofun))
def bK(l:List Dg):Int:=if jP (bC (cCk l) l.length)=true then(if(!(l.all (Dq ((l.getD 0 jf).aA,(l.getD 0 jf).aH))))=true then 2 else 0)else(vI (l.getD (CX 0 (bC (cCk l) l.length)) jf)).2
def aks:eY aC:=bT 76 (a1 Xn) iA bK (fun l=>[∀d∈l,qC d,0<l.length∧l.length<=ah]) a1E
theorem apl:Gd aks:=akq.deep 4 fun n hn hO l hp=>by have h1:∀d∈l,qC d:=hp _ gZ;have h2:0<l.length∧l.length<=ah:=hp _ yI;have hs:=aph (n:=n-4) (hO (n-4) (by omega)) ((l.getD 0 jf).aA,(l.getD 0 jf).aH) l h1 h2.2;rw[show n-4+4=n by omega]at hs;have i0:gW 0 l.length:=⟨by omega,by omega⟩;have hl:=lCk (hO n (by omega)) h1 h2.2;show nY X0 Qp _ _ _ (iA.put (bK l)) _;unfold bK;exact aN (hO n (by omega)) (.zh (fun h=>.w (ku hl () h) (.o i0 (.o i0 (.fr [] hs (.ss .rr .rr))))) (fun h=>.w (kC hl 0 h) .rr))
open Go Tw Pv bQ
theorem a7z{n:Int}(h:0<=n∧n<=6):n=0∨n=1∨n=2∨n=3∨n=4∨n=5∨n=6:=by omega
theorem a7A:(0:Int)<=32:=by decide
def adb:eY aC:=bT 206 (a2 pA pA) (dR (a2 pA pA)) (fun p=>(0,p.2)) (fun p=>[p.1=1,0<=p.2∧p.2<=6]) aks
theorem akt:Gd adb:=apl.add fun n hO p hp=>by
 obtain⟨a,b⟩:=p;have h1:a=1:=hp _ gZ;have h2:0<=b∧b<=6:=hp _ yI;subst h1;rcases a7z h2 with rfl|rfl|rfl|rfl|rfl|rfl|rfl
 all_goals exact aN hO (.o a7A (.o a7A (.o a7A (.o a7A (.o a7A .rr)))))
def ade:eY aC:=bT 175 (a2 pA pA) (dR (a2 pA pA)) (fun p=>(0,p.2)) (fun p=>[p.1=1,0<=p.2∧p.2<=6]) adb
theorem aku:Gd ade:=akt.add fun n hO p hp=>aN hO (.o (hp _ gZ) (.o (hp _ yI) .rr))
def I4:eY aC:=bT 124 (a2 rJ iA) rJ (fun p=>List.replicate p.2.toNat (-1)) (fun p=>[p.1=[-1],0<=p.2∧p.2<=6]) ade
theorem XR:Gd I4:=aku.add fun n hO p hp=>by
 obtain⟨a,b⟩:=p;have h1:a=[-1]:=hp _ gZ;have h2:0<=b∧b<=6:=hp _ yI;subst h1;rcases a7z h2 with rfl|rfl|rfl|rfl|rfl|rfl|rfl
 .exact aN hO (.b (rfl:decide ((0:Int)<0)=false) (.o (rfl:(1:Int)=1) (.o (⟨by decide,by decide⟩:(0:Int)<=0∧(0:Int)<=6) (.b (rfl:decide ((0:Int)>0)=false) (.b (rfl:decide ((0:Int)>9223372036854775807)=false) (.o (rfl:(0:Int)=0) (.o (show(0:Int)<=0 by decide) (.o (show(0:Int)<=(ah:Int) by decide) (.m 8 le8 (.b (rfl:decide ((0:Int)<0)=false) .rr))))))))))
 .exact aN hO (.b (rfl:decide ((1:Int)<0)=false) (.o (rfl:(1:Int)=1) (.o (⟨by decide,by decide⟩:(0:Int)<=1∧(1:Int)<=6) (.b (rfl:decide ((0:Int)>0)=false) (.b (rfl:decide ((1:Int)>9223372036854775807)=false) (.o (rfl:(1:Int)=1) (.o (show(0:Int)<=1 by decide) (.o (show(1:Int)<=(ah:Int) by decide) (.m 8 le8 (.b (rfl:decide ((1:Int)<1)=false) .rr))))))))))
 .exact aN hO (.b (rfl:decide ((2:Int)<0)=false) (.o (rfl:(1:Int)=1) (.o (⟨by decide,by decide⟩:(0:Int)<=2∧(2:Int)<=6) (.b (rfl:decide ((0:Int)>0)=false) (.b (rfl:decide ((2:Int)>9223372036854775807)=false) (.o (rfl:(2:Int)=2) (.o (show(0:Int)<=2 by decide) (.o (show(2:Int)<=(ah:Int) by decide) (.m 8 le8 (.b (rfl:decide ((1:Int)<2)=true) (.o (show(0:Int)<=1 by decide) (.o (show(1:Int)<=2 by decide) (.o (show(2:Int)<=2 by decide) (.o (show(0:Int)<=0 by decide) (.o (show(0:Int)<=1 by decide) (.o (show(1:Int)<=2 by decide) (.b (rfl:decide ((2:Int)<2)=false) .rr)))))))))))))))))
 .exact aN hO (.b (rfl:decide ((3:Int)<0)=false) (.o (rfl:(1:Int)=1) (.o (⟨by decide,by decide⟩:(0:Int)<=3∧(3:Int)<=6) (.b (rfl:decide ((0:Int)>0)=false) (.b (rfl:decide ((3:Int)>9223372036854775807)=false) (.o (rfl:(3:Int)=3) (.o (show(0:Int)<=3 by decide) (.o (show(3:Int)<=(ah:Int) by decide) (.m 8 le8 (.b (rfl:decide ((1:Int)<3)=true) (.o (show(0:Int)<=1 by decide) (.o (show(1:Int)<=3 by decide) (.o (show(3:Int)<=3 by decide) (.o (show(0:Int)<=0 by decide) (.o (show(0:Int)<=1 by decide) (.o (show(1:Int)<=3 by decide) (.b (rfl:decide ((2:Int)<3)=true) (.o (show(0:Int)<=2 by decide) (.o (show(2:Int)<=3 by decide) (.o (show(3:Int)<=3 by decide) (.o (show(0:Int)<=0 by decide) (.o (show(0:Int)<=2 by decide) (.o (show(2:Int)<=3 by decide) (.b (rfl:decide ((3:Int)<3)=false) .rr))))))))))))))))))))))))
 .exact aN hO (.b (rfl:decide ((4:Int)<0)=false) (.o (rfl:(1:Int)=1) (.o (⟨by decide,by decide⟩:(0:Int)<=4∧(4:Int)<=6) (.b (rfl:decide ((0:Int)>0)=false) (.b (rfl:decide ((4:Int)>9223372036854775807)=false) (.o (rfl:(4:Int)=4) (.o (show(0:Int)<=4 by decide) (.o (show(4:Int)<=(ah:Int) by decide) (.m 8 le8 (.b (rfl:decide ((1:Int)<4)=true) (.o (show(0:Int)<=1 by decide) (.o (show(1:Int)<=4 by decide) (.o (show(4:Int)<=4 by decide) (.o (show(0:Int)<=0 by decide) (.o (show(0:Int)<=1 by decide) (.o (show(1:Int)<=4 by decide) (.b (rfl:decide ((2:Int)<4)=true) (.o (show(0:Int)<=2 by decide) (.o (show(2:Int)<=4 by decide) (.o (show(4:Int)<=4 by decide) (.o (show(0:Int)<=0 by decide) (.o (show(0:Int)<=2 by decide) (.o (show(2:Int)<=4 by decide) (.b (rfl:decide ((4:Int)<4)=false) .rr))))))))))))))))))))))))
 .exact aN hO (.b (rfl:decide ((5:Int)<0)=false) (.o (rfl:(1:Int)=1) (.o (⟨by decide,by decide⟩:(0:Int)<=5∧(5:Int)<=6) (.b (rfl:decide ((0:Int)>0)=false) (.b (rfl:decide ((5:Int)>9223372036854775807)=false) (.o (rfl:(5:Int)=5) (.o (show(0:Int)<=5 by decide) (.o (show(5:Int)<=(ah:Int) by decide) (.m 8 le8 (.b (rfl:decide ((1:Int)<5)=true) (.o (show(0:Int)<=1 by decide) (.o (show(1:Int)<=5 by decide) (.o (show(5:Int)<=5 by decide) (.o (show(0:Int)<=0 by decide) (.o (show(0:Int)<=1 by decide) (.o (show(1:Int)<=5 by decide) (.b (rfl:decide ((2:Int)<5)=true) (.o (show(0:Int)<=2 by decide) (.o (show(2:Int)<=5 by decide) (.o (show(5:Int)<=5 by decide) (.o (show(0:Int)<=0 by decide) (.o (show(0:Int)<=2 by decide) (.o (show(2:Int)<=5 by decide) (.b (rfl:decide ((4:Int)<5)=true) (.o (show(0:Int)<=4 by decide) (.o (show(4:Int)<=5 by decide) (.o (show(5:Int)<=5 by decide) (.o (show(0:Int)<=0 by decide) (.o (show(0:Int)<=4 by decide) (.o (show(4:Int)<=5 by decide) (.b (rfl:decide ((5:Int)<5)=false) .rr)))))))))))))))))))))))))))))))
 .exact aN hO (.b (rfl:decide ((6:Int)<0)=false) (.o (rfl:(1:Int)=1) (.o (⟨by decide,by decide⟩:(0:Int)<=6∧(6:Int)<=6) (.b (rfl:decide ((0:Int)>0)=false) (.b (rfl:decide ((6:Int)>9223372036854775807)=false) (.o (rfl:(6:Int)=6) (.o (show(0:Int)<=6 by decide) (.o (show(6:Int)<=(ah:Int) by decide) (.m 8 le8 (.b (rfl:decide ((1:Int)<6)=true) (.o (show(0:Int)<=1 by decide) (.o (show(1:Int)<=6 by decide) (.o (show(6:Int)<=6 by decide) (.o (show(0:Int)<=0 by decide) (.o (show(0:Int)<=1 by decide) (.o (show(1:Int)<=6 by decide) (.b (rfl:decide ((2:Int)<6)=true) (.o (show(0:Int)<=2 by decide) (.o (show(2:Int)<=6 by decide) (.o (show(6:Int)<=6 by decide) (.o (show(0:Int)<=0 by decide) (.o (show(0:Int)<=2 by decide) (.o (show(2:Int)<=6 by decide) (.b (rfl:decide ((4:Int)<6)=true) (.o (show(0:Int)<=4 by decide) (.o (show(4:Int)<=6 by decide) (.o (show(6:Int)<=6 by decide) (.o (show(0:Int)<=0 by decide) (.o (show(0:Int)<=4 by decide) (.o (show(4:Int)<=6 by decide) (.b (rfl:decide ((6:Int)<6)=false) .rr)))))))))))))))))))))))))))))))
open Go Tw Pv bQ
structure S3 where
 a:Int
 b:Int
 c:Int
 deriving DecidableEq
abbrev S3.ps(s:S3):List (PV aC):=[.int .i64 s.a,.int .i64 s.b,.int .i64 s.c]
def S3.get(s:S3):Nat->Int
 | 0=>s.a
 | 1=>s.b
 |_=>s.c
def S3.set(s:S3)(k:Nat)(v:Int):S3:=match k with
 | 0=>⟨v,s.b,s.c⟩
 | 1=>⟨s.a,v,s.c⟩
 |_=>⟨s.a,s.b,v⟩
structure Jb where
 s:LI0
 o:LI0
 D:List Dg
 g:LI0
abbrev Jb.ps(J:Jb)(op:PV aC):List (PV aC):=[lI J.s,lI J.o,lDg J.D,lI J.g,op]
def kM(d:Dg)(x c:Int):Bool:=if decide (x>=0)=true then((aj d x).var==c)else false
def L6(d:Dg)(x c g:Int):Int:=if kM d x c=true then(aj d x).ay.getD g.toNat 0 else x
theorem aaw{d:Dg}{x c:Int}(e:decide (x>=0)=false):kM d x c=false:=by unfold kM;rw[e];rfl
theorem a7B{d:Dg}{x c:Int}(e:decide (x>=0)=true):kM d x c=((aj d x).var==c):=by unfold kM;rw[e];rfl
abbrev kU(D:List Dg)(k:Nat):Dg:=D.getD k jf
def jR(D:List Dg)(s:S3)(c:Int):Bool:=!(jP (bC (fun k=>kM (kU D k) (s.get k) c) D.length))
def bJ(D:List Dg)(s:S3)(c g:Int):S3:=aU (fun k y=>y.set k (L6 (kU D k) (y.get k) c g)) D.length 0 s
def fG(D:List Dg):S3:=aU (fun k y=>y.set k (kU D k).root) D.length 0 ⟨0,0,0⟩
theorem three{k n:Nat}(h:k<n)(hn:n<=3):k=0∨k=1∨k=2:=by omega
theorem m3{n:Nat}(h:n<=3):n<=ah:=by unfold ah;omega
section
variable {M f:Nat} {a cc:List (PV aC)} {H:List (PB aC)}
abbrev wAs(J:Jb)(op:PV aC)(H:List (PB aC))(s:S3)(c:Int)(i:Int)(x:List (Nat×PE aC)):aS aC:=⟨[(2,xi c),(4,.loc 1 0),(10,xL 26 J.D),(11,xi J.D.length),(12,xi i)]++x,[J.ps op,s.ps],H⟩
def zAs(J:Jb)(op:PV aC)(H:List (PB aC))(s:S3)(c:Int):Unit⊕Nat->Ex×aS aC
 |.inl _=>(.exit 0,wAs J op H s c J.D.length [(13,xl false)])
 |.inr k=>(.ret,⟨[(6,xl true)],[J.ps op,s.ps,(kU J.D k).ps],H⟩)
theorem lAs(J:Jb)(s:S3)(c:Int)(hD:J.D.length<=3)(hr:∀k,k<J.D.length->decide (s.get k>=0)=true->gW (s.get k) (kU J.D k).au.length):MC M 127 0 H.length (wAs J (.fn f a cc) H s c 0 []) (zAs J (.fn f a cc) H s c (bC (fun k=>kM (kU J.D k) (s.get k) c) J.D.length)).1 (zAs J (.fn f a cc) H s c (bC (fun k=>kM (kU J.D k) (s.get k) c) J.D.length)).2:=by
 refine iK (st:=fun i _=>wAs J (.fn f a cc) H s c i []) (g:=gS (fun k=>kM (kU J.D k) (s.get k) c)) (out:=zAs J (.fn f a cc) H s c) (fun _ _=>True) (by kernel_rfl) (m3 hD) trivial (fun k u m hk _ ih=>?_) (fun _ _=>?_)
 .have h1:=hr k hk;have hg:gS (fun k=>kM (kU J.D k) (s.get k) c) k u=if kM (kU J.D k) (s.get k) c=true then .inr k else .inl u:=rfl
  cases e:decide (s.get k>=0)
  .rw[aaw e,a0c (by simp)]at hg;rw[hg];rcases three hk hD with rfl|rfl|rfl
   all_goals exact aJ fZ (.b (aW hk) (.o (aG hk) (.b e (.nx (ih _ trivial)))))
  rw[a7B e]at hg;rw[hg];rcases three hk hD with rfl|rfl|rfl
  all_goals exact aJ fZ (.b (aW hk) (.o (aG hk) (.b e (.o (h1 e) (.ls (.ou nofun) (.nx (ih _ trivial)))))))
 exact aJ fZ (.b (eH J.D.length) (.ou nofun))
theorem a7C(J:Jb)(s:S3)(c:Int)(hD:J.D.length<=3)(hr:∀k,k<J.D.length->decide (s.get k>=0)=true->gW (s.get k) (kU J.D k).au.length):dD X0 Qp (iy (M+1)) (.fn 127 [] []) [.agg (J.ps (.fn f a cc)),.agg s.ps,.int .i64 c] H (.bool (jR J.D s c)) H:=by
 have lp:=lAs (M:=M) (f:=f) (a:=a) (cc:=cc) (H:=H) J s c hD hr;unfold jR;cases h:jP (bC (fun k=>kM (kU J.D k) (s.get k) c) J.D.length)
 .exact fB fZ (first:=[]) (cap:=[]) (.w (kC lp 0 h) .er)
 exact fB fZ (first:=[]) (cap:=[]) (.w (ku lp () h) .er)
abbrev wAf(J:Jb)(op:PV aC)(H:List (PB aC))(s:S3)(c g:Int)(i:Int)(x:List (Nat×PE aC)):aS aC:=⟨[(2,xi c),(3,xi g),(5,.loc 1 0),(8,.loc 2 0),(12,xL 26 J.D),(13,xi J.D.length),(14,xi i)]++x,[J.ps op,s.ps,[.int .i64 0,.int .i64 0,.int .i64 0]],H⟩
structure a1F(d:Dg)(x c g:Int):Prop where
 n:decide (x>=0)=true->gW x d.au.length
 k:kM d x c=true->gW g (aj d x).ay.length
theorem Jr(J:Jb)(s:S3)(c g:Int)(hD:J.D.length<=3)(hr:∀k,k<J.D.length->a1F (kU J.D k) (s.get k) c g):dD X0 Qp (iy (M+1)) (.fn 129 [] []) [.agg (J.ps (.fn f a cc)),.agg s.ps,.int .i64 c,.int .i64 g] H (.agg (bJ J.D s c g).ps) H:=by
 have lp:MC M 129 0 H.length (wAf J (.fn f a cc) H s c g 0 []) (.exit 0) (wAf J (.fn f a cc) H (bJ J.D s c g) c g J.D.length [(15,xl false)]):=by
  refine rM (σ:=S3) (N:=J.D.length) (g:=fun k y=>y.set k (L6 (kU J.D k) (y.get k) c g)) (s0:=s) (st:=fun i y=>wAf J (.fn f a cc) H y c g i []) (fin:=fun y=>wAf J (.fn f a cc) H y c g J.D.length [(15,xl false)]) (fun j y=>∀k,j<=k->k<J.D.length->y.get k=s.get k) (by kernel_rfl) (m3 hD) (fun _ _ _=>rfl) (fun j y hj hy=>?_) (fun j y hj hy m e p g9=>?_) (fun y _=>?_)
  .intro k hk kN;rw[<-hy k (by omega) kN];rcases three kN hD with rfl|rfl|rfl<;>rcases three hj hD with rfl|rfl|rfl<;>first|rfl|omega
  .have h1:=hr j hj;rw[<-hy j (a0U _) hj]at h1;obtain⟨h1,h2⟩:=h1;unfold L6 at g9;rcases three hj hD with rfl|rfl|rfl
   all_goals
    cases e1:decide (y.get _>=0)
    .unfold kM at g9;rw[e1]at g9;exact aJ fZ (.b (aW hj) (.o (aG hj) (.b e1 (.go g9))))
    .have h3:=h1 e1;cases e2:(aj (kU J.D _) (y.get _)).var==c
     .unfold kM at g9;rw[e1,a0g rfl,e2]at g9;exact aJ fZ (.b (aW hj) (.o (aG hj) (.b e1 (.o h3 (.b e2 (.go g9))))))
     .unfold kM at g9 h2;rw[e1,a0g rfl,e2]at g9 h2;exact aJ fZ (.b (aW hj) (.o (aG hj) (.b e1 (.o h3 (.b e2 (.o h3 (.o (h2 rfl) (.go g9))))))))
  exact aJ fZ (.b (eH J.D.length) .ex)
 exact fB fZ (first:=[]) (cap:=[]) (.w lp .er)
abbrev wSt(J:Jb)(op:PV aC)(H:List (PB aC))(s:S3)(i:Int)(x:List (Nat×PE aC)):aS aC:=⟨[(2,.loc 1 0),(6,xL 26 J.D),(7,xi J.D.length),(8,xi i)]++x,[J.ps op,s.ps],H⟩
theorem ZJ(J:Jb)(hD:J.D.length<=3):dD X0 Qp (iy (M+1)) (.fn 130 [] []) [.agg (J.ps (.fn f a cc))] H (.agg (fG J.D).ps) H:=by
 have lp:MC M 130 0 H.length (wSt J (.fn f a cc) H ⟨0,0,0⟩ 0 []) (.exit 0) (wSt J (.fn f a cc) H (fG J.D) J.D.length [(9,xl false)]):=by
  refine rM (σ:=S3) (N:=J.D.length) (g:=fun k y=>y.set k (kU J.D k).root) (s0:=⟨0,0,0⟩) (st:=fun i y=>wSt J (.fn f a cc) H y i []) (fin:=fun y=>wSt J (.fn f a cc) H y J.D.length [(9,xl false)]) (fun _ _=>True) (by kernel_rfl) (m3 hD) trivial (fun _ _ _ _=>trivial) (fun j y hj _ m e p g9=>?_) (fun y _=>?_)
  .rcases three hj hD with rfl|rfl|rfl
   all_goals exact aJ fZ (.b (aW hj) (.o (aG hj) (.go g9)))
  exact aJ fZ (.b (eH J.D.length) .ex)
 exact fB fZ (first:=[]) (cap:=[]) (.w lp .er)
end
end Go.Proofs.YtmobpoiejckagaaGreat
namespace Pv
open Go Tw
section
variable {X:kJ} {P:LI1}
theorem dD.fzR(hX:bP X P){call:aY}{fv:PV X.Γ}{xs:List (PV X.Γ)}{H H1:List (PB X.Γ)}{v v':PV X.Γ}(hs:dD X P call fv xs H v H1)(is:List Nat)(hv:views H1 [v]=some [v'])(ho:∀i,i∈kP.jX [v]->i∈is):dD X P call fv xs H v' (bf is H1):=by intro A m h tf qU hr hf hx;obtain⟨w,h',ws,m1,k1,k2,k3,k4,k5,k6⟩:=hs A m h tf qU hr hf hx;have hF:=iE (h:=h') is m1;have w1:=(l9 (m':=cu is m1) hX k2 (.cons k3 .nil) hv ho).mono fun b hb=>FA.gone k2 hb;obtain⟨x,r,e,h1,_⟩:=w1.inv;cases e;exact⟨w,h',ws,cu is m1,k1,k2.bf is,h1,k4.trans hF.1,k5.trans hF.2,k6⟩
end
end Pv
namespace Go.Proofs.YtmobpoiejckagaaGreat
open Go Tw Pv bQ
def aV(D:List Dg)(s:S3):List V:=(List.range D.length).map fun k=>pK (kU D k) (s.get k)
def gCe(D:List Dg)(s:S3)(k:Nat)(l:List V):List V:=l++[pK (kU D k) (s.get k)]
theorem a7D(D:List Dg)(s:S3):aU (gCe D s) D.length 0 []=aV D s:=by have:=dU (g:=gCe D s) (m:=D.length) (k:=0) (s:=[]) (fun k l=>l=(List.range k).map fun k=>pK (kU D k) (s.get k)) rfl (fun j l _ _ e=>by rw[gCe,e,abA,a3Z];rfl);rw[a3T]at this;exact this
abbrev wCe(J:Jb)(op:PV aC)(H:List (PB aC))(s:S3)(l:List V)(i:Int)(x:List (Nat×PE aC)):aS aC:=⟨[(3,.loc 1 0),(4,.val (.own H.length)),(8,xL 26 J.D),(9,xi J.D.length),(10,xi i)]++x,[J.ps op,s.ps],H++[.list false false 39 l]⟩
theorem a1G{M f:Nat}(J:Jb)(s:S3)(hD:J.D.length<=3)(hr:∀k,k<J.D.length->gW (jG (s.get k)) (kU J.D k).aO.length):dD X0 Qp (iy (M+1)) (.fn 128 [] []) [.agg (J.ps (.fn f [] [])),.agg s.ps] [] (lV (aV J.D s)) []:=by
 have lp:MC M 128 0 0 (wCe J (.fn f [] []) [] s [] 0 []) (.exit 0) (wCe J (.fn f [] []) [] s (aV J.D s) J.D.length [(11,xl false)]):=by
  rw[<-a7D J.D s];refine rM (σ:=List V) (N:=J.D.length) (g:=gCe J.D s) (s0:=[]) (st:=fun i l=>wCe J (.fn f [] []) [] s l i []) (fin:=fun l=>wCe J (.fn f [] []) [] s l J.D.length [(11,xl false)]) (fun k l=>l.length=k) (by kernel_rfl) (m3 hD) rfl (fun j y hj hy=>by simp[gCe,hy]) (fun j y hj hy m e p g9=>?_) (fun y _=>?_)
  .have h1:=hr j hj;have h2:y.length+[pK (kU J.D j) (s.get j)].length<=ah:=by rw[hy,a3P];exact m3 (by omega)
   rcases three hj hD with rfl|rfl|rfl
   all_goals exact aJ fZ (.b (aW hj) (.o (aG hj) (.o h1 (.o h2 (.goG [.gc [2]] g9)))))
  exact aJ fZ (.b (eH J.D.length) .ex)
 have h0:dD X0 Qp (iy (M+1)) (.fn 128 [] []) [.agg (J.ps (.fn f [] [])),.agg s.ps] [] (.own 0) ([]++[.list false false 39 (aV J.D s)]):=fB fZ (first:=[]) (cap:=[]) (.wG [.Ej 4 39] lp .er);exact dD.cut hX (dD.fzR hX h0 [0] (v':=lV (aV J.D s)) rfl (by decide)) rfl rfl rfl rfl
theorem aax{M f:Nat}{u:Int}(J:Jb)(s:S3)(hD:J.D.length<=3)(hr:∀k,k<J.D.length->gW (jG (s.get k)) (kU J.D k).aO.length):dD X0 Qp (iy (M+1)) (.fn 128 [] []) [.agg (J.ps (.fn f [] [.ptr 0 0 1])),.agg s.ps] [.aF [.int .u8 u]] (lV (aV J.D s)) [.aF [.int .u8 u]]:=by
 have lp:MC M 128 0 1 (wCe J (.fn f [] [.ptr 0 0 1]) [.aF [.int .u8 u]] s [] 0 []) (.exit 0) (wCe J (.fn f [] [.ptr 0 0 1]) [.aF [.int .u8 u]] s (aV J.D s) J.D.length [(11,xl false)]):=by
  rw[<-a7D J.D s];refine rM (σ:=List V) (N:=J.D.length) (g:=gCe J.D s) (s0:=[]) (st:=fun i l=>wCe J (.fn f [] [.ptr 0 0 1]) [.aF [.int .u8 u]] s l i []) (fin:=fun l=>wCe J (.fn f [] [.ptr 0 0 1]) [.aF [.int .u8 u]] s l J.D.length [(11,xl false)]) (fun k l=>l.length=k) (by kernel_rfl) (m3 hD) rfl (fun j y hj hy=>by simp[gCe,hy]) (fun j y hj hy m e p g9=>?_) (fun y _=>?_)
  .have h1:=hr j hj;have h2:y.length+[pK (kU J.D j) (s.get j)].length<=ah:=by rw[hy,a3P];exact m3 (by omega)
   rcases three hj hD with rfl|rfl|rfl
   all_goals exact aJ fZ (.b (aW hj) (.o (aG hj) (.o h1 (.o h2 (.goG [.gc [3]] g9)))))
  exact aJ fZ (.b (eH J.D.length) .ex)
 have h0:dD X0 Qp (iy (M+1)) (.fn 128 [] []) [.agg (J.ps (.fn f [] [.ptr 0 0 1])),.agg s.ps] [.aF [.int .u8 u]] (.own 1) ([.aF [.int .u8 u]]++[.list false false 39 (aV J.D s)]):=fB fZ (first:=[]) (cap:=[]) (.wG [.Ej 4 39] lp .er);exact dD.cut hX (dD.fzR hX h0 [1] (v':=lV (aV J.D s)) rfl (by decide)) rfl rfl rfl rfl
open Go Tw Pv bQ
def S3.l(s:S3):LI0:=[s.a,s.b,s.c]
theorem uSt:Tryz.prog.underlying 148=some (.array 3 3):=by kernel_rfl
theorem akv(a b:S3):aB Qp (Op.equal 148 (.agg (D6 .i64 a.l)) (.agg (D6 .i64 b.l)))=some (decide (a=b)):=by have:=Bq (P:=Qp) 9998 (k:=.i64) (l:=a.l) (l':=b.l) uSt (by kernel_rfl) a3i (by kernel_rfl) rfl rfl;refine Eq.trans this ?_;obtain⟨a1,a2,a3⟩:=a;obtain⟨b1,b2,b3⟩:=b;simp[S3.l]
def kS:oC X0 Qp 148 S3 where
 pv x:=.agg x.ps
 tv x:=.agg [.int .i64 x.a,.int .i64 x.b,.int .i64 x.c]
 v x:=.agg (D6 .i64 x.l)
 hp _:=rfl
 ht _:=rfl
 hc em x:=by kernel_rfl
 hf x l:=aeR uSt akv x l
 hk:=aeS uSt akv
structure Mk where
 e:List V
 n:List Br
 k:List (S3×Int)
def UR(D:List Dg)(f:S3->Mk->Int×Mk)(s:S3)(c:Int)(j:Nat)(y:LI0×Mk):LI0×Mk:=(y.1++[(f (bJ D s c j) y.2).1],(f (bJ D s c j) y.2).2)
def knS(k:List (S3×Int))(s:S3):Int:=((k.find? fun e=>decide (e.1=s)).map (·.2)).getD 0
def jH(J:Jb)(op:List V->V):LI0->S3->Mk->Int×Mk
 | [],s,x=>(i64.wrap (0-((x.e++[op (aV J.D s)]).length:Int)),{ x with e:=x.e++[op (aV J.D s)] })
 |c::r,s,x=>if jR J.D s c=true then(if decide (J.g.getD c.toNat 0>=0)=true then jH J op r (bJ J.D s c (J.g.getD c.toNat 0)) x
   else if s∈x.k.map (·.1)then(knS x.k s,x)
   else
    let y:=aU (UR J.D (jH J op r) s c) (J.s.getD c.toNat 0).toNat 0 ([],x)
    ((y.2.n.length:Int),⟨y.2.e,y.2.n++[⟨c,y.1⟩],y.2.k++[(s,(y.2.n.length:Int))]⟩))
  else jH J op r s x
abbrev I5(k:List (S3×Int)):List (PV aC×PV aC):=kS.es (k.map fun e=>(e.1,.int .i64 e.2))
abbrev pM:List (PV aC):=[.ptr 2 0 5,.ptr 1 0 5,.ptr 3 0 1,.ptr 4 0 1]
abbrev HM0(J:Jb)(f:Nat)(x:Mk):List (PB aC):=[.map (I5 x.k),.cells [lI J.s,lI J.o,.own 5,.own 6,.int .i64 0],.aF (J.ps (.fn f [] [])),.aF [.fn 126 [] pM],.aF [.map 0],PX x.e,PY x.n]
abbrev aay(J:Jb)(f:Nat)(x:Mk):List (PB aC):=[.map (I5 x.k),.cells [lI J.s,lI J.o,.own 7,.own 8,.int .i64 0],.aF (J.ps (.fn f [] [])),.aF [.fn 126 [] pM],.aF [.map 0],.gone,.gone,PX x.e,PY x.n]
abbrev HM1(J:Jb)(f:Nat)(u:Int)(x:Mk):List (PB aC):=[.map (I5 x.k),.cells [lI J.s,lI J.o,.own 6,.own 7,.int .i64 0],.aF (J.ps (.fn f [] [.ptr 5 0 1])),.aF [.fn 126 [] pM],.aF [.map 0],.aF [.int .u8 u],PX x.e,PY x.n]
abbrev aaz(J:Jb)(f:Nat)(u:Int)(x:Mk):List (PB aC):=[.map (I5 x.k),.cells [lI J.s,lI J.o,.own 8,.own 9,.int .i64 0],.aF (J.ps (.fn f [] [.ptr 5 0 1])),.aF [.fn 126 [] pM],.aF [.map 0],.aF [.int .u8 u],.gone,.gone,PX x.e,PY x.n]
open Go Tw Pv bQ
theorem S3.jw{s:S3}{i k:Nat}{v:Int}(hi:i<3)(hk:k<3):(s.set i v).get k=if k=i then v else s.get k:=by
 match i,k,hi,hk with
 | 0,0,_,_=>rfl
 | 0,1,_,_=>rfl
 | 0,2,_,_=>rfl
 | 1,0,_,_=>rfl
 | 1,1,_,_=>rfl
 | 1,2,_,_=>rfl
 | 2,0,_,_=>rfl
 | 2,1,_,_=>rfl
 | 2,2,_,_=>rfl
 |i+3,_,h,_=>omega
 |_,k+3,_,h=>omega
theorem Js{D:List Dg}(hD:D.length<=3)(t:S3)(c g:Int){k:Nat}(hk:k<D.length):(bJ D t c g).get k=L6 (kU D k) (t.get k) c g:=by
 have:=dU (g:=fun k (y:S3)=>y.set k (L6 (kU D k) (y.get k) c g)) (m:=D.length) (k:=0) (s:=t) (fun j y=>∀k,k<D.length->y.get k=if k<j then L6 (kU D k) (t.get k) c g else t.get k) (fun k _=>by rw[a0c (by omega)]) (fun j y _ hj hy k hk=>by
  rw[S3.jw (by omega) (by omega)];by_cases e:k=j
  .subst e;rw[a0g rfl,a0g (by omega),hy k hk,a0c (by omega)]
  rw[a0c e,hy k hk];by_cases e2:k<j
  .rw[a0g e2,a0g (by omega)]
  rw[a0c e2,a0c (by omega)])
 have h:=this k hk;rw[a0g (by omega)]at h;exact h
theorem Du{D:List Dg}{t:S3}{c:Int}:jR D t c=true↔∃k,k<D.length∧kM (kU D k) (t.get k) c=true:=by
 unfold jR;constructor
 .intro h;refine abN fun h2=>?_;have:jP (bC (fun k=>kM (kU D k) (t.get k) c) D.length)=true:=dH.2 fun k hk=>by
   cases e:kM (kU D k) (t.get k) c
   .rfl
   exact absurd ⟨k,hk,e⟩ h2
  rw[this]at h;cases h
 rintro⟨k,hk,h⟩;cases e:jP (bC (fun k=>kM (kU D k) (t.get k) c) D.length)
 .rfl
 have:=dH.1 e k hk;rw[h]at this;cases this
theorem Eb{d:Dg}{x c:Int}:kM d x c=true↔0<=x∧(aj d x).var=c:=by
 unfold kM;split
 .rename_i h;simp at h;simp[h]
 rename_i h;simp at h;simp;omega
structure DJ(J:Jb)(d:Dg):Prop where
 t:BH d
 n:d.au.length<=6000
 s:d.aA=J.s
 o:d.aH=J.o
 rk:∀i,i<d.au.length->∀k,k<(fD d i).ay.length->d.aH.idxOf (fD d i).var+1<=FW d.aH d.au ((fD d i).ay.getD k 0)
 two:∀i,i<d.au.length->2<=(fD d i).ay.length
structure kE(J:Jb):Prop where
 d3:J.D.length<=3
 eF:wH J.s
 ord:kD J.s.length J.o=true
 dg:∀k,k<J.D.length->DJ J (kU J.D k)
 gl:J.g.length=J.s.length
 gv:∀c,gW c J.s.length->0<=J.g.getD c.toNat 0->J.g.getD c.toNat 0<J.s.getD c.toNat 0
def Dp(J:Jb)(a:Nat)(t:S3):Prop:=∀k,k<J.D.length->jq (kU J.D k) (t.get k) (kU J.D k).au.length∧a<=FW J.o (kU J.D k).au (t.get k)
theorem Dp.le{J:Jb}{a b:Nat}{t:S3}(h:Dp J a t)(hb:b<=a):Dp J b t:=fun k hk=>⟨(h k hk).1,by have:=(h k hk).2;omega⟩
section
variable {J:Jb} (hJ:kE J) {a:Nat} {t:S3} {c:Int} {r:LI0}
include hJ
theorem kE.o2:J.o.Nodup∧J.o.length=J.s.length∧∀c∈J.o,gW c J.s.length:=by have ho:=hJ.ord;unfold kD at ho;rw[a1o]at ho;exact⟨ho.2.2,ho.1,fun c hc=>⟨(ho.2.1 c hc).1,(ho.2.1 c hc).2⟩⟩
theorem kE.at_(hr:J.o.drop a=c::r):a<J.o.length∧J.o.getD a 0=c∧J.o.drop (a+1)=r∧c∈J.o∧J.o.idxOf c=a∧gW c J.s.length:=by
 have aT:a<J.o.length:=by have:=congrArg List.length hr;rw[a3X,a4b]at this;omega
 have hd:=a7E aT;rw[hr]at hd;obtain⟨hc,xg⟩:=List.cons.inj hd;have GU:c∈J.o:=by rw[hc];exact a4q aT
 obtain⟨h1,h2,h3⟩:=kE.o2 hJ;exact⟨aT,by rw[hc];simp[List.getD,a0a aT],xg.symm,GU,by rw[hc];exact h1.idxOf_getElem a aT,h3 c GU⟩
theorem ZK(hr:J.o.drop a=c::r)(h:jR J.D t c=true):¬Dp J (a+1) t:=fun hd=>by obtain⟨k,hk,h1⟩:=Du.1 h;obtain⟨x0,hv⟩:=Eb.1 h1;have:=(hd k hk).2;unfold FW at this;rw[a0c (by omega)]at this;have e:((kU J.D k).au.getD (t.get k).toNat ny).var=c:=hv;rw[e,(kE.at_ hJ hr).2.2.2.2.1]at this;omega
theorem a1H(hr:J.o.drop a=c::r)(hd:Dp J a t){k:Nat}(hk:k<J.D.length)(hn:kM (kU J.D k) (t.get k) c=false):a+1<=FW J.o (kU J.D k).au (t.get k):=by
 have h1:=(hd k hk).2;have h2:=kE.at_ hJ hr;by_cases x0:t.get k<0
 .unfold FW;rw[a0g x0];omega
 have iq:((kU J.D k).au.getD (t.get k).toNat ny).var≠c:=fun e=>by have:kM (kU J.D k) (t.get k) c=true:=Eb.2 ⟨by omega,e⟩;rw[hn]at this;cases this
 unfold FW at h1 ⊢;rw[a0c x0]at h1 ⊢;rcases a4d a (J.o.idxOf ((kU J.D k).au.getD (t.get k).toNat ny).var)with h3|h3
 .exact h3
 exfalso;have e:J.o.idxOf ((kU J.D k).au.getD (t.get k).toNat ny).var=a:=by omega
 have aT:J.o.idxOf ((kU J.D k).au.getD (t.get k).toNat ny).var<J.o.length:=by rw[e];exact h2.1
 have g:J.o.getD (J.o.idxOf ((kU J.D k).au.getD (t.get k).toNat ny).var) 0=((kU J.D k).au.getD (t.get k).toNat ny).var:=by rw[List.getD,a0a aT,a4r];exact a8F aT
 rw[e,h2.2.1]at g;exact iq g.symm
theorem UU(hr:J.o.drop a=c::r)(hd:Dp J a t)(h:jR J.D t c=false):Dp J (a+1) t:=fun k hk=>by
 refine⟨(hd k hk).1,a1H hJ hr hd hk ?_⟩;cases e:kM (kU J.D k) (t.get k) c
 .rfl
 .have:=Du.2 ⟨k,hk,e⟩;rw[h]at this;cases this
theorem I7(hd:Dp J a t){k:Nat}(hk:k<J.D.length)(h:kM (kU J.D k) (t.get k) c=true):gW (t.get k) (kU J.D k).au.length∧(aj (kU J.D k) (t.get k)).var=c∧((aj (kU J.D k) (t.get k)).ay.length:Int)=J.s.getD c.toNat 0:=by obtain⟨x0,hv⟩:=Eb.1 h;have hr:gW (t.get k) (kU J.D k).au.length:=⟨x0,(hd k hk).1.1⟩;have hdj:=hJ.dg k hk;have:=hdj.t.ksz (t.get k).toNat (by have:=hr.2;omega);refine⟨hr,hv,?_⟩;have e:(aj (kU J.D k) (t.get k))=fD (kU J.D k) (t.get k).toNat:=rfl;rw[e,this,<-e,hv,hdj.s]
theorem mO(hr:J.o.drop a=c::r)(hd:Dp J a t){j:Int}(hj:0<=j∧j<J.s.getD c.toNat 0):Dp J (a+1) (bJ J.D t c j):=fun k hk=>by
 rw[Js hJ.d3 t c j hk];unfold L6;split
 .rename_i h;obtain⟨h1,h2,h3⟩:=I7 hJ hd hk h;have hdj:=hJ.dg k hk;have aT:(t.get k).toNat<(kU J.D k).au.length:=by have:=h1.1;have:=h1.2;omega
  have JQ:j.toNat<(fD (kU J.D k) (t.get k).toNat).ay.length:=by have h3:((fD (kU J.D k) (t.get k).toNat).ay.length:Int)=J.s.getD c.toNat 0:=h3;omega
  have g1:=hdj.t.Au (t.get k).toNat aT j.toNat JQ;have g2:=hdj.rk (t.get k).toNat aT j.toNat JQ;refine⟨⟨by have:=g1.1;show(fD (kU J.D k) (t.get k).toNat).ay.getD j.toNat 0<_;omega,g1.2⟩,?_⟩;have e:(fD (kU J.D k) (t.get k).toNat).var=c:=h2;rw[hdj.o,e,(kE.at_ hJ hr).2.2.2.2.1]at g2;exact g2
 .rename_i h;exact⟨(hd k hk).1,a1H hJ hr hd hk (by simpa using h)⟩
theorem Jt(hd:Dp J a t){j:Int}(hj:0<=j∧j<J.s.getD c.toNat 0){k:Nat}(hk:k<J.D.length):a1F (kU J.D k) (t.get k) c j:=by refine⟨fun h=>⟨by simpa using h,(hd k hk).1.1⟩,fun h=>?_⟩;have:=(I7 hJ hd hk h).2.2;exact⟨hj.1,by rw[this];exact hj.2⟩
theorem UW(hr:J.o.drop a=c::r)(hd:Dp J a t)(h:jR J.D t c=true):2<=(J.s.getD c.toNat 0).toNat:=by obtain⟨k,hk,h1⟩:=Du.1 h;obtain⟨h2,h3,h4⟩:=I7 hJ hd hk h1;have:=(hJ.dg k hk).two (t.get k).toNat (by have:=h2.1;have:=h2.2;omega);have h4:((fD (kU J.D k) (t.get k).toNat).ay.length:Int)=J.s.getD c.toNat 0:=h4;omega
theorem Ju(hd:Dp J J.o.length t){k:Nat}(hk:k<J.D.length):t.get k<0∧gW (jG (t.get k)) (kU J.D k).aO.length:=by
 have h1:=hd k hk;have:t.get k<0:=by
  refine abN fun h=>?_;have h2:=h1.2;unfold FW at h2;rw[a0c h]at h2;have hdj:=hJ.dg k hk;have aT:(t.get k).toNat<(kU J.D k).au.length:=by have:=h1.1.1;omega
  have hv:=hdj.t.var (t.get k).toNat aT;rw[hdj.s]at hv;have:=a4C.2 (mW hJ.ord hv);have e:(fD (kU J.D k) (t.get k).toNat).var=((kU J.D k).au.getD (t.get k).toNat ny).var:=rfl;rw[e]at this;omega
 exact⟨this,h1.1.2 this⟩
end
open Go Tw Pv bQ
def ov(g q:LI0):LI0:=List.zipWith (fun a b=>if 0<=a then a else b) g q
theorem Py{g q:LI0}{k:Nat}(h:g.length=q.length):(ov g q).getD k 0=if k<g.length then(if 0<=g.getD k 0 then g.getD k 0 else q.getD k 0)else 0:=by
 unfold ov;by_cases hk:k<g.length
 .rw[a0g hk];simp[List.getD,List.getElem?_zipWith,a0a hk,a0a (show k<q.length by omega)]
 rw[a0c hk];simp[List.getD,List.getElem?_zipWith,a4a (show g.length<=k by omega)]
def a7G(J:Jb)(op:List V->V)(q:LI0)(t:S3)(v:V):Prop:=∃l:List V,l.length=J.D.length∧(∀k,k<J.D.length->To (kU J.D k) (ov J.g q) (t.get k) (l.getD k V0))∧v=op l
def Sem(J:Jb)(op:List V->V)(v:Int)(t:S3)(x:EN):Prop:=∀Z:Dg,Z.aO.length<2^61->x.1 <+: Z.aO->x.2 <+: Z.au->∀q,ni J.s q=true->∃u,To Z q v u∧a7G J op q t u
theorem Sem.mono{J:Jb}{op:List V->V}{v:Int}{t:S3}{x y:EN}(h:Sem J op v t x)(hp:ZE x y):Sem J op v t y:=fun Z hZ h1 h2=>h Z hZ (hp.1.trans h1) (hp.2.trans h2)
abbrev Mk.en(x:Mk):EN:=(x.e,x.n)
def Pz(v:V):Prop:=vOk v=true∧0<=v.f
structure XOk(J:Jb)(op:List V->V)(x:Mk):Prop where
 v:PtV J.s J.o x.en
 k:∀e∈x.k,gW e.2 x.n.length∧jR J.D e.1 (x.n.getD e.2.toNat ny).var=true∧Sem J op e.2 e.1 x.en
 nd:(x.k.map (·.1)).Nodup
 e:∀v∈x.e,Pz v
 w:∀b∈x.n,∀v∈b.ay,KY v
structure a3B(J:Jb)(op:List V->V)(a:Nat)(w:Nat)(t:S3)(x:Mk)(z:Int×Mk):Prop where
 pre:ZE x.en z.2.en
 el:z.2.e.length<=x.e.length+w
 nl:z.2.n.length+1<=x.n.length+w
 ok:XOk J op z.2
 rf:Po J.o z.2.en z.1 z.2.n.length a
 sm:Sem J op z.1 t z.2.en
 ks:∀e∈z.2.k,e∈x.k∨Dp J a e.1
 w:KY z.1
theorem XOk.mono{J:Jb}{op:List V->V}{x:Mk}{e:List V}(h:XOk J op x)(hp:x.e <+: e)(he:∀v∈e,Pz v):XOk J op { x with e:=e }:=by have hq:ZE x.en (e,x.n):=⟨hp,a5P⟩;exact⟨⟨h.v.var,h.v.ksz,fun i hi k hk=>(h.v.Au i hi k hk).mono hq (a0U _) (aaG hi) (a0U _)⟩,fun e he=>⟨(h.k e he).1,(h.k e he).2.1,(h.k e he).2.2.mono hq⟩,h.nd,he,h.w⟩
theorem PD{J:Jb}(hJ:kE J){op:List V->V}{q:LI0}{t:S3}{a:Nat}(hd:Dp J a t){c j:Int}{u:V}(hj:(ov J.g q).getD c.toNat 0=j)(h:a7G J op q (bJ J.D t c j) u):a7G J op q t u:=by
 obtain⟨l,h1,h2,h3⟩:=h;refine⟨l,h1,fun k hk=>?_,h3⟩;have h4:=h2 k hk;rw[Js hJ.d3 t c j hk]at h4;unfold L6 at h4;split at h4
 .rename_i h5;obtain⟨h6,h7,_⟩:=I7 hJ hd hk h5;refine .step h6.1 ?_;rw[h7,hj];exact h4
 exact h4
def wR(J:Jb)(op:List V->V):Prop:=∀t,Dp J J.o.length t->Pz (op (aV J.D t))
theorem aaA{J:Jb}(hJ:kE J)(op:List V->V)(kH:wR J op){t:S3}{x:Mk}(hd:Dp J J.o.length t)(hx:XOk J op x)(hb:x.e.length+1<=2^60):a3B J op J.o.length 1 t x (jH J op [] t x):=by
 have e0:i64.wrap (0-((x.e++[op (aV J.D t)]).length:Int))=-1-(x.e.length:Int):=by rw[a1I,a3P,fK (by omega) (by omega)];omega
 obtain⟨_,e2⟩:=a7q (k:=x.e.length) (by omega);have hp:x.e <+: x.e++[op (aV J.D t)]:=a94 _ _;show a3B J op J.o.length 1 t x (i64.wrap (0-((x.e++[op (aV J.D t)]).length:Int)),_);rw[e0];refine⟨⟨hp,a5P⟩,by simp,a0U _,hx.mono hp (fun v hv=>by rcases a3k.1 hv with hv|hv;exact hx.e v hv;rw[a2p.1 hv];exact kH t hd),⟨fun _=>?_,?_,?_⟩,fun Z hZ g1 g2 q hq=>?_,fun e he=>.inl he,⟨by show _<=-1-(x.e.length:Int);omega,by show -1-(x.e.length:Int)<_;omega⟩⟩
 .rw[e2];exact⟨by omega,by simp;omega⟩
 .show -1-(x.e.length:Int)<_;omega
 .unfold FW;rw[a0g (by show -1-(x.e.length:Int)<0;omega)];exact a0U _
 have h1:=To.fin (d:=Z) (q:=q) (r:=-1-(x.e.length:Int)) (by omega);rw[e2,a6t]at h1;have g1:x.e++[op (aV J.D t)] <+: Z.aO:=g1;have e3:Z.aO.getD x.e.length V0=op (aV J.D t):=by rw[Pn g1 (by simp)];simp[List.getD]
 rw[e3]at h1;refine⟨_,h1,aV J.D t,by simp[aV],fun k hk=>?_,rfl⟩;have h2:=Ju hJ hd hk;have e4:(aV J.D t).getD k V0=pK (kU J.D k) (t.get k):=by simp[aV,List.getD,hk]
 rw[e4];exact .fin h2.1
theorem Dv{α:Type}{l:List α}{a:α}(h:l.Nodup)(ha:a∉l):(l++[a]).Nodup:=by rw[a8H];exact⟨h,by simp,fun x hx y hy e=>by simp at hy;subst hy;subst e;exact ha hx⟩
theorem Jv{α:Type}{l:List α}{x d:α}{j:Nat}:(l++[x]).getD j d=if j<l.length then l.getD j d else if j=l.length then x else d:=by
 split
 .rename_i h;simp[List.getD,a0b h]
 rename_i h;split
 .rename_i h2;subst h2;simp[List.getD]
 rename_i h2;rw[List.getD,a4a (by simp;omega)];rfl
theorem SX{J:Jb}(hJ:kE J)(op:List V->V)(kH:wR J op):∀(r:LI0) (a:Nat) (t:S3) (x:Mk),J.o.drop a=r->a<=J.o.length->Dp J a t->XOk J op x->x.e.length+wO J.s r<=2^60->x.n.length+wO J.s r<=2^60->a3B J op a (wO J.s r) t x (jH J op r t x)
 | [],a,t,x,hr,ha,hd,hx,hb,xM=>by
  have:a=J.o.length:=by have:=congrArg List.length hr;rw[a3X,a4Q]at this;omega
  subst this;exact aaA hJ op kH hd hx hb
 |c::r,a,t,x,hr,ha,hd,hx,hb,xM=>by
  obtain⟨aT,hoc,xg,GU,hci,rZ⟩:=kE.at_ hJ hr;have hz:=hJ.eF.sz _ (eu (s:=J.s) (k:=c.toNat) (by have:=rZ.1;have:=rZ.2;omega));have hri:∀c'∈r,gW c' J.s.length:=fun c' h=>(kE.o2 hJ).2.2 c' (by rw[<-xg]at h;exact a5s h);have hw:=UQ hJ.eF.sz hri;have hw1:wO J.s r<=(J.s.getD c.toNat 0).toNat*wO J.s r:=ady _ (by omega);simp only[wO]at hb xM ⊢;have up:∀{t':S3} {z:Int×Mk},a3B J op (a+1) (wO J.s r) t' x z->(∀q u,ni J.s q=true->a7G J op q t' u->a7G J op q t u)->a3B J op a ((J.s.getD c.toNat 0).toNat*wO J.s r) t x z:=fun{t' z} h hs=>
   ⟨h.pre,by have:=h.el;omega,by have:=h.nl;omega,h.ok,h.rf.mono ZE.rfl (a0U _) (a0U _) (by omega),fun Z hZ g1 g2 q hq=>let ⟨u,u1,u2⟩:=h.sm Z hZ g1 g2 q hq;⟨u,u1,hs q u hq u2⟩,fun e he=>(h.ks e he).imp id fun h=>h.le (by omega),h.w⟩
  unfold jH;cases AB:jR J.D t c
  .rw[a0c (by simp)];exact up (SX hJ op kH r (a+1) t x xg aT (UU hJ hr hd AB) hx (by omega) (by omega)) fun _ _ _ h=>h
  rw[a0g rfl];by_cases hg:J.g.getD c.toNat 0>=0
  .rw[a0g (by simpa using hg)];refine up (SX hJ op kH r (a+1) _ x xg aT (mO hJ hr hd ⟨hg,hJ.gv c rZ hg⟩) hx (by omega) (by omega)) fun q u hq h=>PD hJ hd ?_ h;rw[Py (by rw[hJ.gl,zq hq]),a0g (by rw[hJ.gl];have:=rZ.1;have:=rZ.2;omega),a0g hg]
  rw[a0c (by simpa using hg)];by_cases hk:t∈x.k.map (·.1)
  .rw[a0g hk];obtain⟨e,he,rfl⟩:=a1g.1 hk;have hkn:knS x.k e.1=e.2:=by
    have:x.k.find? (fun y=>decide (y.1=e.1))=some e:=by
     have jy:=hx.nd;clear hb up hk AB hd;generalize x.k=l at he jy
     induction l with
     |nil=>cases he
     |cons y l ih=>
      rw[agN];rcases a2d.1 he with rfl|he
      .simp
      have:¬y.1=e.1:=fun h=>by rw[a4c,a4k]at jy;exact jy.1 (a1g.2 ⟨e,he,h.symm⟩)
      rw[ae9 this];rw[a4c,a4k]at jy;exact ih he jy.2
    unfold knS;rw[this];rfl
   rw[hkn];obtain⟨k1,k2,k3⟩:=hx.k e he;have hmul:2*1<=(J.s.getD c.toNat 0).toNat*wO J.s r:=agU (UW hJ hr hd AB) hw;refine⟨ZE.rfl,by show x.e.length<=_;omega,by show x.n.length+1<=_;omega,hx,⟨fun h=>by have:=k1.1;show gW _ _;exact absurd h (by omega),k1.2,?_⟩,k3,fun _ h=>.inl h,⟨by have:=k1.1;show _<=e.2;omega,by have:=k1.2;show e.2<_;omega⟩⟩;obtain⟨k,hk,h1⟩:=Du.1 k2;obtain⟨x0,hv⟩:=Eb.1 h1;have h2:=(hd k hk).2;unfold FW at h2 ⊢;rw[a0c (by omega)]at h2;have k10:=k1.1;rw[a0c (show ¬e.2<0 by omega)];have hv:((kU J.D k).au.getD (e.1.get k).toNat ny).var=(x.n.getD e.2.toNat ny).var:=hv;rw[hv]at h2;exact h2
  rw[a0c hk];have hm2:=UW hJ hr hd AB;have Yf:∀j,j<(J.s.getD c.toNat 0).toNat->j*wO J.s r+wO J.s r<=(J.s.getD c.toNat 0).toNat*wO J.s r:=fun j hj=>by have:(j+1)*wO J.s r<=(J.s.getD c.toNat 0).toNat*wO J.s r:=a3l _ hj;rw[a3m]at this;omega
  have inv:=dU (g:=UR J.D (jH J op r) t c) (m:=(J.s.getD c.toNat 0).toNat) (k:=0) (s:=([],x)) (fun k y=>y.1.length=k∧ZE x.en y.2.en∧y.2.e.length<=x.e.length+k*wO J.s r∧y.2.n.length+k<=x.n.length+k*wO J.s r∧XOk J op y.2∧(∀e∈y.2.k,e∈x.k∨Dp J (a+1) e.1)∧(∀v∈y.1,KY v)∧∀j:Nat,j<k->Po J.o y.2.en (y.1.getD j 0) y.2.n.length (a+1)∧Sem J op (y.1.getD j 0) (bJ J.D t c j) y.2.en)
   ⟨rfl,ZE.rfl,by simp,by simp,hx,fun _ h=>.inl h,(fun v hv=>by cases hv),fun j hj=>by omega⟩ (fun j y _ hj hy=>by
    obtain⟨y1,y2,y3,y4,y5,y6,y8,y7⟩:=hy;have Yf:=Yf j (by omega);have h:=SX hJ op kH r (a+1) (bJ J.D t c j) y.2 xg aT (mO hJ hr hd ⟨by omega,by omega⟩) y5 (by omega) (by omega);refine⟨by simp[UR,y1],y2.trans h.pre,?_,?_,h.ok,fun e he=>?_,fun v hv=>?_,fun j' Eu=>?_⟩
    .have:=h.el;show(jH J op r (bJ J.D t c j) y.2).2.e.length<=_;rw[a3m];omega
    .have:=h.nl;show(jH J op r (bJ J.D t c j) y.2).2.n.length+_<=_;rw[a3m];omega
    .rcases h.ks e he with h1|h1
     .exact y6 e h1
     .exact .inr h1
    .have hv:v∈y.1++[(jH J op r (bJ J.D t c j) y.2).1]:=hv;rcases a3k.1 hv with hv|hv
     .exact y8 v hv
     .rw[a2p.1 hv];exact h.w
    .have e1:(UR J.D (jH J op r) t c j y).1.getD j' 0=if j'<j then y.1.getD j' 0 else(jH J op r (bJ J.D t c j) y.2).1:=by
      show(y.1++[_]).getD j' 0=_;rw[Jv,y1];split
      .rfl
      .rw[a0g (by omega)]
     rw[e1];by_cases e:j'<j
     .rw[a0g e];obtain⟨a1,a2⟩:=y7 j' e;exact⟨a1.mono h.pre h.pre.2.length_le (a0U _) (a0U _),a2.mono h.pre⟩
     .rw[a0c e];have e:j'=j:=(by omega);subst e;exact⟨h.rf,h.sm⟩)
  rw[a3T]at inv;simp only[];generalize aU (UR J.D (jH J op r) t c) (J.s.getD c.toNat 0).toNat 0 ([],x)=y at inv;obtain⟨ks,m⟩:=y;obtain⟨y1,y2,y3,y4,y5,y6,y8,y7⟩:=inv;have y1:ks.length=(J.s.getD c.toNat 0).toNat:=y1;have hp:ZE m.en (m.e,m.n++[(⟨c,ks⟩:Br)]):=⟨a5P,a94 _ _⟩;have gV:(m.n++[(⟨c,ks⟩:Br)]).getD m.n.length ny=⟨c,ks⟩:=by simp[List.getD]
  have a4P:Sem J op (m.n.length:Int) t (m.e,m.n++[(⟨c,ks⟩:Br)]):=fun Z hZ g1 g2 q hq=>by
   have g2:m.n++[(⟨c,ks⟩:Br)] <+: Z.au:=g2;have Yp:=(wI.1 hq).2 c.toNat (by have:=rZ.1;have:=rZ.2;omega);have hj:(q.getD c.toNat 0).toNat<(J.s.getD c.toNat 0).toNat:=(by omega);obtain⟨u,u1,u2⟩:=(y7 _ hj).2 Z hZ g1 ((a94 _ _).trans g2) q hq;have en:aj Z (m.n.length:Int)=⟨c,ks⟩:=by show Z.au.getD (m.n.length:Int).toNat ny=_;rw[a6t,Pn g2 (by simp),gV]
   refine⟨u,.step (by omega) (by rw[en];exact u1),PD hJ hd ?_ u2⟩;rw[Py (by rw[hJ.gl,zq hq]),a0g (by rw[hJ.gl];have:=rZ.1;have:=rZ.2;omega),a0c (by omega)];omega
  have hv2:PtV J.s J.o (m.e,m.n++[(⟨c,ks⟩:Br)]):=by
   have hg:∀i,i<(m.n++[(⟨c,ks⟩:Br)]).length->(i<m.n.length∧(m.n++[(⟨c,ks⟩:Br)]).getD i ny=m.n.getD i ny)∨(i=m.n.length∧(m.n++[(⟨c,ks⟩:Br)]).getD i ny=⟨c,ks⟩):=fun i hi=>by
    simp only[a1I,a3P]at hi;rcases a4d i m.n.length with h|h
    .exact .inl ⟨h,by rw[Jv,a0g h]⟩
    exact .inr ⟨by omega,by rw[show i=m.n.length by omega,gV]⟩
   refine⟨fun i hi=>?_,fun i hi=>?_,fun i hi k hk=>?_⟩
   .rcases hg i hi with⟨h1,h2⟩|⟨h1,h2⟩
    .show gW ((m.n++[_]).getD i ny).var _;rw[h2];exact y5.v.var i h1
    show gW ((m.n++[_]).getD i ny).var _;rw[h2];exact rZ
   .rcases hg i hi with⟨h1,h2⟩|⟨h1,h2⟩
    .show(((m.n++[_]).getD i ny).ay.length:Int)=J.s.getD ((m.n++[_]).getD i ny).var.toNat 0;rw[h2];exact y5.v.ksz i h1
    show(((m.n++[_]).getD i ny).ay.length:Int)=J.s.getD ((m.n++[_]).getD i ny).var.toNat 0;rw[h2];show(ks.length:Int)=J.s.getD c.toNat 0;omega
   rcases hg i hi with⟨h1,h2⟩|⟨h1,h2⟩
   .have hk:k<((m.n++[(⟨c,ks⟩:Br)]).getD i ny).ay.length:=hk;show Po J.o _ (((m.n++[(⟨c,ks⟩:Br)]).getD i ny).ay.getD k 0) i (J.o.idxOf ((m.n++[(⟨c,ks⟩:Br)]).getD i ny).var+1);rw[h2]at hk ⊢;exact(y5.v.Au i h1 k hk).mono hp (a0U _) (aaG h1) (a0U _)
   have hk:k<((m.n++[(⟨c,ks⟩:Br)]).getD i ny).ay.length:=hk;show Po J.o _ (((m.n++[(⟨c,ks⟩:Br)]).getD i ny).ay.getD k 0) i (J.o.idxOf ((m.n++[(⟨c,ks⟩:Br)]).getD i ny).var+1);rw[h2]at hk ⊢;have hk:k<ks.length:=hk;subst h1;show Po J.o _ (ks.getD k 0) m.n.length (J.o.idxOf c+1);rw[hci];exact(y7 k (by omega)).1.mono hp (a0U _) (a0U _) (a0U _)
  have y5:XOk J op m:=y5;have y6:∀e∈m.k,e∈x.k∨Dp J (a+1) e.1:=y6;refine⟨y2.trans hp,y3,?_,⟨hv2,fun e he=>?_,?_,y5.e,fun b hb=>?_⟩,⟨fun h=>?_,?_,?_⟩,a4P,fun e he=>?_,⟨by show _<=(m.n.length:Int);omega,by have y4:m.n.length+_<=x.n.length+_:=y4;show(m.n.length:Int)<_;omega⟩⟩
  .show(m.n++[_]).length+1<=_;rw[a1I,a3P];have y4:m.n.length+(J.s.getD c.toNat 0).toNat<=x.n.length+(J.s.getD c.toNat 0).toNat*wO J.s r:=y4;omega
  .rcases a3k.1 he with he|he
   .obtain⟨k1,k2,k3⟩:=y5.k e he;have aT:e.2.toNat<m.n.length:=by have:=k1.1;have:=k1.2;omega
    refine⟨⟨k1.1,?_⟩,?_,k3.mono hp⟩
    .have:=k1.2;show e.2<((m.n++[_]).length:Int);rw[a1I];omega
    show jR J.D e.1 ((m.n++[_]).getD e.2.toNat ny).var=true;rw[Jv,a0g aT];exact k2
   rw[a2p.1 he];refine⟨⟨by omega,by show(m.n.length:Int)<((m.n++[_]).length:Int);rw[a1I,a3P];omega⟩,?_,a4P⟩;show jR J.D t ((m.n++[_]).getD (m.n.length:Int).toNat ny).var=true;rw[a6t,gV];exact AB
  .rw[a3Z];refine Dv y5.nd fun h=>?_;obtain⟨e,he,e2⟩:=a1g.1 h;rcases y6 e he with h1|h1
   .exact hk (a1g.2 ⟨e,h1,e2⟩)
   rw[e2]at h1;exact ZK hJ hr AB h1
  .have hb:b∈m.n++[(⟨c,ks⟩:Br)]:=hb;rcases a3k.1 hb with hb|hb
   .exact y5.w b hb
   rw[a2p.1 hb];exact y8
  .exact absurd h (by show ¬((m.n.length:Int)<0);omega)
  .show(m.n.length:Int)<((m.n++[_]).length:Int);rw[a1I,a3P];omega
  .show a<=FW J.o (m.n++[_]) (m.n.length:Int);unfold FW;rw[a0c (by omega),a6t,gV];show a<=J.o.idxOf c;omega
  rcases a3k.1 he with he|he
  .rcases y6 e he with h1|h1
   .exact .inl h1
   exact .inr (h1.le (by omega))
  rw[a2p.1 he];exact .inr hd
open Go Tw Pv bQ
def pO(J:Jb)(op:List V->V):Dg:=⟨J.s,J.o,(jH J op J.o (fG J.D) ⟨[],[],[]⟩).2.e,(jH J op J.o (fG J.D) ⟨[],[],[]⟩).2.n,(jH J op J.o (fG J.D) ⟨[],[],[]⟩).1⟩
def Jw(J:Jb)(op:List V->V):Dg:=(zF (pO J op)).1
theorem zG{D:List Dg}(hD:D.length<=3){k:Nat}(hk:k<D.length):(fG D).get k=(kU D k).root:=by
 have:=dU (g:=fun k (y:S3)=>y.set k (kU D k).root) (m:=D.length) (k:=0) (s:=⟨0,0,0⟩) (fun j y=>∀k,k<j->y.get k=(kU D k).root) (fun k hk=>by omega) (fun j y _ hj hy k hk=>by
  rw[S3.jw (by omega) (by omega)];by_cases e:k=j
  .rw[a0g e,e]
  rw[a0c e];exact hy k (by omega))
 exact this k (by omega)
theorem a7H{J:Jb}(hJ:kE J){op:List V->V}(kH:wR J op):a3B J op 0 (wO J.s J.o) (fG J.D) ⟨[],[],[]⟩ (jH J op J.o (fG J.D) ⟨[],[],[]⟩):=by have hw:=Pj hJ.eF.sz hJ.ord;have hm:=hJ.eF.many;refine SX hJ op kH J.o 0 (fG J.D) ⟨[],[],[]⟩ (aag) (a4E _) (fun k hk=>?_) ⟨⟨fun i hi=>(by simp at hi),fun i hi=>(by simp at hi),fun i hi=>(by simp at hi)⟩,fun e he=>(by cases he),a5O,fun v hv=>(by cases hv),fun b hb=>(by cases hb)⟩ (by show 0+wO J.s J.o<=_;omega) (by show 0+wO J.s J.o<=_;omega);rw[zG hJ.d3 hk];exact⟨(hJ.dg k hk).t.root,a4E _⟩
theorem Jy{J:Jb}(hJ:kE J){op:List V->V}(kH:wR J op):bG (pO J op)=0∧(pO J op).aO.length<=2000∧∀v∈(pO J op).aO,Pz v:=by have h:=a7H hJ kH;have hw:=Pj hJ.eF.sz hJ.ord;have hm:=hJ.eF.many;have h1:(pO J op).aO.length<=0+wO J.s J.o:=h.el;have h2:(pO J op).au.length+1<=0+wO J.s J.o:=h.nl;refine⟨a3x (by unfold ah;omega) ?_ (fun v hv=>(h.ok.e v hv).1) (by omega) h.ok.v h.rf,by omega,h.ok.e⟩;have:dh J.s J.o=0:=mF.2 ⟨hJ.eF,hJ.ord⟩;show(dh J.s J.o != 0)=false;rw[this];rfl
theorem a7I{J:Jb}(hJ:kE J){op:List V->V}(kH:wR J op):KD (pO J op):=by have h:=a7H hJ kH;exact⟨fun i hi k hk=>h.ok.w _ (Xz hi) _ (eu hk),h.w,fun v hv=>(h.ok.e v hv).2⟩
theorem XT{J:Jb}(hJ:kE J){op:List V->V}(kH:wR J op):bF (pO J op)=(yJ (pO J op),0)∧Jw J op=afx J.s J.o (cellsD (pO J op)):=by
 obtain⟨h1,h2,h3⟩:=Jy hJ kH;have hr:=a7I hJ kH;have ho:=(kE.o2 hJ).2.1;have hl:=hJ.eF.len;have e:=Jp hr (by unfold ah;omega);rw[h1]at e;have hf:¬(dh (pO J op).aA (pO J op).aH != 0)=true:=by have:dh J.s J.o=0:=mF.2 ⟨hJ.eF,hJ.ord⟩;show ¬(dh J.s J.o != 0)=true;rw[this];simp
 rw[a0c hf]at e;refine⟨e,?_⟩;unfold Jw zF;rw[e];show fA (pO J op)=_;exact(a7u h1 (by show J.o.length<=ah;unfold ah;omega) (by unfold ah;omega)).1
open Go Tw Pv bQ
def AL(J:Jb)(c:Int):LI0:=if decide (J.g.getD c.toNat 0>=0)=true then [J.g.getD c.toNat 0]else(List.range (J.s.getD c.toNat 0).toNat).map fun(j:Nat)=>(j:Int)
def xC(J:Jb)(ψ:S3->Int):LI0->S3->Int
 | [],t=>ψ t
 |c::r,t=>dS (fun j=>xC J ψ r (bJ J.D t c j)) (AL J c)
theorem zH{α β:Type}[DecidableEq α][DecidableEq β](φ:β->Int)(f:α->β):∀l:List α,dS φ (l.map f)=dS (fun a=>φ (f a)) l
 | []=>rfl
 |a::l=>by simp only[a4c,dS,zH φ f l]
theorem qj{α:Type}[DecidableEq α]{φ φ':α->Int}:∀{l:List α},(∀a∈l,φ a=φ' a)->dS φ l=dS φ' l
 | [],_=>rfl
 |a::l,h=>by rw[dS,dS,h a (by simp),qj fun b hb=>h b (by simp[hb])]
theorem SY{α β:Type}[DecidableEq α][DecidableEq β](φ:β->Int)(f:α->List β):∀l:List α,dS φ (l.flatMap f)=dS (fun a=>dS φ (f a)) l
 | []=>rfl
 |a::l=>by rw[List.flatMap_cons,Hl,dS,SY φ f l]
theorem AO{α:Type}[DecidableEq α](x:Int):∀l:List α,dS (fun _=>x) l=l.length*x
 | []=>by simp[dS]
 |a::l=>by rw[dS,AO x l,a4b,Int.natCast_add,agV];omega
theorem S3.aaC(s:S3)(k:Nat):s.set k (s.get k)=s:=by
 match k with
 | 0=>rfl
 | 1=>rfl
 |k+2=>rfl
theorem a7J{D:List Dg}{t:S3}{c:Int}(h:jR D t c=false)(g:Int):bJ D t c g=t:=by
 have hk:∀k,k<D.length->kM (kU D k) (t.get k) c=false:=fun k hk=>by
  cases e:kM (kU D k) (t.get k) c
  .rfl
  have:=Du.2 ⟨k,hk,e⟩;rw[h]at this;cases this
 exact dU (g:=fun k (y:S3)=>y.set k (L6 (kU D k) (y.get k) c g)) (m:=D.length) (k:=0) (s:=t) (fun _ y=>y=t) rfl (fun j y _ hj hy=>by subst hy;show y.set j (L6 (kU D j) (y.get j) c g)=y;unfold L6;rw[hk j (by omega),a0c (by simp)];exact S3.aaC y j)
theorem a3C{J:Jb}{ψ:S3->Int}{c:Int}{r:LI0}{t:S3}(h:decide (J.g.getD c.toNat 0>=0)=true):xC J ψ (c::r) t=xC J ψ r (bJ J.D t c (J.g.getD c.toNat 0)):=by rw[xC,AL,a0g h];simp[dS]
theorem afC{J:Jb}{ψ:S3->Int}{c:Int}{r:LI0}{t:S3}(h:¬decide (J.g.getD c.toNat 0>=0)=true)(ha:jR J.D t c=false):xC J ψ (c::r) t=((J.s.getD c.toNat 0).toNat:Int)*xC J ψ r t:=by rw[xC,AL,a0c h,zH,qj (φ':=fun _=>xC J ψ r t) (fun a _=>by rw[a7J ha]),AO,a8D]
theorem aaD{J:Jb}{ψ:S3->Int}{c:Int}{r:LI0}{t:S3}(h:¬decide (J.g.getD c.toNat 0>=0)=true):xC J ψ (c::r) t=dS (fun(j:Nat)=>xC J ψ r (bJ J.D t c j)) (List.range (J.s.getD c.toNat 0).toNat):=by rw[xC,AL,a0c h,zH]
def zN(J:Jb):LI0->Nat
 | []=>1
 |c::r=>(AL J c).length*zN J r
theorem Ec{J:Jb}:∀(r:LI0) (t:S3),xC J (fun _=>1) r t=(zN J r:Int)
 | [],_=>rfl
 |c::r,t=>by rw[xC,qj (φ':=fun _=>(zN J r:Int)) (fun a _=>Ec r _),AO,zN,adT]
section
variable {J:Jb} (hJ:kE J)
include hJ
theorem XU{c:Int}(hc:gW c J.s.length){j:Int}:j∈AL J c↔(0<=j∧j<J.s.getD c.toNat 0)∧(0<=J.g.getD c.toNat 0->J.g.getD c.toNat 0=j):=by
 unfold AL;split
 .rename_i h;have h:J.g.getD c.toNat 0>=0:=by simpa using h
  have:=hJ.gv c hc h;rw[a2p];constructor
  .rintro rfl;exact⟨⟨h,this⟩,fun _=>rfl⟩
  exact fun h2=>(h2.2 h).symm
 rename_i h;have h:¬J.g.getD c.toNat 0>=0:=by simpa using h
 rw[a1g];constructor
 .rintro⟨k,h1,rfl⟩;rw[a4i]at h1;exact⟨⟨by omega,by omega⟩,fun h2=>absurd h2 h⟩
 rintro⟨h1,_⟩;exact⟨j.toNat,a4i.2 (by omega),by omega⟩
theorem a7K{c:Int}(hc:gW c J.s.length):1<=(AL J c).length∧(AL J c).length<=(J.s.getD c.toNat 0).toNat:=by
 have hz:=hJ.eF.sz _ (eu (s:=J.s) (k:=c.toNat) (by have:=hc.1;have:=hc.2;omega));unfold AL;split
 .exact⟨a0U _,by show 1<=_;omega⟩
 rw[a4h,a8D];exact⟨by omega,a0U _⟩
theorem Jz:∀{r:LI0},(∀c∈r,gW c J.s.length)->1<=zN J r∧zN J r<=wO J.s r
 | [],_=>⟨a0U _,a0U _⟩
 |c::r,h=>by obtain⟨h1,h2⟩:=a7K hJ (h c (by simp));obtain⟨h3,h4⟩:=Jz (r:=r) fun c hc=>h c (by simp[hc]);exact⟨agU h1 h3,agU h2 h4⟩
end
def plc(J:Jb):LI0->LI0->List LI0
 | [],q=>[q]
 |c::r,q=>(AL J c).flatMap fun j=>plc J r (q.set c.toNat j)
def UY(D:List Dg)(q:LI0):LI0->S3->S3
 | [],t=>t
 |c::r,t=>UY D q r (bJ D t c (q.getD c.toNat 0))
theorem zI{q:LI0}{i k:Nat}{v:Int}:(q.set i v).getD k 0=if k=i∧i<q.length then v else q.getD k 0:=by
 simp only[List.getD,a9q];by_cases h:i=k
 .subst h;by_cases h2:i<q.length
  .simp[h2]
  simp[h2,a4a (show q.length<=i by omega)]
 rw[a0c (fun e:k=i∧i<q.length=>h e.1.symm)];simp[h]
theorem MJ{J:Jb}:∀{r q q':LI0},q'∈plc J r q->q'.length=q.length∧∀k,k∉r.map Int.toNat->q'.getD k 0=q.getD k 0
 | [],q,q',h=>by rw[plc,a2p]at h;subst h;exact⟨rfl,fun _ _=>rfl⟩
 |c::r,q,q',h=>by rw[plc,adF]at h;obtain⟨j,_,h2⟩:=h;obtain⟨h3,h4⟩:=MJ h2;refine⟨by rw[h3,a4n],fun k hk=>?_⟩;rw[a4c,a2d,adl]at hk;rw[h4 k hk.2,zI,a0c (fun h=>hk.1 h.1)]
section
variable {J:Jb} {n:Nat}
structure ZL(n:Nat)(r:LI0):Prop where
 nd:r.Nodup
 mem:∀c∈r,gW c n
theorem ZL.tail{c:Int}{r:LI0}(h:ZL n (c::r)):ZL n r∧c.toNat∉r.map Int.toNat∧gW c n:=by
 have h1:=a4k.1 h.nd;have hc:=h.mem c (by simp);refine⟨⟨h1.2,fun c hc=>h.mem c (by simp[hc])⟩,fun h2=>?_,hc⟩;obtain⟨d,h3,h4⟩:=a1g.1 h2;have hd:=h.mem d (by simp[h3]);have:d=c:=by have:=hc.1;have:=hd.1;omega
 exact h1.1 (this▸h3)
theorem a1J(ψ:S3->Int):∀{r:LI0} (q:LI0) (t:S3),ZL q.length r->xC J ψ r t=dS (fun q'=>ψ (UY J.D q' r t)) (plc J r q)
 | [],q,t,_=>by simp[xC,plc,UY,dS]
 |c::r,q,t,ho=>by obtain⟨h1,h2,h3⟩:=ho.tail;rw[xC,plc,SY];refine qj fun j _=>?_;rw[a1J ψ (q.set c.toNat j) _ (by rw[a4n];exact h1)];refine qj fun q' hq=>?_;rw[UY,(MJ hq).2 _ h2,zI,a0g ⟨rfl,by have:=h3.1;have:=h3.2;omega⟩]
theorem UZ:∀{r q q':LI0},ZL q.length r->(q'∈plc J r q↔q'.length=q.length∧(∀k,k∉r.map Int.toNat->q'.getD k 0=q.getD k 0)∧∀c∈r,q'.getD c.toNat 0∈AL J c)
 | [],q,q',_=>by
  rw[plc,a2p];constructor
  .rintro rfl;exact⟨rfl,fun _ _=>rfl,fun _ h=>by cases h⟩
  rintro⟨h1,h2,_⟩;exact(qX (d:=0) h1).2 fun i _=>h2 i (by simp)
 |c::r,q,q',ho=>by
  obtain⟨h1,h2,h3⟩:=ho.tail;have hl:c.toNat<q.length:=by have:=h3.1;have:=h3.2;omega
  rw[plc,adF];constructor
  .rintro⟨j,hj,h4⟩;obtain⟨h5,h6,h7⟩:=(UZ (by rw[a4n];exact h1)).1 h4;refine⟨by rw[h5,a4n],fun k hk=>?_,fun d hd=>?_⟩
   .rw[a4c,a2d,adl]at hk;rw[h6 k hk.2,zI,a0c (fun h=>hk.1 h.1)]
   rcases a2d.1 hd with rfl|hd
   .rw[h6 _ h2,zI,a0g ⟨rfl,hl⟩];exact hj
   exact h7 d hd
  rintro⟨h4,h5,h6⟩;refine⟨q'.getD c.toNat 0,h6 c (by simp),(UZ (by rw[a4n];exact h1)).2 ⟨by rw[a4n];exact h4,fun k hk=>?_,fun d hd=>h6 d (by simp[hd])⟩⟩;rw[zI];split
  .rename_i h;rw[h.1]
  rename_i h;exact h5 k (by rw[a4c,a2d,adl];exact⟨fun e=>h ⟨e,hl⟩,hk⟩)
theorem ZM(c:Int):(AL J c).Nodup:=by
 unfold AL;split
 .simp
 rw[List.Nodup,afS];exact List.nodup_range.imp fun h e=>h (by omega)
theorem Tc:∀{r q:LI0},ZL q.length r->(plc J r q).Nodup
 | [],q,_=>by simp[plc]
 |c::r,q,ho=>by
  obtain⟨h1,h2,h3⟩:=ho.tail;have hl:c.toNat<q.length:=by have:=h3.1;have:=h3.2;omega
  rw[plc,List.Nodup,List.pairwise_flatMap];refine⟨fun j _=>Tc (by rw[a4n];exact h1),(ZM (J:=J) c).imp fun{a b} hab x hx y hy e=>?_⟩;subst e;have e1:=(MJ hx).2 _ h2;have e2:=(MJ hy).2 _ h2;rw[zI,a0g ⟨rfl,hl⟩]at e1 e2;exact hab (e1.symm.trans e2)
end
def Qq(J:Jb):List LI0:=((List.range (FD J.s)).map fun(k:Nat)=>ng J.s k).filter fun q=>decide (ov J.g q=q)
section
variable {J:Jb} (hJ:kE J)
include hJ
theorem a1K{q:LI0}(hq:q.length=J.s.length):ov J.g q=q↔∀k,k<J.s.length->0<=J.g.getD k 0->J.g.getD k 0=q.getD k 0:=by
 have hg:=hJ.gl;have hl:(ov J.g q).length=q.length:=by simp[ov,agS,hg,hq]
 rw[qX (d:=0) hl];constructor
 .intro h k hk h0;have:=h k (by rw[hl,hq];exact hk);rw[Py (by rw[hg,hq]),a0g (by rw[hg];exact hk),a0g h0]at this;exact this
 intro h k hk;rw[hl,hq]at hk;rw[Py (by rw[hg,hq]),a0g (by rw[hg];exact hk)];split
 .exact h k hk ‹_›
 rfl
theorem V3{q:LI0}:q∈(List.range (FD J.s)).map (fun(k:Nat)=>ng J.s k)↔ni J.s q=true:=by
 have hc:(FD J.s:Int)=bD J.s:=by have:=je hJ.eF.sz;unfold FD;omega
 constructor
 .intro h;obtain⟨k,_,rfl⟩:=a1g.1 h;exact J8 _ hJ.eF.sz
 intro h;have:=He h hJ.eF.sz;refine a1g.2 ⟨(qA J.s q).toNat,a4i.2 (by omega),?_⟩;rw[show((qA J.s q).toNat:Int)=qA J.s q by omega];exact Uy h hJ.eF.sz
theorem a3D:((List.range (FD J.s)).map (fun(k:Nat)=>ng J.s k)).Nodup:=by
 have hc:(FD J.s:Int)=bD J.s:=by have:=je hJ.eF.sz;unfold FD;omega
 rw[List.Nodup,afS];refine List.Pairwise.imp_of_mem (fun{a b} ha hb h e=>h ?_) adJ;rw[a4i]at ha hb;have h1:=Ux hJ.eF.sz (n:=(a:Int)) (by omega) (by omega);have h2:=Ux hJ.eF.sz (n:=(b:Int)) (by omega) (by omega);have e:ng J.s (a:Int)=ng J.s (b:Int):=e;rw[e,h2]at h1;omega
theorem a7L:(plc J J.o (List.replicate J.s.length 0)).Perm (Qq J):=by
 obtain⟨o1,o2,o3⟩:=kE.o2 hJ;have ho:ZL (List.replicate J.s.length (0:Int)).length J.o:=⟨o1,fun c hc=>by rw[a8A];exact o3 c hc⟩;unfold Qq;refine(a7y (Tc ho) ((a3D hJ).filter _)).2 fun q=>?_;rw[UZ ho,a7S,V3 hJ,a1o,a8A];constructor
 .rintro⟨h1,h2,h3⟩;have key:∀k,k<J.s.length->(0<=q.getD k 0∧q.getD k 0<J.s.getD k 0)∧(0<=J.g.getD k 0->J.g.getD k 0=q.getD k 0):=fun k hk=>by have hc:gW (k:Int) J.s.length:=aG hk;have:=h3 k (mW hJ.ord hc);rw[XU hJ hc]at this;exact this
  exact⟨wI.2 ⟨h1,fun k hk=>(key k hk).1⟩,(a1K hJ h1).2 fun k hk=>(key k hk).2⟩
 rintro⟨h1,h2⟩;have hl:=zq h1;refine⟨hl,fun k hk=>?_,fun c hc=>?_⟩
 .have JQ:J.s.length<=k:=by refine acH fun aT=>hk ?_;exact a1g.2 ⟨(k:Int),mW hJ.ord (aG aT),by simp⟩
  simp[List.getD,a4a (show q.length<=k by omega),a4a (show(List.replicate J.s.length (0:Int)).length<=k by simp;omega)]
 have rZ:=o3 c hc;have aT:c.toNat<J.s.length:=by have:=rZ.1;have:=rZ.2;omega
 rw[XU hJ rZ];exact⟨(wI.1 h1).2 _ aT,(a1K hJ hl).1 h2 _ aT⟩
theorem Td{q:LI0}(hq:ni J.s q=true):∀(r:LI0) (a:Nat) (t:S3),J.o.drop a=r->a<=J.o.length->Dp J a t->Dp J J.o.length (UY J.D q r t)∧∀k,k<J.D.length->∀v,To (kU J.D k) q ((UY J.D q r t).get k) v->To (kU J.D k) q (t.get k) v
 | [],a,t,hr,ha,hd=>by
  have:a=J.o.length:=by have:=congrArg List.length hr;rw[a3X,a4Q]at this;omega
  subst this;exact⟨hd,fun _ _ _ h=>h⟩
 |c::r,a,t,hr,ha,hd=>by
  obtain⟨aT,hoc,xg,GU,hci,rZ⟩:=kE.at_ hJ hr;have Yp:=(wI.1 hq).2 c.toNat (by have:=rZ.1;have:=rZ.2;omega);obtain⟨h1,h2⟩:=Td hq r (a+1) _ xg aT (mO hJ hr hd Yp);refine⟨h1,fun k hk v h=>?_⟩;have h4:=h2 k hk v h;rw[Js hJ.d3 t c _ hk]at h4;unfold L6 at h4;split at h4
  .rename_i h5;obtain⟨h6,h7,_⟩:=I7 hJ hd hk h5;refine .step h6.1 ?_;rw[h7];exact h4
  exact h4
theorem XV:Dp J 0 (fG J.D):=fun k hk=>by rw[zG hJ.d3 hk];exact⟨(hJ.dg k hk).t.root,a4E _⟩
theorem afD{q:LI0}(hq:ni J.s q=true):aV J.D (UY J.D q J.o (fG J.D))=J.D.map fun d=>Em d q:=by
 obtain⟨h1,h2⟩:=Td hJ hq J.o 0 (fG J.D) aag (a4E _) (XV hJ);unfold aV;refine(qX (d:=V0) (by simp)).2 fun k hk=>?_;rw[a4h,a8D]at hk;have hd:=hJ.dg k hk;have h3:=Ju hJ h1 hk;have h4:=h2 k hk _ (.fin h3.1);rw[zG hJ.d3 hk]at h4;have h6:=h4.at_ hd.t (by rw[hd.s];exact hq) 6001 (by have:=hd.t.root.1;have:=hd.n;omega) hd.t.root;have e1:((List.range J.D.length).map fun k=>pK (kU J.D k) ((UY J.D q J.o (fG J.D)).get k)).getD k V0=pK (kU J.D k) ((UY J.D q J.o (fG J.D)).get k):=by simp[List.getD,hk]
 have e2:(J.D.map fun d=>Em d q).getD k V0=Em (kU J.D k) q:=by simp[List.getD,hk]
 rw[e1,e2];exact h6
theorem aaE(ψ:List V->Int):xC J (fun t=>ψ (aV J.D t)) J.o (fG J.D)=dS (fun q=>ψ (J.D.map fun d=>Em d q)) (Qq J):=by obtain⟨o1,o2,o3⟩:=kE.o2 hJ;rw[a1J _ (List.replicate J.s.length 0) _ ⟨o1,fun c hc=>by rw[a8A];exact o3 c hc⟩,Jc _ (a7L hJ)];refine qj fun q hq=>?_;unfold Qq at hq;rw[a7S,V3 hJ]at hq;rw[afD hJ hq.1]
end
end Go.Proofs.YtmobpoiejckagaaGreat
namespace Pv
open Go Tw
section
variable {X:kJ} {P:LI1} {kt:LI2} {α:Type} [DecidableEq α] (C:oC X P kt α)
theorem oC.akw{l:List (α×PV X.Γ)}{x:α}{v:PV X.Γ}{j:Nat}(hb:Instr.sameBits 10000 (C.v x) (C.v x)=true)(hn:(l.map (·.1)).Nodup)(h:l[j]? = some (x,v)):a5C X P kt (C.es l) (C.tv x) (C.pv x) v j:=by
 obtain⟨hj,e⟩:=a01.1 h;have hxj:(l.map (·.1))[j]? = some x:=by simp[a0a hj,e]
 refine⟨C.v x,_,C.tv x,C.v x,C.ht x,C.hc false x,C.pk l,?_,?_,?_,C.ht x,hb⟩
 .have hu:∀(i:Nat) y,(l.map (·.1))[i]? = some y->decide (x=y)=(some i==some j):=fun i y hy=>by
   rw[a4u];simp only[a1o,a7r,a00];constructor
   .rintro rfl;have i1:=a01.1 hy;have i2:=a01.1 hxj;exact(a9P hn (h₀:=i1.1) (h₁:=i2.1)).1 (i1.2.trans i2.2.symm)
   rintro rfl;rw[hxj]at hy;exact a8R hy
  refine C.find x _ (some j) ?_ hu;rw[a9E];refine⟨by simpa using hj,by simp[e],fun i hi=>?_⟩;have hil:i<(l.map (·.1)).length:=by simp;omega
  rw[hu i _ (a0a hil)];simp;omega
 .simp[oC.es,a0a hj,e]
 simp[a0a hj,e]
theorem oC.newP{l:List (α×PV X.Γ)}{x:α}{v:PV X.Γ}(h:x∉l.map (·.1)):ae3 X P kt (C.es (l++[(x,v)])) (C.tv x) l.length:=by
 refine⟨C.v x,_,C.ht x,C.pk _,?_⟩;have hu:∀(i:Nat) y,((l++[(x,v)]).map (·.1))[i]? = some y->decide (x=y)=(some i==some l.length):=fun i y hy=>by
  rw[a3Z]at hy;rcases a4d i l.length with hi|hi
  .rw[a0b (by simpa using hi)]at hy;have:¬x=y:=fun e=>h (e▸a4m hy);rw[ae9 this];have:¬i=l.length:=(by omega);simp[this]
  rw[a0S (by simpa using hi)]at hy;have JO:i=l.length:=by have:=(a01.1 hy).1;simp at this;omega
  subst JO;simp at hy;subst hy;simp
 refine C.find x _ (some l.length) ?_ hu;rw[a9E];refine⟨by simp,by simp,fun i hi=>?_⟩;have hil:i<((l++[(x,v)]).map (·.1)).length:=by simp;omega
 rw[hu i _ (a0a hil)];simp;omega
abbrev oC.im(m:List (α×Int)):List (PV X.Γ×PV X.Γ):=C.es (m.map fun e=>(e.1,.int .i64 e.2))
theorem oC.oZ(m:List (α×Int)):(C.im m).length=m.length:=by simp[oC.im,oC.es]
theorem oC.AP(m:List (α×Int))(j:Nat):(C.im m)[j]? = (m[j]?).map fun e=>(C.pv e.1,.int .i64 e.2):=by simp[oC.im,oC.es,a4j];rfl
theorem zJ{Y:kJ}(m:List (α×Int)):((m.map fun e=>(e.1,(PV.int .i64 e.2:PV Y.Γ))).map (·.1))=m.map (·.1):=by simp
theorem afE{m:List (α×Int)}{j:Nat}{f:Int->Int}{v:Int}(h:∀e,m[j]? = some e->f e.2=v):IX (C.im m) j (.int .i64 v)=C.im (m.modify j fun e=>(e.1,f e.2)):=by
 unfold IX;refine a9r fun i=>?_;rw[adH,C.AP,C.AP,adH];by_cases e:j=i
 .subst e;cases h2:m[j]? with
  |none=>simp[h2]
  |some x=>simp[h2,h x h2]
 simp[e]
theorem afF{m:List (α×Int)}{x:α}{z v:Int}:IX (C.im m++[(C.pv x,.int .i64 z)]) (C.im m).length (.int .i64 v)=C.im (m++[(x,v)]):=by
 have:C.im (m++[(x,v)])=C.im m++[(C.pv x,.int .i64 v)]:=by simp[oC.im,oC.es]
 rw[this];unfold IX;generalize C.im m=l;refine a9r fun i=>?_;rw[adH];rcases Nat.lt_trichotomy i l.length with h|h|h
 .rw[a0b h,a0b h];simp[show ¬l.length=i by omega]
 .subst h;simp
 rw[a4a (by simp;omega),a4a (by simp;omega)];rfl
theorem oC.V4{m:List (α×Int)}{k:α}{n:Int}(hb:Instr.sameBits 10000 (C.v k) (C.v k)=true)(hn:(m.map (·.1)).Nodup)(h:k∈m.map (·.1))(hw:∀e∈m,i64.wrap (e.2+n)=e.2+n) :
  ∃j old,qg X P kt (C.im m) (C.tv k) (.int .i64 old)∧a5C X P kt (C.im m) (C.tv k) (C.pv k) (.int .i64 old) j∧j<(C.im m).length∧IX (C.im m) j (.int .i64 (i64.wrap (old+n)))=C.im (bQ.rV m k n):=by
 have aT:=a4C.2 h;have a5M:(m.map (·.1)).idxOf k<m.length:=by simpa using aT
 have hk:m[(m.map (·.1)).idxOf k]? = some (k,m[(m.map (·.1)).idxOf k].2):=by rw[a0a a5M];have:=a8F aT;rw[a8Z]at this;exact congrArg some (acV this rfl)
 have a8Y:(k,m[(m.map (·.1)).idxOf k].2)∈m:=a4m hk;refine⟨(m.map (·.1)).idxOf k,m[(m.map (·.1)).idxOf k].2,C.found (by rw[zJ];exact hn) (a1g.2 ⟨_,a8Y,rfl⟩),C.akw hb (by rw[zJ];exact hn) (by rw[a4j,hk];rfl),by rw[C.oZ];exact a5M,?_⟩;rw[hw _ a8Y];unfold bQ.rV;rw[a0g h];exact afE C (f:=fun x=>x+n) fun e he=>by rw[hk]at he;cases he;rfl
theorem oC.V5{m:List (α×Int)}{k:α}{n:Int}(h:k∉m.map (·.1))(hw:i64.wrap (0+n)=n) :
  nM X P kt (C.im m) (C.tv k)∧ae3 X P kt (C.im m++[(C.pv k,(PV.int .i64 0:PV X.Γ))]) (C.tv k) (C.im m).length∧(C.im m).length<(C.im m++[(C.pv k,(PV.int .i64 0:PV X.Γ))]).length∧IX (C.im m++[(C.pv k,.int .i64 0)]) (C.im m).length (.int .i64 (i64.wrap (0+n)))=C.im (bQ.rV m k n):=by
 refine⟨C.fresh (by rw[zJ];exact h),?_,by simp,?_⟩
 .have:=C.newP (l:=m.map fun e=>(e.1,(PV.int .i64 e.2:PV X.Γ))) (x:=k) (v:=.int .i64 0) (by rw[zJ];exact h);rw[C.oZ];simpa[oC.im,oC.es]using this
 rw[hw,afF];unfold bQ.rV;rw[a0c h]
end
end Pv
namespace Go.Proofs.YtmobpoiejckagaaGreat
open Go Tw Pv bQ
abbrev wSk(H:List (PB aC))(s:S3)(r:Int)(x:List (Nat×PE aC)):aS aC:=⟨[(1,xi r),(2,.val (.ptr 2 0 5)),(3,.val (.ptr 1 0 5)),(4,.val (.ptr 3 0 1)),(5,.val (.ptr 4 0 1)),(6,.loc 0 0)]++x,[s.ps],H⟩
def Qr(D:List Dg)(t:S3):LI0->Nat
 | []=>0
 |c::r=>if jR D t c=true then 0 else Qr D t r+1
def Qs(J:Jb)(t:S3)(i:Int):Int⊕Int:=if decide (i<(J.o.length:Int))=true then(if(!(jR J.D t (J.o.getD i.toNat 0)))=true then .inl (i64.wrap (i+1))else .inr i)else .inr i
theorem a7M{J:Jb}(hJ:kE J)(t:S3):∀(r:LI0) (a:Nat),J.o.drop a=r->a<=J.o.length->itF (Qs J t) (r.length+1) (a:Int)=some ((a+Qr J.D t r:Nat):Int)
 | [],a,hr,ha=>by
  have:a=J.o.length:=by have:=congrArg List.length hr;rw[a3X,a4Q]at this;omega
  have e:Qs J t (a:Int)=.inr (a:Int):=by unfold Qs;rw[a0c (by simp;omega)]
  rw[a4Q,itF,e];rfl
 |c::r,a,hr,ha=>by
  obtain⟨aT,hoc,xg,_⟩:=kE.at_ hJ hr;have hl:=hJ.eF.len;have QN:=(kE.o2 hJ).2.1;have e:Qs J t (a:Int)=if(!(jR J.D t c))=true then .inl (i64.wrap ((a:Int)+1))else .inr (a:Int):=by unfold Qs;rw[a0g (by simp;omega),a6t,hoc]
  rw[a4b,itF,e];cases h:jR J.D t c
  .simp only[abp,a1U];have ew:i64.wrap ((a:Int)+1)=((a+1:Nat):Int):=by rw[fK (by omega) (by omega)];omega
   have:=a7M hJ t r (a+1) xg aT;simp only[ew,Qr,h];rw[this];simp;omega
  simp[Qr,h]
theorem aps{M f:Nat}{J:Jb}(hJ:kE J){t:S3}{x:Mk}(r:LI0){a:Nat}(hr:J.o.drop a=r)(ha:a<=J.o.length)(hd:Dp J a t):MC (M+1) 126 0 7 (wSk (HM0 J f x) t a []) (.exit 0) (wSk (HM0 J f x) t ((a+Qr J.D t r:Nat):Int) [(32,xl false)]):=by
 have Qb:=a7M hJ t r a hr ha;have QN:=(kE.o2 hJ).2.1;have hl:=hJ.eF.len;refine Zz (st:=fun i=>wSk (HM0 J f x) t i []) (g:=Qs J t) (out:=fun i=>(.exit 0,wSk (HM0 J f x) t i [(32,xl false)])) (fun i=>0<=i∧i<=J.o.length) Qb (by kernel_rfl) (by have:=congrArg List.length hr;rw[a3X]at this;unfold LL;omega) ⟨by omega,by omega⟩ ?_ ?_
 .intro i i1 hi e;unfold Qs at e;split at e
  .rename_i c;have c:i<(J.o.length:Int):=(by simpa using c);split at e
   .cases e;rw[fK (by omega) (by omega)];omega
   cases e
  cases e
 intro i m i' hi ih;have hs:=a7C (M:=M) (f:=f) (a:=[]) (cc:=[]) (H:=[]) J t (J.o.getD i.toNat 0) hJ.d3 (fun k hk h=>⟨by simpa using h,(hd k hk).1.1⟩);by_cases c:i<(J.o.length:Int)
 .have t1:decide (i<(J.o.length:Int))=true:=by simpa using c
  have i1:gW i J.o.length:=⟨hi.1,c⟩;cases hq:jR J.D t (J.o.getD i.toNat 0)
  .have e:Qs J t i=.inl (i64.wrap (i+1)):=by unfold Qs;rw[a0g t1,hq];rfl
   rw[hq]at hs;have g:=ih _ e;rw[e];exact aJ fZ (.b t1 (.o i1 (.fr [] hs (.b (rfl:(!false)=true) (.go g)))))
  have e:Qs J t i=.inr i:=by unfold Qs;rw[a0g t1,hq];rfl
  rw[hq]at hs;rw[e];dsimp only[CY];exact aJ fZ (.b t1 (.o i1 (.fr [] hs (.b (rfl:(!true)=false) .ex))))
 have t1:decide (i<(J.o.length:Int))=false:=by simpa using c
 have e:Qs J t i=.inr i:=by unfold Qs;rw[a0c (by rw[t1];simp)]
 rw[e];dsimp only[CY];exact aJ fZ (.b t1 .ex)
theorem apt{M f:Nat}(u:Int){J:Jb}(hJ:kE J){t:S3}{x:Mk}(r:LI0){a:Nat}(hr:J.o.drop a=r)(ha:a<=J.o.length)(hd:Dp J a t):MC (M+1) 126 0 8 (wSk (HM1 J f u x) t a []) (.exit 0) (wSk (HM1 J f u x) t ((a+Qr J.D t r:Nat):Int) [(32,xl false)]):=by
 have Qb:=a7M hJ t r a hr ha;have QN:=(kE.o2 hJ).2.1;have hl:=hJ.eF.len;refine Zz (st:=fun i=>wSk (HM1 J f u x) t i []) (g:=Qs J t) (out:=fun i=>(.exit 0,wSk (HM1 J f u x) t i [(32,xl false)])) (fun i=>0<=i∧i<=J.o.length) Qb (by kernel_rfl) (by have:=congrArg List.length hr;rw[a3X]at this;unfold LL;omega) ⟨by omega,by omega⟩ ?_ ?_
 .intro i i1 hi e;unfold Qs at e;split at e
  .rename_i c;have c:i<(J.o.length:Int):=(by simpa using c);split at e
   .cases e;rw[fK (by omega) (by omega)];omega
   cases e
  cases e
 intro i m i' hi ih;have hs:=a7C (M:=M) (f:=f) (a:=[]) (cc:=[.ptr 0 0 1]) (H:=[.aF [.int .u8 u]]) J t (J.o.getD i.toNat 0) hJ.d3 (fun k hk h=>⟨by simpa using h,(hd k hk).1.1⟩);by_cases c:i<(J.o.length:Int)
 .have t1:decide (i<(J.o.length:Int))=true:=by simpa using c
  have i1:gW i J.o.length:=⟨hi.1,c⟩;cases hq:jR J.D t (J.o.getD i.toNat 0)
  .have e:Qs J t i=.inl (i64.wrap (i+1)):=by unfold Qs;rw[a0g t1,hq];rfl
   rw[hq]at hs;have g:=ih _ e;rw[e];exact aJ fZ (.b t1 (.o i1 (.fr [5] hs (.b (rfl:(!false)=true) (.go g)))))
  have e:Qs J t i=.inr i:=by unfold Qs;rw[a0g t1,hq];rfl
  rw[hq]at hs;rw[e];dsimp only[CY];exact aJ fZ (.b t1 (.o i1 (.fr [5] hs (.b (rfl:(!true)=false) .ex))))
 have t1:decide (i<(J.o.length:Int))=false:=by simpa using c
 have e:Qs J t i=.inr i:=by unfold Qs;rw[a0c (by rw[t1];simp)]
 rw[e];dsimp only[CY];exact aJ fZ (.b t1 .ex)
open Go Tw Pv bQ
theorem V6{J:Jb}(hJ:kE J){op:List V->V}{x:Mk}:∀(r:LI0) (a:Nat) (t:S3),J.o.drop a=r->a<=J.o.length->Dp J a t->jH J op r t x=jH J op (r.drop (Qr J.D t r)) t x∧a+Qr J.D t r<=J.o.length∧Dp J (a+Qr J.D t r) t∧∀c r',r.drop (Qr J.D t r)=c::r'->jR J.D t c=true
 | [],a,t,hr,ha,hd=>⟨rfl,ha,hd,fun _ _ h=>by cases h⟩
 |c::r,a,t,hr,ha,hd=>by
  obtain⟨aT,hoc,xg,_⟩:=kE.at_ hJ hr;cases h:jR J.D t c
  .obtain⟨q1,q2,q3,q4⟩:=V6 hJ (op:=op) (x:=x) r (a+1) t xg aT (UU hJ hr hd h);have e:Qr J.D t (c::r)=Qr J.D t r+1:=(by simp[Qr,h]);rw[e];refine⟨?_,by omega,by rw[show a+(Qr J.D t r+1)=a+1+Qr J.D t r by omega];exact q3,q4⟩;rw[List.drop_succ_cons,<-q1]
   conv=>lhs;unfold jH
   rw[a0c (by rw[h];simp)]
  have e:Qr J.D t (c::r)=0:=by simp[Qr,h]
  rw[e];exact⟨rfl,ha,hd,fun c' r' h2=>by cases h2;exact h⟩
theorem V7{J:Jb}(hJ:kE J):∀(r:LI0) (n:Nat),(∀c∈r,gW c J.s.length)->wO J.s (r.drop n)<=wO J.s r
 | [],n,_=>by simp
 |c::r,0,_=>a0U _
 |c::r,n+1,h=>by have h1:=V7 hJ r n fun c hc=>h c (by simp[hc]);have hi:=h c (by simp);have hz:=hJ.eF.sz _ (eu (s:=J.s) (k:=c.toNat) (by have:=hi.1;have:=hi.2;omega));have:wO J.s r<=(J.s.getD c.toNat 0).toNat*wO J.s r:=ady _ (by omega);rw[List.drop_succ_cons];simp only[wO];omega
abbrev aaF(J:Jb)(f:Nat)(t:S3)(c:Int)(a:Int)(m:Mk)(ks:LI0)(i:Int)(y:List (Nat×PE aC)):aS aC:=⟨[(1,xi a),(2,.val (.ptr 2 0 5)),(3,.val (.ptr 1 0 5)),(4,.val (.ptr 3 0 1)),(5,.val (.ptr 4 0 1)),(6,.loc 0 0),(9,xi c),(13,.loc 1 0),(93,xi (J.s.getD c.toNat 0)),(94,xi i)]++y,[t.ps,[.int .i64 c,.own 9]],aay J f m++[oI false false ks]⟩
theorem apu{M f:Nat}{J:Jb}(hJ:kE J){op:List V->V}{r:LI0}{t:S3}{c a:Int}(x:Mk)(hc:gW c J.s.length)(Q:Nat->Mk->Prop)(h0:Q 0 x)(hq:∀j y,j<(J.s.getD c.toNat 0).toNat->Q j y->Q (j+1) (jH J op r (bJ J.D t c j) y).2)
  (hk:∀j:Nat,j<(J.s.getD c.toNat 0).toNat->∀k,k<J.D.length->a1F (kU J.D k) (t.get k) c j)
  (hf:∀(j:Nat) y,j<(J.s.getD c.toNat 0).toNat->Q j y->dD X0 Qp (iy (M+1)) (.fn 126 [] pM) [.agg (bJ J.D t c j).ps,.int .i64 (i64.wrap (a+1))] (HM0 J f y) (.int .i64 (jH J op r (bJ J.D t c j) y).1) (aay J f (jH J op r (bJ J.D t c j) y).2)) :
  MC (M+1) 126 1 7 (aaF J f t c a x [] 0 []) (.exit 2) (aaF J f t c a (aU (UR J.D (jH J op r) t c) (J.s.getD c.toNat 0).toNat 0 ([],x)).2 (aU (UR J.D (jH J op r) t c) (J.s.getD c.toNat 0).toNat 0 ([],x)).1 (((J.s.getD c.toNat 0).toNat:Nat):Int) [(95,xl false)]):=by
 have hz:=hJ.eF.sz _ (eu (s:=J.s) (k:=c.toNat) (by have:=hc.1;have:=hc.2;omega));refine rM (σ:=LI0×Mk) (N:=(J.s.getD c.toNat 0).toNat) (g:=UR J.D (jH J op r) t c) (s0:=([],x)) (st:=fun i y=>aaF J f t c a y.2 y.1 i []) (fin:=fun y=>aaF J f t c a y.2 y.1 (((J.s.getD c.toNat 0).toNat:Nat):Int) [(95,xl false)]) (fun j y=>y.1.length=j∧Q j y.2) (by kernel_rfl) (by unfold ah;omega) ⟨rfl,h0⟩ (fun j y hj hy=>⟨by simp[UR,hy.1],hq j y.2 hj hy.2⟩) (fun j y hj hy m e p g=>?_) (fun y _=>?_)
 .have h1:=hf j y.2 hj hy.2;have ha:=Jr (M:=M) (f:=f) (a:=[]) (cc:=[]) (H:=[]) J t c j hJ.d3 (hk j hj);have t1:decide ((j:Int)<J.s.getD c.toNat 0)=true:=by rw[a1o];omega
  have h3:=hy.1;unfold UR at g;generalize jH J op r (bJ J.D t c j) y.2=z at h1 g;obtain⟨v,z⟩:=z;exact aJ fZ (.b t1 (.fr [] ha (.fr [0,1,2,3,4,7,8] h1 (.o (show y.1.length+[v].length<=ah by simp only[a3P];unfold ah;omega) (.goG [.gc [10,11,13]] g)))))
 .have t1:decide ((((J.s.getD c.toNat 0).toNat:Nat):Int)<J.s.getD c.toNat 0)=false:=by rw[a2I];omega
  exact aJ fZ (.b t1 .ex)
open Go Tw Pv bQ
theorem XW{k:List (S3×Int)}{t:S3}(hn:(k.map (·.1)).Nodup)(h:t∈k.map (·.1)):qg X0 Qp 148 (I5 k) (.agg [.int .i64 t.a,.int .i64 t.b,.int .i64 t.c]) (.int .i64 (knS k t)):=by
 refine kS.found (x:=t) (by rw[a7m];exact hn) ?_;obtain⟨e,he,rfl⟩:=a1g.1 h;refine a1g.2 ⟨e,he,?_⟩;have:knS k e.1=e.2:=by
  have:k.find? (fun y=>decide (y.1=e.1))=some e:=by
   clear h
   induction k with
   |nil=>cases he
   |cons y l ih=>
    rw[a4c,a4k]at hn;rw[agN];rcases a2d.1 he with rfl|he
    .simp
    have:¬y.1=e.1:=fun h=>hn.1 (a1g.2 ⟨e,he,h.symm⟩);rw[ae9 this];exact ih hn.2 he
  unfold knS;rw[this];rfl
 rw[this]
abbrev afG(J:Jb)(op:List V->V)(f:Nat)(m:Nat)(r:LI0):Prop:=∀(a:Nat) (t:S3) (x:Mk),J.o.drop a=r->a<=J.o.length->Dp J a t->XOk J op x->x.e.length+wO J.s r<=ah->x.n.length+wO J.s r<=ah ->
  dD X0 Qp (iy m) (.fn 126 [] pM) [.agg t.ps,.int .i64 (a:Int)] (HM0 J f x) (.int .i64 (jH J op r t x).1) (aay J f (jH J op r t x).2)
abbrev afH(J:Jb)(f:Nat)(x:Mk)(v:V):List (PB aC):=[.map (I5 x.k),.cells [lI J.s,lI J.o,.own 8,.own 6,.int .i64 0],.aF (J.ps (.fn f [] [])),.aF [.fn 126 [] pM],.aF [.map 0],.gone,PY x.n,.list true true 39 [v],PX (x.e++[v])]
abbrev akx(J:Jb)(f:Nat)(x:Mk)(t:S3)(b:Br):List (PB aC):=[.map (I5 x.k++[(.agg t.ps,.int .i64 (x.n.length:Int))]),.cells [lI J.s,lI J.o,.own 7,.own 11,.int .i64 0],.aF (J.ps (.fn f [] [])),.aF [.fn 126 [] pM],.aF [.map 0],.gone,.gone,PX x.e,.gone,.gone,.list true true 105 [b],PY (x.n++[b])]
theorem adh{N f:Nat}{J:Jb}(hJ:kE J){op:List V->V}(kH:wR J op)(hs:∀l:List V,l.length=J.D.length->dD X0 Qp (iy (N+1)) (.fn f [] []) [lV l] [] (.agg (op l).ps) [])(r:LI0)(rec:∀c r',c::r' <:+ r->afG J op f (N+1) r'):afG J op f (N+2) r:=by
 intro a t x hr ha hd hx C9 xM;unfold ah at C9 xM;have QN:=(kE.o2 hJ).2.1;have hl6:=hJ.eF.len;have lsk:=aps (M:=N) (f:=f) hJ (x:=x) r hr ha hd;obtain⟨q1,q2,q3,q4⟩:=V6 hJ (op:=op) (x:=x) r a t hr ha hd;have hw:=V7 hJ r (Qr J.D t r) (fun c hc=>(kE.o2 hJ).2.2 c (a5s (by rw[hr];exact hc)));rw[q1];generalize Qr J.D t r=n at lsk q1 q2 q3 q4 hw;have G5:J.o.drop (a+n)=r.drop n:=by rw[<-hr,afc]
 have a7N:r.drop n <:+ r:=List.drop_suffix _ _;have Gm:=congrArg List.length G5;rw[a3X]at Gm;clear q1 hr;generalize a+n=i at lsk q2 q3 G5 Gm;generalize r.drop n=r0 at q4 hw G5 a7N Gm;cases r0 with
 |nil=>
  have e0:i=J.o.length:=by rw[a4Q]at Gm;omega
  have t0:((i:Int)==(J.o.length:Int))=true:=by rw[e0];simp
  rw[e0]at q3;have pF:(aV J.D t).length=J.D.length:=by simp[aV]
  have hce:=a1G (M:=N) (f:=f) J t hJ.d3 (fun k hk=>(Ju hJ q3 hk).2);have hv:=hs (aV J.D t) pF;simp only[wO]at hw;have hb:x.e.length+[op (aV J.D t)].length<=ah:=by simp only[a3P];unfold ah;omega
  have h1:dD X0 Qp (iy (N+2)) (.fn 126 [] pM) [.agg t.ps,.int .i64 (a:Int)] (HM0 J f x) (.int .i64 (i64.wrap (0-((x.e++[op (aV J.D t)]).length:Int)))) (afH J f x (op (aV J.D t))):=
   fB fZ (first:=[]) (cap:=pM) (.w lsk (.b t0 (.fr [] hce (.fr [] hv (.o hb .er)))))
  exact dD.gs hX h1 [.mv 6,.gc [8,9]] (by kernel_rfl)
 |cons c r'=>
  have t0:((i:Int)==(J.o.length:Int))=false:=by rw[a4b]at Gm;simp;omega
  obtain⟨aT,hoc,xg,GU,hci,rZ⟩:=kE.at_ hJ G5;have AB:=q4 c r' rfl;have rc:=rec c r' a7N;have ia:gW (i:Int) J.o.length:=⟨by omega,by omega⟩;have JA:J.o.getD (i:Int).toNat 0=c:=by rw[a6t];exact hoc
  have ig:gW (J.o.getD (i:Int).toNat 0) J.g.length:=by rw[JA,hJ.gl];exact rZ
  have hz:=hJ.eF.sz _ (eu (s:=J.s) (k:=c.toNat) (by have:=rZ.1;have:=rZ.2;omega));have hri:∀c'∈r',gW c' J.s.length:=fun c' h=>(kE.o2 hJ).2.2 c' (by rw[<-xg]at h;exact a5s h);have hw0:=UQ hJ.eF.sz hri;have hw1:wO J.s r'<=(J.s.getD c.toNat 0).toNat*wO J.s r':=ady _ (by omega);have ew:i64.wrap ((i:Int)+1)=((i+1:Nat):Int):=by rw[fK (by omega) (by omega)];omega
  simp only[wO]at hw;unfold jH;rw[a0g AB];cases tg:decide (J.g.getD c.toNat 0>=0)
  .rw[a0c (by simp)];have tg':decide (J.g.getD (J.o.getD (i:Int).toNat 0).toNat 0>=0)=false:=by rw[JA];exact tg
   by_cases hk:t∈x.k.map (·.1)
   .rw[a0g hk];have hF:qg X0 Qp 148 (I5 x.k) (.agg [.int .i64 t.a,.int .i64 t.b,.int .i64 t.c]) (.int .i64 (knS x.k t)):=XW hx.nd hk;have h1:dD X0 Qp (iy (N+2)) (.fn 126 [] pM) [.agg t.ps,.int .i64 (a:Int)] (HM0 J f x) (.int .i64 (knS x.k t)) (HM0 J f x):=
     fB fZ (first:=[]) (cap:=pM) (.w lsk (.b t0 (.o ia (.o ig (.b tg' (.c (.int .i64 (knS x.k t)) [] hF (.b (rfl:true=true) .er)))))))
    exact dD.gs hX h1 [.mv 5,.mv 6] (by kernel_rfl)
   rw[a0c hk];have hm2:=UW hJ G5 q3 AB;have hF:nM X0 Qp 148 (I5 x.k) (.agg [.int .i64 t.a,.int .i64 t.b,.int .i64 t.c]):=kS.fresh (x:=t) (by simpa using hk);have is:gW (J.o.getD (i:Int).toNat 0) J.s.length:=by rw[JA];exact rZ
   have Yf:∀j,j<(J.s.getD c.toNat 0).toNat->j*wO J.s r'+wO J.s r'<=(J.s.getD c.toNat 0).toNat*wO J.s r':=fun j hj=>by have:(j+1)*wO J.s r'<=(J.s.getD c.toNat 0).toNat*wO J.s r':=a3l _ hj;rw[a3m]at this;omega
   let Q:Nat->Mk->Prop:=fun j y=>XOk J op y∧y.e.length<=x.e.length+j*wO J.s r'∧y.n.length+j<=x.n.length+j*wO J.s r'∧∀e∈y.k,e∈x.k∨Dp J (i+1) e.1
   have hq:∀j y,j<(J.s.getD c.toNat 0).toNat->Q j y->Q (j+1) (jH J op r' (bJ J.D t c j) y).2:=fun j y hj hy=>by
    obtain⟨y1,y2,y3,y4⟩:=hy;have Yf:=Yf j hj;have h:=SX hJ op kH r' (i+1) (bJ J.D t c j) y xg aT (mO hJ G5 q3 ⟨by omega,by omega⟩) y1 (by omega) (by omega);have h3:=h.el;have h4:=h.nl;refine⟨h.ok,by rw[a3m];omega,by rw[a3m];omega,fun e he=>?_⟩;rcases h.ks e he with h5|h5
    .exact y4 e h5
    exact .inr h5
   have lp:=apu (M:=N) (f:=f) hJ (op:=op) (r:=r') (t:=t) (c:=c) (a:=(i:Int)) x rZ Q ⟨hx,by simp,by simp,fun e he=>.inl he⟩ hq (fun j hj k hk=>Jt hJ q3 ⟨by omega,by omega⟩ hk) (fun j y hj hy=>by obtain⟨y1,y2,y3,y4⟩:=hy;have Yf:=Yf j hj;rw[ew];exact rc (i+1) (bJ J.D t c j) y xg aT (mO hJ G5 q3 ⟨by omega,by omega⟩) y1 (by unfold ah;omega) (by unfold ah;omega))
   have inv:=dU (g:=UR J.D (jH J op r') t c) (m:=(J.s.getD c.toNat 0).toNat) (k:=0) (s:=([],x)) (fun j y=>Q j y.2) ⟨hx,by simp,by simp,fun e he=>.inl he⟩ (fun j y _ hj hy=>hq j y.2 (by omega) hy);rw[a3T]at inv;simp only[];generalize aU (UR J.D (jH J op r') t c) (J.s.getD c.toNat 0).toNat 0 ([],x)=y at lp inv;obtain⟨ks,m⟩:=y;obtain⟨y1,y2,y3,y4⟩:=inv;have hnk:t∉m.k.map (·.1):=fun h=>by
    obtain⟨e,he,e2⟩:=a1g.1 h;rcases y4 e he with h1|h1
    .exact hk (a1g.2 ⟨e,h1,e2⟩)
    rw[e2]at h1;exact ZK hJ G5 AB h1
   have hF2:nM X0 Qp 148 (I5 m.k) (.agg [.int .i64 t.a,.int .i64 t.b,.int .i64 t.c]):=kS.fresh (x:=t) (by simpa using hnk);have ek:I5 m.k++[(.agg t.ps,.int .i64 (m.n.length:Int))]=I5 (m.k++[(t,(m.n.length:Int))]):=by unfold I5 oC.es;rw[a3Z,a3Z];rfl
   have hF3:qg X0 Qp 148 (I5 m.k++[(.agg t.ps,.int .i64 (m.n.length:Int))]) (.agg [.int .i64 t.a,.int .i64 t.b,.int .i64 t.c]) (.int .i64 (m.n.length:Int)):=by
    refine(congrArg (fun l:List (PV aC×PV aC)=>qg X0 Qp 148 l (.agg [.int .i64 t.a,.int .i64 t.b,.int .i64 t.c]) (.int .i64 (m.n.length:Int))) ek).mpr ?_;refine kS.found (x:=t) ?_ ?_
    .rw[a7m,show((fun e:S3×PV X0.Γ=>e.1)∘fun e:S3×Int=>(e.1,(PV.int .i64 e.2:PV X0.Γ)))=fun e=>e.1 from rfl,a3Z];exact Dv y1.nd hnk
    simp
   have hb:m.n.length+[(⟨c,ks⟩:Br)].length<=ah:=by simp only[a3P];have y3:m.n.length+(J.s.getD c.toNat 0).toNat<=x.n.length+(J.s.getD c.toNat 0).toNat*wO J.s r':=y3;unfold ah;omega
   have h1:dD X0 Qp (iy (N+2)) (.fn 126 [] pM) [.agg t.ps,.int .i64 (a:Int)] (HM0 J f x) (.int .i64 (m.n.length:Int)) (akx J f m t ⟨c,ks⟩):=by subst JA;exact fB fZ (first:=[]) (cap:=pM) (.w lsk (.b t0 (.o ia (.o ig (.b tg' (.q (.bool false) hF (.b (rfl:false=false) (.o is (.wG [.mv 5,.mv 6,.a2E 1 1 3] lp (.q (.bool false) (kS.ck t) (.o hF2 (.o hb (.c (.int .i64 (m.n.length:Int)) [] hF3 .er)))))))))))))
   have h2:=dD.gs hX h1 [.gc [7,11]] (v':=.int .i64 (m.n.length:Int)) (H2:=[.map (I5 m.k++[(.agg t.ps,.int .i64 (m.n.length:Int))]),.cells [lI J.s,lI J.o,.own 7,.own 8,.int .i64 0],.aF (J.ps (.fn f [] [])),.aF [.fn 126 [] pM],.aF [.map 0],.gone,.gone,PX m.e,PY (m.n++[⟨c,ks⟩])]) (by kernel_rfl);exact(congrArg (fun l:List (PV aC×PV aC)=>dD X0 Qp (iy (N+2)) (.fn 126 [] pM) [.agg t.ps,.int .i64 (a:Int)] (HM0 J f x) (.int .i64 (m.n.length:Int)) [.map l,.cells [lI J.s,lI J.o,.own 7,.own 8,.int .i64 0],.aF (J.ps (.fn f [] [])),.aF [.fn 126 [] pM],.aF [.map 0],.gone,.gone,PX m.e,PY (m.n++[⟨c,ks⟩])]) ek).mp h2
  rw[a0g rfl];have tg':decide (J.g.getD (J.o.getD (i:Int).toNat 0).toNat 0>=0)=true:=by rw[JA];exact tg
  have hg:0<=J.g.getD c.toNat 0:=by simpa using tg
  have haf:=Jr (M:=N) (f:=f) (a:=[]) (cc:=[]) (H:=[]) J t c (J.g.getD c.toNat 0) hJ.d3 (fun k hk=>Jt hJ q3 ⟨hg,hJ.gv c rZ hg⟩ hk);have h2:=rc (i+1) (bJ J.D t c (J.g.getD c.toNat 0)) x xg aT (mO hJ G5 q3 ⟨hg,hJ.gv c rZ hg⟩) hx (by unfold ah;omega) (by unfold ah;omega);rw[<-ew]at h2;subst JA;exact fB fZ (first:=[]) (cap:=pM) (.w lsk (.b t0 (.o ia (.o ig (.b tg' (.fr [] haf (.fr [0,1,2,3,4,5,6] h2 .er)))))))
theorem apy{N f:Nat}{J:Jb}(hJ:kE J){op:List V->V}(kH:wR J op)(hs:∀m,N<=m->∀l:List V,l.length=J.D.length->dD X0 Qp (iy m) (.fn f [] []) [lV l] [] (.agg (op l).ps) []):∀(F:Nat) (r:LI0),r.length<=F->afG J op f (N+F+2) r:=by
 intro F
 induction F with
 |zero=>
  intro r hF;refine adh hJ kH (hs _ (by omega)) r fun c r' h=>?_;have:=h.length_le;rw[a4b]at this;omega
 |succ F ih=>
  intro r hF;refine adh (N:=N+F+1) hJ kH (hs _ (by omega)) r fun c r' h=>ih r' ?_;have:=h.length_le;rw[a4b]at this;omega
open Go Tw Pv bQ
abbrev aaH(J:Jb)(f:Nat)(u:Int)(t:S3)(c:Int)(a:Int)(m:Mk)(ks:LI0)(i:Int)(y:List (Nat×PE aC)):aS aC:=⟨[(1,xi a),(2,.val (.ptr 2 0 5)),(3,.val (.ptr 1 0 5)),(4,.val (.ptr 3 0 1)),(5,.val (.ptr 4 0 1)),(6,.loc 0 0),(9,xi c),(13,.loc 1 0),(93,xi (J.s.getD c.toNat 0)),(94,xi i)]++y,[t.ps,[.int .i64 c,.own 10]],aaz J f u m++[oI false false ks]⟩
theorem apz{M f:Nat}{u:Int}{J:Jb}(hJ:kE J){op:List V->V}{r:LI0}{t:S3}{c a:Int}(x:Mk)(hc:gW c J.s.length)(Q:Nat->Mk->Prop)(h0:Q 0 x)(hq:∀j y,j<(J.s.getD c.toNat 0).toNat->Q j y->Q (j+1) (jH J op r (bJ J.D t c j) y).2)
  (hk:∀j:Nat,j<(J.s.getD c.toNat 0).toNat->∀k,k<J.D.length->a1F (kU J.D k) (t.get k) c j)
  (hf:∀(j:Nat) y,j<(J.s.getD c.toNat 0).toNat->Q j y->dD X0 Qp (iy (M+1)) (.fn 126 [] pM) [.agg (bJ J.D t c j).ps,.int .i64 (i64.wrap (a+1))] (HM1 J f u y) (.int .i64 (jH J op r (bJ J.D t c j) y).1) (aaz J f u (jH J op r (bJ J.D t c j) y).2)) :
  MC (M+1) 126 1 8 (aaH J f u t c a x [] 0 []) (.exit 2) (aaH J f u t c a (aU (UR J.D (jH J op r) t c) (J.s.getD c.toNat 0).toNat 0 ([],x)).2 (aU (UR J.D (jH J op r) t c) (J.s.getD c.toNat 0).toNat 0 ([],x)).1 (((J.s.getD c.toNat 0).toNat:Nat):Int) [(95,xl false)]):=by
 have hz:=hJ.eF.sz _ (eu (s:=J.s) (k:=c.toNat) (by have:=hc.1;have:=hc.2;omega));refine rM (σ:=LI0×Mk) (N:=(J.s.getD c.toNat 0).toNat) (g:=UR J.D (jH J op r) t c) (s0:=([],x)) (st:=fun i y=>aaH J f u t c a y.2 y.1 i []) (fin:=fun y=>aaH J f u t c a y.2 y.1 (((J.s.getD c.toNat 0).toNat:Nat):Int) [(95,xl false)]) (fun j y=>y.1.length=j∧Q j y.2) (by kernel_rfl) (by unfold ah;omega) ⟨rfl,h0⟩ (fun j y hj hy=>⟨by simp[UR,hy.1],hq j y.2 hj hy.2⟩) (fun j y hj hy m e p g=>?_) (fun y _=>?_)
 .have h1:=hf j y.2 hj hy.2;have ha:=Jr (M:=M) (f:=f) (a:=[]) (cc:=[.ptr 0 0 1]) (H:=[.aF [.int .u8 u]]) J t c j hJ.d3 (hk j hj);have t1:decide ((j:Int)<J.s.getD c.toNat 0)=true:=by rw[a1o];omega
  have h3:=hy.1;unfold UR at g;generalize jH J op r (bJ J.D t c j) y.2=z at h1 g;obtain⟨v,z⟩:=z;exact aJ fZ (.b t1 (.fr [5] ha (.fr [0,1,2,3,4,5,8,9] h1 (.o (show y.1.length+[v].length<=ah by simp only[a3P];unfold ah;omega) (.goG [.gc [11,12,14]] g)))))
 .have t1:decide ((((J.s.getD c.toNat 0).toNat:Nat):Int)<J.s.getD c.toNat 0)=false:=by rw[a2I];omega
  exact aJ fZ (.b t1 .ex)
abbrev afI(J:Jb)(op:List V->V)(f:Nat)(u:Int)(m:Nat)(r:LI0):Prop:=∀(a:Nat) (t:S3) (x:Mk),J.o.drop a=r->a<=J.o.length->Dp J a t->XOk J op x->x.e.length+wO J.s r<=ah->x.n.length+wO J.s r<=ah ->
  dD X0 Qp (iy m) (.fn 126 [] pM) [.agg t.ps,.int .i64 (a:Int)] (HM1 J f u x) (.int .i64 (jH J op r t x).1) (aaz J f u (jH J op r t x).2)
abbrev afJ(J:Jb)(f:Nat)(u:Int)(x:Mk)(v:V):List (PB aC):=[.map (I5 x.k),.cells [lI J.s,lI J.o,.own 9,.own 7,.int .i64 0],.aF (J.ps (.fn f [] [.ptr 5 0 1])),.aF [.fn 126 [] pM],.aF [.map 0],.aF [.int .u8 u],.gone,PY x.n,.list true true 39 [v],PX (x.e++[v])]
abbrev akz(J:Jb)(f:Nat)(u:Int)(x:Mk)(t:S3)(b:Br):List (PB aC):=[.map (I5 x.k++[(.agg t.ps,.int .i64 (x.n.length:Int))]),.cells [lI J.s,lI J.o,.own 8,.own 12,.int .i64 0],.aF (J.ps (.fn f [] [.ptr 5 0 1])),.aF [.fn 126 [] pM],.aF [.map 0],.aF [.int .u8 u],.gone,.gone,PX x.e,.gone,.gone,.list true true 105 [b],PY (x.n++[b])]
theorem adi{N f:Nat}(u:Int){J:Jb}(hJ:kE J){op:List V->V}(kH:wR J op)(hs:∀l:List V,l.length=J.D.length->dD X0 Qp (iy (N+1)) (.fn f [] [.ptr 0 0 1]) [lV l] [.aF [.int .u8 u]] (.agg (op l).ps) [.aF [.int .u8 u]])(r:LI0)(rec:∀c r',c::r' <:+ r->afI J op f u (N+1) r'):afI J op f u (N+2) r:=by
 intro a t x hr ha hd hx C9 xM;unfold ah at C9 xM;have QN:=(kE.o2 hJ).2.1;have hl6:=hJ.eF.len;have lsk:=apt (M:=N) (f:=f) u hJ (x:=x) r hr ha hd;obtain⟨q1,q2,q3,q4⟩:=V6 hJ (op:=op) (x:=x) r a t hr ha hd;have hw:=V7 hJ r (Qr J.D t r) (fun c hc=>(kE.o2 hJ).2.2 c (a5s (by rw[hr];exact hc)));rw[q1];generalize Qr J.D t r=n at lsk q1 q2 q3 q4 hw;have G5:J.o.drop (a+n)=r.drop n:=by rw[<-hr,afc]
 have a7N:r.drop n <:+ r:=List.drop_suffix _ _;have Gm:=congrArg List.length G5;rw[a3X]at Gm;clear q1 hr;generalize a+n=i at lsk q2 q3 G5 Gm;generalize r.drop n=r0 at q4 hw G5 a7N Gm;cases r0 with
 |nil=>
  have e0:i=J.o.length:=by rw[a4Q]at Gm;omega
  have t0:((i:Int)==(J.o.length:Int))=true:=by rw[e0];simp
  rw[e0]at q3;have pF:(aV J.D t).length=J.D.length:=by simp[aV]
  have hce:=aax (M:=N) (f:=f) (u:=u) J t hJ.d3 (fun k hk=>(Ju hJ q3 hk).2);have hv:=hs (aV J.D t) pF;simp only[wO]at hw;have hb:x.e.length+[op (aV J.D t)].length<=ah:=by simp only[a3P];unfold ah;omega
  have h1:dD X0 Qp (iy (N+2)) (.fn 126 [] pM) [.agg t.ps,.int .i64 (a:Int)] (HM1 J f u x) (.int .i64 (i64.wrap (0-((x.e++[op (aV J.D t)]).length:Int)))) (afJ J f u x (op (aV J.D t))):=
   fB fZ (first:=[]) (cap:=pM) (.w lsk (.b t0 (.fr [5] hce (.fr [5] hv (.o hb .er)))))
  exact dD.gs hX h1 [.mv 7,.gc [9,10]] (by kernel_rfl)
 |cons c r'=>
  have t0:((i:Int)==(J.o.length:Int))=false:=by rw[a4b]at Gm;simp;omega
  obtain⟨aT,hoc,xg,GU,hci,rZ⟩:=kE.at_ hJ G5;have AB:=q4 c r' rfl;have rc:=rec c r' a7N;have ia:gW (i:Int) J.o.length:=⟨by omega,by omega⟩;have JA:J.o.getD (i:Int).toNat 0=c:=by rw[a6t];exact hoc
  have ig:gW (J.o.getD (i:Int).toNat 0) J.g.length:=by rw[JA,hJ.gl];exact rZ
  have hz:=hJ.eF.sz _ (eu (s:=J.s) (k:=c.toNat) (by have:=rZ.1;have:=rZ.2;omega));have hri:∀c'∈r',gW c' J.s.length:=fun c' h=>(kE.o2 hJ).2.2 c' (by rw[<-xg]at h;exact a5s h);have hw0:=UQ hJ.eF.sz hri;have hw1:wO J.s r'<=(J.s.getD c.toNat 0).toNat*wO J.s r':=ady _ (by omega);have ew:i64.wrap ((i:Int)+1)=((i+1:Nat):Int):=by rw[fK (by omega) (by omega)];omega
  simp only[wO]at hw;unfold jH;rw[a0g AB];cases tg:decide (J.g.getD c.toNat 0>=0)
  .rw[a0c (by simp)];have tg':decide (J.g.getD (J.o.getD (i:Int).toNat 0).toNat 0>=0)=false:=by rw[JA];exact tg
   by_cases hk:t∈x.k.map (·.1)
   .rw[a0g hk];have hF:qg X0 Qp 148 (I5 x.k) (.agg [.int .i64 t.a,.int .i64 t.b,.int .i64 t.c]) (.int .i64 (knS x.k t)):=XW hx.nd hk;have h1:dD X0 Qp (iy (N+2)) (.fn 126 [] pM) [.agg t.ps,.int .i64 (a:Int)] (HM1 J f u x) (.int .i64 (knS x.k t)) (HM1 J f u x):=
     fB fZ (first:=[]) (cap:=pM) (.w lsk (.b t0 (.o ia (.o ig (.b tg' (.c (.int .i64 (knS x.k t)) [] hF (.b (rfl:true=true) .er)))))))
    exact dD.gs hX h1 [.mv 6,.mv 7] (by kernel_rfl)
   rw[a0c hk];have hm2:=UW hJ G5 q3 AB;have hF:nM X0 Qp 148 (I5 x.k) (.agg [.int .i64 t.a,.int .i64 t.b,.int .i64 t.c]):=kS.fresh (x:=t) (by simpa using hk);have is:gW (J.o.getD (i:Int).toNat 0) J.s.length:=by rw[JA];exact rZ
   have Yf:∀j,j<(J.s.getD c.toNat 0).toNat->j*wO J.s r'+wO J.s r'<=(J.s.getD c.toNat 0).toNat*wO J.s r':=fun j hj=>by have:(j+1)*wO J.s r'<=(J.s.getD c.toNat 0).toNat*wO J.s r':=a3l _ hj;rw[a3m]at this;omega
   let Q:Nat->Mk->Prop:=fun j y=>XOk J op y∧y.e.length<=x.e.length+j*wO J.s r'∧y.n.length+j<=x.n.length+j*wO J.s r'∧∀e∈y.k,e∈x.k∨Dp J (i+1) e.1
   have hq:∀j y,j<(J.s.getD c.toNat 0).toNat->Q j y->Q (j+1) (jH J op r' (bJ J.D t c j) y).2:=fun j y hj hy=>by
    obtain⟨y1,y2,y3,y4⟩:=hy;have Yf:=Yf j hj;have h:=SX hJ op kH r' (i+1) (bJ J.D t c j) y xg aT (mO hJ G5 q3 ⟨by omega,by omega⟩) y1 (by omega) (by omega);have h3:=h.el;have h4:=h.nl;refine⟨h.ok,by rw[a3m];omega,by rw[a3m];omega,fun e he=>?_⟩;rcases h.ks e he with h5|h5
    .exact y4 e h5
    exact .inr h5
   have lp:=apz (M:=N) (f:=f) (u:=u) hJ (op:=op) (r:=r') (t:=t) (c:=c) (a:=(i:Int)) x rZ Q ⟨hx,by simp,by simp,fun e he=>.inl he⟩ hq (fun j hj k hk=>Jt hJ q3 ⟨by omega,by omega⟩ hk) (fun j y hj hy=>by obtain⟨y1,y2,y3,y4⟩:=hy;have Yf:=Yf j hj;rw[ew];exact rc (i+1) (bJ J.D t c j) y xg aT (mO hJ G5 q3 ⟨by omega,by omega⟩) y1 (by unfold ah;omega) (by unfold ah;omega))
   have inv:=dU (g:=UR J.D (jH J op r') t c) (m:=(J.s.getD c.toNat 0).toNat) (k:=0) (s:=([],x)) (fun j y=>Q j y.2) ⟨hx,by simp,by simp,fun e he=>.inl he⟩ (fun j y _ hj hy=>hq j y.2 (by omega) hy);rw[a3T]at inv;simp only[];generalize aU (UR J.D (jH J op r') t c) (J.s.getD c.toNat 0).toNat 0 ([],x)=y at lp inv;obtain⟨ks,m⟩:=y;obtain⟨y1,y2,y3,y4⟩:=inv;have hnk:t∉m.k.map (·.1):=fun h=>by
    obtain⟨e,he,e2⟩:=a1g.1 h;rcases y4 e he with h1|h1
    .exact hk (a1g.2 ⟨e,h1,e2⟩)
    rw[e2]at h1;exact ZK hJ G5 AB h1
   have hF2:nM X0 Qp 148 (I5 m.k) (.agg [.int .i64 t.a,.int .i64 t.b,.int .i64 t.c]):=kS.fresh (x:=t) (by simpa using hnk);have ek:I5 m.k++[(.agg t.ps,.int .i64 (m.n.length:Int))]=I5 (m.k++[(t,(m.n.length:Int))]):=by unfold I5 oC.es;rw[a3Z,a3Z];rfl
   have hF3:qg X0 Qp 148 (I5 m.k++[(.agg t.ps,.int .i64 (m.n.length:Int))]) (.agg [.int .i64 t.a,.int .i64 t.b,.int .i64 t.c]) (.int .i64 (m.n.length:Int)):=by
    refine(congrArg (fun l:List (PV aC×PV aC)=>qg X0 Qp 148 l (.agg [.int .i64 t.a,.int .i64 t.b,.int .i64 t.c]) (.int .i64 (m.n.length:Int))) ek).mpr ?_;refine kS.found (x:=t) ?_ ?_
    .rw[a7m,show((fun e:S3×PV X0.Γ=>e.1)∘fun e:S3×Int=>(e.1,(PV.int .i64 e.2:PV X0.Γ)))=fun e=>e.1 from rfl,a3Z];exact Dv y1.nd hnk
    simp
   have hb:m.n.length+[(⟨c,ks⟩:Br)].length<=ah:=by simp only[a3P];have y3:m.n.length+(J.s.getD c.toNat 0).toNat<=x.n.length+(J.s.getD c.toNat 0).toNat*wO J.s r':=y3;unfold ah;omega
   have h1:dD X0 Qp (iy (N+2)) (.fn 126 [] pM) [.agg t.ps,.int .i64 (a:Int)] (HM1 J f u x) (.int .i64 (m.n.length:Int)) (akz J f u m t ⟨c,ks⟩):=by subst JA;exact fB fZ (first:=[]) (cap:=pM) (.w lsk (.b t0 (.o ia (.o ig (.b tg' (.q (.bool false) hF (.b (rfl:false=false) (.o is (.wG [.mv 6,.mv 7,.a2E 1 1 3] lp (.q (.bool false) (kS.ck t) (.o hF2 (.o hb (.c (.int .i64 (m.n.length:Int)) [] hF3 .er)))))))))))))
   have h2:=dD.gs hX h1 [.gc [8,12]] (v':=.int .i64 (m.n.length:Int)) (H2:=[.map (I5 m.k++[(.agg t.ps,.int .i64 (m.n.length:Int))]),.cells [lI J.s,lI J.o,.own 8,.own 9,.int .i64 0],.aF (J.ps (.fn f [] [.ptr 5 0 1])),.aF [.fn 126 [] pM],.aF [.map 0],.aF [.int .u8 u],.gone,.gone,PX m.e,PY (m.n++[⟨c,ks⟩])]) (by kernel_rfl);exact(congrArg (fun l:List (PV aC×PV aC)=>dD X0 Qp (iy (N+2)) (.fn 126 [] pM) [.agg t.ps,.int .i64 (a:Int)] (HM1 J f u x) (.int .i64 (m.n.length:Int)) [.map l,.cells [lI J.s,lI J.o,.own 8,.own 9,.int .i64 0],.aF (J.ps (.fn f [] [.ptr 5 0 1])),.aF [.fn 126 [] pM],.aF [.map 0],.aF [.int .u8 u],.gone,.gone,PX m.e,PY (m.n++[⟨c,ks⟩])]) ek).mp h2
  rw[a0g rfl];have tg':decide (J.g.getD (J.o.getD (i:Int).toNat 0).toNat 0>=0)=true:=by rw[JA];exact tg
  have hg:0<=J.g.getD c.toNat 0:=by simpa using tg
  have haf:=Jr (M:=N) (f:=f) (a:=[]) (cc:=[.ptr 0 0 1]) (H:=[.aF [.int .u8 u]]) J t c (J.g.getD c.toNat 0) hJ.d3 (fun k hk=>Jt hJ q3 ⟨hg,hJ.gv c rZ hg⟩ hk);have h2:=rc (i+1) (bJ J.D t c (J.g.getD c.toNat 0)) x xg aT (mO hJ G5 q3 ⟨hg,hJ.gv c rZ hg⟩) hx (by unfold ah;omega) (by unfold ah;omega);rw[<-ew]at h2;subst JA;exact fB fZ (first:=[]) (cap:=pM) (.w lsk (.b t0 (.o ia (.o ig (.b tg' (.fr [5] haf (.fr [0,1,2,3,4,5,6,7] h2 .er)))))))
theorem apA{N f:Nat}(u:Int){J:Jb}(hJ:kE J){op:List V->V}(kH:wR J op)(hs:∀m,N<=m->∀l:List V,l.length=J.D.length->dD X0 Qp (iy m) (.fn f [] [.ptr 0 0 1]) [lV l] [.aF [.int .u8 u]] (.agg (op l).ps) [.aF [.int .u8 u]]):∀(F:Nat) (r:LI0),r.length<=F->afI J op f u (N+F+2) r:=by
 intro F
 induction F with
 |zero=>
  intro r hF;refine adi u hJ kH (hs _ (by omega)) r fun c r' h=>?_;have:=h.length_le;rw[a4b]at this;omega
 |succ F ih=>
  intro r hF;refine adi (N:=N+F+1) u hJ kH (hs _ (by omega)) r fun c r' h=>ih r' ?_;have:=h.length_le;rw[a4b]at this;omega
end Go.Proofs.YtmobpoiejckagaaGreat
namespace Pv
open Go Tw
section
variable {X:kJ} {P:LI1}
theorem dD.akA(hX:bP X P){call:aY}{fv v:PV X.Γ}{xs:List (PV X.Γ)}{H H0 H1:List (PB X.Γ)}(gs:List G)(hs:dD X P call fv xs H0 v H1)(hg:l7 H.length gs (⟨[],[],H⟩:aS X.Γ)=some ⟨[],[],H0⟩):dD X P call fv xs H v H1:=by
 intro A m h tf qU hr hf hx;obtain⟨m2,q1,q2,q3⟩:=mQ hX hg A (fun b=>b∈bg m) h.length m ⟨[],[],h,[]⟩ ⟨⟨hr,rfl,fun k c hk=>(by simp at hk),.nil⟩,fun b hb=>.inl hb,fun b hb=>(by cases hb),a0U _⟩;have up:Up m m2:=fun i mb hi=>q3 i mb (by rw[<-hr.len];exact(a01.1 hi).1) hi;obtain⟨w,h',ws,m1,k1,k2,k3,k4,k5,k6⟩:=hs A m2 h tf qU q1.st.heap (hf.step q2 up) (hx.step q2 up);refine⟨w,h',ws,m1,k1,k2,k3,q2.trans k4,fun i mb hi=>?_,fun b hb=>?_⟩
 .rcases up i mb hi with g|g
  .exact k5 i mb g
  rcases k5 i _ g with g|g<;>exact .inr g
 have hb:=k6 b hb;rcases q1.own b hb with g|g
 .exact g
 have:=q1.st.heap.inb hb;have:b<h.length:=this;omega
end
end Pv
namespace Go.Proofs.YtmobpoiejckagaaGreat
open Go Tw Pv bQ
theorem ML{n:Nat}(hO:Ok n I4)(l:LI0)(hl:l.length<=ah):iQ n (.fn 125 [] []) [.dB 3 l false] [] (lI l) []:=
 have h0:=nY.aak hX (hO 125 [.dB 3 l false] (.own 0) (lsI l) [l.length<=ah] (by kernel_rfl) (List.forall_mem_singleton.2 hl)) rfl rfl rfl rfl
 dD.cut hX (dD.fzR hX h0 [0] (v':=lI l) rfl (by decide)) rfl rfl rfl rfl
abbrev apB(J:Jb)(f:Nat)(x:Mk):List (PB aC):=[.map (I5 x.k),.cells [lI J.s,lI J.o,.own 7,.own 8,.int .i64 0],.cells (J.ps (.fn f [] [])),.cells [.fn 126 [] pM],.cells [.map 0],.gone,.gone,PX x.e,PY x.n]
theorem aaI{m f:Nat}(hO:Ok m I4)(J:Jb)(st:S3)(z:Int×Mk)
  (c1:dD X0 Qp (iy m) (.fn 125 [] []) [.dB 3 J.s false] [] (lI J.s) [])
  (c2:dD X0 Qp (iy m) (.fn 125 [] []) [.dB 3 J.o false] [] (lI J.o) [])
  (c3:dD X0 Qp (iy m) (.fn 130 [] []) [.agg (J.ps (.fn f [] []))] [] (.agg st.ps) [])
  (c5:dD X0 Qp (iy m) (.fn 126 [] pM) [.agg st.ps,.int .i64 (0:Int)] [.map [],.cells [lI J.s,lI J.o,.nil .aP,.nil .aP,.int .i64 0],.aF (J.ps (.fn f [] [])),.aF [.fn 126 [] pM],.aF [.map 0]] (.int .i64 z.1) (aay J f z.2))
  (hr:KD ⟨J.s,J.o,z.2.e,z.2.n,z.1⟩) (p1:J.s.length<=ah) (p2:J.o.length<=2^20) (p3:z.2.e.length<=ah) (p4:((bF ⟨J.s,J.o,z.2.e,z.2.n,z.1⟩).2 != 0)=false->ClP (bF ⟨J.s,J.o,z.2.e,z.2.n,z.1⟩).1) :
  dD X0 Qp (iy (m+1)) (.fn 80 [] []) [.agg (J.ps (.fn f [] []))] [] (dA.put (zF ⟨J.s,J.o,z.2.e,z.2.n,z.1⟩).1) []:=by
 obtain⟨v,e,n,k⟩:=z;have h0:dD X0 Qp (iy (m+1)) (.fn 80 [] []) [.agg (J.ps (.fn f [] []))] [] (dA.put (zF ⟨J.s,J.o,e,n,v⟩).1) ([]++[.cells (J.ps (.fn f [] [])),.cells [lI J.s,lI J.o,.own 7,.own 8,.int .i64 v],.map (I5 k),.cells [.map 2],.cells [.fn 126 [] [.ptr 0 0 5,.ptr 1 0 5,.ptr 4 0 1,.ptr 3 0 1]],.gone,.gone,.gone,.gone]):=
  fB hO (first:=[]) (cap:=[]) (.fr [] c1 (.fr [] c2 (.fr [] c3 (.Qe (H2:=apB J f ⟨e,n,k⟩) [2,1,0,4,3] [2,3,4] c5 (.o hr (.o p1 (.o p2 (.o p3 (.o p4 .er)))))))))
 exact dD.cut hX h0 rfl rfl rfl rfl
theorem afK{N f:Nat}{J:Jb}(hJ:kE J){op:List V->V}(kH:wR J op)(hs:∀m,N<=m->∀l:List V,l.length=J.D.length->dD X0 Qp (iy m) (.fn f [] []) [lV l] [] (.agg (op l).ps) [])(hO:∀m,N<=m->Ok m I4){m:Nat}(hm:N+J.o.length+2<=m):dD X0 Qp (iy (m+1)) (.fn 80 [] []) [.agg (J.ps (.fn f [] []))] [] (dA.put (Jw J op)) []:=by
 have hl:=hJ.eF.len;have QN:=(kE.o2 hJ).2.1;have hw:=Pj hJ.eF.sz hJ.ord;have hmn:=hJ.eF.many;have c1:=ML (n:=m) (hO m (by omega)) J.s (by unfold ah;omega);have c2:=ML (n:=m) (hO m (by omega)) J.o (by unfold ah;omega);obtain⟨m',rfl⟩:∃m',m=m'+1:=⟨m-1,by omega⟩;have c3:=ZJ (M:=m') (f:=f) (a:=[]) (cc:=[]) (H:=[]) J hJ.d3;have c4:=apy (N:=m'+1-J.o.length-2) (f:=f) hJ kH (fun m2 h2=>hs m2 (by omega)) J.o.length J.o (a0U _) 0 (fG J.D) ⟨[],[],[]⟩ aag (a4E _) (fun k hk=>by rw[zG hJ.d3 hk];exact⟨(hJ.dg k hk).t.root,a4E _⟩) ⟨⟨fun i hi=>(by simp at hi),fun i hi=>(by simp at hi),fun i hi=>(by simp at hi)⟩,fun e he=>(by cases he),a5O,fun v hv=>(by cases hv),fun b hb=>(by cases hb)⟩ (by show 0+wO J.s J.o<=ah;unfold ah;omega) (by show 0+wO J.s J.o<=ah;unfold ah;omega)
 rw[show m'+1-J.o.length-2+J.o.length+2=m'+1 by omega]at c4;have c5:=dD.akA hX (H:=[.map [],.cells [lI J.s,lI J.o,.nil .aP,.nil .aP,.int .i64 0],.aF (J.ps (.fn f [] [])),.aF [.fn 126 [] pM],.aF [.map 0]]) [.Uc 1 2 39,.Uc 1 3 105] c4 (by kernel_rfl);obtain⟨h1,h2,h3⟩:=Jy hJ kH;have hr:=a7I hJ kH;have h4:(bF (pO J op)).2=0:=by rw[(XT hJ kH).1]
 have h5:=wQ hr (by unfold ah;omega) (by show J.s.length<=ah;unfold ah;omega) (by show J.o.length<=ah;unfold ah;omega) h4;have p1:J.s.length<=ah:=by unfold ah;omega
 have p2:J.o.length<=2^20:=by omega
 have p3:(pO J op).aO.length<=ah:=by unfold ah;omega
 have p4:((bF (pO J op)).2 != 0)=false->ClP (bF (pO J op)).1:=fun _=>by rw[h5.1];exact h5.2
 exact aaI (hO (m'+1) (by omega)) J (fG J.D) (jH J op J.o (fG J.D) ⟨[],[],[]⟩) c1 c2 c3 c5 hr p1 p2 p3 p4
abbrev apC(J:Jb)(f:Nat)(u:Int)(x:Mk):List (PB aC):=[.map (I5 x.k),.cells [lI J.s,lI J.o,.own 8,.own 9,.int .i64 0],.cells (J.ps (.fn f [] [.ptr 5 0 1])),.cells [.fn 126 [] pM],.cells [.map 0],.aF [.int .u8 u],.gone,.gone,PX x.e,PY x.n]
theorem aaJ{m f:Nat}(u:Int)(hO:Ok m I4)(J:Jb)(st:S3)(z:Int×Mk)
  (c1:dD X0 Qp (iy m) (.fn 125 [] []) [.dB 3 J.s false] [] (lI J.s) [])
  (c2:dD X0 Qp (iy m) (.fn 125 [] []) [.dB 3 J.o false] [] (lI J.o) [])
  (c3:dD X0 Qp (iy m) (.fn 130 [] []) [.agg (J.ps (.fn f [] [.ptr 0 0 1]))] [.aF [.int .u8 u]] (.agg st.ps) [.aF [.int .u8 u]])
  (c5:dD X0 Qp (iy m) (.fn 126 [] pM) [.agg st.ps,.int .i64 (0:Int)] [.map [],.cells [lI J.s,lI J.o,.nil .aP,.nil .aP,.int .i64 0],.aF (J.ps (.fn f [] [.ptr 5 0 1])),.aF [.fn 126 [] pM],.aF [.map 0],.aF [.int .u8 u]] (.int .i64 z.1) (aaz J f u z.2))
  (hr:KD ⟨J.s,J.o,z.2.e,z.2.n,z.1⟩) (p1:J.s.length<=ah) (p2:J.o.length<=2^20) (p3:z.2.e.length<=ah) (p4:((bF ⟨J.s,J.o,z.2.e,z.2.n,z.1⟩).2 != 0)=false->ClP (bF ⟨J.s,J.o,z.2.e,z.2.n,z.1⟩).1) :
  dD X0 Qp (iy (m+1)) (.fn 80 [] []) [.agg (J.ps (.fn f [] [.ptr 0 0 1]))] [.aF [.int .u8 u]] (dA.put (zF ⟨J.s,J.o,z.2.e,z.2.n,z.1⟩).1) [.aF [.int .u8 u]]:=by
 obtain⟨v,e,n,k⟩:=z;have h0:dD X0 Qp (iy (m+1)) (.fn 80 [] []) [.agg (J.ps (.fn f [] [.ptr 0 0 1]))] [.aF [.int .u8 u]] (dA.put (zF ⟨J.s,J.o,e,n,v⟩).1) ([.aF [.int .u8 u]]++[.cells (J.ps (.fn f [] [.ptr 0 0 1])),.cells [lI J.s,lI J.o,.own 8,.own 9,.int .i64 v],.map (I5 k),.cells [.map 3],.cells [.fn 126 [] [.ptr 1 0 5,.ptr 2 0 5,.ptr 5 0 1,.ptr 4 0 1]],.gone,.gone,.gone,.gone]):=
  fB hO (first:=[]) (cap:=[]) (.fr [] c1 (.fr [] c2 (.fr [0] c3 (.Qe (H2:=apC J f u ⟨e,n,k⟩) [3,2,1,5,4,0] [2,3,4] c5 (.o hr (.o p1 (.o p2 (.o p3 (.o p4 .er)))))))))
 exact dD.cut hX h0 rfl rfl rfl rfl
theorem afL{N f:Nat}(u:Int){J:Jb}(hJ:kE J){op:List V->V}(kH:wR J op)(hs:∀m,N<=m->∀l:List V,l.length=J.D.length->dD X0 Qp (iy m) (.fn f [] [.ptr 0 0 1]) [lV l] [.aF [.int .u8 u]] (.agg (op l).ps) [.aF [.int .u8 u]])(hO:∀m,N<=m->Ok m I4){m:Nat}(hm:N+J.o.length+2<=m):dD X0 Qp (iy (m+1)) (.fn 80 [] []) [.agg (J.ps (.fn f [] [.ptr 0 0 1]))] [.aF [.int .u8 u]] (dA.put (Jw J op)) [.aF [.int .u8 u]]:=by
 have hl:=hJ.eF.len;have QN:=(kE.o2 hJ).2.1;have hw:=Pj hJ.eF.sz hJ.ord;have hmn:=hJ.eF.many;have c1:=ML (n:=m) (hO m (by omega)) J.s (by unfold ah;omega);have c2:=ML (n:=m) (hO m (by omega)) J.o (by unfold ah;omega);obtain⟨m',rfl⟩:∃m',m=m'+1:=⟨m-1,by omega⟩;have c3:=ZJ (M:=m') (f:=f) (a:=[]) (cc:=[.ptr 0 0 1]) (H:=[.aF [.int .u8 u]]) J hJ.d3;have c4:=apA (N:=m'+1-J.o.length-2) (f:=f) u hJ kH (fun m2 h2=>hs m2 (by omega)) J.o.length J.o (a0U _) 0 (fG J.D) ⟨[],[],[]⟩ aag (a4E _) (fun k hk=>by rw[zG hJ.d3 hk];exact⟨(hJ.dg k hk).t.root,a4E _⟩) ⟨⟨fun i hi=>(by simp at hi),fun i hi=>(by simp at hi),fun i hi=>(by simp at hi)⟩,fun e he=>(by cases he),a5O,fun v hv=>(by cases hv),fun b hb=>(by cases hb)⟩ (by show 0+wO J.s J.o<=ah;unfold ah;omega) (by show 0+wO J.s J.o<=ah;unfold ah;omega)
 rw[show m'+1-J.o.length-2+J.o.length+2=m'+1 by omega]at c4;have c5:=dD.akA hX (H:=[.map [],.cells [lI J.s,lI J.o,.nil .aP,.nil .aP,.int .i64 0],.aF (J.ps (.fn f [] [.ptr 5 0 1])),.aF [.fn 126 [] pM],.aF [.map 0],.aF [.int .u8 u]]) [.Uc 1 2 39,.Uc 1 3 105] c4 (by kernel_rfl);obtain⟨h1,h2,h3⟩:=Jy hJ kH;have hr:=a7I hJ kH;have h4:(bF (pO J op)).2=0:=by rw[(XT hJ kH).1]
 have h5:=wQ hr (by unfold ah;omega) (by show J.s.length<=ah;unfold ah;omega) (by show J.o.length<=ah;unfold ah;omega) h4;have p1:J.s.length<=ah:=by unfold ah;omega
 have p2:J.o.length<=2^20:=by omega
 have p3:(pO J op).aO.length<=ah:=by unfold ah;omega
 have p4:((bF (pO J op)).2 != 0)=false->ClP (bF (pO J op)).1:=fun _=>by rw[h5.1];exact h5.2
 exact aaJ u (hO (m'+1) (by omega)) J (fG J.D) (jH J op J.o (fG J.D) ⟨[],[],[]⟩) c1 c2 c3 c5 hr p1 p2 p3 p4
open Go Tw Pv bQ
theorem akB(x:V):Instr.sameBits 10000 (kV.v x) (kV.v x)=true:=by show Instr.sameBits 10000 (.agg #[.int .u8 x.f,.int .i64 x.n]) (.agg #[.int .u8 x.f,.int .i64 x.n])=true;simp[Instr.sameBits]
theorem a7O(x:S3):Instr.sameBits 10000 (kS.v x) (kS.v x)=true:=by show Instr.sameBits 10000 (.agg #[.int .i64 x.a,.int .i64 x.b,.int .i64 x.c]) (.agg #[.int .i64 x.a,.int .i64 x.b,.int .i64 x.c])=true;simp[Instr.sameBits]
abbrev ji:V:=⟨0,1⟩
def akC:eY aC:=bT 79 (a1 Zx) vA (fun p=>p.getD 0 V0) (fun p=>[0<p.length]) I4
theorem apD:Gd akC:=XR.add fun n hO p hp=>aN hO (.o (aG (hp _ gZ)) .rr)
def akD:eY aC:=bT 89 aeC vA (fun p=>ji) np akC
theorem apE:Gd akD:=apD.add fun n hO p hp=>aN hO .rr
def a7P:eY aC:=bT 169 (a1 vA) tA (fun p=>decide (p=ji)) np akD
theorem akE:Gd a7P:=apE.add fun n hO p hp=>aN hO (.q (.bool (decide (p=ji))) (eqV (.tmp 3) (.tmp 4) p ji) .rr)
def mY(l:List V):Bool:=l.all fun v=>decide (v=ji)
def nV(l:List V):V:=if mY l=true then ji else V0
theorem apF{n:Nat}(hO:Ok n a7P)(l:List V)(hl:l.length<=ah):iQ (n+4) (.fn 168 [] []) [.fn 169 [] [],lV l] [] (tA.put (mY l)) []:=by
 have hs:∀v:V,iQ n (.fn 169 [] []) [.agg v.ps] [] (tA.put (decide (v=ji))) []:=fun v=>nY.ZI hX (first:=[]) (cap:=[]) (hO 169 [.agg v.ps] (tA.put (decide (v=ji))) [] [] (by kernel_rfl) (fun p h=>by cases h)) rfl rfl rfl rfl;have h1:∀v:V,iQ (n+1) (.fn 201 [] [.ptr 0 0 1]) [.agg v.ps] [.cells [.fn 169 [] []]] (tA.put (!(decide (v=ji)))) [.cells [.fn 169 [] []]]:=fun v=>
  jh fZ (first:=[]) (.fr [] (hs v) .sr)
 have h2:=af2 (n:=n+2) (by omega) (f:=201) (a:=[]) (c:=[.ptr 0 0 1]) (H:=[.cells [.fn 169 [] []]]) (g:=fun v=>!(decide (v=ji))) h1 l hl;rw[Jf]at h2;unfold mY;rw[<-E8 l fun v=>decide (v=ji)];exact dD.drop hX (CW hX fZ (first:=[]) (cap:=[]) (H1:=[.cells [.fn 169 [] []]]) (by kernel_rfl) (.k h2 .sr)) rfl rfl
def rQ:eY aC:=bT 117 (a1 Zx) vA nV (fun l=>[l.length<=ah]) a7P
theorem I8:Gd rQ:=akE.deep 4 fun n hn hO l hp=>by have hs:=apF (n:=n-4) (hO (n-4) (by omega)) l (hp _ gZ);rw[show n-4+4=n by omega]at hs;show nY X0 Qp _ _ _ (vA.put (nV l)) _;unfold nV;exact aN (hO n (by omega)) (.fr [] hs (.ss .rr .rr))
abbrev XY:Code:=(Sv Qp 87).body
abbrev Qu:Code:=(Sv Qp 136).body
abbrev a7Q(J:Jb)(f:Nat):List (Nat×PE aC):=[(2,.val (.nil .map)),(3,.val (.ptr 2 0 1)),(8,.val (.fn 136 [.agg (J.ps (.fn f [] []))] []))]
abbrev LRC(J:Jb)(f:Nat)(rd:Bool)(jI:Option Code):PB aC:=.loop rd 87 (BJ Qp 87) (a7Q J f) [9,10] (wJ Qp 87) (Aj Qp 87) jI
abbrev HQc(J:Jb)(f:Nat)(t:List (V×Int)):List (PB aC):=[.cells (J.ps (.fn f [] [])),.map (kV.im t),.cells [.map 1]]
abbrev Qv(J:Jb)(f:Nat)(rd:Bool)(jI:Option Code)(t:List (V×Int)):List (PB aC):=HQc J f t++[.mark,LRC J f rd jI]
theorem a7R(l:List V):decide (nV l=ji)=mY l:=by unfold nV;cases mY l<;>decide
def yT(l:List V)(w:Int)(t:List (V×Int)):List (V×Int):=if mY (l.drop 1)=true then rV t (l.getD 0 V0) w else t
structure Tal(t:List (V×Int)):Prop where
 nd:(t.map (·.1)).Nodup
 pos:∀e∈t,0<e.2
 bnd:∀e∈t,e.2<=2000
theorem apH{n:Nat}(hO:Ok n rQ)(J:Jb)(f:Nat){t:List (V×Int)}(ht:Tal t)(l:List V){w:Int}(h0:0<l.length)(hl:l.length<=ah)(hw:0<w∧w<=2000):iQ (n+1) (.kG 4) [lV l,.int .i64 w] (Qv J f true none t) (.bool true) (Qv J f true none (yT l w t)):=by
 have q1:dM X0 Qp T (iy n) LL 87 true (BJ Qp 87) 5 (wJ Qp 87) ⟨uf (a7Q J f) [9,10] [lV l,.int .i64 w],[],Qv J f true none t⟩ .norm ⟨[(3,.val (.ptr 2 0 1)),(4,.val (lV l)),(5,.val (.int .i64 w))],[],Qv J f true none t⟩:=xZ hX hO (by kernel_rfl) .xx;have i0:gW 0 l.length:=aG h0;have a1:(1:Int)<=l.length:=by omega
 have e1:(l.take l.length)=l:=aae;have c1:decide (nV ((l.take ((l.length:Int).toNat)).drop (1:Int).toNat)=ji)=mY (l.drop 1):=by rw[a7R];simp
 have a2:((l.take ((l.length:Int).toNat)).drop (1:Int).toNat).length<=ah:=by simp;omega
 have ev:=eqV (.tmp 13) (.tmp 14) (nV ((l.take ((l.length:Int).toNat)).drop (1:Int).toNat)) ji;have z01:(0:Int)<=1:=by decide
 have z02:(l.length:Int)<=(l.length:Int):=a8M _;unfold yT;cases hc:mY (l.drop 1)
 .rw[hc]at c1;rw[a0c (by simp)];have q2:dM X0 Qp T (iy n) LL 87 true (BJ Qp 87) 5 (Aj Qp 87) ⟨[(3,.val (.ptr 2 0 1)),(4,.val (lV l)),(5,.val (.int .i64 w))],[],Qv J f false none t⟩ .norm ⟨[(3,.val (.ptr 2 0 1)),(4,.val (lV l)),(5,.val (.int .i64 w)),(15,xl false)],[],Qv J f false none t⟩:=
   xZ hX hO (by kernel_rfl) (.o z01 (.o a1 (.o z02 (.o a2 (.q (.bool (decide (nV ((l.take ((l.length:Int).toNat)).drop (1:Int).toNat)=ji))) ev (.b c1 .xx))))))
  exact H7 hX (l:=4) rfl rfl (by kernel_rfl) q1 rfl q2 rfl
 rw[hc]at c1;rw[a0g rfl];by_cases hk:l.getD 0 V0∈t.map (·.1)
 .obtain⟨j,old,g1,g2,g3,g4⟩:=kV.V4 (akB _) ht.nd hk (n:=w) fun e he=>fK (by have:=ht.pos e he;omega) (by have:=ht.bnd e he;omega);have q2:dM X0 Qp T (iy n) LL 87 true (BJ Qp 87) 5 (Aj Qp 87) ⟨[(3,.val (.ptr 2 0 1)),(4,.val (lV l)),(5,.val (.int .i64 w))],[],Qv J f false none t⟩ .norm ⟨[],[],[.cells (J.ps (.fn f [] [])),.map (IX (kV.im t) j (.int .i64 (i64.wrap (old+w)))),.cells [.map 1],.mark,LRC J f false none]⟩:=
   xZ hX hO (by kernel_rfl) (.o z01 (.o a1 (.o z02 (.o a2 (.q (.bool (decide (nV ((l.take ((l.length:Int).toNat)).drop (1:Int).toNat)=ji))) ev (.b c1 (.o i0 (.c (.int .i64 old) [] g1 (.a (.call (.int .i64 old) []) (.a (.ix j) (.o g2 (.o g3 .xx))))))))))))
  rw[g4]at q2;exact H7 hX (l:=4) rfl rfl (by kernel_rfl) q1 rfl q2 rfl
 obtain⟨g1,g2,g3,g4⟩:=kV.V5 hk (n:=w) (by rw[Int.zero_add];exact fK (by omega) (by omega));have q2:dM X0 Qp T (iy n) LL 87 true (BJ Qp 87) 5 (Aj Qp 87) ⟨[(3,.val (.ptr 2 0 1)),(4,.val (lV l)),(5,.val (.int .i64 w))],[],Qv J f false none t⟩ .norm ⟨[],[],[.cells (J.ps (.fn f [] [])),.map (IX (kV.im t++[(.agg (l.getD 0 V0).ps,.int .i64 0)]) (kV.im t).length (.int .i64 (i64.wrap (0+w)))),.cells [.map 1],.mark,LRC J f false none]⟩:=
  xZ hX hO (by kernel_rfl) (.o z01 (.o a1 (.o z02 (.o a2 (.q (.bool (decide (nV ((l.take ((l.length:Int).toNat)).drop (1:Int).toNat)=ji))) ev (.b c1 (.o i0 (.q (.bool false) g1 (.a .calm (.o (kV.ck (l.getD 0 V0)) (.o g1 (.o g2 (.o g3 .xx)))))))))))))
 have g4:IX (kV.im t++[(.agg (l.getD 0 V0).ps,.int .i64 0)]) (kV.im t).length (.int .i64 (i64.wrap (0+w)))=kV.im (rV t (l.getD 0 V0) w):=g4;rw[g4]at q2;exact H7 hX (l:=4) rfl rfl (by kernel_rfl) q1 rfl q2 rfl
open Go Tw Pv bQ
abbrev HN(J:Jb)(f:Nat)(t:List (V×Int))(now:List (S3×Int)):List (PB aC):=Qv J f true none t++[.map (kS.im now)]
abbrev ZN:Code:=eP (eP (eU (eP (eU (eU Qu)))))
abbrev bB1:Code:=eP (eP (eU (eU ZN)))
abbrev bIB:Code:=eP (eP (eU (eP (eU (eU bB1)))))
abbrev bX:Code:=eP (eU (eU bIB))
abbrev bL2:Code:=eP (eP (eU (eU (eU (eU Qu)))))
abbrev bX2:Code:=eP (eU (eU bL2))
abbrev a3F(J:Jb)(c:Int)(a:Int):List (Nat×PE aC):=[(1,.val (.kG 4)),(2,.loc 0 0),(6,xi c),(7,.val (.map 6)),(21,xL 3 J.o),(22,xi J.o.length),(23,xi a),(29,.val (.iter 7))]
abbrev HI(J:Jb)(f:Nat)(t:List (V×Int))(now next:List (S3×Int))(seen:List Nat):List (PB aC):=HN J f t now++[.map (kS.im next),.cO 5 now.length seen]
structure NI(J:Jb)(a:Nat)(m:List (S3×Int)):Prop where
 nd:(m.map (·.1)).Nodup
 pos:∀e∈m,0<e.2
 dp:∀e∈m,Dp J a e.1
theorem NI.add{J:Jb}{a:Nat}{m:List (S3×Int)}(h:NI J a m){s:S3}{n:Int}(hs:Dp J a s)(hn:0<n):NI J a (rV m s n):=
 ⟨FH h.nd s n,OH hn h.pos,fun e he=>by
  rcases a6q he with e1|⟨e',h1,h2⟩
  .rw[e1];exact hs
  .rw[<-h2];exact h.dp e' h1⟩
theorem AQ{κ:Type}[DecidableEq κ](q:Int):∀m:List (κ×Int),dF (fun _=>q) m=dF (fun _=>1) m*q
 | []=>by simp[dF]
 |e::m=>by simp only[dF,AQ q m,agV,abS]
theorem I9{κ:Type}[DecidableEq κ]:∀{m:List (κ×Int)},(∀e∈m,0<e.2)->0<=dF (fun _=>1) m∧∀e∈m,e.2<=dF (fun _=>1) m
 | [],_=>⟨a8M _,fun e he=>by cases he⟩
 |x::m,h=>by
  obtain⟨h1,h2⟩:=I9 (m:=m) fun e he=>h e (by simp[he]);have h0:=h x (by simp);simp only[dF,abS];refine⟨by omega,fun e he=>?_⟩;rcases a2d.1 he with rfl|he
  .omega
  have:=h2 e he;omega
theorem a7T{κ:Type}[DecidableEq κ]{m:List (κ×Int)}{q:Nat}(hp:∀e∈m,0<e.2)(hq:1<=q)(hs:dF (fun _=>(q:Int)) m<=2000):∀e∈m,e.2<=2000:=fun e he=>by
 obtain⟨h1,h2⟩:=I9 hp;rw[AQ]at hs;have h3:=h2 e he;have:dF (fun _=>1) m<=dF (fun _=>1) m*(q:Int):=by have:=a8G (show(1:Int)<=q by omega) h1;omega
 omega
theorem XZ{J:Jb}(r:LI0)(m:List (S3×Int)):dF (xC J (fun _=>1) r) m=dF (fun _=>(zN J r:Int)) m:=by
 induction m with
 |nil=>rfl
 |cons e m ih=>simp only[dF,ih,Ec]
theorem Ef{J:Jb}{a:Nat}{r:LI0}{m:List (S3×Int)}(h:NI J a m)(hq:1<=zN J r){s:S3}{n b:Int}(hn:0<n)(hs:dF (fun _=>(zN J r:Int)) m+n*(zN J r:Int)<=b)(hb:b<=2000):n<=2000∧(∀e∈m,e.2<=2000)∧∀e∈m,i64.wrap (e.2+n)=e.2+n:=by
 obtain⟨h1,h2⟩:=I9 h.pos;have h3:0<=dF (fun _=>(zN J r:Int)) m:=by rw[AQ];exact afB h1 (by omega)
 have h4:n<=n*(zN J r:Int):=by have:=a8G (show(1:Int)<=zN J r by omega) (show 0<=n by omega);omega
 have h5:0<=n*(zN J r:Int):=by omega
 have h6:=a7T h.pos hq (show dF (fun _=>(zN J r:Int)) m<=2000 by omega);refine⟨by omega,h6,fun e he=>?_⟩;have:=h6 e he;have:=h.pos e he;exact fK (by omega) (by omega)
theorem a1L{now:List (S3×Int)}{j:Nat}{st:S3}{w:Int}(h:now[j]? = some (st,w)):(kS.im now).length=now.length∧(kS.im now)[j]? = some (.agg st.ps,.int .i64 w):=by refine⟨kS.oZ now,?_⟩;rw[kS.AP,h];rfl
section
variable {n:Nat} {J:Jb} (hJ:kE J) {f:Nat} (t:List (V×Int)) (now:List (S3×Int)) (seen:List Nat) {a:Nat} {c:Int} {r:LI0} {st:S3} {w:Int} {j:Nat}
abbrev sX(J:Jb)(f:Nat)(t:List (V×Int))(now next:List (S3×Int))(c:Int)(a:Int)(st:S3)(w:Int)(js:List Nat):aS aC:=⟨jd (T.iw 136 7) ((31,.val (.bool true))::(30,.val (.dG [.bool true,.agg st.ps,.int .i64 w]))::a3F J c a),[J.ps (.fn f [] [])],HI J f t now next js⟩
abbrev sZ(J:Jb)(f:Nat)(t:List (V×Int))(now next:List (S3×Int))(c:Int)(a:Int)(st:S3)(js:List Nat):aS aC:=⟨a3F J c a,[J.ps (.fn f [] []),st.ps],HI J f t now next js⟩
abbrev wDi(J:Jb)(f:Nat)(t:List (V×Int))(now:List (S3×Int))(c:Int)(a:Int)(st:S3)(w:Int)(js:List Nat)(next:List (S3×Int))(i:Int)(x:List (Nat×PE aC)):aS aC:=⟨[(1,.val (.kG 4)),(2,.loc 0 0),(6,xi c),(7,.val (.map 6)),(8,.loc 1 0),(9,xi w),(21,xL 3 J.o),(22,xi J.o.length),(23,xi a),(29,.val (.iter 7)),(75,xi (J.s.getD c.toNat 0)),(76,xi i)]++x,[J.ps (.fn f [] []),st.ps],HI J f t now next js⟩
include hJ
theorem lDi(hr:J.o.drop a=c::r)(hd:Dp J a st)(hw:0<w){next:List (S3×Int)}(hN:NI J (a+1) next)(hg:¬decide (J.g.getD c.toNat 0>=0)=true)(hb:dF (fun _=>(zN J r:Int)) next+w*(zN J (c::r):Int)<=2000)(js:List Nat) :
  ∃next',NI J (a+1) next'∧(∀ψ,dF (xC J ψ r) next'=dF (xC J ψ r) next+w*xC J ψ (c::r) st) ∧
   MC (n+1) 136 2 5 (wDi J f t now c a st w js next 0 []) (.exit 5) (wDi J f t now c a st w js next' ((J.s.getD c.toNat 0).toNat:Nat) [(77,xl false)]):=by
 obtain⟨aT,hoc,xg,GU,hci,rZ⟩:=kE.at_ hJ hr;have hz:=hJ.eF.sz _ (eu (s:=J.s) (k:=c.toNat) (by have:=rZ.1;have:=rZ.2;omega));have hri:∀c'∈r,gW c' J.s.length:=fun c' h=>(kE.o2 hJ).2.2 c' (by rw[<-xg]at h;exact a5s h);have hq:=(Jz hJ hri).1;have pF:(zN J (c::r):Int)=((J.s.getD c.toNat 0).toNat:Int)*(zN J r:Int):=by
  have:(AL J c).length=(J.s.getD c.toNat 0).toNat:=by unfold AL;rw[a0c hg];simp
  rw[zN,this,adT]
 let g:Nat->List (S3×Int)->List (S3×Int):=fun k y=>rV y (bJ J.D st c k) w
 have inv:=dU (g:=g) (m:=(J.s.getD c.toNat 0).toNat) (k:=0) (s:=next) (fun k y=>NI J (a+1) y∧∀ψ,dF (xC J ψ r) y=dF (xC J ψ r) next+w*dS (fun(j:Nat)=>xC J ψ r (bJ J.D st c j)) (List.range k)) ⟨hN,fun ψ=>by simp[dS]⟩ (fun k y _ hk hy=>by obtain⟨h1,h2⟩:=hy;refine⟨h1.add (mO hJ hr hd ⟨by omega,by omega⟩) hw,fun ψ=>?_⟩;show dF (xC J ψ r) (rV y _ w)=_;rw[zu,h2 ψ,abA,Hl,Int.mul_add];simp only[dS,Int.add_zero];omega)
 rw[a3T]at inv;refine⟨_,inv.1,fun ψ=>by rw[inv.2 ψ,aaD hg],?_⟩;have bound:∀k y,k<(J.s.getD c.toNat 0).toNat->(∀ψ,dF (xC J ψ r) y=dF (xC J ψ r) next+w*dS (fun(j:Nat)=>xC J ψ r (bJ J.D st c j)) (List.range k))->dF (fun _=>(zN J r:Int)) y+w*(zN J r:Int)<=2000:=fun k y hk hy=>by have h1:=hy fun _=>1;rw[XZ,XZ,qj (φ':=fun _=>(zN J r:Int)) (fun _ _=>Ec r _),AO,a8D]at h1;rw[h1];rw[pF]at hb;have h2:((k:Int)+1)*(zN J r:Int)<=((J.s.getD c.toNat 0).toNat:Int)*(zN J r:Int):=aaK (by omega) (by omega);have h3:=a8G h2 (show 0<=w by omega);rw[agV,Int.mul_add,Int.one_mul]at h3;omega
 refine rM (σ:=List (S3×Int)) (N:=(J.s.getD c.toNat 0).toNat) (g:=g) (s0:=next) (st:=fun i y=>wDi J f t now c a st w js y i []) (fin:=fun y=>wDi J f t now c a st w js y (((J.s.getD c.toNat 0).toNat:Nat):Int) [(77,xl false)]) (fun k y=>NI J (a+1) y∧∀ψ,dF (xC J ψ r) y=dF (xC J ψ r) next+w*dS (fun(j:Nat)=>xC J ψ r (bJ J.D st c j)) (List.range k)) (by kernel_rfl) (by unfold ah;omega) ⟨hN,fun ψ=>by simp[dS]⟩ (fun k y hk hy=>?_) (fun k y hk hy m e p g9=>?_) (fun y _=>?_)
 .obtain⟨h1,h2⟩:=hy;refine⟨h1.add (mO hJ hr hd ⟨by omega,by omega⟩) hw,fun ψ=>?_⟩;show dF (xC J ψ r) (rV y _ w)=_;rw[zu,h2 ψ,abA,Hl,Int.mul_add];simp only[dS,Int.add_zero];omega
 .obtain⟨h1,h2⟩:=hy;obtain⟨b1,b2,b3⟩:=Ef h1 hq (s:=bJ J.D st c k) hw (bound k y hk h2) (a8M _);have t1:decide ((k:Int)<J.s.getD c.toNat 0)=true:=by rw[a1o];omega
  have ha:=Jr (M:=n) (f:=f) (a:=[]) (cc:=[]) (H:=[]) J st c k hJ.d3 fun i hi=>Jt hJ hd ⟨by omega,by omega⟩ hi;have g9:dI X0 Qp T (iy (n+1)) LL 136 false _ 5 _ m (wDi J f t now c a st w js (rV y (bJ J.D st c k) w) _ []) e p:=g9;by_cases hk:bJ J.D st c k∈y.map (·.1)
  .obtain⟨jj,old,g1,g2,g3,g4⟩:=kS.V4 (a7O _) h1.nd hk (n:=w) b3;unfold wDi HI at g9;rw[<-g4]at g9;exact aJ fZ (.b t1 (.fr [] ha (.c (.int .i64 old) [] g1 (.a (.call (.int .i64 old) []) (.a (.ix jj) (.o g2 (.o g3 (.go g9))))))))
  .obtain⟨g1,g2,g3,g4⟩:=kS.V5 hk (n:=w) (by rw[Int.zero_add];exact fK (by omega) (by omega));unfold wDi HI at g9;rw[<-g4]at g9;exact aJ fZ (.b t1 (.fr [] ha (.q (.bool false) g1 (.a .calm (.o (kS.ck (bJ J.D st c k)) (.o g1 (.o g2 (.o g3 (.go g9)))))))))
 .have t1:decide ((((J.s.getD c.toNat 0).toNat:Nat):Int)<J.s.getD c.toNat 0)=false:=by rw[a2I];omega
  exact aJ fZ (.b t1 .ex)
end
open Go Tw Pv bQ
abbrev sH(J:Jb)(f:Nat)(t:List (V×Int))(now next:List (S3×Int))(c:Int)(a:Int)(js:List Nat):aS aC:=⟨a3F J c a,[J.ps (.fn f [] [])],HI J f t now next js⟩
section
variable {n:Nat} {J:Jb} (hJ:kE J) {f:Nat} (t:List (V×Int)) (now:List (S3×Int)) (seen:List Nat) {a:Nat} {c:Int} {r:LI0} {st:S3} {w:Int} {j:Nat}
include hJ
theorem akF(hr:J.o.drop a=c::r)(hd:Dp J a st)(hw:0<w){next:List (S3×Int)}(hN:NI J (a+1) next)(hj:now[j]? = some (st,w))(hb:dF (fun _=>(zN J r:Int)) next+w*(zN J (c::r):Int)<=2000) :
  ∃next' e s',NI J (a+1) next'∧(∀ψ,dF (xC J ψ r) next'=dF (xC J ψ r) next+w*xC J ψ (c::r) st)∧(e=.norm∨e=.exit 3) ∧
   dM X0 Qp T (iy (n+1)) LL 136 false (BJ Qp 136) 5 bX (sX J f t now next c a st w (j::seen)) e s' ∧
   gJ X0 (T.eX 136 (dQ bIB)) s'=sH J f t now next' c a (j::seen):=by
 obtain⟨aT,hoc,xg,GU,hci,rZ⟩:=kE.at_ hJ hr;have hz:=hJ.eF.sz _ (eu (s:=J.s) (k:=c.toNat) (by have:=rZ.1;have:=rZ.2;omega));have hri:∀c'∈r,gW c' J.s.length:=fun c' h=>(kE.o2 hJ).2.2 c' (by rw[<-xg]at h;exact a5s h);have hq:=(Jz hJ hri).1;have hcG:gW c J.g.length:=by rw[hJ.gl];exact rZ
 have ho:=a1L hj;by_cases hg:decide (J.g.getD c.toNat 0>=0)=true
 .have hl1:(zN J (c::r):Int)=zN J r:=by rw[zN,AL,a0g hg];simp
  rw[hl1]at hb;have hgv:0<=J.g.getD c.toNat 0:=by simpa using hg
  have Zj:=mO hJ hr hd ⟨hgv,hJ.gv c rZ hgv⟩;obtain⟨b1,b2,b3⟩:=Ef hN hq (s:=st) hw hb (a8M _);have ha:=Jr (M:=n) (f:=f) (a:=[]) (cc:=[]) (H:=[]) J st c (J.g.getD c.toNat 0) hJ.d3 fun i hi=>Jt hJ hd ⟨hgv,hJ.gv c rZ hgv⟩ hi;refine⟨rV next (bJ J.D st c (J.g.getD c.toNat 0)) w,.exit 3,sZ J f t now (rV next (bJ J.D st c (J.g.getD c.toNat 0)) w) c a st (j::seen),hN.add Zj hw,fun ψ=>by rw[zu,a3C hg],.inr rfl,?_,by kernel_rfl⟩;unfold sZ HI;by_cases hk:bJ J.D st c (J.g.getD c.toNat 0)∈next.map (·.1)
  .obtain⟨jj,old,g1,g2,g3,g4⟩:=kS.V4 (a7O _) hN.nd hk (n:=w) b3;rw[<-g4];exact zy hX fZ (by kernel_rfl) (.c (.dG [.agg st.ps,.int .i64 w]) [] ho (.o rZ (.o hcG (.b hg (.fr [] ha (.c (.int .i64 old) [] g1 (.a (.call (.int .i64 old) []) (.a (.ix jj) (.o g2 (.o g3 (.r rfl)))))))))))
  .obtain⟨g1,g2,g3,g4⟩:=kS.V5 hk (n:=w) (by rw[Int.zero_add];exact fK (by omega) (by omega));rw[<-g4];exact zy hX fZ (by kernel_rfl) (.c (.dG [.agg st.ps,.int .i64 w]) [] ho (.o rZ (.o hcG (.b hg (.fr [] ha (.q (.bool false) g1 (.a .calm (.o (kS.ck (bJ J.D st c (J.g.getD c.toNat 0))) (.o g1 (.o g2 (.o g3 (.r rfl))))))))))))
 have hg':decide (J.g.getD c.toNat 0>=0)=false:=by simpa using hg
 have uT:((J.s.getD c.toNat 0).toNat:Int)=J.s.getD c.toNat 0:=by omega
 have pF:(zN J (c::r):Int)=J.s.getD c.toNat 0*(zN J r:Int):=by
  have:(AL J c).length=(J.s.getD c.toNat 0).toNat:=by unfold AL;rw[a0c hg];simp
  rw[zN,this,adT,uT]
 have hs:=a7C (M:=n) (f:=f) (a:=[]) (cc:=[]) (H:=[]) J st c hJ.d3 (fun k hk h=>⟨by simpa using h,(hd k hk).1.1⟩);cases AB:jR J.D st c
 .rw[AB]at hs;have Zj:=UU hJ hr hd AB;have hm:0<w*J.s.getD c.toNat 0:=Int.mul_pos hw (by omega);rw[pF,<-Int.mul_assoc]at hb;obtain⟨b1,b2,b3⟩:=Ef hN hq (s:=st) hm hb (a8M _);have hwm:i64.wrap (w*J.s.getD c.toNat 0)=w*J.s.getD c.toNat 0:=fK (by omega) (by omega);refine⟨rV next st (w*J.s.getD c.toNat 0),.exit 3,sZ J f t now (rV next st (w*J.s.getD c.toNat 0)) c a st (j::seen),hN.add Zj hm,fun ψ=>by rw[zu,afC hg AB,uT,Int.mul_assoc],.inr rfl,?_,by kernel_rfl⟩;unfold sZ HI;by_cases hk:st∈next.map (·.1)
  .obtain⟨jj,old,g1,g2,g3,g4⟩:=kS.V4 (a7O _) hN.nd hk (n:=w*J.s.getD c.toNat 0) b3;rw[<-g4,<-hwm];exact zy hX fZ (by kernel_rfl) (.c (.dG [.agg st.ps,.int .i64 w]) [] ho (.o rZ (.o hcG (.b hg' (.fr [] hs (.b (rfl:(!false)=true) (.c (.int .i64 old) [] g1 (.a (.call (.int .i64 old) []) (.a (.ix jj) (.o g2 (.o g3 (.r rfl))))))))))))
  .obtain⟨g1,g2,g3,g4⟩:=kS.V5 hk (n:=w*J.s.getD c.toNat 0) (by rw[Int.zero_add];exact hwm);rw[<-g4,<-hwm];exact zy hX fZ (by kernel_rfl) (.c (.dG [.agg st.ps,.int .i64 w]) [] ho (.o rZ (.o hcG (.b hg' (.fr [] hs (.b (rfl:(!false)=true) (.q (.bool false) g1 (.a .calm (.o (kS.ck st) (.o g1 (.o g2 (.o g3 (.r rfl)))))))))))))
 .rw[AB]at hs;obtain⟨next',h1,h2,h3⟩:=lDi (n:=n) hJ (f:=f) t now hr hd hw hN hg hb (j::seen);refine⟨next',.norm,_,h1,h2,.inl rfl,zy (ps1:=wDi J f t now c a st w (j::seen) next' ((J.s.getD c.toNat 0).toNat:Nat) [(77,xl false)]) hX fZ (by kernel_rfl) (.c (.dG [.agg st.ps,.int .i64 w]) [] ho (.o rZ (.o hcG (.b hg' (.fr [] hs (.b (rfl:(!true)=false) (.w h3 (.r rfl)))))))),by kernel_rfl⟩
end
end Go.Proofs.YtmobpoiejckagaaGreat
namespace Pv
open Go Tw
section
variable {X:kJ} {P:LI1} {T:qx} {call:aY} {cd:uU} {L f nt B:Nat}
theorem aK.AU{a b:Code}{ps s1:aS X.Γ}{Q:Ex->aS X.Γ->Prop}(hn:nS a=true)(ha:dM X P T call L f false nt B a ps .norm s1)(hb:aK X P T call cd L f nt B b s1 Q):aK X P T call cd L f nt B (.seq a b) ps Q:=
 aK.seq (R:=fun e s=>e=.norm∧s=s1) (dM.dem hn ha ⟨rfl,rfl⟩) (fun s h=>by obtain⟨_,rfl⟩:=h;exact hb) (fun i s h=>by cases h.1) (fun s h=>by cases h.1)
theorem aK.step{c:Code}{ps:aS X.Γ}{e:Ex}{ps1:aS X.Γ}{Q:Ex->aS X.Γ->Prop}(hn:nS c=true)(ha:dM X P T call L f false nt B c ps e ps1)(hq:Q e ps1):aK X P T call cd L f nt B c ps Q:=dM.dem hn ha hq
end
end Pv
namespace Go.Proofs.YtmobpoiejckagaaGreat
open Go Tw Pv bQ
theorem KF{α:Type}[DecidableEq α](φ:α->Int)(p:α->Bool):∀l:List α,dS φ l=dS φ (l.filter p)+dS φ (l.filter fun a=>!p a)
 | []=>rfl
 |a::l=>by
  rw[dS,KF φ p l];cases h:p a
  .rw[ad7 (by simp[h]),ad8 (by simp[h]),dS];omega
  rw[ad8 h,ad7 (by simp[h]),dS];omega
theorem V8{α:Type}[DecidableEq α]{φ:α->Int}:∀{l:List α},(∀a∈l,0<=φ a)->0<=dS φ l
 | [],_=>a8M _
 |a::l,h=>by have:=V8 (l:=l) fun b hb=>h b (by simp[hb]);have:=h a (by simp);rw[dS];omega
theorem JB{n:Nat}{l:List Nat}(hn:l.Nodup)(hl:∀j∈l,j<n):((List.range n).filter fun j=>l.contains j).Perm l:=
 (a7y (List.nodup_range.filter _) hn).2 fun j=>by rw[a7S,a4i,List.contains_iff_mem];exact⟨fun h=>h.2,fun h=>⟨hl j h,h⟩⟩
theorem V9{n:Nat}{φ:Nat->Int}{l:List Nat}(hn:l.Nodup)(hl:∀j∈l,j<n)(hp:∀j,j<n->0<=φ j):dS φ l<=dS φ (List.range n):=by rw[KF φ (fun j=>l.contains j) (List.range n),Jc φ (JB hn hl)];have:=V8 (φ:=φ) (l:=(List.range n).filter fun j=>!l.contains j) fun j hj=>hp j (a4i.1 (a7S.1 hj).1);omega
theorem PG{n:Nat}{φ:Nat->Int}{l:List Nat}(hn:l.Nodup)(hl:∀j∈l,j<n)(ha:∀j,j<n->j∈l):dS φ l=dS φ (List.range n):=
 (Jc φ ((a7y adJ hn).2 fun j=>⟨fun h=>ha j (a4i.1 h),fun h=>a4i.2 (hl j h)⟩)).symm
abbrev nowAt(now:List (S3×Int))(j:Nat):S3×Int:=now.getD j (⟨0,0,0⟩,0)
theorem Ia{φ:S3->Int}(now:List (S3×Int)):dS (fun j=>(nowAt now j).2*φ (nowAt now j).1) (List.range now.length)=dF φ now:=by
 have h1:dF φ now=dS (fun e:S3×Int=>e.2*φ e.1) now:=by
  induction now with
  |nil=>rfl
  |cons e m ih=>simp only[dF,dS,ih]
 have h2:now=(List.range now.length).map fun j=>nowAt now j:=by refine(qX (d:=(⟨⟨0,0,0⟩,0⟩:S3×Int)) (by simp)).2 fun k hk=>?_;simp[List.getD,hk]
 rw[h1]
 conv=>rhs;rw[h2]
 rw[zH]
theorem Y0{now:List (S3×Int)}{j:Nat}{e:S3×Int}(h:now[j]? = some e):nowAt now j=e∧j<now.length∧e∈now:=by obtain⟨h1,h2⟩:=a01.1 h;exact⟨by simp[nowAt,List.getD,h],h1,h2▸a4q h1⟩
section
variable {n:Nat} {J:Jb} (hJ:kE J) {f:Nat} (t:List (V×Int)) (now:List (S3×Int)) {a:Nat} {c:Int} {r:LI0}
def InS(J:Jb)(f:Nat)(t:List (V×Int))(now:List (S3×Int))(a:Nat)(c:Int)(r:LI0)(seen:List Nat)(s:aS aC):Prop:=
 seen.Nodup∧(∀j∈seen,j<now.length)∧∃next,NI J (a+1) next∧(∀ψ,dF (xC J ψ r) next=dS (fun j=>(nowAt now j).2*xC J ψ (c::r) (nowAt now j).1) seen)∧gJ X0 (T.eX 136 (dQ bIB)) s=sH J f t now next c a seen
structure yh(J:Jb)(a:Nat)(now:List (S3×Int)):Prop where
 i:NI J a now
 s:∀ψ,dF (xC J ψ (J.o.drop a)) now=xC J ψ J.o (fG J.D)
include hJ
theorem afN:(zN J J.o:Int)<=2000:=by have h1:=(Jz hJ (kE.o2 hJ).2.2).2;have hw:=Pj hJ.eF.sz hJ.ord;have hm:=hJ.eF.many;omega
theorem MO(h:yh J a now):dF (fun _=>(zN J (J.o.drop a):Int)) now<=2000:=by have:=h.s fun _=>1;rw[XZ,Ec]at this;have:=afN hJ;omega
theorem Y1(a:Nat):1<=zN J (J.o.drop a):=(Jz hJ fun c hc=>(kE.o2 hJ).2.2 c (a5s hc)).1
theorem a1M(h:yh J a now):now.length<=2000∧∀e∈now,e.2<=2000:=by
 have h1:=a7T h.i.pos (Y1 hJ a) (MO hJ now h);obtain⟨h2,h3⟩:=I9 h.i.pos;have h4:=MO hJ now h;rw[AQ]at h4;have h5:=a8G (show(1:Int)<=zN J (J.o.drop a) by have:=Y1 hJ a;omega) h2;have h6:∀{m:List (S3×Int)},(∀e∈m,0<e.2)->(m.length:Int)<=dF (fun _=>1) m:=by
  intro m
  induction m with
  |nil=>intro _;exact a8M _
  |cons e m ih=>
   intro hp;have:=ih fun e he=>hp e (by simp[he]);have:=hp e (by simp);simp only[dF,a4b,abS];omega
 have:=h6 h.i.pos;exact⟨by omega,h1⟩
set_option maxRecDepth 20000 in
theorem inLoop(hr:J.o.drop a=c::r)(h:yh J a now):aK X0 Qp T (iy (n+1)) Cm LL 136 (BJ Qp 136) 5 (.block 2 (.loop bIB)) (sH J f t now [] c a [])
  fun e s=>e=.norm∧∃next seen,NI J (a+1) next∧(∀ψ,dF (xC J ψ r) next=dF (xC J ψ (c::r)) now)∧s={ sH J f t now next c a seen with env:=jd (T.iw 136 7) ((31,.val (.bool false))::(30,.val (.dG [.bool false]))::a3F J c a) }:=by
 have e0:bIB=.seq (.region 7 (a6y (eP bIB)) false) (.seq (.cond (.tmp 31) .skip (.exit 2)) (.block 3 bX)):=by kernel_rfl
 rw[e0];have hlen:=a1M hJ now h;have hlL:(kS.im now).length=now.length:=kS.oZ now;have hql:=(Jz hJ (r:=c::r) fun c' hc=>(kE.o2 hJ).2.2 c' (by rw[<-hr]at hc;exact a5s hc)).1;refine UD hX (n:=now.length) (b:=7) (r:=5) (it:=29) (nx:=30) (mo:=31) (es:=kS.im now) (fun seen s=>InS J f t now a c r seen s) (by kernel_rfl) (a6N (by kernel_rfl)) (a6N (by kernel_rfl)) hlL (by unfold LL;omega)
  ⟨a5O,(fun j hj=>(by cases hj)),[],⟨a5O,(fun e he=>(by cases he)),(fun e he=>(by cases he))⟩,(fun ψ=>rfl),(by kernel_rfl)⟩ (fun seen s hi=>?_)
 obtain⟨jy,aT,next,h1,h2,h3⟩:=hi;rw[<-e0];refine⟨_,h3,by kernel_rfl,by kernel_rfl,by kernel_rfl,fun ho=>⟨by kernel_rfl,next,seen,h1,fun ψ=>?_,rfl⟩,fun j e hj he=>⟨by kernel_rfl,?_⟩⟩
 .rw[h2,PG jy aT ho,Ia]
 .rw[kS.AP,a05]at he;obtain⟨⟨st,w⟩,rU,rfl⟩:=he;obtain⟨q1,q2,q3⟩:=Y0 rU;have FM:(j::seen).Nodup:=a4k.2 ⟨hj,jy⟩;have FN:∀k∈j::seen,k<now.length:=fun k hk=>by
   rcases a2d.1 hk with rfl|hk
   .exact q2
   .exact aT k hk
  have hb:dF (fun _=>(zN J r:Int)) next+w*(zN J (c::r):Int)<=2000:=by
   have e1:=h2 fun _=>1;rw[XZ]at e1;have e2:=V9 (φ:=fun j=>(nowAt now j).2*xC J (fun _=>1) (c::r) (nowAt now j).1) FM FN fun k hk=>by have:=h.i.pos _ (dK (d:=(⟨⟨0,0,0⟩,0⟩:S3×Int)) hk);rw[Ec];exact afB (aey this) (Int.natCast_nonneg _)
   rw[Ia,dS,q1]at e2;have e3:=MO hJ now h;rw[hr]at e3;rw[XZ]at e2;have e4:xC J (fun _=>1) (c::r) st=(zN J (c::r):Int):=Ec _ _;simp only[e4]at e2;omega
  obtain⟨next',e',s',g1,g2,g3,g4,g5⟩:=akF (n:=n) hJ (f:=f) t now seen (st:=st) (w:=w) (j:=j) hr (h.i.dp _ q3) (h.i.pos _ q3) h1 rU hb;refine aK.step (by kernel_rfl) g4 ⟨g3,FM,FN,next',g1,fun ψ=>?_,g5⟩;rw[g2,h2,dS,q1,agL]
end
open Go Tw Pv bQ
abbrev akH(J:Jb)(a:Int)(x:List (Nat×PE aC)):List (Nat×PE aC):=[(1,.val (.kG 4)),(2,.loc 0 0),(4,.val (.map 5)),(21,xL 3 J.o),(22,xi J.o.length),(23,xi a)]++x
abbrev Va(J:Jb)(f:Nat)(t:List (V×Int))(now:List (S3×Int))(a:Int)(x:List (Nat×PE aC)):aS aC:=⟨akH J a x,[J.ps (.fn f [] [])],HN J f t now⟩
abbrev ntE:Nat:=BJ Qp 136
abbrev ExE(n:Nat)(c:Code)(s:aS aC)(e:Ex)(s':aS aC):Prop:=dM X0 Qp T (iy (n+1)) LL 136 false ntE 5 c s e s'
abbrev ExD(n:Nat)(c:Code)(s:aS aC)(Q:Ex->aS aC->Prop):Prop:=aK X0 Qp T (iy (n+1)) Cm LL 136 ntE 5 c s Q
section
variable {n:Nat} {J:Jb} (hJ:kE J) {f:Nat} (t:List (V×Int)) {now:List (S3×Int)} {a:Nat}
include hJ
set_option maxRecDepth 20000 in
theorem afO(h:yh J a now)(aT:a<J.o.length):ExD n ZN (Va J f t now a []) fun e s=>e=.norm∧∃JC,yh J (a+1) JC∧l7 5 [.gc [6]] (gJ X0 (T.eX 136 (dQ ZN)) s)=some (Va J f t JC ((a+1:Nat):Int) []):=by
 have hr:J.o.drop a=J.o.getD a 0::J.o.drop (a+1):=by rw[a7E aT];simp[List.getD,a0a aT]
 have QN:J.o.length<=6:=by rw[(kE.o2 hJ).2.1];exact hJ.eF.len
 have t1:decide ((a:Int)<(J.o.length:Int))=true:=aW aT;have e0:ZN=.seq (eP ZN) (.seq (.cond (.tmp 24) .skip (.exit 0)) (.seq (.block 1 bB1) (eU (eU (eU ZN))))):=by kernel_rfl
 have e1:bB1=.seq (eP bB1) (.seq (eP (eU bB1)) (.seq (.seq (eP (eP (eU (eU bB1)))) (.block 2 (.loop bIB))) (eU (eU (eU bB1))))):=by kernel_rfl
 have x3:ExE n (eP ZN) (Va J f t now a []) .norm (Va J f t now a [(24,.val (.bool (decide ((a:Int)<(J.o.length:Int)))))]):=zy hX fZ (by kernel_rfl) (.r rfl);have hc:zM (Va J f t now a [(24,.val (.bool (decide ((a:Int)<(J.o.length:Int)))))]).env (.tmp 24)=some (.bool true):=by rw[<-t1];kernel_rfl
 have i1:gW (a:Int) J.o.length:=aG aT;have x4:ExE n (eP bB1) (Va J f t now a [(24,.val (.bool (decide ((a:Int)<(J.o.length:Int)))))]) .norm ⟨[(1,.val (.kG 4)),(2,.loc 0 0),(4,.val (.map 5)),(6,xi (J.o.getD a 0)),(21,xL 3 J.o),(22,xi J.o.length),(23,xi a)],[J.ps (.fn f [] [])],HN J f t now⟩:=zy hX fZ (by kernel_rfl) (.o i1 (.r rfl));have x5:ExE n (eP (eU bB1)) ⟨[(1,.val (.kG 4)),(2,.loc 0 0),(4,.val (.map 5)),(6,xi (J.o.getD a 0)),(21,xL 3 J.o),(22,xi J.o.length),(23,xi a)],[J.ps (.fn f [] [])],HN J f t now⟩ .norm ⟨[(1,.val (.kG 4)),(2,.loc 0 0),(4,.val (.map 5)),(6,xi (J.o.getD a 0)),(7,.val (.map 6)),(21,xL 3 J.o),(22,xi J.o.length),(23,xi a)],[J.ps (.fn f [] [])],HN J f t now++[.map []]⟩:=zy hX fZ (by kernel_rfl) (.r rfl);have x6:ExE n (eP (eP (eU (eU bB1)))) ⟨[(1,.val (.kG 4)),(2,.loc 0 0),(4,.val (.map 5)),(6,xi (J.o.getD a 0)),(7,.val (.map 6)),(21,xL 3 J.o),(22,xi J.o.length),(23,xi a)],[J.ps (.fn f [] [])],HN J f t now++[.map []]⟩ .norm ⟨a3F J (J.o.getD a 0) a,[J.ps (.fn f [] [])],HN J f t now++[.map (kS.im []),.cO 5 (kS.im now).length []]⟩:=zy hX fZ (by kernel_rfl) (.r rfl);rw[kS.oZ now]at x6;rw[e0];refine aK.AU (by kernel_rfl) x3 (aK.seq (R:=fun e s=>e=.norm∧s=Va J f t now a [(24,.val (.bool (decide ((a:Int)<(J.o.length:Int)))))]) (aK.cond (t:=true) hc (aK.step (by kernel_rfl) (zy hX fZ (an:=.n) (by kernel_rfl) (.r rfl)) ⟨rfl,rfl⟩)) (fun s hs=>?_) (fun i s h=>by cases h.1) (fun s h=>by cases h.1));obtain⟨_,rfl⟩:=hs;refine aK.seq (R:=fun e s=>e=.norm∧∃next seen,yh J (a+1) next∧s=⟨[(1,.val (.kG 4)),(2,.loc 0 0),(4,.val (.map 6)),(21,xL 3 J.o),(22,xi J.o.length),(23,xi a)],[J.ps (.fn f [] [])],HI J f t now next seen⟩) ?_ (fun s hs=>?_) (fun i s h=>by cases h.1) (fun s h=>by cases h.1)
 .refine aK.block ?_;rw[e1];refine(aK.AU (by kernel_rfl) x4 (aK.AU (by kernel_rfl) x5 (aK.seq (R:=fun e s=>e=.norm∧∃next seen,NI J (a+1) next∧(∀ψ,dF (xC J ψ (J.o.drop (a+1))) next=dF (xC J ψ (J.o.getD a 0::J.o.drop (a+1))) now)∧s={ sH J f t now next (J.o.getD a 0) a seen with env:=jd (T.iw 136 7) ((31,.val (.bool false))::(30,.val (.dG [.bool false]))::a3F J (J.o.getD a 0) a) }) (Q:=fun e s=>e=.norm∧∃next seen,yh J (a+1) next∧s=⟨[(1,.val (.kG 4)),(2,.loc 0 0),(4,.val (.map 6)),(21,xL 3 J.o),(22,xi J.o.length),(23,xi a)],[J.ps (.fn f [] [])],HI J f t now next seen⟩) (aK.AU (by kernel_rfl) x6 (inLoop (n:=n) hJ t now hr h)) (fun s hs=>?_) (fun i s h=>by cases h.1) (fun s h=>by cases h.1)))).mono fun e s h=>?_
  .obtain⟨_,next,seen,g1,g2,rfl⟩:=hs;refine aK.step (by kernel_rfl) (zy (ps1:=⟨[(1,.val (.kG 4)),(2,.loc 0 0),(4,.val (.map 6)),(21,xL 3 J.o),(22,xi J.o.length),(23,xi a)],[J.ps (.fn f [] [])],HI J f t now next seen⟩) hX fZ (an:=.n) (by kernel_rfl) (.r rfl)) ⟨rfl,next,seen,⟨g1,fun ψ=>?_⟩,rfl⟩;rw[g2,<-hr,h.s]
  obtain⟨rfl,h2⟩:=h;exact⟨rfl,h2⟩
 obtain⟨_,next,seen,g1,rfl⟩:=hs;refine aK.step (by kernel_rfl) (zy (ps1:=⟨[(1,.val (.kG 4)),(2,.loc 0 0),(4,.val (.map 6)),(21,xL 3 J.o),(22,xi J.o.length),(23,xi (i64.wrap ((a:Int)+1)))],[J.ps (.fn f [] [])],HI J f t now next seen⟩) hX fZ (an:=.n) (by kernel_rfl) (.r rfl)) ⟨rfl,next,g1,?_⟩;rw[xY (by unfold ah;omega)]
 kernel_rfl
set_option maxRecDepth 20000 in
theorem a7U:ExD n ZN (Va J f t now J.o.length []) fun e s=>e=.exit 0∧s=Va J f t now J.o.length [(24,.val (.bool (decide ((J.o.length:Int)<(J.o.length:Int)))))]:=by
 have t1:decide ((J.o.length:Int)<(J.o.length:Int))=false:=eH _;have e0:ZN=.seq (eP ZN) (.seq (.cond (.tmp 24) .skip (.exit 0)) (.seq (.block 1 bB1) (eU (eU (eU ZN))))):=by kernel_rfl
 have x3:ExE n (eP ZN) (Va J f t now J.o.length []) .norm (Va J f t now J.o.length [(24,.val (.bool (decide ((J.o.length:Int)<(J.o.length:Int)))))]):=zy hX fZ (by kernel_rfl) (.r rfl);have hc:zM (Va J f t now J.o.length [(24,.val (.bool (decide ((J.o.length:Int)<(J.o.length:Int)))))]).env (.tmp 24)=some (.bool false):=by rw[<-t1];kernel_rfl
 rw[e0];refine aK.AU (by kernel_rfl) x3 (aK.seq (R:=fun e s=>e=.exit 0∧s=Va J f t now J.o.length [(24,.val (.bool (decide ((J.o.length:Int)<(J.o.length:Int)))))]) (aK.cond (t:=false) hc (aK.step (by kernel_rfl) (zy hX fZ (an:=.n) (by kernel_rfl) (.r rfl)) ⟨rfl,rfl⟩)) (fun s hs=>by cases hs.1) (fun i s h=>h) (fun s h=>by cases h.1))
set_option maxRecDepth 20000 in
theorem aaL(h:yh J 0 now):ExD n (.block 0 (.loop ZN)) (Va J f t now 0 []) fun e s=>e=.norm∧∃JC,yh J J.o.length JC∧s=Va J f t JC J.o.length [(24,.val (.bool (decide ((J.o.length:Int)<(J.o.length:Int)))))]:=by
 have QN:J.o.length<=6:=by rw[(kE.o2 hJ).2.1];exact hJ.eF.len
 refine aK.block ?_;refine aK.loop (fun k s=>∃a JC gs,a+k=J.o.length∧yh J a JC∧l7 5 gs (gJ X0 (T.eX 136 (dQ ZN)) s)=some (Va J f t JC (a:Int) [])) (fun k s hi=>?_) (k:=J.o.length) ⟨0,now,[],by omega,h,by kernel_rfl⟩ (by unfold LL;omega);obtain⟨a,JC,gs,hk,h1,h2⟩:=hi;refine aK.ghost hX h2 ?_;rcases a4d a J.o.length with aT|Et
 .refine(afO (n:=n) hJ t h1 aT).mono fun e s h3=>?_;obtain⟨rfl,apO,h4,h5⟩:=h3;exact⟨k-1,by omega,a+1,apO,_,by omega,h4,h5⟩
 have:a=J.o.length:=by omega
 subst this;refine(a7U (n:=n) hJ t).mono fun e s h3=>?_;obtain⟨rfl,rfl⟩:=h3;dsimp only;rw[a0g rfl];exact⟨rfl,JC,h1,rfl⟩
end
open Go Tw Pv bQ
def Y2(φ:V->Int)(l:List V):Int:=if mY (l.drop 1)=true then φ (l.getD 0 V0)else 0
theorem afP(φ:V->Int)(l:List V)(w:Int)(t:List (V×Int)):dF φ (yT l w t)=dF φ t+w*Y2 φ l:=by
 unfold yT Y2;cases mY (l.drop 1)
 .rw[a0c (by simp),a0c (by simp)];omega
 rw[a0g rfl,a0g rfl,zu]
abbrev sH2(J:Jb)(f:Nat)(t:List (V×Int))(now:List (S3×Int))(seen:List Nat):aS aC:=⟨[(1,.val (.kG 4)),(2,.loc 0 0),(94,.val (.iter 6))],[J.ps (.fn f [] [])],Qv J f true none t++[.map (kS.im now),.cO 5 now.length seen]⟩
structure ZO(t:List (V×Int)):Prop where
 nd:(t.map (·.1)).Nodup
 pos:∀e∈t,0<e.2
theorem ZO.y{t:List (V×Int)}(h:ZO t)(l:List V){w:Int}(hw:0<w):ZO (yT l w t):=by
 unfold yT;split
 .exact⟨FH h.nd _ _,OH hw h.pos⟩
 exact h
section
variable {n:Nat} {J:Jb} (hJ:kE J) {f:Nat} {now:List (S3×Int)}
def apP(J:Jb)(f:Nat)(now:List (S3×Int))(seen:List Nat)(s:aS aC):Prop:=
 seen.Nodup∧(∀j∈seen,j<now.length)∧∃t,ZO t∧(∀φ,dF φ t=dS (fun j=>(nowAt now j).2*Y2 φ (aV J.D (nowAt now j).1)) seen)∧gJ X0 (T.eX 136 (dQ bL2)) s=sH2 J f t now seen
theorem akI(l:List V):0<=Y2 (fun _=>1) l∧Y2 (fun _=>1) l<=1:=by unfold Y2;split<;>simp
include hJ
theorem afQ(h:yh J J.o.length now){seen:List Nat}(jy:seen.Nodup)(aT:∀j∈seen,j<now.length){t:List (V×Int)}(ht:ZO t)(hs:∀φ,dF φ t=dS (fun j=>(nowAt now j).2*Y2 φ (aV J.D (nowAt now j).1)) seen):Tal t:=by
 refine⟨ht.nd,ht.pos,fun e he=>?_⟩;have h1:=(I9 ht.pos).2 e he;have hp:∀j,j<now.length->0<(nowAt now j).2:=fun k hk=>h.i.pos _ (dK (d:=(⟨⟨0,0,0⟩,0⟩:S3×Int)) hk);have h2:=V9 (φ:=fun j=>(nowAt now j).2*Y2 (fun _=>1) (aV J.D (nowAt now j).1)) jy aT fun k hk=>afB (aey (hp k hk)) (akI _).1;have h3:dS (fun j=>(nowAt now j).2*Y2 (fun _=>1) (aV J.D (nowAt now j).1)) (List.range now.length)<=dS (fun j=>(nowAt now j).2*1) (List.range now.length):=by
  have:∀l:List Nat,(∀j∈l,j<now.length)->dS (fun j=>(nowAt now j).2*Y2 (fun _=>1) (aV J.D (nowAt now j).1)) l<=dS (fun j=>(nowAt now j).2*1) l:=by
   intro l
   induction l with
   |nil=>intro _;exact a8M _
   |cons j l ih=>
    intro hl;have:=ih fun k hk=>hl k (by simp[hk]);have:=a8G (akI (aV J.D (nowAt now j).1)).2 (aey (hp j (hl j (by simp))));simp only[dS];omega
  exact this _ fun j hj=>a4i.1 hj
 rw[Ia (φ:=fun _=>1)]at h3;have h4:=MO hJ now h;rw[List.drop_length]at h4;have h4:dF (fun _=>1) now<=2000:=h4;rw[<-hs]at h2;omega
set_option maxRecDepth 20000 in
theorem a3G(hO:Ok n rQ)(h:yh J J.o.length now)(hD:0<J.D.length):aK X0 Qp T (iy (n+1)) Cm LL 136 ntE 5 (.block 7 (.loop bL2)) (sH2 J f [] now [])
  fun e s=>e=.norm∧∃t seen,ZO t∧(∀φ,dF φ t=dF (fun st=>Y2 φ (aV J.D st)) now)∧s={ sH2 J f t now seen with env:=jd (T.iw 136 23) ((96,.val (.bool false))::(95,.val (.dG [.bool false]))::(sH2 J f t now seen).env) }:=by
 have e0:bL2=.seq (.region 23 (a6y (eP bL2)) false) (.seq (.cond (.tmp 96) .skip (.exit 7)) (.block 8 bX2)):=by kernel_rfl
 rw[e0];have hlen:=a1M hJ now h;refine UD hX (n:=now.length) (b:=6) (r:=5) (it:=94) (nx:=95) (mo:=96) (es:=kS.im now) (fun seen s=>apP J f now seen s) (by kernel_rfl) (a6N (by kernel_rfl)) (a6N (by kernel_rfl)) (kS.oZ now) (by unfold LL;omega)
  ⟨a5O,(fun j hj=>(by cases hj)),[],⟨a5O,(fun e he=>(by cases he))⟩,(fun φ=>rfl),(by kernel_rfl)⟩ (fun seen s hi=>?_)
 obtain⟨jy,aT,t,h1,h2,h3⟩:=hi;rw[<-e0];refine⟨_,h3,by kernel_rfl,by kernel_rfl,by kernel_rfl,fun ho=>⟨by kernel_rfl,t,seen,h1,fun φ=>?_,rfl⟩,fun j e hj he=>⟨by kernel_rfl,?_⟩⟩
 .rw[h2,PG jy aT ho,Ia (φ:=fun st=>Y2 φ (aV J.D st))]
 .rw[kS.AP,a05]at he;obtain⟨⟨st,w⟩,rU,rfl⟩:=he;obtain⟨q1,q2,q3⟩:=Y0 rU;have FM:(j::seen).Nodup:=a4k.2 ⟨hj,jy⟩;have FN:∀k∈j::seen,k<now.length:=fun k hk=>by
   rcases a2d.1 hk with rfl|hk
   .exact q2
   .exact aT k hk
  have ho:=a1L rU;have pF:(aV J.D st).length=J.D.length:=by simp[aV]
  have hw:=h.i.pos _ q3;have hc:=a1G (M:=n) (f:=f) J st hJ.d3 fun k hk=>(Ju hJ (h.i.dp _ q3) hk).2;have hd3:=hJ.d3;have hy:=apH (n:=n) hO J f (afQ hJ h jy aT h1 h2) (aV J.D st) (w:=w) (by omega) (by unfold ah;omega) ⟨hw,hlen.2 _ q3⟩;refine aK.step (e:=.norm) (by kernel_rfl) (zy (ps1:=⟨[(1,.val (.kG 4)),(2,.loc 0 0),(94,.val (.iter 6)),(106,xl false)],[J.ps (.fn f [] []),st.ps],Qv J f true none (yT (aV J.D st) w t)++[.map (kS.im now),.cO 5 now.length (j::seen)]⟩) hX fZ (by kernel_rfl) (.c (.dG [.agg st.ps,.int .i64 w]) [] ho (.fr [] hc (.fr [0,1,2,3,4] hy (.b (rfl:(!true)=false) (.r rfl)))))) ⟨.inl rfl,FM,FN,yT (aV J.D st) w t,h1.y _ hw,fun φ=>?_,by kernel_rfl⟩;rw[afP,h2,dS,q1,agL]
def a7V(J:Jb)(t:List (V×Int)):Prop:=ZO t∧∀φ,dF φ t=dS (fun q=>Y2 φ (J.D.map fun d=>Em d q)) (Qq J)
omit hJ in
theorem a3H(hJ:kE J):yh J 0 [(fG J.D,1)]:=by
 refine⟨⟨by simp,fun e he=>?_,fun e he=>?_⟩,fun ψ=>?_⟩
 .rw[a2p.1 he];show(0:Int)<1;decide
 .rw[a2p.1 he];exact XV hJ
 simp[dF]
set_option maxRecDepth 20000 in
theorem akJ(hO:Ok n rQ)(hD:0<J.D.length):a9V X0 Qp (uO Qp T (iy (n+1)) LL) (.fn 136 [.agg (J.ps (.fn f [] []))] []) [.kG 4] (Qv J f true none []) fun v H1=>∃(t:List (V×Int)) (G:List (PB aC)),a7V J t∧H1=Qv J f true none t++G:=by
 refine a1c (t:=Sv Qp 136) hX (by kernel_rfl) ?_;have e0:(Sv Qp 136).body=.seq (eP Qu) (.seq (eP (eU Qu)) (.seq (.seq (eP (eP (eU (eU Qu)))) (.block 0 (.loop ZN))) (.seq (eP (eU (eU (eU Qu)))) (.block 7 (.loop bL2))))):=by kernel_rfl
 rw[e0];have hs:=ZJ (M:=n) (f:=f) (a:=[]) (cc:=[]) (H:=[]) J hJ.d3;have hf:nM X0 Qp 148 (kS.es []) (kS.tv (fG J.D)):=kS.fresh (x:=fG J.D) (by simp);have x0:ExE n (eP Qu) ⟨kT X0 0 [.agg (J.ps (.fn f [] [])),.kG 4],[],Qv J f true none []⟩ .norm ⟨[(1,.val (.kG 4)),(2,.loc 0 0)],[J.ps (.fn f [] [])],Qv J f true none []⟩:=zy hX fZ (an:=.n) (by kernel_rfl) (.r rfl);have x1:ExE n (eP (eU Qu)) ⟨[(1,.val (.kG 4)),(2,.loc 0 0)],[J.ps (.fn f [] [])],Qv J f true none []⟩ .norm ⟨[(1,.val (.kG 4)),(2,.loc 0 0),(4,.val (.map 5))],[J.ps (.fn f [] [])],HN J f [] [(fG J.D,1)]⟩:=zy hX fZ (by kernel_rfl) (.fr [] hs (.q (.bool false) (kS.ck (fG J.D)) (.o hf (.r rfl))));have x2:ExE n (eP (eP (eU (eU Qu)))) ⟨[(1,.val (.kG 4)),(2,.loc 0 0),(4,.val (.map 5))],[J.ps (.fn f [] [])],HN J f [] [(fG J.D,1)]⟩ .norm (Va J f [] [(fG J.D,1)] 0 []):=zy hX fZ (an:=.n) (by kernel_rfl) (.r rfl);refine aK.AU (by kernel_rfl) x0 (aK.AU (by kernel_rfl) x1 (aK.seq (R:=fun e s=>e=.norm∧∃JC,yh J J.o.length JC∧s=Va J f [] JC J.o.length [(24,.val (.bool (decide ((J.o.length:Int)<(J.o.length:Int)))))]) (aK.AU (by kernel_rfl) x2 (aaL (n:=n) hJ [] (a3H hJ))) (fun s h=>?_) (fun i s h=>by cases h.1) (fun s h=>by cases h.1)));obtain⟨_,now,h1,rfl⟩:=h;have x3:ExE n (eP (eU (eU (eU Qu)))) (Va J f [] now J.o.length [(24,.val (.bool (decide ((J.o.length:Int)<(J.o.length:Int)))))]) .norm ⟨[(1,.val (.kG 4)),(2,.loc 0 0),(94,.val (.iter 6))],[J.ps (.fn f [] [])],Qv J f true none []++[.map (kS.im now),.cO 5 (kS.im now).length []]⟩:=zy hX fZ (an:=.n) (by kernel_rfl) (.r rfl);rw[kS.oZ now]at x3;refine aK.AU (by kernel_rfl) x3 ((a3G hJ hO h1 hD).mono fun e s h=>?_);obtain⟨rfl,t,seen,g1,g2,rfl⟩:=h;refine⟨.inl rfl,[],by kernel_rfl,t,[.map (kS.im now),.cO 5 now.length seen],⟨g1,fun φ=>?_⟩,rfl⟩;rw[g2];have:=h1.s fun st=>Y2 φ (aV J.D st);rw[List.drop_length]at this;rw[<-aaE hJ (Y2 φ)];exact this
end
open Go Tw Pv bQ
def Vb(J:Jb):List (List V):=(Qq J).map fun q=>J.D.map fun d=>Em d q
def jC(J:Jb):List V:=((Vb J).filter fun l=>mY (l.drop 1)).map fun l=>l.getD 0 V0
abbrev Vd(e:V×Int):LI0:=Rh e.1.tv
def bW(J:Jb):List (V×Int):=yY Vd (yG (jC J))
theorem a1N(φ:V->Int):∀L:List (List V),dS (Y2 φ) L=dS φ ((L.filter fun l=>mY (l.drop 1)).map fun l=>l.getD 0 V0)
 | []=>rfl
 |l::L=>by
  rw[dS,a1N φ L];unfold Y2;cases h:mY (l.drop 1)
  .rw[a0c (by simp),ad7 (by rw[h];simp)];omega
  rw[a0g rfl,ad8 (by rw[h]),a4c,dS]
theorem key_inj{l:List (V×Int)}(hn:(l.map (·.1)).Nodup):∀a∈l,∀b∈l,Vd a=Vd b->a=b:=fun a ha b hb h=>by
 have h1:a.1=b.1:=by have h:[a.1.f,a.1.n]=[b.1.f,b.1.n]:=h;simp only[adW,and_true]at h;obtain⟨⟨a1,a2⟩,_⟩:=a;obtain⟨⟨b1,b2⟩,_⟩:=b;simp only at h;rw[h.1,h.2]
 have h2:=yc hn ha;have h3:=yc hn hb;rw[h1,h3]at h2;exact acV h1 h2.symm
theorem a7W{J:Jb}{t:List (V×Int)}(h:a7V J t):t.Perm (yG (jC J)):=by obtain⟨f1,f2⟩:=Ak (jC J);refine UA h.1.nd f1 h.1.pos f2 fun φ=>?_;rw[h.2,Sj];unfold jC;rw[<-a1N];unfold Vb;rw[zH]
theorem a7X{J:Jb}{t:List (V×Int)}(h:a7V J t):yY Vd t=bW J:=EL (a7W h) (key_inj h.1.nd)
abbrev aaM(e:V×Int):TV×TV:=(e.1.tv,.int .i64 e.2)
theorem Ve:∀t:List (V×Int),wK (kV.im t)=some (t.map aaM)
 | []=>rfl
 |e::t=>by
  have:=Ve t;show(match pU (kV.pv e.1),pU (PV.int .i64 e.2:PV aC),wK (kV.im t)with
   |some k,some v,some r=>some ((k,v)::r)
   |_,_,_=>none)=_
  rw[this];rfl
section
variable {n:Nat} {J:Jb} (hJ:kE J) {f:Nat}
include hJ
set_option maxRecDepth 20000 in
theorem PK(hO:Ok n rQ)(hD:0<J.D.length):iQ (n+2) (.fn 87 [] []) [.agg (J.ps (.fn f [] []))] [] (.map 0) [.map (kV.im (bW J))]:=by
 refine a6v (X:=X0) (P:=Qp) (T:=T) (L:=LL) (n:=n+1) (f:=87) (first:=[]) (cap:=[]) (H:=[]) (t:=Sv Qp 87) (es0:=kV.im (bW J)) (a2X:=(bW J).map aaM) hX (by kernel_rfl) (by kernel_rfl) (by kernel_rfl) rfl (Ve _) ?_;have e0:(Sv Qp 87).body=.seq (eP XY) (.seq (eP (eU XY)) (.seq (.seq (eP (eP (eU (eU XY)))) (.block 0 (.rangeFunc (.tmp 8) #[9,10] (wJ Qp 87) (Aj Qp 87)))) (.seq (eP (eU (eU (eU XY)))) .ret))):=by kernel_rfl
 rw[e0];have x0:dM X0 Qp T (iy (n+1)) LL 87 false (BJ Qp 87) 0 (eP XY) ⟨kT X0 0 [.agg (J.ps (.fn f [] []))],[],[]⟩ .norm ⟨[(1,.val (.ptr 0 0 5)),(2,.val (.nil .map))],[],[.cells (J.ps (.fn f [] []))]⟩:=zy hX fZ (an:=.n) (by kernel_rfl) (.r rfl);have x1:dM X0 Qp T (iy (n+1)) LL 87 false (BJ Qp 87) 0 (eP (eU XY)) ⟨[(1,.val (.ptr 0 0 5)),(2,.val (.nil .map))],[],[.cells (J.ps (.fn f [] []))]⟩ .norm ⟨[(1,.val (.ptr 0 0 5)),(2,.val (.nil .map)),(3,.val (.ptr 2 0 1))],[],HQc J f []⟩:=zy hX fZ (an:=.n) (by kernel_rfl) (.r rfl);have x2:dM X0 Qp T (iy (n+1)) LL 87 false (BJ Qp 87) 0 (eP (eP (eU (eU XY)))) ⟨[(1,.val (.ptr 0 0 5)),(2,.val (.nil .map)),(3,.val (.ptr 2 0 1))],[],HQc J f []⟩ .norm ⟨a7Q J f,[],HQc J f []⟩:=zy hX fZ (an:=.n) (by kernel_rfl) (.r rfl);refine aK.AU (by kernel_rfl) x0 (aK.AU (by kernel_rfl) x1 (aK.seq (R:=fun e s=>e=.norm∧∃(t:List (V×Int)) (G:List (PB aC)),a7V J t∧s=⟨a7Q J f,[],Qv J f false (some .skip) t++G⟩) (aK.AU (by kernel_rfl) x2 (aK.block ?_)) (fun s h=>?_) (fun i s h=>by cases h.1) (fun s h=>by cases h.1)))
 .refine aK.range (f1:=136) (a1:=[.agg (J.ps (.fn f [] []))]) (b1:=[]) (K:=fun v H1=>∃(t:List (V×Int)) (G:List (PB aC)),a7V J t∧H1=Qv J f true none t++G) hX rfl (by kernel_rfl) (by kernel_rfl) (akJ hJ hO hD) (fun v H1 hk=>?_);obtain⟨t,G,h1,rfl⟩:=hk;exact⟨true,_,_,_,_,_,_,none,.norm,rfl,rfl,rfl,t,G,h1,rfl⟩
 obtain⟨_,t,G,h1,rfl⟩:=h;have x3:dM X0 Qp T (iy (n+1)) LL 87 false (BJ Qp 87) 0 (.seq (eP (eU (eU (eU XY)))) .ret) ⟨a7Q J f,[],Qv J f false (some .skip) t++G⟩ .ret ⟨[(2,.val (.map 1))],[],Qv J f false (some .skip) t++G⟩:=zy hX fZ (an:=.n) (by kernel_rfl) (.r rfl);refine aK.step (by kernel_rfl) x3 ⟨.inr rfl,[.map 1],by kernel_rfl,1,kV.im t,t.map aaM,rfl,rfl,Ve t,?_⟩;unfold Rj;rw[Sm (g:=aaM) (key:=Vd) (a6r:=fun e=>Rh e.1) (fun _=>rfl),a7X h1]
end
open Go Tw Pv bQ
abbrev PL(t:List (V×Int))(j:Nat):V×Int:=t.getD j (V0,0)
theorem Vf{t:List (V×Int)}{j:Nat}{e:V×Int}(h:t[j]? = some e):PL t j=e∧j<t.length∧e∈t:=by obtain⟨h1,h2⟩:=a01.1 h;exact⟨by simp[PL,List.getD,h],h1,h2▸a4q h1⟩
theorem afR(t:List (V×Int)):t=(List.range t.length).map fun j=>PL t j:=
 (qX (d:=((V0,0):V×Int)) (by simp)).2 fun k hk=>by simp[List.getD,hk]
theorem Y3(t:List (V×Int)):dS (fun j=>(PL t j).2) (List.range t.length)=dF (fun _=>1) t:=by
 have h1:dF (fun _=>1) t=dS (fun e:V×Int=>e.2) t:=by
  induction t with
  |nil=>rfl
  |cons e m ih=>simp only[dF,dS,ih,abS]
 rw[h1]
 conv=>rhs;rw[afR t]
 rw[zH]
theorem AV{t:List (V×Int)}{j:Nat}{v:V}{w:Int}(h:t[j]? = some (v,w)):(kV.im t).length=t.length∧(kV.im t)[j]? = some (.agg v.ps,.int .i64 w):=by refine⟨kV.oZ t,?_⟩;rw[kV.AP,h];rfl
structure JD(t:List (V×Int)):Prop where
 pos:∀e∈t,0<e.2
 tot:dF (fun _=>1) t<=2000
theorem JD.len{t:List (V×Int)}(h:JD t):t.length<=2000:=by
 have h6:∀{m:List (V×Int)},(∀e∈m,0<e.2)->(m.length:Int)<=dF (fun _=>1) m:=by
  intro m
  induction m with
  |nil=>intro _;exact a8M _
  |cons e m ih=>
   intro hp;have:=ih fun e he=>hp e (by simp[he]);have:=hp e (by simp);simp only[dF,a4b,abS];omega
 have:=h6 h.pos;have:=h.tot;omega
abbrev a3I:Code:=(Sv Qp 90).body
abbrev lpA:Code:=eP (eP (eU (eP (eU a3I))))
abbrev xA:Code:=eP (eU (eU lpA))
abbrev sA(t:List (V×Int))(z:Int)(js:List Nat):aS aC:=⟨[(2,xi z),(6,.val (.iter 1))],[],[.iD (kV.im t),.cO 0 t.length js]⟩
section
variable {n:Nat} {t:List (V×Int)}
set_option maxRecDepth 20000 in
theorem apQ(h:JD t):iQ (n+1) (.fn 90 [] []) [.map 0] [.iD (kV.im t)] (.int .i64 (dF (fun _=>1) t)) [.iD (kV.im t)]:=by
 refine a9W (X:=X0) (P:=Qp) (T:=T) (L:=LL) (n:=n) (f:=90) (first:=[]) (cap:=[]) (xs:=[.map 0]) (H:=[.iD (kV.im t)]) (v:=.int .i64 (dF (fun _=>1) t)) (t:=Sv Qp 90) (tv:=.int .i64 (dF (fun _=>1) t)) hX (by kernel_rfl) (by kernel_rfl) (by kernel_rfl) rfl rfl ?_;have e0:(Sv Qp 90).body=.seq (eP a3I) (.seq (.seq (eP (eP (eU a3I))) (.block 0 (.loop lpA))) (.seq (eP (eU (eU a3I))) .ret)):=by kernel_rfl
 have e1:lpA=.seq (.region 2 (a6y (eP lpA)) false) (.seq (.cond (.tmp 8) .skip (.exit 0)) (.block 1 xA)):=by kernel_rfl
 have x0:dM X0 Qp T (iy n) LL 90 false (BJ Qp 90) 1 (eP a3I) ⟨kT X0 0 [.map 0],[],[.iD (kV.im t)]⟩ .norm ⟨[(0,.val (.map 0)),(2,xi 0)],[],[.iD (kV.im t)]⟩:=zy hX fZ (an:=.n) (by kernel_rfl) (.r rfl);have x1:dM X0 Qp T (iy n) LL 90 false (BJ Qp 90) 1 (eP (eP (eU a3I))) ⟨[(0,.val (.map 0)),(2,xi 0)],[],[.iD (kV.im t)]⟩ .norm ⟨[(2,xi 0),(6,.val (.iter 1))],[],[.iD (kV.im t),.cO 0 (kV.im t).length []]⟩:=zy hX fZ (an:=.n) (by kernel_rfl) (.r rfl);rw[kV.oZ t]at x1;have hlen:=h.len;have hpj:∀j,j<t.length->0<(PL t j).2:=fun k hk=>h.pos _ (dK (d:=((V0,0):V×Int)) hk);rw[e0];refine aK.AU (by kernel_rfl) x0 (aK.seq (R:=fun e s=>e=.norm∧∃seen,s={ sA t (dF (fun _=>1) t) seen with env:=jd (T.iw 90 2) ((8,.val (.bool false))::(7,.val (.dG [.bool false]))::(sA t (dF (fun _=>1) t) seen).env) }) (aK.AU (by kernel_rfl) x1 ?_) (fun s hs=>?_) (fun i s h=>by cases h.1) (fun s h=>by cases h.1))
 .rw[e1];refine UD hX (n:=t.length) (b:=1) (r:=0) (it:=6) (nx:=7) (mo:=8) (es:=kV.im t) (fun seen s=>seen.Nodup∧(∀j∈seen,j<t.length)∧gJ X0 (T.eX 90 (dQ lpA)) s=sA t (dS (fun j=>(PL t j).2) seen) seen) (by kernel_rfl) (a6N (by kernel_rfl)) (a6N (by kernel_rfl)) (kV.oZ t) (by unfold LL;omega)
   ⟨a5O,(fun j hj=>(by cases hj)),(by kernel_rfl)⟩ (fun seen s hi=>?_)
  obtain⟨jy,aT,h3⟩:=hi;rw[<-e1];refine⟨_,h3,by kernel_rfl,by kernel_rfl,by kernel_rfl,fun ho=>⟨by kernel_rfl,seen,?_⟩,fun j e hj he=>⟨by kernel_rfl,?_⟩⟩
  .rw[PG jy aT ho,Y3]
  rw[kV.AP,a05]at he;obtain⟨⟨v,w⟩,rU,rfl⟩:=he;obtain⟨q1,q2,q3⟩:=Vf rU;have FM:(j::seen).Nodup:=a4k.2 ⟨hj,jy⟩;have FN:∀k∈j::seen,k<t.length:=fun k hk=>by
   rcases a2d.1 hk with rfl|hk
   .exact q2
   exact aT k hk
  have hb:=V9 (φ:=fun j=>(PL t j).2) FM FN fun k hk=>aey (hpj k hk);have zL:=V8 (φ:=fun j=>(PL t j).2) (l:=seen) fun k hk=>aey (hpj k (aT k hk));rw[Y3,dS,q1]at hb;have ht:=h.tot;have hw:=h.pos _ q3;have Ye:i64.wrap (dS (fun j=>(PL t j).2) seen+w)=dS (fun j=>(PL t j).2) (j::seen):=by rw[fK (by have:(0:Int)<w:=hw;omega) (by have:w+dS (fun j=>(PL t j).2) seen<=dF (fun _=>1) t:=hb;omega),dS,q1,agL]
  refine aK.step (e:=.norm) (by kernel_rfl) (zy (ps1:=⟨[(2,xi (i64.wrap (dS (fun j=>(PL t j).2) seen+w))),(6,.val (.iter 1))],[],[.iD (kV.im t),.cO 0 t.length (j::seen)]⟩) hX fZ (by kernel_rfl) (.c (.dG [.agg v.ps,.int .i64 w]) [] (AV rU) (.r rfl))) ⟨.inl rfl,FM,FN,?_⟩;rw[Ye]
  kernel_rfl
 obtain⟨_,seen,rfl⟩:=hs;exact aK.step (by kernel_rfl) (zy (e:=.ret) (ps1:=⟨[(2,xi (dF (fun _=>1) t))],[],[.iD (kV.im t),.cO 0 t.length seen]⟩) hX fZ (an:=.n) (by kernel_rfl) (.r rfl)) ⟨.inr rfl,[.int .i64 (dF (fun _=>1) t)],by kernel_rfl,rfl⟩
end
open Go Tw Pv bQ
abbrev ZP:Code:=(Sv Qp 88).body
abbrev lpB:Code:=eP (eP (eU (eP (eU ZP))))
abbrev xB:Code:=eP (eU (eU lpB))
def Dw(t:List (V×Int))(js:List Nat):LI0:=(js.reverse.filter fun j=>!decide ((PL t j).1.f>0)).map fun j=>(PL t j).1.n
def fOf(t:List (V×Int))(js:List Nat):Bool:=js.any fun j=>decide ((PL t j).1.f>0)
theorem a3J(t:List (V×Int))(j:Nat)(js:List Nat):Dw t (j::js)=Dw t js++(if decide ((PL t j).1.f>0)=true then []else [(PL t j).1.n]):=by
 unfold Dw;rw[List.reverse_cons,List.filter_append,a3Z];congr 1;cases h:decide ((PL t j).1.f>0)
 .rw[ad8 (by rw[h];rfl),a0c (by simp)];rfl
 rw[ad7 (by rw[h];simp),a0g rfl];rfl
def lK(t:List (V×Int)):LI0:=gK ((t.filter fun e=>!decide (e.1.f>0)).map fun e=>e.1.n)
def uG(t:List (V×Int)):Bool:=t.any fun e=>decide (e.1.f>0)
theorem ZQ{l l':LI0}(h:l.Perm l'):gK l=gK l':=by
 unfold gK;have hs:∀l:LI0,(l.mergeSort fun x y=>decide (x<=y)).Pairwise fun a b=>decide (a<=b)=true:=fun l=>
  List.pairwise_mergeSort (fun a b c h1 h2=>by simp at *;omega) (fun a b=>by simp;omega) l
 exact List.Perm.eq_of_pairwise (le:=fun a b=>decide (a<=b)=true) (fun a b _ _ h1 h2=>by simp at h1 h2;omega) (hs l) (hs l') ((adQ l _).trans (h.trans (adQ l' _).symm))
theorem afT{t:List (V×Int)}{js:List Nat}(hn:js.Nodup)(hl:∀j∈js,j<t.length)(ha:∀j,j<t.length->j∈js):gK (Dw t js)=lK t∧fOf t js=uG t:=by
 have hp:(js.reverse).Perm (List.range t.length):=(List.reverse_perm js).trans ((a7y hn adJ).2 fun j=>⟨fun h=>a4i.2 (hl j h),fun h=>ha j (a4i.1 h)⟩);constructor
 .refine ZQ ?_;unfold Dw;have e:((t.filter fun e=>!decide (e.1.f>0)).map fun e=>e.1.n)=((List.range t.length).filter fun j=>!decide ((PL t j).1.f>0)).map fun j=>(PL t j).1.n:=by
   conv=>lhs;rw[afR t]
   rw[List.filter_map,a7m];rfl
  rw[e];exact(hp.filter _).map _
 unfold fOf uG;rw[a4u,agl,agl];constructor
 .rintro⟨j,hj,h⟩;exact⟨PL t j,dK (d:=((V0,0):V×Int)) (hl j hj),h⟩
 rintro⟨e,he,h⟩;obtain⟨j,hj,rfl⟩:=a4v.1 he;exact⟨j,ha j hj,by rw[(Vf (a0a hj)).1];exact h⟩
abbrev sBl(t:List (V×Int))(l:LI0)(b:Bool)(js:List Nat):aS aC:=match l with
 | []=>⟨[(2,.val (.nil .aP)),(3,xl b),(6,.val (.iter 1))],[],[.iD (kV.im t),.cO 0 t.length js]⟩
 |x::l=>⟨[(2,.val (.own 2)),(3,xl b),(6,.val (.iter 1))],[],[.iD (kV.im t),.cO 0 t.length js,.list false false 3 (x::l)]⟩
theorem afU{n:Nat}:iQ (n+1) (.fn 137 [] []) [.nil .aP] [] (.dG []) []:=by intro A m h tf qU hr hf hx;obtain⟨x,r,rfl,h1,h2⟩:=hx.inv;have:=h2.inv0;subst this;have htf:=hf.Uw;subst htf;have hx:x=.nil .aP:=jM h1 rfl;subst hx;exact⟨.dG [],h,[],m,rfl,hr,.dG rfl (fun i x y hx=>by simp at hx),.refl,.refl,fun b hb=>by cases hb⟩
section
variable {n:Nat} {t:List (V×Int)}
set_option maxRecDepth 20000 in
theorem aaN(h:JD t):aK X0 Qp T (iy (n+1)) (uO Qp T (iy (n+1)) LL) LL 88 (BJ Qp 88) 1 (.block 0 (.loop lpB)) (sBl t [] false [])
  fun e s=>e=.norm∧∃l seen,gK l=lK t∧s={ sBl t l (uG t) seen with env:=jd (T.iw 88 2) ((8,.val (.bool false))::(7,.val (.dG [.bool false]))::(sBl t l (uG t) seen).env) }:=by
 have e1:lpB=.seq (.region 2 (a6y (eP lpB)) false) (.seq (.cond (.tmp 8) .skip (.exit 0)) (.block 1 xB)):=by kernel_rfl
 have hlen:=h.len;rw[e1];refine OO hX (n:=t.length) (b:=1) (r:=0) (it:=6) (nx:=7) (mo:=8) (es:=kV.im t) (fun seen s=>seen.Nodup∧(∀j∈seen,j<t.length)∧∃gs,l7 1 gs (gJ X0 (T.eX 88 (dQ lpB)) s)=some (sBl t (Dw t seen) (fOf t seen) seen)) (by kernel_rfl) (a6N (by kernel_rfl)) (a6N (by kernel_rfl)) (kV.oZ t) (by unfold LL;omega)
  ⟨a5O,(fun j hj=>(by cases hj)),[],(by kernel_rfl)⟩ (fun seen s hi=>?_)
 obtain⟨jy,aT,gs,h3⟩:=hi;rw[<-e1];refine⟨gs,_,h3,?_,?_,?_,fun ho=>?_,fun j e hj he=>?_⟩
 .cases Dw t seen<;>kernel_rfl
 .cases Dw t seen<;>kernel_rfl
 .cases Dw t seen<;>kernel_rfl
 .obtain⟨a1,a2⟩:=afT jy aT ho;refine⟨?_,Dw t seen,seen,a1,?_⟩
  .cases Dw t seen<;>kernel_rfl
  .rw[a2]
 .rw[kV.AP,a05]at he;obtain⟨⟨v,w⟩,rU,rfl⟩:=he;obtain⟨q1,q2,q3⟩:=Vf rU;have FM:(j::seen).Nodup:=a4k.2 ⟨hj,jy⟩;have FN:∀k∈j::seen,k<t.length:=fun k hk=>by
   rcases a2d.1 hk with rfl|hk
   .exact q2
   .exact aT k hk
  have hll:(Dw t seen).length<=2000:=by
   have h1:(Dw t seen).length<=seen.length:=by unfold Dw;rw[a4h];exact a4A (a8L ..) (by simp)
   have h2:seen.length<=t.length:=by have:=(JB jy aT).length_eq;have h3:=a8L (fun j=>seen.contains j) (List.range t.length);rw[a8D]at h3;omega
   omega
  have Dz:=a3J t j seen;have hf2:fOf t (j::seen)=(decide (v.f>0)||fOf t seen):=by unfold fOf;rw[adg,q1]
  rw[q1]at Dz;generalize fOf t seen=b at hf2;have Dz:Dw t (j::seen)=Dw t seen++(if decide (v.f>0)=true then []else [v.n]):=Dz;generalize Dw t seen=l at Dz hll;cases hv:decide (v.f>0)
  .rw[hv,a0c (by simp)]at Dz;rw[hv,ag6]at hf2;have Yi:decide (v.f>0)=false:=hv;cases l with
   |nil=>
    have a1:[v.n].length<=ah:=by rw[a3P];unfold ah;omega
    refine⟨by kernel_rfl,aK.step (e:=.norm) (by kernel_rfl) (zy (ps1:=⟨[(2,.val (.own 3)),(3,xl b),(6,.val (.iter 1))],[v.ps],[.iD (kV.im t),.cO 0 t.length (j::seen),.list true true 3 [v.n],.list true false 3 [v.n]]⟩) hX fZ (by kernel_rfl) (.c (.dG [.agg v.ps,.int .i64 w]) [] (AV rU) (.b Yi (.o a1 (.r rfl))))) ⟨.inl rfl,FM,FN,[.flag 3,.gc [1,3]],?_⟩⟩;rw[Dz,hf2]
    kernel_rfl
   |cons x l=>
    have a1:(x::l).length+[v.n].length<=ah:=by rw[a3P];unfold ah;omega
    refine⟨by kernel_rfl,aK.step (e:=.norm) (by kernel_rfl) (zy (ps1:=⟨[(2,.val (.own 4)),(3,xl b),(6,.val (.iter 1))],[v.ps],[.iD (kV.im t),.cO 0 t.length (j::seen),.gone,.list true true 3 [v.n],.list false false 3 (x::l++[v.n])]⟩) hX fZ (by kernel_rfl) (.c (.dG [.agg v.ps,.int .i64 w]) [] (AV rU) (.b Yi (.o a1 (.r rfl))))) ⟨.inl rfl,FM,FN,[.gc [1,4]],?_⟩⟩;rw[Dz,hf2]
    kernel_rfl
  .rw[hv,a0g rfl,a6L]at Dz;rw[hv,Bool.true_or]at hf2;have Yi:decide (v.f>0)=true:=hv;cases l with
   |nil=>
    refine⟨by kernel_rfl,aK.step (e:=.exit 1) (by kernel_rfl) (zy (ps1:=⟨[(2,.val (.nil .aP)),(3,xl true),(6,.val (.iter 1))],[v.ps],[.iD (kV.im t),.cO 0 t.length (j::seen)]⟩) hX fZ (by kernel_rfl) (.c (.dG [.agg v.ps,.int .i64 w]) [] (AV rU) (.b Yi (.r rfl)))) ⟨.inr rfl,FM,FN,[],?_⟩⟩;rw[Dz,hf2]
    kernel_rfl
   |cons x l=>
    refine⟨by kernel_rfl,aK.step (e:=.exit 1) (by kernel_rfl) (zy (ps1:=⟨[(2,.val (.own 2)),(3,xl true),(6,.val (.iter 1))],[v.ps],[.iD (kV.im t),.cO 0 t.length (j::seen),.list false false 3 (x::l)]⟩) hX fZ (by kernel_rfl) (.c (.dG [.agg v.ps,.int .i64 w]) [] (AV rU) (.b Yi (.r rfl)))) ⟨.inr rfl,FM,FN,[],?_⟩⟩;rw[Dz,hf2]
    kernel_rfl
theorem Ed:∀l:LI0,iJ (Ei X0 3 l)=some (l.map fun n=>TV.int .i64 n)
 | []=>rfl
 |a::l=>by
  have:=Ed l;show(match qM (PV.int .i64 a:PV aC),iJ (Ei X0 3 l)with
   |some a,some b=>some (a::b)
   |_,_=>none)=_
  rw[this];rfl
theorem a3K{mP:Bool}{b:Bool}{Hs:List (PB aC)}:a2W X0 Qp mP (.dG [.nil .aP,.bool b]) Hs (fun _=>.dG [.nil .aP,.bool b]) []:=fun A m h h1 w hr hw _=>by
 cases hw with
 |gone hi _ _=>simp[bn]at hi
 |dG a1 a2=>
  obtain⟨x,r,rfl,v0,v1⟩:=Pv.bU.inv (⟨a1,a2⟩:Pv.bU X0 Qp _ _ _ _ _);obtain⟨y,r,rfl,v2,v3⟩:=v1.inv;have:=v3.inv0;subst this;have:=jM v2 (show pU (PV.bool b:PV aC)=some (TV.bool b)from rfl);subst this;have:=jM v0 (show pU (PV.nil .aP:PV aC)=some (TV.nil .aP)from rfl);subst this;unfold NS;simp only[BA,BA.EC,wo,nG,nG.yX,CB,U2,KP,a4c,abv,a6L,a0j]
set_option maxRecDepth 20000 in
theorem adn(h:JD t):(lK t=[]->iQ (n+2) (.fn 88 [] []) [.map 0] [.iD (kV.im t)] (.dG [.nil .aP,.bool (uG t)]) [.iD (kV.im t)]) ∧
  (lK t≠[]->iQ (n+2) (.fn 88 [] []) [.map 0] [.iD (kV.im t)] (.dG [.own 1,.bool (uG t)]) [.iD (kV.im t),.list false false 3 (lK t)]):=by
 have e0:(Sv Qp 88).body=.seq (eP ZP) (.seq (.seq (eP (eP (eU ZP))) (.block 0 (.loop lpB))) (eU (eU ZP))):=by kernel_rfl
 have x0:dM X0 Qp T (iy (n+1)) LL 88 false (BJ Qp 88) 1 (eP ZP) ⟨kT X0 0 [.map 0],[],[.iD (kV.im t)]⟩ .norm ⟨[(0,.val (.map 0)),(2,.val (.nil .aP)),(3,xl false)],[],[.iD (kV.im t)]⟩:=zy hX fZ (an:=.n) (by kernel_rfl) (.r rfl);have x1:dM X0 Qp T (iy (n+1)) LL 88 false (BJ Qp 88) 1 (eP (eP (eU ZP))) ⟨[(0,.val (.map 0)),(2,.val (.nil .aP)),(3,xl false)],[],[.iD (kV.im t)]⟩ .norm ⟨[(2,.val (.nil .aP)),(3,xl false),(6,.val (.iter 1))],[],[.iD (kV.im t),.cO 0 (kV.im t).length []]⟩:=zy hX fZ (an:=.n) (by kernel_rfl) (.r rfl);rw[kV.oZ t]at x1;have run:∀Q:Ex->aS aC->Prop,(∀l seen,gK l=lK t->aK X0 Qp T (iy (n+1)) (uO Qp T (iy (n+1)) LL) LL 88 (BJ Qp 88) 1 (eU (eU ZP)) { sBl t l (uG t) seen with env:=jd (T.iw 88 2) ((8,.val (.bool false))::(7,.val (.dG [.bool false]))::(sBl t l (uG t) seen).env) } Q) ->
   aK X0 Qp T (iy (n+1)) (uO Qp T (iy (n+1)) LL) LL 88 (BJ Qp 88) 1 (Sv Qp 88).body ⟨kT X0 0 [.map 0],[],[.iD (kV.im t)]⟩ Q:=fun Q hQ=>by
  rw[e0];refine aK.AU (by kernel_rfl) x0 (aK.seq (R:=fun e s=>e=.norm∧∃l seen,gK l=lK t∧s={ sBl t l (uG t) seen with env:=jd (T.iw 88 2) ((8,.val (.bool false))::(7,.val (.dG [.bool false]))::(sBl t l (uG t) seen).env) }) (aK.AU (by kernel_rfl) x1 (aaN (n:=n) h)) (fun s hs=>?_) (fun i s h=>by cases h.1) (fun s h=>by cases h.1));obtain⟨_,l,seen,h1,rfl⟩:=hs;exact hQ l seen h1
 have hlen:∀l:LI0,gK l=lK t->l.length<=2^20:=fun l hl=>by
  have h1:(gK l).length=l.length:=by unfold gK;rw[aaB]
  have h2:(lK t).length<=t.length:=by unfold lK gK;rw[aaB,a4h];exact a8L ..
  have:=h.len;rw[hl]at h1;omega
 have apS:gK []=([]:LI0):=by simp[gK]
 constructor
 .intro hn;have:=D8 (X:=X0) (P:=Qp) (T:=T) (L:=LL) (n:=n+1) (f:=88) (first:=[]) (cap:=[]) (xs:=[.map 0]) (H:=[.iD (kV.im t)]) (N:=[]) (v:=.dG [.nil .aP,.bool (uG t)]) (tv:=fun _=>.dG [.nil .aP,.bool (uG t)]) (tN:=[]) (t:=Sv Qp 88) hX (by kernel_rfl) (by kernel_rfl) (by kernel_rfl) rfl (fun A m h hr=>⟨m,by simpa using hr,Pv.bU.cons (.nil .aP) (.cons (.bool _) .nil) |> fun h=>.dG h.1 h.2,by simpa using Fr.refl,.refl⟩) (run _ fun l seen hl=>?_)
  .exact this
  .rw[hn]at hl;have qB:l=[]:=by
    have h1:(gK l).length=l.length:=by unfold gK;rw[aaB]
    rw[hl]at h1;exact a3Y h1.symm
   subst qB;exact aK.step (by kernel_rfl) (zy (e:=.ret) (ps1:=⟨[(2,.val (.nil .aP)),(3,xl (uG t))],[],[.iD (kV.im t),.cO 0 t.length seen]⟩) hX fZ (by kernel_rfl) (.fr [] (afU (n:=n)) (.r rfl))) ⟨.inr rfl,[.nil .aP,.bool (uG t)],by kernel_rfl,a3K⟩
 .intro hn;have:=D8 (X:=X0) (P:=Qp) (T:=T) (L:=LL) (n:=n+1) (f:=88) (first:=[]) (cap:=[]) (xs:=[.map 0]) (H:=[.iD (kV.im t)]) (N:=[.list false false 3 (lK t)]) (v:=.dG [.own 1,.bool (uG t)]) (tv:=fun n=>.dG [.aP n 0 (lK t).length (lK t).length 1 false,.bool (uG t)]) (tN:=[.cells .last ((lK t).map fun n=>TV.int .i64 n)]) (t:=Sv Qp 88) hX (by kernel_rfl) (by kernel_rfl) (by kernel_rfl) rfl (fun A m h hr=>a9Y hX (H:=[.iD (kV.im t)]) (ty:=3) (l:=lK t) hn (Ed _) KC (by decide) (fun _ _ _=>rfl) rfl hr) (run _ fun l seen hl=>?_)
  .exact this
  .cases l with
   |nil=>rw[apS]at hl;exact absurd hl.symm hn
   |cons x l=>
    have hs:=acJ (n:=n) (k:=false) (ex:=false) (x::l) (hlen _ hl);rw[hl]at hs;exact aK.step (by kernel_rfl) (zy (e:=.ret) (ps1:=⟨[(2,.val (.own 2)),(3,xl (uG t))],[],[.iD (kV.im t),.cO 0 t.length seen,.list false false 3 (lK t)]⟩) hX fZ (by kernel_rfl) (.fr [2] hs (.r rfl))) ⟨.inr rfl,[.own 2,.bool (uG t)],by kernel_rfl,a6x hX (i:=2) (ty:=3) (l:=lK t) rfl hn (Ed _) KC rfl⟩
end
open Go Tw Pv bQ
abbrev vF:PV aC:=.fn 139 [] [.ptr 1 0 1]
abbrev a7Y:Code:=(Sv Qp 138).body
abbrev afV:Code:=(Sv Qp 139).body
abbrev lpW:Code:=eP (eP (eU afV))
abbrev xW:Code:=eP (eU (eU lpW))
abbrev a7Z:List (Nat×PE aC):=[(2,.val (.ptr 2 0 1)),(4,.val (.nil .aP)),(6,.val vF)]
abbrev PN(rd:Bool)(jI:Option Code):PB aC:=.loop rd 138 (BJ Qp 138) a7Z [7] (wJ Qp 138) (Aj Qp 138) jI
abbrev H3(t:List (V×Int))(x:PV aC):List (PB aC):=[.iD (kV.im t),.aF [.map 0],.cells [x]]
theorem one_le(w:Int):[w].length<=ah:=by rw[a3P];unfold ah;omega
theorem apT{n:Nat}(t:List (V×Int))(w:Int):iQ (n+1) (.kG 4) [.int .i64 w] (H3 t (.nil .aP)++[.mark,PN true none]) (.bool true) (H3 t (.own 6)++[.mark,PN true none,.list true true 3 [w],.list true false 3 [w]]):=by have q1:dM X0 Qp T (iy n) LL 138 true (BJ Qp 138) 5 (wJ Qp 138) ⟨uf a7Z [7] [.int .i64 w],[],H3 t (.nil .aP)++[.mark,PN true none]⟩ .norm ⟨[(2,.val (.ptr 2 0 1)),(5,xi w)],[],H3 t (.nil .aP)++[.mark,PN true none]⟩:=xZ hX fZ (by kernel_rfl) .xx;have q2:dM X0 Qp T (iy n) LL 138 true (BJ Qp 138) 5 (Aj Qp 138) ⟨[(2,.val (.ptr 2 0 1)),(5,xi w)],[],H3 t (.nil .aP)++[.mark,PN false none]⟩ .norm ⟨[],[],H3 t (.own 6)++[.mark,PN false none,.list true true 3 [w],.list true false 3 [w]]⟩:=xZ hX fZ (by kernel_rfl) (.o (one_le w) .xx);exact H7 hX (l:=4) rfl rfl (by kernel_rfl) q1 rfl q2 rfl
theorem apU{n:Nat}(t:List (V×Int))(l:LI0)(w:Int)(hl:l.length+[w].length<=ah):iQ (n+1) (.kG 4) [.int .i64 w] (H3 t (.own 5)++[.mark,PN true none,.list false false 3 l]) (.bool true) (H3 t (.own 7)++[.mark,PN true none,.gone,.list true true 3 [w],.list false false 3 (l++[w])]):=by have q1:dM X0 Qp T (iy n) LL 138 true (BJ Qp 138) 6 (wJ Qp 138) ⟨uf a7Z [7] [.int .i64 w],[],H3 t (.own 5)++[.mark,PN true none,.list false false 3 l]⟩ .norm ⟨[(2,.val (.ptr 2 0 1)),(5,xi w)],[],H3 t (.own 5)++[.mark,PN true none,.list false false 3 l]⟩:=xZ hX fZ (by kernel_rfl) .xx;have q2:dM X0 Qp T (iy n) LL 138 true (BJ Qp 138) 6 (Aj Qp 138) ⟨[(2,.val (.ptr 2 0 1)),(5,xi w)],[],H3 t (.own 5)++[.mark,PN false none,.list false false 3 l]⟩ .norm ⟨[],[],H3 t (.own 7)++[.mark,PN false none,.gone,.list true true 3 [w],.list false false 3 (l++[w])]⟩:=xZ hX fZ (by kernel_rfl) (.o hl .xx);exact H7 hX (l:=4) rfl rfl (by kernel_rfl) q1 rfl q2 rfl
def En(t:List (V×Int))(js:List Nat):LI0:=js.reverse.map fun j=>(PL t j).2
theorem a3L(t:List (V×Int))(j:Nat)(js:List Nat):En t (j::js)=En t js++[(PL t j).2]:=by simp[En]
abbrev sWl(t:List (V×Int))(l:LI0)(js:List Nat):aS aC:=match l with
 | []=>⟨[(0,.val (.kG 4)),(6,.val (.iter 5))],[],H3 t (.nil .aP)++[.mark,PN true none,.cO 0 t.length js]⟩
 |x::l=>⟨[(0,.val (.kG 4)),(6,.val (.iter 5))],[],H3 t (.own 6)++[.mark,PN true none,.cO 0 t.length js,.list false false 3 (x::l)]⟩
section
variable {n:Nat} {t:List (V×Int)}
set_option maxRecDepth 20000 in
theorem aaO(h:JD t):aK X0 Qp T (iy (n+1)) Cm LL 139 (BJ Qp 139) 5 (.block 0 (.loop lpW)) (sWl t [] [])
  fun e s=>e=.norm∧∃l seen,l.Perm (t.map (·.2))∧s={ sWl t l seen with env:=jd (T.iw 139 1) ((8,.val (.bool false))::(7,.val (.dG [.bool false]))::(sWl t l seen).env) }:=by
 have e1:lpW=.seq (.region 1 (a6y (eP lpW)) false) (.seq (.cond (.tmp 8) .skip (.exit 0)) (.block 1 xW)):=by kernel_rfl
 have hlen:=h.len;rw[e1];refine OO hX (n:=t.length) (b:=5) (r:=0) (it:=6) (nx:=7) (mo:=8) (es:=kV.im t) (fun seen s=>seen.Nodup∧(∀j∈seen,j<t.length)∧∃gs,l7 5 gs (gJ X0 (T.eX 139 (dQ lpW)) s)=some (sWl t (En t seen) seen)) (by kernel_rfl) (a6N (by kernel_rfl)) (a6N (by kernel_rfl)) (kV.oZ t) (by unfold LL;omega)
  ⟨a5O,(fun j hj=>(by cases hj)),[],(by kernel_rfl)⟩ (fun seen s hi=>?_)
 obtain⟨jy,aT,gs,h3⟩:=hi;rw[<-e1];refine⟨gs,_,h3,?_,?_,?_,fun ho=>?_,fun j e hj he=>?_⟩
 .cases En t seen<;>kernel_rfl
 .cases En t seen<;>kernel_rfl
 .cases En t seen<;>kernel_rfl
 .refine⟨?_,En t seen,seen,?_,rfl⟩
  .cases En t seen<;>kernel_rfl
  .have hp:(seen.reverse).Perm (List.range t.length):=(List.reverse_perm seen).trans ((a7y jy adJ).2 fun j=>⟨fun h=>a4i.2 (aT j h),fun h=>ho j (a4i.1 h)⟩);unfold En
   conv=>rhs;rw[afR t]
   rw[a7m];exact hp.map _
 .rw[kV.AP,a05]at he;obtain⟨⟨v,w⟩,rU,rfl⟩:=he;obtain⟨q1,q2,q3⟩:=Vf rU;have FM:(j::seen).Nodup:=a4k.2 ⟨hj,jy⟩;have FN:∀k∈j::seen,k<t.length:=fun k hk=>by
   rcases a2d.1 hk with rfl|hk
   .exact q2
   .exact aT k hk
  have hll:(En t seen).length<=2000:=by
   have h2:seen.length<=t.length:=by have:=(JB jy aT).length_eq;have h3:=a8L (fun j=>seen.contains j) (List.range t.length);rw[a8D]at h3;omega
   have h1:(En t seen).length=seen.length:=(by simp[En]);omega
  have Dz:=a3L t j seen;rw[q1]at Dz;have Dz:En t (j::seen)=En t seen++[w]:=Dz;generalize En t seen=l at Dz hll;cases l with
  |nil=>
   refine⟨by kernel_rfl,aK.step (e:=.norm) (by kernel_rfl) (zy (ps1:=⟨[(0,.val (.kG 4)),(6,.val (.iter 5)),(14,xl false)],[],H3 t (.own 7)++[.mark,PN true none,.cO 0 t.length (j::seen),.list true true 3 [w],.list true false 3 [w]]⟩) hX fZ (by kernel_rfl) (.c (.dG [.agg v.ps,.int .i64 w]) [] (AV rU) (.fr [0,1,2,3,4] (apT (n:=n) t w) (.b (rfl:(!true)=false) (.r rfl))))) ⟨.inl rfl,FM,FN,[.flag 7,.gc [5,7]],?_⟩⟩;rw[Dz]
   kernel_rfl
  |cons x l=>
   have a1:(x::l).length+[w].length<=ah:=by rw[a3P];unfold ah;omega
   refine⟨by kernel_rfl,aK.step (e:=.norm) (by kernel_rfl) (zy (ps1:=⟨[(0,.val (.kG 4)),(6,.val (.iter 5)),(14,xl false)],[],H3 t (.own 8)++[.mark,PN true none,.cO 0 t.length (j::seen),.gone,.list true true 3 [w],.list false false 3 (x::l++[w])]⟩) hX fZ (by kernel_rfl) (.c (.dG [.agg v.ps,.int .i64 w]) [] (AV rU) (.fr [0,1,2,3,4,6] (apU (n:=n) t (x::l) w a1) (.b (rfl:(!true)=false) (.r rfl))))) ⟨.inl rfl,FM,FN,[.gc [5,8]],?_⟩⟩;rw[Dz]
   kernel_rfl
end
open Go Tw Pv bQ
def lH(t:List (V×Int)):LI0:=yY (fun n=>[n]) (t.map fun e:V×Int=>e.2)
abbrev Qw(n:Int):TV:=.int .i64 n
abbrev L8(n:Int):PV aC:=.int .i64 n
theorem a3M{t:List (V×Int)}{l:LI0}(h:l.Perm (t.map fun e:V×Int=>e.2)):Rk (l.map Qw)=(lH t).map Qw:=by unfold Rk;rw[Sm (g:=Qw) (key:=fun n=>[n]) (a6r:=Rh) (fun _=>rfl),EL h fun a _ b _ e=>by simpa using e];rfl
theorem JE:∀l:LI0,U7 (l.map L8)=some (l.map Qw)
 | []=>rfl
 |a::l=>by
  have:=JE l;show(match pU (L8 a),U7 (l.map L8)with
   |some a,some b=>some (a::b)
   |_,_=>none)=_
  rw[this];rfl
section
variable {n:Nat} {t:List (V×Int)}
set_option maxRecDepth 20000 in
theorem akL(h:JD t)(ht:t≠[]):a9V X0 Qp (uO Qp T (iy (n+1)) LL) vF [.kG 4] (H3 t (.nil .aP)++[.mark,PN true none]) fun v H1=>∃(l:LI0) (seen:List Nat),l.Perm (t.map fun e:V×Int=>e.2)∧H1=H3 t (.own 6)++[.mark,PN true none,.cO 0 t.length seen,.list false false 3 l]:=by
 refine a1c (t:=Sv Qp 139) hX (by kernel_rfl) ?_;have e0:(Sv Qp 139).body=.seq (eP afV) (.block 0 (.loop lpW)):=by kernel_rfl
 rw[e0];have x0:dM X0 Qp T (iy (n+1)) LL 139 false (BJ Qp 139) 5 (eP afV) ⟨kT X0 0 [.kG 4,.ptr 1 0 1],[],H3 t (.nil .aP)++[.mark,PN true none]⟩ .norm ⟨[(0,.val (.kG 4)),(6,.val (.iter 5))],[],H3 t (.nil .aP)++[.mark,PN true none,.cO 0 (kV.im t).length []]⟩:=zy hX fZ (an:=.n) (by kernel_rfl) (.r rfl);rw[kV.oZ t]at x0;refine aK.AU (by kernel_rfl) x0 ((aaO (n:=n) h).mono fun e s h1=>?_);obtain⟨rfl,l,seen,h2,rfl⟩:=h1;cases l with
 |nil=>
  have:=h2.length_eq;rw[a4h]at this;exact absurd (a3Y this.symm) ht
 |cons x l=>exact⟨.inl rfl,[],by kernel_rfl,x::l,seen,h2,rfl⟩
set_option maxRecDepth 20000 in
theorem aaP(h:JD t)(ht:t≠[]):iQ (n+2) (.fn 138 [] []) [.nil .aP,vF] [.iD (kV.im t),.aF [.map 0]] (.aP 2 0 t.length t.length 1 false) [.iD (kV.im t),.aF [.map 0],.mP ((lH t).map L8)]:=by
 have e0:(Sv Qp 138).body=.seq (eP a7Y) (.seq (.seq (eP (eP (eU a7Y))) (.block 0 (.rangeFunc (.tmp 6) #[7] (wJ Qp 138) (Aj Qp 138)))) (eU (eU a7Y))):=by kernel_rfl
 have x0:dM X0 Qp T (iy (n+1)) LL 138 false (BJ Qp 138) 2 (eP a7Y) ⟨kT X0 0 [.nil .aP,vF],[],[.iD (kV.im t),.aF [.map 0]]⟩ .norm ⟨[(1,.val vF),(2,.val (.ptr 2 0 1)),(4,.val (.nil .aP))],[],H3 t (.nil .aP)⟩:=zy hX fZ (an:=.n) (by kernel_rfl) (.r rfl);have x1:dM X0 Qp T (iy (n+1)) LL 138 false (BJ Qp 138) 2 (eP (eP (eU a7Y))) ⟨[(1,.val vF),(2,.val (.ptr 2 0 1)),(4,.val (.nil .aP))],[],H3 t (.nil .aP)⟩ .norm ⟨a7Z,[],H3 t (.nil .aP)⟩:=zy hX fZ (an:=.n) (by kernel_rfl) (.r rfl);have:=D8 (X:=X0) (P:=Qp) (T:=T) (L:=LL) (n:=n+1) (f:=138) (first:=[]) (cap:=[]) (xs:=[.nil .aP,vF]) (H:=[.iD (kV.im t),.aF [.map 0]]) (N:=[.mP ((lH t).map L8)]) (v:=.aP 2 0 t.length t.length 1 false) (tv:=fun k=>.aP k 0 t.length t.length 1 false) (tN:=[.mP ((lH t).map Qw)]) (t:=Sv Qp 138) hX (by kernel_rfl) (by kernel_rfl) (by kernel_rfl) rfl (fun A m h hr=>a9X (H:=[.iD (kV.im t),.aF [.map 0]]) (n:=t.length) (sz:=1) (JE _) hr) ?_
 .exact this
 rw[e0];refine aK.AU (by kernel_rfl) x0 (aK.seq (R:=fun e s=>e=.norm∧∃(l:LI0) (seen:List Nat),l.Perm (t.map fun e:V×Int=>e.2)∧s=⟨a7Z,[],H3 t (.own 6)++[.mark,PN false (some .skip),.cO 0 t.length seen,.list false false 3 l]⟩) (aK.AU (by kernel_rfl) x1 (aK.block ?_)) (fun s hs=>?_) (fun i s h=>by cases h.1) (fun s h=>by cases h.1))
 .refine aK.range (f1:=139) (a1:=[]) (b1:=[.ptr 1 0 1]) (K:=fun v H1=>∃(l:LI0) (seen:List Nat),l.Perm (t.map fun e:V×Int=>e.2)∧H1=H3 t (.own 6)++[.mark,PN true none,.cO 0 t.length seen,.list false false 3 l]) hX rfl (by kernel_rfl) (by kernel_rfl) (akL (n:=n) h ht) (fun v H1 hk=>?_);obtain⟨l,seen,h1,rfl⟩:=hk;exact⟨true,_,_,_,_,_,_,none,.norm,rfl,rfl,rfl,l,seen,h1,rfl⟩
 obtain⟨_,l,seen,h1,rfl⟩:=hs;have hl:l≠[]:=fun e=>by subst e;have:=h1.length_eq;rw[a4h]at this;exact absurd (a3Y this.symm) ht
 have hlen:t.length=l.length:=by rw[h1.length_eq,a4h]
 refine aK.step (by kernel_rfl) (zy (e:=.ret) (ps1:=⟨[(4,.val (.own 6))],[],H3 t (.own 6)++[.mark,PN false (some .skip),.cO 0 t.length seen,.list false false 3 l]⟩) hX fZ (an:=.n) (by kernel_rfl) (.r rfl)) ⟨.inr rfl,[.own 6],by kernel_rfl,?_⟩;rw[<-a3M h1,hlen];exact a6w hX (i:=6) (ty:=3) (l:=l) rfl hl (Ed _) KC
end
def JF:LI0->Int
 | []=>0
 |x::l=>l.foldl max x
theorem Y4:∀(l:LI0) (x:Int),(l.foldl max x=x∨l.foldl max x∈l)∧x<=l.foldl max x∧∀y∈l,y<=l.foldl max x
 | [],x=>⟨.inl rfl,a8M _,fun y hy=>by cases hy⟩
 |a::l,x=>by
  obtain⟨h1,h2,h3⟩:=Y4 l (max x a);rw[adk];have hm:max x a=x∨max x a=a:=by omega
  refine⟨?_,by omega,fun y hy=>?_⟩
  .rcases h1 with h1|h1
   .rcases hm with e|e
    .exact .inl (h1.trans e)
    rw[h1,e];exact .inr (by simp)
   exact .inr (by simp[h1])
  rcases a2d.1 hy with rfl|hy
  .omega
  exact h3 y hy
theorem PO{l:LI0}(h:l≠[]):JF l∈l∧∀y∈l,y<=JF l:=by
 cases l with
 |nil=>exact absurd rfl h
 |cons x l=>
  obtain⟨h1,h2,h3⟩:=Y4 l x;refine⟨?_,fun y hy=>?_⟩
  .rcases h1 with h1|h1
   .show l.foldl max x∈_;rw[h1];simp
   exact a2P _ h1
  rcases a2d.1 hy with rfl|hy
  .exact h2
  exact h3 y hy
theorem a3N{l l':LI0}(h:l.Perm l')(hl:l≠[]):JF l=JF l':=by
 have hl':l'≠[]:=fun e=>by subst e;exact hl h.eq_nil
 obtain⟨a1,a2⟩:=PO hl;obtain⟨b1,b2⟩:=PO hl';have:=a2 _ (h.mem_iff.2 b1);have:=b2 _ (h.mem_iff.1 a1);omega
end Go.Proofs.YtmobpoiejckagaaGreat
