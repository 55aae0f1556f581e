/- Part 6 of a proof: ApplyParts -/
import Derived.Test.YtmobpoiejckagaaGreatP04
set_option linter.constructorNameAsVariable false
set_option linter.unusedVariables false
set_option linter.unusedSimpArgs false
set_option linter.unusedSectionVars false
open Go.IntKind (i64)
noncomputable section
namespace Go.Proofs.YtmobpoiejckagaaGreat
open Go Tw Pv bQ
abbrev cl0:Cs:=⟨[],[],[]⟩
def eY(d:Dg):Dg:=⟨d.ah,d.aB,(bZ d 6002 d.root cl0).2.e,(bZ d 6002 d.root cl0).2.n,(bZ d 6002 d.root cl0).1⟩
theorem Vl{d:Dg}:DN d cl0:=⟨a6f,by simp,a6f,by simp,a6f,by simp⟩
abbrev a81(b:Br):Bool:=b.aA.all fun x=>x==b.aA.getD 0 0
theorem a2g{d:Dg}:∀(F:Nat) (r:Int) (x:Cs),(∀b∈x.n,a81 b=false)->∀b∈(bZ d F r x).2.n,a81 b=false
 | 0,_,_,h=>h
 |F+1,r,x,h=>by
  unfold bZ;split
  .exact h
  split
  .exact h
  have hb:=(Il (d:=d) (fun y=>∀b∈y.n,a81 b=false) (F:=F) (r:=r) h (fun j y _ hy=>a2g F _ y hy)).2;intro b QL;simp only[dD]at QL;split at QL
  .exact hb b QL
  rename_i hf;split at QL
  .exact hb b QL
  rcases a3s.1 QL with QL|QL
  .exact hb b QL
  rw[a2O.1 QL];simpa using hf
theorem a4c{d:Dg}(h:C9 d)(e:eY d=d):DgD d:=by
 have hc:=PX h 6002 d.root cl0 Vl h.root;have hf:=a2g (d:=d) 6002 d.root cl0 (by simp);have ee:(bZ d 6002 d.root cl0).2.e=d.aJ:=congrArg Dg.aJ e;have en:(bZ d 6002 d.root cl0).2.n=d.aj:=congrArg Dg.aj e;rw[en]at hf;have hg:∀j,(hj:j<d.aj.length)->fD d j=d.aj[j]:=fun j hj=>by simp[List.getD,a0d hj]
 refine⟨ee▸hc.e1,fun i j hi hj hv hk=>?_,fun i hi=>?_⟩
 .have hn:(d.aj.map Ci).Nodup:=en▸hc.n1;have:=(aal (i:=i) (j:=j) (h₀:=by simpa using hi) (h₁:=by simpa using hj) hn).1 (by rw[a9v,a9v,<-hg i hi,<-hg j hj];show um _ _=um _ _;rw[hv,hk])
  exact this
 have:=hf (fD d i) (by rw[hg i hi];exact a4X hi);exact this
theorem Q7{d:Dg}{n m:Nat}{x:Int}(hm:m<=2^61)(hx:Gm x)(hc:VT (dO n,dO m) x):xO (dO n,dO m) x=x:=by
 have hid:∀(n:Nat) (y:Int),y∈dO n->(((dO n).idxOf y:Nat):Int)=y:=fun n y hy=>by have hl:=a5b.2 hy;have h1:=a90 hl;rw[lU]at hl;simp only[dO,a9v,aeT]at h1;exact h1
 unfold xO;by_cases c:x<0
 .rw[a0A c];have h1:=hid m _ (hc.1 c);have h2:jI x=-1-x:=Ns hx c;have h3:=a1Z (hc.1 c);have h4:=h3.2;rw[show((((dO n,dO m):LI0×LI0).2.idxOf (jI x):Nat):Int)=jI x from h1,h2,fQ (by omega) (by omega)];omega
 rw[a0y c];exact hid n _ (hc.2 (by omega))
theorem Y6{α:Type}(l:List α)(f:Int->α)(h:∀j,(hj:j<l.length)->f j=l[j]):(dO l.length).map f=l:=by apply a9J (by simp[dO]);intro j h1 h2;simp[dO,h j h2]
theorem a2h{d:Dg}{j:Nat}(hj:j<d.aJ.length):d.aJ.getD ((j:Nat):Int).toNat V0=d.aJ[j]:=by simp[List.getD,a0d hj]
theorem a2i{l:LI0}{m:Nat}(hl:l.length=m)(h:∀j,(hj:j<l.length)->l[j]=(j:Int)):l=dO m:=by apply a9J (by rw[lU,hl]);intro j h1 h2;rw[h j h1];simp[dO]
theorem agc{d:Dg}(h:C9 d)(hw:Ij d)(hd:DgD d)(he:d.aJ.length<=2^61){t:LI0×LI0}(ht:JG d t)(hk:JJ d t)(hc:VT t d.root):((KS d t).e=d.aJ∧(KS d t).n=d.aj∧xO t d.root=d.root)↔(t.1=dO d.aj.length∧t.2=dO d.aJ.length):=by
 have hW:∀o,fK o d.aj.length->∀k∈(ay d o).aA,Gm k:=fun o ho k lH=>by
  obtain⟨i,hi,rfl⟩:=a5h.1 lH;have:=hw.zT o.toNat (by have:=ho.1;have:=ho.2;omega) i hi
  rwa [rZ hi]at this
 have hg:∀j,(hj:j<d.aj.length)->ay d (j:Nat)=d.aj[j]:=fun j hj=>by simp[List.getD,a0d hj]
 constructor
 .rintro⟨h1,h2,h3⟩;have l1:t.2.length=d.aJ.length:=by have:=congrArg List.length h1;simpa[KS]using this
  have l2:t.1.length=d.aj.length:=by have:=congrArg List.length h2;simpa[KS]using this
  have e2:t.2=dO d.aJ.length:=a2i l1 fun j hj=>by have sF:j<d.aJ.length:=(by omega);have:(KS d t).e[j]'(by rw[h1];exact sF)=d.aJ[j]:=(by simp only[h1]);unfold KS at this;simp only[a9v]at this;rw[<-a2h sF]at this;exact Y3 hd.aJ (ht.e2 _ (a4X hj)) (aH sF) this
  have key:∀(N:Nat) (o:Int),o∈t.1->o.toNat<N->xO t o=o:=by
   intro N
   induction N with
   |zero=>intro o _ hN;omega
   |succ N ih=>
    intro o ho hN;have Zm:=ht.n2 o ho;have aT:=a5b.2 ho;have sF:t.1.idxOf o<d.aj.length:=(by omega);have hel:=a90 aT;have:(KS d t).n[t.1.idxOf o]'(by rw[h2];exact sF)=d.aj[t.1.idxOf o]:=(by simp only[h2]);unfold KS at this;simp only[a9v,hel]at this;have hkm:(ay d o).aA.map (xO t)=(ay d o).aA:=by
     conv=>rhs;rw[<-List.map_id (ay d o).aA]
     apply a5d;intro k lH;show xO t k=k;have hcv:=hk o ho k lH;by_cases c:k<0
     .have:=Q7 (d:=d) (n:=0) (m:=d.aJ.length) he (hW o Zm k lH) ⟨fun c=>by have:=hcv.1 c;rwa [e2]at this,fun h0=>by omega⟩;unfold xO at this ⊢;rw[a0A c]at this ⊢;rw[e2];exact this
     obtain⟨i,hi,rfl⟩:=a5h.1 lH;have apS:o.toNat<d.aj.length:=by have:=Zm.1;have:=Zm.2;omega
     have h9:=(h.zT o.toNat apS i hi).1;have h9:(ay d o).aA.getD i 0<(o.toNat:Int):=h9;rw[rZ hi]at h9;exact ih _ (hcv.2 (by omega)) (by omega)
    rw[hkm]at this;have hv:(fD d (t.1.idxOf o)).var=(fD d o.toNat).var:=(by rw[show fD d (t.1.idxOf o)=d.aj[t.1.idxOf o]from hg _ sF,<-this]);have yt:(fD d (t.1.idxOf o)).aA=(fD d o.toNat).aA:=(by rw[show fD d (t.1.idxOf o)=d.aj[t.1.idxOf o]from hg _ sF,<-this]);have h8:=hd.aj _ _ sF (by have:=Zm.1;have:=Zm.2;omega) hv yt;unfold xO;rw[a0y (by have:=Zm.1;omega),h8];have:=Zm.1;omega
  refine⟨a2i l2 fun j hj=>?_,e2⟩;have hm:=a4X hj;have:=key ((t.1[j]).toNat+1) _ hm (by omega);unfold xO at this;rw[a0y (by have:=(ht.n2 _ hm).1;omega)]at this;rw[<-this];have:t.1.idxOf t.1[j]=j:=by have h5:=a5b.2 hm;exact(aal (i:=t.1.idxOf t.1[j]) (j:=j) (h₀:=h5) (h₁:=hj) ht.n1).1 (a90 h5)
  rw[this]
 rintro⟨h1,h2⟩;obtain⟨t1,t2⟩:=t;simp only at h1 h2;subst h1 h2;refine⟨?_,?_,Q7 (d:=d) he hw.root hc⟩
 .exact Y6 d.aJ (fun e=>d.aJ.getD e.toNat V0) fun j hj=>a2h hj
 refine Y6 d.aj _ fun j hj=>?_;have hkm:(ay d (j:Nat)).aA.map (xO (dO d.aj.length,dO d.aJ.length))=(ay d (j:Nat)).aA:=by
  conv=>rhs;rw[<-List.map_id (ay d (j:Nat)).aA]
  apply a5d;intro k lH;exact Q7 (d:=d) he (hW _ (aH hj) k lH) (hk _ (by show(j:Int)∈dO _;unfold dO;rw[a0P];exact⟨j,a4V.2 hj,rfl⟩) k lH)
 rw[hkm,hg j hj]
theorem JK{d:Dg}(h:C9 d)(hw:Ij d)(he:d.aJ.length<=2^61)(hn:d.aj.length<=6000):eY d=d↔o9 d=true:=by
 have main:DgD d->(eY d=d↔(srN d d.root=dO d.aj.length∧srE d d.root=dO d.aJ.length)):=fun hd=>by
  have hr:d.root+1<6002:=by have:=h.root.1;omega
  have ha:=adJ h hw hd he 6002 d.root ([],[]) hr sr0 (fun o ho=>by cases ho) h.root (by omega);have hs:=KZ h 6002 d.root ([],[]) sr0 h.root;have hi:=agc h hw hd he hs ha.aA ha.cov;have e0:KS d ([],[])=cl0:=rfl;have e1:=ha.eq;rw[e0]at e1;unfold srN srE;rw[<-hi];unfold eY;rw[e1];obtain⟨d1,d2,d3,d4,d5⟩:=d;simp
 rw[Y5];constructor
 .intro e;have hd:=a4c h e;exact⟨hd,(main hd).1 e⟩
 rintro⟨hd,h2⟩;exact(main hd).2 h2
open Go Tw Pv bQ
abbrev HCw(l:Lo)(x:Cs):List (PB aG):=[.list false false 3 l.s,.list false false 3 l.o,.map (kV.es (zV x.e)),.map (kK.es (yV x.n)),mkC l.s l.o 12 13 0,.gone,.gone,.cells l.ps,.cells [.ptr 4 0 9],.map (kI.es (LQ x.k)),.cells [.map 9],.cells [.fn 195 [] pC],Qr x.e,Qs x.n]
structure ClP(l:Lo):Prop where
 s:l.s=l.d.ah
 o:l.o=l.d.aB
 t:C9 l.d
 e:l.d.aJ.length+1<=au
 n:l.d.aj.length<=6000
 k:∀i,i<l.d.aj.length->1<=(fD l.d i).aA.length
 sl:l.d.ah.length<=au
 ol:l.d.aB.length<=au
def adL:fF aG:=dw 161 (a1 loA) dA (fun l=>eY l.d) (fun l=>[ClP l]) adH
theorem akR:Gd adL:=akP.Xo 6010 adA fun n hn hO hOl l hp=>by obtain⟨n,rfl⟩:∃k,n=k+6009:=⟨n-6009,by omega⟩;have h:ClP l:=hp _ iD;obtain⟨s,o,d⟩:=l;obtain⟨e1,e2,ht,he,hn6,hk,hsl,Ry⟩:=h;obtain rfl:s=d.ah:=e1;obtain rfl:o=d.aB:=e2;have hO':∀m,n+1<=m->Ok m _:=fun m hm=>hOl m (by omega);have he:d.aJ.length+1<=au:=he;have hn6:d.aj.length<=6000:=hn6;have hr:=ht.root.1;have hr:d.root<(d.aj.length:Int):=hr;have pV:=sCl (N:=n+1) hO' ht he (by unfold au;omega) hk 6002 d.root cl0 (by omega) Vl ht.root (by omega);have gu:=apO (n:=n+6008) (hO' _ (by omega)) d.ah d.aB hsl Ry;show pR _ _ _ _ _ (dA.put (eY d)) _;unfold eY;generalize bZ d 6002 d.root cl0=z at pV ⊢;obtain⟨v,e,nd,k⟩:=z;exact aP (hO (n+6009) (by omega)) (.fr [] gu (.QD (H2:=HCw (yY d) ⟨e,nd,k⟩) [1,2,3,4,5,6,7,0,8,9,10,11] [7,8,10,11] pV .rr))
open Go Tw Pv bQ
theorem a2j{d:Dg}(h:C9 d):∀(F:Nat) (r:Int) (x:Cs),(∀b∈x.n,b.aA.length<=12)->jB d r d.aj.length->∀b∈(bZ d F r x).2.n,b.aA.length<=12
 | 0,_,_,hx,_=>hx
 |F+1,r,x,hx,hr=>by
  unfold bZ;by_cases c:r<0
  .rw[a0A (by simpa using c)];exact hx
  rw[a0y (by simpa using c)];split
  .exact hx
  have aT:r.toNat<d.aj.length:=by have:=hr.1;omega
  have hb:=Il (d:=d) (fun y=>∀b∈y.n,b.aA.length<=12) (F:=F) (r:=r) hx (fun j y hj hy=>a2j h F _ y hy (by have h9:=h.zT r.toNat aT j hj;have h8:=h9.1;have h8:(ay d r).aA.getD j 0<(r.toNat:Int):=h8;exact⟨by have:=hr.1;omega,h9.2⟩))
  intro b QL;simp only[dD]at QL;split at QL
  .exact hb.2 b QL
  split at QL
  .exact hb.2 b QL
  rcases a3s.1 QL with QL|QL
  .exact hb.2 b QL
  rw[a2O.1 QL];show List.length _<=12;rw[hb.1];exact h.JF r.toNat aT
theorem xI{d:Dg}(h:Ij d)(he:d.aJ.length+1<=au)(hs:d.ah.length<=au)(ho:d.aB.length<=au)(h0:(bF d).2=0):(bF d).1=yY d∧ClP (yY d):=by
 rw[JI h (by omega)]at h0 ⊢;have h0:aX d=0:=h0;have hc:=iF ho (show d.aJ.length<=au by omega) (by simp[h0]);have hf:(bV d.ah d.aB != 0)=false:=by
  cases e:bV d.ah d.aB != 0
  .rfl
  unfold aX at h0;rw[a0A e]at h0;simp[h0]at e
 refine⟨by rw[a0y (by rw[hf];simp)],rfl,rfl,hc.1,he,hc.2,fun i hi=>?_,hs,ho⟩;have h1:=hc.1.ksz i hi;have h2:=hc.1.var i hi;have h3:=(Ba hf).sz _ (cu (s:=d.ah) (k:=(fD d i).var.toNat) (by have:=h2.2;have:=h2.1;omega));have h1:((fD d i).aA.length:Int)=d.ah.getD (fD d i).var.toNat 0:=h1;show 1<=(fD d i).aA.length;omega
def vZ(d:Dg):Lo×Int:=if(bF d).2==0 then(if(!(Ip (eY (bF d).1.d) d))=true then((bF d).1,4)else bF d)else bF d
theorem a0a{d:Dg}(h:C9 d)(hn:d.aj.length<=6000):(eY d).aJ.length<=d.aJ.length∧(eY d).aj.length<=6000∧∀b∈(eY d).aj,b.aA.length<=12:=by have hc:=PX h 6002 d.root cl0 Vl h.root;refine⟨hc.akK,?_,a2j h 6002 d.root cl0 (by simp) h.root⟩;have h1:=hc.JF;have h2:=hc.n2;show(bZ d 6002 d.root cl0).2.n.length<=6000;omega
theorem a4d{d:Dg}(h:Ij d)(hs:d.ah.length<=au)(ho:d.aB.length<=2^20)(he:d.aJ.length+1<=au)(h0:((bF d).2==0)=true):ClP (bF d).1∧(eY (bF d).1.d).ah.length<=au∧(eY (bF d).1.d).aB.length<=au∧(eY (bF d).1.d).aJ.length<=au∧(eY (bF d).1.d).aj.length<=au∧∀k,k<(eY (bF d).1.d).aj.length->((eY (bF d).1.d).aj.getD k jZ).aA.length<=au:=by
 have ho:d.aB.length<=au:=by unfold au;omega
 obtain⟨h1,h2⟩:=xI h he hs ho (by simpa using h0);rw[h1];obtain⟨a,b,c⟩:=a0a h2.t h2.n;refine⟨h2,hs,ho,?_,?_,fun k hk=>?_⟩
 .have a:(eY d).aJ.length<=d.aJ.length:=a;show(eY d).aJ.length<=au;omega
 .have b:(eY d).aj.length<=6000:=b;show(eY d).aj.length<=au;unfold au;omega
 exact m12 (c _ (XZ hk))
def adM:fF aG:=dw 172 (a1 dA) (dU (a2 loA iA)) (fun p=>vZ p) (fun p=>[Ij p,p.ah.length<=au,p.aB.length<=2^20,p.aJ.length+1<=au]) adL
theorem akS:Gd adM:=akR.add fun n hO p hp=>aP hO (.o (hp _ Ah) (.o (hp _ hh2) (.o (by have h9:p.aJ.length+1<=au:=hp _ (.tail _ (.tail _ (.tail _ (.head _))));show p.aJ.length<=au;omega) (.sh (fun h=>have q:=a4d (hp _ iD) (hp _ Ah) (hp _ hh2) (hp _ (.tail _ (.tail _ (.tail _ (.head _))))) h;.o q.1 (.o q.2.1 (.o q.2.2.1 (.o q.2.2.2.1 (.o q.2.2.2.2.1 (.o q.2.2.2.2.2 (.ss .rr .rr))))))) fun _=>.rr))))
theorem Y7{d:Dg}(h:Ij d)(hs:d.ah.length<=au)(ho:d.aB.length<=au)(he:d.aJ.length+1<=au):vZ d=(if(bV d.ah d.aB != 0)=true then lo0 else yY d,kP d):=by
 have h9:=JI h (show d.aJ.length<=au by omega);unfold vZ kP;by_cases h0:(bF d).2=0
 .obtain⟨h1,h2⟩:=xI h he hs ho h0;have h3:=JK h2.t h (show d.aJ.length<=2^61 by unfold au at he;omega) h2.n;have h4:aX d=0:=by rw[h9]at h0;exact h0
  rw[a0A (show((bF d).2==0)=true by simpa using h0),h1,h4,a0y (show ¬(((0:Int) != 0)=true) by simp)];rw[h9]at h1;show(if(!(Ip (eY d) d))=true then(yY d,4)else bF d)=_;have h1:(if(bV d.ah d.aB != 0)=true then lo0 else yY d)=yY d:=h1;rw[h9,h1];by_cases h5:eY d=d
  .rw[a0y (show ¬((!(Ip (eY d) d))=true) by rw[a2c.2 h5];simp),a0y (show ¬((!(o9 d))=true) by rw[h3.1 h5];simp),h4]
  have h6:Ip (eY d) d=false:=by
   cases e:Ip (eY d) d
   .rfl
   exact absurd (a2c.1 e) h5
  have h7:o9 d=false:=by
   cases e:o9 d
   .rfl
   exact absurd (h3.2 e) h5
  rw[a0A (show(!(Ip (eY d) d))=true by rw[h6];rfl),a0A (show(!(o9 d))=true by rw[h7];rfl)]
 have h4:¬aX d=0:=by rw[h9]at h0;exact h0
 rw[a0y (show ¬(((bF d).2==0)=true) by simpa using h0),h9,a0A (show(aX d != 0)=true by simpa using h4)]
open Go Tw Pv bQ
def cellsD(d:Dg):List V:=(List.range (vC d.ah)).map fun(k:Nat)=>qE d (jo d.ah k)
open Go Tw Pv bQ
def EL(N:List Br)(c:Int)(ks:LI0):Int:=if(ks.all fun x=>x==ks.getD 0 0)=true then ks.getD 0 0 else(N.idxOf (⟨c,ks⟩:Br):Nat)
def og(N:List Br)(c:Int)(ks:LI0):List Br:=if(ks.all fun x=>x==ks.getD 0 0)=true then N else if(⟨c,ks⟩:Br)∈N then N else N++[⟨c,ks⟩]
abbrev EN:Type:=List V×List Br
def qy(f:LI0->EN->Int×EN)(c:Int)(p:LI0)(j:Nat)(y:LI0×EN):LI0×EN:=(y.1++[(f (p.set c.toNat j) y.2).1],(f (p.set c.toNat j) y.2).2)
def eF(s:LI0)(l:List V):LI0->LI0->EN->Int×EN
 | [],p,x=>(i64.wrap (-1-(x.1.idxOf (l.getD (gQ s p).toNat V0):Nat)),(fB x.1 (l.getD (gQ s p).toNat V0),x.2))
 |c::r,p,x=>
  let y:=aO (qy (eF s l r) c p) (s.getD c.toNat 0).toNat 0 ([],x)
  (EL y.2.2 c y.1,(y.2.1,og y.2.2 c y.1))
def wO(s:LI0):LI0->Nat
 | []=>1
 |c::r=>(s.getD c.toNat 0).toNat*wO s r
theorem Vm{s:LI0}(hs:kU s):∀{o:LI0},(∀c∈o,fK c s.length)->1<=wO s o
 | [],_=>a0K _
 |c::r,h=>by have h1:=Vm hs (o:=r) fun c hc=>h c (by simp[hc]);obtain⟨h2,h3⟩:=h c (by simp);have h4:=hs _ (cu (s:=s) (k:=c.toNat) (by omega));have h5:1*1<=(s.getD c.toNat 0).toNat*wO s r:=ahD (by omega) h1;simpa[wO]using h5
theorem a0b(E:List V)(v:V):(fB E v).length<=E.length+1:=by unfold fB;split<;>simp
theorem a8a(N:List Br)(c:Int)(ks:LI0):(og N c ks).length<=N.length+1:=by
 unfold og;split
 .omega
 split<;>simp
theorem abe{f:LI0->EN->Int×EN}{c:Int}{p:LI0}{n w:Nat}(h:∀q x,(f q x).2.1.length<=x.1.length+w∧(f q x).2.2.length+1<=x.2.length+w)(x:EN):(aO (qy f c p) n 0 ([],x)).1.length=n∧(aO (qy f c p) n 0 ([],x)).2.1.length<=x.1.length+n*w∧(aO (qy f c p) n 0 ([],x)).2.2.length+n<=x.2.length+n*w:=by
 have:=bK (g:=qy f c p) (m:=n) (k:=0) (s:=([],x)) (fun k y=>y.1.length=k∧y.2.1.length<=x.1.length+k*w∧y.2.2.length+k<=x.2.length+k*w) ⟨rfl,by simp,by simp⟩ (fun j y _ _ hy=>by
  obtain⟨h1,h2,h3⟩:=hy;have:=h (p.set c.toNat j) y.2;refine⟨by simp[qy,h1],?_,?_⟩
  .simp only[qy,a3z,abr];omega
  simp only[qy,a3z,abr];omega)
 rw[a3T]at this;exact this
theorem a0c{s:LI0}{l:List V}(hs:kU s):∀(o p:LI0) (x:EN),(∀c∈o,fK c s.length)->(eF s l o p x).2.1.length<=x.1.length+wO s o∧(eF s l o p x).2.2.length+1<=x.2.length+wO s o
 | [],p,x,_=>by have:=a0b x.1 (l.getD (gQ s p).toNat V0);exact⟨this,by simp[eF,wO]⟩
 |c::r,p,x,h=>by
  obtain⟨h1,h2,h3⟩:=abe (f:=eF s l r) (c:=c) (p:=p) (n:=(s.getD c.toNat 0).toNat) (w:=wO s r) (fun q x=>a0c hs r q x fun c hc=>h c (by simp[hc])) x;obtain⟨i1,i2⟩:=h c (by simp);have h4:=hs _ (cu (s:=s) (k:=c.toNat) (by omega));simp only[eF,wO];generalize aO (qy (eF s l r) c p) (s.getD c.toNat 0).toNat 0 ([],x)=y at h1 h2 h3;refine⟨h2,?_⟩;by_cases hn:(s.getD c.toNat 0).toNat=1
  .have e:og y.2.2 c y.1=y.2.2:=by
    unfold og;rw[a0A];rw[hn]at h1
    match hy:y.1,h1 with
    | [a],_=>simp
   rw[e];omega
  have:=a8a y.2.2 c y.1;omega
theorem a8b{α:Type}[DecidableEq α]{l:List α}{d a:α}{c:Nat->Bool}(hc:∀k,k<l.length->c k=decide (l.getD k d=a)):(a∈l->bM c l.length=.inr (l.idxOf a))∧(a∉l->kR (bM c l.length)=true):=by
 constructor
 .intro h;have hi:=a5b.2 h;have h1:c (l.idxOf a)=true:=by rw[hc _ hi,a0S,List.getD,a0d hi,a5q,a90]
  cases e:kR (bM c l.length)
  .obtain⟨j,hj,cj,hb,e2⟩:=Nc e;rw[e2];congr 1;rcases Nat.lt_trichotomy j (l.idxOf a)with g|g|g
   .exfalso;rw[hc j hj,a0S,List.getD,a0d hj,a5q]at cj;have:=List.not_of_lt_findIdx (p:=(·==a)) g;rw[cj]at this;simp at this
   .exact g
   rw[hb _ g]at h1;cases h1
  rw[dQ.1 e _ hi]at h1;cases h1
 intro h;refine dQ.2 fun j hj=>?_;rw[hc j hj,a3b,List.getD,a0d hj,a5q];rintro rfl;exact h (a4X hj)
structure PtP(s o:LI0)(l:List V):Prop where
 bY:uO s
 ord:∀c∈o,fK c s.length
 len:(l.length:Int)=aY s
 agd:o.length<=au
 slen:s.length<=au
open Go Tw Pv bQ
def ji(s o:LI0)(l:List V):Dg:=⟨s,o,(eF s l o (List.replicate s.length 0) ([],[])).2.1,(eF s l o (List.replicate s.length 0) ([],[])).2.2,(eF s l o (List.replicate s.length 0) ([],[])).1⟩
theorem DR:∀{s:LI0},kU s->iU s (List.replicate s.length 0)=true
 | [],_=>rfl
 |a::s,h=>by have:=h a (a2Z ..);simp only[a4M,aen,iU,a1R,a0S];exact⟨⟨a9u _,by omega⟩,DR h.tail⟩
open Go Tw Pv bQ
theorem a8c{a b:LI0}(ha:a.length<=12)(he:a.length=b.length)(h:Ik a=Ik b):a=b:=by
 have e:∀l:LI0,l.length<=12->(Ik l).take l.length=l:=fun l hl=>by unfold Ik;rw[afQ,a8g hl,List.take_left]
 rw[<-e a ha,<-e b (by omega),h,he]
def NOk(s:LI0)(N:List Br):Prop:=∀b∈N,fK b.var s.length∧(b.aA.length:Int)=s.getD b.var.toNat 0
theorem a8d{s:LI0}(hs:kU s){N:List Br}(h:NOk s N){c:Int}{ks:LI0}(hc:fK c s.length)(hk:(ks.length:Int)=s.getD c.toNat 0){b:Br}(hb:b∈N):Ci b=um c ks↔b=⟨c,ks⟩:=by
 constructor
 .intro e;obtain⟨v,l⟩:=b;have e1:v=c:=congrArg Prod.fst e;subst e1;have e2:Ik l=Ik ks:=congrArg (fun x:Ky=>x.2.1) e;have hl:=(h _ hb).2;have hl:(l.length:Int)=s.getD v.toNat 0:=hl;have hz:=hs _ (cu (s:=s) (k:=v.toNat) (by have:=hc.1;have:=hc.2;omega));rw[a8c (by omega) (by omega) e2]
 rintro rfl;rfl
theorem Y8{s:LI0}(hs:kU s){N:List Br}(h:NOk s N){c:Int}{ks:LI0}(hc:fK c s.length)(hk:(ks.length:Int)=s.getD c.toNat 0):eu N c ks=EL N c ks∧dD N c ks=og N c ks:=by
 have hm:um c ks∈N.map Ci↔(⟨c,ks⟩:Br)∈N:=by
  rw[a0P];constructor
  .rintro⟨b,hb,e⟩;rw[(a8d hs h hc hk hb).1 e]at hb;exact hb
  intro hb;exact⟨_,hb,rfl⟩
 have hi:(N.map Ci).idxOf (um c ks)=N.idxOf (⟨c,ks⟩:Br):=by
  clear hm
  induction N with
  |nil=>rfl
  |cons b N ih=>
   have e:=a8d hs h hc hk (b:=b) (by simp);rw[a4L,adZ,adZ,ih fun b hb=>h b (by simp[hb])];have:(Ci b==um c ks)=(b==(⟨c,ks⟩:Br)):=by rw[a5c,a7h,a7h];exact e
   rw[this]
 unfold eu EL dD og;rw[hi];refine⟨rfl,?_⟩;split
 .rfl
 by_cases g:um c ks∈N.map Ci
 .rw[a0A g,a0A (hm.1 g)]
 rw[a0y g,a0y fun x=>g (hm.2 x)]
open Go Tw Pv bQ
theorem abf{s:LI0}{a b:LI0}(h:a.Perm b):wO s a=wO s b:=by
 induction h with
 |nil=>rfl
 |cons x _ ih=>simp only[wO,ih]
 |swap x y l=>simp only[wO];rw[<-Nat.mul_assoc,<-Nat.mul_assoc,Nat.mul_comm (s.getD y.toNat 0).toNat]
 |trans _ _ i1 i2=>rw[i1,i2]
theorem Y9{s:LI0}(hs:kU s):∀(m k:Nat),k+m=s.length->(wO s ((List.range' k m).map fun(j:Nat)=>(j:Int)):Int)=aY (s.drop k)
 | 0,k,h=>by rw[ah1 (by omega)];rfl
 |m+1,k,h=>by
  have hk:k<s.length:=by omega
  have hz:=hs _ (cu (s:=s) (k:=k) hk);rw[List.range'_succ,a4L,wO,Pg hk,aez,Y9 hs m (k+1) (by omega),a5g,aek (by omega)]
theorem DT{s o:LI0}(hs:kU s)(h:kE s.length o=true):(wO s o:Int)=aY s:=by have h':=h;unfold kE at h';rw[a0S]at h';have hi:=Tt s.length;have xR:=hi;unfold kE at xR;rw[a0S]at xR;have hp:o.Perm (dO s.length):=(a7B h'.2.2 xR.2.2).2 fun a=>⟨fun ha=>lX hi (h'.2.1 a ha),fun ha=>lX h (xR.2.1 a ha)⟩;rw[abf hp];have:=Y9 hs s.length 0 (by omega);rw[<-List.range_eq_range']at this;exact this
open Go Tw Pv bQ
inductive To(d:Dg)(q:LI0):Int->V->Prop
 |fin {r:Int} (h:r<0):To d q r (d.aJ.getD (jI r).toNat V0)
 |step {r:Int} {c:V} (h:0<=r) (t:To d q ((ay d r).aA.getD (q.getD (ay d r).var.toNat 0).toNat 0) c):To d q r c
theorem To.at_{d:Dg}(h:C9 d){q:LI0}(hq:iU d.ah q=true){r:Int}{c:V}(t:To d q r c):∀F:Nat,r<F->jB d r d.aj.length->c=d.aJ.getD (jI (atF d q F r)).toNat V0:=by
 induction t with
 |fin hr=>
  intro F _ _;cases F with
  |zero=>rfl
  |succ F=>rw[atF,a0A hr]
 |step hr _ ih=>
  intro F hF hk;cases F with
  |zero=>omega
  |succ F=>
   rw[atF,a0y (by omega)];have:=(JH h hq ⟨hr,hk.1⟩).2.2;exact ih F (by have:=this.1;omega) ⟨by have:=this.1;have:=hk.1;omega,this.2⟩
theorem To.of{d:Dg}(h:C9 d){q:LI0}(hq:iU d.ah q=true):∀(F:Nat) (r:Int),r<F->jB d r d.aj.length->To d q r (d.aJ.getD (jI (atF d q F r)).toNat V0)
 | 0,r,hr,_=>.fin (by omega)
 |F+1,r,hr,hk=>by
  rw[atF];split
  .rename_i c;exact .fin c
  rename_i c;have:=(JH h hq ⟨by omega,hk.1⟩).2.2;exact .step (by omega) (To.of h hq F _ (by have:=this.1;omega) ⟨by have:=this.1;have:=hk.1;omega,this.2⟩)
theorem To.det{d:Dg}{q:LI0}{r:Int}{a b:V}(h:To d q r a):To d q r b->a=b:=by
 induction h with
 |fin hr=>intro g;cases g with
  |fin _=>rfl
  |step h _=>omega
 |step hr _ ih=>intro g;cases g with
  |fin h=>omega
  |step _ t=>exact ih t
theorem Bc(E:List V)(v:V):E <+: fB E v:=by
 unfold fB;split
 .exact a4Z
 exact a94 _ _
theorem DU(N:List Br)(c:Int)(ks:LI0):N <+: og N c ks:=by
 unfold og;split
 .exact a4Z
 split
 .exact a4Z
 exact a94 _ _
def Gn(x y:EN):Prop:=x.1 <+: y.1∧x.2 <+: y.2
theorem Gn.rfl{x:EN}:Gn x x:=⟨a4Z,a4Z⟩
theorem Gn.trans{x y z:EN}(a:Gn x y)(b:Gn y z):Gn x z:=⟨a.1.trans b.1,a.2.trans b.2⟩
theorem JL{s:LI0}{l:List V}:∀(r p:LI0) (x:EN),Gn x (eF s l r p x).2
 | [],p,x=>⟨Bc _ _,a4Z⟩
 |c::r,p,x=>by have:=bK (g:=qy (eF s l r) c p) (m:=(s.getD c.toNat 0).toNat) (k:=0) (s:=([],x)) (fun _ y=>Gn x y.2) Gn.rfl (fun j y _ _ hy=>hy.trans (JL r _ y.2));exact⟨this.1,this.2.trans (DU _ _ _)⟩
theorem zW{α:Type}{a b:List α}{d:α}(h:a <+: b){k:Nat}(hk:k<a.length):b.getD k d=a.getD k d:=by obtain⟨t,rfl⟩:=h;simp[List.getD,a0m hk]
theorem Q8{k:Nat}(hk:k<2^61):i64.wrap (-1-(k:Int))=-1-(k:Int)∧jI (-1-(k:Int))=(k:Int):=by refine⟨fQ (by omega) (by omega),?_⟩;unfold jI;rw[fQ (by omega) (by omega)];omega
theorem TK(E:List V)(v:V):E.idxOf v<(fB E v).length∧(fB E v).getD (E.idxOf v) V0=v:=by
 unfold fB;split
 .rename_i h;have:=a5b.2 h;exact⟨this,by simp[List.getD,a0d this]⟩
 rename_i h;rw[a8e h];exact⟨by simp,by simp[List.getD]⟩
theorem Vo{N:List Br}{c:Int}{ks:LI0}(hf:¬(ks.all fun x=>x==ks.getD 0 0)=true):N.idxOf (⟨c,ks⟩:Br)<(og N c ks).length∧(og N c ks).getD (N.idxOf (⟨c,ks⟩:Br)) jZ=⟨c,ks⟩:=by
 unfold og;rw[a0y hf];split
 .rename_i h;have:=a5b.2 h;exact⟨this,by simp[List.getD,a0d this]⟩
 rename_i h;rw[a8e h];exact⟨by simp,by simp[List.getD]⟩
def Agr(s r q p:LI0):Prop:=∀k:Nat,k<s.length->(k:Int)∉r->q.getD k 0=p.getD k 0
theorem Agr.set{s r q p:LI0}{c:Int}(hc:fK c s.length)(hp:p.length=s.length)(h:Agr s (c::r) q p):Agr s r q (p.set c.toNat (q.getD c.toNat 0)):=fun k hk hr=>by
 by_cases e:k=c.toNat
 .subst e;have e2:(p.set c.toNat (q.getD c.toNat 0)).getD c.toNat 0=q.getD c.toNat 0:=by simp[List.getD,a1y (show c.toNat<p.length by omega)]
  exact e2.symm
 .rw[show(p.set c.toNat (q.getD c.toNat 0)).getD k 0=p.getD k 0 by rw[List.getD,a0R (ahr e)];rfl];exact h k hk (by simp only[a1z,adV];exact⟨fun e2=>e (by omega),hr⟩)
theorem Agr.back{s r q p:LI0}{c j:Int}(hc:fK c s.length)(h:Agr s r q (p.set c.toNat j)):Agr s (c::r) q p:=fun k hk hr=>by simp only[a1z,adV]at hr;have hc:=hc.1;have e:k≠c.toNat:=fun e=>hr.1 (by omega);have:=h k hk hr.2;rw[this,List.getD,a0R (ahr e)];rfl
theorem agf{s q p:LI0}(hq:q.length=s.length)(hp:p.length=s.length)(h:Agr s [] q p):q=p:=(oM (d:=(0:Int)) (by omega)).2 fun k hk=>h k (by omega) (by simp)
theorem a4e{ks:LI0}(h:(ks.all fun x=>x==ks.getD 0 0)=true){j:Nat}(hj:j<ks.length):ks.getD j 0=ks.getD 0 0:=by rw[a5a]at h;have:=h (ks.getD j 0) (cu hj);simpa using this
theorem adO{s:LI0}{l:List V}(hs:kU s):∀(r p:LI0) (x:EN),(∀c∈r,fK c s.length)->p.length=s.length->∀d:Dg,d.aJ.length<2^61->(eF s l r p x).2.1 <+: d.aJ->(eF s l r p x).2.2 <+: d.aj->∀q,iU s q=true->Agr s r q p->To d q (eF s l r p x).1 (l.getD (gQ s q).toNat V0)
 | [],p,x,_,hp,d,hd,h1,_,q,hq,ha=>by
  have e:=agf (qc hq) hp ha;subst e;obtain⟨g1,g2⟩:=TK x.1 (l.getD (gQ s q).toNat V0);have h1:fB x.1 (l.getD (gQ s q).toNat V0) <+: d.aJ:=h1;have aT:x.1.idxOf (l.getD (gQ s q).toNat V0)<2^61:=by have:=h1.length_le;omega
  obtain⟨e1,e2⟩:=Q8 aT;show To d q (i64.wrap (-1-(x.1.idxOf (l.getD (gQ s q).toNat V0):Nat))) _;rw[e1];have:=To.fin (d:=d) (q:=q) (r:=-1-((x.1.idxOf (l.getD (gQ s q).toNat V0):Nat):Int)) (by omega);rw[e2,a5g,zW h1 g1,g2]at this;exact this
 |c::r,p,x,hr,hp,d,hd,h1,h2,q,hq,ha=>by
  have hc:=hr c (by simp);have hri:∀c'∈r,fK c' s.length:=fun c' h=>hr c' (by simp[h]);have YH:=(qg.1 hq).2 c.toNat (by have:=hc.1;have:=hc.2;omega);have inv:=bK (g:=qy (eF s l r) c p) (m:=(s.getD c.toNat 0).toNat) (k:=0) (s:=([],x)) (fun k y=>y.1.length=k∧∀j:Nat,j<k->y.2.1 <+: d.aJ->y.2.2 <+: d.aj->∀q,iU s q=true->Agr s r q (p.set c.toNat j)->To d q (y.1.getD j 0) (l.getD (gQ s q).toNat V0)) ⟨rfl,fun j hj=>by omega⟩ (fun j y _ hj hy=>by
   obtain⟨y1,y2⟩:=hy;refine⟨by simp[qy,y1],fun j' DZ g1 g2 q hq ha=>?_⟩;have EI:=JL (s:=s) (l:=l) r (p.set c.toNat j) y.2;by_cases e:j'<j
   .have:(qy (eF s l r) c p j y).1.getD j' 0=y.1.getD j' 0:=by show(y.1++_).getD j' 0=_;simp[List.getD,a0m (show j'<y.1.length by omega)]
    rw[this];exact y2 j' e (EI.1.trans g1) (EI.2.trans g2) q hq ha
   have e:j'=j:=(by omega);subst e;have:(qy (eF s l r) c p j' y).1.getD j' 0=(eF s l r (p.set c.toNat j') y.2).1:=by show(y.1++[_]).getD j' 0=_;simp[List.getD,<-y1]
   rw[this];exact adO hs r _ y.2 hri (by simp[hp]) d hd g1 g2 q hq ha)
  rw[a3T]at inv;simp only[eF]at h1 h2 ⊢;generalize aO (qy (eF s l r) c p) (s.getD c.toNat 0).toNat 0 ([],x)=y at inv h1 h2;obtain⟨ks,E,N⟩:=y;obtain⟨hlen,inv⟩:=inv;have hlen:ks.length=(s.getD c.toNat 0).toNat:=hlen;have h2:og N c ks <+: d.aj:=h2;have hj:(q.getD c.toNat 0).toNat<(s.getD c.toNat 0).toNat:=by omega
  have YT:((q.getD c.toNat 0).toNat:Int)=q.getD c.toNat 0:=by omega
  have t:=inv (q.getD c.toNat 0).toNat hj h1 ((DU N c ks).trans h2) q hq (by rw[YT];exact Agr.set hc hp ha);have t:To d q (ks.getD (q.getD c.toNat 0).toNat 0) (l.getD (gQ s q).toNat V0):=t;show To d q (EL N c ks) _;by_cases hf:(ks.all fun x=>x==ks.getD 0 0)=true
  .rw[show EL N c ks=ks.getD 0 0 from a0A hf];rw[a4e hf (by omega)]at t;exact t
  rw[show EL N c ks=(N.idxOf (⟨c,ks⟩:Br):Nat)from a0y hf];obtain⟨g1,g2⟩:=Vo (N:=N) (c:=c) hf;have en:ay d ((N.idxOf (⟨c,ks⟩:Br):Nat):Int)=⟨c,ks⟩:=by unfold ay;rw[a5g,zW h2 g1,g2]
  refine .step (by omega) ?_;rw[en];exact t
open Go Tw Pv bQ
def EM(o:LI0)(N:List Br)(r:Int):Nat:=if r<0 then o.length else o.idxOf (N.getD r.toNat jZ).var
def Cc(o:LI0)(x:EN)(v:Int)(b a:Nat):Prop:=(v<0->fK (jI v) x.1.length)∧v<(b:Int)∧a<=EM o x.2 v
structure PtV(s o:LI0)(x:EN):Prop where
 var:∀i,i<x.2.length->fK (x.2.getD i jZ).var s.length
 ksz:∀i,i<x.2.length->((x.2.getD i jZ).aA.length:Int)=s.getD (x.2.getD i jZ).var.toNat 0
 zT:∀i,i<x.2.length->∀k,k<(x.2.getD i jZ).aA.length->Cc o x ((x.2.getD i jZ).aA.getD k 0) i (o.idxOf (x.2.getD i jZ).var+1)
theorem Cc.mono{o:LI0}{x y:EN}{v:Int}{b b' a a':Nat}(h:Cc o x v b a)(hp:Gn x y)(hb:b<=b')(hx:b<=x.2.length)(ha:a'<=a):Cc o y v b' a':=by
 obtain⟨h1,h2,h3⟩:=h;refine⟨fun hv=>⟨(h1 hv).1,by have:=(h1 hv).2;have:=hp.1.length_le;omega⟩,by omega,?_⟩;unfold EM at h3 ⊢;split
 .rename_i c;rw[a0A c]at h3;omega
 rename_i c;rw[a0y c]at h3;rw[zW hp.2 (by omega)];omega
theorem a8f{s o:LI0}{l:List V}(hs:kU s)(ho:∀c∈o,fK c s.length)(hn:o.Nodup):∀(r:LI0) (a:Nat) (p:LI0) (x:EN),o.drop a=r->a<=o.length->PtV s o x->(eF s l r p x).2.1.length<2^61->PtV s o (eF s l r p x).2∧Cc o (eF s l r p x).2 (eF s l r p x).1 (eF s l r p x).2.2.length a
 | [],a,p,x,hr,ha,hx,hE=>by
  have:a=o.length:=by have:=congrArg List.length hr;rw[a3U,a5r]at this;omega
  subst this;obtain⟨g1,g2⟩:=TK x.1 (l.getD (gQ s p).toNat V0);have hE:(fB x.1 (l.getD (gQ s p).toNat V0)).length<2^61:=hE;obtain⟨e1,e2⟩:=Q8 (k:=x.1.idxOf (l.getD (gQ s p).toNat V0)) (by omega);have hp:Gn x (fB x.1 (l.getD (gQ s p).toNat V0),x.2):=⟨Bc _ _,a4Z⟩;refine⟨⟨hx.var,hx.ksz,fun i hi k hk=>(hx.zT i hi k hk).mono hp (a0K _) (a9H hi) (a0K _)⟩,?_⟩;show Cc o _ (i64.wrap (-1-(x.1.idxOf (l.getD (gQ s p).toNat V0):Nat))) _ _;rw[e1];refine⟨fun _=>by rw[e2];exact⟨by omega,by show _<((fB x.1 (l.getD (gQ s p).toNat V0)).length:Int);omega⟩,by omega,?_⟩;unfold EM;rw[a0A (by omega)];exact a0K _
 |c::r,a,p,x,hr,ha,hx,hE=>by
  have aT:a<o.length:=by have:=congrArg List.length hr;rw[a3U,a4M]at this;omega
  have hd:=a6E aT;rw[hr]at hd;obtain⟨hc,wR⟩:=List.cons.inj hd;have G9:c∈o:=by rw[hc];exact a4X aT
  have qF:=ho c G9;have hia:o.idxOf c=a:=by rw[hc];exact hn.idxOf_getElem a aT
  have hz:=hs _ (cu (s:=s) (k:=c.toNat) (by have:=qF.1;have:=qF.2;omega));have mono:=fun(n:Nat) (m:Nat) (y:LI0×EN)=>(bK (g:=qy (eF s l r) c p) (m:=m) (k:=n) (s:=y) (fun _ z=>Gn y.2 z.2) Gn.rfl (fun j z _ _ hz=>hz.trans (JL r _ z.2)));have hEf:(aO (qy (eF s l r) c p) (s.getD c.toNat 0).toNat 0 ([],x)).2.1.length<2^61:=hE;have inv:=bK (g:=qy (eF s l r) c p) (m:=(s.getD c.toNat 0).toNat) (k:=0) (s:=([],x)) (fun k y=>y.1.length=k∧(y.2.1.length<2^61->PtV s o y.2∧∀j:Nat,j<k->Cc o y.2 (y.1.getD j 0) y.2.2.length (a+1))) ⟨rfl,fun _=>⟨hx,fun j hj=>by omega⟩⟩ (fun j y _ hj hy=>by
   obtain⟨y1,y2⟩:=hy;refine⟨by simp[qy,y1],fun hE=>?_⟩;have EI:=JL (s:=s) (l:=l) r (p.set c.toNat j) y.2;have hE:(eF s l r (p.set c.toNat j) y.2).2.1.length<2^61:=hE;obtain⟨v1,v2⟩:=y2 (by have:=EI.1.length_le;omega);obtain⟨w1,w2⟩:=a8f hs ho hn r (a+1) (p.set c.toNat j) y.2 wR.symm aT v1 hE;refine⟨w1,fun j' DZ=>?_⟩;by_cases e:j'<j
   .have:(qy (eF s l r) c p j y).1.getD j' 0=y.1.getD j' 0:=by show(y.1++_).getD j' 0=_;simp[List.getD,a0m (show j'<y.1.length by omega)]
    rw[this];exact(v2 j' e).mono EI EI.2.length_le (a0K _) (a0K _)
   have e:j'=j:=(by omega);subst e;have:(qy (eF s l r) c p j' y).1.getD j' 0=(eF s l r (p.set c.toNat j') y.2).1:=by show(y.1++[_]).getD j' 0=_;simp[List.getD,<-y1]
   rw[this];exact w2)
  rw[a3T]at inv;simp only[eF];generalize aO (qy (eF s l r) c p) (s.getD c.toNat 0).toNat 0 ([],x)=y at inv hEf;obtain⟨ks,E,N⟩:=y;obtain⟨hlen,inv⟩:=inv;obtain⟨i1,i2⟩:=inv hEf;have hlen:ks.length=(s.getD c.toNat 0).toNat:=hlen;have i2:∀j:Nat,j<(s.getD c.toNat 0).toNat->Cc o (E,N) (ks.getD j 0) N.length (a+1):=i2;have EI:Gn (E,N) (E,og N c ks):=⟨a4Z,DU N c ks⟩;show PtV s o (E,og N c ks)∧Cc o (E,og N c ks) (EL N c ks) (og N c ks).length a;by_cases hf:(ks.all fun x=>x==ks.getD 0 0)=true
  .rw[show EL N c ks=ks.getD 0 0 from a0A hf,show og N c ks=N from a0A hf];exact⟨i1,(i2 0 (by omega)).mono Gn.rfl (a0K _) (a0K _) (by omega)⟩
  obtain⟨g1,g2⟩:=Vo (N:=N) (c:=c) hf;rw[show EL N c ks=(N.idxOf (⟨c,ks⟩:Br):Nat)from a0y hf];have L8:a<=EM o (og N c ks) ((N.idxOf (⟨c,ks⟩:Br):Nat):Int):=by unfold EM;rw[a0y (by omega),a5g,g2];show a<=o.idxOf c;omega
  refine⟨?_,⟨fun h=>by omega,by omega,L8⟩⟩;by_cases hm:(⟨c,ks⟩:Br)∈N
  .rw[show og N c ks=N by unfold og;rw[a0y hf,a0A hm]];exact i1
  have eN:og N c ks=N++[⟨c,ks⟩]:=by unfold og;rw[a0y hf,a0y hm]
  rw[eN]at EI ⊢;have hold:∀i,i<N.length->(N++[(⟨c,ks⟩:Br)]).getD i jZ=N.getD i jZ:=fun i hi=>zW (a94 _ _) hi;have gu:(N++[(⟨c,ks⟩:Br)]).getD N.length jZ=⟨c,ks⟩:=by simp[List.getD]
  have vJ:∀i,i<(N++[(⟨c,ks⟩:Br)]).length->i<N.length∨i=N.length:=fun i hi=>by rw[a1w,a4n]at hi;omega
  refine⟨fun i hi=>?_,fun i hi=>?_,fun i hi k hk=>?_⟩
  .show fK ((N++[(⟨c,ks⟩:Br)]).getD i jZ).var s.length;rcases vJ i hi with h|rfl
   .rw[hold i h];exact i1.var i h
   rw[gu];exact qF
  .show(((N++[(⟨c,ks⟩:Br)]).getD i jZ).aA.length:Int)=s.getD ((N++[(⟨c,ks⟩:Br)]).getD i jZ).var.toNat 0;rcases vJ i hi with h|rfl
   .rw[hold i h];exact i1.ksz i h
   rw[gu];show(ks.length:Int)=s.getD c.toNat 0;omega
  have hk:k<((N++[(⟨c,ks⟩:Br)]).getD i jZ).aA.length:=hk;show Cc o (E,N++[(⟨c,ks⟩:Br)]) (((N++[(⟨c,ks⟩:Br)]).getD i jZ).aA.getD k 0) i (o.idxOf ((N++[(⟨c,ks⟩:Br)]).getD i jZ).var+1);rcases vJ i hi with h|rfl
  .rw[hold i h]at hk ⊢;exact(i1.zT i h k hk).mono EI (a0K _) (a9H h) (a0K _)
  rw[gu]at hk ⊢;have hk:k<ks.length:=hk;exact(i2 k (by omega)).mono EI (a0K _) (a0K _) (by show o.idxOf c+1<=a+1;omega)
open Go Tw Pv bQ
theorem Nu(d:Dg)(v:Int):uj d v=(EM d.aB d.aj v:Int):=by
 unfold uj EM;by_cases c:v<0
 .rw[a0A (by simpa using c),a0A c]
 rw[a0y (by simpa using c),a0y c];have hs:=a8b (l:=d.aB) (d:=0) (a:=(ay d v).var) (c:=PO d v) (fun k _=>by unfold PO;rw[a5c];simp);by_cases hm:(ay d v).var∈d.aB
 .rw[hs.1 hm];rfl
 rw[a0A (hs.2 hm),a8e hm]
theorem TL{d:Dg}(hm:d.aJ.length<=au)(hf:(bV d.ah d.aB != 0)=false)(hv:∀v∈d.aJ,vOk v=true)(hn:d.aj.length<=6000)(hp:PtV d.ah d.aB (d.aJ,d.aj))(hr:Cc d.aB (d.aJ,d.aj) d.root d.aj.length 0):aX d=0:=by
 obtain⟨bY,Q9⟩:=jT.1 (show bV d.ah d.aB=0 by simpa using hf);have akT:∀(v:Int) (b a:Nat),Cc d.aB (d.aJ,d.aj) v b a->iP d v b=true:=fun v b a h=>by
  unfold iP;split
  .simpa using h.2.1
  rename_i c;have c:v<0:=by simpa using c
  have:=h.1 c;have e:i64.wrap ((d.aJ.length:Int)-1)=(d.aJ.length:Int)-1:=by unfold au at hm;rw[fQ (by omega) (by omega)]
  rw[vY,e];have h2:=this.2;have h2:jI v<(d.aJ.length:Int):=h2;exact⟨this.1,by show jI v<=_;omega⟩
 have hl:lW d=true:=by
  unfold lW;rw[a0A (dQ.2 fun j hj=>by rw[cLe,hv _ (by simp[List.getD,a0d hj])];rfl),a0A (dQ.2 fun i hi=>?_)]
  .exact akT _ _ _ hr
  have h1:=hp.var i hi;have h2:=hp.ksz i hi;have h3:=hp.zT i hi;have h1:fK (fD d i).var d.ah.length:=h1;have h2:((fD d i).aA.length:Int)=d.ah.getD (fD d i).var.toNat 0:=h2;have e:xw d.ah=(d.ah.length:Int)-1:=by have:=bY.len;unfold xw;rw[fQ (by omega) (by omega)]
  unfold cLn;rw[a0y,a0y (by rw[h2];simp),a0A]
  .refine dQ.2 fun k hk=>?_;have h4:=h3 k hk;unfold cLk;rw[a0y (by rw[akT _ _ _ h4];simp),a3b,Nu,Nu];have h5:=h4.2.2;have e6:EM d.aB d.aj ((i:Nat):Int)=d.aB.idxOf (fD d i).var:=by unfold EM;rw[a0y (by omega),a5g]
   rw[e6];have h5:d.aB.idxOf (fD d i).var+1<=EM d.aB d.aj ((d.aj.getD i jZ).aA.getD k 0):=h5;omega
  have:nI (fD d i).var 0 (xw d.ah)=true:=by rw[vY,e];have:=h1.1;have:=h1.2;exact⟨by omega,by omega⟩
  rw[this];simp
 unfold aX;rw[a0y (by rw[hf];simp),a0y (by rw[a0S];omega),a0y (by rw[hl];simp)]
structure OfP(s o:LI0)(l:List V):Prop where
 bY:uO s
 ord:kE s.length o=true
 len:(l.length:Int)=aY s
theorem OfP.p{s o:LI0}{l:List V}(h:OfP s o l):PtP s o l∧o.Nodup∧o.length=s.length:=by have ho:=h.ord;unfold kE at ho;rw[a0S]at ho;have:=h.bY.len;exact⟨⟨h.bY,fun c hc=>⟨(ho.2.1 c hc).1,(ho.2.1 c hc).2⟩,h.len,by unfold au;omega,by unfold au;omega⟩,ho.2.2,ho.1⟩
theorem Ya{s:LI0}{l:List V}:∀(r p:LI0) (x:EN),(∀q,l.getD (gQ s q).toNat V0∈l∨True)->(∀q,iU s q=true->l.getD (gQ s q).toNat V0∈l)->iU s p=true->(∀c∈r,fK c s.length)->kU s->(∀v∈x.1,v∈l)->∀v∈(eF s l r p x).2.1,v∈l
 | [],p,x,_,h,hp,_,_,hx,v,hv=>by
  have hv:v∈fB x.1 (l.getD (gQ s p).toNat V0):=hv;unfold fB at hv;split at hv
  .exact hx v hv
  rcases a3s.1 hv with hv|hv
  .exact hx v hv
  rw[a2O.1 hv];exact h p hp
 |c::r,p,x,h0,h,hp,hr,hs,hx,v,hv=>by have hc:=hr c (by simp);have hz:=hs _ (cu (s:=s) (k:=c.toNat) (by have:=hc.1;have:=hc.2;omega));have:=bK (g:=qy (eF s l r) c p) (m:=(s.getD c.toNat 0).toNat) (k:=0) (s:=([],x)) (fun _ y=>∀v∈y.2.1,v∈l) hx (fun j y _ hj hy=>Ya r _ y.2 h0 h (DI hp hc ⟨by omega,by omega⟩) (fun c hc=>hr c (by simp[hc])) hs hy);exact this v hv
theorem Bd{s o:LI0}{l:List V}(h:OfP s o l)(hv:∀v∈l,vOk v=true):aX (ji s o l)=0∧(ji s o l).aJ.length<=2000∧(∀v∈(ji s o l).aJ,v∈l)∧PtV s o ((ji s o l).aJ,(ji s o l).aj)∧Cc o ((ji s o l).aJ,(ji s o l).aj) (ji s o l).root (ji s o l).aj.length 0:=by
 obtain⟨hP,hn,ho⟩:=h.p;have hz:=DR h.bY.sz;have hm:=h.bY.many;have hlen:=a0c (l:=l) h.bY.sz o (List.replicate s.length 0) ([],[]) hP.ord;have hw:=DT h.bY.sz h.ord;have a2Q:∀q,iU s q=true->l.getD (gQ s q).toNat V0∈l:=fun q hq=>by
  have:=zM hq h.bY.sz;have:=h.len;have aT:(gQ s q).toNat<l.length:=by omega
  simp[List.getD,a0d aT]
 have nM:=Ya o (List.replicate s.length 0) ([],[]) (fun _=>.inr trivial) a2Q hz hP.ord h.bY.sz (by simp);have WW:=a8f (l:=l) h.bY.sz hP.ord hn o 0 (List.replicate s.length 0) ([],[]) rfl (a5m _) ⟨fun i hi=>(by simp at hi),fun i hi=>(by simp at hi),fun i hi=>(by simp at hi)⟩ (by have:=hlen.1;simp at this;omega);have h1:(ji s o l).aJ.length<=0+wO s o:=hlen.1;have h2:(ji s o l).aj.length+1<=0+wO s o:=hlen.2;refine⟨TL (by unfold au;omega) ?_ (fun v hv2=>hv v (nM v hv2)) (by omega) WW.1 WW.2,by omega,nM,WW.1,WW.2⟩;have:bV s o=0:=jT.2 ⟨h.bY,h.ord⟩;show(bV s o != 0)=false;rw[this];rfl
theorem a2k{s o:LI0}{l:List V}(h:OfP s o l)(hv:∀v∈l,vOk v=true){q:LI0}(hq:iU s q=true):qE (ji s o l) q=l.getD (gQ s q).toNat V0:=by
 obtain⟨hP,hn,ho⟩:=h.p;obtain⟨h1,h2,h3,h4,h5⟩:=Bd h hv;have ht:=iF (d:=ji s o l) hP.agd (by unfold au;omega) (by rw[h1];rfl);have hto:=adO (l:=l) h.bY.sz o (List.replicate s.length 0) ([],[]) hP.ord (by simp) (ji s o l) (by omega) a4Z a4Z q hq (fun k hk YI=>by exfalso;exact YI (lX h.ord ⟨by omega,by omega⟩))
 have hr:=ht.1.root;exact(hto.at_ ht.1 hq 6001 (by have:=hr.1;have:=ht.2;show(ji s o l).root<_;omega) hr).symm
theorem Qa{s o:LI0}{l:List V}(h:OfP s o l)(hv:∀v∈l,vOk v=true):cellsD (ji s o l)=l:=by have hl:=h.len;unfold cellsD;refine a9J (by simp[vC,ji];omega) fun n h1 h2=>?_;have hp:=tY (n:Int) h.bY.sz;simp only[a9v,aeT];show qE (ji s o l) (jo s n)=_;rw[a2k h hv hp,Nh h.bY.sz (by omega) (by omega)];simp[List.getD,a0d h2]
open Go Tw Pv bQ
def Kn(d:Dg)(x:Cs)(v:Int):Prop:=if v<0 then qj d v∈x.e else v∈x.k.map (·.1)
def vG(d:Dg)(x:Cs)(v:Int):Int:=if v<0 then i64.wrap (-1-(x.e.idxOf (qj d v):Nat))else Vh x.k v
def Bf(x y:Cs):Prop:=x.e <+: y.e∧x.n <+: y.n∧x.k <+: y.k
theorem Bf.rfl{x:Cs}:Bf x x:=⟨a4Z,a4Z,a4Z⟩
theorem Bf.trans{x y z:Cs}(a:Bf x y)(b:Bf y z):Bf x z:=⟨a.1.trans b.1,a.2.1.trans b.2.1,a.2.2.trans b.2.2⟩
theorem Kn.mono{d:Dg}{x y:Cs}{v:Int}(h:Kn d x v)(hp:Bf x y):Kn d y v:=by
 unfold Kn at h ⊢;split
 .rename_i c;rw[a0A c]at h;exact hp.1.subset h
 rename_i c;rw[a0y c]at h;obtain⟨t,ht⟩:=hp.2.2;rw[<-ht,a4K,a3s];exact .inl h
theorem TM{α:Type}[BEq α][LawfulBEq α]{a b:List α}{v:α}(h:v∈a)(hp:a <+: b):b.idxOf v=a.idxOf v:=by obtain⟨t,rfl⟩:=hp;rw[a9p,a0A h]
theorem a2l{a b:List (Int×Int)}{v:Int}(h:v∈a.map (·.1))(hp:a <+: b):Vh b v=Vh a v:=by
 obtain⟨t,rfl⟩:=hp;unfold Vh;rw[List.find?_append];cases e:a.find? fun p=>p.1==v with
 |none=>
  rw[a0P]at h;obtain⟨p,hp,rfl⟩:=h;have:=ae6.1 e p hp;simp at this
 |some q=>rfl
theorem TN{d:Dg}{x y:Cs}{v:Int}(h:Kn d x v)(hp:Bf x y):vG d y v=vG d x v:=by
 unfold Kn at h;unfold vG;split
 .rename_i c;rw[a0A c]at h;rw[TM h hp.1]
 rename_i c;rw[a0y c]at h;rw[a2l h hp.2.2]
theorem Yb{E:List V}{v:V}(h:v∈E):fB E v=E:=a0A h
theorem L9(N:List Br)(c:Int)(ks:LI0):N <+: dD N c ks:=by
 unfold dD;split
 .exact a4Z
 split
 .exact a4Z
 exact a94 _ _
theorem a0e{N M:List Br}{c:Int}{ks:LI0}(h:dD N c ks=N)(hp:N <+: M):dD M c ks=M∧eu M c ks=eu N c ks:=by
 unfold dD at h ⊢;unfold eu;by_cases hf:(ks.all fun x=>x==ks.getD 0 0)=true
 .rw[a0A hf,a0A hf,a0A hf];exact⟨rfl,rfl⟩
 rw[a0y hf]at h ⊢;rw[a0y hf,a0y hf];by_cases hm:um c ks∈N.map Ci
 .have hp2:N.map Ci <+: M.map Ci:=by obtain⟨t,rfl⟩:=hp;rw[a4K];exact a94 _ _
  rw[a0A (hp2.subset hm),TM hm hp2];exact⟨rfl,rfl⟩
 rw[a0y hm]at h;have:=congrArg List.length h;simp at this
theorem a4f(N:List Br)(c:Int)(ks:LI0):dD (dD N c ks) c ks=dD N c ks∧eu (dD N c ks) c ks=eu N c ks:=by
 unfold eu;by_cases hf:(ks.all fun x=>x==ks.getD 0 0)=true
 .rw[a0A hf,a0A hf];have:dD N c ks=N:=a0A hf;rw[this,this];exact⟨rfl,rfl⟩
 rw[a0y hf,a0y hf];by_cases hm:um c ks∈N.map Ci
 .have:dD N c ks=N:=by unfold dD;rw[a0y hf,a0A hm]
  rw[this,this];exact⟨rfl,rfl⟩
 have e:dD N c ks=N++[⟨c,ks⟩]:=by unfold dD;rw[a0y hf,a0y hm]
 have hm2:um c ks∈(N++[(⟨c,ks⟩:Br)]).map Ci:=by rw[a4K];simp
 have e2:dD (N++[⟨c,ks⟩]) c ks=N++[⟨c,ks⟩]:=by unfold dD;rw[a0y hf,a0A hm2]
 rw[e,e2];refine⟨rfl,?_⟩;rw[a4K,a9p,a0y hm,a8e hm];simp
abbrev aS(d:Dg)(v:Int):LI0:=(ay d v).aA
def Yc(d:Dg)(x:Cs):Prop:=∀v∈x.k.map (·.1),(∀j,j<(aS d v).length->Kn d x ((aS d v).getD j 0))∧eu x.n (ay d v).var ((aS d v).map (vG d x))=Vh x.k v∧dD x.n (ay d v).var ((aS d v).map (vG d x))=x.n
abbrev Cj(d:Dg)(F:Nat)(r:Int)(j:Nat)(y:LI0×Cs):LI0×Cs:=(y.1.set j (bZ d F ((aS d r).getD j 0) y.2).1,(bZ d F ((aS d r).getD j 0) y.2).2)
theorem a8h{d:Dg}:∀(F:Nat) (r:Int) (x:Cs),Bf x (bZ d F r x).2
 | 0,_,x=>Bf.rfl
 |F+1,r,x=>by
  unfold bZ;split
  .exact⟨Bc _ _,a4Z,a4Z⟩
  split
  .exact Bf.rfl
  have:=bK (g:=Cj d F r) (m:=(aS d r).length) (k:=0) (s:=(List.replicate (aS d r).length 0,x)) (fun _ y=>Bf x y.2) Bf.rfl (fun j y _ _ hy=>hy.trans (a8h F _ y.2));exact⟨this.1,this.2.1.trans (L9 _ _ _),this.2.2.trans (a94 _ _)⟩
theorem Nv{d:Dg}{F:Nat}{v:Int}{x:Cs}(h:Kn d x v):bZ d (F+1) v x=(vG d x v,x):=by
 unfold Kn at h;unfold bZ vG;by_cases c:v<0
 .rw[a0A (by simpa using c),a0A c];rw[a0A c]at h;rw[Yb h]
 rw[a0y c]at h;rw[a0y (by simpa using c),a0A (by simpa using h),a0y c]
theorem Qb{d:Dg}{x y:Cs}{ks:LI0}(h:∀j,j<ks.length->Kn d x (ks.getD j 0))(hp:Bf x y):ks.map (vG d y)=ks.map (vG d x):=by refine a5d fun v hv=>?_;obtain⟨j,hj,rfl⟩:=aaV hv;have:=h j hj;rw[List.getD,a0d hj]at this;exact TN this hp
theorem Yc.a2m{d:Dg}{x y:Cs}{v:Int}(h:(∀j,j<(aS d v).length->Kn d x ((aS d v).getD j 0))∧eu x.n (ay d v).var ((aS d v).map (vG d x))=Vh x.k v∧dD x.n (ay d v).var ((aS d v).map (vG d x))=x.n)(hv:v∈x.k.map (·.1))(hp:Bf x y):(∀j,j<(aS d v).length->Kn d y ((aS d v).getD j 0))∧eu y.n (ay d v).var ((aS d v).map (vG d y))=Vh y.k v∧dD y.n (ay d v).var ((aS d v).map (vG d y))=y.n:=by obtain⟨h1,h2,h3⟩:=h;rw[Qb h1 hp];obtain⟨g1,g2⟩:=a0e h3 hp.2.1;exact⟨fun j hj=>(h1 j hj).mono hp,by rw[g2,h2,a2l hv hp.2.2],g1⟩
theorem a0f{d:Dg}(h:C9 d):∀(F:Nat) (r:Int) (x:Cs),1<=F->r+1<F->jB d r d.aj.length->DN d x->Yc d x->Yc d (bZ d F r x).2∧Kn d (bZ d F r x).2 r∧vG d (bZ d F r x).2 r=(bZ d F r x).1
 | 0,r,x,h1,_,_,_,_=>by omega
 |F+1,r,x,_,hF,hr,hx,hi=>by
  by_cases c:r<0
  .have e:bZ d (F+1) r x=(i64.wrap (-1-(x.e.idxOf (qj d r):Nat)),⟨fB x.e (qj d r),x.n,x.k⟩):=by unfold bZ;rw[a0A (by simpa using c)]
   rw[e];have hp:Bf x ⟨fB x.e (qj d r),x.n,x.k⟩:=⟨Bc _ _,a4Z,a4Z⟩;refine⟨fun v hv=>Yc.a2m (hi v hv) hv hp,?_,?_⟩
   .unfold Kn;rw[a0A c];show qj d r∈fB x.e (qj d r);unfold fB;split
    .assumption
    simp
   unfold vG;rw[a0A c];show i64.wrap (-1-((fB x.e (qj d r)).idxOf (qj d r):Nat))=_;congr 3;unfold fB;split
   .rfl
   rename_i hn;rw[a9p,a0y hn,a8e hn];simp
  by_cases c2:r∈x.k.map (·.1)
  .have hk:Kn d x r:=by unfold Kn;rw[a0y c];exact c2
   rw[Nv hk];exact⟨hi,hk,rfl⟩
  have aT:r.toNat<d.aj.length:=by have:=hr.1;omega
  have Cb:∀k,k<(aS d r).length->(aS d r).getD k 0<r:=fun k lH=>by have h9:=(h.zT r.toNat aT k lH).1;have h9:(aS d r).getD k 0<(r.toNat:Int):=h9;omega
  have L8:∀j,j<(aS d r).length->jB d ((aS d r).getD j 0) d.aj.length:=fun j hj=>⟨by have:=Cb j hj;have:=hr.1;omega,(h.zT r.toNat aT j hj).2⟩;have inv:=bK (g:=Cj d F r) (m:=(aS d r).length) (k:=0) (s:=(List.replicate (aS d r).length 0,x)) (fun k y=>(y.1.length=(aS d r).length∧Bf x y.2)∧(DN d y.2∧r∉y.2.k.map (·.1))∧Yc d y.2∧∀j,j<k->Kn d y.2 ((aS d r).getD j 0)∧vG d y.2 ((aS d r).getD j 0)=y.1.getD j 0) ⟨⟨by simp,Bf.rfl⟩,⟨hx,c2⟩,hi,fun j hj=>by omega⟩ (fun j y _ hj hy=>by
   obtain⟨⟨y1,y2⟩,⟨y3,y4⟩,y5,y6⟩:=hy;have hj:j<(aS d r).length:=(by omega);have hp:=a8h (d:=d) F ((aS d r).getD j 0) y.2;obtain⟨z1,z2,z3⟩:=a0f h F ((aS d r).getD j 0) y.2 (by omega) (by have:=Cb j hj;omega) (L8 j hj) y3 y5;refine⟨⟨by simp[Cj,y1],y2.trans hp⟩,⟨PX h F _ y.2 y3 (L8 j hj),Y1 F _ r y.2 (Cb j hj) y4 (by omega) (fun i hi k hk=>(h.zT i hi k hk).1) (fun h5=>⟨h5,(L8 j hj).1⟩)⟩,z1,fun j' DZ=>?_⟩;by_cases e:j'=j
   .subst e;refine⟨z2,?_⟩;rw[z3];show(bZ d F ((aS d r).getD j' 0) y.2).1=(y.1.set j' (bZ d F ((aS d r).getD j' 0) y.2).1).getD j' 0;generalize (bZ d F ((aS d r).getD j' 0) y.2).1=z;simp[List.getD,a1y (show j'<y.1.length by omega)]
   obtain⟨a1,a2⟩:=y6 j' (by omega);refine⟨a1.mono hp,?_⟩;rw[TN a1 hp,a2];show _=(y.1.set j (bZ d F ((aS d r).getD j 0) y.2).1).getD j' 0;generalize (bZ d F ((aS d r).getD j 0) y.2).1=z;simp[List.getD,a0R (ahr e)])
  rw[a3T]at inv;have e:bZ d (F+1) r x=(eu (aO (Cj d F r) (aS d r).length 0 (List.replicate (aS d r).length 0,x)).2.n (ay d r).var (aO (Cj d F r) (aS d r).length 0 (List.replicate (aS d r).length 0,x)).1,⟨(aO (Cj d F r) (aS d r).length 0 (List.replicate (aS d r).length 0,x)).2.e,dD (aO (Cj d F r) (aS d r).length 0 (List.replicate (aS d r).length 0,x)).2.n (ay d r).var (aO (Cj d F r) (aS d r).length 0 (List.replicate (aS d r).length 0,x)).1,(aO (Cj d F r) (aS d r).length 0 (List.replicate (aS d r).length 0,x)).2.k++[(r,eu (aO (Cj d F r) (aS d r).length 0 (List.replicate (aS d r).length 0,x)).2.n (ay d r).var (aO (Cj d F r) (aS d r).length 0 (List.replicate (aS d r).length 0,x)).1)]⟩):=by rw[bZ,a0y (by simpa using c),a0y (by simpa using c2)]
  rw[e];generalize aO (Cj d F r) (aS d r).length 0 (List.replicate (aS d r).length 0,x)=y at inv;obtain⟨ks,y⟩:=y;obtain⟨⟨y1,y2⟩,⟨y3,y4⟩,y5,y6⟩:=inv;have y1:ks.length=(aS d r).length:=y1;have y4:r∉y.k.map (·.1):=y4;have hp:Bf y ⟨y.e,dD y.n (ay d r).var ks,y.k++[(r,eu y.n (ay d r).var ks)]⟩:=⟨a4Z,L9 _ _ _,a94 _ _⟩;have EZ:(aS d r).map (vG d y)=ks:=by refine a9J (by simp[y1]) fun j j1 j2=>?_;have hj:j<(aS d r).length:=(by omega);have:=(y6 j hj).2;rw[List.getD,List.getD,a0d hj,a0d j2]at this;simpa using this
  have gu:Vh (y.k++[(r,eu y.n (ay d r).var ks)]) r=eu y.n (ay d r).var ks:=by
   unfold Vh;rw[List.find?_append];have:(y.k.find? fun p=>p.1==r)=none:=ae6.2 fun p hp=>by simp only[a7h];intro e2;exact y4 (a0P.2 ⟨p,hp,e2⟩)
   rw[this];simp
  obtain⟨g1,g2⟩:=a4f y.n (ay d r).var ks;refine⟨fun v hv=>?_,?_,?_⟩
  .have hv:v∈(y.k++[(r,eu y.n (ay d r).var ks)]).map (·.1):=hv;rw[a4K,a3s]at hv;rcases hv with hv|hv
   .exact Yc.a2m (y5 v hv) hv hp
   have hv:v=r:=(by simpa using hv);subst hv;refine⟨fun j hj=>(y6 j hj).1.mono hp,?_,?_⟩
   .rw[Qb (fun j hj=>(y6 j hj).1) hp,EZ];show eu (dD y.n (ay d v).var ks) _ ks=Vh (y.k++[(v,eu y.n (ay d v).var ks)]) v;rw[g2,gu]
   rw[Qb (fun j hj=>(y6 j hj).1) hp,EZ];exact g1
  .unfold Kn;rw[a0y c];show r∈(y.k++[(r,eu y.n (ay d r).var ks)]).map (·.1);simp
  unfold vG;rw[a0y c];exact gu
open Go Tw Pv bQ
theorem Yd{d:Dg}(h:aX d=0):∀i,i<d.aj.length->∀k,k<(fD d i).aA.length->d.aB.idxOf (fD d i).var+1<=EM d.aB d.aj ((fD d i).aA.getD k 0):=by
 intro i hi k hk;unfold aX at h;split at h
 .rename_i c;rw[h]at c;cases c
 split at h
 .cases h
 split at h
 .cases h
 rename_i c;have c:lW d=true:=by simpa using c
 unfold lW at c;split at c
 rotate_left
 .cases c
 split at c
 rotate_left
 .cases c
 rename_i c2;have:=dQ.1 c2 i hi;unfold cLn at this;split at this
 .cases this
 split at this
 .cases this
 split at this
 .rename_i c3;have:=dQ.1 c3 k hk;unfold cLk at this;split at this
  .cases this
  rw[a3b,Nu,Nu]at this;have e6:EM d.aB d.aj ((i:Nat):Int)=d.aB.idxOf (fD d i).var:=by unfold EM;rw[a0y (by omega),a5g]
  rw[e6]at this;show d.aB.idxOf (fD d i).var+1<=EM d.aB d.aj ((d.aj.getD i jZ).aA.getD k 0);omega
 cases this
theorem a0g{d:Dg}(h:C9 d):∀(F:Nat) (r:Int) (x:Cs),jB d r d.aj.length->NOk d.ah x.n->NOk d.ah (bZ d F r x).2.n
 | 0,_,_,_,hx=>hx
 |F+1,r,x,hr,hx=>by
  unfold bZ;by_cases c:r<0
  .rw[a0A (by simpa using c)];exact hx
  rw[a0y (by simpa using c)];split
  .exact hx
  have aT:r.toNat<d.aj.length:=by have:=hr.1;omega
  have L8:∀j,j<(aS d r).length->jB d ((aS d r).getD j 0) d.aj.length:=fun j hj=>by have h9:=h.zT r.toNat aT j hj;have h8:=h9.1;have h8:(aS d r).getD j 0<(r.toNat:Int):=h8;exact⟨by omega,h9.2⟩
  have inv:=bK (g:=Cj d F r) (m:=(aS d r).length) (k:=0) (s:=(List.replicate (aS d r).length 0,x)) (fun _ y=>y.1.length=(aS d r).length∧NOk d.ah y.2.n) ⟨by simp,hx⟩ (fun j y _ hj hy=>⟨by simp[Cj,hy.1],a0g h F _ y.2 (L8 j (by omega)) hy.2⟩);show NOk d.ah (dD (aO (Cj d F r) (aS d r).length 0 (List.replicate (aS d r).length 0,x)).2.n (ay d r).var (aO (Cj d F r) (aS d r).length 0 (List.replicate (aS d r).length 0,x)).1);generalize aO (Cj d F r) (aS d r).length 0 (List.replicate (aS d r).length 0,x)=y at inv;intro b hb;unfold dD at hb;split at hb
  .exact inv.2 b hb
  split at hb
  .exact inv.2 b hb
  rcases a3s.1 hb with hb|hb
  .exact inv.2 b hb
  rw[a2O.1 hb];refine⟨h.var r.toNat aT,?_⟩;show(y.1.length:Int)=d.ah.getD (ay d r).var.toNat 0;rw[inv.1];exact h.ksz r.toNat aT
theorem a8i{n:Nat}(hn:1<=n)(v:Int):((List.replicate n v).all fun x=>x==(List.replicate n v).getD 0 0)=true∧(List.replicate n v).getD 0 0=v:=by obtain⟨k,rfl⟩:∃k,n=k+1:=⟨n-1,by omega⟩;simp[aen]
theorem Ye{d:Dg}{l:List V}(h:C9 d)(Q9:kE d.ah.length d.aB=true)(hk:∀i,i<d.aj.length->∀k,k<(fD d i).aA.length->d.aB.idxOf (fD d i).var+1<=EM d.aB d.aj ((fD d i).aA.getD k 0)):∀(r:LI0) (a:Nat) (p:LI0) (v:Int) (x:Cs) (F:Nat),d.aB.drop a=r->a<=d.aB.length->iU d.ah p=true->DN d x->Yc d x->NOk d.ah x.n->jB d v d.aj.length->a<=EM d.aB d.aj v->1<=F->v+1<F->(∀q,iU d.ah q=true->Agr d.ah r q p->To d q v (l.getD (gQ d.ah q).toNat V0))->eF d.ah l r p (x.e,x.n)=((bZ d F v x).1,((bZ d F v x).2.e,(bZ d F v x).2.n))
 | [],a,p,v,x,F,hr,ha,hp,_,_,_,hv,L8,hF1,hF,hto=>by
  obtain⟨F,rfl⟩:∃k,F=k+1:=⟨F-1,by omega⟩;have:a=d.aB.length:=by have:=congrArg List.length hr;rw[a3U,a5r]at this;omega
  subst this;have hv0:v<0:=by
   rcases Int.lt_or_le v 0 with c|c
   .exact c
   exfalso;unfold EM at L8;rw[a0y (by omega)]at L8;have aT:v.toNat<d.aj.length:=by have:=hv.1;omega
   have hm:=lX Q9 (h.var v.toNat aT);have:=a5b.2 hm;have:d.aB.idxOf (d.aj.getD v.toNat jZ).var<d.aB.length:=this;omega
  have t:=hto p hp (fun _ _ _=>rfl);have e:l.getD (gQ d.ah p).toNat V0=qj d v:=(To.fin hv0:To d p v _).det t |>.symm
  unfold bZ;rw[a0A (by simpa using hv0)];show(i64.wrap (-1-(x.e.idxOf (l.getD (gQ d.ah p).toNat V0):Nat)),(fB x.e (l.getD (gQ d.ah p).toNat V0),x.n))=_;rw[e]
 |c::r,a,p,v,x,F,hr,ha,hp,hx,hi,YI,hv,L8,hF1,hF,hto=>by
  have aT:a<d.aB.length:=by have:=congrArg List.length hr;rw[a3U,a4M]at this;omega
  have hd:=a6E aT;rw[hr]at hd;obtain⟨hc,wR⟩:=List.cons.inj hd;have ho:=Q9;unfold kE at ho;rw[a0S]at ho;have G9:c∈d.aB:=by rw[hc];exact a4X aT
  have qF:fK c d.ah.length:=⟨(ho.2.1 c G9).1,(ho.2.1 c G9).2⟩;have hia:d.aB.idxOf c=a:=by rw[hc];exact ho.2.2.idxOf_getElem a aT
  have pV:c.toNat<d.ah.length:=by have:=qF.1;have:=qF.2;omega
  have hz:=h.bY.sz _ (cu (s:=d.ah) (k:=c.toNat) pV);have Gu:=qc hp;have hcr:c∉r:=by have:(d.aB.drop a).Nodup:=ho.2.2.sublist (List.drop_sublist _ _);rw[hr]at this;exact(a4U.1 this).1
  have FP:∀j:Nat,j<(d.ah.getD c.toNat 0).toNat->iU d.ah (p.set c.toNat j)=true:=fun j hj=>DI hp qF ⟨by omega,by omega⟩;simp only[eF];by_cases vJ:0<=v∧(ay d v).var=c
  .obtain⟨hv0,hvc⟩:=vJ;have a4g:v.toNat<d.aj.length:=by have:=hv.1;omega
   have KF:((aS d v).length:Int)=d.ah.getD c.toNat 0:=by rw[<-hvc];exact h.ksz v.toNat a4g
   have hkn:(d.ah.getD c.toNat 0).toNat=(aS d v).length:=(by omega);have Cb:∀j,j<(aS d v).length->(aS d v).getD j 0<v:=fun j hj=>by have h9:=(h.zT v.toNat a4g j hj).1;have h9:(aS d v).getD j 0<(v.toNat:Int):=h9;omega
   have hrf:∀j,j<(aS d v).length->jB d ((aS d v).getD j 0) d.aj.length:=fun j hj=>⟨by have:=Cb j hj;have:=hv.1;omega,(h.zT v.toNat a4g j hj).2⟩;have akU:∀j,j<(aS d v).length->a+1<=EM d.aB d.aj ((aS d v).getD j 0):=fun j hj=>by have:=hk v.toNat a4g j hj;have:d.aB.idxOf (ay d v).var+1<=EM d.aB d.aj ((aS d v).getD j 0):=this;rw[hvc,hia]at this;exact this
   have akV:∀j:Nat,j<(aS d v).length->∀q,iU d.ah q=true->Agr d.ah r q (p.set c.toNat j)->To d q ((aS d v).getD j 0) (l.getD (gQ d.ah q).toNat V0):=fun j hj q hq hag=>by
    have YH:q.getD c.toNat 0=j:=by have:=hag c.toNat pV (by rw[aek qF.1];exact hcr);rw[this,List.getD,a1y (by omega)];rfl
    have t0:=hto q hq (Agr.back qF hag);revert t0;generalize l.getD (gQ d.ah q).toNat V0=w;intro t0;cases t0 with
    |fin h9=>omega
    |step _ t=>
     rw[hvc,YH,a5g]at t;exact t
   rw[hkn];by_cases OQ:v∈x.k.map (·.1)
   .-- known
    have hKn:Kn d x v:=by unfold Kn;rw[a0y (by omega)];exact OQ
    obtain⟨F',rfl⟩:∃k,F=k+1:=⟨F-1,by omega⟩;rw[Nv hKn];obtain⟨i1,i2,i3⟩:=hi v OQ;have inv:=bK (g:=qy (eF d.ah l r) c p) (m:=(aS d v).length) (k:=0) (s:=([],(x.e,x.n))) (fun k y=>y=(((aS d v).map (vG d x)).take k,(x.e,x.n))) (by simp) (fun j y _ hj hy=>by have hj:j<(aS d v).length:=(by omega);subst hy;have ih:=Ye h Q9 hk r (a+1) (p.set c.toNat j) ((aS d v).getD j 0) x (F'+1) wR.symm aT (FP j (by omega)) hx hi YI (hrf j hj) (akU j hj) (by omega) (by have:=Cb j hj;omega) (akV j hj);rw[Nv (i1 j hj)]at ih;unfold qy;rw[ih];refine ado ?_ rfl;show(((aS d v).map (vG d x)).take j)++[vG d x ((aS d v).getD j 0)]=_;have hjm:j<((aS d v).map (vG d x)).length:=(by simpa using hj);rw[a8s hjm];simp[List.getD,a0d hj])
    rw[a3T]at inv;rw[inv,a9x (by simp)];rw[hvc]at i2 i3;obtain⟨n1,n2⟩:=Y8 h.bY.sz YI qF (ks:=(aS d v).map (vG d x)) (by simpa using KF);show(EL x.n c _,(x.e,og x.n c _))=_;rw[<-n1,<-n2,i2,i3];unfold vG;rw[a0y (by omega)]
   obtain⟨F',rfl⟩:∃k,F=k+1:=⟨F-1,by omega⟩;have key:∀j,j<=(aS d v).length->(aO (qy (eF d.ah l r) c p) j 0 ([],(x.e,x.n)))=((aO (Cj d F' v) j 0 (List.replicate (aS d v).length 0,x)).1.take j,((aO (Cj d F' v) j 0 (List.replicate (aS d v).length 0,x)).2.e,(aO (Cj d F' v) j 0 (List.replicate (aS d v).length 0,x)).2.n))∧(aO (Cj d F' v) j 0 (List.replicate (aS d v).length 0,x)).1.length=(aS d v).length∧(DN d (aO (Cj d F' v) j 0 (List.replicate (aS d v).length 0,x)).2∧v∉(aO (Cj d F' v) j 0 (List.replicate (aS d v).length 0,x)).2.k.map (·.1))∧Yc d (aO (Cj d F' v) j 0 (List.replicate (aS d v).length 0,x)).2∧NOk d.ah (aO (Cj d F' v) j 0 (List.replicate (aS d v).length 0,x)).2.n:=by
    intro j
    induction j with
    |zero=>intro _;exact⟨rfl,by simp[aO],⟨hx,OQ⟩,hi,YI⟩
    |succ j ih=>
     intro hj;have hj:j<(aS d v).length:=hj;obtain⟨q1,q2,⟨q3,q3'⟩,q4,q5⟩:=ih (by omega);rw[tX,tX,a3T];generalize aO (Cj d F' v) j 0 (List.replicate (aS d v).length 0,x)=y at q1 q2 q3 q3' q4 q5;rw[q1];have QZ:=Cb j hj;have ih2:=Ye h Q9 hk r (a+1) (p.set c.toNat j) ((aS d v).getD j 0) y.2 F' wR.symm aT (FP j (by omega)) q3 q4 q5 (hrf j hj) (akU j hj) (by omega) (by omega) (akV j hj);refine⟨?_,by simp[Cj,q2],⟨PX h F' _ y.2 q3 (hrf j hj),Y1 F' _ v y.2 QZ q3' (by omega) (fun i hi k hk=>(h.zT i hi k hk).1) (fun h5=>⟨h5,(hrf j hj).1⟩)⟩,(a0f h F' _ y.2 (by omega) (by omega) (hrf j hj) q3 q4).1,a0g h F' _ y.2 (hrf j hj) q5⟩;unfold qy;rw[ih2];refine ado ?_ rfl;show y.1.take j++[(bZ d F' ((aS d v).getD j 0) y.2).1]=(y.1.set j (bZ d F' ((aS d v).getD j 0) y.2).1).take (j+1);rw[a8s (by simp;omega),List.take_set_of_le (a0K _),List.getElem_set_self]
   obtain⟨q1,q2,⟨q3,q3'⟩,q4,q5⟩:=key _ (a0K _);rw[q1];have e:bZ d (F'+1) v x=(eu (aO (Cj d F' v) (aS d v).length 0 (List.replicate (aS d v).length 0,x)).2.n (ay d v).var (aO (Cj d F' v) (aS d v).length 0 (List.replicate (aS d v).length 0,x)).1,⟨(aO (Cj d F' v) (aS d v).length 0 (List.replicate (aS d v).length 0,x)).2.e,dD (aO (Cj d F' v) (aS d v).length 0 (List.replicate (aS d v).length 0,x)).2.n (ay d v).var (aO (Cj d F' v) (aS d v).length 0 (List.replicate (aS d v).length 0,x)).1,(aO (Cj d F' v) (aS d v).length 0 (List.replicate (aS d v).length 0,x)).2.k++[(v,eu (aO (Cj d F' v) (aS d v).length 0 (List.replicate (aS d v).length 0,x)).2.n (ay d v).var (aO (Cj d F' v) (aS d v).length 0 (List.replicate (aS d v).length 0,x)).1)]⟩):=by rw[bZ,a0y (by simpa using hv0),a0y (by simpa using OQ)]
   rw[e];generalize aO (Cj d F' v) (aS d v).length 0 (List.replicate (aS d v).length 0,x)=y at q2 q5;rw[a9x (by omega),hvc];obtain⟨n1,n2⟩:=Y8 h.bY.sz q5 qF (ks:=y.1) (by rw[q2];exact KF);rw[n1,n2]
  -- asked later,or an end
  have akW:a+1<=EM d.aB d.aj v:=by
   unfold EM at L8 ⊢;split
   .omega
   rename_i c1;rw[a0y c1]at L8;have iy:d.aB.idxOf (d.aj.getD v.toNat jZ).var≠a:=fun e=>by
    apply vJ;refine⟨by omega,?_⟩;have a4g:v.toNat<d.aj.length:=by have:=hv.1;omega
    have hm:=lX Q9 (h.var v.toNat a4g);have h1:=a90 (a5b.2 hm);have e:d.aB.idxOf (fD d v.toNat).var=a:=e;show(fD d v.toNat).var=c;rw[hc,<-h1];congr 1
   omega
  obtain⟨z1,z2,z3⟩:=a0f h F v x hF1 hF hv hx hi;have QY:=PX h F v x hx hv;have aeQ:=a0g h F v x hv YI;have akX:bZ d F v (bZ d F v x).2=((bZ d F v x).1,(bZ d F v x).2):=by
   have e:∀y,Kn d y v->vG d y v=(bZ d F v x).1->bZ d F v y=((bZ d F v x).1,y):=fun y h1 h2=>by obtain⟨F',rfl⟩:∃k,F=k+1:=⟨F-1,by omega⟩;rw[Nv h1,h2]
   exact e _ z2 z3
  have akY:∀j:Nat,∀q,iU d.ah q=true->Agr d.ah r q (p.set c.toNat j)->To d q v (l.getD (gQ d.ah q).toNat V0):=fun j q hq hag=>hto q hq (Agr.back qF hag);have inv:=bK (g:=qy (eF d.ah l r) c p) (m:=(d.ah.getD c.toNat 0).toNat) (k:=0) (s:=([],(x.e,x.n))) (fun k y=>(k=0∧y=([],(x.e,x.n)))∨(0<k∧y=(List.replicate k (bZ d F v x).1,((bZ d F v x).2.e,(bZ d F v x).2.n)))) (.inl ⟨rfl,rfl⟩) (fun j y _ hj hy=>by
   right;refine⟨by omega,?_⟩;rcases hy with⟨rfl,rfl⟩|⟨h0,rfl⟩
   .have ih:=Ye h Q9 hk r (a+1) (p.set c.toNat ((0:Nat):Int)) v x F wR.symm aT (FP 0 (by omega)) hx hi YI hv akW hF1 hF (akY 0);unfold qy;rw[ih];rfl
   have ih:=Ye h Q9 hk r (a+1) (p.set c.toNat ((j:Nat):Int)) v (bZ d F v x).2 F wR.symm aT (FP j (by omega)) QY z1 aeQ hv akW hF1 hF (akY j);rw[akX]at ih;unfold qy;rw[ih];refine ado ?_ rfl;show List.replicate j _++[_]=_;rw[List.replicate_succ'])
  rw[a3T]at inv;rcases inv with⟨h0,_⟩|⟨h0,e⟩
  .omega
  rw[e];obtain⟨f1,f2⟩:=a8i (n:=(d.ah.getD c.toNat 0).toNat) (by omega) (bZ d F v x).1;show(EL _ c _,(_,og _ c _))=_;unfold EL og;rw[a0A f1,a0A f1,f2]
theorem Qc{d:Dg}(hl:aX d=0)(ho:d.aB.length<=au)(he:d.aJ.length<=au):eY d=ji d.ah d.aB (cellsD d)∧OfP d.ah d.aB (cellsD d):=by
 obtain⟨h,hn⟩:=iF ho he (by rw[hl];rfl);have hf:(bV d.ah d.aB != 0)=false:=by
  unfold aX at hl;split at hl
  .rename_i c;rw[hl]at c;cases c
  rename_i c;simpa using c
 obtain⟨bY,Q9⟩:=jT.1 (show bV d.ah d.aB=0 by simpa using hf);have hlen:((cellsD d).length:Int)=aY d.ah:=by unfold cellsD;rw[a4R,a8Q,bY.ZY]
 have hr:=h.root;have hr1:=hr.1;have hto:∀q,iU d.ah q=true->To d q d.root ((cellsD d).getD (gQ d.ah q).toNat V0):=fun q hq=>by
  have hrn:=zM hq bY.sz;have t:=To.of h hq 6001 d.root (by omega) hr;have e:(cellsD d).getD (gQ d.ah q).toNat V0=qE d q:=by
   have aT:(gQ d.ah q).toNat<vC d.ah:=by unfold vC;omega
   unfold cellsD;rw[List.getD,a0d (by simpa using aT)];simp only[a9v,aeT,a5q];rw[show(((gQ d.ah q).toNat:Nat):Int)=gQ d.ah q by omega,Nj hq bY.sz]
  rw[e];exact t
 have key:=Ye (l:=cellsD d) h Q9 (Yd hl) d.aB 0 (List.replicate d.ah.length 0) d.root cl0 6002 rfl (a5m _) (DR bY.sz) Vl (fun v hv=>by cases hv) (fun b hb=>by cases hb) hr (a5m _) (by omega) (by omega) (fun q hq _=>hto q hq);refine⟨?_,⟨bY,Q9,hlen⟩⟩;have key:eF d.ah (cellsD d) d.aB (List.replicate d.ah.length 0) ([],[])=_:=key;unfold eY ji;rw[key]
open Go Tw Pv bQ
theorem Qd(k:Int):Gm (i64.wrap k):=by
 have e:i64.wrap k=if k%(2^64:Int)>=(2^63:Int)then k%(2^64:Int)-2^64 else k%(2^64:Int):=by
  show(if(true&&decide (k%(2^64:Int)>=(2^63:Int)))=true then _ else _)=_;by_cases c:k%(2^64:Int)>=(2^63:Int)
  .rw[a0A (by simpa using c),a0A c];rfl
  rw[a0y (by simpa using c),a0y c];rfl
 rw[e];unfold Gm;split<;>constructor<;>omega
def EnW(x:EN):Prop:=∀b∈x.2,∀k∈b.aA,Gm k
theorem a8j{s:LI0}{l:List V}(hs:kU s):∀(r p:LI0) (x:EN),(∀c∈r,fK c s.length)->EnW x->(eF s l r p x).2.2.length<2^61->EnW (eF s l r p x).2∧Gm (eF s l r p x).1
 | [],p,x,_,hx,_=>⟨hx,Qd _⟩
 |c::r,p,x,hr,hx,hE=>by
  have qF:=hr c (by simp);have hz:=hs _ (cu (s:=s) (k:=c.toNat) (by have:=qF.1;have:=qF.2;omega));have hN:=DU (aO (qy (eF s l r) c p) (s.getD c.toNat 0).toNat 0 ([],x)).2.2 c (aO (qy (eF s l r) c p) (s.getD c.toNat 0).toNat 0 ([],x)).1;have hE:(og (aO (qy (eF s l r) c p) (s.getD c.toNat 0).toNat 0 ([],x)).2.2 c (aO (qy (eF s l r) c p) (s.getD c.toNat 0).toNat 0 ([],x)).1).length<2^61:=hE;have inv:=bK (g:=qy (eF s l r) c p) (m:=(s.getD c.toNat 0).toNat) (k:=0) (s:=([],x)) (fun k y=>y.1.length=k∧(y.2.2.length<2^61->EnW y.2∧∀v∈y.1,Gm v)) ⟨rfl,fun _=>⟨hx,by simp⟩⟩ (fun j y _ hj hy=>by
   refine⟨by simp[qy,hy.1],fun hE2=>?_⟩;have hE2:(eF s l r (p.set c.toNat j) y.2).2.2.length<2^61:=hE2;have hp:=(JL (s:=s) (l:=l) r (p.set c.toNat j) y.2).2.length_le;obtain⟨y1,y2⟩:=hy.2 (by omega);obtain⟨z1,z2⟩:=a8j hs r (p.set c.toNat j) y.2 (fun c hc=>hr c (by simp[hc])) y1 hE2;refine⟨z1,fun v hv=>?_⟩;have hv:v∈y.1++[(eF s l r (p.set c.toNat j) y.2).1]:=hv;rcases a3s.1 hv with hv|hv
   .exact y2 v hv
   rw[a2O.1 hv];exact z2)
  rw[a3T]at inv;simp only[eF];generalize aO (qy (eF s l r) c p) (s.getD c.toNat 0).toNat 0 ([],x)=y at inv hN hE;obtain⟨ks,E,N⟩:=y;have hN:N <+: og N c ks:=hN;have hE:(og N c ks).length<2^61:=hE;obtain⟨i0,i1⟩:=inv;have i0:ks.length=(s.getD c.toNat 0).toNat:=i0;obtain⟨i1,i2⟩:=i1 (by have:=hN.length_le;show N.length<2^61;omega);have i1:∀b∈N,∀k∈b.aA,Gm k:=i1;have i2:∀v∈ks,Gm v:=i2;refine⟨fun b hb=>?_,?_⟩
  .have hb:b∈og N c ks:=hb;unfold og at hb;split at hb
   .exact i1 b hb
   split at hb
   .exact i1 b hb
   rcases a3s.1 hb with hb|hb
   .exact i1 b hb
   rw[a2O.1 hb];exact i2
  show Gm (EL N c ks);by_cases hf:(ks.all fun x=>x==ks.getD 0 0)=true
  .rw[show EL N c ks=ks.getD 0 0 from a0A hf];exact i2 _ (cu (s:=ks) (k:=0) (by omega))
  rw[show EL N c ks=(N.idxOf (⟨c,ks⟩:Br):Nat)from a0y hf];have:=(Vo (N:=N) (c:=c) hf).1;exact⟨by omega,by omega⟩
theorem abg{s o:LI0}{l:List V}(h:OfP s o l)(hv:∀v∈l,vOk v=true)(hf:∀v∈l,0<=v.f):Ij (ji s o l)∧kP (ji s o l)=0:=by
 obtain⟨hP,hn,ho⟩:=h.p;obtain⟨h1,h2,h3,h4,h5⟩:=Bd h hv;have hw:=DT h.bY.sz h.ord;have hm:=h.bY.many;have hlen:=a0c (l:=l) h.bY.sz o (List.replicate s.length 0) ([],[]) hP.ord;have Rh:(eF s l o (List.replicate s.length 0) ([],[])).2.2.length+1<=0+wO s o:=hlen.2;obtain⟨w1,w2⟩:=a8j (l:=l) h.bY.sz o (List.replicate s.length 0) ([],[]) hP.ord (fun b hb=>by cases hb) (by omega);have hR:Ij (ji s o l):=⟨fun i hi k hk=>by
  have hb:fD (ji s o l) i∈(ji s o l).aj:=by show(ji s o l).aj.getD i jZ∈_;rw[List.getD,a0d hi];exact a4X hi
  exact w1 _ hb _ (cu hk),w2,fun v hv=>hf v (h3 v hv)⟩
 refine⟨hR,?_⟩;obtain⟨ht,hn6⟩:=iF (d:=ji s o l) hP.agd (by unfold au;omega) (by rw[h1];rfl);have hc:=(Qc (d:=ji s o l) h1 hP.agd (by unfold au;omega)).1;rw[Qa h hv]at hc;have hd:=(JK ht hR (by omega) hn6).1 hc;unfold kP;rw[a0y (by rw[h1];decide),a0y (by rw[hd];decide)]
open Go Tw Pv bQ
def adR:fF aG:=dw 121 (a1 dA) iA (fun p=>(vZ p).2) (fun p=>[Ij p,p.ah.length<=au,p.aB.length<=2^20,p.aJ.length+1<=au]) adM
theorem akZ:Gd adR:=akS.add fun n hO p hp=>aP hO (.o (hp _ iD) (.o (hp _ Ah) (.o (hp _ hh2) (.o (hp _ (.tail _ (.tail _ (.tail _ (.head _))))) .rr))))
def zX(d:Dg):Dg×Int:=if((bF d).2 != 0)=true then(nO,(bF d).2)else(eY (bF d).1.d,0)
def a8k:fF aG:=dw 108 (a1 dA) (dU (a2 dA iA)) (fun p=>zX p) (fun p=>[Ij p,p.ah.length<=au,p.aB.length<=2^20,p.aJ.length<=au,((bF p).2 != 0)=false->ClP (bF p).1]) adR
theorem adS:Gd a8k:=akZ.add fun n hO p hp=>aP hO (.o (hp _ Ah) (.o (hp _ hh2) (.o (hp _ (.tail _ (.tail _ (.tail _ (.head _))))) (.sh (fun _=>.rn (.dI [.agg [.nil .aQ,.nil .aQ,.nil .aQ,.nil .aQ,.int .i64 0],.int .i64 (bF p).2]) rfl) fun h=>.o (hp _ (.tail _ (.tail _ (.tail _ (.tail _ (.head _))))) h) .rr))))
def al0:fF aG:=dw 77 (a3 iA iA iA) tA (fun p=>(if decide (p.2.2>=p.1)=true then decide (p.2.2<=p.2.1)else false)) np a8k
theorem apX:Gd al0:=adS.add fun n hO p hp=>aP hO (.ss .rr .rr)
def a2n:fF aG:=dw 123 (a2 (a6S frA) dA) tA (fun p=>(if decide (p.2.ah=p.1.1)=true then decide (p.2.aB=p.1.2)else false)) (fun p=>[p.2.ah.length<=au,p.2.aB.length<=au]) al0
theorem al1:Gd a2n:=apX.add fun n hO p hp=>aP hO (.o (hp _ iD) (.ss (.o (hp _ Ah) .rr) .rr))
end Go.Proofs.YtmobpoiejckagaaGreat
namespace Pv
open Go Tw
variable {X:kX} {P:LI1}
theorem pR.a4h(hX:bT X P){call:aZ}{f:FuncId}{first xs cap vs:List (PV X.Γ)}{v v':PV X.Γ}{ext ext':List (PB X.Γ)}(hc:pR X P call f vs v ext)(hv:views [] (first++xs++cap)=some vs)(hs:ru X 0 ext=some ext')
  (e:shift 0 v=v') (he:(if xX v||ext.any (hasB X)then bg (l7.kH (first++xs++cap)) []else [])=([]:List (PB X.Γ))):dG X P call (.fn f first cap) xs [] v' ext':=by
 subst e;intro A m h tf rM hr hf hx;cases hf with
 |gone hi _ _=>simp[bC]at hi
 |fn p1 p2 p3 p4=>
  obtain⟨w,h',m1,c1,c2,c3,c4,c5⟩:=I9 hX hc hr hv hs ⟨p1,p2⟩ hx ⟨p3,p4⟩;rw[he]at c2;exact⟨w,h',[],m1,c1,c2,c3,c4,c5,fun b hb=>by cases hb⟩
end Pv
namespace Go.Proofs.YtmobpoiejckagaaGreat
open Go Tw Pv bQ
def a4i{α:Type}(g:α->Bool)(i:Nat)(x:α)(s:Unit):Unit⊕(Nat×α×Unit):=if(g x)=true then .inr (i,x,s)else .inl ()
def agh{α:Type}(d:α)(g:α->Bool)(l:List α):Int:=if(kR (mW (a4i g) l 0 ()))=true then -1 else(((Dk (0,d,()) (mW (a4i g) l 0 ())).1:Int))
theorem a8l{α:Type}(g:α->Bool):∀(l:List α) (i:Nat),kR (mW (a4i g) l i ())=!(l.any g)
 | [],i=>rfl
 |x::l,i=>by
  simp only[mW,a4i,adP];cases g x
  .simpa using a8l g l (i+1)
  simp[kR]
theorem agi{α:Type}(d:α)(g:α->Bool)(l:List α):decide (agh d g l>=0)=l.any g:=by have:=a8l g l 0;unfold agh;rw[this];cases l.any g<;>simp
theorem fC{α:Type}{l:List α}{k:Nat}{d:α}(h:k<l.length):l.getD k d∈l:=by simp[List.getD,a0d h]
abbrev agj(f:Nat)(a c:List (PV aG))(H:List (PB aG))(l:List Dg)(i:Int)(x:List (Nat×PE aG)):aU aG:=⟨[(0,xL 26 l),(1,.val (.fn f a c)),(7,xi l.length),(8,xi i)]++x,[],H⟩
def al2(f:Nat)(a c:List (PV aG))(H:List (PB aG))(l:List Dg):Unit⊕(Nat×Dg×Unit)->Ex×aU aG
 |.inl _=>(.exit 0,agj f a c H l l.length [(9,xl false)])
 |.inr r=>(.ret,⟨[(4,xi r.1)],[],H⟩)
theorem apY{n f:Nat}{a c:List (PV aG)}{H:List (PB aG)}{g:Dg->Bool}(l:List Dg)(hf:∀x∈l,iW n (.fn f a c) [.agg x.ps] H (.bool (g x)) H)(hl:l.length<=au):iW (n+1) (.fn 204 [] []) [lDg l,.fn f a c] H (iA.put (agh nO g l)) H:=by
 have lp:Nr n 204 0 H.length (agj f a c H l 0 []) (al2 f a c H l (mW (a4i g) l 0 ())).1 (al2 f a c H l (mW (a4i g) l 0 ())).2:=
  Xl (st:=fun i _=>agj f a c H l i []) nO (fun _ _=>True) (by kernel_rfl) hl Tq trivial (fun k s n hk _ ih=>aN gJ (.b (bD hk) (.o (aH hk) (.k (hf (l.getD k nO) (fC hk)) (.ls (.ou nofun) (.nx (ih _ trivial))))))) (fun s _=>aN gJ (.b (fO l.length) (.ou nofun)))
 exact jq gJ (first:=[]) (cap:=[]) (.szh (fun h=>.w (kM lp () h) .sr) (fun h=>.w (kN lp (0,nO,()) h) .sr))
theorem apZ{n f:Nat}{a c:List (PV aG)}{H:List (PB aG)}{g:Dg->Bool}(l:List Dg)(hf:∀x∈l,iW n (.fn f a c) [.agg x.ps] H (.bool (g x)) H)(hl:l.length<=au):iW (n+2) (.fn 173 [] []) [lDg l,.fn f a c] H (tA.put (l.any g)) H:=by rw[<-agi nO g l];have h1:=apY l hf hl;exact jq gJ (first:=[]) (cap:=[]) (.k h1 .sr)
def Ir(f:LI0×LI0)(d:Dg):Bool:=if decide (d.ah=f.1)=true then decide (d.aB=f.2)else false
abbrev a8m(f:LI0×LI0):PV aG:=.fn 123 [.agg [lI f.1,lI f.2]] []
structure qG(d:Dg):Prop where
 r:Ij d
 s:d.ah.length<=au
 o:d.aB.length<=2^20
 e:d.aJ.length+1<=au
theorem aq0{n:Nat}(hO:Ok n a2n)(f:LI0×LI0)(l:List Dg)(hp:∀d∈l,qG d)(hl:l.length<=au):iW (n+4) (.fn 122 [] []) [a8m f,lDg l] [] (tA.put (l.all (Ir f))) []:=by
 have hs:∀d∈l,iW n (a8m f) [.agg d.ps] [] (tA.put (Ir f d)) []:=fun d hd=>pR.a4h hX (first:=[.agg [lI f.1,lI f.2]]) (cap:=[]) (hO 123 [.agg [lI f.1,lI f.2],.agg d.ps] (tA.put (Ir f d)) [] [d.ah.length<=au,d.aB.length<=au] (by kernel_rfl) (fun p h=>by
  have h9:=hp d hd;have h8:=h9.o;rcases a1z.1 h with rfl|h
  .exact h9.s
  rw[a2O.1 h];exact h8)) rfl rfl rfl rfl
 have h1:∀d∈l,iW (n+1) (.fn 174 [] [.ptr 0 0 1]) [.agg d.ps] [.cells [a8m f]] (tA.put (!(Ir f d))) [.cells [a8m f]]:=fun d hd=>
  jq gJ (first:=[]) (.fr [] (hs d hd) .sr)
 have h2:=apZ l h1 hl;rw[<-Et l (Ir f)];exact dG.drop hX (Dj hX gJ (first:=[]) (cap:=[]) (H1:=[.cells [a8m f]]) (by kernel_rfl) (.k h2 .sr)) rfl rfl
abbrev wCk(l:List Dg)(i:Int)(x:List (Nat×PE aG)):aU aG:=⟨[(0,xL 26 l),(6,xL 26 l),(7,xi l.length),(8,xi i)]++x,[],[]⟩
abbrev cCk(l:List Dg)(k:Nat):Bool:=(vZ (l.getD k nO)).2 != 0
def zCk(l:List Dg):Unit⊕Nat->Ex×aU aG
 |.inl _=>(.exit 0,wCk l l.length [(9,xl false)])
 |.inr k=>(.ret,⟨[(2,xi (vZ (l.getD k nO)).2)],[(l.getD k nO).ps],[]⟩)
theorem lCk{n:Nat}(hO:Ok n a2n){l:List Dg}(hp:∀d∈l,qG d)(hl:l.length<=au):Lp n 76 0 (wCk l 0 []) (zCk l (bM (cCk l) l.length)).1 (zCk l (bM (cCk l) l.length)).2:=by
 refine jm (st:=fun i _=>wCk l i []) (g:=gS (cCk l)) (out:=zCk l) (fun _ _=>True) (by kernel_rfl) hl trivial (fun k u m hk _ ih=>?_) (fun _ _=>?_)
 .have h9:=hp _ (fC (d:=nO) hk);unfold gS cCk;exact aN hO (.b (bD hk) (.o (aH hk) (.o h9.r (.o h9.s (.o h9.o (.o h9.e (.ls (.ou nofun) (.nx (ih _ trivial)))))))))
 exact aN hO (.b (fO l.length) (.ou nofun))
def bH(l:List Dg):Int:=if kR (bM (cCk l) l.length)=true then(if(!(l.all (Ir ((l.getD 0 nO).ah,(l.getD 0 nO).aB))))=true then 2 else 0)else(vZ (l.getD (Dk 0 (bM (cCk l) l.length)) nO)).2
def al3:fF aG:=dw 76 (a1 apa) iA bH (fun l=>[∀d∈l,qG d,0<l.length∧l.length<=au]) a2n
theorem aq3:Gd al3:=al1.deep 4 fun n hn hO l hp=>by have h1:∀d∈l,qG d:=hp _ iD;have h2:0<l.length∧l.length<=au:=hp _ Ah;have hs:=aq0 (n:=n-4) (hO (n-4) (by omega)) ((l.getD 0 nO).ah,(l.getD 0 nO).aB) l h1 h2.2;rw[show n-4+4=n by omega]at hs;have i0:fK 0 l.length:=⟨by omega,by omega⟩;have hl:=lCk (hO n (by omega)) h1 h2.2;show pR X0 Qp _ _ _ (iA.put (bH l)) _;unfold bH;exact aP (hO n (by omega)) (.zh (fun h=>.w (kM hl () h) (.o i0 (.o i0 (.fr [] hs (.ss .rr .rr))))) (fun h=>.w (kN hl 0 h) .rr))
open Go Tw Pv bQ
theorem a8n{n:Int}(h:0<=n∧n<=6):n=0∨n=1∨n=2∨n=3∨n=4∨n=5∨n=6:=by omega
theorem a8o:(0:Int)<=32:=by decide
def adT:fF aG:=dw 206 (a2 pA pA) (dU (a2 pA pA)) (fun p=>(0,p.2)) (fun p=>[p.1=1,0<=p.2∧p.2<=6]) al3
theorem al4:Gd adT:=aq3.add fun n hO p hp=>by
 obtain⟨a,b⟩:=p;have h1:a=1:=hp _ iD;have h2:0<=b∧b<=6:=hp _ Ah;subst h1;rcases a8n h2 with rfl|rfl|rfl|rfl|rfl|rfl|rfl
 all_goals exact aP hO (.o a8o (.o a8o (.o a8o (.o a8o (.o a8o .rr)))))
def adU:fF aG:=dw 175 (a2 pA pA) (dU (a2 pA pA)) (fun p=>(0,p.2)) (fun p=>[p.1=1,0<=p.2∧p.2<=6]) adT
theorem al5:Gd adU:=al4.add fun n hO p hp=>aP hO (.o (hp _ iD) (.o (hp _ Ah) .rr))
def Iu:fF aG:=dw 124 (a2 qO iA) qO (fun p=>List.replicate p.2.toNat (-1)) (fun p=>[p.1=[-1],0<=p.2∧p.2<=6]) adU
theorem Yf:Gd Iu:=al5.add fun n hO p hp=>by
 obtain⟨a,b⟩:=p;have h1:a=[-1]:=hp _ iD;have h2:0<=b∧b<=6:=hp _ Ah;subst h1;rcases a8n h2 with rfl|rfl|rfl|rfl|rfl|rfl|rfl
 .exact aP hO (.b (rfl:decide ((0:Int)<0)=false) (.o (rfl:(1:Int)=1) (.o (⟨by decide,by decide⟩:(0:Int)<=0∧(0:Int)<=6) (.b (rfl:decide ((0:Int)>0)=false) (.b (rfl:decide ((0:Int)>9223372036854775807)=false) (.o (rfl:(0:Int)=0) (.o (show(0:Int)<=0 by decide) (.o (show(0:Int)<=(au:Int) by decide) (.m 8 le8 (.b (rfl:decide ((0:Int)<0)=false) .rr))))))))))
 .exact aP hO (.b (rfl:decide ((1:Int)<0)=false) (.o (rfl:(1:Int)=1) (.o (⟨by decide,by decide⟩:(0:Int)<=1∧(1:Int)<=6) (.b (rfl:decide ((0:Int)>0)=false) (.b (rfl:decide ((1:Int)>9223372036854775807)=false) (.o (rfl:(1:Int)=1) (.o (show(0:Int)<=1 by decide) (.o (show(1:Int)<=(au:Int) by decide) (.m 8 le8 (.b (rfl:decide ((1:Int)<1)=false) .rr))))))))))
 .exact aP hO (.b (rfl:decide ((2:Int)<0)=false) (.o (rfl:(1:Int)=1) (.o (⟨by decide,by decide⟩:(0:Int)<=2∧(2:Int)<=6) (.b (rfl:decide ((0:Int)>0)=false) (.b (rfl:decide ((2:Int)>9223372036854775807)=false) (.o (rfl:(2:Int)=2) (.o (show(0:Int)<=2 by decide) (.o (show(2:Int)<=(au:Int) by decide) (.m 8 le8 (.b (rfl:decide ((1:Int)<2)=true) (.o (show(0:Int)<=1 by decide) (.o (show(1:Int)<=2 by decide) (.o (show(2:Int)<=2 by decide) (.o (show(0:Int)<=0 by decide) (.o (show(0:Int)<=1 by decide) (.o (show(1:Int)<=2 by decide) (.b (rfl:decide ((2:Int)<2)=false) .rr)))))))))))))))))
 .exact aP hO (.b (rfl:decide ((3:Int)<0)=false) (.o (rfl:(1:Int)=1) (.o (⟨by decide,by decide⟩:(0:Int)<=3∧(3:Int)<=6) (.b (rfl:decide ((0:Int)>0)=false) (.b (rfl:decide ((3:Int)>9223372036854775807)=false) (.o (rfl:(3:Int)=3) (.o (show(0:Int)<=3 by decide) (.o (show(3:Int)<=(au:Int) by decide) (.m 8 le8 (.b (rfl:decide ((1:Int)<3)=true) (.o (show(0:Int)<=1 by decide) (.o (show(1:Int)<=3 by decide) (.o (show(3:Int)<=3 by decide) (.o (show(0:Int)<=0 by decide) (.o (show(0:Int)<=1 by decide) (.o (show(1:Int)<=3 by decide) (.b (rfl:decide ((2:Int)<3)=true) (.o (show(0:Int)<=2 by decide) (.o (show(2:Int)<=3 by decide) (.o (show(3:Int)<=3 by decide) (.o (show(0:Int)<=0 by decide) (.o (show(0:Int)<=2 by decide) (.o (show(2:Int)<=3 by decide) (.b (rfl:decide ((3:Int)<3)=false) .rr))))))))))))))))))))))))
 .exact aP hO (.b (rfl:decide ((4:Int)<0)=false) (.o (rfl:(1:Int)=1) (.o (⟨by decide,by decide⟩:(0:Int)<=4∧(4:Int)<=6) (.b (rfl:decide ((0:Int)>0)=false) (.b (rfl:decide ((4:Int)>9223372036854775807)=false) (.o (rfl:(4:Int)=4) (.o (show(0:Int)<=4 by decide) (.o (show(4:Int)<=(au:Int) by decide) (.m 8 le8 (.b (rfl:decide ((1:Int)<4)=true) (.o (show(0:Int)<=1 by decide) (.o (show(1:Int)<=4 by decide) (.o (show(4:Int)<=4 by decide) (.o (show(0:Int)<=0 by decide) (.o (show(0:Int)<=1 by decide) (.o (show(1:Int)<=4 by decide) (.b (rfl:decide ((2:Int)<4)=true) (.o (show(0:Int)<=2 by decide) (.o (show(2:Int)<=4 by decide) (.o (show(4:Int)<=4 by decide) (.o (show(0:Int)<=0 by decide) (.o (show(0:Int)<=2 by decide) (.o (show(2:Int)<=4 by decide) (.b (rfl:decide ((4:Int)<4)=false) .rr))))))))))))))))))))))))
 .exact aP hO (.b (rfl:decide ((5:Int)<0)=false) (.o (rfl:(1:Int)=1) (.o (⟨by decide,by decide⟩:(0:Int)<=5∧(5:Int)<=6) (.b (rfl:decide ((0:Int)>0)=false) (.b (rfl:decide ((5:Int)>9223372036854775807)=false) (.o (rfl:(5:Int)=5) (.o (show(0:Int)<=5 by decide) (.o (show(5:Int)<=(au:Int) by decide) (.m 8 le8 (.b (rfl:decide ((1:Int)<5)=true) (.o (show(0:Int)<=1 by decide) (.o (show(1:Int)<=5 by decide) (.o (show(5:Int)<=5 by decide) (.o (show(0:Int)<=0 by decide) (.o (show(0:Int)<=1 by decide) (.o (show(1:Int)<=5 by decide) (.b (rfl:decide ((2:Int)<5)=true) (.o (show(0:Int)<=2 by decide) (.o (show(2:Int)<=5 by decide) (.o (show(5:Int)<=5 by decide) (.o (show(0:Int)<=0 by decide) (.o (show(0:Int)<=2 by decide) (.o (show(2:Int)<=5 by decide) (.b (rfl:decide ((4:Int)<5)=true) (.o (show(0:Int)<=4 by decide) (.o (show(4:Int)<=5 by decide) (.o (show(5:Int)<=5 by decide) (.o (show(0:Int)<=0 by decide) (.o (show(0:Int)<=4 by decide) (.o (show(4:Int)<=5 by decide) (.b (rfl:decide ((5:Int)<5)=false) .rr)))))))))))))))))))))))))))))))
 .exact aP hO (.b (rfl:decide ((6:Int)<0)=false) (.o (rfl:(1:Int)=1) (.o (⟨by decide,by decide⟩:(0:Int)<=6∧(6:Int)<=6) (.b (rfl:decide ((0:Int)>0)=false) (.b (rfl:decide ((6:Int)>9223372036854775807)=false) (.o (rfl:(6:Int)=6) (.o (show(0:Int)<=6 by decide) (.o (show(6:Int)<=(au:Int) by decide) (.m 8 le8 (.b (rfl:decide ((1:Int)<6)=true) (.o (show(0:Int)<=1 by decide) (.o (show(1:Int)<=6 by decide) (.o (show(6:Int)<=6 by decide) (.o (show(0:Int)<=0 by decide) (.o (show(0:Int)<=1 by decide) (.o (show(1:Int)<=6 by decide) (.b (rfl:decide ((2:Int)<6)=true) (.o (show(0:Int)<=2 by decide) (.o (show(2:Int)<=6 by decide) (.o (show(6:Int)<=6 by decide) (.o (show(0:Int)<=0 by decide) (.o (show(0:Int)<=2 by decide) (.o (show(2:Int)<=6 by decide) (.b (rfl:decide ((4:Int)<6)=true) (.o (show(0:Int)<=4 by decide) (.o (show(4:Int)<=6 by decide) (.o (show(6:Int)<=6 by decide) (.o (show(0:Int)<=0 by decide) (.o (show(0:Int)<=4 by decide) (.o (show(4:Int)<=6 by decide) (.b (rfl:decide ((6:Int)<6)=false) .rr)))))))))))))))))))))))))))))))
open Go Tw Pv bQ
structure S3 where
 a:Int
 b:Int
 c:Int
 deriving DecidableEq
abbrev S3.ps(s:S3):List (PV aG):=[.int .i64 s.a,.int .i64 s.b,.int .i64 s.c]
def S3.get(s:S3):Nat->Int
 | 0=>s.a
 | 1=>s.b
 |_=>s.c
def S3.set(s:S3)(k:Nat)(v:Int):S3:=match k with
 | 0=>⟨v,s.b,s.c⟩
 | 1=>⟨s.a,v,s.c⟩
 |_=>⟨s.a,s.b,v⟩
structure Jb where
 s:LI0
 o:LI0
 D:List Dg
 g:LI0
abbrev Jb.ps(J:Jb)(op:PV aG):List (PV aG):=[lI J.s,lI J.o,lDg J.D,lI J.g,op]
def kZ(d:Dg)(x c:Int):Bool:=if decide (x>=0)=true then((ay d x).var==c)else false
def LU(d:Dg)(x c g:Int):Int:=if kZ d x c=true then(ay d x).aA.getD g.toNat 0 else x
theorem abh{d:Dg}{x c:Int}(e:decide (x>=0)=false):kZ d x c=false:=by unfold kZ;rw[e];rfl
theorem a8p{d:Dg}{x c:Int}(e:decide (x>=0)=true):kZ d x c=((ay d x).var==c):=by unfold kZ;rw[e];rfl
abbrev l9(D:List Dg)(k:Nat):Dg:=D.getD k nO
def jV(D:List Dg)(s:S3)(c:Int):Bool:=!(kR (bM (fun k=>kZ (l9 D k) (s.get k) c) D.length))
def bJ(D:List Dg)(s:S3)(c g:Int):S3:=aO (fun k y=>y.set k (LU (l9 D k) (y.get k) c g)) D.length 0 s
def fA(D:List Dg):S3:=aO (fun k y=>y.set k (l9 D k).root) D.length 0 ⟨0,0,0⟩
theorem three{k n:Nat}(h:k<n)(hn:n<=3):k=0∨k=1∨k=2:=by omega
theorem m3{n:Nat}(h:n<=3):n<=au:=by unfold au;omega
section
variable {M f:Nat} {a cc:List (PV aG)} {H:List (PB aG)}
abbrev wAs(J:Jb)(op:PV aG)(H:List (PB aG))(s:S3)(c:Int)(i:Int)(x:List (Nat×PE aG)):aU aG:=⟨[(2,xi c),(4,.loc 1 0),(10,xL 26 J.D),(11,xi J.D.length),(12,xi i)]++x,[J.ps op,s.ps],H⟩
def zAs(J:Jb)(op:PV aG)(H:List (PB aG))(s:S3)(c:Int):Unit⊕Nat->Ex×aU aG
 |.inl _=>(.exit 0,wAs J op H s c J.D.length [(13,xl false)])
 |.inr k=>(.ret,⟨[(6,xl true)],[J.ps op,s.ps,(l9 J.D k).ps],H⟩)
theorem lAs(J:Jb)(s:S3)(c:Int)(hD:J.D.length<=3)(hr:∀k,k<J.D.length->decide (s.get k>=0)=true->fK (s.get k) (l9 J.D k).aj.length):Nr M 127 0 H.length (wAs J (.fn f a cc) H s c 0 []) (zAs J (.fn f a cc) H s c (bM (fun k=>kZ (l9 J.D k) (s.get k) c) J.D.length)).1 (zAs J (.fn f a cc) H s c (bM (fun k=>kZ (l9 J.D k) (s.get k) c) J.D.length)).2:=by
 refine jm (st:=fun i _=>wAs J (.fn f a cc) H s c i []) (g:=gS (fun k=>kZ (l9 J.D k) (s.get k) c)) (out:=zAs J (.fn f a cc) H s c) (fun _ _=>True) (by kernel_rfl) (m3 hD) trivial (fun k u m hk _ ih=>?_) (fun _ _=>?_)
 .have h1:=hr k hk;have hg:gS (fun k=>kZ (l9 J.D k) (s.get k) c) k u=if kZ (l9 J.D k) (s.get k) c=true then .inr k else .inl u:=rfl
  cases e:decide (s.get k>=0)
  .rw[abh e,a0y (by simp)]at hg;rw[hg];rcases three hk hD with rfl|rfl|rfl
   all_goals exact aN gJ (.b (bD hk) (.o (aH hk) (.b e (.nx (ih _ trivial)))))
  rw[a8p e]at hg;rw[hg];rcases three hk hD with rfl|rfl|rfl
  all_goals exact aN gJ (.b (bD hk) (.o (aH hk) (.b e (.o (h1 e) (.ls (.ou nofun) (.nx (ih _ trivial)))))))
 exact aN gJ (.b (fO J.D.length) (.ou nofun))
theorem a8q(J:Jb)(s:S3)(c:Int)(hD:J.D.length<=3)(hr:∀k,k<J.D.length->decide (s.get k>=0)=true->fK (s.get k) (l9 J.D k).aj.length):dG X0 Qp (iE (M+1)) (.fn 127 [] []) [.agg (J.ps (.fn f a cc)),.agg s.ps,.int .i64 c] H (.bool (jV J.D s c)) H:=by
 have lp:=lAs (M:=M) (f:=f) (a:=a) (cc:=cc) (H:=H) J s c hD hr;unfold jV;cases h:kR (bM (fun k=>kZ (l9 J.D k) (s.get k) c) J.D.length)
 .exact fH gJ (first:=[]) (cap:=[]) (.w (kN lp 0 h) .er)
 exact fH gJ (first:=[]) (cap:=[]) (.w (kM lp () h) .er)
abbrev wAf(J:Jb)(op:PV aG)(H:List (PB aG))(s:S3)(c g:Int)(i:Int)(x:List (Nat×PE aG)):aU aG:=⟨[(2,xi c),(3,xi g),(5,.loc 1 0),(8,.loc 2 0),(12,xL 26 J.D),(13,xi J.D.length),(14,xi i)]++x,[J.ps op,s.ps,[.int .i64 0,.int .i64 0,.int .i64 0]],H⟩
structure a2o(d:Dg)(x c g:Int):Prop where
 n:decide (x>=0)=true->fK x d.aj.length
 k:kZ d x c=true->fK g (ay d x).aA.length
theorem JM(J:Jb)(s:S3)(c g:Int)(hD:J.D.length<=3)(hr:∀k,k<J.D.length->a2o (l9 J.D k) (s.get k) c g):dG X0 Qp (iE (M+1)) (.fn 129 [] []) [.agg (J.ps (.fn f a cc)),.agg s.ps,.int .i64 c,.int .i64 g] H (.agg (bJ J.D s c g).ps) H:=by
 have lp:Nr M 129 0 H.length (wAf J (.fn f a cc) H s c g 0 []) (.exit 0) (wAf J (.fn f a cc) H (bJ J.D s c g) c g J.D.length [(15,xl false)]):=by
  refine vS (σ:=S3) (N:=J.D.length) (g:=fun k y=>y.set k (LU (l9 J.D k) (y.get k) c g)) (s0:=s) (st:=fun i y=>wAf J (.fn f a cc) H y c g i []) (fin:=fun y=>wAf J (.fn f a cc) H y c g J.D.length [(15,xl false)]) (fun j y=>∀k,j<=k->k<J.D.length->y.get k=s.get k) (by kernel_rfl) (m3 hD) (fun _ _ _=>rfl) (fun j y hj hy=>?_) (fun j y hj hy m e p g9=>?_) (fun y _=>?_)
  .intro k hk lH;rw[<-hy k (by omega) lH];rcases three lH hD with rfl|rfl|rfl<;>rcases three hj hD with rfl|rfl|rfl<;>first|rfl|omega
  .have h1:=hr j hj;rw[<-hy j (a0K _) hj]at h1;obtain⟨h1,h2⟩:=h1;unfold LU at g9;rcases three hj hD with rfl|rfl|rfl
   all_goals
    cases e1:decide (y.get _>=0)
    .unfold kZ at g9;rw[e1]at g9;exact aN gJ (.b (bD hj) (.o (aH hj) (.b e1 (.go g9))))
    .have h3:=h1 e1;cases e2:(ay (l9 J.D _) (y.get _)).var==c
     .unfold kZ at g9;rw[e1,a0A rfl,e2]at g9;exact aN gJ (.b (bD hj) (.o (aH hj) (.b e1 (.o h3 (.b e2 (.go g9))))))
     .unfold kZ at g9 h2;rw[e1,a0A rfl,e2]at g9 h2;exact aN gJ (.b (bD hj) (.o (aH hj) (.b e1 (.o h3 (.b e2 (.o h3 (.o (h2 rfl) (.go g9))))))))
  exact aN gJ (.b (fO J.D.length) .ex)
 exact fH gJ (first:=[]) (cap:=[]) (.w lp .er)
abbrev wSt(J:Jb)(op:PV aG)(H:List (PB aG))(s:S3)(i:Int)(x:List (Nat×PE aG)):aU aG:=⟨[(2,.loc 1 0),(6,xL 26 J.D),(7,xi J.D.length),(8,xi i)]++x,[J.ps op,s.ps],H⟩
theorem a0h(J:Jb)(hD:J.D.length<=3):dG X0 Qp (iE (M+1)) (.fn 130 [] []) [.agg (J.ps (.fn f a cc))] H (.agg (fA J.D).ps) H:=by
 have lp:Nr M 130 0 H.length (wSt J (.fn f a cc) H ⟨0,0,0⟩ 0 []) (.exit 0) (wSt J (.fn f a cc) H (fA J.D) J.D.length [(9,xl false)]):=by
  refine vS (σ:=S3) (N:=J.D.length) (g:=fun k y=>y.set k (l9 J.D k).root) (s0:=⟨0,0,0⟩) (st:=fun i y=>wSt J (.fn f a cc) H y i []) (fin:=fun y=>wSt J (.fn f a cc) H y J.D.length [(9,xl false)]) (fun _ _=>True) (by kernel_rfl) (m3 hD) trivial (fun _ _ _ _=>trivial) (fun j y hj _ m e p g9=>?_) (fun y _=>?_)
  .rcases three hj hD with rfl|rfl|rfl
   all_goals exact aN gJ (.b (bD hj) (.o (aH hj) (.go g9)))
  exact aN gJ (.b (fO J.D.length) .ex)
 exact fH gJ (first:=[]) (cap:=[]) (.w lp .er)
end
end Go.Proofs.YtmobpoiejckagaaGreat
namespace Pv
open Go Tw
section
variable {X:kX} {P:LI1}
theorem dG.fzR(hX:bT X P){call:aZ}{fv:PV X.Γ}{xs:List (PV X.Γ)}{H H1:List (PB X.Γ)}{v v':PV X.Γ}(hs:dG X P call fv xs H v H1)(is:List Nat)(hv:views H1 [v]=some [v'])(ho:∀i,i∈l7.kH [v]->i∈is):dG X P call fv xs H v' (bg is H1):=by intro A m h tf rM hr hf hx;obtain⟨w,h',ws,m1,k1,k2,k3,k4,k5,k6⟩:=hs A m h tf rM hr hf hx;have hF:=iI (h:=h') is m1;have w1:=(lM (m':=dh is m1) hX k2 (.cons k3 .nil) hv ho).mono fun b hb=>FA.gone k2 hb;obtain⟨x,r,e,h1,_⟩:=w1.inv;cases e;exact⟨w,h',ws,dh is m1,k1,k2.bg is,h1,k4.trans hF.1,k5.trans hF.2,k6⟩
end
end Pv
namespace Go.Proofs.YtmobpoiejckagaaGreat
open Go Tw Pv bQ
def aV(D:List Dg)(s:S3):List V:=(List.range D.length).map fun k=>qj (l9 D k) (s.get k)
def gCe(D:List Dg)(s:S3)(k:Nat)(l:List V):List V:=l++[qj (l9 D k) (s.get k)]
theorem a8r(D:List Dg)(s:S3):aO (gCe D s) D.length 0 []=aV D s:=by have:=bK (g:=gCe D s) (m:=D.length) (k:=0) (s:=[]) (fun k l=>l=(List.range k).map fun k=>qj (l9 D k) (s.get k)) rfl (fun j l _ _ e=>by rw[gCe,e,aaw,a4K];rfl);rw[a3T]at this;exact this
abbrev wCe(J:Jb)(op:PV aG)(H:List (PB aG))(s:S3)(l:List V)(i:Int)(x:List (Nat×PE aG)):aU aG:=⟨[(3,.loc 1 0),(4,.val (.own H.length)),(8,xL 26 J.D),(9,xi J.D.length),(10,xi i)]++x,[J.ps op,s.ps],H++[.list false false 39 l]⟩
theorem a2p{M f:Nat}(J:Jb)(s:S3)(hD:J.D.length<=3)(hr:∀k,k<J.D.length->fK (jI (s.get k)) (l9 J.D k).aJ.length):dG X0 Qp (iE (M+1)) (.fn 128 [] []) [.agg (J.ps (.fn f [] [])),.agg s.ps] [] (lV (aV J.D s)) []:=by
 have lp:Nr M 128 0 0 (wCe J (.fn f [] []) [] s [] 0 []) (.exit 0) (wCe J (.fn f [] []) [] s (aV J.D s) J.D.length [(11,xl false)]):=by
  rw[<-a8r J.D s];refine vS (σ:=List V) (N:=J.D.length) (g:=gCe J.D s) (s0:=[]) (st:=fun i l=>wCe J (.fn f [] []) [] s l i []) (fin:=fun l=>wCe J (.fn f [] []) [] s l J.D.length [(11,xl false)]) (fun k l=>l.length=k) (by kernel_rfl) (m3 hD) rfl (fun j y hj hy=>by simp[gCe,hy]) (fun j y hj hy m e p g9=>?_) (fun y _=>?_)
  .have h1:=hr j hj;have h2:y.length+[qj (l9 J.D j) (s.get j)].length<=au:=by rw[hy,a4n];exact m3 (by omega)
   rcases three hj hD with rfl|rfl|rfl
   all_goals exact aN gJ (.b (bD hj) (.o (aH hj) (.o h1 (.o h2 (.goG [.gc [2]] g9)))))
  exact aN gJ (.b (fO J.D.length) .ex)
 have h0:dG X0 Qp (iE (M+1)) (.fn 128 [] []) [.agg (J.ps (.fn f [] [])),.agg s.ps] [] (.own 0) ([]++[.list false false 39 (aV J.D s)]):=fH gJ (first:=[]) (cap:=[]) (.wG [.Jg 4 39] lp .er);exact dG.cut hX (dG.fzR hX h0 [0] (v':=lV (aV J.D s)) rfl (by decide)) rfl rfl rfl rfl
theorem abj{M f:Nat}{u:Int}(J:Jb)(s:S3)(hD:J.D.length<=3)(hr:∀k,k<J.D.length->fK (jI (s.get k)) (l9 J.D k).aJ.length):dG X0 Qp (iE (M+1)) (.fn 128 [] []) [.agg (J.ps (.fn f [] [.ptr 0 0 1])),.agg s.ps] [.aF [.int .u8 u]] (lV (aV J.D s)) [.aF [.int .u8 u]]:=by
 have lp:Nr M 128 0 1 (wCe J (.fn f [] [.ptr 0 0 1]) [.aF [.int .u8 u]] s [] 0 []) (.exit 0) (wCe J (.fn f [] [.ptr 0 0 1]) [.aF [.int .u8 u]] s (aV J.D s) J.D.length [(11,xl false)]):=by
  rw[<-a8r J.D s];refine vS (σ:=List V) (N:=J.D.length) (g:=gCe J.D s) (s0:=[]) (st:=fun i l=>wCe J (.fn f [] [.ptr 0 0 1]) [.aF [.int .u8 u]] s l i []) (fin:=fun l=>wCe J (.fn f [] [.ptr 0 0 1]) [.aF [.int .u8 u]] s l J.D.length [(11,xl false)]) (fun k l=>l.length=k) (by kernel_rfl) (m3 hD) rfl (fun j y hj hy=>by simp[gCe,hy]) (fun j y hj hy m e p g9=>?_) (fun y _=>?_)
  .have h1:=hr j hj;have h2:y.length+[qj (l9 J.D j) (s.get j)].length<=au:=by rw[hy,a4n];exact m3 (by omega)
   rcases three hj hD with rfl|rfl|rfl
   all_goals exact aN gJ (.b (bD hj) (.o (aH hj) (.o h1 (.o h2 (.goG [.gc [3]] g9)))))
  exact aN gJ (.b (fO J.D.length) .ex)
 have h0:dG X0 Qp (iE (M+1)) (.fn 128 [] []) [.agg (J.ps (.fn f [] [.ptr 0 0 1])),.agg s.ps] [.aF [.int .u8 u]] (.own 1) ([.aF [.int .u8 u]]++[.list false false 39 (aV J.D s)]):=fH gJ (first:=[]) (cap:=[]) (.wG [.Jg 4 39] lp .er);exact dG.cut hX (dG.fzR hX h0 [1] (v':=lV (aV J.D s)) rfl (by decide)) rfl rfl rfl rfl
open Go Tw Pv bQ
def S3.l(s:S3):LI0:=[s.a,s.b,s.c]
theorem uSt:Tryz.prog.underlying 148=some (.array 3 3):=by kernel_rfl
theorem al6(a b:S3):aC Qp (Op.equal 148 (.agg (Dq .i64 a.l)) (.agg (Dq .i64 b.l)))=some (decide (a=b)):=by have:=BL (P:=Qp) 9998 (k:=.i64) (l:=a.l) (l':=b.l) uSt (by kernel_rfl) a3R (by kernel_rfl) rfl rfl;refine Eq.trans this ?_;obtain⟨a1,a2,a3⟩:=a;obtain⟨b1,b2,b3⟩:=b;simp[S3.l]
def kS:oN X0 Qp 148 S3 where
 pv x:=.agg x.ps
 tv x:=.agg [.int .i64 x.a,.int .i64 x.b,.int .i64 x.c]
 v x:=.agg (Dq .i64 x.l)
 hp _:=rfl
 ht _:=rfl
 hc em x:=by kernel_rfl
 hf x l:=afy uSt al6 x l
 hk:=afz uSt al6
structure Mk where
 e:List V
 n:List Br
 k:List (S3×Int)
def Vp(D:List Dg)(f:S3->Mk->Int×Mk)(s:S3)(c:Int)(j:Nat)(y:LI0×Mk):LI0×Mk:=(y.1++[(f (bJ D s c j) y.2).1],(f (bJ D s c j) y.2).2)
def knS(k:List (S3×Int))(s:S3):Int:=((k.find? fun e=>decide (e.1=s)).map (·.2)).getD 0
def jC(J:Jb)(op:List V->V):LI0->S3->Mk->Int×Mk
 | [],s,x=>(i64.wrap (0-((x.e++[op (aV J.D s)]).length:Int)),{ x with e:=x.e++[op (aV J.D s)] })
 |c::r,s,x=>if jV J.D s c=true then(if decide (J.g.getD c.toNat 0>=0)=true then jC J op r (bJ J.D s c (J.g.getD c.toNat 0)) x
   else if s∈x.k.map (·.1)then(knS x.k s,x)
   else
    let y:=aO (Vp J.D (jC J op r) s c) (J.s.getD c.toNat 0).toNat 0 ([],x)
    ((y.2.n.length:Int),⟨y.2.e,y.2.n++[⟨c,y.1⟩],y.2.k++[(s,(y.2.n.length:Int))]⟩))
  else jC J op r s x
abbrev Iw(k:List (S3×Int)):List (PV aG×PV aG):=kS.es (k.map fun e=>(e.1,.int .i64 e.2))
abbrev pM:List (PV aG):=[.ptr 2 0 5,.ptr 1 0 5,.ptr 3 0 1,.ptr 4 0 1]
abbrev HM0(J:Jb)(f:Nat)(x:Mk):List (PB aG):=[.map (Iw x.k),.cells [lI J.s,lI J.o,.own 5,.own 6,.int .i64 0],.aF (J.ps (.fn f [] [])),.aF [.fn 126 [] pM],.aF [.map 0],Qr x.e,Qs x.n]
abbrev abk(J:Jb)(f:Nat)(x:Mk):List (PB aG):=[.map (Iw x.k),.cells [lI J.s,lI J.o,.own 7,.own 8,.int .i64 0],.aF (J.ps (.fn f [] [])),.aF [.fn 126 [] pM],.aF [.map 0],.gone,.gone,Qr x.e,Qs x.n]
abbrev HM1(J:Jb)(f:Nat)(u:Int)(x:Mk):List (PB aG):=[.map (Iw x.k),.cells [lI J.s,lI J.o,.own 6,.own 7,.int .i64 0],.aF (J.ps (.fn f [] [.ptr 5 0 1])),.aF [.fn 126 [] pM],.aF [.map 0],.aF [.int .u8 u],Qr x.e,Qs x.n]
abbrev abl(J:Jb)(f:Nat)(u:Int)(x:Mk):List (PB aG):=[.map (Iw x.k),.cells [lI J.s,lI J.o,.own 8,.own 9,.int .i64 0],.aF (J.ps (.fn f [] [.ptr 5 0 1])),.aF [.fn 126 [] pM],.aF [.map 0],.aF [.int .u8 u],.gone,.gone,Qr x.e,Qs x.n]
open Go Tw Pv bQ
theorem S3.jE{s:S3}{i k:Nat}{v:Int}(hi:i<3)(hk:k<3):(s.set i v).get k=if k=i then v else s.get k:=by
 match i,k,hi,hk with
 | 0,0,_,_=>rfl
 | 0,1,_,_=>rfl
 | 0,2,_,_=>rfl
 | 1,0,_,_=>rfl
 | 1,1,_,_=>rfl
 | 1,2,_,_=>rfl
 | 2,0,_,_=>rfl
 | 2,1,_,_=>rfl
 | 2,2,_,_=>rfl
 |i+3,_,h,_=>omega
 |_,k+3,_,h=>omega
theorem JO{D:List Dg}(hD:D.length<=3)(t:S3)(c g:Int){k:Nat}(hk:k<D.length):(bJ D t c g).get k=LU (l9 D k) (t.get k) c g:=by
 have:=bK (g:=fun k (y:S3)=>y.set k (LU (l9 D k) (y.get k) c g)) (m:=D.length) (k:=0) (s:=t) (fun j y=>∀k,k<D.length->y.get k=if k<j then LU (l9 D k) (t.get k) c g else t.get k) (fun k _=>by rw[a0y (by omega)]) (fun j y _ hj hy k hk=>by
  rw[S3.jE (by omega) (by omega)];by_cases e:k=j
  .subst e;rw[a0A rfl,a0A (by omega),hy k hk,a0y (by omega)]
  rw[a0y e,hy k hk];by_cases e2:k<j
  .rw[a0A e2,a0A (by omega)]
  rw[a0y e2,a0y (by omega)])
 have h:=this k hk;rw[a0A (by omega)]at h;exact h
theorem DV{D:List Dg}{t:S3}{c:Int}:jV D t c=true↔∃k,k<D.length∧kZ (l9 D k) (t.get k) c=true:=by
 unfold jV;constructor
 .intro h;refine aco fun h2=>?_;have:kR (bM (fun k=>kZ (l9 D k) (t.get k) c) D.length)=true:=dQ.2 fun k hk=>by
   cases e:kZ (l9 D k) (t.get k) c
   .rfl
   exact absurd ⟨k,hk,e⟩ h2
  rw[this]at h;cases h
 rintro⟨k,hk,h⟩;cases e:kR (bM (fun k=>kZ (l9 D k) (t.get k) c) D.length)
 .rfl
 have:=dQ.1 e k hk;rw[h]at this;cases this
theorem Ew{d:Dg}{x c:Int}:kZ d x c=true↔0<=x∧(ay d x).var=c:=by
 unfold kZ;split
 .rename_i h;simp at h;simp[h]
 rename_i h;simp at h;simp;omega
structure DJ(J:Jb)(d:Dg):Prop where
 t:C9 d
 n:d.aj.length<=6000
 s:d.ah=J.s
 o:d.aB=J.o
 rk:∀i,i<d.aj.length->∀k,k<(fD d i).aA.length->d.aB.idxOf (fD d i).var+1<=EM d.aB d.aj ((fD d i).aA.getD k 0)
 two:∀i,i<d.aj.length->2<=(fD d i).aA.length
structure jW(J:Jb):Prop where
 d3:J.D.length<=3
 bY:uO J.s
 ord:kE J.s.length J.o=true
 dg:∀k,k<J.D.length->DJ J (l9 J.D k)
 gl:J.g.length=J.s.length
 gv:∀c,fK c J.s.length->0<=J.g.getD c.toNat 0->J.g.getD c.toNat 0<J.s.getD c.toNat 0
def Dp(J:Jb)(a:Nat)(t:S3):Prop:=∀k,k<J.D.length->jB (l9 J.D k) (t.get k) (l9 J.D k).aj.length∧a<=EM J.o (l9 J.D k).aj (t.get k)
theorem Dp.le{J:Jb}{a b:Nat}{t:S3}(h:Dp J a t)(hb:b<=a):Dp J b t:=fun k hk=>⟨(h k hk).1,by have:=(h k hk).2;omega⟩
section
variable {J:Jb} (hJ:jW J) {a:Nat} {t:S3} {c:Int} {r:LI0}
include hJ
theorem jW.o2:J.o.Nodup∧J.o.length=J.s.length∧∀c∈J.o,fK c J.s.length:=by have ho:=hJ.ord;unfold kE at ho;rw[a0S]at ho;exact⟨ho.2.2,ho.1,fun c hc=>⟨(ho.2.1 c hc).1,(ho.2.1 c hc).2⟩⟩
theorem jW.at_(hr:J.o.drop a=c::r):a<J.o.length∧J.o.getD a 0=c∧J.o.drop (a+1)=r∧c∈J.o∧J.o.idxOf c=a∧fK c J.s.length:=by
 have aT:a<J.o.length:=by have:=congrArg List.length hr;rw[a3U,a4M]at this;omega
 have hd:=a6E aT;rw[hr]at hd;obtain⟨hc,wR⟩:=List.cons.inj hd;have G9:c∈J.o:=by rw[hc];exact a4X aT
 obtain⟨h1,h2,h3⟩:=jW.o2 hJ;exact⟨aT,by rw[hc];simp[List.getD,a0d aT],wR.symm,G9,by rw[hc];exact h1.idxOf_getElem a aT,h3 c G9⟩
theorem a0i(hr:J.o.drop a=c::r)(h:jV J.D t c=true):¬Dp J (a+1) t:=fun hd=>by obtain⟨k,hk,h1⟩:=DV.1 h;obtain⟨x0,hv⟩:=Ew.1 h1;have:=(hd k hk).2;unfold EM at this;rw[a0y (by omega)]at this;have e:((l9 J.D k).aj.getD (t.get k).toNat jZ).var=c:=hv;rw[e,(jW.at_ hJ hr).2.2.2.2.1]at this;omega
theorem a2q(hr:J.o.drop a=c::r)(hd:Dp J a t){k:Nat}(hk:k<J.D.length)(hn:kZ (l9 J.D k) (t.get k) c=false):a+1<=EM J.o (l9 J.D k).aj (t.get k):=by
 have h1:=(hd k hk).2;have h2:=jW.at_ hJ hr;by_cases x0:t.get k<0
 .unfold EM;rw[a0A x0];omega
 have iy:((l9 J.D k).aj.getD (t.get k).toNat jZ).var≠c:=fun e=>by have:kZ (l9 J.D k) (t.get k) c=true:=Ew.2 ⟨by omega,e⟩;rw[hn]at this;cases this
 unfold EM at h1 ⊢;rw[a0y x0]at h1 ⊢;rcases a4N a (J.o.idxOf ((l9 J.D k).aj.getD (t.get k).toNat jZ).var)with h3|h3
 .exact h3
 exfalso;have e:J.o.idxOf ((l9 J.D k).aj.getD (t.get k).toNat jZ).var=a:=by omega
 have aT:J.o.idxOf ((l9 J.D k).aj.getD (t.get k).toNat jZ).var<J.o.length:=by rw[e];exact h2.1
 have g:J.o.getD (J.o.idxOf ((l9 J.D k).aj.getD (t.get k).toNat jZ).var) 0=((l9 J.D k).aj.getD (t.get k).toNat jZ).var:=by rw[List.getD,a0d aT,a5q];exact a90 aT
 rw[e,h2.2.1]at g;exact iy g.symm
theorem Vq(hr:J.o.drop a=c::r)(hd:Dp J a t)(h:jV J.D t c=false):Dp J (a+1) t:=fun k hk=>by
 refine⟨(hd k hk).1,a2q hJ hr hd hk ?_⟩;cases e:kZ (l9 J.D k) (t.get k) c
 .rfl
 .have:=DV.2 ⟨k,hk,e⟩;rw[h]at this;cases this
theorem Iy(hd:Dp J a t){k:Nat}(hk:k<J.D.length)(h:kZ (l9 J.D k) (t.get k) c=true):fK (t.get k) (l9 J.D k).aj.length∧(ay (l9 J.D k) (t.get k)).var=c∧((ay (l9 J.D k) (t.get k)).aA.length:Int)=J.s.getD c.toNat 0:=by obtain⟨x0,hv⟩:=Ew.1 h;have hr:fK (t.get k) (l9 J.D k).aj.length:=⟨x0,(hd k hk).1.1⟩;have hdj:=hJ.dg k hk;have:=hdj.t.ksz (t.get k).toNat (by have:=hr.2;omega);refine⟨hr,hv,?_⟩;have e:(ay (l9 J.D k) (t.get k))=fD (l9 J.D k) (t.get k).toNat:=rfl;rw[e,this,<-e,hv,hdj.s]
theorem ng(hr:J.o.drop a=c::r)(hd:Dp J a t){j:Int}(hj:0<=j∧j<J.s.getD c.toNat 0):Dp J (a+1) (bJ J.D t c j):=fun k hk=>by
 rw[JO hJ.d3 t c j hk];unfold LU;split
 .rename_i h;obtain⟨h1,h2,h3⟩:=Iy hJ hd hk h;have hdj:=hJ.dg k hk;have aT:(t.get k).toNat<(l9 J.D k).aj.length:=by have:=h1.1;have:=h1.2;omega
  have KF:j.toNat<(fD (l9 J.D k) (t.get k).toNat).aA.length:=by have h3:((fD (l9 J.D k) (t.get k).toNat).aA.length:Int)=J.s.getD c.toNat 0:=h3;omega
  have g1:=hdj.t.zT (t.get k).toNat aT j.toNat KF;have g2:=hdj.rk (t.get k).toNat aT j.toNat KF;refine⟨⟨by have:=g1.1;show(fD (l9 J.D k) (t.get k).toNat).aA.getD j.toNat 0<_;omega,g1.2⟩,?_⟩;have e:(fD (l9 J.D k) (t.get k).toNat).var=c:=h2;rw[hdj.o,e,(jW.at_ hJ hr).2.2.2.2.1]at g2;exact g2
 .rename_i h;exact⟨(hd k hk).1,a2q hJ hr hd hk (by simpa using h)⟩
theorem JQ(hd:Dp J a t){j:Int}(hj:0<=j∧j<J.s.getD c.toNat 0){k:Nat}(hk:k<J.D.length):a2o (l9 J.D k) (t.get k) c j:=by refine⟨fun h=>⟨by simpa using h,(hd k hk).1.1⟩,fun h=>?_⟩;have:=(Iy hJ hd hk h).2.2;exact⟨hj.1,by rw[this];exact hj.2⟩
theorem Vr(hr:J.o.drop a=c::r)(hd:Dp J a t)(h:jV J.D t c=true):2<=(J.s.getD c.toNat 0).toNat:=by obtain⟨k,hk,h1⟩:=DV.1 h;obtain⟨h2,h3,h4⟩:=Iy hJ hd hk h1;have:=(hJ.dg k hk).two (t.get k).toNat (by have:=h2.1;have:=h2.2;omega);have h4:((fD (l9 J.D k) (t.get k).toNat).aA.length:Int)=J.s.getD c.toNat 0:=h4;omega
theorem JR(hd:Dp J J.o.length t){k:Nat}(hk:k<J.D.length):t.get k<0∧fK (jI (t.get k)) (l9 J.D k).aJ.length:=by
 have h1:=hd k hk;have:t.get k<0:=by
  refine aco fun h=>?_;have h2:=h1.2;unfold EM at h2;rw[a0y h]at h2;have hdj:=hJ.dg k hk;have aT:(t.get k).toNat<(l9 J.D k).aj.length:=by have:=h1.1.1;omega
  have hv:=hdj.t.var (t.get k).toNat aT;rw[hdj.s]at hv;have:=a5b.2 (lX hJ.ord hv);have e:(fD (l9 J.D k) (t.get k).toNat).var=((l9 J.D k).aj.getD (t.get k).toNat jZ).var:=rfl;rw[e]at this;omega
 exact⟨this,h1.1.2 this⟩
end
open Go Tw Pv bQ
def ov(g q:LI0):LI0:=List.zipWith (fun a b=>if 0<=a then a else b) g q
theorem JU{g q:LI0}{k:Nat}(h:g.length=q.length):(ov g q).getD k 0=if k<g.length then(if 0<=g.getD k 0 then g.getD k 0 else q.getD k 0)else 0:=by
 unfold ov;by_cases hk:k<g.length
 .rw[a0A hk];simp[List.getD,List.getElem?_zipWith,a0d hk,a0d (show k<q.length by omega)]
 rw[a0y hk];simp[List.getD,List.getElem?_zipWith,a4J (show g.length<=k by omega)]
def a8u(J:Jb)(op:List V->V)(q:LI0)(t:S3)(v:V):Prop:=∃l:List V,l.length=J.D.length∧(∀k,k<J.D.length->To (l9 J.D k) (ov J.g q) (t.get k) (l.getD k V0))∧v=op l
def Sem(J:Jb)(op:List V->V)(v:Int)(t:S3)(x:EN):Prop:=∀Z:Dg,Z.aJ.length<2^61->x.1 <+: Z.aJ->x.2 <+: Z.aj->∀q,iU J.s q=true->∃u,To Z q v u∧a8u J op q t u
theorem Sem.mono{J:Jb}{op:List V->V}{v:Int}{t:S3}{x y:EN}(h:Sem J op v t x)(hp:Gn x y):Sem J op v t y:=fun Z hZ h1 h2=>h Z hZ (hp.1.trans h1) (hp.2.trans h2)
abbrev Mk.en(x:Mk):EN:=(x.e,x.n)
def Fv(v:V):Prop:=vOk v=true∧0<=v.f
structure XOk(J:Jb)(op:List V->V)(x:Mk):Prop where
 v:PtV J.s J.o x.en
 k:∀e∈x.k,fK e.2 x.n.length∧jV J.D e.1 (x.n.getD e.2.toNat jZ).var=true∧Sem J op e.2 e.1 x.en
 nd:(x.k.map (·.1)).Nodup
 e:∀v∈x.e,Fv v
 w:∀b∈x.n,∀v∈b.aA,Gm v
structure a4j(J:Jb)(op:List V->V)(a:Nat)(w:Nat)(t:S3)(x:Mk)(z:Int×Mk):Prop where
 pre:Gn x.en z.2.en
 el:z.2.e.length<=x.e.length+w
 nl:z.2.n.length+1<=x.n.length+w
 ok:XOk J op z.2
 rf:Cc J.o z.2.en z.1 z.2.n.length a
 sm:Sem J op z.1 t z.2.en
 ks:∀e∈z.2.k,e∈x.k∨Dp J a e.1
 w:Gm z.1
theorem XOk.mono{J:Jb}{op:List V->V}{x:Mk}{e:List V}(h:XOk J op x)(hp:x.e <+: e)(he:∀v∈e,Fv v):XOk J op { x with e:=e }:=by have hq:Gn x.en (e,x.n):=⟨hp,a4Z⟩;exact⟨⟨h.v.var,h.v.ksz,fun i hi k hk=>(h.v.zT i hi k hk).mono hq (a0K _) (a9H hi) (a0K _)⟩,fun e he=>⟨(h.k e he).1,(h.k e he).2.1,(h.k e he).2.2.mono hq⟩,h.nd,he,h.w⟩
theorem Qe{J:Jb}(hJ:jW J){op:List V->V}{q:LI0}{t:S3}{a:Nat}(hd:Dp J a t){c j:Int}{u:V}(hj:(ov J.g q).getD c.toNat 0=j)(h:a8u J op q (bJ J.D t c j) u):a8u J op q t u:=by
 obtain⟨l,h1,h2,h3⟩:=h;refine⟨l,h1,fun k hk=>?_,h3⟩;have h4:=h2 k hk;rw[JO hJ.d3 t c j hk]at h4;unfold LU at h4;split at h4
 .rename_i h5;obtain⟨h6,h7,_⟩:=Iy hJ hd hk h5;refine .step h6.1 ?_;rw[h7,hj];exact h4
 exact h4
def sO(J:Jb)(op:List V->V):Prop:=∀t,Dp J J.o.length t->Fv (op (aV J.D t))
theorem abm{J:Jb}(hJ:jW J)(op:List V->V)(kD:sO J op){t:S3}{x:Mk}(hd:Dp J J.o.length t)(hx:XOk J op x)(hb:x.e.length+1<=2^60):a4j J op J.o.length 1 t x (jC J op [] t x):=by
 have e0:i64.wrap (0-((x.e++[op (aV J.D t)]).length:Int))=-1-(x.e.length:Int):=by rw[a1w,a4n,fQ (by omega) (by omega)];omega
 obtain⟨_,e2⟩:=Q8 (k:=x.e.length) (by omega);have hp:x.e <+: x.e++[op (aV J.D t)]:=a94 _ _;show a4j J op J.o.length 1 t x (i64.wrap (0-((x.e++[op (aV J.D t)]).length:Int)),_);rw[e0];refine⟨⟨hp,a4Z⟩,by simp,a0K _,hx.mono hp (fun v hv=>by rcases a3s.1 hv with hv|hv;exact hx.e v hv;rw[a2O.1 hv];exact kD t hd),⟨fun _=>?_,?_,?_⟩,fun Z hZ g1 g2 q hq=>?_,fun e he=>.inl he,⟨by show _<=-1-(x.e.length:Int);omega,by show -1-(x.e.length:Int)<_;omega⟩⟩
 .rw[e2];exact⟨by omega,by simp;omega⟩
 .show -1-(x.e.length:Int)<_;omega
 .unfold EM;rw[a0A (by show -1-(x.e.length:Int)<0;omega)];exact a0K _
 have h1:=To.fin (d:=Z) (q:=q) (r:=-1-(x.e.length:Int)) (by omega);rw[e2,a5g]at h1;have g1:x.e++[op (aV J.D t)] <+: Z.aJ:=g1;have e3:Z.aJ.getD x.e.length V0=op (aV J.D t):=by rw[zW g1 (by simp)];simp[List.getD]
 rw[e3]at h1;refine⟨_,h1,aV J.D t,by simp[aV],fun k hk=>?_,rfl⟩;have h2:=JR hJ hd hk;have e4:(aV J.D t).getD k V0=qj (l9 J.D k) (t.get k):=by simp[aV,List.getD,hk]
 rw[e4];exact .fin h2.1
theorem DW{α:Type}{l:List α}{a:α}(h:l.Nodup)(ha:a∉l):(l++[a]).Nodup:=by rw[a9n];exact⟨h,by simp,fun x hx y hy e=>by simp at hy;subst hy;subst e;exact ha hx⟩
theorem JV{α:Type}{l:List α}{x d:α}{j:Nat}:(l++[x]).getD j d=if j<l.length then l.getD j d else if j=l.length then x else d:=by
 split
 .rename_i h;simp[List.getD,a0m h]
 rename_i h;split
 .rename_i h2;subst h2;simp[List.getD]
 rename_i h2;rw[List.getD,a4J (by simp;omega)];rfl
theorem TP{J:Jb}(hJ:jW J)(op:List V->V)(kD:sO J op):∀(r:LI0) (a:Nat) (t:S3) (x:Mk),J.o.drop a=r->a<=J.o.length->Dp J a t->XOk J op x->x.e.length+wO J.s r<=2^60->x.n.length+wO J.s r<=2^60->a4j J op a (wO J.s r) t x (jC J op r t x)
 | [],a,t,x,hr,ha,hd,hx,hb,yw=>by
  have:a=J.o.length:=by have:=congrArg List.length hr;rw[a3U,a5r]at this;omega
  subst this;exact abm hJ op kD hd hx hb
 |c::r,a,t,x,hr,ha,hd,hx,hb,yw=>by
  obtain⟨aT,hoc,wR,G9,hci,qF⟩:=jW.at_ hJ hr;have hz:=hJ.bY.sz _ (cu (s:=J.s) (k:=c.toNat) (by have:=qF.1;have:=qF.2;omega));have hri:∀c'∈r,fK c' J.s.length:=fun c' h=>(jW.o2 hJ).2.2 c' (by rw[<-wR]at h;exact a5L h);have hw:=Vm hJ.bY.sz hri;have hw1:wO J.s r<=(J.s.getD c.toNat 0).toNat*wO J.s r:=ae7 _ (by omega);simp only[wO]at hb yw ⊢;have up:∀{t':S3} {z:Int×Mk},a4j J op (a+1) (wO J.s r) t' x z->(∀q u,iU J.s q=true->a8u J op q t' u->a8u J op q t u)->a4j J op a ((J.s.getD c.toNat 0).toNat*wO J.s r) t x z:=fun{t' z} h hs=>
   ⟨h.pre,by have:=h.el;omega,by have:=h.nl;omega,h.ok,h.rf.mono Gn.rfl (a0K _) (a0K _) (by omega),fun Z hZ g1 g2 q hq=>let ⟨u,u1,u2⟩:=h.sm Z hZ g1 g2 q hq;⟨u,u1,hs q u hq u2⟩,fun e he=>(h.ks e he).imp id fun h=>h.le (by omega),h.w⟩
  unfold jC;cases Bg:jV J.D t c
  .rw[a0y (by simp)];exact up (TP hJ op kD r (a+1) t x wR aT (Vq hJ hr hd Bg) hx (by omega) (by omega)) fun _ _ _ h=>h
  rw[a0A rfl];by_cases hg:J.g.getD c.toNat 0>=0
  .rw[a0A (by simpa using hg)];refine up (TP hJ op kD r (a+1) _ x wR aT (ng hJ hr hd ⟨hg,hJ.gv c qF hg⟩) hx (by omega) (by omega)) fun q u hq h=>Qe hJ hd ?_ h;rw[JU (by rw[hJ.gl,qc hq]),a0A (by rw[hJ.gl];have:=qF.1;have:=qF.2;omega),a0A hg]
  rw[a0y (by simpa using hg)];by_cases hk:t∈x.k.map (·.1)
  .rw[a0A hk];obtain⟨e,he,rfl⟩:=a0P.1 hk;have hkn:knS x.k e.1=e.2:=by
    have:x.k.find? (fun y=>decide (y.1=e.1))=some e:=by
     have jF:=hx.nd;clear hb up hk Bg hd;generalize x.k=l at he jF
     induction l with
     |nil=>cases he
     |cons y l ih=>
      rw[ahx];rcases a1z.1 he with rfl|he
      .simp
      have:¬y.1=e.1:=fun h=>by rw[a4L,a4U]at jF;exact jF.1 (a0P.2 ⟨e,he,h.symm⟩)
      rw[aeF this];rw[a4L,a4U]at jF;exact ih he jF.2
    unfold knS;rw[this];rfl
   rw[hkn];obtain⟨k1,k2,k3⟩:=hx.k e he;have hmul:2*1<=(J.s.getD c.toNat 0).toNat*wO J.s r:=ahD (Vr hJ hr hd Bg) hw;refine⟨Gn.rfl,by show x.e.length<=_;omega,by show x.n.length+1<=_;omega,hx,⟨fun h=>by have:=k1.1;show fK _ _;exact absurd h (by omega),k1.2,?_⟩,k3,fun _ h=>.inl h,⟨by have:=k1.1;show _<=e.2;omega,by have:=k1.2;show e.2<_;omega⟩⟩;obtain⟨k,hk,h1⟩:=DV.1 k2;obtain⟨x0,hv⟩:=Ew.1 h1;have h2:=(hd k hk).2;unfold EM at h2 ⊢;rw[a0y (by omega)]at h2;have k10:=k1.1;rw[a0y (show ¬e.2<0 by omega)];have hv:((l9 J.D k).aj.getD (e.1.get k).toNat jZ).var=(x.n.getD e.2.toNat jZ).var:=hv;rw[hv]at h2;exact h2
  rw[a0y hk];have hm2:=Vr hJ hr hd Bg;have YJ:∀j,j<(J.s.getD c.toNat 0).toNat->j*wO J.s r+wO J.s r<=(J.s.getD c.toNat 0).toNat*wO J.s r:=fun j hj=>by have:(j+1)*wO J.s r<=(J.s.getD c.toNat 0).toNat*wO J.s r:=a3P _ hj;rw[a3z]at this;omega
  have inv:=bK (g:=Vp J.D (jC J op r) t c) (m:=(J.s.getD c.toNat 0).toNat) (k:=0) (s:=([],x)) (fun k y=>y.1.length=k∧Gn x.en y.2.en∧y.2.e.length<=x.e.length+k*wO J.s r∧y.2.n.length+k<=x.n.length+k*wO J.s r∧XOk J op y.2∧(∀e∈y.2.k,e∈x.k∨Dp J (a+1) e.1)∧(∀v∈y.1,Gm v)∧∀j:Nat,j<k->Cc J.o y.2.en (y.1.getD j 0) y.2.n.length (a+1)∧Sem J op (y.1.getD j 0) (bJ J.D t c j) y.2.en)
   ⟨rfl,Gn.rfl,by simp,by simp,hx,fun _ h=>.inl h,(fun v hv=>by cases hv),fun j hj=>by omega⟩ (fun j y _ hj hy=>by
    obtain⟨y1,y2,y3,y4,y5,y6,y8,y7⟩:=hy;have YJ:=YJ j (by omega);have h:=TP hJ op kD r (a+1) (bJ J.D t c j) y.2 wR aT (ng hJ hr hd ⟨by omega,by omega⟩) y5 (by omega) (by omega);refine⟨by simp[Vp,y1],y2.trans h.pre,?_,?_,h.ok,fun e he=>?_,fun v hv=>?_,fun j' DZ=>?_⟩
    .have:=h.el;show(jC J op r (bJ J.D t c j) y.2).2.e.length<=_;rw[a3z];omega
    .have:=h.nl;show(jC J op r (bJ J.D t c j) y.2).2.n.length+_<=_;rw[a3z];omega
    .rcases h.ks e he with h1|h1
     .exact y6 e h1
     .exact .inr h1
    .have hv:v∈y.1++[(jC J op r (bJ J.D t c j) y.2).1]:=hv;rcases a3s.1 hv with hv|hv
     .exact y8 v hv
     .rw[a2O.1 hv];exact h.w
    .have e1:(Vp J.D (jC J op r) t c j y).1.getD j' 0=if j'<j then y.1.getD j' 0 else(jC J op r (bJ J.D t c j) y.2).1:=by
      show(y.1++[_]).getD j' 0=_;rw[JV,y1];split
      .rfl
      .rw[a0A (by omega)]
     rw[e1];by_cases e:j'<j
     .rw[a0A e];obtain⟨a1,a2⟩:=y7 j' e;exact⟨a1.mono h.pre h.pre.2.length_le (a0K _) (a0K _),a2.mono h.pre⟩
     .rw[a0y e];have e:j'=j:=(by omega);subst e;exact⟨h.rf,h.sm⟩)
  rw[a3T]at inv;simp only[];generalize aO (Vp J.D (jC J op r) t c) (J.s.getD c.toNat 0).toNat 0 ([],x)=y at inv;obtain⟨ks,m⟩:=y;obtain⟨y1,y2,y3,y4,y5,y6,y8,y7⟩:=inv;have y1:ks.length=(J.s.getD c.toNat 0).toNat:=y1;have hp:Gn m.en (m.e,m.n++[(⟨c,ks⟩:Br)]):=⟨a4Z,a94 _ _⟩;have gu:(m.n++[(⟨c,ks⟩:Br)]).getD m.n.length jZ=⟨c,ks⟩:=by simp[List.getD]
  have a5C:Sem J op (m.n.length:Int) t (m.e,m.n++[(⟨c,ks⟩:Br)]):=fun Z hZ g1 g2 q hq=>by
   have g2:m.n++[(⟨c,ks⟩:Br)] <+: Z.aj:=g2;have YH:=(qg.1 hq).2 c.toNat (by have:=qF.1;have:=qF.2;omega);have hj:(q.getD c.toNat 0).toNat<(J.s.getD c.toNat 0).toNat:=(by omega);obtain⟨u,u1,u2⟩:=(y7 _ hj).2 Z hZ g1 ((a94 _ _).trans g2) q hq;have en:ay Z (m.n.length:Int)=⟨c,ks⟩:=by show Z.aj.getD (m.n.length:Int).toNat jZ=_;rw[a5g,zW g2 (by simp),gu]
   refine⟨u,.step (by omega) (by rw[en];exact u1),Qe hJ hd ?_ u2⟩;rw[JU (by rw[hJ.gl,qc hq]),a0A (by rw[hJ.gl];have:=qF.1;have:=qF.2;omega),a0y (by omega)];omega
  have hv2:PtV J.s J.o (m.e,m.n++[(⟨c,ks⟩:Br)]):=by
   have hg:∀i,i<(m.n++[(⟨c,ks⟩:Br)]).length->(i<m.n.length∧(m.n++[(⟨c,ks⟩:Br)]).getD i jZ=m.n.getD i jZ)∨(i=m.n.length∧(m.n++[(⟨c,ks⟩:Br)]).getD i jZ=⟨c,ks⟩):=fun i hi=>by
    simp only[a1w,a4n]at hi;rcases a4N i m.n.length with h|h
    .exact .inl ⟨h,by rw[JV,a0A h]⟩
    exact .inr ⟨by omega,by rw[show i=m.n.length by omega,gu]⟩
   refine⟨fun i hi=>?_,fun i hi=>?_,fun i hi k hk=>?_⟩
   .rcases hg i hi with⟨h1,h2⟩|⟨h1,h2⟩
    .show fK ((m.n++[_]).getD i jZ).var _;rw[h2];exact y5.v.var i h1
    show fK ((m.n++[_]).getD i jZ).var _;rw[h2];exact qF
   .rcases hg i hi with⟨h1,h2⟩|⟨h1,h2⟩
    .show(((m.n++[_]).getD i jZ).aA.length:Int)=J.s.getD ((m.n++[_]).getD i jZ).var.toNat 0;rw[h2];exact y5.v.ksz i h1
    show(((m.n++[_]).getD i jZ).aA.length:Int)=J.s.getD ((m.n++[_]).getD i jZ).var.toNat 0;rw[h2];show(ks.length:Int)=J.s.getD c.toNat 0;omega
   rcases hg i hi with⟨h1,h2⟩|⟨h1,h2⟩
   .have hk:k<((m.n++[(⟨c,ks⟩:Br)]).getD i jZ).aA.length:=hk;show Cc J.o _ (((m.n++[(⟨c,ks⟩:Br)]).getD i jZ).aA.getD k 0) i (J.o.idxOf ((m.n++[(⟨c,ks⟩:Br)]).getD i jZ).var+1);rw[h2]at hk ⊢;exact(y5.v.zT i h1 k hk).mono hp (a0K _) (a9H h1) (a0K _)
   have hk:k<((m.n++[(⟨c,ks⟩:Br)]).getD i jZ).aA.length:=hk;show Cc J.o _ (((m.n++[(⟨c,ks⟩:Br)]).getD i jZ).aA.getD k 0) i (J.o.idxOf ((m.n++[(⟨c,ks⟩:Br)]).getD i jZ).var+1);rw[h2]at hk ⊢;have hk:k<ks.length:=hk;subst h1;show Cc J.o _ (ks.getD k 0) m.n.length (J.o.idxOf c+1);rw[hci];exact(y7 k (by omega)).1.mono hp (a0K _) (a0K _) (a0K _)
  have y5:XOk J op m:=y5;have y6:∀e∈m.k,e∈x.k∨Dp J (a+1) e.1:=y6;refine⟨y2.trans hp,y3,?_,⟨hv2,fun e he=>?_,?_,y5.e,fun b hb=>?_⟩,⟨fun h=>?_,?_,?_⟩,a5C,fun e he=>?_,⟨by show _<=(m.n.length:Int);omega,by have y4:m.n.length+_<=x.n.length+_:=y4;show(m.n.length:Int)<_;omega⟩⟩
  .show(m.n++[_]).length+1<=_;rw[a1w,a4n];have y4:m.n.length+(J.s.getD c.toNat 0).toNat<=x.n.length+(J.s.getD c.toNat 0).toNat*wO J.s r:=y4;omega
  .rcases a3s.1 he with he|he
   .obtain⟨k1,k2,k3⟩:=y5.k e he;have aT:e.2.toNat<m.n.length:=by have:=k1.1;have:=k1.2;omega
    refine⟨⟨k1.1,?_⟩,?_,k3.mono hp⟩
    .have:=k1.2;show e.2<((m.n++[_]).length:Int);rw[a1w];omega
    show jV J.D e.1 ((m.n++[_]).getD e.2.toNat jZ).var=true;rw[JV,a0A aT];exact k2
   rw[a2O.1 he];refine⟨⟨by omega,by show(m.n.length:Int)<((m.n++[_]).length:Int);rw[a1w,a4n];omega⟩,?_,a5C⟩;show jV J.D t ((m.n++[_]).getD (m.n.length:Int).toNat jZ).var=true;rw[a5g,gu];exact Bg
  .rw[a4K];refine DW y5.nd fun h=>?_;obtain⟨e,he,e2⟩:=a0P.1 h;rcases y6 e he with h1|h1
   .exact hk (a0P.2 ⟨e,h1,e2⟩)
   rw[e2]at h1;exact a0i hJ hr Bg h1
  .have hb:b∈m.n++[(⟨c,ks⟩:Br)]:=hb;rcases a3s.1 hb with hb|hb
   .exact y5.w b hb
   rw[a2O.1 hb];exact y8
  .exact absurd h (by show ¬((m.n.length:Int)<0);omega)
  .show(m.n.length:Int)<((m.n++[_]).length:Int);rw[a1w,a4n];omega
  .show a<=EM J.o (m.n++[_]) (m.n.length:Int);unfold EM;rw[a0y (by omega),a5g,gu];show a<=J.o.idxOf c;omega
  rcases a3s.1 he with he|he
  .rcases y6 e he with h1|h1
   .exact .inl h1
   exact .inr (h1.le (by omega))
  rw[a2O.1 he];exact .inr hd
open Go Tw Pv bQ
def jX(J:Jb)(op:List V->V):Dg:=⟨J.s,J.o,(jC J op J.o (fA J.D) ⟨[],[],[]⟩).2.e,(jC J op J.o (fA J.D) ⟨[],[],[]⟩).2.n,(jC J op J.o (fA J.D) ⟨[],[],[]⟩).1⟩
def EO(J:Jb)(op:List V->V):Dg:=(zX (jX J op)).1
def JW(J:Jb)(op:List V->V):List V:=(List.range (vC J.s)).map fun(k:Nat)=>op (J.D.map fun d=>qE d (ov J.g (jo J.s k)))
theorem wE{D:List Dg}(hD:D.length<=3){k:Nat}(hk:k<D.length):(fA D).get k=(l9 D k).root:=by
 have:=bK (g:=fun k (y:S3)=>y.set k (l9 D k).root) (m:=D.length) (k:=0) (s:=⟨0,0,0⟩) (fun j y=>∀k,k<j->y.get k=(l9 D k).root) (fun k hk=>by omega) (fun j y _ hj hy k hk=>by
  rw[S3.jE (by omega) (by omega)];by_cases e:k=j
  .rw[a0A e,e]
  rw[a0y e];exact hy k (by omega))
 exact this k (by omega)
theorem al7{J:Jb}(hJ:jW J){q:LI0}(hq:iU J.s q=true):iU J.s (ov J.g q)=true:=by
 have hl:=qc hq;refine qg.2 ⟨by simp[ov,aes,hJ.gl,hl],fun k hk=>?_⟩;rw[JU (by rw[hJ.gl,hl]),a0A (by rw[hJ.gl];exact hk)];split
 .rename_i h;exact⟨h,hJ.gv (k:Int) (aH hk) h⟩
 exact(qg.1 hq).2 k hk
theorem a0j{J:Jb}(hJ:jW J){op:List V->V}(kD:sO J op):a4j J op 0 (wO J.s J.o) (fA J.D) ⟨[],[],[]⟩ (jC J op J.o (fA J.D) ⟨[],[],[]⟩):=by have hw:=DT hJ.bY.sz hJ.ord;have hm:=hJ.bY.many;refine TP hJ op kD J.o 0 (fA J.D) ⟨[],[],[]⟩ (aan) (a5m _) (fun k hk=>?_) ⟨⟨fun i hi=>(by simp at hi),fun i hi=>(by simp at hi),fun i hi=>(by simp at hi)⟩,fun e he=>(by cases he),a6f,fun v hv=>(by cases hv),fun b hb=>(by cases hb)⟩ (by show 0+wO J.s J.o<=_;omega) (by show 0+wO J.s J.o<=_;omega);rw[wE hJ.d3 hk];exact⟨(hJ.dg k hk).t.root,a5m _⟩
theorem Ey{J:Jb}(hJ:jW J){op:List V->V}(kD:sO J op):aX (jX J op)=0∧(jX J op).aJ.length<=2000∧∀v∈(jX J op).aJ,Fv v:=by have h:=a0j hJ kD;have hw:=DT hJ.bY.sz hJ.ord;have hm:=hJ.bY.many;have h1:(jX J op).aJ.length<=0+wO J.s J.o:=h.el;have h2:(jX J op).aj.length+1<=0+wO J.s J.o:=h.nl;refine⟨TL (by unfold au;omega) ?_ (fun v hv=>(h.ok.e v hv).1) (by omega) h.ok.v h.rf,by omega,h.ok.e⟩;have:bV J.s J.o=0:=jT.2 ⟨hJ.bY,hJ.ord⟩;show(bV J.s J.o != 0)=false;rw[this];rfl
theorem a8v{J:Jb}(hJ:jW J){op:List V->V}(kD:sO J op):Ij (jX J op):=by have h:=a0j hJ kD;exact⟨fun i hi k hk=>h.ok.w _ (XZ hi) _ (cu hk),h.w,fun v hv=>(h.ok.e v hv).2⟩
theorem Qg{J:Jb}(hJ:jW J){op:List V->V}(kD:sO J op):bF (jX J op)=(yY (jX J op),0)∧EO J op=ji J.s J.o (cellsD (jX J op)):=by
 obtain⟨h1,h2,h3⟩:=Ey hJ kD;have hr:=a8v hJ kD;have ho:=(jW.o2 hJ).2.1;have hl:=hJ.bY.len;have e:=JI hr (by unfold au;omega);rw[h1]at e;have hf:¬(bV (jX J op).ah (jX J op).aB != 0)=true:=by have:bV J.s J.o=0:=jT.2 ⟨hJ.bY,hJ.ord⟩;show ¬(bV J.s J.o != 0)=true;rw[this];simp
 rw[a0y hf]at e;refine⟨e,?_⟩;unfold EO zX;rw[e];show eY (jX J op)=_;exact(Qc h1 (by show J.o.length<=au;unfold au;omega) (by unfold au;omega)).1
theorem a4k{J:Jb}(hJ:jW J){op:List V->V}(kD:sO J op):cellsD (jX J op)=JW J op:=by
 obtain⟨h1,h2,h3⟩:=Ey hJ kD;have h:=a0j hJ kD;have ho:=(jW.o2 hJ).2.1;have hl:=hJ.bY.len;have ht:=(iF (d:=jX J op) (by show J.o.length<=au;unfold au;omega) (by unfold au;omega) (by rw[h1];rfl));unfold cellsD JW;refine a5d fun k _=>?_;have hq:iU J.s (jo J.s k)=true:=tY _ hJ.bY.sz;obtain⟨u,u1,l,l1,l2,rfl⟩:=h.sm (jX J op) (by omega) a4Z a4Z (jo J.s k) hq;have e1:=u1.at_ ht.1 hq 6001 (by have:=h.rf.2.1;have:=ht.2;show(jX J op).root<_;have e:(jX J op).aj.length=(jC J op J.o (fA J.D) ⟨[],[],[]⟩).2.n.length:=rfl;have e2:(jX J op).root=(jC J op J.o (fA J.D) ⟨[],[],[]⟩).1:=rfl;omega) ht.1.root;show qE (jX J op) (jo J.s k)=_;unfold qE;have e1:op l=(jX J op).aJ.getD (jI (atF (jX J op) (jo J.s k) 6001 (jX J op).root)).toNat V0:=e1;rw[<-e1];congr 1;refine(oM (d:=V0) (by rw[l1,a4R])).2 fun i hi=>?_;rw[l1]at hi;have hd:=hJ.dg i hi;have h5:=l2 i hi;rw[wE hJ.d3 hi]at h5;have hov:iU (l9 J.D i).ah (ov J.g (jo J.s k))=true:=by rw[hd.s];exact al7 hJ hq
 have h6:=h5.at_ hd.t hov 6001 (by have:=hd.t.root.1;have:=hd.n;omega) hd.t.root;rw[h6];simp[List.getD,a4T,a0d hi,qE,atR]
theorem mk_eq{J:Jb}(hJ:jW J){op:List V->V}(kD:sO J op):EO J op=ji J.s J.o (JW J op):=by rw[(Qg hJ kD).2,a4k hJ kD]
open Go Tw Pv bQ
def Bh(J:Jb)(c:Int):LI0:=if decide (J.g.getD c.toNat 0>=0)=true then [J.g.getD c.toNat 0]else(List.range (J.s.getD c.toNat 0).toNat).map fun(j:Nat)=>(j:Int)
def y9(J:Jb)(ψ:S3->Int):LI0->S3->Int
 | [],t=>ψ t
 |c::r,t=>bU (fun j=>y9 J ψ r (bJ J.D t c j)) (Bh J c)
theorem uS{α β:Type}[DecidableEq α][DecidableEq β](φ:β->Int)(f:α->β):∀l:List α,bU φ (l.map f)=bU (fun a=>φ (f a)) l
 | []=>rfl
 |a::l=>by simp only[a4L,bU,uS φ f l]
theorem jY{α:Type}[DecidableEq α]{φ φ':α->Int}:∀{l:List α},(∀a∈l,φ a=φ' a)->bU φ l=bU φ' l
 | [],_=>rfl
 |a::l,h=>by rw[bU,bU,h a (by simp),jY fun b hb=>h b (by simp[hb])]
theorem Ez{α β:Type}[DecidableEq α][DecidableEq β](φ:β->Int)(f:α->List β):∀l:List α,bU φ (l.flatMap f)=bU (fun a=>bU φ (f a)) l
 | []=>rfl
 |a::l=>by rw[agk,Du,bU,Ez φ f l]
theorem xJ{α:Type}[DecidableEq α](x:Int):∀l:List α,bU (fun _=>x) l=l.length*x
 | []=>by simp[bU]
 |a::l=>by rw[bU,xJ x l,a4M,Int.natCast_add,agC];omega
theorem S3.abn(s:S3)(k:Nat):s.set k (s.get k)=s:=by
 match k with
 | 0=>rfl
 | 1=>rfl
 |k+2=>rfl
theorem a8w{D:List Dg}{t:S3}{c:Int}(h:jV D t c=false)(g:Int):bJ D t c g=t:=by
 have hk:∀k,k<D.length->kZ (l9 D k) (t.get k) c=false:=fun k hk=>by
  cases e:kZ (l9 D k) (t.get k) c
  .rfl
  have:=DV.2 ⟨k,hk,e⟩;rw[h]at this;cases this
 exact bK (g:=fun k (y:S3)=>y.set k (LU (l9 D k) (y.get k) c g)) (m:=D.length) (k:=0) (s:=t) (fun _ y=>y=t) rfl (fun j y _ hj hy=>by subst hy;show y.set j (LU (l9 D j) (y.get j) c g)=y;unfold LU;rw[hk j (by omega),a0y (by simp)];exact S3.abn y j)
theorem a4l{J:Jb}{ψ:S3->Int}{c:Int}{r:LI0}{t:S3}(h:decide (J.g.getD c.toNat 0>=0)=true):y9 J ψ (c::r) t=y9 J ψ r (bJ J.D t c (J.g.getD c.toNat 0)):=by rw[y9,Bh,a0A h];simp[bU]
theorem agl{J:Jb}{ψ:S3->Int}{c:Int}{r:LI0}{t:S3}(h:¬decide (J.g.getD c.toNat 0>=0)=true)(ha:jV J.D t c=false):y9 J ψ (c::r) t=((J.s.getD c.toNat 0).toNat:Int)*y9 J ψ r t:=by rw[y9,Bh,a0y h,uS,jY (φ':=fun _=>y9 J ψ r t) (fun a _=>by rw[a8w ha]),xJ,a8Q]
theorem abo{J:Jb}{ψ:S3->Int}{c:Int}{r:LI0}{t:S3}(h:¬decide (J.g.getD c.toNat 0>=0)=true):y9 J ψ (c::r) t=bU (fun(j:Nat)=>y9 J ψ r (bJ J.D t c j)) (List.range (J.s.getD c.toNat 0).toNat):=by rw[y9,Bh,a0y h,uS]
def Ac(J:Jb):LI0->Nat
 | []=>1
 |c::r=>(Bh J c).length*Ac J r
theorem EC{J:Jb}:∀(r:LI0) (t:S3),y9 J (fun _=>1) r t=(Ac J r:Int)
 | [],_=>rfl
 |c::r,t=>by rw[y9,jY (φ':=fun _=>(Ac J r:Int)) (fun a _=>EC r _),xJ,Ac,aez]
section
variable {J:Jb} (hJ:jW J)
include hJ
theorem Yg{c:Int}(hc:fK c J.s.length){j:Int}:j∈Bh J c↔(0<=j∧j<J.s.getD c.toNat 0)∧(0<=J.g.getD c.toNat 0->J.g.getD c.toNat 0=j):=by
 unfold Bh;split
 .rename_i h;have h:J.g.getD c.toNat 0>=0:=by simpa using h
  have:=hJ.gv c hc h;rw[a2O];constructor
  .rintro rfl;exact⟨⟨h,this⟩,fun _=>rfl⟩
  exact fun h2=>(h2.2 h).symm
 rename_i h;have h:¬J.g.getD c.toNat 0>=0:=by simpa using h
 rw[a0P];constructor
 .rintro⟨k,h1,rfl⟩;rw[a4V]at h1;exact⟨⟨by omega,by omega⟩,fun h2=>absurd h2 h⟩
 rintro⟨h1,_⟩;exact⟨j.toNat,a4V.2 (by omega),by omega⟩
theorem a8x{c:Int}(hc:fK c J.s.length):1<=(Bh J c).length∧(Bh J c).length<=(J.s.getD c.toNat 0).toNat:=by
 have hz:=hJ.bY.sz _ (cu (s:=J.s) (k:=c.toNat) (by have:=hc.1;have:=hc.2;omega));unfold Bh;split
 .exact⟨a0K _,by show 1<=_;omega⟩
 rw[a4R,a8Q];exact⟨by omega,a0K _⟩
theorem JX:∀{r:LI0},(∀c∈r,fK c J.s.length)->1<=Ac J r∧Ac J r<=wO J.s r
 | [],_=>⟨a0K _,a0K _⟩
 |c::r,h=>by obtain⟨h1,h2⟩:=a8x hJ (h c (by simp));obtain⟨h3,h4⟩:=JX (r:=r) fun c hc=>h c (by simp[hc]);exact⟨ahD h1 h3,ahD h2 h4⟩
end
def plc(J:Jb):LI0->LI0->List LI0
 | [],q=>[q]
 |c::r,q=>(Bh J c).flatMap fun j=>plc J r (q.set c.toNat j)
def Vt(D:List Dg)(q:LI0):LI0->S3->S3
 | [],t=>t
 |c::r,t=>Vt D q r (bJ D t c (q.getD c.toNat 0))
theorem zY{q:LI0}{i k:Nat}{v:Int}:(q.set i v).getD k 0=if k=i∧i<q.length then v else q.getD k 0:=by
 simp only[List.getD,aa5];by_cases h:i=k
 .subst h;by_cases h2:i<q.length
  .simp[h2]
  simp[h2,a4J (show q.length<=i by omega)]
 rw[a0y (fun e:k=i∧i<q.length=>h e.1.symm)];simp[h]
theorem Nw{J:Jb}:∀{r q q':LI0},q'∈plc J r q->q'.length=q.length∧∀k,k∉r.map Int.toNat->q'.getD k 0=q.getD k 0
 | [],q,q',h=>by rw[plc,a2O]at h;subst h;exact⟨rfl,fun _ _=>rfl⟩
 |c::r,q,q',h=>by rw[plc,aeh]at h;obtain⟨j,_,h2⟩:=h;obtain⟨h3,h4⟩:=Nw h2;refine⟨by rw[h3,a4S],fun k hk=>?_⟩;rw[a4L,a1z,adV]at hk;rw[h4 k hk.2,zY,a0y (fun h=>hk.1 h.1)]
section
variable {J:Jb} {n:Nat}
structure a0k(n:Nat)(r:LI0):Prop where
 nd:r.Nodup
 mem:∀c∈r,fK c n
theorem a0k.tail{c:Int}{r:LI0}(h:a0k n (c::r)):a0k n r∧c.toNat∉r.map Int.toNat∧fK c n:=by
 have h1:=a4U.1 h.nd;have hc:=h.mem c (by simp);refine⟨⟨h1.2,fun c hc=>h.mem c (by simp[hc])⟩,fun h2=>?_,hc⟩;obtain⟨d,h3,h4⟩:=a0P.1 h2;have hd:=h.mem d (by simp[h3]);have:d=c:=by have:=hc.1;have:=hd.1;omega
 exact h1.1 (this▸h3)
theorem a2s(ψ:S3->Int):∀{r:LI0} (q:LI0) (t:S3),a0k q.length r->y9 J ψ r t=bU (fun q'=>ψ (Vt J.D q' r t)) (plc J r q)
 | [],q,t,_=>by simp[y9,plc,Vt,bU]
 |c::r,q,t,ho=>by obtain⟨h1,h2,h3⟩:=ho.tail;rw[y9,plc,Ez];refine jY fun j _=>?_;rw[a2s ψ (q.set c.toNat j) _ (by rw[a4S];exact h1)];refine jY fun q' hq=>?_;rw[Vt,(Nw hq).2 _ h2,zY,a0A ⟨rfl,by have:=h3.1;have:=h3.2;omega⟩]
theorem Vu:∀{r q q':LI0},a0k q.length r->(q'∈plc J r q↔q'.length=q.length∧(∀k,k∉r.map Int.toNat->q'.getD k 0=q.getD k 0)∧∀c∈r,q'.getD c.toNat 0∈Bh J c)
 | [],q,q',_=>by
  rw[plc,a2O];constructor
  .rintro rfl;exact⟨rfl,fun _ _=>rfl,fun _ h=>by cases h⟩
  rintro⟨h1,h2,_⟩;exact(oM (d:=0) h1).2 fun i _=>h2 i (by simp)
 |c::r,q,q',ho=>by
  obtain⟨h1,h2,h3⟩:=ho.tail;have hl:c.toNat<q.length:=by have:=h3.1;have:=h3.2;omega
  rw[plc,aeh];constructor
  .rintro⟨j,hj,h4⟩;obtain⟨h5,h6,h7⟩:=(Vu (by rw[a4S];exact h1)).1 h4;refine⟨by rw[h5,a4S],fun k hk=>?_,fun d hd=>?_⟩
   .rw[a4L,a1z,adV]at hk;rw[h6 k hk.2,zY,a0y (fun h=>hk.1 h.1)]
   rcases a1z.1 hd with rfl|hd
   .rw[h6 _ h2,zY,a0A ⟨rfl,hl⟩];exact hj
   exact h7 d hd
  rintro⟨h4,h5,h6⟩;refine⟨q'.getD c.toNat 0,h6 c (by simp),(Vu (by rw[a4S];exact h1)).2 ⟨by rw[a4S];exact h4,fun k hk=>?_,fun d hd=>h6 d (by simp[hd])⟩⟩;rw[zY];split
  .rename_i h;rw[h.1]
  rename_i h;exact h5 k (by rw[a4L,a1z,adV];exact⟨fun e=>h ⟨e,hl⟩,hk⟩)
theorem a0l(c:Int):(Bh J c).Nodup:=by
 unfold Bh;split
 .simp
 rw[List.Nodup,agw];exact List.nodup_range.imp fun h e=>h (by omega)
theorem TQ:∀{r q:LI0},a0k q.length r->(plc J r q).Nodup
 | [],q,_=>by simp[plc]
 |c::r,q,ho=>by
  obtain⟨h1,h2,h3⟩:=ho.tail;have hl:c.toNat<q.length:=by have:=h3.1;have:=h3.2;omega
  rw[plc,List.Nodup,List.pairwise_flatMap];refine⟨fun j _=>TQ (by rw[a4S];exact h1),(a0l (J:=J) c).imp fun{a b} hab x hx y hy e=>?_⟩;subst e;have e1:=(Nw hx).2 _ h2;have e2:=(Nw hy).2 _ h2;rw[zY,a0A ⟨rfl,hl⟩]at e1 e2;exact hab (e1.symm.trans e2)
end
def LV(J:Jb):List LI0:=((List.range (vC J.s)).map fun(k:Nat)=>jo J.s k).filter fun q=>decide (ov J.g q=q)
section
variable {J:Jb} (hJ:jW J)
include hJ
theorem Vw{q:LI0}(hq:q.length=J.s.length):ov J.g q=q↔∀k,k<J.s.length->0<=J.g.getD k 0->J.g.getD k 0=q.getD k 0:=by
 have hg:=hJ.gl;have hl:(ov J.g q).length=q.length:=by simp[ov,aes,hg,hq]
 rw[oM (d:=0) hl];constructor
 .intro h k hk h0;have:=h k (by rw[hl,hq];exact hk);rw[JU (by rw[hg,hq]),a0A (by rw[hg];exact hk),a0A h0]at this;exact this
 intro h k hk;rw[hl,hq]at hk;rw[JU (by rw[hg,hq]),a0A (by rw[hg];exact hk)];split
 .exact h k hk ‹_›
 rfl
theorem Vx{q:LI0}:q∈(List.range (vC J.s)).map (fun(k:Nat)=>jo J.s k)↔iU J.s q=true:=by
 have hc:(vC J.s:Int)=aY J.s:=by have:=iV hJ.bY.sz;unfold vC;omega
 constructor
 .intro h;obtain⟨k,_,rfl⟩:=a0P.1 h;exact tY _ hJ.bY.sz
 intro h;have:=zM h hJ.bY.sz;refine a0P.2 ⟨(gQ J.s q).toNat,a4V.2 (by omega),?_⟩;rw[show((gQ J.s q).toNat:Int)=gQ J.s q by omega];exact Nj h hJ.bY.sz
theorem a4m:((List.range (vC J.s)).map (fun(k:Nat)=>jo J.s k)).Nodup:=by
 have hc:(vC J.s:Int)=aY J.s:=by have:=iV hJ.bY.sz;unfold vC;omega
 rw[List.Nodup,agw];refine List.Pairwise.imp_of_mem (fun{a b} ha hb h e=>h ?_) aej;rw[a4V]at ha hb;have h1:=Nh hJ.bY.sz (n:=(a:Int)) (by omega) (by omega);have h2:=Nh hJ.bY.sz (n:=(b:Int)) (by omega) (by omega);have e:jo J.s (a:Int)=jo J.s (b:Int):=e;rw[e,h2]at h1;omega
theorem a8y:(plc J J.o (List.replicate J.s.length 0)).Perm (LV J):=by
 obtain⟨o1,o2,o3⟩:=jW.o2 hJ;have ho:a0k (List.replicate J.s.length (0:Int)).length J.o:=⟨o1,fun c hc=>by rw[a6B];exact o3 c hc⟩;unfold LV;refine(a7B (TQ ho) ((a4m hJ).filter _)).2 fun q=>?_;rw[Vu ho,a8T,Vx hJ,a0S,a6B];constructor
 .rintro⟨h1,h2,h3⟩;have key:∀k,k<J.s.length->(0<=q.getD k 0∧q.getD k 0<J.s.getD k 0)∧(0<=J.g.getD k 0->J.g.getD k 0=q.getD k 0):=fun k hk=>by have hc:fK (k:Int) J.s.length:=aH hk;have:=h3 k (lX hJ.ord hc);rw[Yg hJ hc]at this;exact this
  exact⟨qg.2 ⟨h1,fun k hk=>(key k hk).1⟩,(Vw hJ h1).2 fun k hk=>(key k hk).2⟩
 rintro⟨h1,h2⟩;have hl:=qc h1;refine⟨hl,fun k hk=>?_,fun c hc=>?_⟩
 .have KF:J.s.length<=k:=by refine acE fun aT=>hk ?_;exact a0P.2 ⟨(k:Int),lX hJ.ord (aH aT),by simp⟩
  simp[List.getD,a4J (show q.length<=k by omega),a4J (show(List.replicate J.s.length (0:Int)).length<=k by simp;omega)]
 have qF:=o3 c hc;have aT:c.toNat<J.s.length:=by have:=qF.1;have:=qF.2;omega
 rw[Yg hJ qF];exact⟨(qg.1 h1).2 _ aT,(Vw hJ hl).1 h2 _ aT⟩
theorem TR{q:LI0}(hq:iU J.s q=true):∀(r:LI0) (a:Nat) (t:S3),J.o.drop a=r->a<=J.o.length->Dp J a t->Dp J J.o.length (Vt J.D q r t)∧∀k,k<J.D.length->∀v,To (l9 J.D k) q ((Vt J.D q r t).get k) v->To (l9 J.D k) q (t.get k) v
 | [],a,t,hr,ha,hd=>by
  have:a=J.o.length:=by have:=congrArg List.length hr;rw[a3U,a5r]at this;omega
  subst this;exact⟨hd,fun _ _ _ h=>h⟩
 |c::r,a,t,hr,ha,hd=>by
  obtain⟨aT,hoc,wR,G9,hci,qF⟩:=jW.at_ hJ hr;have YH:=(qg.1 hq).2 c.toNat (by have:=qF.1;have:=qF.2;omega);obtain⟨h1,h2⟩:=TR hq r (a+1) _ wR aT (ng hJ hr hd YH);refine⟨h1,fun k hk v h=>?_⟩;have h4:=h2 k hk v h;rw[JO hJ.d3 t c _ hk]at h4;unfold LU at h4;split at h4
  .rename_i h5;obtain⟨h6,h7,_⟩:=Iy hJ hd hk h5;refine .step h6.1 ?_;rw[h7];exact h4
  exact h4
theorem Yh:Dp J 0 (fA J.D):=fun k hk=>by rw[wE hJ.d3 hk];exact⟨(hJ.dg k hk).t.root,a5m _⟩
theorem agm{q:LI0}(hq:iU J.s q=true):aV J.D (Vt J.D q J.o (fA J.D))=J.D.map fun d=>qE d q:=by
 obtain⟨h1,h2⟩:=TR hJ hq J.o 0 (fA J.D) aan (a5m _) (Yh hJ);unfold aV;refine(oM (d:=V0) (by simp)).2 fun k hk=>?_;rw[a4R,a8Q]at hk;have hd:=hJ.dg k hk;have h3:=JR hJ h1 hk;have h4:=h2 k hk _ (.fin h3.1);rw[wE hJ.d3 hk]at h4;have h6:=h4.at_ hd.t (by rw[hd.s];exact hq) 6001 (by have:=hd.t.root.1;have:=hd.n;omega) hd.t.root;have e1:((List.range J.D.length).map fun k=>qj (l9 J.D k) ((Vt J.D q J.o (fA J.D)).get k)).getD k V0=qj (l9 J.D k) ((Vt J.D q J.o (fA J.D)).get k):=by simp[List.getD,hk]
 have e2:(J.D.map fun d=>qE d q).getD k V0=qE (l9 J.D k) q:=by simp[List.getD,hk]
 rw[e1,e2];exact h6
theorem abp(ψ:List V->Int):y9 J (fun t=>ψ (aV J.D t)) J.o (fA J.D)=bU (fun q=>ψ (J.D.map fun d=>qE d q)) (LV J):=by obtain⟨o1,o2,o3⟩:=jW.o2 hJ;rw[a2s _ (List.replicate J.s.length 0) _ ⟨o1,fun c hc=>by rw[a6B];exact o3 c hc⟩,Jt _ (a8y hJ)];refine jY fun q hq=>?_;unfold LV at hq;rw[a8T,Vx hJ]at hq;rw[agm hJ hq.1]
end
end Go.Proofs.YtmobpoiejckagaaGreat
namespace Pv
open Go Tw
section
variable {X:kX} {P:LI1} {kt:LI2} {α:Type} [DecidableEq α] (C:oN X P kt α)
theorem oN.al8{l:List (α×PV X.Γ)}{x:α}{v:PV X.Γ}{j:Nat}(hb:Instr.sameBits 10000 (C.v x) (C.v x)=true)(hn:(l.map (·.1)).Nodup)(h:l[j]? = some (x,v)):a6p X P kt (C.es l) (C.tv x) (C.pv x) v j:=by
 obtain⟨hj,e⟩:=a08.1 h;have hxj:(l.map (·.1))[j]? = some x:=by simp[a0d hj,e]
 refine⟨C.v x,_,C.tv x,C.v x,C.ht x,C.hc false x,C.pk l,?_,?_,?_,C.ht x,hb⟩
 .have hu:∀(i:Nat) y,(l.map (·.1))[i]? = some y->decide (x=y)=(some i==some j):=fun i y hy=>by
   rw[a5c];simp only[a0S,a7h,a07];constructor
   .rintro rfl;have i1:=a08.1 hy;have i2:=a08.1 hxj;exact(aal hn (h₀:=i1.1) (h₁:=i2.1)).1 (i1.2.trans i2.2.symm)
   rintro rfl;rw[hxj]at hy;exact a9A hy
  refine C.find x _ (some j) ?_ hu;rw[aac];refine⟨by simpa using hj,by simp[e],fun i hi=>?_⟩;have hil:i<(l.map (·.1)).length:=by simp;omega
  rw[hu i _ (a0d hil)];simp;omega
 .simp[oN.es,a0d hj,e]
 simp[a0d hj,e]
theorem oN.newP{l:List (α×PV X.Γ)}{x:α}{v:PV X.Γ}(h:x∉l.map (·.1)):aeL X P kt (C.es (l++[(x,v)])) (C.tv x) l.length:=by
 refine⟨C.v x,_,C.ht x,C.pk _,?_⟩;have hu:∀(i:Nat) y,((l++[(x,v)]).map (·.1))[i]? = some y->decide (x=y)=(some i==some l.length):=fun i y hy=>by
  rw[a4K]at hy;rcases a4N i l.length with hi|hi
  .rw[a0m (by simpa using hi)]at hy;have:¬x=y:=fun e=>h (e▸a4Y hy);rw[aeF this];have:¬i=l.length:=(by omega);simp[this]
  rw[a0L (by simpa using hi)]at hy;have Lr:i=l.length:=by have:=(a08.1 hy).1;simp at this;omega
  subst Lr;simp at hy;subst hy;simp
 refine C.find x _ (some l.length) ?_ hu;rw[aac];refine⟨by simp,by simp,fun i hi=>?_⟩;have hil:i<((l++[(x,v)]).map (·.1)).length:=by simp;omega
 rw[hu i _ (a0d hil)];simp;omega
abbrev oN.im(m:List (α×Int)):List (PV X.Γ×PV X.Γ):=C.es (m.map fun e=>(e.1,.int .i64 e.2))
theorem oN.pK(m:List (α×Int)):(C.im m).length=m.length:=by simp[oN.im,oN.es]
theorem oN.Bj(m:List (α×Int))(j:Nat):(C.im m)[j]? = (m[j]?).map fun e=>(C.pv e.1,.int .i64 e.2):=by simp[oN.im,oN.es,a4T];rfl
theorem zZ{Y:kX}(m:List (α×Int)):((m.map fun e=>(e.1,(PV.int .i64 e.2:PV Y.Γ))).map (·.1))=m.map (·.1):=by simp
theorem agn{m:List (α×Int)}{j:Nat}{f:Int->Int}{v:Int}(h:∀e,m[j]? = some e->f e.2=v):Ji (C.im m) j (.int .i64 v)=C.im (m.modify j fun e=>(e.1,f e.2)):=by
 unfold Ji;refine aa6 fun i=>?_;rw[aei,C.Bj,C.Bj,aei];by_cases e:j=i
 .subst e;cases h2:m[j]? with
  |none=>simp[h2]
  |some x=>simp[h2,h x h2]
 simp[e]
theorem agp{m:List (α×Int)}{x:α}{z v:Int}:Ji (C.im m++[(C.pv x,.int .i64 z)]) (C.im m).length (.int .i64 v)=C.im (m++[(x,v)]):=by
 have:C.im (m++[(x,v)])=C.im m++[(C.pv x,.int .i64 v)]:=by simp[oN.im,oN.es]
 rw[this];unfold Ji;generalize C.im m=l;refine aa6 fun i=>?_;rw[aei];rcases Nat.lt_trichotomy i l.length with h|h|h
 .rw[a0m h,a0m h];simp[show ¬l.length=i by omega]
 .subst h;simp
 rw[a4J (by simp;omega),a4J (by simp;omega)];rfl
theorem oN.Vy{m:List (α×Int)}{k:α}{n:Int}(hb:Instr.sameBits 10000 (C.v k) (C.v k)=true)(hn:(m.map (·.1)).Nodup)(h:k∈m.map (·.1))(hw:∀e∈m,i64.wrap (e.2+n)=e.2+n) :
  ∃j old,qB X P kt (C.im m) (C.tv k) (.int .i64 old)∧a6p X P kt (C.im m) (C.tv k) (C.pv k) (.int .i64 old) j∧j<(C.im m).length∧Ji (C.im m) j (.int .i64 (i64.wrap (old+n)))=C.im (bQ.sG m k n):=by
 have aT:=a5b.2 h;have a6z:(m.map (·.1)).idxOf k<m.length:=by simpa using aT
 have hk:m[(m.map (·.1)).idxOf k]? = some (k,m[(m.map (·.1)).idxOf k].2):=by rw[a0d a6z];have:=a90 aT;rw[a9v]at this;exact congrArg some (ado this rfl)
 have a2Q:(k,m[(m.map (·.1)).idxOf k].2)∈m:=a4Y hk;refine⟨(m.map (·.1)).idxOf k,m[(m.map (·.1)).idxOf k].2,C.found (by rw[zZ];exact hn) (a0P.2 ⟨_,a2Q,rfl⟩),C.al8 hb (by rw[zZ];exact hn) (by rw[a4T,hk];rfl),by rw[C.pK];exact a6z,?_⟩;rw[hw _ a2Q];unfold bQ.sG;rw[a0A h];exact agn C (f:=fun x=>x+n) fun e he=>by rw[hk]at he;cases he;rfl
theorem oN.Vz{m:List (α×Int)}{k:α}{n:Int}(h:k∉m.map (·.1))(hw:i64.wrap (0+n)=n) :
  nU X P kt (C.im m) (C.tv k)∧aeL X P kt (C.im m++[(C.pv k,(PV.int .i64 0:PV X.Γ))]) (C.tv k) (C.im m).length∧(C.im m).length<(C.im m++[(C.pv k,(PV.int .i64 0:PV X.Γ))]).length∧Ji (C.im m++[(C.pv k,.int .i64 0)]) (C.im m).length (.int .i64 (i64.wrap (0+n)))=C.im (bQ.sG m k n):=by
 refine⟨C.fresh (by rw[zZ];exact h),?_,by simp,?_⟩
 .have:=C.newP (l:=m.map fun e=>(e.1,(PV.int .i64 e.2:PV X.Γ))) (x:=k) (v:=.int .i64 0) (by rw[zZ];exact h);rw[C.pK];simpa[oN.im,oN.es]using this
 rw[hw,agp];unfold bQ.sG;rw[a0y h]
end
end Pv
namespace Go.Proofs.YtmobpoiejckagaaGreat
open Go Tw Pv bQ
abbrev wSk(H:List (PB aG))(s:S3)(r:Int)(x:List (Nat×PE aG)):aU aG:=⟨[(1,xi r),(2,.val (.ptr 2 0 5)),(3,.val (.ptr 1 0 5)),(4,.val (.ptr 3 0 1)),(5,.val (.ptr 4 0 1)),(6,.loc 0 0)]++x,[s.ps],H⟩
def QM(D:List Dg)(t:S3):LI0->Nat
 | []=>0
 |c::r=>if jV D t c=true then 0 else QM D t r+1
def QN(J:Jb)(t:S3)(i:Int):Int⊕Int:=if decide (i<(J.o.length:Int))=true then(if(!(jV J.D t (J.o.getD i.toNat 0)))=true then .inl (i64.wrap (i+1))else .inr i)else .inr i
theorem a8z{J:Jb}(hJ:jW J)(t:S3):∀(r:LI0) (a:Nat),J.o.drop a=r->a<=J.o.length->itF (QN J t) (r.length+1) (a:Int)=some ((a+QM J.D t r:Nat):Int)
 | [],a,hr,ha=>by
  have:a=J.o.length:=by have:=congrArg List.length hr;rw[a3U,a5r]at this;omega
  have e:QN J t (a:Int)=.inr (a:Int):=by unfold QN;rw[a0y (by simp;omega)]
  rw[a5r,itF,e];rfl
 |c::r,a,hr,ha=>by
  obtain⟨aT,hoc,wR,_⟩:=jW.at_ hJ hr;have hl:=hJ.bY.len;have Ry:=(jW.o2 hJ).2.1;have e:QN J t (a:Int)=if(!(jV J.D t c))=true then .inl (i64.wrap ((a:Int)+1))else .inr (a:Int):=by unfold QN;rw[a0A (by simp;omega),a5g,hoc]
  rw[a4M,itF,e];cases h:jV J.D t c
  .simp only[aaW,a1P];have ew:i64.wrap ((a:Int)+1)=((a+1:Nat):Int):=by rw[fQ (by omega) (by omega)];omega
   have:=a8z hJ t r (a+1) wR aT;simp only[ew,QM,h];rw[this];simp;omega
  simp[QM,h]
theorem aq8{M f:Nat}{J:Jb}(hJ:jW J){t:S3}{x:Mk}(r:LI0){a:Nat}(hr:J.o.drop a=r)(ha:a<=J.o.length)(hd:Dp J a t):Nr (M+1) 126 0 7 (wSk (HM0 J f x) t a []) (.exit 0) (wSk (HM0 J f x) t ((a+QM J.D t r:Nat):Int) [(32,xl false)]):=by
 have QA:=a8z hJ t r a hr ha;have Ry:=(jW.o2 hJ).2.1;have hl:=hJ.bY.len;refine a06 (st:=fun i=>wSk (HM0 J f x) t i []) (g:=QN J t) (out:=fun i=>(.exit 0,wSk (HM0 J f x) t i [(32,xl false)])) (fun i=>0<=i∧i<=J.o.length) QA (by kernel_rfl) (by have:=congrArg List.length hr;rw[a3U]at this;unfold LL;omega) ⟨by omega,by omega⟩ ?_ ?_
 .intro i i1 hi e;unfold QN at e;split at e
  .rename_i c;have c:i<(J.o.length:Int):=(by simpa using c);split at e
   .cases e;rw[fQ (by omega) (by omega)];omega
   cases e
  cases e
 intro i m i' hi ih;have hs:=a8q (M:=M) (f:=f) (a:=[]) (cc:=[]) (H:=[]) J t (J.o.getD i.toNat 0) hJ.d3 (fun k hk h=>⟨by simpa using h,(hd k hk).1.1⟩);by_cases c:i<(J.o.length:Int)
 .have t1:decide (i<(J.o.length:Int))=true:=by simpa using c
  have i1:fK i J.o.length:=⟨hi.1,c⟩;cases hq:jV J.D t (J.o.getD i.toNat 0)
  .have e:QN J t i=.inl (i64.wrap (i+1)):=by unfold QN;rw[a0A t1,hq];rfl
   rw[hq]at hs;have g:=ih _ e;rw[e];exact aN gJ (.b t1 (.o i1 (.fr [] hs (.b (rfl:(!false)=true) (.go g)))))
  have e:QN J t i=.inr i:=by unfold QN;rw[a0A t1,hq];rfl
  rw[hq]at hs;rw[e];dsimp only[Dl];exact aN gJ (.b t1 (.o i1 (.fr [] hs (.b (rfl:(!true)=false) .ex))))
 have t1:decide (i<(J.o.length:Int))=false:=by simpa using c
 have e:QN J t i=.inr i:=by unfold QN;rw[a0y (by rw[t1];simp)]
 rw[e];dsimp only[Dl];exact aN gJ (.b t1 .ex)
theorem aq9{M f:Nat}(u:Int){J:Jb}(hJ:jW J){t:S3}{x:Mk}(r:LI0){a:Nat}(hr:J.o.drop a=r)(ha:a<=J.o.length)(hd:Dp J a t):Nr (M+1) 126 0 8 (wSk (HM1 J f u x) t a []) (.exit 0) (wSk (HM1 J f u x) t ((a+QM J.D t r:Nat):Int) [(32,xl false)]):=by
 have QA:=a8z hJ t r a hr ha;have Ry:=(jW.o2 hJ).2.1;have hl:=hJ.bY.len;refine a06 (st:=fun i=>wSk (HM1 J f u x) t i []) (g:=QN J t) (out:=fun i=>(.exit 0,wSk (HM1 J f u x) t i [(32,xl false)])) (fun i=>0<=i∧i<=J.o.length) QA (by kernel_rfl) (by have:=congrArg List.length hr;rw[a3U]at this;unfold LL;omega) ⟨by omega,by omega⟩ ?_ ?_
 .intro i i1 hi e;unfold QN at e;split at e
  .rename_i c;have c:i<(J.o.length:Int):=(by simpa using c);split at e
   .cases e;rw[fQ (by omega) (by omega)];omega
   cases e
  cases e
 intro i m i' hi ih;have hs:=a8q (M:=M) (f:=f) (a:=[]) (cc:=[.ptr 0 0 1]) (H:=[.aF [.int .u8 u]]) J t (J.o.getD i.toNat 0) hJ.d3 (fun k hk h=>⟨by simpa using h,(hd k hk).1.1⟩);by_cases c:i<(J.o.length:Int)
 .have t1:decide (i<(J.o.length:Int))=true:=by simpa using c
  have i1:fK i J.o.length:=⟨hi.1,c⟩;cases hq:jV J.D t (J.o.getD i.toNat 0)
  .have e:QN J t i=.inl (i64.wrap (i+1)):=by unfold QN;rw[a0A t1,hq];rfl
   rw[hq]at hs;have g:=ih _ e;rw[e];exact aN gJ (.b t1 (.o i1 (.fr [5] hs (.b (rfl:(!false)=true) (.go g)))))
  have e:QN J t i=.inr i:=by unfold QN;rw[a0A t1,hq];rfl
  rw[hq]at hs;rw[e];dsimp only[Dl];exact aN gJ (.b t1 (.o i1 (.fr [5] hs (.b (rfl:(!true)=false) .ex))))
 have t1:decide (i<(J.o.length:Int))=false:=by simpa using c
 have e:QN J t i=.inr i:=by unfold QN;rw[a0y (by rw[t1];simp)]
 rw[e];dsimp only[Dl];exact aN gJ (.b t1 .ex)
open Go Tw Pv bQ
theorem VA{J:Jb}(hJ:jW J){op:List V->V}{x:Mk}:∀(r:LI0) (a:Nat) (t:S3),J.o.drop a=r->a<=J.o.length->Dp J a t->jC J op r t x=jC J op (r.drop (QM J.D t r)) t x∧a+QM J.D t r<=J.o.length∧Dp J (a+QM J.D t r) t∧∀c r',r.drop (QM J.D t r)=c::r'->jV J.D t c=true
 | [],a,t,hr,ha,hd=>⟨rfl,ha,hd,fun _ _ h=>by cases h⟩
 |c::r,a,t,hr,ha,hd=>by
  obtain⟨aT,hoc,wR,_⟩:=jW.at_ hJ hr;cases h:jV J.D t c
  .obtain⟨q1,q2,q3,q4⟩:=VA hJ (op:=op) (x:=x) r (a+1) t wR aT (Vq hJ hr hd h);have e:QM J.D t (c::r)=QM J.D t r+1:=(by simp[QM,h]);rw[e];refine⟨?_,by omega,by rw[show a+(QM J.D t r+1)=a+1+QM J.D t r by omega];exact q3,q4⟩;rw[List.drop_succ_cons,<-q1]
   conv=>lhs;unfold jC
   rw[a0y (by rw[h];simp)]
  have e:QM J.D t (c::r)=0:=by simp[QM,h]
  rw[e];exact⟨rfl,ha,hd,fun c' r' h2=>by cases h2;exact h⟩
theorem VB{J:Jb}(hJ:jW J):∀(r:LI0) (n:Nat),(∀c∈r,fK c J.s.length)->wO J.s (r.drop n)<=wO J.s r
 | [],n,_=>by simp
 |c::r,0,_=>a0K _
 |c::r,n+1,h=>by have h1:=VB hJ r n fun c hc=>h c (by simp[hc]);have hi:=h c (by simp);have hz:=hJ.bY.sz _ (cu (s:=J.s) (k:=c.toNat) (by have:=hi.1;have:=hi.2;omega));have:wO J.s r<=(J.s.getD c.toNat 0).toNat*wO J.s r:=ae7 _ (by omega);rw[List.drop_succ_cons];simp only[wO];omega
abbrev abq(J:Jb)(f:Nat)(t:S3)(c:Int)(a:Int)(m:Mk)(ks:LI0)(i:Int)(y:List (Nat×PE aG)):aU aG:=⟨[(1,xi a),(2,.val (.ptr 2 0 5)),(3,.val (.ptr 1 0 5)),(4,.val (.ptr 3 0 1)),(5,.val (.ptr 4 0 1)),(6,.loc 0 0),(9,xi c),(13,.loc 1 0),(93,xi (J.s.getD c.toNat 0)),(94,xi i)]++y,[t.ps,[.int .i64 c,.own 9]],abk J f m++[oI false false ks]⟩
theorem aqa{M f:Nat}{J:Jb}(hJ:jW J){op:List V->V}{r:LI0}{t:S3}{c a:Int}(x:Mk)(hc:fK c J.s.length)(Q:Nat->Mk->Prop)(h0:Q 0 x)(hq:∀j y,j<(J.s.getD c.toNat 0).toNat->Q j y->Q (j+1) (jC J op r (bJ J.D t c j) y).2)
  (hk:∀j:Nat,j<(J.s.getD c.toNat 0).toNat->∀k,k<J.D.length->a2o (l9 J.D k) (t.get k) c j)
  (hf:∀(j:Nat) y,j<(J.s.getD c.toNat 0).toNat->Q j y->dG X0 Qp (iE (M+1)) (.fn 126 [] pM) [.agg (bJ J.D t c j).ps,.int .i64 (i64.wrap (a+1))] (HM0 J f y) (.int .i64 (jC J op r (bJ J.D t c j) y).1) (abk J f (jC J op r (bJ J.D t c j) y).2)) :
  Nr (M+1) 126 1 7 (abq J f t c a x [] 0 []) (.exit 2) (abq J f t c a (aO (Vp J.D (jC J op r) t c) (J.s.getD c.toNat 0).toNat 0 ([],x)).2 (aO (Vp J.D (jC J op r) t c) (J.s.getD c.toNat 0).toNat 0 ([],x)).1 (((J.s.getD c.toNat 0).toNat:Nat):Int) [(95,xl false)]):=by
 have hz:=hJ.bY.sz _ (cu (s:=J.s) (k:=c.toNat) (by have:=hc.1;have:=hc.2;omega));refine vS (σ:=LI0×Mk) (N:=(J.s.getD c.toNat 0).toNat) (g:=Vp J.D (jC J op r) t c) (s0:=([],x)) (st:=fun i y=>abq J f t c a y.2 y.1 i []) (fin:=fun y=>abq J f t c a y.2 y.1 (((J.s.getD c.toNat 0).toNat:Nat):Int) [(95,xl false)]) (fun j y=>y.1.length=j∧Q j y.2) (by kernel_rfl) (by unfold au;omega) ⟨rfl,h0⟩ (fun j y hj hy=>⟨by simp[Vp,hy.1],hq j y.2 hj hy.2⟩) (fun j y hj hy m e p g=>?_) (fun y _=>?_)
 .have h1:=hf j y.2 hj hy.2;have ha:=JM (M:=M) (f:=f) (a:=[]) (cc:=[]) (H:=[]) J t c j hJ.d3 (hk j hj);have t1:decide ((j:Int)<J.s.getD c.toNat 0)=true:=by rw[a0S];omega
  have h3:=hy.1;unfold Vp at g;generalize jC J op r (bJ J.D t c j) y.2=z at h1 g;obtain⟨v,z⟩:=z;exact aN gJ (.b t1 (.fr [] ha (.fr [0,1,2,3,4,7,8] h1 (.o (show y.1.length+[v].length<=au by simp only[a4n];unfold au;omega) (.goG [.gc [10,11,13]] g)))))
 .have t1:decide ((((J.s.getD c.toNat 0).toNat:Nat):Int)<J.s.getD c.toNat 0)=false:=by rw[a3b];omega
  exact aN gJ (.b t1 .ex)
open Go Tw Pv bQ
theorem Yi{k:List (S3×Int)}{t:S3}(hn:(k.map (·.1)).Nodup)(h:t∈k.map (·.1)):qB X0 Qp 148 (Iw k) (.agg [.int .i64 t.a,.int .i64 t.b,.int .i64 t.c]) (.int .i64 (knS k t)):=by
 refine kS.found (x:=t) (by rw[a5D];exact hn) ?_;obtain⟨e,he,rfl⟩:=a0P.1 h;refine a0P.2 ⟨e,he,?_⟩;have:knS k e.1=e.2:=by
  have:k.find? (fun y=>decide (y.1=e.1))=some e:=by
   clear h
   induction k with
   |nil=>cases he
   |cons y l ih=>
    rw[a4L,a4U]at hn;rw[ahx];rcases a1z.1 he with rfl|he
    .simp
    have:¬y.1=e.1:=fun h=>hn.1 (a0P.2 ⟨e,he,h.symm⟩);rw[aeF this];exact ih hn.2 he
  unfold knS;rw[this];rfl
 rw[this]
abbrev agq(J:Jb)(op:List V->V)(f:Nat)(m:Nat)(r:LI0):Prop:=∀(a:Nat) (t:S3) (x:Mk),J.o.drop a=r->a<=J.o.length->Dp J a t->XOk J op x->x.e.length+wO J.s r<=au->x.n.length+wO J.s r<=au ->
  dG X0 Qp (iE m) (.fn 126 [] pM) [.agg t.ps,.int .i64 (a:Int)] (HM0 J f x) (.int .i64 (jC J op r t x).1) (abk J f (jC J op r t x).2)
abbrev agr(J:Jb)(f:Nat)(x:Mk)(v:V):List (PB aG):=[.map (Iw x.k),.cells [lI J.s,lI J.o,.own 8,.own 6,.int .i64 0],.aF (J.ps (.fn f [] [])),.aF [.fn 126 [] pM],.aF [.map 0],.gone,Qs x.n,.list true true 39 [v],Qr (x.e++[v])]
abbrev al9(J:Jb)(f:Nat)(x:Mk)(t:S3)(b:Br):List (PB aG):=[.map (Iw x.k++[(.agg t.ps,.int .i64 (x.n.length:Int))]),.cells [lI J.s,lI J.o,.own 7,.own 11,.int .i64 0],.aF (J.ps (.fn f [] [])),.aF [.fn 126 [] pM],.aF [.map 0],.gone,.gone,Qr x.e,.gone,.gone,.list true true 105 [b],Qs (x.n++[b])]
theorem adX{N f:Nat}{J:Jb}(hJ:jW J){op:List V->V}(kD:sO J op)(hs:∀l:List V,l.length=J.D.length->dG X0 Qp (iE (N+1)) (.fn f [] []) [lV l] [] (.agg (op l).ps) [])(r:LI0)(rec:∀c r',c::r' <:+ r->agq J op f (N+1) r'):agq J op f (N+2) r:=by
 intro a t x hr ha hd hx CS yw;unfold au at CS yw;have Ry:=(jW.o2 hJ).2.1;have hl6:=hJ.bY.len;have lsk:=aq8 (M:=N) (f:=f) hJ (x:=x) r hr ha hd;obtain⟨q1,q2,q3,q4⟩:=VA hJ (op:=op) (x:=x) r a t hr ha hd;have hw:=VB hJ r (QM J.D t r) (fun c hc=>(jW.o2 hJ).2.2 c (a5L (by rw[hr];exact hc)));rw[q1];generalize QM J.D t r=n at lsk q1 q2 q3 q4 hw;have GH:J.o.drop (a+n)=r.drop n:=by rw[<-hr,afR]
 have a8A:r.drop n <:+ r:=List.drop_suffix _ _;have H6:=congrArg List.length GH;rw[a3U]at H6;clear q1 hr;generalize a+n=i at lsk q2 q3 GH H6;generalize r.drop n=r0 at q4 hw GH a8A H6;cases r0 with
 |nil=>
  have e0:i=J.o.length:=by rw[a5r]at H6;omega
  have t0:((i:Int)==(J.o.length:Int))=true:=by rw[e0];simp
  rw[e0]at q3;have pV:(aV J.D t).length=J.D.length:=by simp[aV]
  have hce:=a2p (M:=N) (f:=f) J t hJ.d3 (fun k hk=>(JR hJ q3 hk).2);have hv:=hs (aV J.D t) pV;simp only[wO]at hw;have hb:x.e.length+[op (aV J.D t)].length<=au:=by simp only[a4n];unfold au;omega
  have h1:dG X0 Qp (iE (N+2)) (.fn 126 [] pM) [.agg t.ps,.int .i64 (a:Int)] (HM0 J f x) (.int .i64 (i64.wrap (0-((x.e++[op (aV J.D t)]).length:Int)))) (agr J f x (op (aV J.D t))):=
   fH gJ (first:=[]) (cap:=pM) (.w lsk (.b t0 (.fr [] hce (.fr [] hv (.o hb .er)))))
  exact dG.gs hX h1 [.mv 6,.gc [8,9]] (by kernel_rfl)
 |cons c r'=>
  have t0:((i:Int)==(J.o.length:Int))=false:=by rw[a4M]at H6;simp;omega
  obtain⟨aT,hoc,wR,G9,hci,qF⟩:=jW.at_ hJ GH;have Bg:=q4 c r' rfl;have rc:=rec c r' a8A;have ia:fK (i:Int) J.o.length:=⟨by omega,by omega⟩;have JY:J.o.getD (i:Int).toNat 0=c:=by rw[a5g];exact hoc
  have ig:fK (J.o.getD (i:Int).toNat 0) J.g.length:=by rw[JY,hJ.gl];exact qF
  have hz:=hJ.bY.sz _ (cu (s:=J.s) (k:=c.toNat) (by have:=qF.1;have:=qF.2;omega));have hri:∀c'∈r',fK c' J.s.length:=fun c' h=>(jW.o2 hJ).2.2 c' (by rw[<-wR]at h;exact a5L h);have hw0:=Vm hJ.bY.sz hri;have hw1:wO J.s r'<=(J.s.getD c.toNat 0).toNat*wO J.s r':=ae7 _ (by omega);have ew:i64.wrap ((i:Int)+1)=((i+1:Nat):Int):=by rw[fQ (by omega) (by omega)];omega
  simp only[wO]at hw;unfold jC;rw[a0A Bg];cases tg:decide (J.g.getD c.toNat 0>=0)
  .rw[a0y (by simp)];have tg':decide (J.g.getD (J.o.getD (i:Int).toNat 0).toNat 0>=0)=false:=by rw[JY];exact tg
   by_cases hk:t∈x.k.map (·.1)
   .rw[a0A hk];have hF:qB X0 Qp 148 (Iw x.k) (.agg [.int .i64 t.a,.int .i64 t.b,.int .i64 t.c]) (.int .i64 (knS x.k t)):=Yi hx.nd hk;have h1:dG X0 Qp (iE (N+2)) (.fn 126 [] pM) [.agg t.ps,.int .i64 (a:Int)] (HM0 J f x) (.int .i64 (knS x.k t)) (HM0 J f x):=
     fH gJ (first:=[]) (cap:=pM) (.w lsk (.b t0 (.o ia (.o ig (.b tg' (.c (.int .i64 (knS x.k t)) [] hF (.b (rfl:true=true) .er)))))))
    exact dG.gs hX h1 [.mv 5,.mv 6] (by kernel_rfl)
   rw[a0y hk];have hm2:=Vr hJ GH q3 Bg;have hF:nU X0 Qp 148 (Iw x.k) (.agg [.int .i64 t.a,.int .i64 t.b,.int .i64 t.c]):=kS.fresh (x:=t) (by simpa using hk);have is:fK (J.o.getD (i:Int).toNat 0) J.s.length:=by rw[JY];exact qF
   have YJ:∀j,j<(J.s.getD c.toNat 0).toNat->j*wO J.s r'+wO J.s r'<=(J.s.getD c.toNat 0).toNat*wO J.s r':=fun j hj=>by have:(j+1)*wO J.s r'<=(J.s.getD c.toNat 0).toNat*wO J.s r':=a3P _ hj;rw[a3z]at this;omega
   let Q:Nat->Mk->Prop:=fun j y=>XOk J op y∧y.e.length<=x.e.length+j*wO J.s r'∧y.n.length+j<=x.n.length+j*wO J.s r'∧∀e∈y.k,e∈x.k∨Dp J (i+1) e.1
   have hq:∀j y,j<(J.s.getD c.toNat 0).toNat->Q j y->Q (j+1) (jC J op r' (bJ J.D t c j) y).2:=fun j y hj hy=>by
    obtain⟨y1,y2,y3,y4⟩:=hy;have YJ:=YJ j hj;have h:=TP hJ op kD r' (i+1) (bJ J.D t c j) y wR aT (ng hJ GH q3 ⟨by omega,by omega⟩) y1 (by omega) (by omega);have h3:=h.el;have h4:=h.nl;refine⟨h.ok,by rw[a3z];omega,by rw[a3z];omega,fun e he=>?_⟩;rcases h.ks e he with h5|h5
    .exact y4 e h5
    exact .inr h5
   have lp:=aqa (M:=N) (f:=f) hJ (op:=op) (r:=r') (t:=t) (c:=c) (a:=(i:Int)) x qF Q ⟨hx,by simp,by simp,fun e he=>.inl he⟩ hq (fun j hj k hk=>JQ hJ q3 ⟨by omega,by omega⟩ hk) (fun j y hj hy=>by obtain⟨y1,y2,y3,y4⟩:=hy;have YJ:=YJ j hj;rw[ew];exact rc (i+1) (bJ J.D t c j) y wR aT (ng hJ GH q3 ⟨by omega,by omega⟩) y1 (by unfold au;omega) (by unfold au;omega))
   have inv:=bK (g:=Vp J.D (jC J op r') t c) (m:=(J.s.getD c.toNat 0).toNat) (k:=0) (s:=([],x)) (fun j y=>Q j y.2) ⟨hx,by simp,by simp,fun e he=>.inl he⟩ (fun j y _ hj hy=>hq j y.2 (by omega) hy);rw[a3T]at inv;simp only[];generalize aO (Vp J.D (jC J op r') t c) (J.s.getD c.toNat 0).toNat 0 ([],x)=y at lp inv;obtain⟨ks,m⟩:=y;obtain⟨y1,y2,y3,y4⟩:=inv;have hnk:t∉m.k.map (·.1):=fun h=>by
    obtain⟨e,he,e2⟩:=a0P.1 h;rcases y4 e he with h1|h1
    .exact hk (a0P.2 ⟨e,h1,e2⟩)
    rw[e2]at h1;exact a0i hJ GH Bg h1
   have hF2:nU X0 Qp 148 (Iw m.k) (.agg [.int .i64 t.a,.int .i64 t.b,.int .i64 t.c]):=kS.fresh (x:=t) (by simpa using hnk);have ek:Iw m.k++[(.agg t.ps,.int .i64 (m.n.length:Int))]=Iw (m.k++[(t,(m.n.length:Int))]):=by unfold Iw oN.es;rw[a4K,a4K];rfl
   have hF3:qB X0 Qp 148 (Iw m.k++[(.agg t.ps,.int .i64 (m.n.length:Int))]) (.agg [.int .i64 t.a,.int .i64 t.b,.int .i64 t.c]) (.int .i64 (m.n.length:Int)):=by
    refine(congrArg (fun l:List (PV aG×PV aG)=>qB X0 Qp 148 l (.agg [.int .i64 t.a,.int .i64 t.b,.int .i64 t.c]) (.int .i64 (m.n.length:Int))) ek).mpr ?_;refine kS.found (x:=t) ?_ ?_
    .rw[a5D,show((fun e:S3×PV X0.Γ=>e.1)∘fun e:S3×Int=>(e.1,(PV.int .i64 e.2:PV X0.Γ)))=fun e=>e.1 from rfl,a4K];exact DW y1.nd hnk
    simp
   have hb:m.n.length+[(⟨c,ks⟩:Br)].length<=au:=by simp only[a4n];have y3:m.n.length+(J.s.getD c.toNat 0).toNat<=x.n.length+(J.s.getD c.toNat 0).toNat*wO J.s r':=y3;unfold au;omega
   have h1:dG X0 Qp (iE (N+2)) (.fn 126 [] pM) [.agg t.ps,.int .i64 (a:Int)] (HM0 J f x) (.int .i64 (m.n.length:Int)) (al9 J f m t ⟨c,ks⟩):=by subst JY;exact fH gJ (first:=[]) (cap:=pM) (.w lsk (.b t0 (.o ia (.o ig (.b tg' (.q (.bool false) hF (.b (rfl:false=false) (.o is (.wG [.mv 5,.mv 6,.a3o 1 1 3] lp (.q (.bool false) (kS.ck t) (.o hF2 (.o hb (.c (.int .i64 (m.n.length:Int)) [] hF3 .er)))))))))))))
   have h2:=dG.gs hX h1 [.gc [7,11]] (v':=.int .i64 (m.n.length:Int)) (H2:=[.map (Iw m.k++[(.agg t.ps,.int .i64 (m.n.length:Int))]),.cells [lI J.s,lI J.o,.own 7,.own 8,.int .i64 0],.aF (J.ps (.fn f [] [])),.aF [.fn 126 [] pM],.aF [.map 0],.gone,.gone,Qr m.e,Qs (m.n++[⟨c,ks⟩])]) (by kernel_rfl);exact(congrArg (fun l:List (PV aG×PV aG)=>dG X0 Qp (iE (N+2)) (.fn 126 [] pM) [.agg t.ps,.int .i64 (a:Int)] (HM0 J f x) (.int .i64 (m.n.length:Int)) [.map l,.cells [lI J.s,lI J.o,.own 7,.own 8,.int .i64 0],.aF (J.ps (.fn f [] [])),.aF [.fn 126 [] pM],.aF [.map 0],.gone,.gone,Qr m.e,Qs (m.n++[⟨c,ks⟩])]) ek).mp h2
  rw[a0A rfl];have tg':decide (J.g.getD (J.o.getD (i:Int).toNat 0).toNat 0>=0)=true:=by rw[JY];exact tg
  have hg:0<=J.g.getD c.toNat 0:=by simpa using tg
  have haf:=JM (M:=N) (f:=f) (a:=[]) (cc:=[]) (H:=[]) J t c (J.g.getD c.toNat 0) hJ.d3 (fun k hk=>JQ hJ q3 ⟨hg,hJ.gv c qF hg⟩ hk);have h2:=rc (i+1) (bJ J.D t c (J.g.getD c.toNat 0)) x wR aT (ng hJ GH q3 ⟨hg,hJ.gv c qF hg⟩) hx (by unfold au;omega) (by unfold au;omega);rw[<-ew]at h2;subst JY;exact fH gJ (first:=[]) (cap:=pM) (.w lsk (.b t0 (.o ia (.o ig (.b tg' (.fr [] haf (.fr [0,1,2,3,4,5,6] h2 .er)))))))
theorem aqe{N f:Nat}{J:Jb}(hJ:jW J){op:List V->V}(kD:sO J op)(hs:∀m,N<=m->∀l:List V,l.length=J.D.length->dG X0 Qp (iE m) (.fn f [] []) [lV l] [] (.agg (op l).ps) []):∀(F:Nat) (r:LI0),r.length<=F->agq J op f (N+F+2) r:=by
 intro F
 induction F with
 |zero=>
  intro r hF;refine adX hJ kD (hs _ (by omega)) r fun c r' h=>?_;have:=h.length_le;rw[a4M]at this;omega
 |succ F ih=>
  intro r hF;refine adX (N:=N+F+1) hJ kD (hs _ (by omega)) r fun c r' h=>ih r' ?_;have:=h.length_le;rw[a4M]at this;omega
open Go Tw Pv bQ
abbrev abt(J:Jb)(f:Nat)(u:Int)(t:S3)(c:Int)(a:Int)(m:Mk)(ks:LI0)(i:Int)(y:List (Nat×PE aG)):aU aG:=⟨[(1,xi a),(2,.val (.ptr 2 0 5)),(3,.val (.ptr 1 0 5)),(4,.val (.ptr 3 0 1)),(5,.val (.ptr 4 0 1)),(6,.loc 0 0),(9,xi c),(13,.loc 1 0),(93,xi (J.s.getD c.toNat 0)),(94,xi i)]++y,[t.ps,[.int .i64 c,.own 10]],abl J f u m++[oI false false ks]⟩
theorem aqf{M f:Nat}{u:Int}{J:Jb}(hJ:jW J){op:List V->V}{r:LI0}{t:S3}{c a:Int}(x:Mk)(hc:fK c J.s.length)(Q:Nat->Mk->Prop)(h0:Q 0 x)(hq:∀j y,j<(J.s.getD c.toNat 0).toNat->Q j y->Q (j+1) (jC J op r (bJ J.D t c j) y).2)
  (hk:∀j:Nat,j<(J.s.getD c.toNat 0).toNat->∀k,k<J.D.length->a2o (l9 J.D k) (t.get k) c j)
  (hf:∀(j:Nat) y,j<(J.s.getD c.toNat 0).toNat->Q j y->dG X0 Qp (iE (M+1)) (.fn 126 [] pM) [.agg (bJ J.D t c j).ps,.int .i64 (i64.wrap (a+1))] (HM1 J f u y) (.int .i64 (jC J op r (bJ J.D t c j) y).1) (abl J f u (jC J op r (bJ J.D t c j) y).2)) :
  Nr (M+1) 126 1 8 (abt J f u t c a x [] 0 []) (.exit 2) (abt J f u t c a (aO (Vp J.D (jC J op r) t c) (J.s.getD c.toNat 0).toNat 0 ([],x)).2 (aO (Vp J.D (jC J op r) t c) (J.s.getD c.toNat 0).toNat 0 ([],x)).1 (((J.s.getD c.toNat 0).toNat:Nat):Int) [(95,xl false)]):=by
 have hz:=hJ.bY.sz _ (cu (s:=J.s) (k:=c.toNat) (by have:=hc.1;have:=hc.2;omega));refine vS (σ:=LI0×Mk) (N:=(J.s.getD c.toNat 0).toNat) (g:=Vp J.D (jC J op r) t c) (s0:=([],x)) (st:=fun i y=>abt J f u t c a y.2 y.1 i []) (fin:=fun y=>abt J f u t c a y.2 y.1 (((J.s.getD c.toNat 0).toNat:Nat):Int) [(95,xl false)]) (fun j y=>y.1.length=j∧Q j y.2) (by kernel_rfl) (by unfold au;omega) ⟨rfl,h0⟩ (fun j y hj hy=>⟨by simp[Vp,hy.1],hq j y.2 hj hy.2⟩) (fun j y hj hy m e p g=>?_) (fun y _=>?_)
 .have h1:=hf j y.2 hj hy.2;have ha:=JM (M:=M) (f:=f) (a:=[]) (cc:=[.ptr 0 0 1]) (H:=[.aF [.int .u8 u]]) J t c j hJ.d3 (hk j hj);have t1:decide ((j:Int)<J.s.getD c.toNat 0)=true:=by rw[a0S];omega
  have h3:=hy.1;unfold Vp at g;generalize jC J op r (bJ J.D t c j) y.2=z at h1 g;obtain⟨v,z⟩:=z;exact aN gJ (.b t1 (.fr [5] ha (.fr [0,1,2,3,4,5,8,9] h1 (.o (show y.1.length+[v].length<=au by simp only[a4n];unfold au;omega) (.goG [.gc [11,12,14]] g)))))
 .have t1:decide ((((J.s.getD c.toNat 0).toNat:Nat):Int)<J.s.getD c.toNat 0)=false:=by rw[a3b];omega
  exact aN gJ (.b t1 .ex)
abbrev ags(J:Jb)(op:List V->V)(f:Nat)(u:Int)(m:Nat)(r:LI0):Prop:=∀(a:Nat) (t:S3) (x:Mk),J.o.drop a=r->a<=J.o.length->Dp J a t->XOk J op x->x.e.length+wO J.s r<=au->x.n.length+wO J.s r<=au ->
  dG X0 Qp (iE m) (.fn 126 [] pM) [.agg t.ps,.int .i64 (a:Int)] (HM1 J f u x) (.int .i64 (jC J op r t x).1) (abl J f u (jC J op r t x).2)
abbrev agt(J:Jb)(f:Nat)(u:Int)(x:Mk)(v:V):List (PB aG):=[.map (Iw x.k),.cells [lI J.s,lI J.o,.own 9,.own 7,.int .i64 0],.aF (J.ps (.fn f [] [.ptr 5 0 1])),.aF [.fn 126 [] pM],.aF [.map 0],.aF [.int .u8 u],.gone,Qs x.n,.list true true 39 [v],Qr (x.e++[v])]
abbrev alb(J:Jb)(f:Nat)(u:Int)(x:Mk)(t:S3)(b:Br):List (PB aG):=[.map (Iw x.k++[(.agg t.ps,.int .i64 (x.n.length:Int))]),.cells [lI J.s,lI J.o,.own 8,.own 12,.int .i64 0],.aF (J.ps (.fn f [] [.ptr 5 0 1])),.aF [.fn 126 [] pM],.aF [.map 0],.aF [.int .u8 u],.gone,.gone,Qr x.e,.gone,.gone,.list true true 105 [b],Qs (x.n++[b])]
theorem adY{N f:Nat}(u:Int){J:Jb}(hJ:jW J){op:List V->V}(kD:sO J op)(hs:∀l:List V,l.length=J.D.length->dG X0 Qp (iE (N+1)) (.fn f [] [.ptr 0 0 1]) [lV l] [.aF [.int .u8 u]] (.agg (op l).ps) [.aF [.int .u8 u]])(r:LI0)(rec:∀c r',c::r' <:+ r->ags J op f u (N+1) r'):ags J op f u (N+2) r:=by
 intro a t x hr ha hd hx CS yw;unfold au at CS yw;have Ry:=(jW.o2 hJ).2.1;have hl6:=hJ.bY.len;have lsk:=aq9 (M:=N) (f:=f) u hJ (x:=x) r hr ha hd;obtain⟨q1,q2,q3,q4⟩:=VA hJ (op:=op) (x:=x) r a t hr ha hd;have hw:=VB hJ r (QM J.D t r) (fun c hc=>(jW.o2 hJ).2.2 c (a5L (by rw[hr];exact hc)));rw[q1];generalize QM J.D t r=n at lsk q1 q2 q3 q4 hw;have GH:J.o.drop (a+n)=r.drop n:=by rw[<-hr,afR]
 have a8A:r.drop n <:+ r:=List.drop_suffix _ _;have H6:=congrArg List.length GH;rw[a3U]at H6;clear q1 hr;generalize a+n=i at lsk q2 q3 GH H6;generalize r.drop n=r0 at q4 hw GH a8A H6;cases r0 with
 |nil=>
  have e0:i=J.o.length:=by rw[a5r]at H6;omega
  have t0:((i:Int)==(J.o.length:Int))=true:=by rw[e0];simp
  rw[e0]at q3;have pV:(aV J.D t).length=J.D.length:=by simp[aV]
  have hce:=abj (M:=N) (f:=f) (u:=u) J t hJ.d3 (fun k hk=>(JR hJ q3 hk).2);have hv:=hs (aV J.D t) pV;simp only[wO]at hw;have hb:x.e.length+[op (aV J.D t)].length<=au:=by simp only[a4n];unfold au;omega
  have h1:dG X0 Qp (iE (N+2)) (.fn 126 [] pM) [.agg t.ps,.int .i64 (a:Int)] (HM1 J f u x) (.int .i64 (i64.wrap (0-((x.e++[op (aV J.D t)]).length:Int)))) (agt J f u x (op (aV J.D t))):=
   fH gJ (first:=[]) (cap:=pM) (.w lsk (.b t0 (.fr [5] hce (.fr [5] hv (.o hb .er)))))
  exact dG.gs hX h1 [.mv 7,.gc [9,10]] (by kernel_rfl)
 |cons c r'=>
  have t0:((i:Int)==(J.o.length:Int))=false:=by rw[a4M]at H6;simp;omega
  obtain⟨aT,hoc,wR,G9,hci,qF⟩:=jW.at_ hJ GH;have Bg:=q4 c r' rfl;have rc:=rec c r' a8A;have ia:fK (i:Int) J.o.length:=⟨by omega,by omega⟩;have JY:J.o.getD (i:Int).toNat 0=c:=by rw[a5g];exact hoc
  have ig:fK (J.o.getD (i:Int).toNat 0) J.g.length:=by rw[JY,hJ.gl];exact qF
  have hz:=hJ.bY.sz _ (cu (s:=J.s) (k:=c.toNat) (by have:=qF.1;have:=qF.2;omega));have hri:∀c'∈r',fK c' J.s.length:=fun c' h=>(jW.o2 hJ).2.2 c' (by rw[<-wR]at h;exact a5L h);have hw0:=Vm hJ.bY.sz hri;have hw1:wO J.s r'<=(J.s.getD c.toNat 0).toNat*wO J.s r':=ae7 _ (by omega);have ew:i64.wrap ((i:Int)+1)=((i+1:Nat):Int):=by rw[fQ (by omega) (by omega)];omega
  simp only[wO]at hw;unfold jC;rw[a0A Bg];cases tg:decide (J.g.getD c.toNat 0>=0)
  .rw[a0y (by simp)];have tg':decide (J.g.getD (J.o.getD (i:Int).toNat 0).toNat 0>=0)=false:=by rw[JY];exact tg
   by_cases hk:t∈x.k.map (·.1)
   .rw[a0A hk];have hF:qB X0 Qp 148 (Iw x.k) (.agg [.int .i64 t.a,.int .i64 t.b,.int .i64 t.c]) (.int .i64 (knS x.k t)):=Yi hx.nd hk;have h1:dG X0 Qp (iE (N+2)) (.fn 126 [] pM) [.agg t.ps,.int .i64 (a:Int)] (HM1 J f u x) (.int .i64 (knS x.k t)) (HM1 J f u x):=
     fH gJ (first:=[]) (cap:=pM) (.w lsk (.b t0 (.o ia (.o ig (.b tg' (.c (.int .i64 (knS x.k t)) [] hF (.b (rfl:true=true) .er)))))))
    exact dG.gs hX h1 [.mv 6,.mv 7] (by kernel_rfl)
   rw[a0y hk];have hm2:=Vr hJ GH q3 Bg;have hF:nU X0 Qp 148 (Iw x.k) (.agg [.int .i64 t.a,.int .i64 t.b,.int .i64 t.c]):=kS.fresh (x:=t) (by simpa using hk);have is:fK (J.o.getD (i:Int).toNat 0) J.s.length:=by rw[JY];exact qF
   have YJ:∀j,j<(J.s.getD c.toNat 0).toNat->j*wO J.s r'+wO J.s r'<=(J.s.getD c.toNat 0).toNat*wO J.s r':=fun j hj=>by have:(j+1)*wO J.s r'<=(J.s.getD c.toNat 0).toNat*wO J.s r':=a3P _ hj;rw[a3z]at this;omega
   let Q:Nat->Mk->Prop:=fun j y=>XOk J op y∧y.e.length<=x.e.length+j*wO J.s r'∧y.n.length+j<=x.n.length+j*wO J.s r'∧∀e∈y.k,e∈x.k∨Dp J (i+1) e.1
   have hq:∀j y,j<(J.s.getD c.toNat 0).toNat->Q j y->Q (j+1) (jC J op r' (bJ J.D t c j) y).2:=fun j y hj hy=>by
    obtain⟨y1,y2,y3,y4⟩:=hy;have YJ:=YJ j hj;have h:=TP hJ op kD r' (i+1) (bJ J.D t c j) y wR aT (ng hJ GH q3 ⟨by omega,by omega⟩) y1 (by omega) (by omega);have h3:=h.el;have h4:=h.nl;refine⟨h.ok,by rw[a3z];omega,by rw[a3z];omega,fun e he=>?_⟩;rcases h.ks e he with h5|h5
    .exact y4 e h5
    exact .inr h5
   have lp:=aqf (M:=N) (f:=f) (u:=u) hJ (op:=op) (r:=r') (t:=t) (c:=c) (a:=(i:Int)) x qF Q ⟨hx,by simp,by simp,fun e he=>.inl he⟩ hq (fun j hj k hk=>JQ hJ q3 ⟨by omega,by omega⟩ hk) (fun j y hj hy=>by obtain⟨y1,y2,y3,y4⟩:=hy;have YJ:=YJ j hj;rw[ew];exact rc (i+1) (bJ J.D t c j) y wR aT (ng hJ GH q3 ⟨by omega,by omega⟩) y1 (by unfold au;omega) (by unfold au;omega))
   have inv:=bK (g:=Vp J.D (jC J op r') t c) (m:=(J.s.getD c.toNat 0).toNat) (k:=0) (s:=([],x)) (fun j y=>Q j y.2) ⟨hx,by simp,by simp,fun e he=>.inl he⟩ (fun j y _ hj hy=>hq j y.2 (by omega) hy);rw[a3T]at inv;simp only[];generalize aO (Vp J.D (jC J op r') t c) (J.s.getD c.toNat 0).toNat 0 ([],x)=y at lp inv;obtain⟨ks,m⟩:=y;obtain⟨y1,y2,y3,y4⟩:=inv;have hnk:t∉m.k.map (·.1):=fun h=>by
    obtain⟨e,he,e2⟩:=a0P.1 h;rcases y4 e he with h1|h1
    .exact hk (a0P.2 ⟨e,h1,e2⟩)
    rw[e2]at h1;exact a0i hJ GH Bg h1
   have hF2:nU X0 Qp 148 (Iw m.k) (.agg [.int .i64 t.a,.int .i64 t.b,.int .i64 t.c]):=kS.fresh (x:=t) (by simpa using hnk);have ek:Iw m.k++[(.agg t.ps,.int .i64 (m.n.length:Int))]=Iw (m.k++[(t,(m.n.length:Int))]):=by unfold Iw oN.es;rw[a4K,a4K];rfl
   have hF3:qB X0 Qp 148 (Iw m.k++[(.agg t.ps,.int .i64 (m.n.length:Int))]) (.agg [.int .i64 t.a,.int .i64 t.b,.int .i64 t.c]) (.int .i64 (m.n.length:Int)):=by
    refine(congrArg (fun l:List (PV aG×PV aG)=>qB X0 Qp 148 l (.agg [.int .i64 t.a,.int .i64 t.b,.int .i64 t.c]) (.int .i64 (m.n.length:Int))) ek).mpr ?_;refine kS.found (x:=t) ?_ ?_
    .rw[a5D,show((fun e:S3×PV X0.Γ=>e.1)∘fun e:S3×Int=>(e.1,(PV.int .i64 e.2:PV X0.Γ)))=fun e=>e.1 from rfl,a4K];exact DW y1.nd hnk
    simp
   have hb:m.n.length+[(⟨c,ks⟩:Br)].length<=au:=by simp only[a4n];have y3:m.n.length+(J.s.getD c.toNat 0).toNat<=x.n.length+(J.s.getD c.toNat 0).toNat*wO J.s r':=y3;unfold au;omega
   have h1:dG X0 Qp (iE (N+2)) (.fn 126 [] pM) [.agg t.ps,.int .i64 (a:Int)] (HM1 J f u x) (.int .i64 (m.n.length:Int)) (alb J f u m t ⟨c,ks⟩):=by subst JY;exact fH gJ (first:=[]) (cap:=pM) (.w lsk (.b t0 (.o ia (.o ig (.b tg' (.q (.bool false) hF (.b (rfl:false=false) (.o is (.wG [.mv 6,.mv 7,.a3o 1 1 3] lp (.q (.bool false) (kS.ck t) (.o hF2 (.o hb (.c (.int .i64 (m.n.length:Int)) [] hF3 .er)))))))))))))
   have h2:=dG.gs hX h1 [.gc [8,12]] (v':=.int .i64 (m.n.length:Int)) (H2:=[.map (Iw m.k++[(.agg t.ps,.int .i64 (m.n.length:Int))]),.cells [lI J.s,lI J.o,.own 8,.own 9,.int .i64 0],.aF (J.ps (.fn f [] [.ptr 5 0 1])),.aF [.fn 126 [] pM],.aF [.map 0],.aF [.int .u8 u],.gone,.gone,Qr m.e,Qs (m.n++[⟨c,ks⟩])]) (by kernel_rfl);exact(congrArg (fun l:List (PV aG×PV aG)=>dG X0 Qp (iE (N+2)) (.fn 126 [] pM) [.agg t.ps,.int .i64 (a:Int)] (HM1 J f u x) (.int .i64 (m.n.length:Int)) [.map l,.cells [lI J.s,lI J.o,.own 8,.own 9,.int .i64 0],.aF (J.ps (.fn f [] [.ptr 5 0 1])),.aF [.fn 126 [] pM],.aF [.map 0],.aF [.int .u8 u],.gone,.gone,Qr m.e,Qs (m.n++[⟨c,ks⟩])]) ek).mp h2
  rw[a0A rfl];have tg':decide (J.g.getD (J.o.getD (i:Int).toNat 0).toNat 0>=0)=true:=by rw[JY];exact tg
  have hg:0<=J.g.getD c.toNat 0:=by simpa using tg
  have haf:=JM (M:=N) (f:=f) (a:=[]) (cc:=[.ptr 0 0 1]) (H:=[.aF [.int .u8 u]]) J t c (J.g.getD c.toNat 0) hJ.d3 (fun k hk=>JQ hJ q3 ⟨hg,hJ.gv c qF hg⟩ hk);have h2:=rc (i+1) (bJ J.D t c (J.g.getD c.toNat 0)) x wR aT (ng hJ GH q3 ⟨hg,hJ.gv c qF hg⟩) hx (by unfold au;omega) (by unfold au;omega);rw[<-ew]at h2;subst JY;exact fH gJ (first:=[]) (cap:=pM) (.w lsk (.b t0 (.o ia (.o ig (.b tg' (.fr [5] haf (.fr [0,1,2,3,4,5,6,7] h2 .er)))))))
theorem aqg{N f:Nat}(u:Int){J:Jb}(hJ:jW J){op:List V->V}(kD:sO J op)(hs:∀m,N<=m->∀l:List V,l.length=J.D.length->dG X0 Qp (iE m) (.fn f [] [.ptr 0 0 1]) [lV l] [.aF [.int .u8 u]] (.agg (op l).ps) [.aF [.int .u8 u]]):∀(F:Nat) (r:LI0),r.length<=F->ags J op f u (N+F+2) r:=by
 intro F
 induction F with
 |zero=>
  intro r hF;refine adY u hJ kD (hs _ (by omega)) r fun c r' h=>?_;have:=h.length_le;rw[a4M]at this;omega
 |succ F ih=>
  intro r hF;refine adY (N:=N+F+1) u hJ kD (hs _ (by omega)) r fun c r' h=>ih r' ?_;have:=h.length_le;rw[a4M]at this;omega
end Go.Proofs.YtmobpoiejckagaaGreat
namespace Pv
open Go Tw
section
variable {X:kX} {P:LI1}
theorem dG.alc(hX:bT X P){call:aZ}{fv v:PV X.Γ}{xs:List (PV X.Γ)}{H H0 H1:List (PB X.Γ)}(gs:List G)(hs:dG X P call fv xs H0 v H1)(hg:lK H.length gs (⟨[],[],H⟩:aU X.Γ)=some ⟨[],[],H0⟩):dG X P call fv xs H v H1:=by
 intro A m h tf rM hr hf hx;obtain⟨m2,q1,q2,q3⟩:=ny hX hg A (fun b=>b∈bn m) h.length m ⟨[],[],h,[]⟩ ⟨⟨hr,rfl,fun k c hk=>(by simp at hk),.nil⟩,fun b hb=>.inl hb,fun b hb=>(by cases hb),a0K _⟩;have up:Up m m2:=fun i mb hi=>q3 i mb (by rw[<-hr.len];exact(a08.1 hi).1) hi;obtain⟨w,h',ws,m1,k1,k2,k3,k4,k5,k6⟩:=hs A m2 h tf rM q1.st.heap (hf.step q2 up) (hx.step q2 up);refine⟨w,h',ws,m1,k1,k2,k3,q2.trans k4,fun i mb hi=>?_,fun b hb=>?_⟩
 .rcases up i mb hi with g|g
  .exact k5 i mb g
  rcases k5 i _ g with g|g<;>exact .inr g
 have hb:=k6 b hb;rcases q1.own b hb with g|g
 .exact g
 have:=q1.st.heap.inb hb;have:b<h.length:=this;omega
end
end Pv
namespace Go.Proofs.YtmobpoiejckagaaGreat
open Go Tw Pv bQ
theorem Ny{n:Nat}(hO:Ok n Iu)(l:LI0)(hl:l.length<=au):iW n (.fn 125 [] []) [.dJ 3 l false] [] (lI l) []:=
 have h0:=pR.ab1 hX (hO 125 [.dJ 3 l false] (.own 0) (lsI l) [l.length<=au] (by kernel_rfl) (List.forall_mem_singleton.2 hl)) rfl rfl rfl rfl
 dG.cut hX (dG.fzR hX h0 [0] (v':=lI l) rfl (by decide)) rfl rfl rfl rfl
abbrev aqh(J:Jb)(f:Nat)(x:Mk):List (PB aG):=[.map (Iw x.k),.cells [lI J.s,lI J.o,.own 7,.own 8,.int .i64 0],.cells (J.ps (.fn f [] [])),.cells [.fn 126 [] pM],.cells [.map 0],.gone,.gone,Qr x.e,Qs x.n]
theorem abu{m f:Nat}(hO:Ok m Iu)(J:Jb)(st:S3)(z:Int×Mk)
  (c1:dG X0 Qp (iE m) (.fn 125 [] []) [.dJ 3 J.s false] [] (lI J.s) [])
  (c2:dG X0 Qp (iE m) (.fn 125 [] []) [.dJ 3 J.o false] [] (lI J.o) [])
  (c3:dG X0 Qp (iE m) (.fn 130 [] []) [.agg (J.ps (.fn f [] []))] [] (.agg st.ps) [])
  (c5:dG X0 Qp (iE m) (.fn 126 [] pM) [.agg st.ps,.int .i64 (0:Int)] [.map [],.cells [lI J.s,lI J.o,.nil .aQ,.nil .aQ,.int .i64 0],.aF (J.ps (.fn f [] [])),.aF [.fn 126 [] pM],.aF [.map 0]] (.int .i64 z.1) (abk J f z.2))
  (hr:Ij ⟨J.s,J.o,z.2.e,z.2.n,z.1⟩) (p1:J.s.length<=au) (p2:J.o.length<=2^20) (p3:z.2.e.length<=au) (p4:((bF ⟨J.s,J.o,z.2.e,z.2.n,z.1⟩).2 != 0)=false->ClP (bF ⟨J.s,J.o,z.2.e,z.2.n,z.1⟩).1) :
  dG X0 Qp (iE (m+1)) (.fn 80 [] []) [.agg (J.ps (.fn f [] []))] [] (dA.put (zX ⟨J.s,J.o,z.2.e,z.2.n,z.1⟩).1) []:=by
 obtain⟨v,e,n,k⟩:=z;have h0:dG X0 Qp (iE (m+1)) (.fn 80 [] []) [.agg (J.ps (.fn f [] []))] [] (dA.put (zX ⟨J.s,J.o,e,n,v⟩).1) ([]++[.cells (J.ps (.fn f [] [])),.cells [lI J.s,lI J.o,.own 7,.own 8,.int .i64 v],.map (Iw k),.cells [.map 2],.cells [.fn 126 [] [.ptr 0 0 5,.ptr 1 0 5,.ptr 4 0 1,.ptr 3 0 1]],.gone,.gone,.gone,.gone]):=
  fH hO (first:=[]) (cap:=[]) (.fr [] c1 (.fr [] c2 (.fr [] c3 (.QD (H2:=aqh J f ⟨e,n,k⟩) [2,1,0,4,3] [2,3,4] c5 (.o hr (.o p1 (.o p2 (.o p3 (.o p4 .er)))))))))
 exact dG.cut hX h0 rfl rfl rfl rfl
theorem agu{N f:Nat}{J:Jb}(hJ:jW J){op:List V->V}(kD:sO J op)(hs:∀m,N<=m->∀l:List V,l.length=J.D.length->dG X0 Qp (iE m) (.fn f [] []) [lV l] [] (.agg (op l).ps) [])(hO:∀m,N<=m->Ok m Iu){m:Nat}(hm:N+J.o.length+2<=m):dG X0 Qp (iE (m+1)) (.fn 80 [] []) [.agg (J.ps (.fn f [] []))] [] (dA.put (EO J op)) []:=by
 have hl:=hJ.bY.len;have Ry:=(jW.o2 hJ).2.1;have hw:=DT hJ.bY.sz hJ.ord;have hmn:=hJ.bY.many;have c1:=Ny (n:=m) (hO m (by omega)) J.s (by unfold au;omega);have c2:=Ny (n:=m) (hO m (by omega)) J.o (by unfold au;omega);obtain⟨m',rfl⟩:∃m',m=m'+1:=⟨m-1,by omega⟩;have c3:=a0h (M:=m') (f:=f) (a:=[]) (cc:=[]) (H:=[]) J hJ.d3;have c4:=aqe (N:=m'+1-J.o.length-2) (f:=f) hJ kD (fun m2 h2=>hs m2 (by omega)) J.o.length J.o (a0K _) 0 (fA J.D) ⟨[],[],[]⟩ aan (a5m _) (fun k hk=>by rw[wE hJ.d3 hk];exact⟨(hJ.dg k hk).t.root,a5m _⟩) ⟨⟨fun i hi=>(by simp at hi),fun i hi=>(by simp at hi),fun i hi=>(by simp at hi)⟩,fun e he=>(by cases he),a6f,fun v hv=>(by cases hv),fun b hb=>(by cases hb)⟩ (by show 0+wO J.s J.o<=au;unfold au;omega) (by show 0+wO J.s J.o<=au;unfold au;omega)
 rw[show m'+1-J.o.length-2+J.o.length+2=m'+1 by omega]at c4;have c5:=dG.alc hX (H:=[.map [],.cells [lI J.s,lI J.o,.nil .aQ,.nil .aQ,.int .i64 0],.aF (J.ps (.fn f [] [])),.aF [.fn 126 [] pM],.aF [.map 0]]) [.UE 1 2 39,.UE 1 3 105] c4 (by kernel_rfl);obtain⟨h1,h2,h3⟩:=Ey hJ kD;have hr:=a8v hJ kD;have h4:(bF (jX J op)).2=0:=by rw[(Qg hJ kD).1]
 have h5:=xI hr (by unfold au;omega) (by show J.s.length<=au;unfold au;omega) (by show J.o.length<=au;unfold au;omega) h4;have p1:J.s.length<=au:=by unfold au;omega
 have p2:J.o.length<=2^20:=by omega
 have p3:(jX J op).aJ.length<=au:=by unfold au;omega
 have p4:((bF (jX J op)).2 != 0)=false->ClP (bF (jX J op)).1:=fun _=>by rw[h5.1];exact h5.2
 exact abu (hO (m'+1) (by omega)) J (fA J.D) (jC J op J.o (fA J.D) ⟨[],[],[]⟩) c1 c2 c3 c5 hr p1 p2 p3 p4
abbrev aqi(J:Jb)(f:Nat)(u:Int)(x:Mk):List (PB aG):=[.map (Iw x.k),.cells [lI J.s,lI J.o,.own 8,.own 9,.int .i64 0],.cells (J.ps (.fn f [] [.ptr 5 0 1])),.cells [.fn 126 [] pM],.cells [.map 0],.aF [.int .u8 u],.gone,.gone,Qr x.e,Qs x.n]
theorem abv{m f:Nat}(u:Int)(hO:Ok m Iu)(J:Jb)(st:S3)(z:Int×Mk)
  (c1:dG X0 Qp (iE m) (.fn 125 [] []) [.dJ 3 J.s false] [] (lI J.s) [])
  (c2:dG X0 Qp (iE m) (.fn 125 [] []) [.dJ 3 J.o false] [] (lI J.o) [])
  (c3:dG X0 Qp (iE m) (.fn 130 [] []) [.agg (J.ps (.fn f [] [.ptr 0 0 1]))] [.aF [.int .u8 u]] (.agg st.ps) [.aF [.int .u8 u]])
  (c5:dG X0 Qp (iE m) (.fn 126 [] pM) [.agg st.ps,.int .i64 (0:Int)] [.map [],.cells [lI J.s,lI J.o,.nil .aQ,.nil .aQ,.int .i64 0],.aF (J.ps (.fn f [] [.ptr 5 0 1])),.aF [.fn 126 [] pM],.aF [.map 0],.aF [.int .u8 u]] (.int .i64 z.1) (abl J f u z.2))
  (hr:Ij ⟨J.s,J.o,z.2.e,z.2.n,z.1⟩) (p1:J.s.length<=au) (p2:J.o.length<=2^20) (p3:z.2.e.length<=au) (p4:((bF ⟨J.s,J.o,z.2.e,z.2.n,z.1⟩).2 != 0)=false->ClP (bF ⟨J.s,J.o,z.2.e,z.2.n,z.1⟩).1) :
  dG X0 Qp (iE (m+1)) (.fn 80 [] []) [.agg (J.ps (.fn f [] [.ptr 0 0 1]))] [.aF [.int .u8 u]] (dA.put (zX ⟨J.s,J.o,z.2.e,z.2.n,z.1⟩).1) [.aF [.int .u8 u]]:=by
 obtain⟨v,e,n,k⟩:=z;have h0:dG X0 Qp (iE (m+1)) (.fn 80 [] []) [.agg (J.ps (.fn f [] [.ptr 0 0 1]))] [.aF [.int .u8 u]] (dA.put (zX ⟨J.s,J.o,e,n,v⟩).1) ([.aF [.int .u8 u]]++[.cells (J.ps (.fn f [] [.ptr 0 0 1])),.cells [lI J.s,lI J.o,.own 8,.own 9,.int .i64 v],.map (Iw k),.cells [.map 3],.cells [.fn 126 [] [.ptr 1 0 5,.ptr 2 0 5,.ptr 5 0 1,.ptr 4 0 1]],.gone,.gone,.gone,.gone]):=
  fH hO (first:=[]) (cap:=[]) (.fr [] c1 (.fr [] c2 (.fr [0] c3 (.QD (H2:=aqi J f u ⟨e,n,k⟩) [3,2,1,5,4,0] [2,3,4] c5 (.o hr (.o p1 (.o p2 (.o p3 (.o p4 .er)))))))))
 exact dG.cut hX h0 rfl rfl rfl rfl
theorem agv{N f:Nat}(u:Int){J:Jb}(hJ:jW J){op:List V->V}(kD:sO J op)(hs:∀m,N<=m->∀l:List V,l.length=J.D.length->dG X0 Qp (iE m) (.fn f [] [.ptr 0 0 1]) [lV l] [.aF [.int .u8 u]] (.agg (op l).ps) [.aF [.int .u8 u]])(hO:∀m,N<=m->Ok m Iu){m:Nat}(hm:N+J.o.length+2<=m):dG X0 Qp (iE (m+1)) (.fn 80 [] []) [.agg (J.ps (.fn f [] [.ptr 0 0 1]))] [.aF [.int .u8 u]] (dA.put (EO J op)) [.aF [.int .u8 u]]:=by
 have hl:=hJ.bY.len;have Ry:=(jW.o2 hJ).2.1;have hw:=DT hJ.bY.sz hJ.ord;have hmn:=hJ.bY.many;have c1:=Ny (n:=m) (hO m (by omega)) J.s (by unfold au;omega);have c2:=Ny (n:=m) (hO m (by omega)) J.o (by unfold au;omega);obtain⟨m',rfl⟩:∃m',m=m'+1:=⟨m-1,by omega⟩;have c3:=a0h (M:=m') (f:=f) (a:=[]) (cc:=[.ptr 0 0 1]) (H:=[.aF [.int .u8 u]]) J hJ.d3;have c4:=aqg (N:=m'+1-J.o.length-2) (f:=f) u hJ kD (fun m2 h2=>hs m2 (by omega)) J.o.length J.o (a0K _) 0 (fA J.D) ⟨[],[],[]⟩ aan (a5m _) (fun k hk=>by rw[wE hJ.d3 hk];exact⟨(hJ.dg k hk).t.root,a5m _⟩) ⟨⟨fun i hi=>(by simp at hi),fun i hi=>(by simp at hi),fun i hi=>(by simp at hi)⟩,fun e he=>(by cases he),a6f,fun v hv=>(by cases hv),fun b hb=>(by cases hb)⟩ (by show 0+wO J.s J.o<=au;unfold au;omega) (by show 0+wO J.s J.o<=au;unfold au;omega)
 rw[show m'+1-J.o.length-2+J.o.length+2=m'+1 by omega]at c4;have c5:=dG.alc hX (H:=[.map [],.cells [lI J.s,lI J.o,.nil .aQ,.nil .aQ,.int .i64 0],.aF (J.ps (.fn f [] [.ptr 5 0 1])),.aF [.fn 126 [] pM],.aF [.map 0],.aF [.int .u8 u]]) [.UE 1 2 39,.UE 1 3 105] c4 (by kernel_rfl);obtain⟨h1,h2,h3⟩:=Ey hJ kD;have hr:=a8v hJ kD;have h4:(bF (jX J op)).2=0:=by rw[(Qg hJ kD).1]
 have h5:=xI hr (by unfold au;omega) (by show J.s.length<=au;unfold au;omega) (by show J.o.length<=au;unfold au;omega) h4;have p1:J.s.length<=au:=by unfold au;omega
 have p2:J.o.length<=2^20:=by omega
 have p3:(jX J op).aJ.length<=au:=by unfold au;omega
 have p4:((bF (jX J op)).2 != 0)=false->ClP (bF (jX J op)).1:=fun _=>by rw[h5.1];exact h5.2
 exact abv u (hO (m'+1) (by omega)) J (fA J.D) (jC J op J.o (fA J.D) ⟨[],[],[]⟩) c1 c2 c3 c5 hr p1 p2 p3 p4
open Go Tw Pv bQ
theorem ald(x:V):Instr.sameBits 10000 (kV.v x) (kV.v x)=true:=by show Instr.sameBits 10000 (.agg #[.int .u8 x.f,.int .i64 x.n]) (.agg #[.int .u8 x.f,.int .i64 x.n])=true;simp[Instr.sameBits]
theorem a8B(x:S3):Instr.sameBits 10000 (kS.v x) (kS.v x)=true:=by show Instr.sameBits 10000 (.agg #[.int .i64 x.a,.int .i64 x.b,.int .i64 x.c]) (.agg #[.int .i64 x.a,.int .i64 x.b,.int .i64 x.c])=true;simp[Instr.sameBits]
abbrev lY:V:=⟨0,1⟩
def ale:fF aG:=dw 79 (a1 vsA) vA (fun p=>p.getD 0 V0) (fun p=>[0<p.length]) Iu
theorem aqj:Gd ale:=Yf.add fun n hO p hp=>aP hO (.o (aH (hp _ iD)) .rr)
def alf:fF aG:=dw 89 afk vA (fun p=>lY) np ale
theorem aqk:Gd alf:=aqj.add fun n hO p hp=>aP hO .rr
def a8C:fF aG:=dw 169 (a1 vA) tA (fun p=>decide (p=lY)) np alf
theorem alg:Gd a8C:=aqk.add fun n hO p hp=>aP hO (.q (.bool (decide (p=lY))) (eqV (.tmp 3) (.tmp 4) p lY) .rr)
def qC(l:List V):Bool:=l.all fun v=>decide (v=lY)
def oh(l:List V):V:=if qC l=true then lY else V0
theorem aql{n:Nat}(hO:Ok n a8C)(l:List V)(hl:l.length<=au):iW (n+4) (.fn 168 [] []) [.fn 169 [] [],lV l] [] (tA.put (qC l)) []:=by
 have hs:∀v:V,iW n (.fn 169 [] []) [.agg v.ps] [] (tA.put (decide (v=lY))) []:=fun v=>pR.a4h hX (first:=[]) (cap:=[]) (hO 169 [.agg v.ps] (tA.put (decide (v=lY))) [] [] (by kernel_rfl) (fun p h=>by cases h)) rfl rfl rfl rfl;have h1:∀v:V,iW (n+1) (.fn 201 [] [.ptr 0 0 1]) [.agg v.ps] [.cells [.fn 169 [] []]] (tA.put (!(decide (v=lY)))) [.cells [.fn 169 [] []]]:=fun v=>
  jq gJ (first:=[]) (.fr [] (hs v) .sr)
 have h2:=afI (n:=n+2) (by omega) (f:=201) (a:=[]) (c:=[.ptr 0 0 1]) (H:=[.cells [.fn 169 [] []]]) (g:=fun v=>!(decide (v=lY))) h1 l hl;rw[Jy]at h2;unfold qC;rw[<-Et l fun v=>decide (v=lY)];exact dG.drop hX (Dj hX gJ (first:=[]) (cap:=[]) (H1:=[.cells [.fn 169 [] []]]) (by kernel_rfl) (.k h2 .sr)) rfl rfl
def su:fF aG:=dw 117 (a1 vsA) vA oh (fun l=>[l.length<=au]) a8C
theorem La:Gd su:=alg.deep 4 fun n hn hO l hp=>by have hs:=aql (n:=n-4) (hO (n-4) (by omega)) l (hp _ iD);rw[show n-4+4=n by omega]at hs;show pR X0 Qp _ _ _ (vA.put (oh l)) _;unfold oh;exact aP (hO n (by omega)) (.fr [] hs (.ss .rr .rr))
abbrev Yj:Code:=(Ti Qp 87).body
abbrev QO:Code:=(Ti Qp 136).body
abbrev a8D(J:Jb)(f:Nat):List (Nat×PE aG):=[(2,.val (.nil .map)),(3,.val (.ptr 2 0 1)),(8,.val (.fn 136 [.agg (J.ps (.fn f [] []))] []))]
abbrev LRC(J:Jb)(f:Nat)(rd:Bool)(jM:Option Code):PB aG:=.loop rd 87 (Ce Qp 87) (a8D J f) [9,10] (xq Qp 87) (AV Qp 87) jM
abbrev HQc(J:Jb)(f:Nat)(t:List (V×Int)):List (PB aG):=[.cells (J.ps (.fn f [] [])),.map (kV.im t),.cells [.map 1]]
abbrev QS(J:Jb)(f:Nat)(rd:Bool)(jM:Option Code)(t:List (V×Int)):List (PB aG):=HQc J f t++[.mark,LRC J f rd jM]
theorem a8E(l:List V):decide (oh l=lY)=qC l:=by unfold oh;cases qC l<;>decide
def yT(l:List V)(w:Int)(t:List (V×Int)):List (V×Int):=if qC (l.drop 1)=true then sG t (l.getD 0 V0) w else t
structure Tal(t:List (V×Int)):Prop where
 nd:(t.map (·.1)).Nodup
 pos:∀e∈t,0<e.2
 bnd:∀e∈t,e.2<=2000
theorem aqn{n:Nat}(hO:Ok n su)(J:Jb)(f:Nat){t:List (V×Int)}(ht:Tal t)(l:List V){w:Int}(h0:0<l.length)(hl:l.length<=au)(hw:0<w∧w<=2000):iW (n+1) (.kW 4) [lV l,.int .i64 w] (QS J f true none t) (.bool true) (QS J f true none (yT l w t)):=by
 have q1:dN X0 Qp T (iE n) LL 87 true (Ce Qp 87) 5 (xq Qp 87) ⟨uz (a8D J f) [9,10] [lV l,.int .i64 w],[],QS J f true none t⟩ .norm ⟨[(3,.val (.ptr 2 0 1)),(4,.val (lV l)),(5,.val (.int .i64 w))],[],QS J f true none t⟩:=yG hX hO (by kernel_rfl) .xx;have i0:fK 0 l.length:=aH h0;have a1:(1:Int)<=l.length:=by omega
 have e1:(l.take l.length)=l:=adw;have c1:decide (oh ((l.take ((l.length:Int).toNat)).drop (1:Int).toNat)=lY)=qC (l.drop 1):=by rw[a8E];simp
 have a2:((l.take ((l.length:Int).toNat)).drop (1:Int).toNat).length<=au:=by simp;omega
 have ev:=eqV (.tmp 13) (.tmp 14) (oh ((l.take ((l.length:Int).toNat)).drop (1:Int).toNat)) lY;have z01:(0:Int)<=1:=by decide
 have z02:(l.length:Int)<=(l.length:Int):=a9u _;unfold yT;cases hc:qC (l.drop 1)
 .rw[hc]at c1;rw[a0y (by simp)];have q2:dN X0 Qp T (iE n) LL 87 true (Ce Qp 87) 5 (AV Qp 87) ⟨[(3,.val (.ptr 2 0 1)),(4,.val (lV l)),(5,.val (.int .i64 w))],[],QS J f false none t⟩ .norm ⟨[(3,.val (.ptr 2 0 1)),(4,.val (lV l)),(5,.val (.int .i64 w)),(15,xl false)],[],QS J f false none t⟩:=
   yG hX hO (by kernel_rfl) (.o z01 (.o a1 (.o z02 (.o a2 (.q (.bool (decide (oh ((l.take ((l.length:Int).toNat)).drop (1:Int).toNat)=lY))) ev (.b c1 .xx))))))
  exact Ic hX (l:=4) rfl rfl (by kernel_rfl) q1 rfl q2 rfl
 rw[hc]at c1;rw[a0A rfl];by_cases hk:l.getD 0 V0∈t.map (·.1)
 .obtain⟨j,old,g1,g2,g3,g4⟩:=kV.Vy (ald _) ht.nd hk (n:=w) fun e he=>fQ (by have:=ht.pos e he;omega) (by have:=ht.bnd e he;omega);have q2:dN X0 Qp T (iE n) LL 87 true (Ce Qp 87) 5 (AV Qp 87) ⟨[(3,.val (.ptr 2 0 1)),(4,.val (lV l)),(5,.val (.int .i64 w))],[],QS J f false none t⟩ .norm ⟨[],[],[.cells (J.ps (.fn f [] [])),.map (Ji (kV.im t) j (.int .i64 (i64.wrap (old+w)))),.cells [.map 1],.mark,LRC J f false none]⟩:=
   yG hX hO (by kernel_rfl) (.o z01 (.o a1 (.o z02 (.o a2 (.q (.bool (decide (oh ((l.take ((l.length:Int).toNat)).drop (1:Int).toNat)=lY))) ev (.b c1 (.o i0 (.c (.int .i64 old) [] g1 (.a (.call (.int .i64 old) []) (.a (.ix j) (.o g2 (.o g3 .xx))))))))))))
  rw[g4]at q2;exact Ic hX (l:=4) rfl rfl (by kernel_rfl) q1 rfl q2 rfl
 obtain⟨g1,g2,g3,g4⟩:=kV.Vz hk (n:=w) (by rw[ahy];exact fQ (by omega) (by omega));have q2:dN X0 Qp T (iE n) LL 87 true (Ce Qp 87) 5 (AV Qp 87) ⟨[(3,.val (.ptr 2 0 1)),(4,.val (lV l)),(5,.val (.int .i64 w))],[],QS J f false none t⟩ .norm ⟨[],[],[.cells (J.ps (.fn f [] [])),.map (Ji (kV.im t++[(.agg (l.getD 0 V0).ps,.int .i64 0)]) (kV.im t).length (.int .i64 (i64.wrap (0+w)))),.cells [.map 1],.mark,LRC J f false none]⟩:=
  yG hX hO (by kernel_rfl) (.o z01 (.o a1 (.o z02 (.o a2 (.q (.bool (decide (oh ((l.take ((l.length:Int).toNat)).drop (1:Int).toNat)=lY))) ev (.b c1 (.o i0 (.q (.bool false) g1 (.a .calm (.o (kV.ck (l.getD 0 V0)) (.o g1 (.o g2 (.o g3 .xx)))))))))))))
 have g4:Ji (kV.im t++[(.agg (l.getD 0 V0).ps,.int .i64 0)]) (kV.im t).length (.int .i64 (i64.wrap (0+w)))=kV.im (sG t (l.getD 0 V0) w):=g4;rw[g4]at q2;exact Ic hX (l:=4) rfl rfl (by kernel_rfl) q1 rfl q2 rfl
open Go Tw Pv bQ
abbrev HN(J:Jb)(f:Nat)(t:List (V×Int))(now:List (S3×Int)):List (PB aG):=QS J f true none t++[.map (kS.im now)]
abbrev bLB:Code:=eP (eP (eU (eP (eU (eU QO)))))
abbrev bB1:Code:=eP (eP (eU (eU bLB)))
abbrev bIB:Code:=eP (eP (eU (eP (eU (eU bB1)))))
abbrev bX:Code:=eP (eU (eU bIB))
abbrev bL2:Code:=eP (eP (eU (eU (eU (eU QO)))))
abbrev bX2:Code:=eP (eU (eU bL2))
abbrev a4o(J:Jb)(c:Int)(a:Int):List (Nat×PE aG):=[(1,.val (.kW 4)),(2,.loc 0 0),(6,xi c),(7,.val (.map 6)),(21,xL 3 J.o),(22,xi J.o.length),(23,xi a),(29,.val (.iter 7))]
abbrev HI(J:Jb)(f:Nat)(t:List (V×Int))(now next:List (S3×Int))(seen:List Nat):List (PB aG):=HN J f t now++[.map (kS.im next),.dn 5 now.length seen]
structure NI(J:Jb)(a:Nat)(m:List (S3×Int)):Prop where
 nd:(m.map (·.1)).Nodup
 pos:∀e∈m,0<e.2
 dp:∀e∈m,Dp J a e.1
theorem NI.add{J:Jb}{a:Nat}{m:List (S3×Int)}(h:NI J a m){s:S3}{n:Int}(hs:Dp J a s)(hn:0<n):NI J a (sG m s n):=
 ⟨Gg h.nd s n,Po hn h.pos,fun e he=>by
  rcases a7e he with e1|⟨e',h1,h2⟩
  .rw[e1];exact hs
  .rw[<-h2];exact h.dp e' h1⟩
theorem Bo{κ:Type}[DecidableEq κ](q:Int):∀m:List (κ×Int),dH (fun _=>q) m=dH (fun _=>1) m*q
 | []=>by simp[dH]
 |e::m=>by simp only[dH,Bo q m,agC,acy]
theorem Iz{κ:Type}[DecidableEq κ]:∀{m:List (κ×Int)},(∀e∈m,0<e.2)->0<=dH (fun _=>1) m∧∀e∈m,e.2<=dH (fun _=>1) m
 | [],_=>⟨a9u _,fun e he=>by cases he⟩
 |x::m,h=>by
  obtain⟨h1,h2⟩:=Iz (m:=m) fun e he=>h e (by simp[he]);have h0:=h x (by simp);simp only[dH,acy];refine⟨by omega,fun e he=>?_⟩;rcases a1z.1 he with rfl|he
  .omega
  have:=h2 e he;omega
theorem a8G{κ:Type}[DecidableEq κ]{m:List (κ×Int)}{q:Nat}(hp:∀e∈m,0<e.2)(hq:1<=q)(hs:dH (fun _=>(q:Int)) m<=2000):∀e∈m,e.2<=2000:=fun e he=>by
 obtain⟨h1,h2⟩:=Iz hp;rw[Bo]at hs;have h3:=h2 e he;have:dH (fun _=>1) m<=dH (fun _=>1) m*(q:Int):=by have:=a9m (show(1:Int)<=q by omega) h1;omega
 omega
theorem Yk{J:Jb}(r:LI0)(m:List (S3×Int)):dH (y9 J (fun _=>1) r) m=dH (fun _=>(Ac J r:Int)) m:=by
 induction m with
 |nil=>rfl
 |cons e m ih=>simp only[dH,ih,EC]
theorem EH{J:Jb}{a:Nat}{r:LI0}{m:List (S3×Int)}(h:NI J a m)(hq:1<=Ac J r){s:S3}{n b:Int}(hn:0<n)(hs:dH (fun _=>(Ac J r:Int)) m+n*(Ac J r:Int)<=b)(hb:b<=2000):n<=2000∧(∀e∈m,e.2<=2000)∧∀e∈m,i64.wrap (e.2+n)=e.2+n:=by
 obtain⟨h1,h2⟩:=Iz h.pos;have h3:0<=dH (fun _=>(Ac J r:Int)) m:=by rw[Bo];exact aee h1 (by omega)
 have h4:n<=n*(Ac J r:Int):=by have:=a9m (show(1:Int)<=Ac J r by omega) (show 0<=n by omega);omega
 have h5:0<=n*(Ac J r:Int):=by omega
 have h6:=a8G h.pos hq (show dH (fun _=>(Ac J r:Int)) m<=2000 by omega);refine⟨by omega,h6,fun e he=>?_⟩;have:=h6 e he;have:=h.pos e he;exact fQ (by omega) (by omega)
theorem a2t{now:List (S3×Int)}{j:Nat}{st:S3}{w:Int}(h:now[j]? = some (st,w)):(kS.im now).length=now.length∧(kS.im now)[j]? = some (.agg st.ps,.int .i64 w):=by refine⟨kS.pK now,?_⟩;rw[kS.Bj,h];rfl
section
variable {n:Nat} {J:Jb} (hJ:jW J) {f:Nat} (t:List (V×Int)) (now:List (S3×Int)) (seen:List Nat) {a:Nat} {c:Int} {r:LI0} {st:S3} {w:Int} {j:Nat}
abbrev sX(J:Jb)(f:Nat)(t:List (V×Int))(now next:List (S3×Int))(c:Int)(a:Int)(st:S3)(w:Int)(js:List Nat):aU aG:=⟨jl (T.iC 136 7) ((31,.val (.bool true))::(30,.val (.dI [.bool true,.agg st.ps,.int .i64 w]))::a4o J c a),[J.ps (.fn f [] [])],HI J f t now next js⟩
abbrev sZ(J:Jb)(f:Nat)(t:List (V×Int))(now next:List (S3×Int))(c:Int)(a:Int)(st:S3)(js:List Nat):aU aG:=⟨a4o J c a,[J.ps (.fn f [] []),st.ps],HI J f t now next js⟩
abbrev wDi(J:Jb)(f:Nat)(t:List (V×Int))(now:List (S3×Int))(c:Int)(a:Int)(st:S3)(w:Int)(js:List Nat)(next:List (S3×Int))(i:Int)(x:List (Nat×PE aG)):aU aG:=⟨[(1,.val (.kW 4)),(2,.loc 0 0),(6,xi c),(7,.val (.map 6)),(8,.loc 1 0),(9,xi w),(21,xL 3 J.o),(22,xi J.o.length),(23,xi a),(29,.val (.iter 7)),(75,xi (J.s.getD c.toNat 0)),(76,xi i)]++x,[J.ps (.fn f [] []),st.ps],HI J f t now next js⟩
include hJ
theorem lDi(hr:J.o.drop a=c::r)(hd:Dp J a st)(hw:0<w){next:List (S3×Int)}(hN:NI J (a+1) next)(hg:¬decide (J.g.getD c.toNat 0>=0)=true)(hb:dH (fun _=>(Ac J r:Int)) next+w*(Ac J (c::r):Int)<=2000)(js:List Nat) :
  ∃next',NI J (a+1) next'∧(∀ψ,dH (y9 J ψ r) next'=dH (y9 J ψ r) next+w*y9 J ψ (c::r) st) ∧
   Nr (n+1) 136 2 5 (wDi J f t now c a st w js next 0 []) (.exit 5) (wDi J f t now c a st w js next' ((J.s.getD c.toNat 0).toNat:Nat) [(77,xl false)]):=by
 obtain⟨aT,hoc,wR,G9,hci,qF⟩:=jW.at_ hJ hr;have hz:=hJ.bY.sz _ (cu (s:=J.s) (k:=c.toNat) (by have:=qF.1;have:=qF.2;omega));have hri:∀c'∈r,fK c' J.s.length:=fun c' h=>(jW.o2 hJ).2.2 c' (by rw[<-wR]at h;exact a5L h);have hq:=(JX hJ hri).1;have pV:(Ac J (c::r):Int)=((J.s.getD c.toNat 0).toNat:Int)*(Ac J r:Int):=by
  have:(Bh J c).length=(J.s.getD c.toNat 0).toNat:=by unfold Bh;rw[a0y hg];simp
  rw[Ac,this,aez]
 let g:Nat->List (S3×Int)->List (S3×Int):=fun k y=>sG y (bJ J.D st c k) w
 have inv:=bK (g:=g) (m:=(J.s.getD c.toNat 0).toNat) (k:=0) (s:=next) (fun k y=>NI J (a+1) y∧∀ψ,dH (y9 J ψ r) y=dH (y9 J ψ r) next+w*bU (fun(j:Nat)=>y9 J ψ r (bJ J.D st c j)) (List.range k)) ⟨hN,fun ψ=>by simp[bU]⟩ (fun k y _ hk hy=>by obtain⟨h1,h2⟩:=hy;refine⟨h1.add (ng hJ hr hd ⟨by omega,by omega⟩) hw,fun ψ=>?_⟩;show dH (y9 J ψ r) (sG y _ w)=_;rw[zO,h2 ψ,aaw,Du,Int.mul_add];simp only[bU,Int.add_zero];omega)
 rw[a3T]at inv;refine⟨_,inv.1,fun ψ=>by rw[inv.2 ψ,abo hg],?_⟩;have bound:∀k y,k<(J.s.getD c.toNat 0).toNat->(∀ψ,dH (y9 J ψ r) y=dH (y9 J ψ r) next+w*bU (fun(j:Nat)=>y9 J ψ r (bJ J.D st c j)) (List.range k))->dH (fun _=>(Ac J r:Int)) y+w*(Ac J r:Int)<=2000:=fun k y hk hy=>by have h1:=hy fun _=>1;rw[Yk,Yk,jY (φ':=fun _=>(Ac J r:Int)) (fun _ _=>EC r _),xJ,a8Q]at h1;rw[h1];rw[pV]at hb;have h2:((k:Int)+1)*(Ac J r:Int)<=((J.s.getD c.toNat 0).toNat:Int)*(Ac J r:Int):=a8Y (by omega) (by omega);have h3:=a9m h2 (show 0<=w by omega);rw[agC,Int.mul_add,Int.one_mul]at h3;omega
 refine vS (σ:=List (S3×Int)) (N:=(J.s.getD c.toNat 0).toNat) (g:=g) (s0:=next) (st:=fun i y=>wDi J f t now c a st w js y i []) (fin:=fun y=>wDi J f t now c a st w js y (((J.s.getD c.toNat 0).toNat:Nat):Int) [(77,xl false)]) (fun k y=>NI J (a+1) y∧∀ψ,dH (y9 J ψ r) y=dH (y9 J ψ r) next+w*bU (fun(j:Nat)=>y9 J ψ r (bJ J.D st c j)) (List.range k)) (by kernel_rfl) (by unfold au;omega) ⟨hN,fun ψ=>by simp[bU]⟩ (fun k y hk hy=>?_) (fun k y hk hy m e p g9=>?_) (fun y _=>?_)
 .obtain⟨h1,h2⟩:=hy;refine⟨h1.add (ng hJ hr hd ⟨by omega,by omega⟩) hw,fun ψ=>?_⟩;show dH (y9 J ψ r) (sG y _ w)=_;rw[zO,h2 ψ,aaw,Du,Int.mul_add];simp only[bU,Int.add_zero];omega
 .obtain⟨h1,h2⟩:=hy;obtain⟨b1,b2,b3⟩:=EH h1 hq (s:=bJ J.D st c k) hw (bound k y hk h2) (a9u _);have t1:decide ((k:Int)<J.s.getD c.toNat 0)=true:=by rw[a0S];omega
  have ha:=JM (M:=n) (f:=f) (a:=[]) (cc:=[]) (H:=[]) J st c k hJ.d3 fun i hi=>JQ hJ hd ⟨by omega,by omega⟩ hi;have g9:dK X0 Qp T (iE (n+1)) LL 136 false _ 5 _ m (wDi J f t now c a st w js (sG y (bJ J.D st c k) w) _ []) e p:=g9;by_cases hk:bJ J.D st c k∈y.map (·.1)
  .obtain⟨jj,old,g1,g2,g3,g4⟩:=kS.Vy (a8B _) h1.nd hk (n:=w) b3;unfold wDi HI at g9;rw[<-g4]at g9;exact aN gJ (.b t1 (.fr [] ha (.c (.int .i64 old) [] g1 (.a (.call (.int .i64 old) []) (.a (.ix jj) (.o g2 (.o g3 (.go g9))))))))
  .obtain⟨g1,g2,g3,g4⟩:=kS.Vz hk (n:=w) (by rw[ahy];exact fQ (by omega) (by omega));unfold wDi HI at g9;rw[<-g4]at g9;exact aN gJ (.b t1 (.fr [] ha (.q (.bool false) g1 (.a .calm (.o (kS.ck (bJ J.D st c k)) (.o g1 (.o g2 (.o g3 (.go g9)))))))))
 .have t1:decide ((((J.s.getD c.toNat 0).toNat:Nat):Int)<J.s.getD c.toNat 0)=false:=by rw[a3b];omega
  exact aN gJ (.b t1 .ex)
end
open Go Tw Pv bQ
abbrev sH(J:Jb)(f:Nat)(t:List (V×Int))(now next:List (S3×Int))(c:Int)(a:Int)(js:List Nat):aU aG:=⟨a4o J c a,[J.ps (.fn f [] [])],HI J f t now next js⟩
section
variable {n:Nat} {J:Jb} (hJ:jW J) {f:Nat} (t:List (V×Int)) (now:List (S3×Int)) (seen:List Nat) {a:Nat} {c:Int} {r:LI0} {st:S3} {w:Int} {j:Nat}
include hJ
theorem alh(hr:J.o.drop a=c::r)(hd:Dp J a st)(hw:0<w){next:List (S3×Int)}(hN:NI J (a+1) next)(hj:now[j]? = some (st,w))(hb:dH (fun _=>(Ac J r:Int)) next+w*(Ac J (c::r):Int)<=2000) :
  ∃next' e s',NI J (a+1) next'∧(∀ψ,dH (y9 J ψ r) next'=dH (y9 J ψ r) next+w*y9 J ψ (c::r) st)∧(e=.norm∨e=.exit 3) ∧
   dN X0 Qp T (iE (n+1)) LL 136 false (Ce Qp 136) 5 bX (sX J f t now next c a st w (j::seen)) e s' ∧
   gW X0 (T.eX 136 (dS bIB)) s'=sH J f t now next' c a (j::seen):=by
 obtain⟨aT,hoc,wR,G9,hci,qF⟩:=jW.at_ hJ hr;have hz:=hJ.bY.sz _ (cu (s:=J.s) (k:=c.toNat) (by have:=qF.1;have:=qF.2;omega));have hri:∀c'∈r,fK c' J.s.length:=fun c' h=>(jW.o2 hJ).2.2 c' (by rw[<-wR]at h;exact a5L h);have hq:=(JX hJ hri).1;have hcG:fK c J.g.length:=by rw[hJ.gl];exact qF
 have ho:=a2t hj;by_cases hg:decide (J.g.getD c.toNat 0>=0)=true
 .have hl1:(Ac J (c::r):Int)=Ac J r:=by rw[Ac,Bh,a0A hg];simp
  rw[hl1]at hb;have hgv:0<=J.g.getD c.toNat 0:=by simpa using hg
  have hd2:=ng hJ hr hd ⟨hgv,hJ.gv c qF hgv⟩;obtain⟨b1,b2,b3⟩:=EH hN hq (s:=st) hw hb (a9u _);have ha:=JM (M:=n) (f:=f) (a:=[]) (cc:=[]) (H:=[]) J st c (J.g.getD c.toNat 0) hJ.d3 fun i hi=>JQ hJ hd ⟨hgv,hJ.gv c qF hgv⟩ hi;refine⟨sG next (bJ J.D st c (J.g.getD c.toNat 0)) w,.exit 3,sZ J f t now (sG next (bJ J.D st c (J.g.getD c.toNat 0)) w) c a st (j::seen),hN.add hd2 hw,fun ψ=>by rw[zO,a4l hg],.inr rfl,?_,by kernel_rfl⟩;unfold sZ HI;by_cases hk:bJ J.D st c (J.g.getD c.toNat 0)∈next.map (·.1)
  .obtain⟨jj,old,g1,g2,g3,g4⟩:=kS.Vy (a8B _) hN.nd hk (n:=w) b3;rw[<-g4];exact zQ hX gJ (by kernel_rfl) (.c (.dI [.agg st.ps,.int .i64 w]) [] ho (.o qF (.o hcG (.b hg (.fr [] ha (.c (.int .i64 old) [] g1 (.a (.call (.int .i64 old) []) (.a (.ix jj) (.o g2 (.o g3 (.r rfl)))))))))))
  .obtain⟨g1,g2,g3,g4⟩:=kS.Vz hk (n:=w) (by rw[ahy];exact fQ (by omega) (by omega));rw[<-g4];exact zQ hX gJ (by kernel_rfl) (.c (.dI [.agg st.ps,.int .i64 w]) [] ho (.o qF (.o hcG (.b hg (.fr [] ha (.q (.bool false) g1 (.a .calm (.o (kS.ck (bJ J.D st c (J.g.getD c.toNat 0))) (.o g1 (.o g2 (.o g3 (.r rfl))))))))))))
 have hg':decide (J.g.getD c.toNat 0>=0)=false:=by simpa using hg
 have vI:((J.s.getD c.toNat 0).toNat:Int)=J.s.getD c.toNat 0:=by omega
 have pV:(Ac J (c::r):Int)=J.s.getD c.toNat 0*(Ac J r:Int):=by
  have:(Bh J c).length=(J.s.getD c.toNat 0).toNat:=by unfold Bh;rw[a0y hg];simp
  rw[Ac,this,aez,vI]
 have hs:=a8q (M:=n) (f:=f) (a:=[]) (cc:=[]) (H:=[]) J st c hJ.d3 (fun k hk h=>⟨by simpa using h,(hd k hk).1.1⟩);cases Bg:jV J.D st c
 .rw[Bg]at hs;have hd2:=Vq hJ hr hd Bg;have hm:0<w*J.s.getD c.toNat 0:=Int.mul_pos hw (by omega);rw[pV,<-Int.mul_assoc]at hb;obtain⟨b1,b2,b3⟩:=EH hN hq (s:=st) hm hb (a9u _);have hwm:i64.wrap (w*J.s.getD c.toNat 0)=w*J.s.getD c.toNat 0:=fQ (by omega) (by omega);refine⟨sG next st (w*J.s.getD c.toNat 0),.exit 3,sZ J f t now (sG next st (w*J.s.getD c.toNat 0)) c a st (j::seen),hN.add hd2 hm,fun ψ=>by rw[zO,agl hg Bg,vI,Int.mul_assoc],.inr rfl,?_,by kernel_rfl⟩;unfold sZ HI;by_cases hk:st∈next.map (·.1)
  .obtain⟨jj,old,g1,g2,g3,g4⟩:=kS.Vy (a8B _) hN.nd hk (n:=w*J.s.getD c.toNat 0) b3;rw[<-g4,<-hwm];exact zQ hX gJ (by kernel_rfl) (.c (.dI [.agg st.ps,.int .i64 w]) [] ho (.o qF (.o hcG (.b hg' (.fr [] hs (.b (rfl:(!false)=true) (.c (.int .i64 old) [] g1 (.a (.call (.int .i64 old) []) (.a (.ix jj) (.o g2 (.o g3 (.r rfl))))))))))))
  .obtain⟨g1,g2,g3,g4⟩:=kS.Vz hk (n:=w*J.s.getD c.toNat 0) (by rw[ahy];exact hwm);rw[<-g4,<-hwm];exact zQ hX gJ (by kernel_rfl) (.c (.dI [.agg st.ps,.int .i64 w]) [] ho (.o qF (.o hcG (.b hg' (.fr [] hs (.b (rfl:(!false)=true) (.q (.bool false) g1 (.a .calm (.o (kS.ck st) (.o g1 (.o g2 (.o g3 (.r rfl)))))))))))))
 .rw[Bg]at hs;obtain⟨next',h1,h2,h3⟩:=lDi (n:=n) hJ (f:=f) t now hr hd hw hN hg hb (j::seen);refine⟨next',.norm,_,h1,h2,.inl rfl,zQ (ps1:=wDi J f t now c a st w (j::seen) next' ((J.s.getD c.toNat 0).toNat:Nat) [(77,xl false)]) hX gJ (by kernel_rfl) (.c (.dI [.agg st.ps,.int .i64 w]) [] ho (.o qF (.o hcG (.b hg' (.fr [] hs (.b (rfl:(!true)=false) (.w h3 (.r rfl)))))))),by kernel_rfl⟩
end
end Go.Proofs.YtmobpoiejckagaaGreat
namespace Pv
open Go Tw
section
variable {X:kX} {P:LI1} {T:qL} {call:aZ} {cd:vK} {L f nt B:Nat}
theorem aK.Bq{a b:Code}{ps s1:aU X.Γ}{Q:Ex->aU X.Γ->Prop}(hn:o7 a=true)(ha:dN X P T call L f false nt B a ps .norm s1)(hb:aK X P T call cd L f nt B b s1 Q):aK X P T call cd L f nt B (.seq a b) ps Q:=
 aK.seq (R:=fun e s=>e=.norm∧s=s1) (dN.dem hn ha ⟨rfl,rfl⟩) (fun s h=>by obtain⟨_,rfl⟩:=h;exact hb) (fun i s h=>by cases h.1) (fun s h=>by cases h.1)
theorem aK.step{c:Code}{ps:aU X.Γ}{e:Ex}{ps1:aU X.Γ}{Q:Ex->aU X.Γ->Prop}(hn:o7 c=true)(ha:dN X P T call L f false nt B c ps e ps1)(hq:Q e ps1):aK X P T call cd L f nt B c ps Q:=dN.dem hn ha hq
end
end Pv
namespace Go.Proofs.YtmobpoiejckagaaGreat
open Go Tw Pv bQ
theorem Le{α:Type}[DecidableEq α](φ:α->Int)(p:α->Bool):∀l:List α,bU φ l=bU φ (l.filter p)+bU φ (l.filter fun a=>!p a)
 | []=>rfl
 |a::l=>by
  rw[bU,Le φ p l];cases h:p a
  .rw[adC (by simp[h]),adI (by simp[h]),bU];omega
  rw[adI h,adC (by simp[h]),bU];omega
theorem VD{α:Type}[DecidableEq α]{φ:α->Int}:∀{l:List α},(∀a∈l,0<=φ a)->0<=bU φ l
 | [],_=>a9u _
 |a::l,h=>by have:=VD (l:=l) fun b hb=>h b (by simp[hb]);have:=h a (by simp);rw[bU];omega
theorem JZ{n:Nat}{l:List Nat}(hn:l.Nodup)(hl:∀j∈l,j<n):((List.range n).filter fun j=>l.contains j).Perm l:=
 (a7B (List.nodup_range.filter _) hn).2 fun j=>by rw[a8T,a4V,List.contains_iff_mem];exact⟨fun h=>h.2,fun h=>⟨hl j h,h⟩⟩
theorem VE{n:Nat}{φ:Nat->Int}{l:List Nat}(hn:l.Nodup)(hl:∀j∈l,j<n)(hp:∀j,j<n->0<=φ j):bU φ l<=bU φ (List.range n):=by rw[Le φ (fun j=>l.contains j) (List.range n),Jt φ (JZ hn hl)];have:=VD (φ:=φ) (l:=(List.range n).filter fun j=>!l.contains j) fun j hj=>hp j (a4V.1 (a8T.1 hj).1);omega
theorem Qh{n:Nat}{φ:Nat->Int}{l:List Nat}(hn:l.Nodup)(hl:∀j∈l,j<n)(ha:∀j,j<n->j∈l):bU φ l=bU φ (List.range n):=
 (Jt φ ((a7B aej hn).2 fun j=>⟨fun h=>ha j (a4V.1 h),fun h=>a4V.2 (hl j h)⟩)).symm
abbrev nowAt(now:List (S3×Int))(j:Nat):S3×Int:=now.getD j (⟨0,0,0⟩,0)
theorem IB{φ:S3->Int}(now:List (S3×Int)):bU (fun j=>(nowAt now j).2*φ (nowAt now j).1) (List.range now.length)=dH φ now:=by
 have h1:dH φ now=bU (fun e:S3×Int=>e.2*φ e.1) now:=by
  induction now with
  |nil=>rfl
  |cons e m ih=>simp only[dH,bU,ih]
 have h2:now=(List.range now.length).map fun j=>nowAt now j:=by refine(oM (d:=(⟨⟨0,0,0⟩,0⟩:S3×Int)) (by simp)).2 fun k hk=>?_;simp[List.getD,hk]
 rw[h1]
 conv=>rhs;rw[h2]
 rw[uS]
theorem Yl{now:List (S3×Int)}{j:Nat}{e:S3×Int}(h:now[j]? = some e):nowAt now j=e∧j<now.length∧e∈now:=by obtain⟨h1,h2⟩:=a08.1 h;exact⟨by simp[nowAt,List.getD,h],h1,h2▸a4X h1⟩
section
variable {n:Nat} {J:Jb} (hJ:jW J) {f:Nat} (t:List (V×Int)) (now:List (S3×Int)) {a:Nat} {c:Int} {r:LI0}
def InS(J:Jb)(f:Nat)(t:List (V×Int))(now:List (S3×Int))(a:Nat)(c:Int)(r:LI0)(seen:List Nat)(s:aU aG):Prop:=
 seen.Nodup∧(∀j∈seen,j<now.length)∧∃next,NI J (a+1) next∧(∀ψ,dH (y9 J ψ r) next=bU (fun j=>(nowAt now j).2*y9 J ψ (c::r) (nowAt now j).1) seen)∧gW X0 (T.eX 136 (dS bIB)) s=sH J f t now next c a seen
structure yJ(J:Jb)(a:Nat)(now:List (S3×Int)):Prop where
 i:NI J a now
 s:∀ψ,dH (y9 J ψ (J.o.drop a)) now=y9 J ψ J.o (fA J.D)
include hJ
theorem agx:(Ac J J.o:Int)<=2000:=by have h1:=(JX hJ (jW.o2 hJ).2.2).2;have hw:=DT hJ.bY.sz hJ.ord;have hm:=hJ.bY.many;omega
theorem Nz(h:yJ J a now):dH (fun _=>(Ac J (J.o.drop a):Int)) now<=2000:=by have:=h.s fun _=>1;rw[Yk,EC]at this;have:=agx hJ;omega
theorem Ym(a:Nat):1<=Ac J (J.o.drop a):=(JX hJ fun c hc=>(jW.o2 hJ).2.2 c (a5L hc)).1
theorem a2u(h:yJ J a now):now.length<=2000∧∀e∈now,e.2<=2000:=by
 have h1:=a8G h.i.pos (Ym hJ a) (Nz hJ now h);obtain⟨h2,h3⟩:=Iz h.i.pos;have h4:=Nz hJ now h;rw[Bo]at h4;have h5:=a9m (show(1:Int)<=Ac J (J.o.drop a) by have:=Ym hJ a;omega) h2;have h6:∀{m:List (S3×Int)},(∀e∈m,0<e.2)->(m.length:Int)<=dH (fun _=>1) m:=by
  intro m
  induction m with
  |nil=>intro _;exact a9u _
  |cons e m ih=>
   intro hp;have:=ih fun e he=>hp e (by simp[he]);have:=hp e (by simp);simp only[dH,a4M,acy];omega
 have:=h6 h.i.pos;exact⟨by omega,h1⟩
set_option maxRecDepth 20000 in
theorem inLoop(hr:J.o.drop a=c::r)(h:yJ J a now):aK X0 Qp T (iE (n+1)) D5 LL 136 (Ce Qp 136) 5 (.block 2 (.loop bIB)) (sH J f t now [] c a [])
  fun e s=>e=.norm∧∃next seen,NI J (a+1) next∧(∀ψ,dH (y9 J ψ r) next=dH (y9 J ψ (c::r)) now)∧s={ sH J f t now next c a seen with env:=jl (T.iC 136 7) ((31,.val (.bool false))::(30,.val (.dI [.bool false]))::a4o J c a) }:=by
 have e0:bIB=.seq (.region 7 (a7m (eP bIB)) false) (.seq (.cond (.tmp 31) .skip (.exit 2)) (.block 3 bX)):=by kernel_rfl
 rw[e0];have hlen:=a2u hJ now h;have hlL:(kS.im now).length=now.length:=kS.pK now;have hql:=(JX hJ (r:=c::r) fun c' hc=>(jW.o2 hJ).2.2 c' (by rw[<-hr]at hc;exact a5L hc)).1;refine V9 hX (n:=now.length) (b:=7) (r:=5) (it:=29) (nx:=30) (mo:=31) (es:=kS.im now) (fun seen s=>InS J f t now a c r seen s) (by kernel_rfl) (a88 (by kernel_rfl)) (a88 (by kernel_rfl)) hlL (by unfold LL;omega)
  ⟨a6f,(fun j hj=>(by cases hj)),[],⟨a6f,(fun e he=>(by cases he)),(fun e he=>(by cases he))⟩,(fun ψ=>rfl),(by kernel_rfl)⟩ (fun seen s hi=>?_)
 obtain⟨jF,aT,next,h1,h2,h3⟩:=hi;rw[<-e0];refine⟨_,h3,by kernel_rfl,by kernel_rfl,by kernel_rfl,fun ho=>⟨by kernel_rfl,next,seen,h1,fun ψ=>?_,rfl⟩,fun j e hj he=>⟨by kernel_rfl,?_⟩⟩
 .rw[h2,Qh jF aT ho,IB]
 .rw[kS.Bj,a09]at he;obtain⟨⟨st,w⟩,sF,rfl⟩:=he;obtain⟨q1,q2,q3⟩:=Yl sF;have Gp:(j::seen).Nodup:=a4U.2 ⟨hj,jF⟩;have Gq:∀k∈j::seen,k<now.length:=fun k hk=>by
   rcases a1z.1 hk with rfl|hk
   .exact q2
   .exact aT k hk
  have hb:dH (fun _=>(Ac J r:Int)) next+w*(Ac J (c::r):Int)<=2000:=by
   have e1:=h2 fun _=>1;rw[Yk]at e1;have e2:=VE (φ:=fun j=>(nowAt now j).2*y9 J (fun _=>1) (c::r) (nowAt now j).1) Gp Gq fun k hk=>by have:=h.i.pos _ (fC (d:=(⟨⟨0,0,0⟩,0⟩:S3×Int)) hk);rw[EC];exact aee (afg this) (Int.natCast_nonneg _)
   rw[IB,bU,q1]at e2;have e3:=Nz hJ now h;rw[hr]at e3;rw[Yk]at e2;have e4:y9 J (fun _=>1) (c::r) st=(Ac J (c::r):Int):=EC _ _;simp only[e4]at e2;omega
  obtain⟨next',e',s',g1,g2,g3,g4,g5⟩:=alh (n:=n) hJ (f:=f) t now seen (st:=st) (w:=w) (j:=j) hr (h.i.dp _ q3) (h.i.pos _ q3) h1 sF hb;refine aK.step (by kernel_rfl) g4 ⟨g3,Gp,Gq,next',g1,fun ψ=>?_,g5⟩;rw[g2,h2,bU,q1,aef]
end
open Go Tw Pv bQ
abbrev alj(J:Jb)(a:Int)(x:List (Nat×PE aG)):List (Nat×PE aG):=[(1,.val (.kW 4)),(2,.loc 0 0),(4,.val (.map 5)),(21,xL 3 J.o),(22,xi J.o.length),(23,xi a)]++x
abbrev VF(J:Jb)(f:Nat)(t:List (V×Int))(now:List (S3×Int))(a:Int)(x:List (Nat×PE aG)):aU aG:=⟨alj J a x,[J.ps (.fn f [] [])],HN J f t now⟩
abbrev ntE:Nat:=Ce Qp 136
abbrev ExE(n:Nat)(c:Code)(s:aU aG)(e:Ex)(s':aU aG):Prop:=dN X0 Qp T (iE (n+1)) LL 136 false ntE 5 c s e s'
abbrev ExD(n:Nat)(c:Code)(s:aU aG)(Q:Ex->aU aG->Prop):Prop:=aK X0 Qp T (iE (n+1)) D5 LL 136 ntE 5 c s Q
section
variable {n:Nat} {J:Jb} (hJ:jW J) {f:Nat} (t:List (V×Int)) {now:List (S3×Int)} {a:Nat}
include hJ
set_option maxRecDepth 20000 in
theorem agy(h:yJ J a now)(aT:a<J.o.length):ExD n bLB (VF J f t now a []) fun e s=>e=.norm∧∃Ko,yJ J (a+1) Ko∧lK 5 [.gc [6]] (gW X0 (T.eX 136 (dS bLB)) s)=some (VF J f t Ko ((a+1:Nat):Int) []):=by
 have hr:J.o.drop a=J.o.getD a 0::J.o.drop (a+1):=by rw[a6E aT];simp[List.getD,a0d aT]
 have Ry:J.o.length<=6:=by rw[(jW.o2 hJ).2.1];exact hJ.bY.len
 have t1:decide ((a:Int)<(J.o.length:Int))=true:=bD aT;have e0:bLB=.seq (eP bLB) (.seq (.cond (.tmp 24) .skip (.exit 0)) (.seq (.block 1 bB1) (eU (eU (eU bLB))))):=by kernel_rfl
 have e1:bB1=.seq (eP bB1) (.seq (eP (eU bB1)) (.seq (.seq (eP (eP (eU (eU bB1)))) (.block 2 (.loop bIB))) (eU (eU (eU bB1))))):=by kernel_rfl
 have x3:ExE n (eP bLB) (VF J f t now a []) .norm (VF J f t now a [(24,.val (.bool (decide ((a:Int)<(J.o.length:Int)))))]):=zQ hX gJ (by kernel_rfl) (.r rfl);have hc:Aa (VF J f t now a [(24,.val (.bool (decide ((a:Int)<(J.o.length:Int)))))]).env (.tmp 24)=some (.bool true):=by rw[<-t1];kernel_rfl
 have i1:fK (a:Int) J.o.length:=aH aT;have x4:ExE n (eP bB1) (VF J f t now a [(24,.val (.bool (decide ((a:Int)<(J.o.length:Int)))))]) .norm ⟨[(1,.val (.kW 4)),(2,.loc 0 0),(4,.val (.map 5)),(6,xi (J.o.getD a 0)),(21,xL 3 J.o),(22,xi J.o.length),(23,xi a)],[J.ps (.fn f [] [])],HN J f t now⟩:=zQ hX gJ (by kernel_rfl) (.o i1 (.r rfl));have x5:ExE n (eP (eU bB1)) ⟨[(1,.val (.kW 4)),(2,.loc 0 0),(4,.val (.map 5)),(6,xi (J.o.getD a 0)),(21,xL 3 J.o),(22,xi J.o.length),(23,xi a)],[J.ps (.fn f [] [])],HN J f t now⟩ .norm ⟨[(1,.val (.kW 4)),(2,.loc 0 0),(4,.val (.map 5)),(6,xi (J.o.getD a 0)),(7,.val (.map 6)),(21,xL 3 J.o),(22,xi J.o.length),(23,xi a)],[J.ps (.fn f [] [])],HN J f t now++[.map []]⟩:=zQ hX gJ (by kernel_rfl) (.r rfl);have x6:ExE n (eP (eP (eU (eU bB1)))) ⟨[(1,.val (.kW 4)),(2,.loc 0 0),(4,.val (.map 5)),(6,xi (J.o.getD a 0)),(7,.val (.map 6)),(21,xL 3 J.o),(22,xi J.o.length),(23,xi a)],[J.ps (.fn f [] [])],HN J f t now++[.map []]⟩ .norm ⟨a4o J (J.o.getD a 0) a,[J.ps (.fn f [] [])],HN J f t now++[.map (kS.im []),.dn 5 (kS.im now).length []]⟩:=zQ hX gJ (by kernel_rfl) (.r rfl);rw[kS.pK now]at x6;rw[e0];refine aK.Bq (by kernel_rfl) x3 (aK.seq (R:=fun e s=>e=.norm∧s=VF J f t now a [(24,.val (.bool (decide ((a:Int)<(J.o.length:Int)))))]) (aK.cond (t:=true) hc (aK.step (by kernel_rfl) (zQ hX gJ (an:=.n) (by kernel_rfl) (.r rfl)) ⟨rfl,rfl⟩)) (fun s hs=>?_) (fun i s h=>by cases h.1) (fun s h=>by cases h.1));obtain⟨_,rfl⟩:=hs;refine aK.seq (R:=fun e s=>e=.norm∧∃next seen,yJ J (a+1) next∧s=⟨[(1,.val (.kW 4)),(2,.loc 0 0),(4,.val (.map 6)),(21,xL 3 J.o),(22,xi J.o.length),(23,xi a)],[J.ps (.fn f [] [])],HI J f t now next seen⟩) ?_ (fun s hs=>?_) (fun i s h=>by cases h.1) (fun s h=>by cases h.1)
 .refine aK.block ?_;rw[e1];refine(aK.Bq (by kernel_rfl) x4 (aK.Bq (by kernel_rfl) x5 (aK.seq (R:=fun e s=>e=.norm∧∃next seen,NI J (a+1) next∧(∀ψ,dH (y9 J ψ (J.o.drop (a+1))) next=dH (y9 J ψ (J.o.getD a 0::J.o.drop (a+1))) now)∧s={ sH J f t now next (J.o.getD a 0) a seen with env:=jl (T.iC 136 7) ((31,.val (.bool false))::(30,.val (.dI [.bool false]))::a4o J (J.o.getD a 0) a) }) (Q:=fun e s=>e=.norm∧∃next seen,yJ J (a+1) next∧s=⟨[(1,.val (.kW 4)),(2,.loc 0 0),(4,.val (.map 6)),(21,xL 3 J.o),(22,xi J.o.length),(23,xi a)],[J.ps (.fn f [] [])],HI J f t now next seen⟩) (aK.Bq (by kernel_rfl) x6 (inLoop (n:=n) hJ t now hr h)) (fun s hs=>?_) (fun i s h=>by cases h.1) (fun s h=>by cases h.1)))).mono fun e s h=>?_
  .obtain⟨_,next,seen,g1,g2,rfl⟩:=hs;refine aK.step (by kernel_rfl) (zQ (ps1:=⟨[(1,.val (.kW 4)),(2,.loc 0 0),(4,.val (.map 6)),(21,xL 3 J.o),(22,xi J.o.length),(23,xi a)],[J.ps (.fn f [] [])],HI J f t now next seen⟩) hX gJ (an:=.n) (by kernel_rfl) (.r rfl)) ⟨rfl,next,seen,⟨g1,fun ψ=>?_⟩,rfl⟩;rw[g2,<-hr,h.s]
  obtain⟨rfl,h2⟩:=h;exact⟨rfl,h2⟩
 obtain⟨_,next,seen,g1,rfl⟩:=hs;refine aK.step (by kernel_rfl) (zQ (ps1:=⟨[(1,.val (.kW 4)),(2,.loc 0 0),(4,.val (.map 6)),(21,xL 3 J.o),(22,xi J.o.length),(23,xi (i64.wrap ((a:Int)+1)))],[J.ps (.fn f [] [])],HI J f t now next seen⟩) hX gJ (an:=.n) (by kernel_rfl) (.r rfl)) ⟨rfl,next,g1,?_⟩;rw[yF (by unfold au;omega)]
 kernel_rfl
set_option maxRecDepth 20000 in
theorem a8H:ExD n bLB (VF J f t now J.o.length []) fun e s=>e=.exit 0∧s=VF J f t now J.o.length [(24,.val (.bool (decide ((J.o.length:Int)<(J.o.length:Int)))))]:=by
 have t1:decide ((J.o.length:Int)<(J.o.length:Int))=false:=fO _;have e0:bLB=.seq (eP bLB) (.seq (.cond (.tmp 24) .skip (.exit 0)) (.seq (.block 1 bB1) (eU (eU (eU bLB))))):=by kernel_rfl
 have x3:ExE n (eP bLB) (VF J f t now J.o.length []) .norm (VF J f t now J.o.length [(24,.val (.bool (decide ((J.o.length:Int)<(J.o.length:Int)))))]):=zQ hX gJ (by kernel_rfl) (.r rfl);have hc:Aa (VF J f t now J.o.length [(24,.val (.bool (decide ((J.o.length:Int)<(J.o.length:Int)))))]).env (.tmp 24)=some (.bool false):=by rw[<-t1];kernel_rfl
 rw[e0];refine aK.Bq (by kernel_rfl) x3 (aK.seq (R:=fun e s=>e=.exit 0∧s=VF J f t now J.o.length [(24,.val (.bool (decide ((J.o.length:Int)<(J.o.length:Int)))))]) (aK.cond (t:=false) hc (aK.step (by kernel_rfl) (zQ hX gJ (an:=.n) (by kernel_rfl) (.r rfl)) ⟨rfl,rfl⟩)) (fun s hs=>by cases hs.1) (fun i s h=>h) (fun s h=>by cases h.1))
set_option maxRecDepth 20000 in
theorem abx(h:yJ J 0 now):ExD n (.block 0 (.loop bLB)) (VF J f t now 0 []) fun e s=>e=.norm∧∃Ko,yJ J J.o.length Ko∧s=VF J f t Ko J.o.length [(24,.val (.bool (decide ((J.o.length:Int)<(J.o.length:Int)))))]:=by
 have Ry:J.o.length<=6:=by rw[(jW.o2 hJ).2.1];exact hJ.bY.len
 refine aK.block ?_;refine aK.loop (fun k s=>∃a Ko gs,a+k=J.o.length∧yJ J a Ko∧lK 5 gs (gW X0 (T.eX 136 (dS bLB)) s)=some (VF J f t Ko (a:Int) [])) (fun k s hi=>?_) (k:=J.o.length) ⟨0,now,[],by omega,h,by kernel_rfl⟩ (by unfold LL;omega);obtain⟨a,Ko,gs,hk,h1,h2⟩:=hi;refine aK.ghost hX h2 ?_;rcases a4N a J.o.length with aT|EW
 .refine(agy (n:=n) hJ t h1 aT).mono fun e s h3=>?_;obtain⟨rfl,aqu,h4,h5⟩:=h3;exact⟨k-1,by omega,a+1,aqu,_,by omega,h4,h5⟩
 have:a=J.o.length:=by omega
 subst this;refine(a8H (n:=n) hJ t).mono fun e s h3=>?_;obtain⟨rfl,rfl⟩:=h3;dsimp only;rw[a0A rfl];exact⟨rfl,Ko,h1,rfl⟩
end
open Go Tw Pv bQ
def Yn(φ:V->Int)(l:List V):Int:=if qC (l.drop 1)=true then φ (l.getD 0 V0)else 0
theorem agz(φ:V->Int)(l:List V)(w:Int)(t:List (V×Int)):dH φ (yT l w t)=dH φ t+w*Yn φ l:=by
 unfold yT Yn;cases qC (l.drop 1)
 .rw[a0y (by simp),a0y (by simp)];omega
 rw[a0A rfl,a0A rfl,zO]
abbrev sH2(J:Jb)(f:Nat)(t:List (V×Int))(now:List (S3×Int))(seen:List Nat):aU aG:=⟨[(1,.val (.kW 4)),(2,.loc 0 0),(94,.val (.iter 6))],[J.ps (.fn f [] [])],QS J f true none t++[.map (kS.im now),.dn 5 now.length seen]⟩
structure a0n(t:List (V×Int)):Prop where
 nd:(t.map (·.1)).Nodup
 pos:∀e∈t,0<e.2
theorem a0n.y{t:List (V×Int)}(h:a0n t)(l:List V){w:Int}(hw:0<w):a0n (yT l w t):=by
 unfold yT;split
 .exact⟨Gg h.nd _ _,Po hw h.pos⟩
 exact h
section
variable {n:Nat} {J:Jb} (hJ:jW J) {f:Nat} {now:List (S3×Int)}
def aqv(J:Jb)(f:Nat)(now:List (S3×Int))(seen:List Nat)(s:aU aG):Prop:=
 seen.Nodup∧(∀j∈seen,j<now.length)∧∃t,a0n t∧(∀φ,dH φ t=bU (fun j=>(nowAt now j).2*Yn φ (aV J.D (nowAt now j).1)) seen)∧gW X0 (T.eX 136 (dS bL2)) s=sH2 J f t now seen
theorem alk(l:List V):0<=Yn (fun _=>1) l∧Yn (fun _=>1) l<=1:=by unfold Yn;split<;>simp
include hJ
theorem agA(h:yJ J J.o.length now){seen:List Nat}(jF:seen.Nodup)(aT:∀j∈seen,j<now.length){t:List (V×Int)}(ht:a0n t)(hs:∀φ,dH φ t=bU (fun j=>(nowAt now j).2*Yn φ (aV J.D (nowAt now j).1)) seen):Tal t:=by
 refine⟨ht.nd,ht.pos,fun e he=>?_⟩;have h1:=(Iz ht.pos).2 e he;have hp:∀j,j<now.length->0<(nowAt now j).2:=fun k hk=>h.i.pos _ (fC (d:=(⟨⟨0,0,0⟩,0⟩:S3×Int)) hk);have h2:=VE (φ:=fun j=>(nowAt now j).2*Yn (fun _=>1) (aV J.D (nowAt now j).1)) jF aT fun k hk=>aee (afg (hp k hk)) (alk _).1;have h3:bU (fun j=>(nowAt now j).2*Yn (fun _=>1) (aV J.D (nowAt now j).1)) (List.range now.length)<=bU (fun j=>(nowAt now j).2*1) (List.range now.length):=by
  have:∀l:List Nat,(∀j∈l,j<now.length)->bU (fun j=>(nowAt now j).2*Yn (fun _=>1) (aV J.D (nowAt now j).1)) l<=bU (fun j=>(nowAt now j).2*1) l:=by
   intro l
   induction l with
   |nil=>intro _;exact a9u _
   |cons j l ih=>
    intro hl;have:=ih fun k hk=>hl k (by simp[hk]);have:=a9m (alk (aV J.D (nowAt now j).1)).2 (afg (hp j (hl j (by simp))));simp only[bU];omega
  exact this _ fun j hj=>a4V.1 hj
 rw[IB (φ:=fun _=>1)]at h3;have h4:=Nz hJ now h;rw[List.drop_length]at h4;have h4:dH (fun _=>1) now<=2000:=h4;rw[<-hs]at h2;omega
set_option maxRecDepth 20000 in
theorem a4p(hO:Ok n su)(h:yJ J J.o.length now)(hD:0<J.D.length):aK X0 Qp T (iE (n+1)) D5 LL 136 ntE 5 (.block 7 (.loop bL2)) (sH2 J f [] now [])
  fun e s=>e=.norm∧∃t seen,a0n t∧(∀φ,dH φ t=dH (fun st=>Yn φ (aV J.D st)) now)∧s={ sH2 J f t now seen with env:=jl (T.iC 136 23) ((96,.val (.bool false))::(95,.val (.dI [.bool false]))::(sH2 J f t now seen).env) }:=by
 have e0:bL2=.seq (.region 23 (a7m (eP bL2)) false) (.seq (.cond (.tmp 96) .skip (.exit 7)) (.block 8 bX2)):=by kernel_rfl
 rw[e0];have hlen:=a2u hJ now h;refine V9 hX (n:=now.length) (b:=6) (r:=5) (it:=94) (nx:=95) (mo:=96) (es:=kS.im now) (fun seen s=>aqv J f now seen s) (by kernel_rfl) (a88 (by kernel_rfl)) (a88 (by kernel_rfl)) (kS.pK now) (by unfold LL;omega)
  ⟨a6f,(fun j hj=>(by cases hj)),[],⟨a6f,(fun e he=>(by cases he))⟩,(fun φ=>rfl),(by kernel_rfl)⟩ (fun seen s hi=>?_)
 obtain⟨jF,aT,t,h1,h2,h3⟩:=hi;rw[<-e0];refine⟨_,h3,by kernel_rfl,by kernel_rfl,by kernel_rfl,fun ho=>⟨by kernel_rfl,t,seen,h1,fun φ=>?_,rfl⟩,fun j e hj he=>⟨by kernel_rfl,?_⟩⟩
 .rw[h2,Qh jF aT ho,IB (φ:=fun st=>Yn φ (aV J.D st))]
 .rw[kS.Bj,a09]at he;obtain⟨⟨st,w⟩,sF,rfl⟩:=he;obtain⟨q1,q2,q3⟩:=Yl sF;have Gp:(j::seen).Nodup:=a4U.2 ⟨hj,jF⟩;have Gq:∀k∈j::seen,k<now.length:=fun k hk=>by
   rcases a1z.1 hk with rfl|hk
   .exact q2
   .exact aT k hk
  have ho:=a2t sF;have pV:(aV J.D st).length=J.D.length:=by simp[aV]
  have hw:=h.i.pos _ q3;have hc:=a2p (M:=n) (f:=f) J st hJ.d3 fun k hk=>(JR hJ (h.i.dp _ q3) hk).2;have hd3:=hJ.d3;have hy:=aqn (n:=n) hO J f (agA hJ h jF aT h1 h2) (aV J.D st) (w:=w) (by omega) (by unfold au;omega) ⟨hw,hlen.2 _ q3⟩;refine aK.step (e:=.norm) (by kernel_rfl) (zQ (ps1:=⟨[(1,.val (.kW 4)),(2,.loc 0 0),(94,.val (.iter 6)),(106,xl false)],[J.ps (.fn f [] []),st.ps],QS J f true none (yT (aV J.D st) w t)++[.map (kS.im now),.dn 5 now.length (j::seen)]⟩) hX gJ (by kernel_rfl) (.c (.dI [.agg st.ps,.int .i64 w]) [] ho (.fr [] hc (.fr [0,1,2,3,4] hy (.b (rfl:(!true)=false) (.r rfl)))))) ⟨.inl rfl,Gp,Gq,yT (aV J.D st) w t,h1.y _ hw,fun φ=>?_,by kernel_rfl⟩;rw[agz,h2,bU,q1,aef]
def a8I(J:Jb)(t:List (V×Int)):Prop:=a0n t∧∀φ,dH φ t=bU (fun q=>Yn φ (J.D.map fun d=>qE d q)) (LV J)
omit hJ in
theorem a4q(hJ:jW J):yJ J 0 [(fA J.D,1)]:=by
 refine⟨⟨by simp,fun e he=>?_,fun e he=>?_⟩,fun ψ=>?_⟩
 .rw[a2O.1 he];show(0:Int)<1;decide
 .rw[a2O.1 he];exact Yh hJ
 simp[dH]
set_option maxRecDepth 20000 in
theorem alm(hO:Ok n su)(hD:0<J.D.length):aaC X0 Qp (vg Qp T (iE (n+1)) LL) (.fn 136 [.agg (J.ps (.fn f [] []))] []) [.kW 4] (QS J f true none []) fun v H1=>∃(t:List (V×Int)) (G:List (PB aG)),a8I J t∧H1=QS J f true none t++G:=by
 refine a1M (t:=Ti Qp 136) hX (by kernel_rfl) ?_;have e0:(Ti Qp 136).body=.seq (eP QO) (.seq (eP (eU QO)) (.seq (.seq (eP (eP (eU (eU QO)))) (.block 0 (.loop bLB))) (.seq (eP (eU (eU (eU QO)))) (.block 7 (.loop bL2))))):=by kernel_rfl
 rw[e0];have hs:=a0h (M:=n) (f:=f) (a:=[]) (cc:=[]) (H:=[]) J hJ.d3;have hf:nU X0 Qp 148 (kS.es []) (kS.tv (fA J.D)):=kS.fresh (x:=fA J.D) (by simp);have x0:ExE n (eP QO) ⟨lC X0 0 [.agg (J.ps (.fn f [] [])),.kW 4],[],QS J f true none []⟩ .norm ⟨[(1,.val (.kW 4)),(2,.loc 0 0)],[J.ps (.fn f [] [])],QS J f true none []⟩:=zQ hX gJ (an:=.n) (by kernel_rfl) (.r rfl);have x1:ExE n (eP (eU QO)) ⟨[(1,.val (.kW 4)),(2,.loc 0 0)],[J.ps (.fn f [] [])],QS J f true none []⟩ .norm ⟨[(1,.val (.kW 4)),(2,.loc 0 0),(4,.val (.map 5))],[J.ps (.fn f [] [])],HN J f [] [(fA J.D,1)]⟩:=zQ hX gJ (by kernel_rfl) (.fr [] hs (.q (.bool false) (kS.ck (fA J.D)) (.o hf (.r rfl))));have x2:ExE n (eP (eP (eU (eU QO)))) ⟨[(1,.val (.kW 4)),(2,.loc 0 0),(4,.val (.map 5))],[J.ps (.fn f [] [])],HN J f [] [(fA J.D,1)]⟩ .norm (VF J f [] [(fA J.D,1)] 0 []):=zQ hX gJ (an:=.n) (by kernel_rfl) (.r rfl);refine aK.Bq (by kernel_rfl) x0 (aK.Bq (by kernel_rfl) x1 (aK.seq (R:=fun e s=>e=.norm∧∃Ko,yJ J J.o.length Ko∧s=VF J f [] Ko J.o.length [(24,.val (.bool (decide ((J.o.length:Int)<(J.o.length:Int)))))]) (aK.Bq (by kernel_rfl) x2 (abx (n:=n) hJ [] (a4q hJ))) (fun s h=>?_) (fun i s h=>by cases h.1) (fun s h=>by cases h.1)));obtain⟨_,now,h1,rfl⟩:=h;have x3:ExE n (eP (eU (eU (eU QO)))) (VF J f [] now J.o.length [(24,.val (.bool (decide ((J.o.length:Int)<(J.o.length:Int)))))]) .norm ⟨[(1,.val (.kW 4)),(2,.loc 0 0),(94,.val (.iter 6))],[J.ps (.fn f [] [])],QS J f true none []++[.map (kS.im now),.dn 5 (kS.im now).length []]⟩:=zQ hX gJ (an:=.n) (by kernel_rfl) (.r rfl);rw[kS.pK now]at x3;refine aK.Bq (by kernel_rfl) x3 ((a4p hJ hO h1 hD).mono fun e s h=>?_);obtain⟨rfl,t,seen,g1,g2,rfl⟩:=h;refine⟨.inl rfl,[],by kernel_rfl,t,[.map (kS.im now),.dn 5 now.length seen],⟨g1,fun φ=>?_⟩,rfl⟩;rw[g2];have:=h1.s fun st=>Yn φ (aV J.D st);rw[List.drop_length]at this;rw[<-abp hJ (Yn φ)];exact this
end
open Go Tw Pv bQ
def VG(J:Jb):List (List V):=(LV J).map fun q=>J.D.map fun d=>qE d q
def oq(J:Jb):List V:=((VG J).filter fun l=>qC (l.drop 1)).map fun l=>l.getD 0 V0
abbrev Yo(e:V×Int):LI0:=RQ e.1.tv
def eG(J:Jb):List (V×Int):=zD Yo (AX (oq J))
theorem a2v(φ:V->Int):∀L:List (List V),bU (Yn φ) L=bU φ ((L.filter fun l=>qC (l.drop 1)).map fun l=>l.getD 0 V0)
 | []=>rfl
 |l::L=>by
  rw[bU,a2v φ L];unfold Yn;cases h:qC (l.drop 1)
  .rw[a0y (by simp),adC (by rw[h];simp)];omega
  rw[a0A rfl,adI (by rw[h]),a4L,bU]
theorem key_inj{l:List (V×Int)}(hn:(l.map (·.1)).Nodup):∀a∈l,∀b∈l,Yo a=Yo b->a=b:=fun a ha b hb h=>by
 have h1:a.1=b.1:=by have h:[a.1.f,a.1.n]=[b.1.f,b.1.n]:=h;simp only[aeC,and_true]at h;obtain⟨⟨a1,a2⟩,_⟩:=a;obtain⟨⟨b1,b2⟩,_⟩:=b;simp only at h;rw[h.1,h.2]
 have h2:=Eo hn ha;have h3:=Eo hn hb;rw[h1,h3]at h2;exact ado h1 h2.symm
theorem a8J{J:Jb}{t:List (V×Int)}(h:a8I J t):t.Perm (AX (oq J)):=by obtain⟨f1,f2⟩:=Gh (oq J);refine V7 h.1.nd f1 h.1.pos f2 fun φ=>?_;rw[h.2,SY];unfold oq;rw[<-a2v];unfold VG;rw[uS]
theorem a8K{J:Jb}{t:List (V×Int)}(h:a8I J t):zD Yo t=eG J:=Fq (a8J h) (key_inj h.1.nd)
abbrev aby(e:V×Int):TV×TV:=(e.1.tv,.int .i64 e.2)
theorem VH:∀t:List (V×Int),xC (kV.im t)=some (t.map aby)
 | []=>rfl
 |e::t=>by
  have:=VH t;show(match qo (kV.pv e.1),qo (PV.int .i64 e.2:PV aG),xC (kV.im t)with
   |some k,some v,some r=>some ((k,v)::r)
   |_,_,_=>none)=_
  rw[this];rfl
section
variable {n:Nat} {J:Jb} (hJ:jW J) {f:Nat}
include hJ
set_option maxRecDepth 20000 in
theorem Qi(hO:Ok n su)(hD:0<J.D.length):iW (n+2) (.fn 87 [] []) [.agg (J.ps (.fn f [] []))] [] (.map 0) [.map (kV.im (eG J))]:=by
 refine a7j (X:=X0) (P:=Qp) (T:=T) (L:=LL) (n:=n+1) (f:=87) (first:=[]) (cap:=[]) (H:=[]) (t:=Ti Qp 87) (es0:=kV.im (eG J)) (a3H:=(eG J).map aby) hX (by kernel_rfl) (by kernel_rfl) (by kernel_rfl) rfl (VH _) ?_;have e0:(Ti Qp 87).body=.seq (eP Yj) (.seq (eP (eU Yj)) (.seq (.seq (eP (eP (eU (eU Yj)))) (.block 0 (.rangeFunc (.tmp 8) #[9,10] (xq Qp 87) (AV Qp 87)))) (.seq (eP (eU (eU (eU Yj)))) .ret))):=by kernel_rfl
 rw[e0];have x0:dN X0 Qp T (iE (n+1)) LL 87 false (Ce Qp 87) 0 (eP Yj) ⟨lC X0 0 [.agg (J.ps (.fn f [] []))],[],[]⟩ .norm ⟨[(1,.val (.ptr 0 0 5)),(2,.val (.nil .map))],[],[.cells (J.ps (.fn f [] []))]⟩:=zQ hX gJ (an:=.n) (by kernel_rfl) (.r rfl);have x1:dN X0 Qp T (iE (n+1)) LL 87 false (Ce Qp 87) 0 (eP (eU Yj)) ⟨[(1,.val (.ptr 0 0 5)),(2,.val (.nil .map))],[],[.cells (J.ps (.fn f [] []))]⟩ .norm ⟨[(1,.val (.ptr 0 0 5)),(2,.val (.nil .map)),(3,.val (.ptr 2 0 1))],[],HQc J f []⟩:=zQ hX gJ (an:=.n) (by kernel_rfl) (.r rfl);have x2:dN X0 Qp T (iE (n+1)) LL 87 false (Ce Qp 87) 0 (eP (eP (eU (eU Yj)))) ⟨[(1,.val (.ptr 0 0 5)),(2,.val (.nil .map)),(3,.val (.ptr 2 0 1))],[],HQc J f []⟩ .norm ⟨a8D J f,[],HQc J f []⟩:=zQ hX gJ (an:=.n) (by kernel_rfl) (.r rfl);refine aK.Bq (by kernel_rfl) x0 (aK.Bq (by kernel_rfl) x1 (aK.seq (R:=fun e s=>e=.norm∧∃(t:List (V×Int)) (G:List (PB aG)),a8I J t∧s=⟨a8D J f,[],QS J f false (some .skip) t++G⟩) (aK.Bq (by kernel_rfl) x2 (aK.block ?_)) (fun s h=>?_) (fun i s h=>by cases h.1) (fun s h=>by cases h.1)))
 .refine aK.range (f1:=136) (a1:=[.agg (J.ps (.fn f [] []))]) (b1:=[]) (K:=fun v H1=>∃(t:List (V×Int)) (G:List (PB aG)),a8I J t∧H1=QS J f true none t++G) hX rfl (by kernel_rfl) (by kernel_rfl) (alm hJ hO hD) (fun v H1 hk=>?_);obtain⟨t,G,h1,rfl⟩:=hk;exact⟨true,_,_,_,_,_,_,none,.norm,rfl,rfl,rfl,t,G,h1,rfl⟩
 obtain⟨_,t,G,h1,rfl⟩:=h;have x3:dN X0 Qp T (iE (n+1)) LL 87 false (Ce Qp 87) 0 (.seq (eP (eU (eU (eU Yj)))) .ret) ⟨a8D J f,[],QS J f false (some .skip) t++G⟩ .ret ⟨[(2,.val (.map 1))],[],QS J f false (some .skip) t++G⟩:=zQ hX gJ (an:=.n) (by kernel_rfl) (.r rfl);refine aK.step (by kernel_rfl) x3 ⟨.inr rfl,[.map 1],by kernel_rfl,1,kV.im t,t.map aby,rfl,rfl,VH t,?_⟩;unfold RU;rw[Td (g:=aby) (key:=Yo) (a7f:=fun e=>RQ e.1) (fun _=>rfl),a8K h1]
end
open Go Tw Pv bQ
abbrev Qj(t:List (V×Int))(j:Nat):V×Int:=t.getD j (V0,0)
theorem VI{t:List (V×Int)}{j:Nat}{e:V×Int}(h:t[j]? = some e):Qj t j=e∧j<t.length∧e∈t:=by obtain⟨h1,h2⟩:=a08.1 h;exact⟨by simp[Qj,List.getD,h],h1,h2▸a4X h1⟩
theorem agB(t:List (V×Int)):t=(List.range t.length).map fun j=>Qj t j:=
 (oM (d:=((V0,0):V×Int)) (by simp)).2 fun k hk=>by simp[List.getD,hk]
theorem Yp(t:List (V×Int)):bU (fun j=>(Qj t j).2) (List.range t.length)=dH (fun _=>1) t:=by
 have h1:dH (fun _=>1) t=bU (fun e:V×Int=>e.2) t:=by
  induction t with
  |nil=>rfl
  |cons e m ih=>simp only[dH,bU,ih,acy]
 rw[h1]
 conv=>rhs;rw[agB t]
 rw[uS]
theorem Bv{t:List (V×Int)}{j:Nat}{v:V}{w:Int}(h:t[j]? = some (v,w)):(kV.im t).length=t.length∧(kV.im t)[j]? = some (.agg v.ps,.int .i64 w):=by refine⟨kV.pK t,?_⟩;rw[kV.Bj,h];rfl
structure Kq(t:List (V×Int)):Prop where
 pos:∀e∈t,0<e.2
 tot:dH (fun _=>1) t<=2000
theorem Kq.len{t:List (V×Int)}(h:Kq t):t.length<=2000:=by
 have h6:∀{m:List (V×Int)},(∀e∈m,0<e.2)->(m.length:Int)<=dH (fun _=>1) m:=by
  intro m
  induction m with
  |nil=>intro _;exact a9u _
  |cons e m ih=>
   intro hp;have:=ih fun e he=>hp e (by simp[he]);have:=hp e (by simp);simp only[dH,a4M,acy];omega
 have:=h6 h.pos;have:=h.tot;omega
abbrev a4r:Code:=(Ti Qp 90).body
abbrev lpA:Code:=eP (eP (eU (eP (eU a4r))))
abbrev xA:Code:=eP (eU (eU lpA))
abbrev sA(t:List (V×Int))(z:Int)(js:List Nat):aU aG:=⟨[(2,xi z),(6,.val (.iter 1))],[],[.iH (kV.im t),.dn 0 t.length js]⟩
section
variable {n:Nat} {t:List (V×Int)}
set_option maxRecDepth 20000 in
theorem aqw(h:Kq t):iW (n+1) (.fn 90 [] []) [.map 0] [.iH (kV.im t)] (.int .i64 (dH (fun _=>1) t)) [.iH (kV.im t)]:=by
 refine aaD (X:=X0) (P:=Qp) (T:=T) (L:=LL) (n:=n) (f:=90) (first:=[]) (cap:=[]) (xs:=[.map 0]) (H:=[.iH (kV.im t)]) (v:=.int .i64 (dH (fun _=>1) t)) (t:=Ti Qp 90) (tv:=.int .i64 (dH (fun _=>1) t)) hX (by kernel_rfl) (by kernel_rfl) (by kernel_rfl) rfl rfl ?_;have e0:(Ti Qp 90).body=.seq (eP a4r) (.seq (.seq (eP (eP (eU a4r))) (.block 0 (.loop lpA))) (.seq (eP (eU (eU a4r))) .ret)):=by kernel_rfl
 have e1:lpA=.seq (.region 2 (a7m (eP lpA)) false) (.seq (.cond (.tmp 8) .skip (.exit 0)) (.block 1 xA)):=by kernel_rfl
 have x0:dN X0 Qp T (iE n) LL 90 false (Ce Qp 90) 1 (eP a4r) ⟨lC X0 0 [.map 0],[],[.iH (kV.im t)]⟩ .norm ⟨[(0,.val (.map 0)),(2,xi 0)],[],[.iH (kV.im t)]⟩:=zQ hX gJ (an:=.n) (by kernel_rfl) (.r rfl);have x1:dN X0 Qp T (iE n) LL 90 false (Ce Qp 90) 1 (eP (eP (eU a4r))) ⟨[(0,.val (.map 0)),(2,xi 0)],[],[.iH (kV.im t)]⟩ .norm ⟨[(2,xi 0),(6,.val (.iter 1))],[],[.iH (kV.im t),.dn 0 (kV.im t).length []]⟩:=zQ hX gJ (an:=.n) (by kernel_rfl) (.r rfl);rw[kV.pK t]at x1;have hlen:=h.len;have hpj:∀j,j<t.length->0<(Qj t j).2:=fun k hk=>h.pos _ (fC (d:=((V0,0):V×Int)) hk);rw[e0];refine aK.Bq (by kernel_rfl) x0 (aK.seq (R:=fun e s=>e=.norm∧∃seen,s={ sA t (dH (fun _=>1) t) seen with env:=jl (T.iC 90 2) ((8,.val (.bool false))::(7,.val (.dI [.bool false]))::(sA t (dH (fun _=>1) t) seen).env) }) (aK.Bq (by kernel_rfl) x1 ?_) (fun s hs=>?_) (fun i s h=>by cases h.1) (fun s h=>by cases h.1))
 .rw[e1];refine V9 hX (n:=t.length) (b:=1) (r:=0) (it:=6) (nx:=7) (mo:=8) (es:=kV.im t) (fun seen s=>seen.Nodup∧(∀j∈seen,j<t.length)∧gW X0 (T.eX 90 (dS lpA)) s=sA t (bU (fun j=>(Qj t j).2) seen) seen) (by kernel_rfl) (a88 (by kernel_rfl)) (a88 (by kernel_rfl)) (kV.pK t) (by unfold LL;omega)
   ⟨a6f,(fun j hj=>(by cases hj)),(by kernel_rfl)⟩ (fun seen s hi=>?_)
  obtain⟨jF,aT,h3⟩:=hi;rw[<-e1];refine⟨_,h3,by kernel_rfl,by kernel_rfl,by kernel_rfl,fun ho=>⟨by kernel_rfl,seen,?_⟩,fun j e hj he=>⟨by kernel_rfl,?_⟩⟩
  .rw[Qh jF aT ho,Yp]
  rw[kV.Bj,a09]at he;obtain⟨⟨v,w⟩,sF,rfl⟩:=he;obtain⟨q1,q2,q3⟩:=VI sF;have Gp:(j::seen).Nodup:=a4U.2 ⟨hj,jF⟩;have Gq:∀k∈j::seen,k<t.length:=fun k hk=>by
   rcases a1z.1 hk with rfl|hk
   .exact q2
   exact aT k hk
  have hb:=VE (φ:=fun j=>(Qj t j).2) Gp Gq fun k hk=>afg (hpj k hk);have zi:=VD (φ:=fun j=>(Qj t j).2) (l:=seen) fun k hk=>afg (hpj k (aT k hk));rw[Yp,bU,q1]at hb;have ht:=h.tot;have hw:=h.pos _ q3;have YG:i64.wrap (bU (fun j=>(Qj t j).2) seen+w)=bU (fun j=>(Qj t j).2) (j::seen):=by rw[fQ (by have:(0:Int)<w:=hw;omega) (by have:w+bU (fun j=>(Qj t j).2) seen<=dH (fun _=>1) t:=hb;omega),bU,q1,aef]
  refine aK.step (e:=.norm) (by kernel_rfl) (zQ (ps1:=⟨[(2,xi (i64.wrap (bU (fun j=>(Qj t j).2) seen+w))),(6,.val (.iter 1))],[],[.iH (kV.im t),.dn 0 t.length (j::seen)]⟩) hX gJ (by kernel_rfl) (.c (.dI [.agg v.ps,.int .i64 w]) [] (Bv sF) (.r rfl))) ⟨.inl rfl,Gp,Gq,?_⟩;rw[YG]
  kernel_rfl
 obtain⟨_,seen,rfl⟩:=hs;exact aK.step (by kernel_rfl) (zQ (e:=.ret) (ps1:=⟨[(2,xi (dH (fun _=>1) t))],[],[.iH (kV.im t),.dn 0 t.length seen]⟩) hX gJ (an:=.n) (by kernel_rfl) (.r rfl)) ⟨.inr rfl,[.int .i64 (dH (fun _=>1) t)],by kernel_rfl,rfl⟩
end
end Go.Proofs.YtmobpoiejckagaaGreat
