/- Part 6 of a proof: ApplyLeft -/
import Derived.Test.YtmobpoiejckagaaGreatP04
set_option linter.constructorNameAsVariable false
set_option linter.unusedVariables false
set_option linter.unusedSimpArgs false
set_option linter.unusedSectionVars false
open Go.IntKind (i64)
noncomputable section
namespace Go.Proofs.YtmobpoiejckagaaGreat
open Go Tw Pv bP
abbrev YT:Cs:=⟨[],[],[]⟩
def eH(d:Dg):Dg:=⟨d.ay,d.aB,(bU d 6002 d.root YT).2.e,(bU d 6002 d.root YT).2.n,(bU d 6002 d.root YT).1⟩
theorem Vy{d:Dg}:DR d YT:=⟨a6x,by simp,a6x,by simp,a6x,by simp⟩
abbrev a7W(b:Br):Bool:=b.aA.all fun x=>x==b.aA.getD 0 0
theorem a2k{d:Dg}:∀(F:Nat) (r:Int) (x:Cs),(∀b∈x.n,a7W b=false)->∀b∈(bU d F r x).2.n,a7W b=false
 | 0,_,_,h=>h
 |F+1,r,x,h=>by
  unfold bU;split
  .exact h
  split
  .exact h
  have hb:=(Ip (d:=d) (fun y=>∀b∈y.n,a7W b=false) (F:=F) (r:=r) h (fun j y _ hy=>a2k F _ y hy)).2;intro b Rh;simp only[dD]at Rh;split at Rh
  .exact hb b Rh
  rename_i hf;split at Rh
  .exact hb b Rh
  rcases a3P.1 Rh with Rh|Rh
  .exact hb b Rh
  rw[a1S.1 Rh];simpa using hf
theorem a4c{d:Dg}(h:BX d)(e:eH d=d):DgD d:=by
 have hc:=Q5 h 6002 d.root YT Vy h.root;have hf:=a2k (d:=d) 6002 d.root YT (by simp);have ee:(bU d 6002 d.root YT).2.e=d.aK:=congrArg Dg.aK e;have en:(bU d 6002 d.root YT).2.n=d.aj:=congrArg Dg.aj e;rw[en]at hf;have hg:∀j,(hj:j<d.aj.length)->fB d j=d.aj[j]:=fun j hj=>by simp[List.getD,a0q hj]
 refine⟨ee▸hc.e1,fun i j hi hj hv hk=>?_,fun i hi=>?_⟩
 .have hn:(d.aj.map Ci).Nodup:=en▸hc.n1;have:=(aar (i:=i) (j:=j) (h₀:=by simpa using hi) (h₁:=by simpa using hj) hn).1 (by rw[a9s,a9s,<-hg i hi,<-hg j hj];show uh _ _=uh _ _;rw[hv,hk])
  exact this
 have:=hf (fB d i) (by rw[hg i hi];exact a4Z hi);exact this
theorem Qa{d:Dg}{n m:Nat}{x:Int}(hm:m<=2^61)(hx:Gj x)(hc:Wp (dS n,dS m) x):xE (dS n,dS m) x=x:=by
 have hid:∀(n:Nat) (y:Int),y∈dS n->(((dS n).idxOf y:Nat):Int)=y:=fun n y hy=>by have hl:=a5a.2 hy;have h1:=a9i hl;rw[lU]at hl;simp only[dS,a9s,aeY]at h1;exact h1
 unfold xE;by_cases c:x<0
 .rw[a0F c];have h1:=hid m _ (hc.1 c);have h2:je x=-1-x:=Nl hx c;have h3:=a2d (hc.1 c);have h4:=h3.2;rw[show((((dS n,dS m):LI0×LI0).2.idxOf (je x):Nat):Int)=je x from h1,h2,fK (by omega) (by omega)];omega
 rw[a0E c];exact hid n _ (hc.2 (by omega))
theorem Yf{α:Type}(l:List α)(f:Int->α)(h:∀j,(hj:j<l.length)->f j=l[j]):(dS l.length).map f=l:=by apply a9H (by simp[dS]);intro j h1 h2;simp[dS,h j h2]
theorem a2l{d:Dg}{j:Nat}(hj:j<d.aK.length):d.aK.getD ((j:Nat):Int).toNat V0=d.aK[j]:=by simp[List.getD,a0q hj]
theorem a2m{l:LI0}{m:Nat}(hl:l.length=m)(h:∀j,(hj:j<l.length)->l[j]=(j:Int)):l=dS m:=by apply a9H (by rw[lU,hl]);intro j h1 h2;rw[h j h1];simp[dS]
theorem agi{d:Dg}(h:BX d)(hw:Ba d)(hd:DgD d)(he:d.aK.length<=2^61){t:LI0×LI0}(ht:JK d t)(hk:JM d t)(hc:Wp t d.root):((KS d t).e=d.aK∧(KS d t).n=d.aj∧xE t d.root=d.root)↔(t.1=dS d.aj.length∧t.2=dS d.aK.length):=by
 have hW:∀o,gu o d.aj.length->∀k∈(au d o).aA,Gj k:=fun o ho k kQ=>by
  obtain⟨i,hi,rfl⟩:=a5d.1 kQ;have:=hw.zN o.toNat (by have:=ho.1;have:=ho.2;omega) i hi
  rwa [rZ hi]at this
 have hg:∀j,(hj:j<d.aj.length)->au d (j:Nat)=d.aj[j]:=fun j hj=>by simp[List.getD,a0q hj]
 constructor
 .rintro⟨h1,h2,h3⟩;have l1:t.2.length=d.aK.length:=by have:=congrArg List.length h1;simpa[KS]using this
  have l2:t.1.length=d.aj.length:=by have:=congrArg List.length h2;simpa[KS]using this
  have e2:t.2=dS d.aK.length:=a2m l1 fun j hj=>by have sF:j<d.aK.length:=(by omega);have:(KS d t).e[j]'(by rw[h1];exact sF)=d.aK[j]:=(by simp only[h1]);unfold KS at this;simp only[a9s]at this;rw[<-a2l sF]at this;exact Yc hd.aK (ht.e2 _ (a4Z hj)) (aH sF) this
  have key:∀(N:Nat) (o:Int),o∈t.1->o.toNat<N->xE t o=o:=by
   intro N
   induction N with
   |zero=>intro o _ hN;omega
   |succ N ih=>
    intro o ho hN;have Zt:=ht.n2 o ho;have aT:=a5a.2 ho;have sF:t.1.idxOf o<d.aj.length:=(by omega);have hel:=a9i aT;have:(KS d t).n[t.1.idxOf o]'(by rw[h2];exact sF)=d.aj[t.1.idxOf o]:=(by simp only[h2]);unfold KS at this;simp only[a9s,hel]at this;have hkm:(au d o).aA.map (xE t)=(au d o).aA:=by
     conv=>rhs;rw[<-List.map_id (au d o).aA]
     apply a5L;intro k kQ;show xE t k=k;have hcv:=hk o ho k kQ;by_cases c:k<0
     .have:=Qa (d:=d) (n:=0) (m:=d.aK.length) he (hW o Zt k kQ) ⟨fun c=>by have:=hcv.1 c;rwa [e2]at this,fun h0=>by omega⟩;unfold xE at this ⊢;rw[a0F c]at this ⊢;rw[e2];exact this
     obtain⟨i,hi,rfl⟩:=a5d.1 kQ;have aq0:o.toNat<d.aj.length:=by have:=Zt.1;have:=Zt.2;omega
     have h9:=(h.zN o.toNat aq0 i hi).1;have h9:(au d o).aA.getD i 0<(o.toNat:Int):=h9;rw[rZ hi]at h9;exact ih _ (hcv.2 (by omega)) (by omega)
    rw[hkm]at this;have hv:(fB d (t.1.idxOf o)).var=(fB d o.toNat).var:=(by rw[show fB d (t.1.idxOf o)=d.aj[t.1.idxOf o]from hg _ sF,<-this]);have xZ:(fB d (t.1.idxOf o)).aA=(fB d o.toNat).aA:=(by rw[show fB d (t.1.idxOf o)=d.aj[t.1.idxOf o]from hg _ sF,<-this]);have h8:=hd.aj _ _ sF (by have:=Zt.1;have:=Zt.2;omega) hv xZ;unfold xE;rw[a0E (by have:=Zt.1;omega),h8];have:=Zt.1;omega
  refine⟨a2m l2 fun j hj=>?_,e2⟩;have hm:=a4Z hj;have:=key ((t.1[j]).toNat+1) _ hm (by omega);unfold xE at this;rw[a0E (by have:=(ht.n2 _ hm).1;omega)]at this;rw[<-this];have:t.1.idxOf t.1[j]=j:=by have h5:=a5a.2 hm;exact(aar (i:=t.1.idxOf t.1[j]) (j:=j) (h₀:=h5) (h₁:=hj) ht.n1).1 (a9i h5)
  rw[this]
 rintro⟨h1,h2⟩;obtain⟨t1,t2⟩:=t;simp only at h1 h2;subst h1 h2;refine⟨?_,?_,Qa (d:=d) he hw.root hc⟩
 .exact Yf d.aK (fun e=>d.aK.getD e.toNat V0) fun j hj=>a2l hj
 refine Yf d.aj _ fun j hj=>?_;have hkm:(au d (j:Nat)).aA.map (xE (dS d.aj.length,dS d.aK.length))=(au d (j:Nat)).aA:=by
  conv=>rhs;rw[<-List.map_id (au d (j:Nat)).aA]
  apply a5L;intro k kQ;exact Qa (d:=d) he (hW _ (aH hj) k kQ) (hk _ (by show(j:Int)∈dS _;unfold dS;rw[a0V];exact⟨j,a4P.2 hj,rfl⟩) k kQ)
 rw[hkm,hg j hj]
theorem TY{d:Dg}(h:BX d)(hw:Ba d)(he:d.aK.length<=2^61)(hn:d.aj.length<=6000):eH d=d↔qh d=true:=by
 have main:DgD d->(eH d=d↔(srN d d.root=dS d.aj.length∧srE d d.root=dS d.aK.length)):=fun hd=>by
  have hr:d.root+1<6002:=by have:=h.root.1;omega
  have ha:=adP h hw hd he 6002 d.root ([],[]) hr sr0 (fun o ho=>by cases ho) h.root (by omega);have hs:=L9 h 6002 d.root ([],[]) sr0 h.root;have hi:=agi h hw hd he hs ha.aA ha.cov;have e0:KS d ([],[])=YT:=rfl;have e1:=ha.eq;rw[e0]at e1;unfold srN srE;rw[<-hi];unfold eH;rw[e1];obtain⟨d1,d2,d3,d4,d5⟩:=d;simp
 rw[Ye];constructor
 .intro e;have hd:=a4c h e;exact⟨hd,(main hd).1 e⟩
 rintro⟨hd,h2⟩;exact(main hd).2 h2
open Go Tw Pv bP
abbrev HCw(l:Lo)(x:Cs):List (PB aG):=[.list false false 3 l.s,.list false false 3 l.o,.map (kV.es (zQ x.e)),.map (kK.es (yU x.n)),mkC l.s l.o 12 13 0,.gone,.gone,.cells l.ps,.cells [.ptr 4 0 9],.map (kI.es (LQ x.k)),.cells [.map 9],.cells [.fn 195 [] pC],QE x.e,QF x.n]
structure ClP(l:Lo):Prop where
 s:l.s=l.d.ay
 o:l.o=l.d.aB
 t:BX l.d
 e:l.d.aK.length+1<=ah
 n:l.d.aj.length<=6000
 k:∀i,i<l.d.aj.length->1<=(fB l.d i).aA.length
 sl:l.d.ay.length<=ah
 ol:l.d.aB.length<=ah
def adR:eY aG:=bZ 161 (a1 loA) dA (fun l=>eH l.d) (fun l=>[ClP l]) adN
theorem akX:Gd adR:=akV.Xy 6010 adG fun n hn hO hOl l hp=>by obtain⟨n,rfl⟩:∃k,n=k+6009:=⟨n-6009,by omega⟩;have h:ClP l:=hp _ gY;obtain⟨s,o,d⟩:=l;obtain⟨e1,e2,ht,he,hn6,hk,hsl,QL⟩:=h;obtain rfl:s=d.ay:=e1;obtain rfl:o=d.aB:=e2;have hO':∀m,n+1<=m->Ok m _:=fun m hm=>hOl m (by omega);have he:d.aK.length+1<=ah:=he;have hn6:d.aj.length<=6000:=hn6;have hr:=ht.root.1;have hr:d.root<(d.aj.length:Int):=hr;have pV:=sCl (N:=n+1) hO' ht he (by unfold ah;omega) hk 6002 d.root YT (by omega) Vy ht.root (by omega);have fV:=apW (n:=n+6008) (hO' _ (by omega)) d.ay d.aB hsl QL;show nS _ _ _ _ _ (dA.put (eH d)) _;unfold eH;generalize bU d 6002 d.root YT=z at pV ⊢;obtain⟨v,e,nd,k⟩:=z;exact aO (hO (n+6009) (by omega)) (.fr [] fV (.QU (H2:=HCw (yX d) ⟨e,nd,k⟩) [1,2,3,4,5,6,7,0,8,9,10,11] [7,8,10,11] pV .rr))
open Go Tw Pv bP
theorem a2n{d:Dg}(h:BX d):∀(F:Nat) (r:Int) (x:Cs),(∀b∈x.n,b.aA.length<=12)->jD d r d.aj.length->∀b∈(bU d F r x).2.n,b.aA.length<=12
 | 0,_,_,hx,_=>hx
 |F+1,r,x,hx,hr=>by
  unfold bU;by_cases c:r<0
  .rw[a0F (by simpa using c)];exact hx
  rw[a0E (by simpa using c)];split
  .exact hx
  have aT:r.toNat<d.aj.length:=by have:=hr.1;omega
  have hb:=Ip (d:=d) (fun y=>∀b∈y.n,b.aA.length<=12) (F:=F) (r:=r) hx (fun j y hj hy=>a2n h F _ y hy (by have h9:=h.zN r.toNat aT j hj;have h8:=h9.1;have h8:(au d r).aA.getD j 0<(r.toNat:Int):=h8;exact⟨by have:=hr.1;omega,h9.2⟩))
  intro b Rh;simp only[dD]at Rh;split at Rh
  .exact hb.2 b Rh
  split at Rh
  .exact hb.2 b Rh
  rcases a3P.1 Rh with Rh|Rh
  .exact hb.2 b Rh
  rw[a1S.1 Rh];show List.length _<=12;rw[hb.1];exact h.JJ r.toNat aT
theorem xk{d:Dg}(h:Ba d)(he:d.aK.length+1<=ah)(hs:d.ay.length<=ah)(ho:d.aB.length<=ah)(h0:(bH d).2=0):(bH d).1=yX d∧ClP (yX d):=by
 rw[JL h (by omega)]at h0 ⊢;have h0:aX d=0:=h0;have hc:=jL ho (show d.aK.length<=ah by omega) (by simp[h0]);have hf:(bK d.ay d.aB != 0)=false:=by
  cases e:bK d.ay d.aB != 0
  .rfl
  unfold aX at h0;rw[a0F e]at h0;simp[h0]at e
 refine⟨by rw[a0E (by rw[hf];simp)],rfl,rfl,hc.1,he,hc.2,fun i hi=>?_,hs,ho⟩;have h1:=hc.1.ksz i hi;have h2:=hc.1.var i hi;have h3:=(AZ hf).sz _ (dB (s:=d.ay) (k:=(fB d i).var.toNat) (by have:=h2.2;have:=h2.1;omega));have h1:((fB d i).aA.length:Int)=d.ay.getD (fB d i).var.toNat 0:=h1;show 1<=(fB d i).aA.length;omega
def uy(d:Dg):Lo×Int:=if(bH d).2==0 then(if(!(Ir (eH (bH d).1.d) d))=true then((bH d).1,4)else bH d)else bH d
theorem a0e{d:Dg}(h:BX d)(hn:d.aj.length<=6000):(eH d).aK.length<=d.aK.length∧(eH d).aj.length<=6000∧∀b∈(eH d).aj,b.aA.length<=12:=by have hc:=Q5 h 6002 d.root YT Vy h.root;refine⟨hc.akQ,?_,a2n h 6002 d.root YT (by simp) h.root⟩;have h1:=hc.JJ;have h2:=hc.n2;show(bU d 6002 d.root YT).2.n.length<=6000;omega
theorem a4d{d:Dg}(h:Ba d)(hs:d.ay.length<=ah)(ho:d.aB.length<=2^20)(he:d.aK.length+1<=ah)(h0:((bH d).2==0)=true):ClP (bH d).1∧(eH (bH d).1.d).ay.length<=ah∧(eH (bH d).1.d).aB.length<=ah∧(eH (bH d).1.d).aK.length<=ah∧(eH (bH d).1.d).aj.length<=ah∧∀k,k<(eH (bH d).1.d).aj.length->((eH (bH d).1.d).aj.getD k kR).aA.length<=ah:=by
 have ho:d.aB.length<=ah:=by unfold ah;omega
 obtain⟨h1,h2⟩:=xk h he hs ho (by simpa using h0);rw[h1];obtain⟨a,b,c⟩:=a0e h2.t h2.n;refine⟨h2,hs,ho,?_,?_,fun k hk=>?_⟩
 .have a:(eH d).aK.length<=d.aK.length:=a;show(eH d).aK.length<=ah;omega
 .have b:(eH d).aj.length<=6000:=b;show(eH d).aj.length<=ah;unfold ah;omega
 exact m12 (c _ (Y8 hk))
def adS:eY aG:=bZ 172 (a1 dA) (dO (a2 loA iA)) (fun p=>uy p) (fun p=>[Ba p,p.ay.length<=ah,p.aB.length<=2^20,p.aK.length+1<=ah]) adR
theorem akY:Gd adS:=akX.add fun n hO p hp=>aO hO (.o (hp _ yc) (.o (hp _ hh2) (.o (by have h9:p.aK.length+1<=ah:=hp _ (.tail _ (.tail _ (.tail _ (.head _))));show p.aK.length<=ah;omega) (.sh (fun h=>have q:=a4d (hp _ gY) (hp _ yc) (hp _ hh2) (hp _ (.tail _ (.tail _ (.tail _ (.head _))))) h;.o q.1 (.o q.2.1 (.o q.2.2.1 (.o q.2.2.2.1 (.o q.2.2.2.2.1 (.o q.2.2.2.2.2 (.ss .rr .rr))))))) fun _=>.rr))))
theorem Iw{d:Dg}(h:Ba d)(hs:d.ay.length<=ah)(ho:d.aB.length<=ah)(he:d.aK.length+1<=ah):uy d=(if(bK d.ay d.aB != 0)=true then lo0 else yX d,iW d):=by
 have h9:=JL h (show d.aK.length<=ah by omega);unfold uy iW;by_cases h0:(bH d).2=0
 .obtain⟨h1,h2⟩:=xk h he hs ho h0;have h3:=TY h2.t h (show d.aK.length<=2^61 by unfold ah at he;omega) h2.n;have h4:aX d=0:=by rw[h9]at h0;exact h0
  rw[a0F (show((bH d).2==0)=true by simpa using h0),h1,h4,a0E (show ¬(((0:Int) != 0)=true) by simp)];rw[h9]at h1;show(if(!(Ir (eH d) d))=true then(yX d,4)else bH d)=_;have h1:(if(bK d.ay d.aB != 0)=true then lo0 else yX d)=yX d:=h1;rw[h9,h1];by_cases h5:eH d=d
  .rw[a0E (show ¬((!(Ir (eH d) d))=true) by rw[a2g.2 h5];simp),a0E (show ¬((!(qh d))=true) by rw[h3.1 h5];simp),h4]
  have h6:Ir (eH d) d=false:=by
   cases e:Ir (eH d) d
   .rfl
   exact absurd (a2g.1 e) h5
  have h7:qh d=false:=by
   cases e:qh d
   .rfl
   exact absurd (h3.2 e) h5
  rw[a0F (show(!(Ir (eH d) d))=true by rw[h6];rfl),a0F (show(!(qh d))=true by rw[h7];rfl)]
 have h4:¬aX d=0:=by rw[h9]at h0;exact h0
 rw[a0E (show ¬(((bH d).2==0)=true) by simpa using h0),h9,a0F (show(aX d != 0)=true by simpa using h4)]
open Go Tw Pv bP
def cellsD(d:Dg):List V:=(List.range (Ce d.ay)).map fun(k:Nat)=>xP d (lQ d.ay k)
open Go Tw Pv bP
def Gl(N:List Br)(c:Int)(ks:LI0):Int:=if(ks.all fun x=>x==ks.getD 0 0)=true then ks.getD 0 0 else(N.idxOf (⟨c,ks⟩:Br):Nat)
def qE(N:List Br)(c:Int)(ks:LI0):List Br:=if(ks.all fun x=>x==ks.getD 0 0)=true then N else if(⟨c,ks⟩:Br)∈N then N else N++[⟨c,ks⟩]
abbrev EN:Type:=List V×List Br
def C9(f:LI0->EN->Int×EN)(c:Int)(p:LI0)(j:Nat)(y:LI0×EN):LI0×EN:=(y.1++[(f (p.set c.toNat j) y.2).1],(f (p.set c.toNat j) y.2).2)
def iU(s:LI0)(l:List V):LI0->LI0->EN->Int×EN
 | [],p,x=>(i64.wrap (-1-(x.1.idxOf (l.getD (ji s p).toNat V0):Nat)),(fU x.1 (l.getD (ji s p).toNat V0),x.2))
 |c::r,p,x=>
  let y:=aS (C9 (iU s l r) c p) (s.getD c.toNat 0).toNat 0 ([],x)
  (Gl y.2.2 c y.1,(y.2.1,qE y.2.2 c y.1))
def wO(s:LI0):LI0->Nat
 | []=>1
 |c::r=>(s.getD c.toNat 0).toNat*wO s r
theorem Vz{s:LI0}(hs:nR s):∀{o:LI0},(∀c∈o,gu c s.length)->1<=wO s o
 | [],_=>a0P _
 |c::r,h=>by have h1:=Vz hs (o:=r) fun c hc=>h c (by simp[hc]);obtain⟨h2,h3⟩:=h c (by simp);have h4:=hs _ (dB (s:=s) (k:=c.toNat) (by omega));have h5:1*1<=(s.getD c.toNat 0).toNat*wO s r:=ahG (by omega) h1;simpa[wO]using h5
theorem a0f(E:List V)(v:V):(fU E v).length<=E.length+1:=by unfold fU;split<;>simp
theorem a7Y(N:List Br)(c:Int)(ks:LI0):(qE N c ks).length<=N.length+1:=by
 unfold qE;split
 .omega
 split<;>simp
theorem ab9{f:LI0->EN->Int×EN}{c:Int}{p:LI0}{n w:Nat}(h:∀q x,(f q x).2.1.length<=x.1.length+w∧(f q x).2.2.length+1<=x.2.length+w)(x:EN):(aS (C9 f c p) n 0 ([],x)).1.length=n∧(aS (C9 f c p) n 0 ([],x)).2.1.length<=x.1.length+n*w∧(aS (C9 f c p) n 0 ([],x)).2.2.length+n<=x.2.length+n*w:=by
 have:=cO (g:=C9 f c p) (m:=n) (k:=0) (s:=([],x)) (fun k y=>y.1.length=k∧y.2.1.length<=x.1.length+k*w∧y.2.2.length+k<=x.2.length+k*w) ⟨rfl,by simp,by simp⟩ (fun j y _ _ hy=>by
  obtain⟨h1,h2,h3⟩:=hy;have:=h (p.set c.toNat j) y.2;refine⟨by simp[C9,h1],?_,?_⟩
  .simp only[C9,a3U,abp];omega
  simp only[C9,a3U,abp];omega)
 rw[a3W]at this;exact this
theorem a0g{s:LI0}{l:List V}(hs:nR s):∀(o p:LI0) (x:EN),(∀c∈o,gu c s.length)->(iU s l o p x).2.1.length<=x.1.length+wO s o∧(iU s l o p x).2.2.length+1<=x.2.length+wO s o
 | [],p,x,_=>by have:=a0f x.1 (l.getD (ji s p).toNat V0);exact⟨this,by simp[iU,wO]⟩
 |c::r,p,x,h=>by
  obtain⟨h1,h2,h3⟩:=ab9 (f:=iU s l r) (c:=c) (p:=p) (n:=(s.getD c.toNat 0).toNat) (w:=wO s r) (fun q x=>a0g hs r q x fun c hc=>h c (by simp[hc])) x;obtain⟨i1,i2⟩:=h c (by simp);have h4:=hs _ (dB (s:=s) (k:=c.toNat) (by omega));simp only[iU,wO];generalize aS (C9 (iU s l r) c p) (s.getD c.toNat 0).toNat 0 ([],x)=y at h1 h2 h3;refine⟨h2,?_⟩;by_cases hn:(s.getD c.toNat 0).toNat=1
  .have e:qE y.2.2 c y.1=y.2.2:=by
    unfold qE;rw[a0F];rw[hn]at h1
    match hy:y.1,h1 with
    | [a],_=>simp
   rw[e];omega
  have:=a7Y y.2.2 c y.1;omega
theorem a7Z{α:Type}[DecidableEq α]{l:List α}{d a:α}{c:Nat->Bool}(hc:∀k,k<l.length->c k=decide (l.getD k d=a)):(a∈l->bG c l.length=.inr (l.idxOf a))∧(a∉l->jZ (bG c l.length)=true):=by
 constructor
 .intro h;have hi:=a5a.2 h;have h1:c (l.idxOf a)=true:=by rw[hc _ hi,a1z,List.getD,a0q hi,a5e,a9i]
  cases e:jZ (bG c l.length)
  .obtain⟨j,hj,cj,hb,e2⟩:=AQ e;rw[e2];congr 1;rcases Nat.lt_trichotomy j (l.idxOf a)with g|g|g
   .exfalso;rw[hc j hj,a1z,List.getD,a0q hj,a5e]at cj;have:=List.not_of_lt_findIdx (p:=(·==a)) g;rw[cj]at this;simp at this
   .exact g
   rw[hb _ g]at h1;cases h1
  rw[dL.1 e _ hi]at h1;cases h1
 intro h;refine dL.2 fun j hj=>?_;rw[hc j hj,a3b,List.getD,a0q hj,a5e];rintro rfl;exact h (a4Z hj)
structure PtP(s o:LI0)(l:List V):Prop where
 cu:vk s
 ord:∀c∈o,gu c s.length
 len:(l.length:Int)=bC s
 agj:o.length<=ah
 slen:s.length<=ah
open Go Tw Pv bP
def oz(s o:LI0)(l:List V):Dg:=⟨s,o,(iU s l o (List.replicate s.length 0) ([],[])).2.1,(iU s l o (List.replicate s.length 0) ([],[])).2.2,(iU s l o (List.replicate s.length 0) ([],[])).1⟩
theorem Qb:∀{s:LI0},nR s->kF s (List.replicate s.length 0)=true
 | [],_=>rfl
 |a::s,h=>by have:=h a (a3x ..);simp only[a4K,aew,kF,a2O,a1z];exact⟨⟨a9r _,by omega⟩,Qb h.tail⟩
open Go Tw Pv bP
theorem a81{a b:LI0}(ha:a.length<=12)(he:a.length=b.length)(h:Io a=Io b):a=b:=by
 have e:∀l:LI0,l.length<=12->(Io l).take l.length=l:=fun l hl=>by unfold Io;rw[aga,a8a hl,List.take_left]
 rw[<-e a ha,<-e b (by omega),h,he]
def NOk(s:LI0)(N:List Br):Prop:=∀b∈N,gu b.var s.length∧(b.aA.length:Int)=s.getD b.var.toNat 0
theorem a88{s:LI0}(hs:nR s){N:List Br}(h:NOk s N){c:Int}{ks:LI0}(hc:gu c s.length)(hk:(ks.length:Int)=s.getD c.toNat 0){b:Br}(hb:b∈N):Ci b=uh c ks↔b=⟨c,ks⟩:=by
 constructor
 .intro e;obtain⟨v,l⟩:=b;have e1:v=c:=congrArg Prod.fst e;subst e1;have e2:Io l=Io ks:=congrArg (fun x:Ky=>x.2.1) e;have hl:=(h _ hb).2;have hl:(l.length:Int)=s.getD v.toNat 0:=hl;have hz:=hs _ (dB (s:=s) (k:=v.toNat) (by have:=hc.1;have:=hc.2;omega));rw[a81 (by omega) (by omega) e2]
 rintro rfl;rfl
theorem Yg{s:LI0}(hs:nR s){N:List Br}(h:NOk s N){c:Int}{ks:LI0}(hc:gu c s.length)(hk:(ks.length:Int)=s.getD c.toNat 0):eG N c ks=Gl N c ks∧dD N c ks=qE N c ks:=by
 have hm:uh c ks∈N.map Ci↔(⟨c,ks⟩:Br)∈N:=by
  rw[a0V];constructor
  .rintro⟨b,hb,e⟩;rw[(a88 hs h hc hk hb).1 e]at hb;exact hb
  intro hb;exact⟨_,hb,rfl⟩
 have hi:(N.map Ci).idxOf (uh c ks)=N.idxOf (⟨c,ks⟩:Br):=by
  clear hm
  induction N with
  |nil=>rfl
  |cons b N ih=>
   have e:=a88 hs h hc hk (b:=b) (by simp);rw[a4M,aed,aed,ih fun b hb=>h b (by simp[hb])];have:(Ci b==uh c ks)=(b==(⟨c,ks⟩:Br)):=by rw[a5b,a7g,a7g];exact e
   rw[this]
 unfold eG Gl dD qE;rw[hi];refine⟨rfl,?_⟩;split
 .rfl
 by_cases g:uh c ks∈N.map Ci
 .rw[a0F g,a0F (hm.1 g)]
 rw[a0E g,a0E fun x=>g (hm.2 x)]
open Go Tw Pv bP
theorem abb{s:LI0}{a b:LI0}(h:a.Perm b):wO s a=wO s b:=by
 induction h with
 |nil=>rfl
 |cons x _ ih=>simp only[wO,ih]
 |swap x y l=>simp only[wO];rw[<-Nat.mul_assoc,<-Nat.mul_assoc,Nat.mul_comm (s.getD y.toNat 0).toNat]
 |trans _ _ i1 i2=>rw[i1,i2]
theorem Yh{s:LI0}(hs:nR s):∀(m k:Nat),k+m=s.length->(wO s ((List.range' k m).map fun(j:Nat)=>(j:Int)):Int)=bC (s.drop k)
 | 0,k,h=>by rw[ah4 (by omega)];rfl
 |m+1,k,h=>by
  have hk:k<s.length:=by omega
  have hz:=hs _ (dB (s:=s) (k:=k) hk);rw[List.range'_succ,a4M,wO,Pg hk,aeD,Yh hs m (k+1) (by omega),a5p,ahB (by omega)]
theorem DT{s o:LI0}(hs:nR s)(h:jW s.length o=true):(wO s o:Int)=bC s:=by have h':=h;unfold jW at h';rw[a1z]at h';have hi:=TL s.length;have xI:=hi;unfold jW at xI;rw[a1z]at xI;have hp:o.Perm (dS s.length):=(a7x h'.2.2 xI.2.2).2 fun a=>⟨fun ha=>lX hi (h'.2.1 a ha),fun ha=>lX h (xI.2.1 a ha)⟩;rw[abb hp];have:=Yh hs s.length 0 (by omega);rw[<-List.range_eq_range']at this;exact this
open Go Tw Pv bP
inductive To(d:Dg)(q:LI0):Int->V->Prop
 |fin {r:Int} (h:r<0):To d q r (d.aK.getD (je r).toNat V0)
 |step {r:Int} {c:V} (h:0<=r) (t:To d q ((au d r).aA.getD (q.getD (au d r).var.toNat 0).toNat 0) c):To d q r c
theorem To.at_{d:Dg}(h:BX d){q:LI0}(hq:kF d.ay q=true){r:Int}{c:V}(t:To d q r c):∀F:Nat,r<F->jD d r d.aj.length->c=d.aK.getD (je (Wn d q F r)).toNat V0:=by
 induction t with
 |fin hr=>
  intro F _ _;cases F with
  |zero=>rfl
  |succ F=>rw[Wn,a0F hr]
 |step hr _ ih=>
  intro F hF hk;cases F with
  |zero=>omega
  |succ F=>
   rw[Wn,a0E (by omega)];have:=(PX h hq ⟨hr,hk.1⟩).2.2;exact ih F (by have:=this.1;omega) ⟨by have:=this.1;have:=hk.1;omega,this.2⟩
theorem To.of{d:Dg}(h:BX d){q:LI0}(hq:kF d.ay q=true):∀(F:Nat) (r:Int),r<F->jD d r d.aj.length->To d q r (d.aK.getD (je (Wn d q F r)).toNat V0)
 | 0,r,hr,_=>.fin (by omega)
 |F+1,r,hr,hk=>by
  rw[Wn];split
  .rename_i c;exact .fin c
  rename_i c;have:=(PX h hq ⟨by omega,hk.1⟩).2.2;exact .step (by omega) (To.of h hq F _ (by have:=this.1;omega) ⟨by have:=this.1;have:=hk.1;omega,this.2⟩)
theorem To.det{d:Dg}{q:LI0}{r:Int}{a b:V}(h:To d q r a):To d q r b->a=b:=by
 induction h with
 |fin hr=>intro g;cases g with
  |fin _=>rfl
  |step h _=>omega
 |step hr _ ih=>intro g;cases g with
  |fin h=>omega
  |step _ t=>exact ih t
theorem Bc(E:List V)(v:V):E <+: fU E v:=by
 unfold fU;split
 .exact a5c
 exact a9j _ _
theorem Iy(N:List Br)(c:Int)(ks:LI0):N <+: qE N c ks:=by
 unfold qE;split
 .exact a5c
 split
 .exact a5c
 exact a9j _ _
def Qc(x y:EN):Prop:=x.1 <+: y.1∧x.2 <+: y.2
theorem Qc.rfl{x:EN}:Qc x x:=⟨a5c,a5c⟩
theorem Qc.trans{x y z:EN}(a:Qc x y)(b:Qc y z):Qc x z:=⟨a.1.trans b.1,a.2.trans b.2⟩
theorem Qd{s:LI0}{l:List V}:∀(r p:LI0) (x:EN),Qc x (iU s l r p x).2
 | [],p,x=>⟨Bc _ _,a5c⟩
 |c::r,p,x=>by have:=cO (g:=C9 (iU s l r) c p) (m:=(s.getD c.toNat 0).toNat) (k:=0) (s:=([],x)) (fun _ y=>Qc x y.2) Qc.rfl (fun j y _ _ hy=>hy.trans (Qd r _ y.2));exact⟨this.1,this.2.trans (Iy _ _ _)⟩
theorem zS{α:Type}{a b:List α}{d:α}(h:a <+: b){k:Nat}(hk:k<a.length):b.getD k d=a.getD k d:=by obtain⟨t,rfl⟩:=h;simp[List.getD,a0C hk]
theorem Qe{k:Nat}(hk:k<2^61):i64.wrap (-1-(k:Int))=-1-(k:Int)∧je (-1-(k:Int))=(k:Int):=by refine⟨fK (by omega) (by omega),?_⟩;unfold je;rw[fK (by omega) (by omega)];omega
theorem U0(E:List V)(v:V):E.idxOf v<(fU E v).length∧(fU E v).getD (E.idxOf v) V0=v:=by
 unfold fU;split
 .rename_i h;have:=a5a.2 h;exact⟨this,by simp[List.getD,a0q this]⟩
 rename_i h;rw[a9b h];exact⟨by simp,by simp[List.getD]⟩
theorem VA{N:List Br}{c:Int}{ks:LI0}(hf:¬(ks.all fun x=>x==ks.getD 0 0)=true):N.idxOf (⟨c,ks⟩:Br)<(qE N c ks).length∧(qE N c ks).getD (N.idxOf (⟨c,ks⟩:Br)) kR=⟨c,ks⟩:=by
 unfold qE;rw[a0E hf];split
 .rename_i h;have:=a5a.2 h;exact⟨this,by simp[List.getD,a0q this]⟩
 rename_i h;rw[a9b h];exact⟨by simp,by simp[List.getD]⟩
def Agr(s r q p:LI0):Prop:=∀k:Nat,k<s.length->(k:Int)∉r->q.getD k 0=p.getD k 0
theorem Agr.set{s r q p:LI0}{c:Int}(hc:gu c s.length)(hp:p.length=s.length)(h:Agr s (c::r) q p):Agr s r q (p.set c.toNat (q.getD c.toNat 0)):=fun k hk hr=>by
 by_cases e:k=c.toNat
 .subst e;have e2:(p.set c.toNat (q.getD c.toNat 0)).getD c.toNat 0=q.getD c.toNat 0:=by simp[List.getD,a2M (show c.toNat<p.length by omega)]
  exact e2.symm
 .rw[show(p.set c.toNat (q.getD c.toNat 0)).getD k 0=p.getD k 0 by rw[List.getD,a1B (Ne.symm e)];rfl];exact h k hk (by simp only[a1Y,ae6];exact⟨fun e2=>e (by omega),hr⟩)
theorem Agr.back{s r q p:LI0}{c j:Int}(hc:gu c s.length)(h:Agr s r q (p.set c.toNat j)):Agr s (c::r) q p:=fun k hk hr=>by simp only[a1Y,ae6]at hr;have hc:=hc.1;have e:k≠c.toNat:=fun e=>hr.1 (by omega);have:=h k hk hr.2;rw[this,List.getD,a1B (Ne.symm e)];rfl
theorem agk{s q p:LI0}(hq:q.length=s.length)(hp:p.length=s.length)(h:Agr s [] q p):q=p:=(qx (d:=(0:Int)) (by omega)).2 fun k hk=>h k (by omega) (by simp)
theorem a4e{ks:LI0}(h:(ks.all fun x=>x==ks.getD 0 0)=true){j:Nat}(hj:j<ks.length):ks.getD j 0=ks.getD 0 0:=by rw[a4W]at h;have:=h (ks.getD j 0) (dB hj);simpa using this
theorem adU{s:LI0}{l:List V}(hs:nR s):∀(r p:LI0) (x:EN),(∀c∈r,gu c s.length)->p.length=s.length->∀d:Dg,d.aK.length<2^61->(iU s l r p x).2.1 <+: d.aK->(iU s l r p x).2.2 <+: d.aj->∀q,kF s q=true->Agr s r q p->To d q (iU s l r p x).1 (l.getD (ji s q).toNat V0)
 | [],p,x,_,hp,d,hd,h1,_,q,hq,ha=>by
  have e:=agk (uN hq) hp ha;subst e;obtain⟨g1,g2⟩:=U0 x.1 (l.getD (ji s q).toNat V0);have h1:fU x.1 (l.getD (ji s q).toNat V0) <+: d.aK:=h1;have aT:x.1.idxOf (l.getD (ji s q).toNat V0)<2^61:=by have:=h1.length_le;omega
  obtain⟨e1,e2⟩:=Qe aT;show To d q (i64.wrap (-1-(x.1.idxOf (l.getD (ji s q).toNat V0):Nat))) _;rw[e1];have:=To.fin (d:=d) (q:=q) (r:=-1-((x.1.idxOf (l.getD (ji s q).toNat V0):Nat):Int)) (by omega);rw[e2,a5p,zS h1 g1,g2]at this;exact this
 |c::r,p,x,hr,hp,d,hd,h1,h2,q,hq,ha=>by
  have hc:=hr c (by simp);have hri:∀c'∈r,gu c' s.length:=fun c' h=>hr c' (by simp[h]);have YM:=(uO.1 hq).2 c.toNat (by have:=hc.1;have:=hc.2;omega);have inv:=cO (g:=C9 (iU s l r) c p) (m:=(s.getD c.toNat 0).toNat) (k:=0) (s:=([],x)) (fun k y=>y.1.length=k∧∀j:Nat,j<k->y.2.1 <+: d.aK->y.2.2 <+: d.aj->∀q,kF s q=true->Agr s r q (p.set c.toNat j)->To d q (y.1.getD j 0) (l.getD (ji s q).toNat V0)) ⟨rfl,fun j hj=>by omega⟩ (fun j y _ hj hy=>by
   obtain⟨y1,y2⟩:=hy;refine⟨by simp[C9,y1],fun j' Ea g1 g2 q hq ha=>?_⟩;have EK:=Qd (s:=s) (l:=l) r (p.set c.toNat j) y.2;by_cases e:j'<j
   .have:(C9 (iU s l r) c p j y).1.getD j' 0=y.1.getD j' 0:=by show(y.1++_).getD j' 0=_;simp[List.getD,a0C (show j'<y.1.length by omega)]
    rw[this];exact y2 j' e (EK.1.trans g1) (EK.2.trans g2) q hq ha
   have e:j'=j:=(by omega);subst e;have:(C9 (iU s l r) c p j' y).1.getD j' 0=(iU s l r (p.set c.toNat j') y.2).1:=by show(y.1++[_]).getD j' 0=_;simp[List.getD,<-y1]
   rw[this];exact adU hs r _ y.2 hri (by simp[hp]) d hd g1 g2 q hq ha)
  rw[a3W]at inv;simp only[iU]at h1 h2 ⊢;generalize aS (C9 (iU s l r) c p) (s.getD c.toNat 0).toNat 0 ([],x)=y at inv h1 h2;obtain⟨ks,E,N⟩:=y;obtain⟨hlen,inv⟩:=inv;have hlen:ks.length=(s.getD c.toNat 0).toNat:=hlen;have h2:qE N c ks <+: d.aj:=h2;have hj:(q.getD c.toNat 0).toNat<(s.getD c.toNat 0).toNat:=by omega
  have Z5:((q.getD c.toNat 0).toNat:Int)=q.getD c.toNat 0:=by omega
  have t:=inv (q.getD c.toNat 0).toNat hj h1 ((Iy N c ks).trans h2) q hq (by rw[Z5];exact Agr.set hc hp ha);have t:To d q (ks.getD (q.getD c.toNat 0).toNat 0) (l.getD (ji s q).toNat V0):=t;show To d q (Gl N c ks) _;by_cases hf:(ks.all fun x=>x==ks.getD 0 0)=true
  .rw[show Gl N c ks=ks.getD 0 0 from a0F hf];rw[a4e hf (by omega)]at t;exact t
  rw[show Gl N c ks=(N.idxOf (⟨c,ks⟩:Br):Nat)from a0E hf];obtain⟨g1,g2⟩:=VA (N:=N) (c:=c) hf;have en:au d ((N.idxOf (⟨c,ks⟩:Br):Nat):Int)=⟨c,ks⟩:=by unfold au;rw[a5p,zS h2 g1,g2]
  refine .step (by omega) ?_;rw[en];exact t
open Go Tw Pv bP
def EO(o:LI0)(N:List Br)(r:Int):Nat:=if r<0 then o.length else o.idxOf (N.getD r.toNat kR).var
def Cb(o:LI0)(x:EN)(v:Int)(b a:Nat):Prop:=(v<0->gu (je v) x.1.length)∧v<(b:Int)∧a<=EO o x.2 v
structure PtV(s o:LI0)(x:EN):Prop where
 var:∀i,i<x.2.length->gu (x.2.getD i kR).var s.length
 ksz:∀i,i<x.2.length->((x.2.getD i kR).aA.length:Int)=s.getD (x.2.getD i kR).var.toNat 0
 zN:∀i,i<x.2.length->∀k,k<(x.2.getD i kR).aA.length->Cb o x ((x.2.getD i kR).aA.getD k 0) i (o.idxOf (x.2.getD i kR).var+1)
theorem Cb.mono{o:LI0}{x y:EN}{v:Int}{b b' a a':Nat}(h:Cb o x v b a)(hp:Qc x y)(hb:b<=b')(hx:b<=x.2.length)(ha:a'<=a):Cb o y v b' a':=by
 obtain⟨h1,h2,h3⟩:=h;refine⟨fun hv=>⟨(h1 hv).1,by have:=(h1 hv).2;have:=hp.1.length_le;omega⟩,by omega,?_⟩;unfold EO at h3 ⊢;split
 .rename_i c;rw[a0F c]at h3;omega
 rename_i c;rw[a0E c]at h3;rw[zS hp.2 (by omega)];omega
theorem a8b{s o:LI0}{l:List V}(hs:nR s)(ho:∀c∈o,gu c s.length)(hn:o.Nodup):∀(r:LI0) (a:Nat) (p:LI0) (x:EN),o.drop a=r->a<=o.length->PtV s o x->(iU s l r p x).2.1.length<2^61->PtV s o (iU s l r p x).2∧Cb o (iU s l r p x).2 (iU s l r p x).1 (iU s l r p x).2.2.length a
 | [],a,p,x,hr,ha,hx,hE=>by
  have:a=o.length:=by have:=congrArg List.length hr;rw[a4l,a5s]at this;omega
  subst this;obtain⟨g1,g2⟩:=U0 x.1 (l.getD (ji s p).toNat V0);have hE:(fU x.1 (l.getD (ji s p).toNat V0)).length<2^61:=hE;obtain⟨e1,e2⟩:=Qe (k:=x.1.idxOf (l.getD (ji s p).toNat V0)) (by omega);have hp:Qc x (fU x.1 (l.getD (ji s p).toNat V0),x.2):=⟨Bc _ _,a5c⟩;refine⟨⟨hx.var,hx.ksz,fun i hi k hk=>(hx.zN i hi k hk).mono hp (a0P _) (a9G hi) (a0P _)⟩,?_⟩;show Cb o _ (i64.wrap (-1-(x.1.idxOf (l.getD (ji s p).toNat V0):Nat))) _ _;rw[e1];refine⟨fun _=>by rw[e2];exact⟨by omega,by show _<((fU x.1 (l.getD (ji s p).toNat V0)).length:Int);omega⟩,by omega,?_⟩;unfold EO;rw[a0F (by omega)];exact a0P _
 |c::r,a,p,x,hr,ha,hx,hE=>by
  have aT:a<o.length:=by have:=congrArg List.length hr;rw[a4l,a4K]at this;omega
  have hd:=a6G aT;rw[hr]at hd;obtain⟨hc,wK⟩:=List.cons.inj hd;have Gf:c∈o:=by rw[hc];exact a4Z aT
  have qF:=ho c Gf;have hia:o.idxOf c=a:=by rw[hc];exact hn.idxOf_getElem a aT
  have hz:=hs _ (dB (s:=s) (k:=c.toNat) (by have:=qF.1;have:=qF.2;omega));have mono:=fun(n:Nat) (m:Nat) (y:LI0×EN)=>(cO (g:=C9 (iU s l r) c p) (m:=m) (k:=n) (s:=y) (fun _ z=>Qc y.2 z.2) Qc.rfl (fun j z _ _ hz=>hz.trans (Qd r _ z.2)));have hEf:(aS (C9 (iU s l r) c p) (s.getD c.toNat 0).toNat 0 ([],x)).2.1.length<2^61:=hE;have inv:=cO (g:=C9 (iU s l r) c p) (m:=(s.getD c.toNat 0).toNat) (k:=0) (s:=([],x)) (fun k y=>y.1.length=k∧(y.2.1.length<2^61->PtV s o y.2∧∀j:Nat,j<k->Cb o y.2 (y.1.getD j 0) y.2.2.length (a+1))) ⟨rfl,fun _=>⟨hx,fun j hj=>by omega⟩⟩ (fun j y _ hj hy=>by
   obtain⟨y1,y2⟩:=hy;refine⟨by simp[C9,y1],fun hE=>?_⟩;have EK:=Qd (s:=s) (l:=l) r (p.set c.toNat j) y.2;have hE:(iU s l r (p.set c.toNat j) y.2).2.1.length<2^61:=hE;obtain⟨v1,v2⟩:=y2 (by have:=EK.1.length_le;omega);obtain⟨w1,w2⟩:=a8b hs ho hn r (a+1) (p.set c.toNat j) y.2 wK.symm aT v1 hE;refine⟨w1,fun j' Ea=>?_⟩;by_cases e:j'<j
   .have:(C9 (iU s l r) c p j y).1.getD j' 0=y.1.getD j' 0:=by show(y.1++_).getD j' 0=_;simp[List.getD,a0C (show j'<y.1.length by omega)]
    rw[this];exact(v2 j' e).mono EK EK.2.length_le (a0P _) (a0P _)
   have e:j'=j:=(by omega);subst e;have:(C9 (iU s l r) c p j' y).1.getD j' 0=(iU s l r (p.set c.toNat j') y.2).1:=by show(y.1++[_]).getD j' 0=_;simp[List.getD,<-y1]
   rw[this];exact w2)
  rw[a3W]at inv;simp only[iU];generalize aS (C9 (iU s l r) c p) (s.getD c.toNat 0).toNat 0 ([],x)=y at inv hEf;obtain⟨ks,E,N⟩:=y;obtain⟨hlen,inv⟩:=inv;obtain⟨i1,i2⟩:=inv hEf;have hlen:ks.length=(s.getD c.toNat 0).toNat:=hlen;have i2:∀j:Nat,j<(s.getD c.toNat 0).toNat->Cb o (E,N) (ks.getD j 0) N.length (a+1):=i2;have EK:Qc (E,N) (E,qE N c ks):=⟨a5c,Iy N c ks⟩;show PtV s o (E,qE N c ks)∧Cb o (E,qE N c ks) (Gl N c ks) (qE N c ks).length a;by_cases hf:(ks.all fun x=>x==ks.getD 0 0)=true
  .rw[show Gl N c ks=ks.getD 0 0 from a0F hf,show qE N c ks=N from a0F hf];exact⟨i1,(i2 0 (by omega)).mono Qc.rfl (a0P _) (a0P _) (by omega)⟩
  obtain⟨g1,g2⟩:=VA (N:=N) (c:=c) hf;rw[show Gl N c ks=(N.idxOf (⟨c,ks⟩:Br):Nat)from a0E hf];have Le:a<=EO o (qE N c ks) ((N.idxOf (⟨c,ks⟩:Br):Nat):Int):=by unfold EO;rw[a0E (by omega),a5p,g2];show a<=o.idxOf c;omega
  refine⟨?_,⟨fun h=>by omega,by omega,Le⟩⟩;by_cases hm:(⟨c,ks⟩:Br)∈N
  .rw[show qE N c ks=N by unfold qE;rw[a0E hf,a0F hm]];exact i1
  have eN:qE N c ks=N++[⟨c,ks⟩]:=by unfold qE;rw[a0E hf,a0E hm]
  rw[eN]at EK ⊢;have hold:∀i,i<N.length->(N++[(⟨c,ks⟩:Br)]).getD i kR=N.getD i kR:=fun i hi=>zS (a9j _ _) hi;have fV:(N++[(⟨c,ks⟩:Br)]).getD N.length kR=⟨c,ks⟩:=by simp[List.getD]
  have vG:∀i,i<(N++[(⟨c,ks⟩:Br)]).length->i<N.length∨i=N.length:=fun i hi=>by rw[a1U,a4H]at hi;omega
  refine⟨fun i hi=>?_,fun i hi=>?_,fun i hi k hk=>?_⟩
  .show gu ((N++[(⟨c,ks⟩:Br)]).getD i kR).var s.length;rcases vG i hi with h|rfl
   .rw[hold i h];exact i1.var i h
   rw[fV];exact qF
  .show(((N++[(⟨c,ks⟩:Br)]).getD i kR).aA.length:Int)=s.getD ((N++[(⟨c,ks⟩:Br)]).getD i kR).var.toNat 0;rcases vG i hi with h|rfl
   .rw[hold i h];exact i1.ksz i h
   rw[fV];show(ks.length:Int)=s.getD c.toNat 0;omega
  have hk:k<((N++[(⟨c,ks⟩:Br)]).getD i kR).aA.length:=hk;show Cb o (E,N++[(⟨c,ks⟩:Br)]) (((N++[(⟨c,ks⟩:Br)]).getD i kR).aA.getD k 0) i (o.idxOf ((N++[(⟨c,ks⟩:Br)]).getD i kR).var+1);rcases vG i hi with h|rfl
  .rw[hold i h]at hk ⊢;exact(i1.zN i h k hk).mono EK (a0P _) (a9G h) (a0P _)
  rw[fV]at hk ⊢;have hk:k<ks.length:=hk;exact(i2 k (by omega)).mono EK (a0P _) (a0P _) (by show o.idxOf c+1<=a+1;omega)
open Go Tw Pv bP
theorem Nq(d:Dg)(v:Int):ug d v=(EO d.aB d.aj v:Int):=by
 unfold ug EO;by_cases c:v<0
 .rw[a0F (by simpa using c),a0F c]
 rw[a0E (by simpa using c),a0E c];have hs:=a7Z (l:=d.aB) (d:=0) (a:=(au d v).var) (c:=PU d v) (fun k _=>by unfold PU;rw[a5b];simp);by_cases hm:(au d v).var∈d.aB
 .rw[hs.1 hm];rfl
 rw[a0F (hs.2 hm),a9b hm]
theorem JO{d:Dg}(hm:d.aK.length<=ah)(hf:(bK d.ay d.aB != 0)=false)(hv:∀v∈d.aK,vOk v=true)(hn:d.aj.length<=6000)(hp:PtV d.ay d.aB (d.aK,d.aj))(hr:Cb d.aB (d.aK,d.aj) d.root d.aj.length 0):aX d=0:=by
 obtain⟨cu,Qg⟩:=jw.1 (show bK d.ay d.aB=0 by simpa using hf);have akZ:∀(v:Int) (b a:Nat),Cb d.aB (d.aK,d.aj) v b a->iP d v b=true:=fun v b a h=>by
  unfold iP;split
  .simpa using h.2.1
  rename_i c;have c:v<0:=by simpa using c
  have:=h.1 c;have e:i64.wrap ((d.aK.length:Int)-1)=(d.aK.length:Int)-1:=by unfold ah at hm;rw[fK (by omega) (by omega)]
  rw[vU,e];have h2:=this.2;have h2:je v<(d.aK.length:Int):=h2;exact⟨this.1,by show je v<=_;omega⟩
 have hl:lW d=true:=by
  unfold lW;rw[a0F (dL.2 fun j hj=>by rw[cLe,hv _ (by simp[List.getD,a0q hj])];rfl),a0F (dL.2 fun i hi=>?_)]
  .exact akZ _ _ _ hr
  have h1:=hp.var i hi;have h2:=hp.ksz i hi;have h3:=hp.zN i hi;have h1:gu (fB d i).var d.ay.length:=h1;have h2:((fB d i).aA.length:Int)=d.ay.getD (fB d i).var.toNat 0:=h2;have e:xw d.ay=(d.ay.length:Int)-1:=by have:=cu.len;unfold xw;rw[fK (by omega) (by omega)]
  unfold cLn;rw[a0E,a0E (by rw[h2];simp),a0F]
  .refine dL.2 fun k hk=>?_;have h4:=h3 k hk;unfold cLk;rw[a0E (by rw[akZ _ _ _ h4];simp),a3b,Nq,Nq];have h5:=h4.2.2;have e6:EO d.aB d.aj ((i:Nat):Int)=d.aB.idxOf (fB d i).var:=by unfold EO;rw[a0E (by omega),a5p]
   rw[e6];have h5:d.aB.idxOf (fB d i).var+1<=EO d.aB d.aj ((d.aj.getD i kR).aA.getD k 0):=h5;omega
  have:nJ (fB d i).var 0 (xw d.ay)=true:=by rw[vU,e];have:=h1.1;have:=h1.2;exact⟨by omega,by omega⟩
  rw[this];simp
 unfold aX;rw[a0E (by rw[hf];simp),a0E (by rw[a1z];omega),a0E (by rw[hl];simp)]
structure OfP(s o:LI0)(l:List V):Prop where
 cu:vk s
 ord:jW s.length o=true
 len:(l.length:Int)=bC s
theorem OfP.p{s o:LI0}{l:List V}(h:OfP s o l):PtP s o l∧o.Nodup∧o.length=s.length:=by have ho:=h.ord;unfold jW at ho;rw[a1z]at ho;have:=h.cu.len;exact⟨⟨h.cu,fun c hc=>⟨(ho.2.1 c hc).1,(ho.2.1 c hc).2⟩,h.len,by unfold ah;omega,by unfold ah;omega⟩,ho.2.2,ho.1⟩
theorem Yi{s:LI0}{l:List V}:∀(r p:LI0) (x:EN),(∀q,l.getD (ji s q).toNat V0∈l∨True)->(∀q,kF s q=true->l.getD (ji s q).toNat V0∈l)->kF s p=true->(∀c∈r,gu c s.length)->nR s->(∀v∈x.1,v∈l)->∀v∈(iU s l r p x).2.1,v∈l
 | [],p,x,_,h,hp,_,_,hx,v,hv=>by
  have hv:v∈fU x.1 (l.getD (ji s p).toNat V0):=hv;unfold fU at hv;split at hv
  .exact hx v hv
  rcases a3P.1 hv with hv|hv
  .exact hx v hv
  rw[a1S.1 hv];exact h p hp
 |c::r,p,x,h0,h,hp,hr,hs,hx,v,hv=>by have hc:=hr c (by simp);have hz:=hs _ (dB (s:=s) (k:=c.toNat) (by have:=hc.1;have:=hc.2;omega));have:=cO (g:=C9 (iU s l r) c p) (m:=(s.getD c.toNat 0).toNat) (k:=0) (s:=([],x)) (fun _ y=>∀v∈y.2.1,v∈l) hx (fun j y _ hj hy=>Yi r _ y.2 h0 h (XY hp hc ⟨by omega,by omega⟩) (fun c hc=>hr c (by simp[hc])) hs hy);exact this v hv
theorem Gm{s o:LI0}{l:List V}(h:OfP s o l)(hv:∀v∈l,vOk v=true):aX (oz s o l)=0∧(oz s o l).aK.length<=2000∧(∀v∈(oz s o l).aK,v∈l)∧PtV s o ((oz s o l).aK,(oz s o l).aj)∧Cb o ((oz s o l).aK,(oz s o l).aj) (oz s o l).root (oz s o l).aj.length 0:=by
 obtain⟨hP,hn,ho⟩:=h.p;have hz:=Qb h.cu.sz;have hm:=h.cu.many;have hlen:=a0g (l:=l) h.cu.sz o (List.replicate s.length 0) ([],[]) hP.ord;have hw:=DT h.cu.sz h.ord;have a2Q:∀q,kF s q=true->l.getD (ji s q).toNat V0∈l:=fun q hq=>by
  have:=Dq hq h.cu.sz;have:=h.len;have aT:(ji s q).toNat<l.length:=by omega
  simp[List.getD,a0q aT]
 have nO:=Yi o (List.replicate s.length 0) ([],[]) (fun _=>.inr trivial) a2Q hz hP.ord h.cu.sz (by simp);have X8:=a8b (l:=l) h.cu.sz hP.ord hn o 0 (List.replicate s.length 0) ([],[]) rfl (a5i _) ⟨fun i hi=>(by simp at hi),fun i hi=>(by simp at hi),fun i hi=>(by simp at hi)⟩ (by have:=hlen.1;simp at this;omega);have h1:(oz s o l).aK.length<=0+wO s o:=hlen.1;have h2:(oz s o l).aj.length+1<=0+wO s o:=hlen.2;refine⟨JO (by unfold ah;omega) ?_ (fun v hv2=>hv v (nO v hv2)) (by omega) X8.1 X8.2,by omega,nO,X8.1,X8.2⟩;have:bK s o=0:=jw.2 ⟨h.cu,h.ord⟩;show(bK s o != 0)=false;rw[this];rfl
theorem abd{s o:LI0}{l:List V}(h:OfP s o l)(hv:∀v∈l,vOk v=true){q:LI0}(hq:kF s q=true):xP (oz s o l) q=l.getD (ji s q).toNat V0:=by
 obtain⟨hP,hn,ho⟩:=h.p;obtain⟨h1,h2,h3,h4,h5⟩:=Gm h hv;have ht:=jL (d:=oz s o l) hP.agj (by unfold ah;omega) (by rw[h1];rfl);have hto:=adU (l:=l) h.cu.sz o (List.replicate s.length 0) ([],[]) hP.ord (by simp) (oz s o l) (by omega) a5c a5c q hq (fun k hk YN=>by exfalso;exact YN (lX h.ord ⟨by omega,by omega⟩))
 have hr:=ht.1.root;exact(hto.at_ ht.1 hq 6001 (by have:=hr.1;have:=ht.2;show(oz s o l).root<_;omega) hr).symm
theorem Qh{s o:LI0}{l:List V}(h:OfP s o l)(hv:∀v∈l,vOk v=true):cellsD (oz s o l)=l:=by have hl:=h.len;unfold cellsD;refine a9H (by simp[Ce,oz];omega) fun n h1 h2=>?_;have hp:=Es (n:Int) h.cu.sz;simp only[a9s,aeY];show xP (oz s o l) (lQ s n)=_;rw[abd h hv hp,Nc h.cu.sz (by omega) (by omega)];simp[List.getD,a0q h2]
open Go Tw Pv bP
def Kn(d:Dg)(x:Cs)(v:Int):Prop:=if v<0 then oq d v∈x.e else v∈x.k.map (·.1)
def vw(d:Dg)(x:Cs)(v:Int):Int:=if v<0 then i64.wrap (-1-(x.e.idxOf (oq d v):Nat))else Vu x.k v
def Bd(x y:Cs):Prop:=x.e <+: y.e∧x.n <+: y.n∧x.k <+: y.k
theorem Bd.rfl{x:Cs}:Bd x x:=⟨a5c,a5c,a5c⟩
theorem Bd.trans{x y z:Cs}(a:Bd x y)(b:Bd y z):Bd x z:=⟨a.1.trans b.1,a.2.1.trans b.2.1,a.2.2.trans b.2.2⟩
theorem Kn.mono{d:Dg}{x y:Cs}{v:Int}(h:Kn d x v)(hp:Bd x y):Kn d y v:=by
 unfold Kn at h ⊢;split
 .rename_i c;rw[a0F c]at h;exact hp.1.subset h
 rename_i c;rw[a0E c]at h;obtain⟨t,ht⟩:=hp.2.2;rw[<-ht,a4J,a3P];exact .inl h
theorem U1{α:Type}[BEq α][LawfulBEq α]{a b:List α}{v:α}(h:v∈a)(hp:a <+: b):b.idxOf v=a.idxOf v:=by obtain⟨t,rfl⟩:=hp;rw[aa6,a0F h]
theorem a2o{a b:List (Int×Int)}{v:Int}(h:v∈a.map (·.1))(hp:a <+: b):Vu b v=Vu a v:=by
 obtain⟨t,rfl⟩:=hp;unfold Vu;rw[List.find?_append];cases e:a.find? fun p=>p.1==v with
 |none=>
  rw[a0V]at h;obtain⟨p,hp,rfl⟩:=h;have:=aef.1 e p hp;simp at this
 |some q=>rfl
theorem U2{d:Dg}{x y:Cs}{v:Int}(h:Kn d x v)(hp:Bd x y):vw d y v=vw d x v:=by
 unfold Kn at h;unfold vw;split
 .rename_i c;rw[a0F c]at h;rw[U1 h hp.1]
 rename_i c;rw[a0E c]at h;rw[a2o h hp.2.2]
theorem Yj{E:List V}{v:V}(h:v∈E):fU E v=E:=a0F h
theorem Lh(N:List Br)(c:Int)(ks:LI0):N <+: dD N c ks:=by
 unfold dD;split
 .exact a5c
 split
 .exact a5c
 exact a9j _ _
theorem a0i{N M:List Br}{c:Int}{ks:LI0}(h:dD N c ks=N)(hp:N <+: M):dD M c ks=M∧eG M c ks=eG N c ks:=by
 unfold dD at h ⊢;unfold eG;by_cases hf:(ks.all fun x=>x==ks.getD 0 0)=true
 .rw[a0F hf,a0F hf,a0F hf];exact⟨rfl,rfl⟩
 rw[a0E hf]at h ⊢;rw[a0E hf,a0E hf];by_cases hm:uh c ks∈N.map Ci
 .have hp2:N.map Ci <+: M.map Ci:=by obtain⟨t,rfl⟩:=hp;rw[a4J];exact a9j _ _
  rw[a0F (hp2.subset hm),U1 hm hp2];exact⟨rfl,rfl⟩
 rw[a0E hm]at h;have:=congrArg List.length h;simp at this
theorem a4f(N:List Br)(c:Int)(ks:LI0):dD (dD N c ks) c ks=dD N c ks∧eG (dD N c ks) c ks=eG N c ks:=by
 unfold eG;by_cases hf:(ks.all fun x=>x==ks.getD 0 0)=true
 .rw[a0F hf,a0F hf];have:dD N c ks=N:=a0F hf;rw[this,this];exact⟨rfl,rfl⟩
 rw[a0E hf,a0E hf];by_cases hm:uh c ks∈N.map Ci
 .have:dD N c ks=N:=by unfold dD;rw[a0E hf,a0F hm]
  rw[this,this];exact⟨rfl,rfl⟩
 have e:dD N c ks=N++[⟨c,ks⟩]:=by unfold dD;rw[a0E hf,a0E hm]
 have hm2:uh c ks∈(N++[(⟨c,ks⟩:Br)]).map Ci:=by rw[a4J];simp
 have e2:dD (N++[⟨c,ks⟩]) c ks=N++[⟨c,ks⟩]:=by unfold dD;rw[a0E hf,a0F hm2]
 rw[e,e2];refine⟨rfl,?_⟩;rw[a4J,aa6,a0E hm,a9b hm];simp
abbrev aQ(d:Dg)(v:Int):LI0:=(au d v).aA
def Yk(d:Dg)(x:Cs):Prop:=∀v∈x.k.map (·.1),(∀j,j<(aQ d v).length->Kn d x ((aQ d v).getD j 0))∧eG x.n (au d v).var ((aQ d v).map (vw d x))=Vu x.k v∧dD x.n (au d v).var ((aQ d v).map (vw d x))=x.n
abbrev Cj(d:Dg)(F:Nat)(r:Int)(j:Nat)(y:LI0×Cs):LI0×Cs:=(y.1.set j (bU d F ((aQ d r).getD j 0) y.2).1,(bU d F ((aQ d r).getD j 0) y.2).2)
theorem a8c{d:Dg}:∀(F:Nat) (r:Int) (x:Cs),Bd x (bU d F r x).2
 | 0,_,x=>Bd.rfl
 |F+1,r,x=>by
  unfold bU;split
  .exact⟨Bc _ _,a5c,a5c⟩
  split
  .exact Bd.rfl
  have:=cO (g:=Cj d F r) (m:=(aQ d r).length) (k:=0) (s:=(List.replicate (aQ d r).length 0,x)) (fun _ y=>Bd x y.2) Bd.rfl (fun j y _ _ hy=>hy.trans (a8c F _ y.2));exact⟨this.1,this.2.1.trans (Lh _ _ _),this.2.2.trans (a9j _ _)⟩
theorem Nr{d:Dg}{F:Nat}{v:Int}{x:Cs}(h:Kn d x v):bU d (F+1) v x=(vw d x v,x):=by
 unfold Kn at h;unfold bU vw;by_cases c:v<0
 .rw[a0F (by simpa using c),a0F c];rw[a0F c]at h;rw[Yj h]
 rw[a0E c]at h;rw[a0E (by simpa using c),a0F (by simpa using h),a0E c]
theorem Qi{d:Dg}{x y:Cs}{ks:LI0}(h:∀j,j<ks.length->Kn d x (ks.getD j 0))(hp:Bd x y):ks.map (vw d y)=ks.map (vw d x):=by refine a5L fun v hv=>?_;obtain⟨j,hj,rfl⟩:=a8B hv;have:=h j hj;rw[List.getD,a0q hj]at this;exact U2 this hp
theorem Yk.a2p{d:Dg}{x y:Cs}{v:Int}(h:(∀j,j<(aQ d v).length->Kn d x ((aQ d v).getD j 0))∧eG x.n (au d v).var ((aQ d v).map (vw d x))=Vu x.k v∧dD x.n (au d v).var ((aQ d v).map (vw d x))=x.n)(hv:v∈x.k.map (·.1))(hp:Bd x y):(∀j,j<(aQ d v).length->Kn d y ((aQ d v).getD j 0))∧eG y.n (au d v).var ((aQ d v).map (vw d y))=Vu y.k v∧dD y.n (au d v).var ((aQ d v).map (vw d y))=y.n:=by obtain⟨h1,h2,h3⟩:=h;rw[Qi h1 hp];obtain⟨g1,g2⟩:=a0i h3 hp.2.1;exact⟨fun j hj=>(h1 j hj).mono hp,by rw[g2,h2,a2o hv hp.2.2],g1⟩
theorem a0j{d:Dg}(h:BX d):∀(F:Nat) (r:Int) (x:Cs),1<=F->r+1<F->jD d r d.aj.length->DR d x->Yk d x->Yk d (bU d F r x).2∧Kn d (bU d F r x).2 r∧vw d (bU d F r x).2 r=(bU d F r x).1
 | 0,r,x,h1,_,_,_,_=>by omega
 |F+1,r,x,_,hF,hr,hx,hi=>by
  by_cases c:r<0
  .have e:bU d (F+1) r x=(i64.wrap (-1-(x.e.idxOf (oq d r):Nat)),⟨fU x.e (oq d r),x.n,x.k⟩):=by unfold bU;rw[a0F (by simpa using c)]
   rw[e];have hp:Bd x ⟨fU x.e (oq d r),x.n,x.k⟩:=⟨Bc _ _,a5c,a5c⟩;refine⟨fun v hv=>Yk.a2p (hi v hv) hv hp,?_,?_⟩
   .unfold Kn;rw[a0F c];show oq d r∈fU x.e (oq d r);unfold fU;split
    .assumption
    simp
   unfold vw;rw[a0F c];show i64.wrap (-1-((fU x.e (oq d r)).idxOf (oq d r):Nat))=_;congr 3;unfold fU;split
   .rfl
   rename_i hn;rw[aa6,a0E hn,a9b hn];simp
  by_cases c2:r∈x.k.map (·.1)
  .have hk:Kn d x r:=by unfold Kn;rw[a0E c];exact c2
   rw[Nr hk];exact⟨hi,hk,rfl⟩
  have aT:r.toNat<d.aj.length:=by have:=hr.1;omega
  have BZ:∀k,k<(aQ d r).length->(aQ d r).getD k 0<r:=fun k kQ=>by have h9:=(h.zN r.toNat aT k kQ).1;have h9:(aQ d r).getD k 0<(r.toNat:Int):=h9;omega
  have Le:∀j,j<(aQ d r).length->jD d ((aQ d r).getD j 0) d.aj.length:=fun j hj=>⟨by have:=BZ j hj;have:=hr.1;omega,(h.zN r.toNat aT j hj).2⟩;have inv:=cO (g:=Cj d F r) (m:=(aQ d r).length) (k:=0) (s:=(List.replicate (aQ d r).length 0,x)) (fun k y=>(y.1.length=(aQ d r).length∧Bd x y.2)∧(DR d y.2∧r∉y.2.k.map (·.1))∧Yk d y.2∧∀j,j<k->Kn d y.2 ((aQ d r).getD j 0)∧vw d y.2 ((aQ d r).getD j 0)=y.1.getD j 0) ⟨⟨by simp,Bd.rfl⟩,⟨hx,c2⟩,hi,fun j hj=>by omega⟩ (fun j y _ hj hy=>by
   obtain⟨⟨y1,y2⟩,⟨y3,y4⟩,y5,y6⟩:=hy;have hj:j<(aQ d r).length:=(by omega);have hp:=a8c (d:=d) F ((aQ d r).getD j 0) y.2;obtain⟨z1,z2,z3⟩:=a0j h F ((aQ d r).getD j 0) y.2 (by omega) (by have:=BZ j hj;omega) (Le j hj) y3 y5;refine⟨⟨by simp[Cj,y1],y2.trans hp⟩,⟨Q5 h F _ y.2 y3 (Le j hj),Ya F _ r y.2 (BZ j hj) y4 (by omega) (fun i hi k hk=>(h.zN i hi k hk).1) (fun h5=>⟨h5,(Le j hj).1⟩)⟩,z1,fun j' Ea=>?_⟩;by_cases e:j'=j
   .subst e;refine⟨z2,?_⟩;rw[z3];show(bU d F ((aQ d r).getD j' 0) y.2).1=(y.1.set j' (bU d F ((aQ d r).getD j' 0) y.2).1).getD j' 0;generalize (bU d F ((aQ d r).getD j' 0) y.2).1=z;simp[List.getD,a2M (show j'<y.1.length by omega)]
   obtain⟨a1,a2⟩:=y6 j' (by omega);refine⟨a1.mono hp,?_⟩;rw[U2 a1 hp,a2];show _=(y.1.set j (bU d F ((aQ d r).getD j 0) y.2).1).getD j' 0;generalize (bU d F ((aQ d r).getD j 0) y.2).1=z;simp[List.getD,a1B (Ne.symm e)])
  rw[a3W]at inv;have e:bU d (F+1) r x=(eG (aS (Cj d F r) (aQ d r).length 0 (List.replicate (aQ d r).length 0,x)).2.n (au d r).var (aS (Cj d F r) (aQ d r).length 0 (List.replicate (aQ d r).length 0,x)).1,⟨(aS (Cj d F r) (aQ d r).length 0 (List.replicate (aQ d r).length 0,x)).2.e,dD (aS (Cj d F r) (aQ d r).length 0 (List.replicate (aQ d r).length 0,x)).2.n (au d r).var (aS (Cj d F r) (aQ d r).length 0 (List.replicate (aQ d r).length 0,x)).1,(aS (Cj d F r) (aQ d r).length 0 (List.replicate (aQ d r).length 0,x)).2.k++[(r,eG (aS (Cj d F r) (aQ d r).length 0 (List.replicate (aQ d r).length 0,x)).2.n (au d r).var (aS (Cj d F r) (aQ d r).length 0 (List.replicate (aQ d r).length 0,x)).1)]⟩):=by rw[bU,a0E (by simpa using c),a0E (by simpa using c2)]
  rw[e];generalize aS (Cj d F r) (aQ d r).length 0 (List.replicate (aQ d r).length 0,x)=y at inv;obtain⟨ks,y⟩:=y;obtain⟨⟨y1,y2⟩,⟨y3,y4⟩,y5,y6⟩:=inv;have y1:ks.length=(aQ d r).length:=y1;have y4:r∉y.k.map (·.1):=y4;have hp:Bd y ⟨y.e,dD y.n (au d r).var ks,y.k++[(r,eG y.n (au d r).var ks)]⟩:=⟨a5c,Lh _ _ _,a9j _ _⟩;have EZ:(aQ d r).map (vw d y)=ks:=by refine a9H (by simp[y1]) fun j j1 j2=>?_;have hj:j<(aQ d r).length:=(by omega);have:=(y6 j hj).2;rw[List.getD,List.getD,a0q hj,a0q j2]at this;simpa using this
  have fV:Vu (y.k++[(r,eG y.n (au d r).var ks)]) r=eG y.n (au d r).var ks:=by
   unfold Vu;rw[List.find?_append];have:(y.k.find? fun p=>p.1==r)=none:=aef.2 fun p hp=>by simp only[a7g];intro e2;exact y4 (a0V.2 ⟨p,hp,e2⟩)
   rw[this];simp
  obtain⟨g1,g2⟩:=a4f y.n (au d r).var ks;refine⟨fun v hv=>?_,?_,?_⟩
  .have hv:v∈(y.k++[(r,eG y.n (au d r).var ks)]).map (·.1):=hv;rw[a4J,a3P]at hv;rcases hv with hv|hv
   .exact Yk.a2p (y5 v hv) hv hp
   have hv:v=r:=(by simpa using hv);subst hv;refine⟨fun j hj=>(y6 j hj).1.mono hp,?_,?_⟩
   .rw[Qi (fun j hj=>(y6 j hj).1) hp,EZ];show eG (dD y.n (au d v).var ks) _ ks=Vu (y.k++[(v,eG y.n (au d v).var ks)]) v;rw[g2,fV]
   rw[Qi (fun j hj=>(y6 j hj).1) hp,EZ];exact g1
  .unfold Kn;rw[a0E c];show r∈(y.k++[(r,eG y.n (au d r).var ks)]).map (·.1);simp
  unfold vw;rw[a0E c];exact fV
open Go Tw Pv bP
theorem Yl{d:Dg}(h:aX d=0):∀i,i<d.aj.length->∀k,k<(fB d i).aA.length->d.aB.idxOf (fB d i).var+1<=EO d.aB d.aj ((fB d i).aA.getD k 0):=by
 intro i hi k hk;unfold aX at h;split at h
 .rename_i c;rw[h]at c;cases c
 split at h
 .cases h
 split at h
 .cases h
 rename_i c;have c:lW d=true:=by simpa using c
 unfold lW at c;split at c
 rotate_left
 .cases c
 split at c
 rotate_left
 .cases c
 rename_i c2;have:=dL.1 c2 i hi;unfold cLn at this;split at this
 .cases this
 split at this
 .cases this
 split at this
 .rename_i c3;have:=dL.1 c3 k hk;unfold cLk at this;split at this
  .cases this
  rw[a3b,Nq,Nq]at this;have e6:EO d.aB d.aj ((i:Nat):Int)=d.aB.idxOf (fB d i).var:=by unfold EO;rw[a0E (by omega),a5p]
  rw[e6]at this;show d.aB.idxOf (fB d i).var+1<=EO d.aB d.aj ((d.aj.getD i kR).aA.getD k 0);omega
 cases this
theorem a0k{d:Dg}(h:BX d):∀(F:Nat) (r:Int) (x:Cs),jD d r d.aj.length->NOk d.ay x.n->NOk d.ay (bU d F r x).2.n
 | 0,_,_,_,hx=>hx
 |F+1,r,x,hr,hx=>by
  unfold bU;by_cases c:r<0
  .rw[a0F (by simpa using c)];exact hx
  rw[a0E (by simpa using c)];split
  .exact hx
  have aT:r.toNat<d.aj.length:=by have:=hr.1;omega
  have Le:∀j,j<(aQ d r).length->jD d ((aQ d r).getD j 0) d.aj.length:=fun j hj=>by have h9:=h.zN r.toNat aT j hj;have h8:=h9.1;have h8:(aQ d r).getD j 0<(r.toNat:Int):=h8;exact⟨by omega,h9.2⟩
  have inv:=cO (g:=Cj d F r) (m:=(aQ d r).length) (k:=0) (s:=(List.replicate (aQ d r).length 0,x)) (fun _ y=>y.1.length=(aQ d r).length∧NOk d.ay y.2.n) ⟨by simp,hx⟩ (fun j y _ hj hy=>⟨by simp[Cj,hy.1],a0k h F _ y.2 (Le j (by omega)) hy.2⟩);show NOk d.ay (dD (aS (Cj d F r) (aQ d r).length 0 (List.replicate (aQ d r).length 0,x)).2.n (au d r).var (aS (Cj d F r) (aQ d r).length 0 (List.replicate (aQ d r).length 0,x)).1);generalize aS (Cj d F r) (aQ d r).length 0 (List.replicate (aQ d r).length 0,x)=y at inv;intro b hb;unfold dD at hb;split at hb
  .exact inv.2 b hb
  split at hb
  .exact inv.2 b hb
  rcases a3P.1 hb with hb|hb
  .exact inv.2 b hb
  rw[a1S.1 hb];refine⟨h.var r.toNat aT,?_⟩;show(y.1.length:Int)=d.ay.getD (au d r).var.toNat 0;rw[inv.1];exact h.ksz r.toNat aT
theorem a8d{n:Nat}(hn:1<=n)(v:Int):((List.replicate n v).all fun x=>x==(List.replicate n v).getD 0 0)=true∧(List.replicate n v).getD 0 0=v:=by obtain⟨k,rfl⟩:∃k,n=k+1:=⟨n-1,by omega⟩;simp[aew]
theorem Ym{d:Dg}{l:List V}(h:BX d)(Qg:jW d.ay.length d.aB=true)(hk:∀i,i<d.aj.length->∀k,k<(fB d i).aA.length->d.aB.idxOf (fB d i).var+1<=EO d.aB d.aj ((fB d i).aA.getD k 0)):∀(r:LI0) (a:Nat) (p:LI0) (v:Int) (x:Cs) (F:Nat),d.aB.drop a=r->a<=d.aB.length->kF d.ay p=true->DR d x->Yk d x->NOk d.ay x.n->jD d v d.aj.length->a<=EO d.aB d.aj v->1<=F->v+1<F->(∀q,kF d.ay q=true->Agr d.ay r q p->To d q v (l.getD (ji d.ay q).toNat V0))->iU d.ay l r p (x.e,x.n)=((bU d F v x).1,((bU d F v x).2.e,(bU d F v x).2.n))
 | [],a,p,v,x,F,hr,ha,hp,_,_,_,hv,Le,hF1,hF,hto=>by
  obtain⟨F,rfl⟩:∃k,F=k+1:=⟨F-1,by omega⟩;have:a=d.aB.length:=by have:=congrArg List.length hr;rw[a4l,a5s]at this;omega
  subst this;have hv0:v<0:=by
   rcases Int.lt_or_le v 0 with c|c
   .exact c
   exfalso;unfold EO at Le;rw[a0E (by omega)]at Le;have aT:v.toNat<d.aj.length:=by have:=hv.1;omega
   have hm:=lX Qg (h.var v.toNat aT);have:=a5a.2 hm;have:d.aB.idxOf (d.aj.getD v.toNat kR).var<d.aB.length:=this;omega
  have t:=hto p hp (fun _ _ _=>rfl);have e:l.getD (ji d.ay p).toNat V0=oq d v:=(To.fin hv0:To d p v _).det t |>.symm
  unfold bU;rw[a0F (by simpa using hv0)];show(i64.wrap (-1-(x.e.idxOf (l.getD (ji d.ay p).toNat V0):Nat)),(fU x.e (l.getD (ji d.ay p).toNat V0),x.n))=_;rw[e]
 |c::r,a,p,v,x,F,hr,ha,hp,hx,hi,YN,hv,Le,hF1,hF,hto=>by
  have aT:a<d.aB.length:=by have:=congrArg List.length hr;rw[a4l,a4K]at this;omega
  have hd:=a6G aT;rw[hr]at hd;obtain⟨hc,wK⟩:=List.cons.inj hd;have ho:=Qg;unfold jW at ho;rw[a1z]at ho;have Gf:c∈d.aB:=by rw[hc];exact a4Z aT
  have qF:gu c d.ay.length:=⟨(ho.2.1 c Gf).1,(ho.2.1 c Gf).2⟩;have hia:d.aB.idxOf c=a:=by rw[hc];exact ho.2.2.idxOf_getElem a aT
  have pV:c.toNat<d.ay.length:=by have:=qF.1;have:=qF.2;omega
  have hz:=h.cu.sz _ (dB (s:=d.ay) (k:=c.toNat) pV);have Gt:=uN hp;have hcr:c∉r:=by have:(d.aB.drop a).Nodup:=ho.2.2.sublist (List.drop_sublist _ _);rw[hr]at this;exact(a4U.1 this).1
  have FN:∀j:Nat,j<(d.ay.getD c.toNat 0).toNat->kF d.ay (p.set c.toNat j)=true:=fun j hj=>XY hp qF ⟨by omega,by omega⟩;simp only[iU];by_cases vG:0<=v∧(au d v).var=c
  .obtain⟨hv0,hvc⟩:=vG;have a4g:v.toNat<d.aj.length:=by have:=hv.1;omega
   have KJ:((aQ d v).length:Int)=d.ay.getD c.toNat 0:=by rw[<-hvc];exact h.ksz v.toNat a4g
   have hkn:(d.ay.getD c.toNat 0).toNat=(aQ d v).length:=(by omega);have BZ:∀j,j<(aQ d v).length->(aQ d v).getD j 0<v:=fun j hj=>by have h9:=(h.zN v.toNat a4g j hj).1;have h9:(aQ d v).getD j 0<(v.toNat:Int):=h9;omega
   have hrf:∀j,j<(aQ d v).length->jD d ((aQ d v).getD j 0) d.aj.length:=fun j hj=>⟨by have:=BZ j hj;have:=hv.1;omega,(h.zN v.toNat a4g j hj).2⟩;have al1:∀j,j<(aQ d v).length->a+1<=EO d.aB d.aj ((aQ d v).getD j 0):=fun j hj=>by have:=hk v.toNat a4g j hj;have:d.aB.idxOf (au d v).var+1<=EO d.aB d.aj ((aQ d v).getD j 0):=this;rw[hvc,hia]at this;exact this
   have al2:∀j:Nat,j<(aQ d v).length->∀q,kF d.ay q=true->Agr d.ay r q (p.set c.toNat j)->To d q ((aQ d v).getD j 0) (l.getD (ji d.ay q).toNat V0):=fun j hj q hq hag=>by
    have YM:q.getD c.toNat 0=j:=by have:=hag c.toNat pV (by rw[ahB qF.1];exact hcr);rw[this,List.getD,a2M (by omega)];rfl
    have t0:=hto q hq (Agr.back qF hag);revert t0;generalize l.getD (ji d.ay q).toNat V0=w;intro t0;cases t0 with
    |fin h9=>omega
    |step _ t=>
     rw[hvc,YM,a5p]at t;exact t
   rw[hkn];by_cases OU:v∈x.k.map (·.1)
   .-- known
    have hKn:Kn d x v:=by unfold Kn;rw[a0E (by omega)];exact OU
    obtain⟨F',rfl⟩:∃k,F=k+1:=⟨F-1,by omega⟩;rw[Nr hKn];obtain⟨i1,i2,i3⟩:=hi v OU;have inv:=cO (g:=C9 (iU d.ay l r) c p) (m:=(aQ d v).length) (k:=0) (s:=([],(x.e,x.n))) (fun k y=>y=(((aQ d v).map (vw d x)).take k,(x.e,x.n))) (by simp) (fun j y _ hj hy=>by have hj:j<(aQ d v).length:=(by omega);subst hy;have ih:=Ym h Qg hk r (a+1) (p.set c.toNat j) ((aQ d v).getD j 0) x (F'+1) wK.symm aT (FN j (by omega)) hx hi YN (hrf j hj) (al1 j hj) (by omega) (by have:=BZ j hj;omega) (al2 j hj);rw[Nr (i1 j hj)]at ih;unfold C9;rw[ih];refine adu ?_ rfl;show(((aQ d v).map (vw d x)).take j)++[vw d x ((aQ d v).getD j 0)]=_;have hjm:j<((aQ d v).map (vw d x)).length:=(by simpa using hj);rw[a8n hjm];simp[List.getD,a0q hj])
    rw[a3W]at inv;rw[inv,a9u (by simp)];rw[hvc]at i2 i3;obtain⟨n1,n2⟩:=Yg h.cu.sz YN qF (ks:=(aQ d v).map (vw d x)) (by simpa using KJ);show(Gl x.n c _,(x.e,qE x.n c _))=_;rw[<-n1,<-n2,i2,i3];unfold vw;rw[a0E (by omega)]
   obtain⟨F',rfl⟩:∃k,F=k+1:=⟨F-1,by omega⟩;have key:∀j,j<=(aQ d v).length->(aS (C9 (iU d.ay l r) c p) j 0 ([],(x.e,x.n)))=((aS (Cj d F' v) j 0 (List.replicate (aQ d v).length 0,x)).1.take j,((aS (Cj d F' v) j 0 (List.replicate (aQ d v).length 0,x)).2.e,(aS (Cj d F' v) j 0 (List.replicate (aQ d v).length 0,x)).2.n))∧(aS (Cj d F' v) j 0 (List.replicate (aQ d v).length 0,x)).1.length=(aQ d v).length∧(DR d (aS (Cj d F' v) j 0 (List.replicate (aQ d v).length 0,x)).2∧v∉(aS (Cj d F' v) j 0 (List.replicate (aQ d v).length 0,x)).2.k.map (·.1))∧Yk d (aS (Cj d F' v) j 0 (List.replicate (aQ d v).length 0,x)).2∧NOk d.ay (aS (Cj d F' v) j 0 (List.replicate (aQ d v).length 0,x)).2.n:=by
    intro j
    induction j with
    |zero=>intro _;exact⟨rfl,by simp[aS],⟨hx,OU⟩,hi,YN⟩
    |succ j ih=>
     intro hj;have hj:j<(aQ d v).length:=hj;obtain⟨q1,q2,⟨q3,q3'⟩,q4,q5⟩:=ih (by omega);rw[tV,tV,a3W];generalize aS (Cj d F' v) j 0 (List.replicate (aQ d v).length 0,x)=y at q1 q2 q3 q3' q4 q5;rw[q1];have Rz:=BZ j hj;have ih2:=Ym h Qg hk r (a+1) (p.set c.toNat j) ((aQ d v).getD j 0) y.2 F' wK.symm aT (FN j (by omega)) q3 q4 q5 (hrf j hj) (al1 j hj) (by omega) (by omega) (al2 j hj);refine⟨?_,by simp[Cj,q2],⟨Q5 h F' _ y.2 q3 (hrf j hj),Ya F' _ v y.2 Rz q3' (by omega) (fun i hi k hk=>(h.zN i hi k hk).1) (fun h5=>⟨h5,(hrf j hj).1⟩)⟩,(a0j h F' _ y.2 (by omega) (by omega) (hrf j hj) q3 q4).1,a0k h F' _ y.2 (hrf j hj) q5⟩;unfold C9;rw[ih2];refine adu ?_ rfl;show y.1.take j++[(bU d F' ((aQ d v).getD j 0) y.2).1]=(y.1.set j (bU d F' ((aQ d v).getD j 0) y.2).1).take (j+1);rw[a8n (by simp;omega),List.take_set_of_le (a0P _),List.getElem_set_self]
   obtain⟨q1,q2,⟨q3,q3'⟩,q4,q5⟩:=key _ (a0P _);rw[q1];have e:bU d (F'+1) v x=(eG (aS (Cj d F' v) (aQ d v).length 0 (List.replicate (aQ d v).length 0,x)).2.n (au d v).var (aS (Cj d F' v) (aQ d v).length 0 (List.replicate (aQ d v).length 0,x)).1,⟨(aS (Cj d F' v) (aQ d v).length 0 (List.replicate (aQ d v).length 0,x)).2.e,dD (aS (Cj d F' v) (aQ d v).length 0 (List.replicate (aQ d v).length 0,x)).2.n (au d v).var (aS (Cj d F' v) (aQ d v).length 0 (List.replicate (aQ d v).length 0,x)).1,(aS (Cj d F' v) (aQ d v).length 0 (List.replicate (aQ d v).length 0,x)).2.k++[(v,eG (aS (Cj d F' v) (aQ d v).length 0 (List.replicate (aQ d v).length 0,x)).2.n (au d v).var (aS (Cj d F' v) (aQ d v).length 0 (List.replicate (aQ d v).length 0,x)).1)]⟩):=by rw[bU,a0E (by simpa using hv0),a0E (by simpa using OU)]
   rw[e];generalize aS (Cj d F' v) (aQ d v).length 0 (List.replicate (aQ d v).length 0,x)=y at q2 q5;rw[a9u (by omega),hvc];obtain⟨n1,n2⟩:=Yg h.cu.sz q5 qF (ks:=y.1) (by rw[q2];exact KJ);rw[n1,n2]
  -- asked later,or an end
  have al3:a+1<=EO d.aB d.aj v:=by
   unfold EO at Le ⊢;split
   .omega
   rename_i c1;rw[a0E c1]at Le;have iD:d.aB.idxOf (d.aj.getD v.toNat kR).var≠a:=fun e=>by
    apply vG;refine⟨by omega,?_⟩;have a4g:v.toNat<d.aj.length:=by have:=hv.1;omega
    have hm:=lX Qg (h.var v.toNat a4g);have h1:=a9i (a5a.2 hm);have e:d.aB.idxOf (fB d v.toNat).var=a:=e;show(fB d v.toNat).var=c;rw[hc,<-h1];congr 1
   omega
  obtain⟨z1,z2,z3⟩:=a0j h F v x hF1 hF hv hx hi;have Ry:=Q5 h F v x hx hv;have aeU:=a0k h F v x hv YN;have al4:bU d F v (bU d F v x).2=((bU d F v x).1,(bU d F v x).2):=by
   have e:∀y,Kn d y v->vw d y v=(bU d F v x).1->bU d F v y=((bU d F v x).1,y):=fun y h1 h2=>by obtain⟨F',rfl⟩:∃k,F=k+1:=⟨F-1,by omega⟩;rw[Nr h1,h2]
   exact e _ z2 z3
  have al5:∀j:Nat,∀q,kF d.ay q=true->Agr d.ay r q (p.set c.toNat j)->To d q v (l.getD (ji d.ay q).toNat V0):=fun j q hq hag=>hto q hq (Agr.back qF hag);have inv:=cO (g:=C9 (iU d.ay l r) c p) (m:=(d.ay.getD c.toNat 0).toNat) (k:=0) (s:=([],(x.e,x.n))) (fun k y=>(k=0∧y=([],(x.e,x.n)))∨(0<k∧y=(List.replicate k (bU d F v x).1,((bU d F v x).2.e,(bU d F v x).2.n)))) (.inl ⟨rfl,rfl⟩) (fun j y _ hj hy=>by
   right;refine⟨by omega,?_⟩;rcases hy with⟨rfl,rfl⟩|⟨h0,rfl⟩
   .have ih:=Ym h Qg hk r (a+1) (p.set c.toNat ((0:Nat):Int)) v x F wK.symm aT (FN 0 (by omega)) hx hi YN hv al3 hF1 hF (al5 0);unfold C9;rw[ih];rfl
   have ih:=Ym h Qg hk r (a+1) (p.set c.toNat ((j:Nat):Int)) v (bU d F v x).2 F wK.symm aT (FN j (by omega)) Ry z1 aeU hv al3 hF1 hF (al5 j);rw[al4]at ih;unfold C9;rw[ih];refine adu ?_ rfl;show List.replicate j _++[_]=_;rw[List.replicate_succ'])
  rw[a3W]at inv;rcases inv with⟨h0,_⟩|⟨h0,e⟩
  .omega
  rw[e];obtain⟨f1,f2⟩:=a8d (n:=(d.ay.getD c.toNat 0).toNat) (by omega) (bU d F v x).1;show(Gl _ c _,(_,qE _ c _))=_;unfold Gl qE;rw[a0F f1,a0F f1,f2]
theorem Qj{d:Dg}(hl:aX d=0)(ho:d.aB.length<=ah)(he:d.aK.length<=ah):eH d=oz d.ay d.aB (cellsD d)∧OfP d.ay d.aB (cellsD d):=by
 obtain⟨h,hn⟩:=jL ho he (by rw[hl];rfl);have hf:(bK d.ay d.aB != 0)=false:=by
  unfold aX at hl;split at hl
  .rename_i c;rw[hl]at c;cases c
  rename_i c;simpa using c
 obtain⟨cu,Qg⟩:=jw.1 (show bK d.ay d.aB=0 by simpa using hf);have hlen:((cellsD d).length:Int)=bC d.ay:=by unfold cellsD;rw[a4S,a9m,cu.a3A]
 have hr:=h.root;have hr1:=hr.1;have hto:∀q,kF d.ay q=true->To d q d.root ((cellsD d).getD (ji d.ay q).toNat V0):=fun q hq=>by
  have hrn:=Dq hq cu.sz;have t:=To.of h hq 6001 d.root (by omega) hr;have e:(cellsD d).getD (ji d.ay q).toNat V0=xP d q:=by
   have aT:(ji d.ay q).toNat<Ce d.ay:=by unfold Ce;omega
   unfold cellsD;rw[List.getD,a0q (by simpa using aT)];simp only[a9s,aeY,a5e];rw[show(((ji d.ay q).toNat:Nat):Int)=ji d.ay q by omega,Vg hq cu.sz]
  rw[e];exact t
 have key:=Ym (l:=cellsD d) h Qg (Yl hl) d.aB 0 (List.replicate d.ay.length 0) d.root YT 6002 rfl (a5i _) (Qb cu.sz) Vy (fun v hv=>by cases hv) (fun b hb=>by cases hb) hr (a5i _) (by omega) (by omega) (fun q hq _=>hto q hq);refine⟨?_,⟨cu,Qg,hlen⟩⟩;have key:iU d.ay (cellsD d) d.aB (List.replicate d.ay.length 0) ([],[])=_:=key;unfold eH oz;rw[key]
open Go Tw Pv bP
theorem Qk(k:Int):Gj (i64.wrap k):=by
 have e:i64.wrap k=if k%(2^64:Int)>=(2^63:Int)then k%(2^64:Int)-2^64 else k%(2^64:Int):=by
  show(if(true&&decide (k%(2^64:Int)>=(2^63:Int)))=true then _ else _)=_;by_cases c:k%(2^64:Int)>=(2^63:Int)
  .rw[a0F (by simpa using c),a0F c];rfl
  rw[a0E (by simpa using c),a0E c];rfl
 rw[e];unfold Gj;split<;>constructor<;>omega
def EnW(x:EN):Prop:=∀b∈x.2,∀k∈b.aA,Gj k
theorem a8e{s:LI0}{l:List V}(hs:nR s):∀(r p:LI0) (x:EN),(∀c∈r,gu c s.length)->EnW x->(iU s l r p x).2.2.length<2^61->EnW (iU s l r p x).2∧Gj (iU s l r p x).1
 | [],p,x,_,hx,_=>⟨hx,Qk _⟩
 |c::r,p,x,hr,hx,hE=>by
  have qF:=hr c (by simp);have hz:=hs _ (dB (s:=s) (k:=c.toNat) (by have:=qF.1;have:=qF.2;omega));have hN:=Iy (aS (C9 (iU s l r) c p) (s.getD c.toNat 0).toNat 0 ([],x)).2.2 c (aS (C9 (iU s l r) c p) (s.getD c.toNat 0).toNat 0 ([],x)).1;have hE:(qE (aS (C9 (iU s l r) c p) (s.getD c.toNat 0).toNat 0 ([],x)).2.2 c (aS (C9 (iU s l r) c p) (s.getD c.toNat 0).toNat 0 ([],x)).1).length<2^61:=hE;have inv:=cO (g:=C9 (iU s l r) c p) (m:=(s.getD c.toNat 0).toNat) (k:=0) (s:=([],x)) (fun k y=>y.1.length=k∧(y.2.2.length<2^61->EnW y.2∧∀v∈y.1,Gj v)) ⟨rfl,fun _=>⟨hx,by simp⟩⟩ (fun j y _ hj hy=>by
   refine⟨by simp[C9,hy.1],fun hE2=>?_⟩;have hE2:(iU s l r (p.set c.toNat j) y.2).2.2.length<2^61:=hE2;have hp:=(Qd (s:=s) (l:=l) r (p.set c.toNat j) y.2).2.length_le;obtain⟨y1,y2⟩:=hy.2 (by omega);obtain⟨z1,z2⟩:=a8e hs r (p.set c.toNat j) y.2 (fun c hc=>hr c (by simp[hc])) y1 hE2;refine⟨z1,fun v hv=>?_⟩;have hv:v∈y.1++[(iU s l r (p.set c.toNat j) y.2).1]:=hv;rcases a3P.1 hv with hv|hv
   .exact y2 v hv
   rw[a1S.1 hv];exact z2)
  rw[a3W]at inv;simp only[iU];generalize aS (C9 (iU s l r) c p) (s.getD c.toNat 0).toNat 0 ([],x)=y at inv hN hE;obtain⟨ks,E,N⟩:=y;have hN:N <+: qE N c ks:=hN;have hE:(qE N c ks).length<2^61:=hE;obtain⟨i0,i1⟩:=inv;have i0:ks.length=(s.getD c.toNat 0).toNat:=i0;obtain⟨i1,i2⟩:=i1 (by have:=hN.length_le;show N.length<2^61;omega);have i1:∀b∈N,∀k∈b.aA,Gj k:=i1;have i2:∀v∈ks,Gj v:=i2;refine⟨fun b hb=>?_,?_⟩
  .have hb:b∈qE N c ks:=hb;unfold qE at hb;split at hb
   .exact i1 b hb
   split at hb
   .exact i1 b hb
   rcases a3P.1 hb with hb|hb
   .exact i1 b hb
   rw[a1S.1 hb];exact i2
  show Gj (Gl N c ks);by_cases hf:(ks.all fun x=>x==ks.getD 0 0)=true
  .rw[show Gl N c ks=ks.getD 0 0 from a0F hf];exact i2 _ (dB (s:=ks) (k:=0) (by omega))
  rw[show Gl N c ks=(N.idxOf (⟨c,ks⟩:Br):Nat)from a0E hf];have:=(VA (N:=N) (c:=c) hf).1;exact⟨by omega,by omega⟩
theorem abe{s o:LI0}{l:List V}(h:OfP s o l)(hv:∀v∈l,vOk v=true)(hf:∀v∈l,0<=v.f):Ba (oz s o l)∧iW (oz s o l)=0:=by
 obtain⟨hP,hn,ho⟩:=h.p;obtain⟨h1,h2,h3,h4,h5⟩:=Gm h hv;have hw:=DT h.cu.sz h.ord;have hm:=h.cu.many;have hlen:=a0g (l:=l) h.cu.sz o (List.replicate s.length 0) ([],[]) hP.ord;have RF:(iU s l o (List.replicate s.length 0) ([],[])).2.2.length+1<=0+wO s o:=hlen.2;obtain⟨w1,w2⟩:=a8e (l:=l) h.cu.sz o (List.replicate s.length 0) ([],[]) hP.ord (fun b hb=>by cases hb) (by omega);have hR:Ba (oz s o l):=⟨fun i hi k hk=>by
  have hb:fB (oz s o l) i∈(oz s o l).aj:=by show(oz s o l).aj.getD i kR∈_;rw[List.getD,a0q hi];exact a4Z hi
  exact w1 _ hb _ (dB hk),w2,fun v hv=>hf v (h3 v hv)⟩
 refine⟨hR,?_⟩;obtain⟨ht,hn6⟩:=jL (d:=oz s o l) hP.agj (by unfold ah;omega) (by rw[h1];rfl);have hc:=(Qj (d:=oz s o l) h1 hP.agj (by unfold ah;omega)).1;rw[Qh h hv]at hc;have hd:=(TY ht hR (by omega) hn6).1 hc;unfold iW;rw[a0E (by rw[h1];decide),a0E (by rw[hd];decide)]
open Go Tw Pv bP
def adX:eY aG:=bZ 121 (a1 dA) iA (fun p=>(uy p).2) (fun p=>[Ba p,p.ay.length<=ah,p.aB.length<=2^20,p.aK.length+1<=ah]) adS
theorem al6:Gd adX:=akY.add fun n hO p hp=>aO hO (.o (hp _ gY) (.o (hp _ yc) (.o (hp _ hh2) (.o (hp _ (.tail _ (.tail _ (.tail _ (.head _))))) .rr))))
def zT(d:Dg):Dg×Int:=if((bH d).2 != 0)=true then(jk,(bH d).2)else(eH (bH d).1.d,0)
def a8f:eY aG:=bZ 108 (a1 dA) (dO (a2 dA iA)) (fun p=>zT p) (fun p=>[Ba p,p.ay.length<=ah,p.aB.length<=2^20,p.aK.length<=ah,((bH p).2 != 0)=false->ClP (bH p).1]) adX
theorem adY:Gd a8f:=al6.add fun n hO p hp=>aO hO (.o (hp _ yc) (.o (hp _ hh2) (.o (hp _ (.tail _ (.tail _ (.tail _ (.head _))))) (.sh (fun _=>.rn (.dJ [.agg [.nil .aP,.nil .aP,.nil .aP,.nil .aP,.int .i64 0],.int .i64 (bH p).2]) rfl) fun h=>.o (hp _ (.tail _ (.tail _ (.tail _ (.tail _ (.head _))))) h) .rr))))
def al7:eY aG:=bZ 77 (a3 iA iA iA) tA (fun p=>(if decide (p.2.2>=p.1)=true then decide (p.2.2<=p.2.1)else false)) np a8f
theorem aq4:Gd al7:=adY.add fun n hO p hp=>aO hO (.ss .rr .rr)
def a2q:eY aG:=bZ 123 (a2 (a6T frA) dA) tA (fun p=>(if decide (p.2.ay=p.1.1)=true then decide (p.2.aB=p.1.2)else false)) (fun p=>[p.2.ay.length<=ah,p.2.aB.length<=ah]) al7
theorem al8:Gd a2q:=aq4.add fun n hO p hp=>aO hO (.o (hp _ gY) (.ss (.o (hp _ yc) .rr) .rr))
end Go.Proofs.YtmobpoiejckagaaGreat
namespace Pv
open Go Tw
variable {X:kX} {P:LI1}
theorem nS.Ql(hX:bT X P){call:aZ}{f:FuncId}{first xs cap vs:List (PV X.Γ)}{v v':PV X.Γ}{ext ext':List (PB X.Γ)}(hc:nS X P call f vs v ext)(hv:views [] (first++xs++cap)=some vs)(hs:rC X 0 ext=some ext')
  (e:shift 0 v=v') (he:(if xK v||ext.any (hasB X)then aY (l7.kH (first++xs++cap)) []else [])=([]:List (PB X.Γ))):dG X P call (.fn f first cap) xs [] v' ext':=by
 subst e;intro A m h tf qP hr hf hx;cases hf with
 |gone hi _ _=>simp[bn]at hi
 |fn p1 p2 p3 p4=>
  obtain⟨w,h',m1,c1,c2,c3,c4,c5⟩:=I9 hX hc hr hv hs ⟨p1,p2⟩ hx ⟨p3,p4⟩;rw[he]at c2;exact⟨w,h',[],m1,c1,c2,c3,c4,c5,fun b hb=>by cases hb⟩
end Pv
namespace Go.Proofs.YtmobpoiejckagaaGreat
open Go Tw Pv bP
def a4h{α:Type}(g:α->Bool)(i:Nat)(x:α)(s:Unit):Unit⊕(Nat×α×Unit):=if(g x)=true then .inr (i,x,s)else .inl ()
def agl{α:Type}(d:α)(g:α->Bool)(l:List α):Int:=if(jZ (mX (a4h g) l 0 ()))=true then -1 else(((Dl (0,d,()) (mX (a4h g) l 0 ())).1:Int))
theorem a8g{α:Type}(g:α->Bool):∀(l:List α) (i:Nat),jZ (mX (a4h g) l i ())=!(l.any g)
 | [],i=>rfl
 |x::l,i=>by
  simp only[mX,a4h,ae2];cases g x
  .simpa using a8g g l (i+1)
  simp[jZ]
theorem agm{α:Type}(d:α)(g:α->Bool)(l:List α):decide (agl d g l>=0)=l.any g:=by have:=a8g g l 0;unfold agl;rw[this];cases l.any g<;>simp
theorem dI{α:Type}{l:List α}{k:Nat}{d:α}(h:k<l.length):l.getD k d∈l:=by simp[List.getD,a0q h]
abbrev agn(f:Nat)(a c:List (PV aG))(H:List (PB aG))(l:List Dg)(i:Int)(x:List (Nat×PE aG)):aU aG:=⟨[(0,xL 26 l),(1,.val (.fn f a c)),(7,xi l.length),(8,xi i)]++x,[],H⟩
def al9(f:Nat)(a c:List (PV aG))(H:List (PB aG))(l:List Dg):Unit⊕(Nat×Dg×Unit)->Ex×aU aG
 |.inl _=>(.exit 0,agn f a c H l l.length [(9,xl false)])
 |.inr r=>(.ret,⟨[(4,xi r.1)],[],H⟩)
theorem aq5{n f:Nat}{a c:List (PV aG)}{H:List (PB aG)}{g:Dg->Bool}(l:List Dg)(hf:∀x∈l,iJ n (.fn f a c) [.agg x.ps] H (.bool (g x)) H)(hl:l.length<=ah):iJ (n+1) (.fn 204 [] []) [lDg l,.fn f a c] H (iA.put (agl jk g l)) H:=by
 have lp:Nk n 204 0 H.length (agn f a c H l 0 []) (al9 f a c H l (mX (a4h g) l 0 ())).1 (al9 f a c H l (mX (a4h g) l 0 ())).2:=
  Xv (st:=fun i _=>agn f a c H l i []) jk (fun _ _=>True) (by kernel_rfl) hl TK trivial (fun k s n hk _ ih=>aN gG (.b (bD hk) (.o (aH hk) (.k (hf (l.getD k jk) (dI hk)) (.ls (.ou nofun) (.nx (ih _ trivial))))))) (fun s _=>aN gG (.b (fD l.length) (.ou nofun)))
 exact jr gG (first:=[]) (cap:=[]) (.szh (fun h=>.w (kM lp () h) .sr) (fun h=>.w (kN lp (0,jk,()) h) .sr))
theorem aq6{n f:Nat}{a c:List (PV aG)}{H:List (PB aG)}{g:Dg->Bool}(l:List Dg)(hf:∀x∈l,iJ n (.fn f a c) [.agg x.ps] H (.bool (g x)) H)(hl:l.length<=ah):iJ (n+2) (.fn 173 [] []) [lDg l,.fn f a c] H (tA.put (l.any g)) H:=by rw[<-agm jk g l];have h1:=aq5 l hf hl;exact jr gG (first:=[]) (cap:=[]) (.k h1 .sr)
def xq(f:LI0×LI0)(d:Dg):Bool:=if decide (d.ay=f.1)=true then decide (d.aB=f.2)else false
abbrev a8h(f:LI0×LI0):PV aG:=.fn 123 [.agg [lI f.1,lI f.2]] []
structure nM(d:Dg):Prop where
 r:Ba d
 s:d.ay.length<=ah
 o:d.aB.length<=2^20
 e:d.aK.length+1<=ah
theorem aq7{n:Nat}(hO:Ok n a2q)(f:LI0×LI0)(l:List Dg)(hp:∀d∈l,nM d)(hl:l.length<=ah):iJ (n+4) (.fn 122 [] []) [a8h f,lDg l] [] (tA.put (l.all (xq f))) []:=by
 have hs:∀d∈l,iJ n (a8h f) [.agg d.ps] [] (tA.put (xq f d)) []:=fun d hd=>nS.Ql hX (first:=[.agg [lI f.1,lI f.2]]) (cap:=[]) (hO 123 [.agg [lI f.1,lI f.2],.agg d.ps] (tA.put (xq f d)) [] [d.ay.length<=ah,d.aB.length<=ah] (by kernel_rfl) (fun p h=>by
  have h9:=hp d hd;have h8:=h9.o;rcases a1Y.1 h with rfl|h
  .exact h9.s
  rw[a1S.1 h];exact h8)) rfl rfl rfl rfl
 have h1:∀d∈l,iJ (n+1) (.fn 174 [] [.ptr 0 0 1]) [.agg d.ps] [.cells [a8h f]] (tA.put (!(xq f d))) [.cells [a8h f]]:=fun d hd=>
  jr gG (first:=[]) (.fr [] (hs d hd) .sr)
 have h2:=aq6 l h1 hl;rw[<-Ez l (xq f)];exact dG.drop hX (Dk hX gG (first:=[]) (cap:=[]) (H1:=[.cells [a8h f]]) (by kernel_rfl) (.k h2 .sr)) rfl rfl
abbrev wCk(l:List Dg)(i:Int)(x:List (Nat×PE aG)):aU aG:=⟨[(0,xL 26 l),(6,xL 26 l),(7,xi l.length),(8,xi i)]++x,[],[]⟩
abbrev cCk(l:List Dg)(k:Nat):Bool:=(uy (l.getD k jk)).2 != 0
def zCk(l:List Dg):Unit⊕Nat->Ex×aU aG
 |.inl _=>(.exit 0,wCk l l.length [(9,xl false)])
 |.inr k=>(.ret,⟨[(2,xi (uy (l.getD k jk)).2)],[(l.getD k jk).ps],[]⟩)
theorem lCk{n:Nat}(hO:Ok n a2q){l:List Dg}(hp:∀d∈l,nM d)(hl:l.length<=ah):Lp n 76 0 (wCk l 0 []) (zCk l (bG (cCk l) l.length)).1 (zCk l (bG (cCk l) l.length)).2:=by
 refine jd (st:=fun i _=>wCk l i []) (g:=gS (cCk l)) (out:=zCk l) (fun _ _=>True) (by kernel_rfl) hl trivial (fun k u m hk _ ih=>?_) (fun _ _=>?_)
 .have h9:=hp _ (dI (d:=jk) hk);unfold gS cCk;exact aN hO (.b (bD hk) (.o (aH hk) (.o h9.r (.o h9.s (.o h9.o (.o h9.e (.ls (.ou nofun) (.nx (ih _ trivial)))))))))
 exact aN hO (.b (fD l.length) (.ou nofun))
def bF(l:List Dg):Int:=if jZ (bG (cCk l) l.length)=true then(if(!(l.all (xq ((l.getD 0 jk).ay,(l.getD 0 jk).aB))))=true then 2 else 0)else(uy (l.getD (Dl 0 (bG (cCk l) l.length)) jk)).2
def ala:eY aG:=bZ 76 (a1 aaF) iA bF (fun l=>[∀d∈l,nM d,0<l.length∧l.length<=ah]) a2q
theorem aqa:Gd ala:=al8.deep 4 fun n hn hO l hp=>by have h1:∀d∈l,nM d:=hp _ gY;have h2:0<l.length∧l.length<=ah:=hp _ yc;have hs:=aq7 (n:=n-4) (hO (n-4) (by omega)) ((l.getD 0 jk).ay,(l.getD 0 jk).aB) l h1 h2.2;rw[show n-4+4=n by omega]at hs;have i0:gu 0 l.length:=⟨by omega,by omega⟩;have hl:=lCk (hO n (by omega)) h1 h2.2;show nS X0 Qp _ _ _ (iA.put (bF l)) _;unfold bF;exact aO (hO n (by omega)) (.zh (fun h=>.w (kM hl () h) (.o i0 (.o i0 (.fr [] hs (.ss .rr .rr))))) (fun h=>.w (kN hl 0 h) .rr))
open Go Tw Pv bP
theorem a8i{n:Int}(h:0<=n∧n<=6):n=0∨n=1∨n=2∨n=3∨n=4∨n=5∨n=6:=by omega
theorem a8j:(0:Int)<=32:=by decide
def adZ:eY aG:=bZ 206 (a2 pA pA) (dO (a2 pA pA)) (fun p=>(0,p.2)) (fun p=>[p.1=1,0<=p.2∧p.2<=6]) ala
theorem alb:Gd adZ:=aqa.add fun n hO p hp=>by
 obtain⟨a,b⟩:=p;have h1:a=1:=hp _ gY;have h2:0<=b∧b<=6:=hp _ yc;subst h1;rcases a8i h2 with rfl|rfl|rfl|rfl|rfl|rfl|rfl
 all_goals exact aO hO (.o a8j (.o a8j (.o a8j (.o a8j (.o a8j .rr)))))
def ae0:eY aG:=bZ 175 (a2 pA pA) (dO (a2 pA pA)) (fun p=>(0,p.2)) (fun p=>[p.1=1,0<=p.2∧p.2<=6]) adZ
theorem alc:Gd ae0:=alb.add fun n hO p hp=>aO hO (.o (hp _ gY) (.o (hp _ yc) .rr))
def Iz:eY aG:=bZ 124 (a2 qg iA) qg (fun p=>List.replicate p.2.toNat (-1)) (fun p=>[p.1=[-1],0<=p.2∧p.2<=6]) ae0
theorem Yn:Gd Iz:=alc.add fun n hO p hp=>by
 obtain⟨a,b⟩:=p;have h1:a=[-1]:=hp _ gY;have h2:0<=b∧b<=6:=hp _ yc;subst h1;rcases a8i h2 with rfl|rfl|rfl|rfl|rfl|rfl|rfl
 .exact aO hO (.b (rfl:decide ((0:Int)<0)=false) (.o (rfl:(1:Int)=1) (.o (⟨by decide,by decide⟩:(0:Int)<=0∧(0:Int)<=6) (.b (rfl:decide ((0:Int)>0)=false) (.b (rfl:decide ((0:Int)>9223372036854775807)=false) (.o (rfl:(0:Int)=0) (.o (show(0:Int)<=0 by decide) (.o (show(0:Int)<=(ah:Int) by decide) (.m 8 le8 (.b (rfl:decide ((0:Int)<0)=false) .rr))))))))))
 .exact aO hO (.b (rfl:decide ((1:Int)<0)=false) (.o (rfl:(1:Int)=1) (.o (⟨by decide,by decide⟩:(0:Int)<=1∧(1:Int)<=6) (.b (rfl:decide ((0:Int)>0)=false) (.b (rfl:decide ((1:Int)>9223372036854775807)=false) (.o (rfl:(1:Int)=1) (.o (show(0:Int)<=1 by decide) (.o (show(1:Int)<=(ah:Int) by decide) (.m 8 le8 (.b (rfl:decide ((1:Int)<1)=false) .rr))))))))))
 .exact aO hO (.b (rfl:decide ((2:Int)<0)=false) (.o (rfl:(1:Int)=1) (.o (⟨by decide,by decide⟩:(0:Int)<=2∧(2:Int)<=6) (.b (rfl:decide ((0:Int)>0)=false) (.b (rfl:decide ((2:Int)>9223372036854775807)=false) (.o (rfl:(2:Int)=2) (.o (show(0:Int)<=2 by decide) (.o (show(2:Int)<=(ah:Int) by decide) (.m 8 le8 (.b (rfl:decide ((1:Int)<2)=true) (.o (show(0:Int)<=1 by decide) (.o (show(1:Int)<=2 by decide) (.o (show(2:Int)<=2 by decide) (.o (show(0:Int)<=0 by decide) (.o (show(0:Int)<=1 by decide) (.o (show(1:Int)<=2 by decide) (.b (rfl:decide ((2:Int)<2)=false) .rr)))))))))))))))))
 .exact aO hO (.b (rfl:decide ((3:Int)<0)=false) (.o (rfl:(1:Int)=1) (.o (⟨by decide,by decide⟩:(0:Int)<=3∧(3:Int)<=6) (.b (rfl:decide ((0:Int)>0)=false) (.b (rfl:decide ((3:Int)>9223372036854775807)=false) (.o (rfl:(3:Int)=3) (.o (show(0:Int)<=3 by decide) (.o (show(3:Int)<=(ah:Int) by decide) (.m 8 le8 (.b (rfl:decide ((1:Int)<3)=true) (.o (show(0:Int)<=1 by decide) (.o (show(1:Int)<=3 by decide) (.o (show(3:Int)<=3 by decide) (.o (show(0:Int)<=0 by decide) (.o (show(0:Int)<=1 by decide) (.o (show(1:Int)<=3 by decide) (.b (rfl:decide ((2:Int)<3)=true) (.o (show(0:Int)<=2 by decide) (.o (show(2:Int)<=3 by decide) (.o (show(3:Int)<=3 by decide) (.o (show(0:Int)<=0 by decide) (.o (show(0:Int)<=2 by decide) (.o (show(2:Int)<=3 by decide) (.b (rfl:decide ((3:Int)<3)=false) .rr))))))))))))))))))))))))
 .exact aO hO (.b (rfl:decide ((4:Int)<0)=false) (.o (rfl:(1:Int)=1) (.o (⟨by decide,by decide⟩:(0:Int)<=4∧(4:Int)<=6) (.b (rfl:decide ((0:Int)>0)=false) (.b (rfl:decide ((4:Int)>9223372036854775807)=false) (.o (rfl:(4:Int)=4) (.o (show(0:Int)<=4 by decide) (.o (show(4:Int)<=(ah:Int) by decide) (.m 8 le8 (.b (rfl:decide ((1:Int)<4)=true) (.o (show(0:Int)<=1 by decide) (.o (show(1:Int)<=4 by decide) (.o (show(4:Int)<=4 by decide) (.o (show(0:Int)<=0 by decide) (.o (show(0:Int)<=1 by decide) (.o (show(1:Int)<=4 by decide) (.b (rfl:decide ((2:Int)<4)=true) (.o (show(0:Int)<=2 by decide) (.o (show(2:Int)<=4 by decide) (.o (show(4:Int)<=4 by decide) (.o (show(0:Int)<=0 by decide) (.o (show(0:Int)<=2 by decide) (.o (show(2:Int)<=4 by decide) (.b (rfl:decide ((4:Int)<4)=false) .rr))))))))))))))))))))))))
 .exact aO hO (.b (rfl:decide ((5:Int)<0)=false) (.o (rfl:(1:Int)=1) (.o (⟨by decide,by decide⟩:(0:Int)<=5∧(5:Int)<=6) (.b (rfl:decide ((0:Int)>0)=false) (.b (rfl:decide ((5:Int)>9223372036854775807)=false) (.o (rfl:(5:Int)=5) (.o (show(0:Int)<=5 by decide) (.o (show(5:Int)<=(ah:Int) by decide) (.m 8 le8 (.b (rfl:decide ((1:Int)<5)=true) (.o (show(0:Int)<=1 by decide) (.o (show(1:Int)<=5 by decide) (.o (show(5:Int)<=5 by decide) (.o (show(0:Int)<=0 by decide) (.o (show(0:Int)<=1 by decide) (.o (show(1:Int)<=5 by decide) (.b (rfl:decide ((2:Int)<5)=true) (.o (show(0:Int)<=2 by decide) (.o (show(2:Int)<=5 by decide) (.o (show(5:Int)<=5 by decide) (.o (show(0:Int)<=0 by decide) (.o (show(0:Int)<=2 by decide) (.o (show(2:Int)<=5 by decide) (.b (rfl:decide ((4:Int)<5)=true) (.o (show(0:Int)<=4 by decide) (.o (show(4:Int)<=5 by decide) (.o (show(5:Int)<=5 by decide) (.o (show(0:Int)<=0 by decide) (.o (show(0:Int)<=4 by decide) (.o (show(4:Int)<=5 by decide) (.b (rfl:decide ((5:Int)<5)=false) .rr)))))))))))))))))))))))))))))))
 .exact aO hO (.b (rfl:decide ((6:Int)<0)=false) (.o (rfl:(1:Int)=1) (.o (⟨by decide,by decide⟩:(0:Int)<=6∧(6:Int)<=6) (.b (rfl:decide ((0:Int)>0)=false) (.b (rfl:decide ((6:Int)>9223372036854775807)=false) (.o (rfl:(6:Int)=6) (.o (show(0:Int)<=6 by decide) (.o (show(6:Int)<=(ah:Int) by decide) (.m 8 le8 (.b (rfl:decide ((1:Int)<6)=true) (.o (show(0:Int)<=1 by decide) (.o (show(1:Int)<=6 by decide) (.o (show(6:Int)<=6 by decide) (.o (show(0:Int)<=0 by decide) (.o (show(0:Int)<=1 by decide) (.o (show(1:Int)<=6 by decide) (.b (rfl:decide ((2:Int)<6)=true) (.o (show(0:Int)<=2 by decide) (.o (show(2:Int)<=6 by decide) (.o (show(6:Int)<=6 by decide) (.o (show(0:Int)<=0 by decide) (.o (show(0:Int)<=2 by decide) (.o (show(2:Int)<=6 by decide) (.b (rfl:decide ((4:Int)<6)=true) (.o (show(0:Int)<=4 by decide) (.o (show(4:Int)<=6 by decide) (.o (show(6:Int)<=6 by decide) (.o (show(0:Int)<=0 by decide) (.o (show(0:Int)<=4 by decide) (.o (show(4:Int)<=6 by decide) (.b (rfl:decide ((6:Int)<6)=false) .rr)))))))))))))))))))))))))))))))
open Go Tw Pv bP
structure S3 where
 a:Int
 b:Int
 c:Int
 deriving DecidableEq
abbrev S3.ps(s:S3):List (PV aG):=[.int .i64 s.a,.int .i64 s.b,.int .i64 s.c]
def S3.get(s:S3):Nat->Int
 | 0=>s.a
 | 1=>s.b
 |_=>s.c
def S3.set(s:S3)(k:Nat)(v:Int):S3:=match k with
 | 0=>⟨v,s.b,s.c⟩
 | 1=>⟨s.a,v,s.c⟩
 |_=>⟨s.a,s.b,v⟩
structure Jb where
 s:LI0
 o:LI0
 D:List Dg
 g:LI0
abbrev Jb.ps(J:Jb)(op:PV aG):List (PV aG):=[lI J.s,lI J.o,lDg J.D,lI J.g,op]
def kZ(d:Dg)(x c:Int):Bool:=if decide (x>=0)=true then((au d x).var==c)else false
def LU(d:Dg)(x c g:Int):Int:=if kZ d x c=true then(au d x).aA.getD g.toNat 0 else x
theorem abf{d:Dg}{x c:Int}(e:decide (x>=0)=false):kZ d x c=false:=by unfold kZ;rw[e];rfl
theorem a8k{d:Dg}{x c:Int}(e:decide (x>=0)=true):kZ d x c=((au d x).var==c):=by unfold kZ;rw[e];rfl
abbrev lC(D:List Dg)(k:Nat):Dg:=D.getD k jk
def jY(D:List Dg)(s:S3)(c:Int):Bool:=!(jZ (bG (fun k=>kZ (lC D k) (s.get k) c) D.length))
def bM(D:List Dg)(s:S3)(c g:Int):S3:=aS (fun k y=>y.set k (LU (lC D k) (y.get k) c g)) D.length 0 s
def fG(D:List Dg):S3:=aS (fun k y=>y.set k (lC D k).root) D.length 0 ⟨0,0,0⟩
theorem three{k n:Nat}(h:k<n)(hn:n<=3):k=0∨k=1∨k=2:=by omega
theorem m3{n:Nat}(h:n<=3):n<=ah:=by unfold ah;omega
section
variable {M f:Nat} {a cc:List (PV aG)} {H:List (PB aG)}
abbrev wAs(J:Jb)(op:PV aG)(H:List (PB aG))(s:S3)(c:Int)(i:Int)(x:List (Nat×PE aG)):aU aG:=⟨[(2,xi c),(4,.loc 1 0),(10,xL 26 J.D),(11,xi J.D.length),(12,xi i)]++x,[J.ps op,s.ps],H⟩
def zAs(J:Jb)(op:PV aG)(H:List (PB aG))(s:S3)(c:Int):Unit⊕Nat->Ex×aU aG
 |.inl _=>(.exit 0,wAs J op H s c J.D.length [(13,xl false)])
 |.inr k=>(.ret,⟨[(6,xl true)],[J.ps op,s.ps,(lC J.D k).ps],H⟩)
theorem lAs(J:Jb)(s:S3)(c:Int)(hD:J.D.length<=3)(hr:∀k,k<J.D.length->decide (s.get k>=0)=true->gu (s.get k) (lC J.D k).aj.length):Nk M 127 0 H.length (wAs J (.fn f a cc) H s c 0 []) (zAs J (.fn f a cc) H s c (bG (fun k=>kZ (lC J.D k) (s.get k) c) J.D.length)).1 (zAs J (.fn f a cc) H s c (bG (fun k=>kZ (lC J.D k) (s.get k) c) J.D.length)).2:=by
 refine jd (st:=fun i _=>wAs J (.fn f a cc) H s c i []) (g:=gS (fun k=>kZ (lC J.D k) (s.get k) c)) (out:=zAs J (.fn f a cc) H s c) (fun _ _=>True) (by kernel_rfl) (m3 hD) trivial (fun k u m hk _ ih=>?_) (fun _ _=>?_)
 .have h1:=hr k hk;have hg:gS (fun k=>kZ (lC J.D k) (s.get k) c) k u=if kZ (lC J.D k) (s.get k) c=true then .inr k else .inl u:=rfl
  cases e:decide (s.get k>=0)
  .rw[abf e,a0E (by simp)]at hg;rw[hg];rcases three hk hD with rfl|rfl|rfl
   all_goals exact aN gG (.b (bD hk) (.o (aH hk) (.b e (.nx (ih _ trivial)))))
  rw[a8k e]at hg;rw[hg];rcases three hk hD with rfl|rfl|rfl
  all_goals exact aN gG (.b (bD hk) (.o (aH hk) (.b e (.o (h1 e) (.ls (.ou nofun) (.nx (ih _ trivial)))))))
 exact aN gG (.b (fD J.D.length) (.ou nofun))
theorem a8l(J:Jb)(s:S3)(c:Int)(hD:J.D.length<=3)(hr:∀k,k<J.D.length->decide (s.get k>=0)=true->gu (s.get k) (lC J.D k).aj.length):dG X0 Qp (iE (M+1)) (.fn 127 [] []) [.agg (J.ps (.fn f a cc)),.agg s.ps,.int .i64 c] H (.bool (jY J.D s c)) H:=by
 have lp:=lAs (M:=M) (f:=f) (a:=a) (cc:=cc) (H:=H) J s c hD hr;unfold jY;cases h:jZ (bG (fun k=>kZ (lC J.D k) (s.get k) c) J.D.length)
 .exact fA gG (first:=[]) (cap:=[]) (.w (kN lp 0 h) .er)
 exact fA gG (first:=[]) (cap:=[]) (.w (kM lp () h) .er)
abbrev wAf(J:Jb)(op:PV aG)(H:List (PB aG))(s:S3)(c g:Int)(i:Int)(x:List (Nat×PE aG)):aU aG:=⟨[(2,xi c),(3,xi g),(5,.loc 1 0),(8,.loc 2 0),(12,xL 26 J.D),(13,xi J.D.length),(14,xi i)]++x,[J.ps op,s.ps,[.int .i64 0,.int .i64 0,.int .i64 0]],H⟩
structure a2r(d:Dg)(x c g:Int):Prop where
 n:decide (x>=0)=true->gu x d.aj.length
 k:kZ d x c=true->gu g (au d x).aA.length
theorem JQ(J:Jb)(s:S3)(c g:Int)(hD:J.D.length<=3)(hr:∀k,k<J.D.length->a2r (lC J.D k) (s.get k) c g):dG X0 Qp (iE (M+1)) (.fn 129 [] []) [.agg (J.ps (.fn f a cc)),.agg s.ps,.int .i64 c,.int .i64 g] H (.agg (bM J.D s c g).ps) H:=by
 have lp:Nk M 129 0 H.length (wAf J (.fn f a cc) H s c g 0 []) (.exit 0) (wAf J (.fn f a cc) H (bM J.D s c g) c g J.D.length [(15,xl false)]):=by
  refine wY (σ:=S3) (N:=J.D.length) (g:=fun k y=>y.set k (LU (lC J.D k) (y.get k) c g)) (s0:=s) (st:=fun i y=>wAf J (.fn f a cc) H y c g i []) (fin:=fun y=>wAf J (.fn f a cc) H y c g J.D.length [(15,xl false)]) (fun j y=>∀k,j<=k->k<J.D.length->y.get k=s.get k) (by kernel_rfl) (m3 hD) (fun _ _ _=>rfl) (fun j y hj hy=>?_) (fun j y hj hy m e p g9=>?_) (fun y _=>?_)
  .intro k hk kQ;rw[<-hy k (by omega) kQ];rcases three kQ hD with rfl|rfl|rfl<;>rcases three hj hD with rfl|rfl|rfl<;>first|rfl|omega
  .have h1:=hr j hj;rw[<-hy j (a0P _) hj]at h1;obtain⟨h1,h2⟩:=h1;unfold LU at g9;rcases three hj hD with rfl|rfl|rfl
   all_goals
    cases e1:decide (y.get _>=0)
    .unfold kZ at g9;rw[e1]at g9;exact aN gG (.b (bD hj) (.o (aH hj) (.b e1 (.go g9))))
    .have h3:=h1 e1;cases e2:(au (lC J.D _) (y.get _)).var==c
     .unfold kZ at g9;rw[e1,a0F rfl,e2]at g9;exact aN gG (.b (bD hj) (.o (aH hj) (.b e1 (.o h3 (.b e2 (.go g9))))))
     .unfold kZ at g9 h2;rw[e1,a0F rfl,e2]at g9 h2;exact aN gG (.b (bD hj) (.o (aH hj) (.b e1 (.o h3 (.b e2 (.o h3 (.o (h2 rfl) (.go g9))))))))
  exact aN gG (.b (fD J.D.length) .ex)
 exact fA gG (first:=[]) (cap:=[]) (.w lp .er)
abbrev wSt(J:Jb)(op:PV aG)(H:List (PB aG))(s:S3)(i:Int)(x:List (Nat×PE aG)):aU aG:=⟨[(2,.loc 1 0),(6,xL 26 J.D),(7,xi J.D.length),(8,xi i)]++x,[J.ps op,s.ps],H⟩
theorem a0m(J:Jb)(hD:J.D.length<=3):dG X0 Qp (iE (M+1)) (.fn 130 [] []) [.agg (J.ps (.fn f a cc))] H (.agg (fG J.D).ps) H:=by
 have lp:Nk M 130 0 H.length (wSt J (.fn f a cc) H ⟨0,0,0⟩ 0 []) (.exit 0) (wSt J (.fn f a cc) H (fG J.D) J.D.length [(9,xl false)]):=by
  refine wY (σ:=S3) (N:=J.D.length) (g:=fun k y=>y.set k (lC J.D k).root) (s0:=⟨0,0,0⟩) (st:=fun i y=>wSt J (.fn f a cc) H y i []) (fin:=fun y=>wSt J (.fn f a cc) H y J.D.length [(9,xl false)]) (fun _ _=>True) (by kernel_rfl) (m3 hD) trivial (fun _ _ _ _=>trivial) (fun j y hj _ m e p g9=>?_) (fun y _=>?_)
  .rcases three hj hD with rfl|rfl|rfl
   all_goals exact aN gG (.b (bD hj) (.o (aH hj) (.go g9)))
  exact aN gG (.b (fD J.D.length) .ex)
 exact fA gG (first:=[]) (cap:=[]) (.w lp .er)
end
end Go.Proofs.YtmobpoiejckagaaGreat
namespace Pv
open Go Tw
section
variable {X:kX} {P:LI1}
theorem dG.fzR(hX:bT X P){call:aZ}{fv:PV X.Γ}{xs:List (PV X.Γ)}{H H1:List (PB X.Γ)}{v v':PV X.Γ}(hs:dG X P call fv xs H v H1)(is:List Nat)(hv:views H1 [v]=some [v'])(ho:∀i,i∈l7.kH [v]->i∈is):dG X P call fv xs H v' (aY is H1):=by intro A m h tf qP hr hf hx;obtain⟨w,h',ws,m1,k1,k2,k3,k4,k5,k6⟩:=hs A m h tf qP hr hf hx;have hF:=iw (h:=h') is m1;have w1:=(lK (m':=bV is m1) hX k2 (.cons k3 .nil) hv ho).mono fun b hb=>FA.gone k2 hb;obtain⟨x,r,e,h1,_⟩:=w1.inv;cases e;exact⟨w,h',ws,bV is m1,k1,k2.aY is,h1,k4.trans hF.1,k5.trans hF.2,k6⟩
end
end Pv
namespace Go.Proofs.YtmobpoiejckagaaGreat
open Go Tw Pv bP
def aV(D:List Dg)(s:S3):List V:=(List.range D.length).map fun k=>oq (lC D k) (s.get k)
def gCe(D:List Dg)(s:S3)(k:Nat)(l:List V):List V:=l++[oq (lC D k) (s.get k)]
theorem a8m(D:List Dg)(s:S3):aS (gCe D s) D.length 0 []=aV D s:=by have:=cO (g:=gCe D s) (m:=D.length) (k:=0) (s:=[]) (fun k l=>l=(List.range k).map fun k=>oq (lC D k) (s.get k)) rfl (fun j l _ _ e=>by rw[gCe,e,aci,a4J];rfl);rw[a3W]at this;exact this
abbrev wCe(J:Jb)(op:PV aG)(H:List (PB aG))(s:S3)(l:List V)(i:Int)(x:List (Nat×PE aG)):aU aG:=⟨[(3,.loc 1 0),(4,.val (.own H.length)),(8,xL 26 J.D),(9,xi J.D.length),(10,xi i)]++x,[J.ps op,s.ps],H++[.list false false 39 l]⟩
theorem a2s{M f:Nat}(J:Jb)(s:S3)(hD:J.D.length<=3)(hr:∀k,k<J.D.length->gu (je (s.get k)) (lC J.D k).aK.length):dG X0 Qp (iE (M+1)) (.fn 128 [] []) [.agg (J.ps (.fn f [] [])),.agg s.ps] [] (lV (aV J.D s)) []:=by
 have lp:Nk M 128 0 0 (wCe J (.fn f [] []) [] s [] 0 []) (.exit 0) (wCe J (.fn f [] []) [] s (aV J.D s) J.D.length [(11,xl false)]):=by
  rw[<-a8m J.D s];refine wY (σ:=List V) (N:=J.D.length) (g:=gCe J.D s) (s0:=[]) (st:=fun i l=>wCe J (.fn f [] []) [] s l i []) (fin:=fun l=>wCe J (.fn f [] []) [] s l J.D.length [(11,xl false)]) (fun k l=>l.length=k) (by kernel_rfl) (m3 hD) rfl (fun j y hj hy=>by simp[gCe,hy]) (fun j y hj hy m e p g9=>?_) (fun y _=>?_)
  .have h1:=hr j hj;have h2:y.length+[oq (lC J.D j) (s.get j)].length<=ah:=by rw[hy,a4H];exact m3 (by omega)
   rcases three hj hD with rfl|rfl|rfl
   all_goals exact aN gG (.b (bD hj) (.o (aH hj) (.o h1 (.o h2 (.goG [.gc [2]] g9)))))
  exact aN gG (.b (fD J.D.length) .ex)
 have h0:dG X0 Qp (iE (M+1)) (.fn 128 [] []) [.agg (J.ps (.fn f [] [])),.agg s.ps] [] (.own 0) ([]++[.list false false 39 (aV J.D s)]):=fA gG (first:=[]) (cap:=[]) (.wG [.G6 4 39] lp .er);exact dG.cut hX (dG.fzR hX h0 [0] (v':=lV (aV J.D s)) rfl (by decide)) rfl rfl rfl rfl
theorem abg{M f:Nat}{u:Int}(J:Jb)(s:S3)(hD:J.D.length<=3)(hr:∀k,k<J.D.length->gu (je (s.get k)) (lC J.D k).aK.length):dG X0 Qp (iE (M+1)) (.fn 128 [] []) [.agg (J.ps (.fn f [] [.ptr 0 0 1])),.agg s.ps] [.aF [.int .u8 u]] (lV (aV J.D s)) [.aF [.int .u8 u]]:=by
 have lp:Nk M 128 0 1 (wCe J (.fn f [] [.ptr 0 0 1]) [.aF [.int .u8 u]] s [] 0 []) (.exit 0) (wCe J (.fn f [] [.ptr 0 0 1]) [.aF [.int .u8 u]] s (aV J.D s) J.D.length [(11,xl false)]):=by
  rw[<-a8m J.D s];refine wY (σ:=List V) (N:=J.D.length) (g:=gCe J.D s) (s0:=[]) (st:=fun i l=>wCe J (.fn f [] [.ptr 0 0 1]) [.aF [.int .u8 u]] s l i []) (fin:=fun l=>wCe J (.fn f [] [.ptr 0 0 1]) [.aF [.int .u8 u]] s l J.D.length [(11,xl false)]) (fun k l=>l.length=k) (by kernel_rfl) (m3 hD) rfl (fun j y hj hy=>by simp[gCe,hy]) (fun j y hj hy m e p g9=>?_) (fun y _=>?_)
  .have h1:=hr j hj;have h2:y.length+[oq (lC J.D j) (s.get j)].length<=ah:=by rw[hy,a4H];exact m3 (by omega)
   rcases three hj hD with rfl|rfl|rfl
   all_goals exact aN gG (.b (bD hj) (.o (aH hj) (.o h1 (.o h2 (.goG [.gc [3]] g9)))))
  exact aN gG (.b (fD J.D.length) .ex)
 have h0:dG X0 Qp (iE (M+1)) (.fn 128 [] []) [.agg (J.ps (.fn f [] [.ptr 0 0 1])),.agg s.ps] [.aF [.int .u8 u]] (.own 1) ([.aF [.int .u8 u]]++[.list false false 39 (aV J.D s)]):=fA gG (first:=[]) (cap:=[]) (.wG [.G6 4 39] lp .er);exact dG.cut hX (dG.fzR hX h0 [1] (v':=lV (aV J.D s)) rfl (by decide)) rfl rfl rfl rfl
open Go Tw Pv bP
def S3.l(s:S3):LI0:=[s.a,s.b,s.c]
theorem uSt:Tryz.prog.underlying 148=some (.array 3 3):=by kernel_rfl
theorem ald(a b:S3):aC Qp (Op.equal 148 (.agg (Dw .i64 a.l)) (.agg (Dw .i64 b.l)))=some (decide (a=b)):=by have:=BL (P:=Qp) 9998 (k:=.i64) (l:=a.l) (l':=b.l) uSt (by kernel_rfl) a3R (by kernel_rfl) rfl rfl;refine Eq.trans this ?_;obtain⟨a1,a2,a3⟩:=a;obtain⟨b1,b2,b3⟩:=b;simp[S3.l]
def kS:oO X0 Qp 148 S3 where
 pv x:=.agg x.ps
 tv x:=.agg [.int .i64 x.a,.int .i64 x.b,.int .i64 x.c]
 v x:=.agg (Dw .i64 x.l)
 hp _:=rfl
 ht _:=rfl
 hc em x:=by kernel_rfl
 hf x l:=afD uSt ald x l
 hk:=afE uSt ald
structure Mk where
 e:List V
 n:List Br
 k:List (S3×Int)
def VB(D:List Dg)(f:S3->Mk->Int×Mk)(s:S3)(c:Int)(j:Nat)(y:LI0×Mk):LI0×Mk:=(y.1++[(f (bM D s c j) y.2).1],(f (bM D s c j) y.2).2)
def knS(k:List (S3×Int))(s:S3):Int:=((k.find? fun e=>decide (e.1=s)).map (·.2)).getD 0
def jP(J:Jb)(op:List V->V):LI0->S3->Mk->Int×Mk
 | [],s,x=>(i64.wrap (0-((x.e++[op (aV J.D s)]).length:Int)),{ x with e:=x.e++[op (aV J.D s)] })
 |c::r,s,x=>if jY J.D s c=true then(if decide (J.g.getD c.toNat 0>=0)=true then jP J op r (bM J.D s c (J.g.getD c.toNat 0)) x
   else if s∈x.k.map (·.1)then(knS x.k s,x)
   else
    let y:=aS (VB J.D (jP J op r) s c) (J.s.getD c.toNat 0).toNat 0 ([],x)
    ((y.2.n.length:Int),⟨y.2.e,y.2.n++[⟨c,y.1⟩],y.2.k++[(s,(y.2.n.length:Int))]⟩))
  else jP J op r s x
abbrev IB(k:List (S3×Int)):List (PV aG×PV aG):=kS.es (k.map fun e=>(e.1,.int .i64 e.2))
abbrev pM:List (PV aG):=[.ptr 2 0 5,.ptr 1 0 5,.ptr 3 0 1,.ptr 4 0 1]
abbrev HM0(J:Jb)(f:Nat)(x:Mk):List (PB aG):=[.map (IB x.k),.cells [lI J.s,lI J.o,.own 5,.own 6,.int .i64 0],.aF (J.ps (.fn f [] [])),.aF [.fn 126 [] pM],.aF [.map 0],QE x.e,QF x.n]
abbrev abh(J:Jb)(f:Nat)(x:Mk):List (PB aG):=[.map (IB x.k),.cells [lI J.s,lI J.o,.own 7,.own 8,.int .i64 0],.aF (J.ps (.fn f [] [])),.aF [.fn 126 [] pM],.aF [.map 0],.gone,.gone,QE x.e,QF x.n]
abbrev HM1(J:Jb)(f:Nat)(u:Int)(x:Mk):List (PB aG):=[.map (IB x.k),.cells [lI J.s,lI J.o,.own 6,.own 7,.int .i64 0],.aF (J.ps (.fn f [] [.ptr 5 0 1])),.aF [.fn 126 [] pM],.aF [.map 0],.aF [.int .u8 u],QE x.e,QF x.n]
abbrev abj(J:Jb)(f:Nat)(u:Int)(x:Mk):List (PB aG):=[.map (IB x.k),.cells [lI J.s,lI J.o,.own 8,.own 9,.int .i64 0],.aF (J.ps (.fn f [] [.ptr 5 0 1])),.aF [.fn 126 [] pM],.aF [.map 0],.aF [.int .u8 u],.gone,.gone,QE x.e,QF x.n]
open Go Tw Pv bP
theorem S3.jG{s:S3}{i k:Nat}{v:Int}(hi:i<3)(hk:k<3):(s.set i v).get k=if k=i then v else s.get k:=by
 match i,k,hi,hk with
 | 0,0,_,_=>rfl
 | 0,1,_,_=>rfl
 | 0,2,_,_=>rfl
 | 1,0,_,_=>rfl
 | 1,1,_,_=>rfl
 | 1,2,_,_=>rfl
 | 2,0,_,_=>rfl
 | 2,1,_,_=>rfl
 | 2,2,_,_=>rfl
 |i+3,_,h,_=>omega
 |_,k+3,_,h=>omega
theorem JR{D:List Dg}(hD:D.length<=3)(t:S3)(c g:Int){k:Nat}(hk:k<D.length):(bM D t c g).get k=LU (lC D k) (t.get k) c g:=by
 have:=cO (g:=fun k (y:S3)=>y.set k (LU (lC D k) (y.get k) c g)) (m:=D.length) (k:=0) (s:=t) (fun j y=>∀k,k<D.length->y.get k=if k<j then LU (lC D k) (t.get k) c g else t.get k) (fun k _=>by rw[a0E (by omega)]) (fun j y _ hj hy k hk=>by
  rw[S3.jG (by omega) (by omega)];by_cases e:k=j
  .subst e;rw[a0F rfl,a0F (by omega),hy k hk,a0E (by omega)]
  rw[a0E e,hy k hk];by_cases e2:k<j
  .rw[a0F e2,a0F (by omega)]
  rw[a0E e2,a0E (by omega)])
 have h:=this k hk;rw[a0F (by omega)]at h;exact h
theorem DU{D:List Dg}{t:S3}{c:Int}:jY D t c=true↔∃k,k<D.length∧kZ (lC D k) (t.get k) c=true:=by
 unfold jY;constructor
 .intro h;refine acw fun h2=>?_;have:jZ (bG (fun k=>kZ (lC D k) (t.get k) c) D.length)=true:=dL.2 fun k hk=>by
   cases e:kZ (lC D k) (t.get k) c
   .rfl
   exact absurd ⟨k,hk,e⟩ h2
  rw[this]at h;cases h
 rintro⟨k,hk,h⟩;cases e:jZ (bG (fun k=>kZ (lC D k) (t.get k) c) D.length)
 .rfl
 have:=dL.1 e k hk;rw[h]at this;cases this
theorem ED{d:Dg}{x c:Int}:kZ d x c=true↔0<=x∧(au d x).var=c:=by
 unfold kZ;split
 .rename_i h;simp at h;simp[h]
 rename_i h;simp at h;simp;omega
structure DJ(J:Jb)(d:Dg):Prop where
 t:BX d
 n:d.aj.length<=6000
 s:d.ay=J.s
 o:d.aB=J.o
 rk:∀i,i<d.aj.length->∀k,k<(fB d i).aA.length->d.aB.idxOf (fB d i).var+1<=EO d.aB d.aj ((fB d i).aA.getD k 0)
 two:∀i,i<d.aj.length->2<=(fB d i).aA.length
structure kC(J:Jb):Prop where
 d3:J.D.length<=3
 cu:vk J.s
 ord:jW J.s.length J.o=true
 dg:∀k,k<J.D.length->DJ J (lC J.D k)
 gl:J.g.length=J.s.length
 gv:∀c,gu c J.s.length->0<=J.g.getD c.toNat 0->J.g.getD c.toNat 0<J.s.getD c.toNat 0
def Dp(J:Jb)(a:Nat)(t:S3):Prop:=∀k,k<J.D.length->jD (lC J.D k) (t.get k) (lC J.D k).aj.length∧a<=EO J.o (lC J.D k).aj (t.get k)
theorem Dp.le{J:Jb}{a b:Nat}{t:S3}(h:Dp J a t)(hb:b<=a):Dp J b t:=fun k hk=>⟨(h k hk).1,by have:=(h k hk).2;omega⟩
section
variable {J:Jb} (hJ:kC J) {a:Nat} {t:S3} {c:Int} {r:LI0}
include hJ
theorem kC.o2:J.o.Nodup∧J.o.length=J.s.length∧∀c∈J.o,gu c J.s.length:=by have ho:=hJ.ord;unfold jW at ho;rw[a1z]at ho;exact⟨ho.2.2,ho.1,fun c hc=>⟨(ho.2.1 c hc).1,(ho.2.1 c hc).2⟩⟩
theorem kC.at_(hr:J.o.drop a=c::r):a<J.o.length∧J.o.getD a 0=c∧J.o.drop (a+1)=r∧c∈J.o∧J.o.idxOf c=a∧gu c J.s.length:=by
 have aT:a<J.o.length:=by have:=congrArg List.length hr;rw[a4l,a4K]at this;omega
 have hd:=a6G aT;rw[hr]at hd;obtain⟨hc,wK⟩:=List.cons.inj hd;have Gf:c∈J.o:=by rw[hc];exact a4Z aT
 obtain⟨h1,h2,h3⟩:=kC.o2 hJ;exact⟨aT,by rw[hc];simp[List.getD,a0q aT],wK.symm,Gf,by rw[hc];exact h1.idxOf_getElem a aT,h3 c Gf⟩
theorem a0n(hr:J.o.drop a=c::r)(h:jY J.D t c=true):¬Dp J (a+1) t:=fun hd=>by obtain⟨k,hk,h1⟩:=DU.1 h;obtain⟨x0,hv⟩:=ED.1 h1;have:=(hd k hk).2;unfold EO at this;rw[a0E (by omega)]at this;have e:((lC J.D k).aj.getD (t.get k).toNat kR).var=c:=hv;rw[e,(kC.at_ hJ hr).2.2.2.2.1]at this;omega
theorem a2t(hr:J.o.drop a=c::r)(hd:Dp J a t){k:Nat}(hk:k<J.D.length)(hn:kZ (lC J.D k) (t.get k) c=false):a+1<=EO J.o (lC J.D k).aj (t.get k):=by
 have h1:=(hd k hk).2;have h2:=kC.at_ hJ hr;by_cases x0:t.get k<0
 .unfold EO;rw[a0F x0];omega
 have iD:((lC J.D k).aj.getD (t.get k).toNat kR).var≠c:=fun e=>by have:kZ (lC J.D k) (t.get k) c=true:=ED.2 ⟨by omega,e⟩;rw[hn]at this;cases this
 unfold EO at h1 ⊢;rw[a0E x0]at h1 ⊢;rcases a4N a (J.o.idxOf ((lC J.D k).aj.getD (t.get k).toNat kR).var)with h3|h3
 .exact h3
 exfalso;have e:J.o.idxOf ((lC J.D k).aj.getD (t.get k).toNat kR).var=a:=by omega
 have aT:J.o.idxOf ((lC J.D k).aj.getD (t.get k).toNat kR).var<J.o.length:=by rw[e];exact h2.1
 have g:J.o.getD (J.o.idxOf ((lC J.D k).aj.getD (t.get k).toNat kR).var) 0=((lC J.D k).aj.getD (t.get k).toNat kR).var:=by rw[List.getD,a0q aT,a5e];exact a9i aT
 rw[e,h2.2.1]at g;exact iD g.symm
theorem VD(hr:J.o.drop a=c::r)(hd:Dp J a t)(h:jY J.D t c=false):Dp J (a+1) t:=fun k hk=>by
 refine⟨(hd k hk).1,a2t hJ hr hd hk ?_⟩;cases e:kZ (lC J.D k) (t.get k) c
 .rfl
 .have:=DU.2 ⟨k,hk,e⟩;rw[h]at this;cases this
theorem IC(hd:Dp J a t){k:Nat}(hk:k<J.D.length)(h:kZ (lC J.D k) (t.get k) c=true):gu (t.get k) (lC J.D k).aj.length∧(au (lC J.D k) (t.get k)).var=c∧((au (lC J.D k) (t.get k)).aA.length:Int)=J.s.getD c.toNat 0:=by obtain⟨x0,hv⟩:=ED.1 h;have hr:gu (t.get k) (lC J.D k).aj.length:=⟨x0,(hd k hk).1.1⟩;have hdj:=hJ.dg k hk;have:=hdj.t.ksz (t.get k).toNat (by have:=hr.2;omega);refine⟨hr,hv,?_⟩;have e:(au (lC J.D k) (t.get k))=fB (lC J.D k) (t.get k).toNat:=rfl;rw[e,this,<-e,hv,hdj.s]
theorem ni(hr:J.o.drop a=c::r)(hd:Dp J a t){j:Int}(hj:0<=j∧j<J.s.getD c.toNat 0):Dp J (a+1) (bM J.D t c j):=fun k hk=>by
 rw[JR hJ.d3 t c j hk];unfold LU;split
 .rename_i h;obtain⟨h1,h2,h3⟩:=IC hJ hd hk h;have hdj:=hJ.dg k hk;have aT:(t.get k).toNat<(lC J.D k).aj.length:=by have:=h1.1;have:=h1.2;omega
  have KJ:j.toNat<(fB (lC J.D k) (t.get k).toNat).aA.length:=by have h3:((fB (lC J.D k) (t.get k).toNat).aA.length:Int)=J.s.getD c.toNat 0:=h3;omega
  have g1:=hdj.t.zN (t.get k).toNat aT j.toNat KJ;have g2:=hdj.rk (t.get k).toNat aT j.toNat KJ;refine⟨⟨by have:=g1.1;show(fB (lC J.D k) (t.get k).toNat).aA.getD j.toNat 0<_;omega,g1.2⟩,?_⟩;have e:(fB (lC J.D k) (t.get k).toNat).var=c:=h2;rw[hdj.o,e,(kC.at_ hJ hr).2.2.2.2.1]at g2;exact g2
 .rename_i h;exact⟨(hd k hk).1,a2t hJ hr hd hk (by simpa using h)⟩
theorem JU(hd:Dp J a t){j:Int}(hj:0<=j∧j<J.s.getD c.toNat 0){k:Nat}(hk:k<J.D.length):a2r (lC J.D k) (t.get k) c j:=by refine⟨fun h=>⟨by simpa using h,(hd k hk).1.1⟩,fun h=>?_⟩;have:=(IC hJ hd hk h).2.2;exact⟨hj.1,by rw[this];exact hj.2⟩
theorem VE(hr:J.o.drop a=c::r)(hd:Dp J a t)(h:jY J.D t c=true):2<=(J.s.getD c.toNat 0).toNat:=by obtain⟨k,hk,h1⟩:=DU.1 h;obtain⟨h2,h3,h4⟩:=IC hJ hd hk h1;have:=(hJ.dg k hk).two (t.get k).toNat (by have:=h2.1;have:=h2.2;omega);have h4:((fB (lC J.D k) (t.get k).toNat).aA.length:Int)=J.s.getD c.toNat 0:=h4;omega
theorem JV(hd:Dp J J.o.length t){k:Nat}(hk:k<J.D.length):t.get k<0∧gu (je (t.get k)) (lC J.D k).aK.length:=by
 have h1:=hd k hk;have:t.get k<0:=by
  refine acw fun h=>?_;have h2:=h1.2;unfold EO at h2;rw[a0E h]at h2;have hdj:=hJ.dg k hk;have aT:(t.get k).toNat<(lC J.D k).aj.length:=by have:=h1.1.1;omega
  have hv:=hdj.t.var (t.get k).toNat aT;rw[hdj.s]at hv;have:=a5a.2 (lX hJ.ord hv);have e:(fB (lC J.D k) (t.get k).toNat).var=((lC J.D k).aj.getD (t.get k).toNat kR).var:=rfl;rw[e]at this;omega
 exact⟨this,h1.1.2 this⟩
end
open Go Tw Pv bP
def ov(g q:LI0):LI0:=List.zipWith (fun a b=>if 0<=a then a else b) g q
theorem Qm{g q:LI0}{k:Nat}(h:g.length=q.length):(ov g q).getD k 0=if k<g.length then(if 0<=g.getD k 0 then g.getD k 0 else q.getD k 0)else 0:=by
 unfold ov;by_cases hk:k<g.length
 .rw[a0F hk];simp[List.getD,List.getElem?_zipWith,a0q hk,a0q (show k<q.length by omega)]
 rw[a0E hk];simp[List.getD,List.getElem?_zipWith,a4L (show g.length<=k by omega)]
def a8p(J:Jb)(op:List V->V)(q:LI0)(t:S3)(v:V):Prop:=∃l:List V,l.length=J.D.length∧(∀k,k<J.D.length->To (lC J.D k) (ov J.g q) (t.get k) (l.getD k V0))∧v=op l
def Sem(J:Jb)(op:List V->V)(v:Int)(t:S3)(x:EN):Prop:=∀Z:Dg,Z.aK.length<2^61->x.1 <+: Z.aK->x.2 <+: Z.aj->∀q,kF J.s q=true->∃u,To Z q v u∧a8p J op q t u
theorem Sem.mono{J:Jb}{op:List V->V}{v:Int}{t:S3}{x y:EN}(h:Sem J op v t x)(hp:Qc x y):Sem J op v t y:=fun Z hZ h1 h2=>h Z hZ (hp.1.trans h1) (hp.2.trans h2)
abbrev Mk.en(x:Mk):EN:=(x.e,x.n)
def J4(v:V):Prop:=vOk v=true∧0<=v.f
structure XOk(J:Jb)(op:List V->V)(x:Mk):Prop where
 v:PtV J.s J.o x.en
 k:∀e∈x.k,gu e.2 x.n.length∧jY J.D e.1 (x.n.getD e.2.toNat kR).var=true∧Sem J op e.2 e.1 x.en
 nd:(x.k.map (·.1)).Nodup
 e:∀v∈x.e,J4 v
 w:∀b∈x.n,∀v∈b.aA,Gj v
structure a4i(J:Jb)(op:List V->V)(a:Nat)(w:Nat)(t:S3)(x:Mk)(z:Int×Mk):Prop where
 pre:Qc x.en z.2.en
 el:z.2.e.length<=x.e.length+w
 nl:z.2.n.length+1<=x.n.length+w
 ok:XOk J op z.2
 rf:Cb J.o z.2.en z.1 z.2.n.length a
 sm:Sem J op z.1 t z.2.en
 ks:∀e∈z.2.k,e∈x.k∨Dp J a e.1
 w:Gj z.1
theorem XOk.mono{J:Jb}{op:List V->V}{x:Mk}{e:List V}(h:XOk J op x)(hp:x.e <+: e)(he:∀v∈e,J4 v):XOk J op { x with e:=e }:=by have hq:Qc x.en (e,x.n):=⟨hp,a5c⟩;exact⟨⟨h.v.var,h.v.ksz,fun i hi k hk=>(h.v.zN i hi k hk).mono hq (a0P _) (a9G hi) (a0P _)⟩,fun e he=>⟨(h.k e he).1,(h.k e he).2.1,(h.k e he).2.2.mono hq⟩,h.nd,he,h.w⟩
theorem Qn{J:Jb}(hJ:kC J){op:List V->V}{q:LI0}{t:S3}{a:Nat}(hd:Dp J a t){c j:Int}{u:V}(hj:(ov J.g q).getD c.toNat 0=j)(h:a8p J op q (bM J.D t c j) u):a8p J op q t u:=by
 obtain⟨l,h1,h2,h3⟩:=h;refine⟨l,h1,fun k hk=>?_,h3⟩;have h4:=h2 k hk;rw[JR hJ.d3 t c j hk]at h4;unfold LU at h4;split at h4
 .rename_i h5;obtain⟨h6,h7,_⟩:=IC hJ hd hk h5;refine .step h6.1 ?_;rw[h7,hj];exact h4
 exact h4
def xu(J:Jb)(op:List V->V):Prop:=∀t,Dp J J.o.length t->J4 (op (aV J.D t))
theorem abk{J:Jb}(hJ:kC J)(op:List V->V)(kW:xu J op){t:S3}{x:Mk}(hd:Dp J J.o.length t)(hx:XOk J op x)(hb:x.e.length+1<=2^60):a4i J op J.o.length 1 t x (jP J op [] t x):=by
 have e0:i64.wrap (0-((x.e++[op (aV J.D t)]).length:Int))=-1-(x.e.length:Int):=by rw[a1U,a4H,fK (by omega) (by omega)];omega
 obtain⟨_,e2⟩:=Qe (k:=x.e.length) (by omega);have hp:x.e <+: x.e++[op (aV J.D t)]:=a9j _ _;show a4i J op J.o.length 1 t x (i64.wrap (0-((x.e++[op (aV J.D t)]).length:Int)),_);rw[e0];refine⟨⟨hp,a5c⟩,by simp,a0P _,hx.mono hp (fun v hv=>by rcases a3P.1 hv with hv|hv;exact hx.e v hv;rw[a1S.1 hv];exact kW t hd),⟨fun _=>?_,?_,?_⟩,fun Z hZ g1 g2 q hq=>?_,fun e he=>.inl he,⟨by show _<=-1-(x.e.length:Int);omega,by show -1-(x.e.length:Int)<_;omega⟩⟩
 .rw[e2];exact⟨by omega,by simp;omega⟩
 .show -1-(x.e.length:Int)<_;omega
 .unfold EO;rw[a0F (by show -1-(x.e.length:Int)<0;omega)];exact a0P _
 have h1:=To.fin (d:=Z) (q:=q) (r:=-1-(x.e.length:Int)) (by omega);rw[e2,a5p]at h1;have g1:x.e++[op (aV J.D t)] <+: Z.aK:=g1;have e3:Z.aK.getD x.e.length V0=op (aV J.D t):=by rw[zS g1 (by simp)];simp[List.getD]
 rw[e3]at h1;refine⟨_,h1,aV J.D t,by simp[aV],fun k hk=>?_,rfl⟩;have h2:=JV hJ hd hk;have e4:(aV J.D t).getD k V0=oq (lC J.D k) (t.get k):=by simp[aV,List.getD,hk]
 rw[e4];exact .fin h2.1
theorem DV{α:Type}{l:List α}{a:α}(h:l.Nodup)(ha:a∉l):(l++[a]).Nodup:=by rw[a9l];exact⟨h,by simp,fun x hx y hy e=>by simp at hy;subst hy;subst e;exact ha hx⟩
theorem JW{α:Type}{l:List α}{x d:α}{j:Nat}:(l++[x]).getD j d=if j<l.length then l.getD j d else if j=l.length then x else d:=by
 split
 .rename_i h;simp[List.getD,a0C h]
 rename_i h;split
 .rename_i h2;subst h2;simp[List.getD]
 rename_i h2;rw[List.getD,a4L (by simp;omega)];rfl
theorem U3{J:Jb}(hJ:kC J)(op:List V->V)(kW:xu J op):∀(r:LI0) (a:Nat) (t:S3) (x:Mk),J.o.drop a=r->a<=J.o.length->Dp J a t->XOk J op x->x.e.length+wO J.s r<=2^60->x.n.length+wO J.s r<=2^60->a4i J op a (wO J.s r) t x (jP J op r t x)
 | [],a,t,x,hr,ha,hd,hx,hb,yg=>by
  have:a=J.o.length:=by have:=congrArg List.length hr;rw[a4l,a5s]at this;omega
  subst this;exact abk hJ op kW hd hx hb
 |c::r,a,t,x,hr,ha,hd,hx,hb,yg=>by
  obtain⟨aT,hoc,wK,Gf,hci,qF⟩:=kC.at_ hJ hr;have hz:=hJ.cu.sz _ (dB (s:=J.s) (k:=c.toNat) (by have:=qF.1;have:=qF.2;omega));have hri:∀c'∈r,gu c' J.s.length:=fun c' h=>(kC.o2 hJ).2.2 c' (by rw[<-wK]at h;exact a5Z h);have hw:=Vz hJ.cu.sz hri;have hw1:wO J.s r<=(J.s.getD c.toNat 0).toNat*wO J.s r:=aei _ (by omega);simp only[wO]at hb yg ⊢;have up:∀{t':S3} {z:Int×Mk},a4i J op (a+1) (wO J.s r) t' x z->(∀q u,kF J.s q=true->a8p J op q t' u->a8p J op q t u)->a4i J op a ((J.s.getD c.toNat 0).toNat*wO J.s r) t x z:=fun{t' z} h hs=>
   ⟨h.pre,by have:=h.el;omega,by have:=h.nl;omega,h.ok,h.rf.mono Qc.rfl (a0P _) (a0P _) (by omega),fun Z hZ g1 g2 q hq=>let ⟨u,u1,u2⟩:=h.sm Z hZ g1 g2 q hq;⟨u,u1,hs q u hq u2⟩,fun e he=>(h.ks e he).imp id fun h=>h.le (by omega),h.w⟩
  unfold jP;cases Bf:jY J.D t c
  .rw[a0E (by simp)];exact up (U3 hJ op kW r (a+1) t x wK aT (VD hJ hr hd Bf) hx (by omega) (by omega)) fun _ _ _ h=>h
  rw[a0F rfl];by_cases hg:J.g.getD c.toNat 0>=0
  .rw[a0F (by simpa using hg)];refine up (U3 hJ op kW r (a+1) _ x wK aT (ni hJ hr hd ⟨hg,hJ.gv c qF hg⟩) hx (by omega) (by omega)) fun q u hq h=>Qn hJ hd ?_ h;rw[Qm (by rw[hJ.gl,uN hq]),a0F (by rw[hJ.gl];have:=qF.1;have:=qF.2;omega),a0F hg]
  rw[a0E (by simpa using hg)];by_cases hk:t∈x.k.map (·.1)
  .rw[a0F hk];obtain⟨e,he,rfl⟩:=a0V.1 hk;have hkn:knS x.k e.1=e.2:=by
    have:x.k.find? (fun y=>decide (y.1=e.1))=some e:=by
     have jH:=hx.nd;clear hb up hk Bf hd;generalize x.k=l at he jH
     induction l with
     |nil=>cases he
     |cons y l ih=>
      rw[ahA];rcases a1Y.1 he with rfl|he
      .simp
      have:¬y.1=e.1:=fun h=>by rw[a4M,a4U]at jH;exact jH.1 (a0V.2 ⟨e,he,h.symm⟩)
      rw[aeJ this];rw[a4M,a4U]at jH;exact ih he jH.2
    unfold knS;rw[this];rfl
   rw[hkn];obtain⟨k1,k2,k3⟩:=hx.k e he;have hmul:2*1<=(J.s.getD c.toNat 0).toNat*wO J.s r:=ahG (VE hJ hr hd Bf) hw;refine⟨Qc.rfl,by show x.e.length<=_;omega,by show x.n.length+1<=_;omega,hx,⟨fun h=>by have:=k1.1;show gu _ _;exact absurd h (by omega),k1.2,?_⟩,k3,fun _ h=>.inl h,⟨by have:=k1.1;show _<=e.2;omega,by have:=k1.2;show e.2<_;omega⟩⟩;obtain⟨k,hk,h1⟩:=DU.1 k2;obtain⟨x0,hv⟩:=ED.1 h1;have h2:=(hd k hk).2;unfold EO at h2 ⊢;rw[a0E (by omega)]at h2;have k10:=k1.1;rw[a0E (show ¬e.2<0 by omega)];have hv:((lC J.D k).aj.getD (e.1.get k).toNat kR).var=(x.n.getD e.2.toNat kR).var:=hv;rw[hv]at h2;exact h2
  rw[a0E hk];have hm2:=VE hJ hr hd Bf;have YO:∀j,j<(J.s.getD c.toNat 0).toNat->j*wO J.s r+wO J.s r<=(J.s.getD c.toNat 0).toNat*wO J.s r:=fun j hj=>by have:(j+1)*wO J.s r<=(J.s.getD c.toNat 0).toNat*wO J.s r:=a3V _ hj;rw[a3U]at this;omega
  have inv:=cO (g:=VB J.D (jP J op r) t c) (m:=(J.s.getD c.toNat 0).toNat) (k:=0) (s:=([],x)) (fun k y=>y.1.length=k∧Qc x.en y.2.en∧y.2.e.length<=x.e.length+k*wO J.s r∧y.2.n.length+k<=x.n.length+k*wO J.s r∧XOk J op y.2∧(∀e∈y.2.k,e∈x.k∨Dp J (a+1) e.1)∧(∀v∈y.1,Gj v)∧∀j:Nat,j<k->Cb J.o y.2.en (y.1.getD j 0) y.2.n.length (a+1)∧Sem J op (y.1.getD j 0) (bM J.D t c j) y.2.en)
   ⟨rfl,Qc.rfl,by simp,by simp,hx,fun _ h=>.inl h,(fun v hv=>by cases hv),fun j hj=>by omega⟩ (fun j y _ hj hy=>by
    obtain⟨y1,y2,y3,y4,y5,y6,y8,y7⟩:=hy;have YO:=YO j (by omega);have h:=U3 hJ op kW r (a+1) (bM J.D t c j) y.2 wK aT (ni hJ hr hd ⟨by omega,by omega⟩) y5 (by omega) (by omega);refine⟨by simp[VB,y1],y2.trans h.pre,?_,?_,h.ok,fun e he=>?_,fun v hv=>?_,fun j' Ea=>?_⟩
    .have:=h.el;show(jP J op r (bM J.D t c j) y.2).2.e.length<=_;rw[a3U];omega
    .have:=h.nl;show(jP J op r (bM J.D t c j) y.2).2.n.length+_<=_;rw[a3U];omega
    .rcases h.ks e he with h1|h1
     .exact y6 e h1
     .exact .inr h1
    .have hv:v∈y.1++[(jP J op r (bM J.D t c j) y.2).1]:=hv;rcases a3P.1 hv with hv|hv
     .exact y8 v hv
     .rw[a1S.1 hv];exact h.w
    .have e1:(VB J.D (jP J op r) t c j y).1.getD j' 0=if j'<j then y.1.getD j' 0 else(jP J op r (bM J.D t c j) y.2).1:=by
      show(y.1++[_]).getD j' 0=_;rw[JW,y1];split
      .rfl
      .rw[a0F (by omega)]
     rw[e1];by_cases e:j'<j
     .rw[a0F e];obtain⟨a1,a2⟩:=y7 j' e;exact⟨a1.mono h.pre h.pre.2.length_le (a0P _) (a0P _),a2.mono h.pre⟩
     .rw[a0E e];have e:j'=j:=(by omega);subst e;exact⟨h.rf,h.sm⟩)
  rw[a3W]at inv;simp only[];generalize aS (VB J.D (jP J op r) t c) (J.s.getD c.toNat 0).toNat 0 ([],x)=y at inv;obtain⟨ks,m⟩:=y;obtain⟨y1,y2,y3,y4,y5,y6,y8,y7⟩:=inv;have y1:ks.length=(J.s.getD c.toNat 0).toNat:=y1;have hp:Qc m.en (m.e,m.n++[(⟨c,ks⟩:Br)]):=⟨a5c,a9j _ _⟩;have fV:(m.n++[(⟨c,ks⟩:Br)]).getD m.n.length kR=⟨c,ks⟩:=by simp[List.getD]
  have a5C:Sem J op (m.n.length:Int) t (m.e,m.n++[(⟨c,ks⟩:Br)]):=fun Z hZ g1 g2 q hq=>by
   have g2:m.n++[(⟨c,ks⟩:Br)] <+: Z.aj:=g2;have YM:=(uO.1 hq).2 c.toNat (by have:=qF.1;have:=qF.2;omega);have hj:(q.getD c.toNat 0).toNat<(J.s.getD c.toNat 0).toNat:=(by omega);obtain⟨u,u1,u2⟩:=(y7 _ hj).2 Z hZ g1 ((a9j _ _).trans g2) q hq;have en:au Z (m.n.length:Int)=⟨c,ks⟩:=by show Z.aj.getD (m.n.length:Int).toNat kR=_;rw[a5p,zS g2 (by simp),fV]
   refine⟨u,.step (by omega) (by rw[en];exact u1),Qn hJ hd ?_ u2⟩;rw[Qm (by rw[hJ.gl,uN hq]),a0F (by rw[hJ.gl];have:=qF.1;have:=qF.2;omega),a0E (by omega)];omega
  have hv2:PtV J.s J.o (m.e,m.n++[(⟨c,ks⟩:Br)]):=by
   have hg:∀i,i<(m.n++[(⟨c,ks⟩:Br)]).length->(i<m.n.length∧(m.n++[(⟨c,ks⟩:Br)]).getD i kR=m.n.getD i kR)∨(i=m.n.length∧(m.n++[(⟨c,ks⟩:Br)]).getD i kR=⟨c,ks⟩):=fun i hi=>by
    simp only[a1U,a4H]at hi;rcases a4N i m.n.length with h|h
    .exact .inl ⟨h,by rw[JW,a0F h]⟩
    exact .inr ⟨by omega,by rw[show i=m.n.length by omega,fV]⟩
   refine⟨fun i hi=>?_,fun i hi=>?_,fun i hi k hk=>?_⟩
   .rcases hg i hi with⟨h1,h2⟩|⟨h1,h2⟩
    .show gu ((m.n++[_]).getD i kR).var _;rw[h2];exact y5.v.var i h1
    show gu ((m.n++[_]).getD i kR).var _;rw[h2];exact qF
   .rcases hg i hi with⟨h1,h2⟩|⟨h1,h2⟩
    .show(((m.n++[_]).getD i kR).aA.length:Int)=J.s.getD ((m.n++[_]).getD i kR).var.toNat 0;rw[h2];exact y5.v.ksz i h1
    show(((m.n++[_]).getD i kR).aA.length:Int)=J.s.getD ((m.n++[_]).getD i kR).var.toNat 0;rw[h2];show(ks.length:Int)=J.s.getD c.toNat 0;omega
   rcases hg i hi with⟨h1,h2⟩|⟨h1,h2⟩
   .have hk:k<((m.n++[(⟨c,ks⟩:Br)]).getD i kR).aA.length:=hk;show Cb J.o _ (((m.n++[(⟨c,ks⟩:Br)]).getD i kR).aA.getD k 0) i (J.o.idxOf ((m.n++[(⟨c,ks⟩:Br)]).getD i kR).var+1);rw[h2]at hk ⊢;exact(y5.v.zN i h1 k hk).mono hp (a0P _) (a9G h1) (a0P _)
   have hk:k<((m.n++[(⟨c,ks⟩:Br)]).getD i kR).aA.length:=hk;show Cb J.o _ (((m.n++[(⟨c,ks⟩:Br)]).getD i kR).aA.getD k 0) i (J.o.idxOf ((m.n++[(⟨c,ks⟩:Br)]).getD i kR).var+1);rw[h2]at hk ⊢;have hk:k<ks.length:=hk;subst h1;show Cb J.o _ (ks.getD k 0) m.n.length (J.o.idxOf c+1);rw[hci];exact(y7 k (by omega)).1.mono hp (a0P _) (a0P _) (a0P _)
  have y5:XOk J op m:=y5;have y6:∀e∈m.k,e∈x.k∨Dp J (a+1) e.1:=y6;refine⟨y2.trans hp,y3,?_,⟨hv2,fun e he=>?_,?_,y5.e,fun b hb=>?_⟩,⟨fun h=>?_,?_,?_⟩,a5C,fun e he=>?_,⟨by show _<=(m.n.length:Int);omega,by have y4:m.n.length+_<=x.n.length+_:=y4;show(m.n.length:Int)<_;omega⟩⟩
  .show(m.n++[_]).length+1<=_;rw[a1U,a4H];have y4:m.n.length+(J.s.getD c.toNat 0).toNat<=x.n.length+(J.s.getD c.toNat 0).toNat*wO J.s r:=y4;omega
  .rcases a3P.1 he with he|he
   .obtain⟨k1,k2,k3⟩:=y5.k e he;have aT:e.2.toNat<m.n.length:=by have:=k1.1;have:=k1.2;omega
    refine⟨⟨k1.1,?_⟩,?_,k3.mono hp⟩
    .have:=k1.2;show e.2<((m.n++[_]).length:Int);rw[a1U];omega
    show jY J.D e.1 ((m.n++[_]).getD e.2.toNat kR).var=true;rw[JW,a0F aT];exact k2
   rw[a1S.1 he];refine⟨⟨by omega,by show(m.n.length:Int)<((m.n++[_]).length:Int);rw[a1U,a4H];omega⟩,?_,a5C⟩;show jY J.D t ((m.n++[_]).getD (m.n.length:Int).toNat kR).var=true;rw[a5p,fV];exact Bf
  .rw[a4J];refine DV y5.nd fun h=>?_;obtain⟨e,he,e2⟩:=a0V.1 h;rcases y6 e he with h1|h1
   .exact hk (a0V.2 ⟨e,h1,e2⟩)
   rw[e2]at h1;exact a0n hJ hr Bf h1
  .have hb:b∈m.n++[(⟨c,ks⟩:Br)]:=hb;rcases a3P.1 hb with hb|hb
   .exact y5.w b hb
   rw[a1S.1 hb];exact y8
  .exact absurd h (by show ¬((m.n.length:Int)<0);omega)
  .show(m.n.length:Int)<((m.n++[_]).length:Int);rw[a1U,a4H];omega
  .show a<=EO J.o (m.n++[_]) (m.n.length:Int);unfold EO;rw[a0E (by omega),a5p,fV];show a<=J.o.idxOf c;omega
  rcases a3P.1 he with he|he
  .rcases y6 e he with h1|h1
   .exact .inl h1
   exact .inr (h1.le (by omega))
  rw[a1S.1 he];exact .inr hd
open Go Tw Pv bP
def qj(J:Jb)(op:List V->V):Dg:=⟨J.s,J.o,(jP J op J.o (fG J.D) ⟨[],[],[]⟩).2.e,(jP J op J.o (fG J.D) ⟨[],[],[]⟩).2.n,(jP J op J.o (fG J.D) ⟨[],[],[]⟩).1⟩
def JX(J:Jb)(op:List V->V):Dg:=(zT (qj J op)).1
theorem zU{D:List Dg}(hD:D.length<=3){k:Nat}(hk:k<D.length):(fG D).get k=(lC D k).root:=by
 have:=cO (g:=fun k (y:S3)=>y.set k (lC D k).root) (m:=D.length) (k:=0) (s:=⟨0,0,0⟩) (fun j y=>∀k,k<j->y.get k=(lC D k).root) (fun k hk=>by omega) (fun j y _ hj hy k hk=>by
  rw[S3.jG (by omega) (by omega)];by_cases e:k=j
  .rw[a0F e,e]
  rw[a0E e];exact hy k (by omega))
 exact this k (by omega)
theorem a8q{J:Jb}(hJ:kC J){op:List V->V}(kW:xu J op):a4i J op 0 (wO J.s J.o) (fG J.D) ⟨[],[],[]⟩ (jP J op J.o (fG J.D) ⟨[],[],[]⟩):=by have hw:=DT hJ.cu.sz hJ.ord;have hm:=hJ.cu.many;refine U3 hJ op kW J.o 0 (fG J.D) ⟨[],[],[]⟩ (aav) (a5i _) (fun k hk=>?_) ⟨⟨fun i hi=>(by simp at hi),fun i hi=>(by simp at hi),fun i hi=>(by simp at hi)⟩,fun e he=>(by cases he),a6x,fun v hv=>(by cases hv),fun b hb=>(by cases hb)⟩ (by show 0+wO J.s J.o<=_;omega) (by show 0+wO J.s J.o<=_;omega);rw[zU hJ.d3 hk];exact⟨(hJ.dg k hk).t.root,a5i _⟩
theorem JY{J:Jb}(hJ:kC J){op:List V->V}(kW:xu J op):aX (qj J op)=0∧(qj J op).aK.length<=2000∧∀v∈(qj J op).aK,J4 v:=by have h:=a8q hJ kW;have hw:=DT hJ.cu.sz hJ.ord;have hm:=hJ.cu.many;have h1:(qj J op).aK.length<=0+wO J.s J.o:=h.el;have h2:(qj J op).aj.length+1<=0+wO J.s J.o:=h.nl;refine⟨JO (by unfold ah;omega) ?_ (fun v hv=>(h.ok.e v hv).1) (by omega) h.ok.v h.rf,by omega,h.ok.e⟩;have:bK J.s J.o=0:=jw.2 ⟨hJ.cu,hJ.ord⟩;show(bK J.s J.o != 0)=false;rw[this];rfl
theorem a8r{J:Jb}(hJ:kC J){op:List V->V}(kW:xu J op):Ba (qj J op):=by have h:=a8q hJ kW;exact⟨fun i hi k hk=>h.ok.w _ (Y8 hi) _ (dB hk),h.w,fun v hv=>(h.ok.e v hv).2⟩
theorem Yo{J:Jb}(hJ:kC J){op:List V->V}(kW:xu J op):bH (qj J op)=(yX (qj J op),0)∧JX J op=oz J.s J.o (cellsD (qj J op)):=by
 obtain⟨h1,h2,h3⟩:=JY hJ kW;have hr:=a8r hJ kW;have ho:=(kC.o2 hJ).2.1;have hl:=hJ.cu.len;have e:=JL hr (by unfold ah;omega);rw[h1]at e;have hf:¬(bK (qj J op).ay (qj J op).aB != 0)=true:=by have:bK J.s J.o=0:=jw.2 ⟨hJ.cu,hJ.ord⟩;show ¬(bK J.s J.o != 0)=true;rw[this];simp
 rw[a0E hf]at e;refine⟨e,?_⟩;unfold JX zT;rw[e];show eH (qj J op)=_;exact(Qj h1 (by show J.o.length<=ah;unfold ah;omega) (by unfold ah;omega)).1
open Go Tw Pv bP
def Bg(J:Jb)(c:Int):LI0:=if decide (J.g.getD c.toNat 0>=0)=true then [J.g.getD c.toNat 0]else(List.range (J.s.getD c.toNat 0).toNat).map fun(j:Nat)=>(j:Int)
def xQ(J:Jb)(ψ:S3->Int):LI0->S3->Int
 | [],t=>ψ t
 |c::r,t=>dZ (fun j=>xQ J ψ r (bM J.D t c j)) (Bg J c)
theorem zV{α β:Type}[DecidableEq α][DecidableEq β](φ:β->Int)(f:α->β):∀l:List α,dZ φ (l.map f)=dZ (fun a=>φ (f a)) l
 | []=>rfl
 |a::l=>by simp only[a4M,dZ,zV φ f l]
theorem qG{α:Type}[DecidableEq α]{φ φ':α->Int}:∀{l:List α},(∀a∈l,φ a=φ' a)->dZ φ l=dZ φ' l
 | [],_=>rfl
 |a::l,h=>by rw[dZ,dZ,h a (by simp),qG fun b hb=>h b (by simp[hb])]
theorem U4{α β:Type}[DecidableEq α][DecidableEq β](φ:β->Int)(f:α->List β):∀l:List α,dZ φ (l.flatMap f)=dZ (fun a=>dZ φ (f a)) l
 | []=>rfl
 |a::l=>by rw[List.flatMap_cons,Ij,dZ,U4 φ f l]
theorem Bh{α:Type}[DecidableEq α](x:Int):∀l:List α,dZ (fun _=>x) l=l.length*x
 | []=>by simp[dZ]
 |a::l=>by rw[dZ,Bh x l,a4K,Int.natCast_add,ahH];omega
theorem S3.abl(s:S3)(k:Nat):s.set k (s.get k)=s:=by
 match k with
 | 0=>rfl
 | 1=>rfl
 |k+2=>rfl
theorem a8s{D:List Dg}{t:S3}{c:Int}(h:jY D t c=false)(g:Int):bM D t c g=t:=by
 have hk:∀k,k<D.length->kZ (lC D k) (t.get k) c=false:=fun k hk=>by
  cases e:kZ (lC D k) (t.get k) c
  .rfl
  have:=DU.2 ⟨k,hk,e⟩;rw[h]at this;cases this
 exact cO (g:=fun k (y:S3)=>y.set k (LU (lC D k) (y.get k) c g)) (m:=D.length) (k:=0) (s:=t) (fun _ y=>y=t) rfl (fun j y _ hj hy=>by subst hy;show y.set j (LU (lC D j) (y.get j) c g)=y;unfold LU;rw[hk j (by omega),a0E (by simp)];exact S3.abl y j)
theorem a4j{J:Jb}{ψ:S3->Int}{c:Int}{r:LI0}{t:S3}(h:decide (J.g.getD c.toNat 0>=0)=true):xQ J ψ (c::r) t=xQ J ψ r (bM J.D t c (J.g.getD c.toNat 0)):=by rw[xQ,Bg,a0F h];simp[dZ]
theorem agq{J:Jb}{ψ:S3->Int}{c:Int}{r:LI0}{t:S3}(h:¬decide (J.g.getD c.toNat 0>=0)=true)(ha:jY J.D t c=false):xQ J ψ (c::r) t=((J.s.getD c.toNat 0).toNat:Int)*xQ J ψ r t:=by rw[xQ,Bg,a0E h,zV,qG (φ':=fun _=>xQ J ψ r t) (fun a _=>by rw[a8s ha]),Bh,a9m]
theorem abm{J:Jb}{ψ:S3->Int}{c:Int}{r:LI0}{t:S3}(h:¬decide (J.g.getD c.toNat 0>=0)=true):xQ J ψ (c::r) t=dZ (fun(j:Nat)=>xQ J ψ r (bM J.D t c j)) (List.range (J.s.getD c.toNat 0).toNat):=by rw[xQ,Bg,a0E h,zV]
def Aa(J:Jb):LI0->Nat
 | []=>1
 |c::r=>(Bg J c).length*Aa J r
theorem EF{J:Jb}:∀(r:LI0) (t:S3),xQ J (fun _=>1) r t=(Aa J r:Int)
 | [],_=>rfl
 |c::r,t=>by rw[xQ,qG (φ':=fun _=>(Aa J r:Int)) (fun a _=>EF r _),Bh,Aa,aeD]
section
variable {J:Jb} (hJ:kC J)
include hJ
theorem Yp{c:Int}(hc:gu c J.s.length){j:Int}:j∈Bg J c↔(0<=j∧j<J.s.getD c.toNat 0)∧(0<=J.g.getD c.toNat 0->J.g.getD c.toNat 0=j):=by
 unfold Bg;split
 .rename_i h;have h:J.g.getD c.toNat 0>=0:=by simpa using h
  have:=hJ.gv c hc h;rw[a1S];constructor
  .rintro rfl;exact⟨⟨h,this⟩,fun _=>rfl⟩
  exact fun h2=>(h2.2 h).symm
 rename_i h;have h:¬J.g.getD c.toNat 0>=0:=by simpa using h
 rw[a0V];constructor
 .rintro⟨k,h1,rfl⟩;rw[a4P]at h1;exact⟨⟨by omega,by omega⟩,fun h2=>absurd h2 h⟩
 rintro⟨h1,_⟩;exact⟨j.toNat,a4P.2 (by omega),by omega⟩
theorem a8t{c:Int}(hc:gu c J.s.length):1<=(Bg J c).length∧(Bg J c).length<=(J.s.getD c.toNat 0).toNat:=by
 have hz:=hJ.cu.sz _ (dB (s:=J.s) (k:=c.toNat) (by have:=hc.1;have:=hc.2;omega));unfold Bg;split
 .exact⟨a0P _,by show 1<=_;omega⟩
 rw[a4S,a9m];exact⟨by omega,a0P _⟩
theorem JZ:∀{r:LI0},(∀c∈r,gu c J.s.length)->1<=Aa J r∧Aa J r<=wO J.s r
 | [],_=>⟨a0P _,a0P _⟩
 |c::r,h=>by obtain⟨h1,h2⟩:=a8t hJ (h c (by simp));obtain⟨h3,h4⟩:=JZ (r:=r) fun c hc=>h c (by simp[hc]);exact⟨ahG h1 h3,ahG h2 h4⟩
end
def plc(J:Jb):LI0->LI0->List LI0
 | [],q=>[q]
 |c::r,q=>(Bg J c).flatMap fun j=>plc J r (q.set c.toNat j)
def VF(D:List Dg)(q:LI0):LI0->S3->S3
 | [],t=>t
 |c::r,t=>VF D q r (bM D t c (q.getD c.toNat 0))
theorem zW{q:LI0}{i k:Nat}{v:Int}:(q.set i v).getD k 0=if k=i∧i<q.length then v else q.getD k 0:=by
 simp only[List.getD,aa2];by_cases h:i=k
 .subst h;by_cases h2:i<q.length
  .simp[h2]
  simp[h2,a4L (show q.length<=i by omega)]
 rw[a0E (fun e:k=i∧i<q.length=>h e.1.symm)];simp[h]
theorem Ns{J:Jb}:∀{r q q':LI0},q'∈plc J r q->q'.length=q.length∧∀k,k∉r.map Int.toNat->q'.getD k 0=q.getD k 0
 | [],q,q',h=>by rw[plc,a1S]at h;subst h;exact⟨rfl,fun _ _=>rfl⟩
 |c::r,q,q',h=>by rw[plc,aep]at h;obtain⟨j,_,h2⟩:=h;obtain⟨h3,h4⟩:=Ns h2;refine⟨by rw[h3,a4Y],fun k hk=>?_⟩;rw[a4M,a1Y,ae6]at hk;rw[h4 k hk.2,zW,a0E (fun h=>hk.1 h.1)]
section
variable {J:Jb} {n:Nat}
structure a0o(n:Nat)(r:LI0):Prop where
 nd:r.Nodup
 mem:∀c∈r,gu c n
theorem a0o.tail{c:Int}{r:LI0}(h:a0o n (c::r)):a0o n r∧c.toNat∉r.map Int.toNat∧gu c n:=by
 have h1:=a4U.1 h.nd;have hc:=h.mem c (by simp);refine⟨⟨h1.2,fun c hc=>h.mem c (by simp[hc])⟩,fun h2=>?_,hc⟩;obtain⟨d,h3,h4⟩:=a0V.1 h2;have hd:=h.mem d (by simp[h3]);have:d=c:=by have:=hc.1;have:=hd.1;omega
 exact h1.1 (this▸h3)
theorem a2v(ψ:S3->Int):∀{r:LI0} (q:LI0) (t:S3),a0o q.length r->xQ J ψ r t=dZ (fun q'=>ψ (VF J.D q' r t)) (plc J r q)
 | [],q,t,_=>by simp[xQ,plc,VF,dZ]
 |c::r,q,t,ho=>by obtain⟨h1,h2,h3⟩:=ho.tail;rw[xQ,plc,U4];refine qG fun j _=>?_;rw[a2v ψ (q.set c.toNat j) _ (by rw[a4Y];exact h1)];refine qG fun q' hq=>?_;rw[VF,(Ns hq).2 _ h2,zW,a0F ⟨rfl,by have:=h3.1;have:=h3.2;omega⟩]
theorem VG:∀{r q q':LI0},a0o q.length r->(q'∈plc J r q↔q'.length=q.length∧(∀k,k∉r.map Int.toNat->q'.getD k 0=q.getD k 0)∧∀c∈r,q'.getD c.toNat 0∈Bg J c)
 | [],q,q',_=>by
  rw[plc,a1S];constructor
  .rintro rfl;exact⟨rfl,fun _ _=>rfl,fun _ h=>by cases h⟩
  rintro⟨h1,h2,_⟩;exact(qx (d:=0) h1).2 fun i _=>h2 i (by simp)
 |c::r,q,q',ho=>by
  obtain⟨h1,h2,h3⟩:=ho.tail;have hl:c.toNat<q.length:=by have:=h3.1;have:=h3.2;omega
  rw[plc,aep];constructor
  .rintro⟨j,hj,h4⟩;obtain⟨h5,h6,h7⟩:=(VG (by rw[a4Y];exact h1)).1 h4;refine⟨by rw[h5,a4Y],fun k hk=>?_,fun d hd=>?_⟩
   .rw[a4M,a1Y,ae6]at hk;rw[h6 k hk.2,zW,a0E (fun h=>hk.1 h.1)]
   rcases a1Y.1 hd with rfl|hd
   .rw[h6 _ h2,zW,a0F ⟨rfl,hl⟩];exact hj
   exact h7 d hd
  rintro⟨h4,h5,h6⟩;refine⟨q'.getD c.toNat 0,h6 c (by simp),(VG (by rw[a4Y];exact h1)).2 ⟨by rw[a4Y];exact h4,fun k hk=>?_,fun d hd=>h6 d (by simp[hd])⟩⟩;rw[zW];split
  .rename_i h;rw[h.1]
  rename_i h;exact h5 k (by rw[a4M,a1Y,ae6];exact⟨fun e=>h ⟨e,hl⟩,hk⟩)
theorem a0p(c:Int):(Bg J c).Nodup:=by
 unfold Bg;split
 .simp
 rw[List.Nodup,agS];exact List.nodup_range.imp fun h e=>h (by omega)
theorem U5:∀{r q:LI0},a0o q.length r->(plc J r q).Nodup
 | [],q,_=>by simp[plc]
 |c::r,q,ho=>by
  obtain⟨h1,h2,h3⟩:=ho.tail;have hl:c.toNat<q.length:=by have:=h3.1;have:=h3.2;omega
  rw[plc,List.Nodup,List.pairwise_flatMap];refine⟨fun j _=>U5 (by rw[a4Y];exact h1),(a0p (J:=J) c).imp fun{a b} hab x hx y hy e=>?_⟩;subst e;have e1:=(Ns hx).2 _ h2;have e2:=(Ns hy).2 _ h2;rw[zW,a0F ⟨rfl,hl⟩]at e1 e2;exact hab (e1.symm.trans e2)
end
def IE(J:Jb):List LI0:=((List.range (Ce J.s)).map fun(k:Nat)=>lQ J.s k).filter fun q=>decide (ov J.g q=q)
section
variable {J:Jb} (hJ:kC J)
include hJ
theorem VH{q:LI0}(hq:q.length=J.s.length):ov J.g q=q↔∀k,k<J.s.length->0<=J.g.getD k 0->J.g.getD k 0=q.getD k 0:=by
 have hg:=hJ.gl;have hl:(ov J.g q).length=q.length:=by simp[ov,ahE,hg,hq]
 rw[qx (d:=0) hl];constructor
 .intro h k hk h0;have:=h k (by rw[hl,hq];exact hk);rw[Qm (by rw[hg,hq]),a0F (by rw[hg];exact hk),a0F h0]at this;exact this
 intro h k hk;rw[hl,hq]at hk;rw[Qm (by rw[hg,hq]),a0F (by rw[hg];exact hk)];split
 .exact h k hk ‹_›
 rfl
theorem Nu{q:LI0}:q∈(List.range (Ce J.s)).map (fun(k:Nat)=>lQ J.s k)↔kF J.s q=true:=by
 have hc:(Ce J.s:Int)=bC J.s:=by have:=jo hJ.cu.sz;unfold Ce;omega
 constructor
 .intro h;obtain⟨k,_,rfl⟩:=a0V.1 h;exact Es _ hJ.cu.sz
 intro h;have:=Dq h hJ.cu.sz;refine a0V.2 ⟨(ji J.s q).toNat,a4P.2 (by omega),?_⟩;rw[show((ji J.s q).toNat:Int)=ji J.s q by omega];exact Vg h hJ.cu.sz
theorem a4k:((List.range (Ce J.s)).map (fun(k:Nat)=>lQ J.s k)).Nodup:=by
 have hc:(Ce J.s:Int)=bC J.s:=by have:=jo hJ.cu.sz;unfold Ce;omega
 rw[List.Nodup,agS];refine List.Pairwise.imp_of_mem (fun{a b} ha hb h e=>h ?_) aeu;rw[a4P]at ha hb;have h1:=Nc hJ.cu.sz (n:=(a:Int)) (by omega) (by omega);have h2:=Nc hJ.cu.sz (n:=(b:Int)) (by omega) (by omega);have e:lQ J.s (a:Int)=lQ J.s (b:Int):=e;rw[e,h2]at h1;omega
theorem a8u:(plc J J.o (List.replicate J.s.length 0)).Perm (IE J):=by
 obtain⟨o1,o2,o3⟩:=kC.o2 hJ;have ho:a0o (List.replicate J.s.length (0:Int)).length J.o:=⟨o1,fun c hc=>by rw[a6E];exact o3 c hc⟩;unfold IE;refine(a7x (U5 ho) ((a4k hJ).filter _)).2 fun q=>?_;rw[VG ho,a7t,Nu hJ,a1z,a6E];constructor
 .rintro⟨h1,h2,h3⟩;have key:∀k,k<J.s.length->(0<=q.getD k 0∧q.getD k 0<J.s.getD k 0)∧(0<=J.g.getD k 0->J.g.getD k 0=q.getD k 0):=fun k hk=>by have hc:gu (k:Int) J.s.length:=aH hk;have:=h3 k (lX hJ.ord hc);rw[Yp hJ hc]at this;exact this
  exact⟨uO.2 ⟨h1,fun k hk=>(key k hk).1⟩,(VH hJ h1).2 fun k hk=>(key k hk).2⟩
 rintro⟨h1,h2⟩;have hl:=uN h1;refine⟨hl,fun k hk=>?_,fun c hc=>?_⟩
 .have KJ:J.s.length<=k:=by refine acK fun aT=>hk ?_;exact a0V.2 ⟨(k:Int),lX hJ.ord (aH aT),by simp⟩
  simp[List.getD,a4L (show q.length<=k by omega),a4L (show(List.replicate J.s.length (0:Int)).length<=k by simp;omega)]
 have qF:=o3 c hc;have aT:c.toNat<J.s.length:=by have:=qF.1;have:=qF.2;omega
 rw[Yp hJ qF];exact⟨(uO.1 h1).2 _ aT,(VH hJ hl).1 h2 _ aT⟩
theorem U6{q:LI0}(hq:kF J.s q=true):∀(r:LI0) (a:Nat) (t:S3),J.o.drop a=r->a<=J.o.length->Dp J a t->Dp J J.o.length (VF J.D q r t)∧∀k,k<J.D.length->∀v,To (lC J.D k) q ((VF J.D q r t).get k) v->To (lC J.D k) q (t.get k) v
 | [],a,t,hr,ha,hd=>by
  have:a=J.o.length:=by have:=congrArg List.length hr;rw[a4l,a5s]at this;omega
  subst this;exact⟨hd,fun _ _ _ h=>h⟩
 |c::r,a,t,hr,ha,hd=>by
  obtain⟨aT,hoc,wK,Gf,hci,qF⟩:=kC.at_ hJ hr;have YM:=(uO.1 hq).2 c.toNat (by have:=qF.1;have:=qF.2;omega);obtain⟨h1,h2⟩:=U6 hq r (a+1) _ wK aT (ni hJ hr hd YM);refine⟨h1,fun k hk v h=>?_⟩;have h4:=h2 k hk v h;rw[JR hJ.d3 t c _ hk]at h4;unfold LU at h4;split at h4
  .rename_i h5;obtain⟨h6,h7,_⟩:=IC hJ hd hk h5;refine .step h6.1 ?_;rw[h7];exact h4
  exact h4
theorem Yq:Dp J 0 (fG J.D):=fun k hk=>by rw[zU hJ.d3 hk];exact⟨(hJ.dg k hk).t.root,a5i _⟩
theorem agr{q:LI0}(hq:kF J.s q=true):aV J.D (VF J.D q J.o (fG J.D))=J.D.map fun d=>xP d q:=by
 obtain⟨h1,h2⟩:=U6 hJ hq J.o 0 (fG J.D) aav (a5i _) (Yq hJ);unfold aV;refine(qx (d:=V0) (by simp)).2 fun k hk=>?_;rw[a4S,a9m]at hk;have hd:=hJ.dg k hk;have h3:=JV hJ h1 hk;have h4:=h2 k hk _ (.fin h3.1);rw[zU hJ.d3 hk]at h4;have h6:=h4.at_ hd.t (by rw[hd.s];exact hq) 6001 (by have:=hd.t.root.1;have:=hd.n;omega) hd.t.root;have e1:((List.range J.D.length).map fun k=>oq (lC J.D k) ((VF J.D q J.o (fG J.D)).get k)).getD k V0=oq (lC J.D k) ((VF J.D q J.o (fG J.D)).get k):=by simp[List.getD,hk]
 have e2:(J.D.map fun d=>xP d q).getD k V0=xP (lC J.D k) q:=by simp[List.getD,hk]
 rw[e1,e2];exact h6
theorem abn(ψ:List V->Int):xQ J (fun t=>ψ (aV J.D t)) J.o (fG J.D)=dZ (fun q=>ψ (J.D.map fun d=>xP d q)) (IE J):=by obtain⟨o1,o2,o3⟩:=kC.o2 hJ;rw[a2v _ (List.replicate J.s.length 0) _ ⟨o1,fun c hc=>by rw[a6E];exact o3 c hc⟩,Jy _ (a8u hJ)];refine qG fun q hq=>?_;unfold IE at hq;rw[a7t,Nu hJ]at hq;rw[agr hJ hq.1]
end
end Go.Proofs.YtmobpoiejckagaaGreat
namespace Pv
open Go Tw
section
variable {X:kX} {P:LI1} {kt:LI2} {α:Type} [DecidableEq α] (C:oO X P kt α)
theorem oO.ale{l:List (α×PV X.Γ)}{x:α}{v:PV X.Γ}{j:Nat}(hb:Instr.sameBits 10000 (C.v x) (C.v x)=true)(hn:(l.map (·.1)).Nodup)(h:l[j]? = some (x,v)):a6p X P kt (C.es l) (C.tv x) (C.pv x) v j:=by
 obtain⟨hj,e⟩:=a0h.1 h;have hxj:(l.map (·.1))[j]? = some x:=by simp[a0q hj,e]
 refine⟨C.v x,_,C.tv x,C.v x,C.ht x,C.hc false x,C.pk l,?_,?_,?_,C.ht x,hb⟩
 .have hu:∀(i:Nat) y,(l.map (·.1))[i]? = some y->decide (x=y)=(some i==some j):=fun i y hy=>by
   rw[a5b];simp only[a1z,a7g,a0d];constructor
   .rintro rfl;have i1:=a0h.1 hy;have i2:=a0h.1 hxj;exact(aar hn (h₀:=i1.1) (h₁:=i2.1)).1 (i1.2.trans i2.2.symm)
   rintro rfl;rw[hxj]at hy;exact a9x hy
  refine C.find x _ (some j) ?_ hu;rw[aae];refine⟨by simpa using hj,by simp[e],fun i hi=>?_⟩;have hil:i<(l.map (·.1)).length:=by simp;omega
  rw[hu i _ (a0q hil)];simp;omega
 .simp[oO.es,a0q hj,e]
 simp[a0q hj,e]
theorem oO.newP{l:List (α×PV X.Γ)}{x:α}{v:PV X.Γ}(h:x∉l.map (·.1)):aeP X P kt (C.es (l++[(x,v)])) (C.tv x) l.length:=by
 refine⟨C.v x,_,C.ht x,C.pk _,?_⟩;have hu:∀(i:Nat) y,((l++[(x,v)]).map (·.1))[i]? = some y->decide (x=y)=(some i==some l.length):=fun i y hy=>by
  rw[a4J]at hy;rcases a4N i l.length with hi|hi
  .rw[a0C (by simpa using hi)]at hy;have:¬x=y:=fun e=>h (e▸a4X hy);rw[aeJ this];have:¬i=l.length:=(by omega);simp[this]
  rw[a0T (by simpa using hi)]at hy;have KI:i=l.length:=by have:=(a0h.1 hy).1;simp at this;omega
  subst KI;simp at hy;subst hy;simp
 refine C.find x _ (some l.length) ?_ hu;rw[aae];refine⟨by simp,by simp,fun i hi=>?_⟩;have hil:i<((l++[(x,v)]).map (·.1)).length:=by simp;omega
 rw[hu i _ (a0q hil)];simp;omega
abbrev oO.im(m:List (α×Int)):List (PV X.Γ×PV X.Γ):=C.es (m.map fun e=>(e.1,.int .i64 e.2))
theorem oO.pO(m:List (α×Int)):(C.im m).length=m.length:=by simp[oO.im,oO.es]
theorem oO.Bj(m:List (α×Int))(j:Nat):(C.im m)[j]? = (m[j]?).map fun e=>(C.pv e.1,.int .i64 e.2):=by simp[oO.im,oO.es,a4T];rfl
theorem zX{Y:kX}(m:List (α×Int)):((m.map fun e=>(e.1,(PV.int .i64 e.2:PV Y.Γ))).map (·.1))=m.map (·.1):=by simp
theorem ags{m:List (α×Int)}{j:Nat}{f:Int->Int}{v:Int}(h:∀e,m[j]? = some e->f e.2=v):Jl (C.im m) j (.int .i64 v)=C.im (m.modify j fun e=>(e.1,f e.2)):=by
 unfold Jl;refine aa3 fun i=>?_;rw[aes,C.Bj,C.Bj,aes];by_cases e:j=i
 .subst e;cases h2:m[j]? with
  |none=>simp[h2]
  |some x=>simp[h2,h x h2]
 simp[e]
theorem agt{m:List (α×Int)}{x:α}{z v:Int}:Jl (C.im m++[(C.pv x,.int .i64 z)]) (C.im m).length (.int .i64 v)=C.im (m++[(x,v)]):=by
 have:C.im (m++[(x,v)])=C.im m++[(C.pv x,.int .i64 v)]:=by simp[oO.im,oO.es]
 rw[this];unfold Jl;generalize C.im m=l;refine aa3 fun i=>?_;rw[aes];rcases Nat.lt_trichotomy i l.length with h|h|h
 .rw[a0C h,a0C h];simp[show ¬l.length=i by omega]
 .subst h;simp
 rw[a4L (by simp;omega),a4L (by simp;omega)];rfl
theorem oO.VI{m:List (α×Int)}{k:α}{n:Int}(hb:Instr.sameBits 10000 (C.v k) (C.v k)=true)(hn:(m.map (·.1)).Nodup)(h:k∈m.map (·.1))(hw:∀e∈m,i64.wrap (e.2+n)=e.2+n) :
  ∃j old,qC X P kt (C.im m) (C.tv k) (.int .i64 old)∧a6p X P kt (C.im m) (C.tv k) (C.pv k) (.int .i64 old) j∧j<(C.im m).length∧Jl (C.im m) j (.int .i64 (i64.wrap (old+n)))=C.im (bP.sG m k n):=by
 have aT:=a5a.2 h;have a6z:(m.map (·.1)).idxOf k<m.length:=by simpa using aT
 have hk:m[(m.map (·.1)).idxOf k]? = some (k,m[(m.map (·.1)).idxOf k].2):=by rw[a0q a6z];have:=a9i aT;rw[a9s]at this;exact congrArg some (adu this rfl)
 have a2Q:(k,m[(m.map (·.1)).idxOf k].2)∈m:=a4X hk;refine⟨(m.map (·.1)).idxOf k,m[(m.map (·.1)).idxOf k].2,C.found (by rw[zX];exact hn) (a0V.2 ⟨_,a2Q,rfl⟩),C.ale hb (by rw[zX];exact hn) (by rw[a4T,hk];rfl),by rw[C.pO];exact a6z,?_⟩;rw[hw _ a2Q];unfold bP.sG;rw[a0F h];exact ags C (f:=fun x=>x+n) fun e he=>by rw[hk]at he;cases he;rfl
theorem oO.VJ{m:List (α×Int)}{k:α}{n:Int}(h:k∉m.map (·.1))(hw:i64.wrap (0+n)=n) :
  nY X P kt (C.im m) (C.tv k)∧aeP X P kt (C.im m++[(C.pv k,(PV.int .i64 0:PV X.Γ))]) (C.tv k) (C.im m).length∧(C.im m).length<(C.im m++[(C.pv k,(PV.int .i64 0:PV X.Γ))]).length∧Jl (C.im m++[(C.pv k,.int .i64 0)]) (C.im m).length (.int .i64 (i64.wrap (0+n)))=C.im (bP.sG m k n):=by
 refine⟨C.fresh (by rw[zX];exact h),?_,by simp,?_⟩
 .have:=C.newP (l:=m.map fun e=>(e.1,(PV.int .i64 e.2:PV X.Γ))) (x:=k) (v:=.int .i64 0) (by rw[zX];exact h);rw[C.pO];simpa[oO.im,oO.es]using this
 rw[hw,agt];unfold bP.sG;rw[a0E h]
end
end Pv
namespace Go.Proofs.YtmobpoiejckagaaGreat
open Go Tw Pv bP
abbrev wSk(H:List (PB aG))(s:S3)(r:Int)(x:List (Nat×PE aG)):aU aG:=⟨[(1,xi r),(2,.val (.ptr 2 0 5)),(3,.val (.ptr 1 0 5)),(4,.val (.ptr 3 0 1)),(5,.val (.ptr 4 0 1)),(6,.loc 0 0)]++x,[s.ps],H⟩
def Ri(D:List Dg)(t:S3):LI0->Nat
 | []=>0
 |c::r=>if jY D t c=true then 0 else Ri D t r+1
def Rj(J:Jb)(t:S3)(i:Int):Int⊕Int:=if decide (i<(J.o.length:Int))=true then(if(!(jY J.D t (J.o.getD i.toNat 0)))=true then .inl (i64.wrap (i+1))else .inr i)else .inr i
theorem a8v{J:Jb}(hJ:kC J)(t:S3):∀(r:LI0) (a:Nat),J.o.drop a=r->a<=J.o.length->itF (Rj J t) (r.length+1) (a:Int)=some ((a+Ri J.D t r:Nat):Int)
 | [],a,hr,ha=>by
  have:a=J.o.length:=by have:=congrArg List.length hr;rw[a4l,a5s]at this;omega
  have e:Rj J t (a:Int)=.inr (a:Int):=by unfold Rj;rw[a0E (by simp;omega)]
  rw[a5s,itF,e];rfl
 |c::r,a,hr,ha=>by
  obtain⟨aT,hoc,wK,_⟩:=kC.at_ hJ hr;have hl:=hJ.cu.len;have QL:=(kC.o2 hJ).2.1;have e:Rj J t (a:Int)=if(!(jY J.D t c))=true then .inl (i64.wrap ((a:Int)+1))else .inr (a:Int):=by unfold Rj;rw[a0F (by simp;omega),a5p,hoc]
  rw[a4K,itF,e];cases h:jY J.D t c
  .simp only[aaT,a2u];have ew:i64.wrap ((a:Int)+1)=((a+1:Nat):Int):=by rw[fK (by omega) (by omega)];omega
   have:=a8v hJ t r (a+1) wK aT;simp only[ew,Ri,h];rw[this];simp;omega
  simp[Ri,h]
theorem aqf{M f:Nat}{J:Jb}(hJ:kC J){t:S3}{x:Mk}(r:LI0){a:Nat}(hr:J.o.drop a=r)(ha:a<=J.o.length)(hd:Dp J a t):Nk (M+1) 126 0 7 (wSk (HM0 J f x) t a []) (.exit 0) (wSk (HM0 J f x) t ((a+Ri J.D t r:Nat):Int) [(32,xl false)]):=by
 have QN:=a8v hJ t r a hr ha;have QL:=(kC.o2 hJ).2.1;have hl:=hJ.cu.len;refine a0c (st:=fun i=>wSk (HM0 J f x) t i []) (g:=Rj J t) (out:=fun i=>(.exit 0,wSk (HM0 J f x) t i [(32,xl false)])) (fun i=>0<=i∧i<=J.o.length) QN (by kernel_rfl) (by have:=congrArg List.length hr;rw[a4l]at this;unfold LL;omega) ⟨by omega,by omega⟩ ?_ ?_
 .intro i i1 hi e;unfold Rj at e;split at e
  .rename_i c;have c:i<(J.o.length:Int):=(by simpa using c);split at e
   .cases e;rw[fK (by omega) (by omega)];omega
   cases e
  cases e
 intro i m i' hi ih;have hs:=a8l (M:=M) (f:=f) (a:=[]) (cc:=[]) (H:=[]) J t (J.o.getD i.toNat 0) hJ.d3 (fun k hk h=>⟨by simpa using h,(hd k hk).1.1⟩);by_cases c:i<(J.o.length:Int)
 .have t1:decide (i<(J.o.length:Int))=true:=by simpa using c
  have i1:gu i J.o.length:=⟨hi.1,c⟩;cases hq:jY J.D t (J.o.getD i.toNat 0)
  .have e:Rj J t i=.inl (i64.wrap (i+1)):=by unfold Rj;rw[a0F t1,hq];rfl
   rw[hq]at hs;have g:=ih _ e;rw[e];exact aN gG (.b t1 (.o i1 (.fr [] hs (.b (rfl:(!false)=true) (.go g)))))
  have e:Rj J t i=.inr i:=by unfold Rj;rw[a0F t1,hq];rfl
  rw[hq]at hs;rw[e];dsimp only[Dn];exact aN gG (.b t1 (.o i1 (.fr [] hs (.b (rfl:(!true)=false) .ex))))
 have t1:decide (i<(J.o.length:Int))=false:=by simpa using c
 have e:Rj J t i=.inr i:=by unfold Rj;rw[a0E (by rw[t1];simp)]
 rw[e];dsimp only[Dn];exact aN gG (.b t1 .ex)
theorem aqg{M f:Nat}(u:Int){J:Jb}(hJ:kC J){t:S3}{x:Mk}(r:LI0){a:Nat}(hr:J.o.drop a=r)(ha:a<=J.o.length)(hd:Dp J a t):Nk (M+1) 126 0 8 (wSk (HM1 J f u x) t a []) (.exit 0) (wSk (HM1 J f u x) t ((a+Ri J.D t r:Nat):Int) [(32,xl false)]):=by
 have QN:=a8v hJ t r a hr ha;have QL:=(kC.o2 hJ).2.1;have hl:=hJ.cu.len;refine a0c (st:=fun i=>wSk (HM1 J f u x) t i []) (g:=Rj J t) (out:=fun i=>(.exit 0,wSk (HM1 J f u x) t i [(32,xl false)])) (fun i=>0<=i∧i<=J.o.length) QN (by kernel_rfl) (by have:=congrArg List.length hr;rw[a4l]at this;unfold LL;omega) ⟨by omega,by omega⟩ ?_ ?_
 .intro i i1 hi e;unfold Rj at e;split at e
  .rename_i c;have c:i<(J.o.length:Int):=(by simpa using c);split at e
   .cases e;rw[fK (by omega) (by omega)];omega
   cases e
  cases e
 intro i m i' hi ih;have hs:=a8l (M:=M) (f:=f) (a:=[]) (cc:=[.ptr 0 0 1]) (H:=[.aF [.int .u8 u]]) J t (J.o.getD i.toNat 0) hJ.d3 (fun k hk h=>⟨by simpa using h,(hd k hk).1.1⟩);by_cases c:i<(J.o.length:Int)
 .have t1:decide (i<(J.o.length:Int))=true:=by simpa using c
  have i1:gu i J.o.length:=⟨hi.1,c⟩;cases hq:jY J.D t (J.o.getD i.toNat 0)
  .have e:Rj J t i=.inl (i64.wrap (i+1)):=by unfold Rj;rw[a0F t1,hq];rfl
   rw[hq]at hs;have g:=ih _ e;rw[e];exact aN gG (.b t1 (.o i1 (.fr [5] hs (.b (rfl:(!false)=true) (.go g)))))
  have e:Rj J t i=.inr i:=by unfold Rj;rw[a0F t1,hq];rfl
  rw[hq]at hs;rw[e];dsimp only[Dn];exact aN gG (.b t1 (.o i1 (.fr [5] hs (.b (rfl:(!true)=false) .ex))))
 have t1:decide (i<(J.o.length:Int))=false:=by simpa using c
 have e:Rj J t i=.inr i:=by unfold Rj;rw[a0E (by rw[t1];simp)]
 rw[e];dsimp only[Dn];exact aN gG (.b t1 .ex)
open Go Tw Pv bP
theorem VK{J:Jb}(hJ:kC J){op:List V->V}{x:Mk}:∀(r:LI0) (a:Nat) (t:S3),J.o.drop a=r->a<=J.o.length->Dp J a t->jP J op r t x=jP J op (r.drop (Ri J.D t r)) t x∧a+Ri J.D t r<=J.o.length∧Dp J (a+Ri J.D t r) t∧∀c r',r.drop (Ri J.D t r)=c::r'->jY J.D t c=true
 | [],a,t,hr,ha,hd=>⟨rfl,ha,hd,fun _ _ h=>by cases h⟩
 |c::r,a,t,hr,ha,hd=>by
  obtain⟨aT,hoc,wK,_⟩:=kC.at_ hJ hr;cases h:jY J.D t c
  .obtain⟨q1,q2,q3,q4⟩:=VK hJ (op:=op) (x:=x) r (a+1) t wK aT (VD hJ hr hd h);have e:Ri J.D t (c::r)=Ri J.D t r+1:=(by simp[Ri,h]);rw[e];refine⟨?_,by omega,by rw[show a+(Ri J.D t r+1)=a+1+Ri J.D t r by omega];exact q3,q4⟩;rw[List.drop_succ_cons,<-q1]
   conv=>lhs;unfold jP
   rw[a0E (by rw[h];simp)]
  have e:Ri J.D t (c::r)=0:=by simp[Ri,h]
  rw[e];exact⟨rfl,ha,hd,fun c' r' h2=>by cases h2;exact h⟩
theorem VL{J:Jb}(hJ:kC J):∀(r:LI0) (n:Nat),(∀c∈r,gu c J.s.length)->wO J.s (r.drop n)<=wO J.s r
 | [],n,_=>by simp
 |c::r,0,_=>a0P _
 |c::r,n+1,h=>by have h1:=VL hJ r n fun c hc=>h c (by simp[hc]);have hi:=h c (by simp);have hz:=hJ.cu.sz _ (dB (s:=J.s) (k:=c.toNat) (by have:=hi.1;have:=hi.2;omega));have:wO J.s r<=(J.s.getD c.toNat 0).toNat*wO J.s r:=aei _ (by omega);rw[List.drop_succ_cons];simp only[wO];omega
abbrev abo(J:Jb)(f:Nat)(t:S3)(c:Int)(a:Int)(m:Mk)(ks:LI0)(i:Int)(y:List (Nat×PE aG)):aU aG:=⟨[(1,xi a),(2,.val (.ptr 2 0 5)),(3,.val (.ptr 1 0 5)),(4,.val (.ptr 3 0 1)),(5,.val (.ptr 4 0 1)),(6,.loc 0 0),(9,xi c),(13,.loc 1 0),(93,xi (J.s.getD c.toNat 0)),(94,xi i)]++y,[t.ps,[.int .i64 c,.own 9]],abh J f m++[oI false false ks]⟩
theorem aqh{M f:Nat}{J:Jb}(hJ:kC J){op:List V->V}{r:LI0}{t:S3}{c a:Int}(x:Mk)(hc:gu c J.s.length)(Q:Nat->Mk->Prop)(h0:Q 0 x)(hq:∀j y,j<(J.s.getD c.toNat 0).toNat->Q j y->Q (j+1) (jP J op r (bM J.D t c j) y).2)
  (hk:∀j:Nat,j<(J.s.getD c.toNat 0).toNat->∀k,k<J.D.length->a2r (lC J.D k) (t.get k) c j)
  (hf:∀(j:Nat) y,j<(J.s.getD c.toNat 0).toNat->Q j y->dG X0 Qp (iE (M+1)) (.fn 126 [] pM) [.agg (bM J.D t c j).ps,.int .i64 (i64.wrap (a+1))] (HM0 J f y) (.int .i64 (jP J op r (bM J.D t c j) y).1) (abh J f (jP J op r (bM J.D t c j) y).2)) :
  Nk (M+1) 126 1 7 (abo J f t c a x [] 0 []) (.exit 2) (abo J f t c a (aS (VB J.D (jP J op r) t c) (J.s.getD c.toNat 0).toNat 0 ([],x)).2 (aS (VB J.D (jP J op r) t c) (J.s.getD c.toNat 0).toNat 0 ([],x)).1 (((J.s.getD c.toNat 0).toNat:Nat):Int) [(95,xl false)]):=by
 have hz:=hJ.cu.sz _ (dB (s:=J.s) (k:=c.toNat) (by have:=hc.1;have:=hc.2;omega));refine wY (σ:=LI0×Mk) (N:=(J.s.getD c.toNat 0).toNat) (g:=VB J.D (jP J op r) t c) (s0:=([],x)) (st:=fun i y=>abo J f t c a y.2 y.1 i []) (fin:=fun y=>abo J f t c a y.2 y.1 (((J.s.getD c.toNat 0).toNat:Nat):Int) [(95,xl false)]) (fun j y=>y.1.length=j∧Q j y.2) (by kernel_rfl) (by unfold ah;omega) ⟨rfl,h0⟩ (fun j y hj hy=>⟨by simp[VB,hy.1],hq j y.2 hj hy.2⟩) (fun j y hj hy m e p g=>?_) (fun y _=>?_)
 .have h1:=hf j y.2 hj hy.2;have ha:=JQ (M:=M) (f:=f) (a:=[]) (cc:=[]) (H:=[]) J t c j hJ.d3 (hk j hj);have t1:decide ((j:Int)<J.s.getD c.toNat 0)=true:=by rw[a1z];omega
  have h3:=hy.1;unfold VB at g;generalize jP J op r (bM J.D t c j) y.2=z at h1 g;obtain⟨v,z⟩:=z;exact aN gG (.b t1 (.fr [] ha (.fr [0,1,2,3,4,7,8] h1 (.o (show y.1.length+[v].length<=ah by simp only[a4H];unfold ah;omega) (.goG [.gc [10,11,13]] g)))))
 .have t1:decide ((((J.s.getD c.toNat 0).toNat:Nat):Int)<J.s.getD c.toNat 0)=false:=by rw[a3b];omega
  exact aN gG (.b t1 .ex)
open Go Tw Pv bP
theorem Yr{k:List (S3×Int)}{t:S3}(hn:(k.map (·.1)).Nodup)(h:t∈k.map (·.1)):qC X0 Qp 148 (IB k) (.agg [.int .i64 t.a,.int .i64 t.b,.int .i64 t.c]) (.int .i64 (knS k t)):=by
 refine kS.found (x:=t) (by rw[a6B];exact hn) ?_;obtain⟨e,he,rfl⟩:=a0V.1 h;refine a0V.2 ⟨e,he,?_⟩;have:knS k e.1=e.2:=by
  have:k.find? (fun y=>decide (y.1=e.1))=some e:=by
   clear h
   induction k with
   |nil=>cases he
   |cons y l ih=>
    rw[a4M,a4U]at hn;rw[ahA];rcases a1Y.1 he with rfl|he
    .simp
    have:¬y.1=e.1:=fun h=>hn.1 (a0V.2 ⟨e,he,h.symm⟩);rw[aeJ this];exact ih hn.2 he
  unfold knS;rw[this];rfl
 rw[this]
abbrev agu(J:Jb)(op:List V->V)(f:Nat)(m:Nat)(r:LI0):Prop:=∀(a:Nat) (t:S3) (x:Mk),J.o.drop a=r->a<=J.o.length->Dp J a t->XOk J op x->x.e.length+wO J.s r<=ah->x.n.length+wO J.s r<=ah ->
  dG X0 Qp (iE m) (.fn 126 [] pM) [.agg t.ps,.int .i64 (a:Int)] (HM0 J f x) (.int .i64 (jP J op r t x).1) (abh J f (jP J op r t x).2)
abbrev agv(J:Jb)(f:Nat)(x:Mk)(v:V):List (PB aG):=[.map (IB x.k),.cells [lI J.s,lI J.o,.own 8,.own 6,.int .i64 0],.aF (J.ps (.fn f [] [])),.aF [.fn 126 [] pM],.aF [.map 0],.gone,QF x.n,.list true true 39 [v],QE (x.e++[v])]
abbrev alf(J:Jb)(f:Nat)(x:Mk)(t:S3)(b:Br):List (PB aG):=[.map (IB x.k++[(.agg t.ps,.int .i64 (x.n.length:Int))]),.cells [lI J.s,lI J.o,.own 7,.own 11,.int .i64 0],.aF (J.ps (.fn f [] [])),.aF [.fn 126 [] pM],.aF [.map 0],.gone,.gone,QE x.e,.gone,.gone,.list true true 105 [b],QF (x.n++[b])]
theorem ae3{N f:Nat}{J:Jb}(hJ:kC J){op:List V->V}(kW:xu J op)(hs:∀l:List V,l.length=J.D.length->dG X0 Qp (iE (N+1)) (.fn f [] []) [lV l] [] (.agg (op l).ps) [])(r:LI0)(rec:∀c r',c::r' <:+ r->agu J op f (N+1) r'):agu J op f (N+2) r:=by
 intro a t x hr ha hd hx CU yg;unfold ah at CU yg;have QL:=(kC.o2 hJ).2.1;have hl6:=hJ.cu.len;have lsk:=aqf (M:=N) (f:=f) hJ (x:=x) r hr ha hd;obtain⟨q1,q2,q3,q4⟩:=VK hJ (op:=op) (x:=x) r a t hr ha hd;have hw:=VL hJ r (Ri J.D t r) (fun c hc=>(kC.o2 hJ).2.2 c (a5Z (by rw[hr];exact hc)));rw[q1];generalize Ri J.D t r=n at lsk q1 q2 q3 q4 hw;have GH:J.o.drop (a+n)=r.drop n:=by rw[<-hr,agp]
 have a8w:r.drop n <:+ r:=List.drop_suffix _ _;have H6:=congrArg List.length GH;rw[a4l]at H6;clear q1 hr;generalize a+n=i at lsk q2 q3 GH H6;generalize r.drop n=r0 at q4 hw GH a8w H6;cases r0 with
 |nil=>
  have e0:i=J.o.length:=by rw[a5s]at H6;omega
  have t0:((i:Int)==(J.o.length:Int))=true:=by rw[e0];simp
  rw[e0]at q3;have pV:(aV J.D t).length=J.D.length:=by simp[aV]
  have hce:=a2s (M:=N) (f:=f) J t hJ.d3 (fun k hk=>(JV hJ q3 hk).2);have hv:=hs (aV J.D t) pV;simp only[wO]at hw;have hb:x.e.length+[op (aV J.D t)].length<=ah:=by simp only[a4H];unfold ah;omega
  have h1:dG X0 Qp (iE (N+2)) (.fn 126 [] pM) [.agg t.ps,.int .i64 (a:Int)] (HM0 J f x) (.int .i64 (i64.wrap (0-((x.e++[op (aV J.D t)]).length:Int)))) (agv J f x (op (aV J.D t))):=
   fA gG (first:=[]) (cap:=pM) (.w lsk (.b t0 (.fr [] hce (.fr [] hv (.o hb .er)))))
  exact dG.gs hX h1 [.mv 6,.gc [8,9]] (by kernel_rfl)
 |cons c r'=>
  have t0:((i:Int)==(J.o.length:Int))=false:=by rw[a4K]at H6;simp;omega
  obtain⟨aT,hoc,wK,Gf,hci,qF⟩:=kC.at_ hJ GH;have Bf:=q4 c r' rfl;have rc:=rec c r' a8w;have ia:gu (i:Int) J.o.length:=⟨by omega,by omega⟩;have Ko:J.o.getD (i:Int).toNat 0=c:=by rw[a5p];exact hoc
  have ig:gu (J.o.getD (i:Int).toNat 0) J.g.length:=by rw[Ko,hJ.gl];exact qF
  have hz:=hJ.cu.sz _ (dB (s:=J.s) (k:=c.toNat) (by have:=qF.1;have:=qF.2;omega));have hri:∀c'∈r',gu c' J.s.length:=fun c' h=>(kC.o2 hJ).2.2 c' (by rw[<-wK]at h;exact a5Z h);have hw0:=Vz hJ.cu.sz hri;have hw1:wO J.s r'<=(J.s.getD c.toNat 0).toNat*wO J.s r':=aei _ (by omega);have ew:i64.wrap ((i:Int)+1)=((i+1:Nat):Int):=by rw[fK (by omega) (by omega)];omega
  simp only[wO]at hw;unfold jP;rw[a0F Bf];cases tg:decide (J.g.getD c.toNat 0>=0)
  .rw[a0E (by simp)];have tg':decide (J.g.getD (J.o.getD (i:Int).toNat 0).toNat 0>=0)=false:=by rw[Ko];exact tg
   by_cases hk:t∈x.k.map (·.1)
   .rw[a0F hk];have hF:qC X0 Qp 148 (IB x.k) (.agg [.int .i64 t.a,.int .i64 t.b,.int .i64 t.c]) (.int .i64 (knS x.k t)):=Yr hx.nd hk;have h1:dG X0 Qp (iE (N+2)) (.fn 126 [] pM) [.agg t.ps,.int .i64 (a:Int)] (HM0 J f x) (.int .i64 (knS x.k t)) (HM0 J f x):=
     fA gG (first:=[]) (cap:=pM) (.w lsk (.b t0 (.o ia (.o ig (.b tg' (.c (.int .i64 (knS x.k t)) [] hF (.b (rfl:true=true) .er)))))))
    exact dG.gs hX h1 [.mv 5,.mv 6] (by kernel_rfl)
   rw[a0E hk];have hm2:=VE hJ GH q3 Bf;have hF:nY X0 Qp 148 (IB x.k) (.agg [.int .i64 t.a,.int .i64 t.b,.int .i64 t.c]):=kS.fresh (x:=t) (by simpa using hk);have is:gu (J.o.getD (i:Int).toNat 0) J.s.length:=by rw[Ko];exact qF
   have YO:∀j,j<(J.s.getD c.toNat 0).toNat->j*wO J.s r'+wO J.s r'<=(J.s.getD c.toNat 0).toNat*wO J.s r':=fun j hj=>by have:(j+1)*wO J.s r'<=(J.s.getD c.toNat 0).toNat*wO J.s r':=a3V _ hj;rw[a3U]at this;omega
   let Q:Nat->Mk->Prop:=fun j y=>XOk J op y∧y.e.length<=x.e.length+j*wO J.s r'∧y.n.length+j<=x.n.length+j*wO J.s r'∧∀e∈y.k,e∈x.k∨Dp J (i+1) e.1
   have hq:∀j y,j<(J.s.getD c.toNat 0).toNat->Q j y->Q (j+1) (jP J op r' (bM J.D t c j) y).2:=fun j y hj hy=>by
    obtain⟨y1,y2,y3,y4⟩:=hy;have YO:=YO j hj;have h:=U3 hJ op kW r' (i+1) (bM J.D t c j) y wK aT (ni hJ GH q3 ⟨by omega,by omega⟩) y1 (by omega) (by omega);have h3:=h.el;have h4:=h.nl;refine⟨h.ok,by rw[a3U];omega,by rw[a3U];omega,fun e he=>?_⟩;rcases h.ks e he with h5|h5
    .exact y4 e h5
    exact .inr h5
   have lp:=aqh (M:=N) (f:=f) hJ (op:=op) (r:=r') (t:=t) (c:=c) (a:=(i:Int)) x qF Q ⟨hx,by simp,by simp,fun e he=>.inl he⟩ hq (fun j hj k hk=>JU hJ q3 ⟨by omega,by omega⟩ hk) (fun j y hj hy=>by obtain⟨y1,y2,y3,y4⟩:=hy;have YO:=YO j hj;rw[ew];exact rc (i+1) (bM J.D t c j) y wK aT (ni hJ GH q3 ⟨by omega,by omega⟩) y1 (by unfold ah;omega) (by unfold ah;omega))
   have inv:=cO (g:=VB J.D (jP J op r') t c) (m:=(J.s.getD c.toNat 0).toNat) (k:=0) (s:=([],x)) (fun j y=>Q j y.2) ⟨hx,by simp,by simp,fun e he=>.inl he⟩ (fun j y _ hj hy=>hq j y.2 (by omega) hy);rw[a3W]at inv;simp only[];generalize aS (VB J.D (jP J op r') t c) (J.s.getD c.toNat 0).toNat 0 ([],x)=y at lp inv;obtain⟨ks,m⟩:=y;obtain⟨y1,y2,y3,y4⟩:=inv;have hnk:t∉m.k.map (·.1):=fun h=>by
    obtain⟨e,he,e2⟩:=a0V.1 h;rcases y4 e he with h1|h1
    .exact hk (a0V.2 ⟨e,h1,e2⟩)
    rw[e2]at h1;exact a0n hJ GH Bf h1
   have hF2:nY X0 Qp 148 (IB m.k) (.agg [.int .i64 t.a,.int .i64 t.b,.int .i64 t.c]):=kS.fresh (x:=t) (by simpa using hnk);have ek:IB m.k++[(.agg t.ps,.int .i64 (m.n.length:Int))]=IB (m.k++[(t,(m.n.length:Int))]):=by unfold IB oO.es;rw[a4J,a4J];rfl
   have hF3:qC X0 Qp 148 (IB m.k++[(.agg t.ps,.int .i64 (m.n.length:Int))]) (.agg [.int .i64 t.a,.int .i64 t.b,.int .i64 t.c]) (.int .i64 (m.n.length:Int)):=by
    refine(congrArg (fun l:List (PV aG×PV aG)=>qC X0 Qp 148 l (.agg [.int .i64 t.a,.int .i64 t.b,.int .i64 t.c]) (.int .i64 (m.n.length:Int))) ek).mpr ?_;refine kS.found (x:=t) ?_ ?_
    .rw[a6B,show((fun e:S3×PV X0.Γ=>e.1)∘fun e:S3×Int=>(e.1,(PV.int .i64 e.2:PV X0.Γ)))=fun e=>e.1 from rfl,a4J];exact DV y1.nd hnk
    simp
   have hb:m.n.length+[(⟨c,ks⟩:Br)].length<=ah:=by simp only[a4H];have y3:m.n.length+(J.s.getD c.toNat 0).toNat<=x.n.length+(J.s.getD c.toNat 0).toNat*wO J.s r':=y3;unfold ah;omega
   have h1:dG X0 Qp (iE (N+2)) (.fn 126 [] pM) [.agg t.ps,.int .i64 (a:Int)] (HM0 J f x) (.int .i64 (m.n.length:Int)) (alf J f m t ⟨c,ks⟩):=by subst Ko;exact fA gG (first:=[]) (cap:=pM) (.w lsk (.b t0 (.o ia (.o ig (.b tg' (.q (.bool false) hF (.b (rfl:false=false) (.o is (.wG [.mv 5,.mv 6,.a3o 1 1 3] lp (.q (.bool false) (kS.ck t) (.o hF2 (.o hb (.c (.int .i64 (m.n.length:Int)) [] hF3 .er)))))))))))))
   have h2:=dG.gs hX h1 [.gc [7,11]] (v':=.int .i64 (m.n.length:Int)) (H2:=[.map (IB m.k++[(.agg t.ps,.int .i64 (m.n.length:Int))]),.cells [lI J.s,lI J.o,.own 7,.own 8,.int .i64 0],.aF (J.ps (.fn f [] [])),.aF [.fn 126 [] pM],.aF [.map 0],.gone,.gone,QE m.e,QF (m.n++[⟨c,ks⟩])]) (by kernel_rfl);exact(congrArg (fun l:List (PV aG×PV aG)=>dG X0 Qp (iE (N+2)) (.fn 126 [] pM) [.agg t.ps,.int .i64 (a:Int)] (HM0 J f x) (.int .i64 (m.n.length:Int)) [.map l,.cells [lI J.s,lI J.o,.own 7,.own 8,.int .i64 0],.aF (J.ps (.fn f [] [])),.aF [.fn 126 [] pM],.aF [.map 0],.gone,.gone,QE m.e,QF (m.n++[⟨c,ks⟩])]) ek).mp h2
  rw[a0F rfl];have tg':decide (J.g.getD (J.o.getD (i:Int).toNat 0).toNat 0>=0)=true:=by rw[Ko];exact tg
  have hg:0<=J.g.getD c.toNat 0:=by simpa using tg
  have haf:=JQ (M:=N) (f:=f) (a:=[]) (cc:=[]) (H:=[]) J t c (J.g.getD c.toNat 0) hJ.d3 (fun k hk=>JU hJ q3 ⟨hg,hJ.gv c qF hg⟩ hk);have h2:=rc (i+1) (bM J.D t c (J.g.getD c.toNat 0)) x wK aT (ni hJ GH q3 ⟨hg,hJ.gv c qF hg⟩) hx (by unfold ah;omega) (by unfold ah;omega);rw[<-ew]at h2;subst Ko;exact fA gG (first:=[]) (cap:=pM) (.w lsk (.b t0 (.o ia (.o ig (.b tg' (.fr [] haf (.fr [0,1,2,3,4,5,6] h2 .er)))))))
theorem aql{N f:Nat}{J:Jb}(hJ:kC J){op:List V->V}(kW:xu J op)(hs:∀m,N<=m->∀l:List V,l.length=J.D.length->dG X0 Qp (iE m) (.fn f [] []) [lV l] [] (.agg (op l).ps) []):∀(F:Nat) (r:LI0),r.length<=F->agu J op f (N+F+2) r:=by
 intro F
 induction F with
 |zero=>
  intro r hF;refine ae3 hJ kW (hs _ (by omega)) r fun c r' h=>?_;have:=h.length_le;rw[a4K]at this;omega
 |succ F ih=>
  intro r hF;refine ae3 (N:=N+F+1) hJ kW (hs _ (by omega)) r fun c r' h=>ih r' ?_;have:=h.length_le;rw[a4K]at this;omega
open Go Tw Pv bP
abbrev abq(J:Jb)(f:Nat)(u:Int)(t:S3)(c:Int)(a:Int)(m:Mk)(ks:LI0)(i:Int)(y:List (Nat×PE aG)):aU aG:=⟨[(1,xi a),(2,.val (.ptr 2 0 5)),(3,.val (.ptr 1 0 5)),(4,.val (.ptr 3 0 1)),(5,.val (.ptr 4 0 1)),(6,.loc 0 0),(9,xi c),(13,.loc 1 0),(93,xi (J.s.getD c.toNat 0)),(94,xi i)]++y,[t.ps,[.int .i64 c,.own 10]],abj J f u m++[oI false false ks]⟩
theorem aqm{M f:Nat}{u:Int}{J:Jb}(hJ:kC J){op:List V->V}{r:LI0}{t:S3}{c a:Int}(x:Mk)(hc:gu c J.s.length)(Q:Nat->Mk->Prop)(h0:Q 0 x)(hq:∀j y,j<(J.s.getD c.toNat 0).toNat->Q j y->Q (j+1) (jP J op r (bM J.D t c j) y).2)
  (hk:∀j:Nat,j<(J.s.getD c.toNat 0).toNat->∀k,k<J.D.length->a2r (lC J.D k) (t.get k) c j)
  (hf:∀(j:Nat) y,j<(J.s.getD c.toNat 0).toNat->Q j y->dG X0 Qp (iE (M+1)) (.fn 126 [] pM) [.agg (bM J.D t c j).ps,.int .i64 (i64.wrap (a+1))] (HM1 J f u y) (.int .i64 (jP J op r (bM J.D t c j) y).1) (abj J f u (jP J op r (bM J.D t c j) y).2)) :
  Nk (M+1) 126 1 8 (abq J f u t c a x [] 0 []) (.exit 2) (abq J f u t c a (aS (VB J.D (jP J op r) t c) (J.s.getD c.toNat 0).toNat 0 ([],x)).2 (aS (VB J.D (jP J op r) t c) (J.s.getD c.toNat 0).toNat 0 ([],x)).1 (((J.s.getD c.toNat 0).toNat:Nat):Int) [(95,xl false)]):=by
 have hz:=hJ.cu.sz _ (dB (s:=J.s) (k:=c.toNat) (by have:=hc.1;have:=hc.2;omega));refine wY (σ:=LI0×Mk) (N:=(J.s.getD c.toNat 0).toNat) (g:=VB J.D (jP J op r) t c) (s0:=([],x)) (st:=fun i y=>abq J f u t c a y.2 y.1 i []) (fin:=fun y=>abq J f u t c a y.2 y.1 (((J.s.getD c.toNat 0).toNat:Nat):Int) [(95,xl false)]) (fun j y=>y.1.length=j∧Q j y.2) (by kernel_rfl) (by unfold ah;omega) ⟨rfl,h0⟩ (fun j y hj hy=>⟨by simp[VB,hy.1],hq j y.2 hj hy.2⟩) (fun j y hj hy m e p g=>?_) (fun y _=>?_)
 .have h1:=hf j y.2 hj hy.2;have ha:=JQ (M:=M) (f:=f) (a:=[]) (cc:=[.ptr 0 0 1]) (H:=[.aF [.int .u8 u]]) J t c j hJ.d3 (hk j hj);have t1:decide ((j:Int)<J.s.getD c.toNat 0)=true:=by rw[a1z];omega
  have h3:=hy.1;unfold VB at g;generalize jP J op r (bM J.D t c j) y.2=z at h1 g;obtain⟨v,z⟩:=z;exact aN gG (.b t1 (.fr [5] ha (.fr [0,1,2,3,4,5,8,9] h1 (.o (show y.1.length+[v].length<=ah by simp only[a4H];unfold ah;omega) (.goG [.gc [11,12,14]] g)))))
 .have t1:decide ((((J.s.getD c.toNat 0).toNat:Nat):Int)<J.s.getD c.toNat 0)=false:=by rw[a3b];omega
  exact aN gG (.b t1 .ex)
abbrev agw(J:Jb)(op:List V->V)(f:Nat)(u:Int)(m:Nat)(r:LI0):Prop:=∀(a:Nat) (t:S3) (x:Mk),J.o.drop a=r->a<=J.o.length->Dp J a t->XOk J op x->x.e.length+wO J.s r<=ah->x.n.length+wO J.s r<=ah ->
  dG X0 Qp (iE m) (.fn 126 [] pM) [.agg t.ps,.int .i64 (a:Int)] (HM1 J f u x) (.int .i64 (jP J op r t x).1) (abj J f u (jP J op r t x).2)
abbrev agx(J:Jb)(f:Nat)(u:Int)(x:Mk)(v:V):List (PB aG):=[.map (IB x.k),.cells [lI J.s,lI J.o,.own 9,.own 7,.int .i64 0],.aF (J.ps (.fn f [] [.ptr 5 0 1])),.aF [.fn 126 [] pM],.aF [.map 0],.aF [.int .u8 u],.gone,QF x.n,.list true true 39 [v],QE (x.e++[v])]
abbrev alh(J:Jb)(f:Nat)(u:Int)(x:Mk)(t:S3)(b:Br):List (PB aG):=[.map (IB x.k++[(.agg t.ps,.int .i64 (x.n.length:Int))]),.cells [lI J.s,lI J.o,.own 8,.own 12,.int .i64 0],.aF (J.ps (.fn f [] [.ptr 5 0 1])),.aF [.fn 126 [] pM],.aF [.map 0],.aF [.int .u8 u],.gone,.gone,QE x.e,.gone,.gone,.list true true 105 [b],QF (x.n++[b])]
theorem ae4{N f:Nat}(u:Int){J:Jb}(hJ:kC J){op:List V->V}(kW:xu J op)(hs:∀l:List V,l.length=J.D.length->dG X0 Qp (iE (N+1)) (.fn f [] [.ptr 0 0 1]) [lV l] [.aF [.int .u8 u]] (.agg (op l).ps) [.aF [.int .u8 u]])(r:LI0)(rec:∀c r',c::r' <:+ r->agw J op f u (N+1) r'):agw J op f u (N+2) r:=by
 intro a t x hr ha hd hx CU yg;unfold ah at CU yg;have QL:=(kC.o2 hJ).2.1;have hl6:=hJ.cu.len;have lsk:=aqg (M:=N) (f:=f) u hJ (x:=x) r hr ha hd;obtain⟨q1,q2,q3,q4⟩:=VK hJ (op:=op) (x:=x) r a t hr ha hd;have hw:=VL hJ r (Ri J.D t r) (fun c hc=>(kC.o2 hJ).2.2 c (a5Z (by rw[hr];exact hc)));rw[q1];generalize Ri J.D t r=n at lsk q1 q2 q3 q4 hw;have GH:J.o.drop (a+n)=r.drop n:=by rw[<-hr,agp]
 have a8w:r.drop n <:+ r:=List.drop_suffix _ _;have H6:=congrArg List.length GH;rw[a4l]at H6;clear q1 hr;generalize a+n=i at lsk q2 q3 GH H6;generalize r.drop n=r0 at q4 hw GH a8w H6;cases r0 with
 |nil=>
  have e0:i=J.o.length:=by rw[a5s]at H6;omega
  have t0:((i:Int)==(J.o.length:Int))=true:=by rw[e0];simp
  rw[e0]at q3;have pV:(aV J.D t).length=J.D.length:=by simp[aV]
  have hce:=abg (M:=N) (f:=f) (u:=u) J t hJ.d3 (fun k hk=>(JV hJ q3 hk).2);have hv:=hs (aV J.D t) pV;simp only[wO]at hw;have hb:x.e.length+[op (aV J.D t)].length<=ah:=by simp only[a4H];unfold ah;omega
  have h1:dG X0 Qp (iE (N+2)) (.fn 126 [] pM) [.agg t.ps,.int .i64 (a:Int)] (HM1 J f u x) (.int .i64 (i64.wrap (0-((x.e++[op (aV J.D t)]).length:Int)))) (agx J f u x (op (aV J.D t))):=
   fA gG (first:=[]) (cap:=pM) (.w lsk (.b t0 (.fr [5] hce (.fr [5] hv (.o hb .er)))))
  exact dG.gs hX h1 [.mv 7,.gc [9,10]] (by kernel_rfl)
 |cons c r'=>
  have t0:((i:Int)==(J.o.length:Int))=false:=by rw[a4K]at H6;simp;omega
  obtain⟨aT,hoc,wK,Gf,hci,qF⟩:=kC.at_ hJ GH;have Bf:=q4 c r' rfl;have rc:=rec c r' a8w;have ia:gu (i:Int) J.o.length:=⟨by omega,by omega⟩;have Ko:J.o.getD (i:Int).toNat 0=c:=by rw[a5p];exact hoc
  have ig:gu (J.o.getD (i:Int).toNat 0) J.g.length:=by rw[Ko,hJ.gl];exact qF
  have hz:=hJ.cu.sz _ (dB (s:=J.s) (k:=c.toNat) (by have:=qF.1;have:=qF.2;omega));have hri:∀c'∈r',gu c' J.s.length:=fun c' h=>(kC.o2 hJ).2.2 c' (by rw[<-wK]at h;exact a5Z h);have hw0:=Vz hJ.cu.sz hri;have hw1:wO J.s r'<=(J.s.getD c.toNat 0).toNat*wO J.s r':=aei _ (by omega);have ew:i64.wrap ((i:Int)+1)=((i+1:Nat):Int):=by rw[fK (by omega) (by omega)];omega
  simp only[wO]at hw;unfold jP;rw[a0F Bf];cases tg:decide (J.g.getD c.toNat 0>=0)
  .rw[a0E (by simp)];have tg':decide (J.g.getD (J.o.getD (i:Int).toNat 0).toNat 0>=0)=false:=by rw[Ko];exact tg
   by_cases hk:t∈x.k.map (·.1)
   .rw[a0F hk];have hF:qC X0 Qp 148 (IB x.k) (.agg [.int .i64 t.a,.int .i64 t.b,.int .i64 t.c]) (.int .i64 (knS x.k t)):=Yr hx.nd hk;have h1:dG X0 Qp (iE (N+2)) (.fn 126 [] pM) [.agg t.ps,.int .i64 (a:Int)] (HM1 J f u x) (.int .i64 (knS x.k t)) (HM1 J f u x):=
     fA gG (first:=[]) (cap:=pM) (.w lsk (.b t0 (.o ia (.o ig (.b tg' (.c (.int .i64 (knS x.k t)) [] hF (.b (rfl:true=true) .er)))))))
    exact dG.gs hX h1 [.mv 6,.mv 7] (by kernel_rfl)
   rw[a0E hk];have hm2:=VE hJ GH q3 Bf;have hF:nY X0 Qp 148 (IB x.k) (.agg [.int .i64 t.a,.int .i64 t.b,.int .i64 t.c]):=kS.fresh (x:=t) (by simpa using hk);have is:gu (J.o.getD (i:Int).toNat 0) J.s.length:=by rw[Ko];exact qF
   have YO:∀j,j<(J.s.getD c.toNat 0).toNat->j*wO J.s r'+wO J.s r'<=(J.s.getD c.toNat 0).toNat*wO J.s r':=fun j hj=>by have:(j+1)*wO J.s r'<=(J.s.getD c.toNat 0).toNat*wO J.s r':=a3V _ hj;rw[a3U]at this;omega
   let Q:Nat->Mk->Prop:=fun j y=>XOk J op y∧y.e.length<=x.e.length+j*wO J.s r'∧y.n.length+j<=x.n.length+j*wO J.s r'∧∀e∈y.k,e∈x.k∨Dp J (i+1) e.1
   have hq:∀j y,j<(J.s.getD c.toNat 0).toNat->Q j y->Q (j+1) (jP J op r' (bM J.D t c j) y).2:=fun j y hj hy=>by
    obtain⟨y1,y2,y3,y4⟩:=hy;have YO:=YO j hj;have h:=U3 hJ op kW r' (i+1) (bM J.D t c j) y wK aT (ni hJ GH q3 ⟨by omega,by omega⟩) y1 (by omega) (by omega);have h3:=h.el;have h4:=h.nl;refine⟨h.ok,by rw[a3U];omega,by rw[a3U];omega,fun e he=>?_⟩;rcases h.ks e he with h5|h5
    .exact y4 e h5
    exact .inr h5
   have lp:=aqm (M:=N) (f:=f) (u:=u) hJ (op:=op) (r:=r') (t:=t) (c:=c) (a:=(i:Int)) x qF Q ⟨hx,by simp,by simp,fun e he=>.inl he⟩ hq (fun j hj k hk=>JU hJ q3 ⟨by omega,by omega⟩ hk) (fun j y hj hy=>by obtain⟨y1,y2,y3,y4⟩:=hy;have YO:=YO j hj;rw[ew];exact rc (i+1) (bM J.D t c j) y wK aT (ni hJ GH q3 ⟨by omega,by omega⟩) y1 (by unfold ah;omega) (by unfold ah;omega))
   have inv:=cO (g:=VB J.D (jP J op r') t c) (m:=(J.s.getD c.toNat 0).toNat) (k:=0) (s:=([],x)) (fun j y=>Q j y.2) ⟨hx,by simp,by simp,fun e he=>.inl he⟩ (fun j y _ hj hy=>hq j y.2 (by omega) hy);rw[a3W]at inv;simp only[];generalize aS (VB J.D (jP J op r') t c) (J.s.getD c.toNat 0).toNat 0 ([],x)=y at lp inv;obtain⟨ks,m⟩:=y;obtain⟨y1,y2,y3,y4⟩:=inv;have hnk:t∉m.k.map (·.1):=fun h=>by
    obtain⟨e,he,e2⟩:=a0V.1 h;rcases y4 e he with h1|h1
    .exact hk (a0V.2 ⟨e,h1,e2⟩)
    rw[e2]at h1;exact a0n hJ GH Bf h1
   have hF2:nY X0 Qp 148 (IB m.k) (.agg [.int .i64 t.a,.int .i64 t.b,.int .i64 t.c]):=kS.fresh (x:=t) (by simpa using hnk);have ek:IB m.k++[(.agg t.ps,.int .i64 (m.n.length:Int))]=IB (m.k++[(t,(m.n.length:Int))]):=by unfold IB oO.es;rw[a4J,a4J];rfl
   have hF3:qC X0 Qp 148 (IB m.k++[(.agg t.ps,.int .i64 (m.n.length:Int))]) (.agg [.int .i64 t.a,.int .i64 t.b,.int .i64 t.c]) (.int .i64 (m.n.length:Int)):=by
    refine(congrArg (fun l:List (PV aG×PV aG)=>qC X0 Qp 148 l (.agg [.int .i64 t.a,.int .i64 t.b,.int .i64 t.c]) (.int .i64 (m.n.length:Int))) ek).mpr ?_;refine kS.found (x:=t) ?_ ?_
    .rw[a6B,show((fun e:S3×PV X0.Γ=>e.1)∘fun e:S3×Int=>(e.1,(PV.int .i64 e.2:PV X0.Γ)))=fun e=>e.1 from rfl,a4J];exact DV y1.nd hnk
    simp
   have hb:m.n.length+[(⟨c,ks⟩:Br)].length<=ah:=by simp only[a4H];have y3:m.n.length+(J.s.getD c.toNat 0).toNat<=x.n.length+(J.s.getD c.toNat 0).toNat*wO J.s r':=y3;unfold ah;omega
   have h1:dG X0 Qp (iE (N+2)) (.fn 126 [] pM) [.agg t.ps,.int .i64 (a:Int)] (HM1 J f u x) (.int .i64 (m.n.length:Int)) (alh J f u m t ⟨c,ks⟩):=by subst Ko;exact fA gG (first:=[]) (cap:=pM) (.w lsk (.b t0 (.o ia (.o ig (.b tg' (.q (.bool false) hF (.b (rfl:false=false) (.o is (.wG [.mv 6,.mv 7,.a3o 1 1 3] lp (.q (.bool false) (kS.ck t) (.o hF2 (.o hb (.c (.int .i64 (m.n.length:Int)) [] hF3 .er)))))))))))))
   have h2:=dG.gs hX h1 [.gc [8,12]] (v':=.int .i64 (m.n.length:Int)) (H2:=[.map (IB m.k++[(.agg t.ps,.int .i64 (m.n.length:Int))]),.cells [lI J.s,lI J.o,.own 8,.own 9,.int .i64 0],.aF (J.ps (.fn f [] [.ptr 5 0 1])),.aF [.fn 126 [] pM],.aF [.map 0],.aF [.int .u8 u],.gone,.gone,QE m.e,QF (m.n++[⟨c,ks⟩])]) (by kernel_rfl);exact(congrArg (fun l:List (PV aG×PV aG)=>dG X0 Qp (iE (N+2)) (.fn 126 [] pM) [.agg t.ps,.int .i64 (a:Int)] (HM1 J f u x) (.int .i64 (m.n.length:Int)) [.map l,.cells [lI J.s,lI J.o,.own 8,.own 9,.int .i64 0],.aF (J.ps (.fn f [] [.ptr 5 0 1])),.aF [.fn 126 [] pM],.aF [.map 0],.aF [.int .u8 u],.gone,.gone,QE m.e,QF (m.n++[⟨c,ks⟩])]) ek).mp h2
  rw[a0F rfl];have tg':decide (J.g.getD (J.o.getD (i:Int).toNat 0).toNat 0>=0)=true:=by rw[Ko];exact tg
  have hg:0<=J.g.getD c.toNat 0:=by simpa using tg
  have haf:=JQ (M:=N) (f:=f) (a:=[]) (cc:=[.ptr 0 0 1]) (H:=[.aF [.int .u8 u]]) J t c (J.g.getD c.toNat 0) hJ.d3 (fun k hk=>JU hJ q3 ⟨hg,hJ.gv c qF hg⟩ hk);have h2:=rc (i+1) (bM J.D t c (J.g.getD c.toNat 0)) x wK aT (ni hJ GH q3 ⟨hg,hJ.gv c qF hg⟩) hx (by unfold ah;omega) (by unfold ah;omega);rw[<-ew]at h2;subst Ko;exact fA gG (first:=[]) (cap:=pM) (.w lsk (.b t0 (.o ia (.o ig (.b tg' (.fr [5] haf (.fr [0,1,2,3,4,5,6,7] h2 .er)))))))
theorem aqn{N f:Nat}(u:Int){J:Jb}(hJ:kC J){op:List V->V}(kW:xu J op)(hs:∀m,N<=m->∀l:List V,l.length=J.D.length->dG X0 Qp (iE m) (.fn f [] [.ptr 0 0 1]) [lV l] [.aF [.int .u8 u]] (.agg (op l).ps) [.aF [.int .u8 u]]):∀(F:Nat) (r:LI0),r.length<=F->agw J op f u (N+F+2) r:=by
 intro F
 induction F with
 |zero=>
  intro r hF;refine ae4 u hJ kW (hs _ (by omega)) r fun c r' h=>?_;have:=h.length_le;rw[a4K]at this;omega
 |succ F ih=>
  intro r hF;refine ae4 (N:=N+F+1) u hJ kW (hs _ (by omega)) r fun c r' h=>ih r' ?_;have:=h.length_le;rw[a4K]at this;omega
end Go.Proofs.YtmobpoiejckagaaGreat
namespace Pv
open Go Tw
section
variable {X:kX} {P:LI1}
theorem dG.ali(hX:bT X P){call:aZ}{fv v:PV X.Γ}{xs:List (PV X.Γ)}{H H0 H1:List (PB X.Γ)}(gs:List G)(hs:dG X P call fv xs H0 v H1)(hg:lJ H.length gs (⟨[],[],H⟩:aU X.Γ)=some ⟨[],[],H0⟩):dG X P call fv xs H v H1:=by
 intro A m h tf qP hr hf hx;obtain⟨m2,q1,q2,q3⟩:=nC hX hg A (fun b=>b∈bg m) h.length m ⟨[],[],h,[]⟩ ⟨⟨hr,rfl,fun k c hk=>(by simp at hk),.nil⟩,fun b hb=>.inl hb,fun b hb=>(by cases hb),a0P _⟩;have up:Up m m2:=fun i mb hi=>q3 i mb (by rw[<-hr.len];exact(a0h.1 hi).1) hi;obtain⟨w,h',ws,m1,k1,k2,k3,k4,k5,k6⟩:=hs A m2 h tf qP q1.st.heap (hf.step q2 up) (hx.step q2 up);refine⟨w,h',ws,m1,k1,k2,k3,q2.trans k4,fun i mb hi=>?_,fun b hb=>?_⟩
 .rcases up i mb hi with g|g
  .exact k5 i mb g
  rcases k5 i _ g with g|g<;>exact .inr g
 have hb:=k6 b hb;rcases q1.own b hb with g|g
 .exact g
 have:=q1.st.heap.inb hb;have:b<h.length:=this;omega
end
end Pv
namespace Go.Proofs.YtmobpoiejckagaaGreat
open Go Tw Pv bP
theorem Nv{n:Nat}(hO:Ok n Iz)(l:LI0)(hl:l.length<=ah):iJ n (.fn 125 [] []) [.dF 3 l false] [] (lI l) []:=
 have h0:=nS.aaX hX (hO 125 [.dF 3 l false] (.own 0) (lsI l) [l.length<=ah] (by kernel_rfl) (List.forall_mem_singleton.2 hl)) rfl rfl rfl rfl
 dG.cut hX (dG.fzR hX h0 [0] (v':=lI l) rfl (by decide)) rfl rfl rfl rfl
abbrev aqo(J:Jb)(f:Nat)(x:Mk):List (PB aG):=[.map (IB x.k),.cells [lI J.s,lI J.o,.own 7,.own 8,.int .i64 0],.cells (J.ps (.fn f [] [])),.cells [.fn 126 [] pM],.cells [.map 0],.gone,.gone,QE x.e,QF x.n]
theorem abr{m f:Nat}(hO:Ok m Iz)(J:Jb)(st:S3)(z:Int×Mk)
  (c1:dG X0 Qp (iE m) (.fn 125 [] []) [.dF 3 J.s false] [] (lI J.s) [])
  (c2:dG X0 Qp (iE m) (.fn 125 [] []) [.dF 3 J.o false] [] (lI J.o) [])
  (c3:dG X0 Qp (iE m) (.fn 130 [] []) [.agg (J.ps (.fn f [] []))] [] (.agg st.ps) [])
  (c5:dG X0 Qp (iE m) (.fn 126 [] pM) [.agg st.ps,.int .i64 (0:Int)] [.map [],.cells [lI J.s,lI J.o,.nil .aP,.nil .aP,.int .i64 0],.aF (J.ps (.fn f [] [])),.aF [.fn 126 [] pM],.aF [.map 0]] (.int .i64 z.1) (abh J f z.2))
  (hr:Ba ⟨J.s,J.o,z.2.e,z.2.n,z.1⟩) (p1:J.s.length<=ah) (p2:J.o.length<=2^20) (p3:z.2.e.length<=ah) (p4:((bH ⟨J.s,J.o,z.2.e,z.2.n,z.1⟩).2 != 0)=false->ClP (bH ⟨J.s,J.o,z.2.e,z.2.n,z.1⟩).1) :
  dG X0 Qp (iE (m+1)) (.fn 80 [] []) [.agg (J.ps (.fn f [] []))] [] (dA.put (zT ⟨J.s,J.o,z.2.e,z.2.n,z.1⟩).1) []:=by
 obtain⟨v,e,n,k⟩:=z;have h0:dG X0 Qp (iE (m+1)) (.fn 80 [] []) [.agg (J.ps (.fn f [] []))] [] (dA.put (zT ⟨J.s,J.o,e,n,v⟩).1) ([]++[.cells (J.ps (.fn f [] [])),.cells [lI J.s,lI J.o,.own 7,.own 8,.int .i64 v],.map (IB k),.cells [.map 2],.cells [.fn 126 [] [.ptr 0 0 5,.ptr 1 0 5,.ptr 4 0 1,.ptr 3 0 1]],.gone,.gone,.gone,.gone]):=
  fA hO (first:=[]) (cap:=[]) (.fr [] c1 (.fr [] c2 (.fr [] c3 (.QU (H2:=aqo J f ⟨e,n,k⟩) [2,1,0,4,3] [2,3,4] c5 (.o hr (.o p1 (.o p2 (.o p3 (.o p4 .er)))))))))
 exact dG.cut hX h0 rfl rfl rfl rfl
theorem agy{N f:Nat}{J:Jb}(hJ:kC J){op:List V->V}(kW:xu J op)(hs:∀m,N<=m->∀l:List V,l.length=J.D.length->dG X0 Qp (iE m) (.fn f [] []) [lV l] [] (.agg (op l).ps) [])(hO:∀m,N<=m->Ok m Iz){m:Nat}(hm:N+J.o.length+2<=m):dG X0 Qp (iE (m+1)) (.fn 80 [] []) [.agg (J.ps (.fn f [] []))] [] (dA.put (JX J op)) []:=by
 have hl:=hJ.cu.len;have QL:=(kC.o2 hJ).2.1;have hw:=DT hJ.cu.sz hJ.ord;have hmn:=hJ.cu.many;have c1:=Nv (n:=m) (hO m (by omega)) J.s (by unfold ah;omega);have c2:=Nv (n:=m) (hO m (by omega)) J.o (by unfold ah;omega);obtain⟨m',rfl⟩:∃m',m=m'+1:=⟨m-1,by omega⟩;have c3:=a0m (M:=m') (f:=f) (a:=[]) (cc:=[]) (H:=[]) J hJ.d3;have c4:=aql (N:=m'+1-J.o.length-2) (f:=f) hJ kW (fun m2 h2=>hs m2 (by omega)) J.o.length J.o (a0P _) 0 (fG J.D) ⟨[],[],[]⟩ aav (a5i _) (fun k hk=>by rw[zU hJ.d3 hk];exact⟨(hJ.dg k hk).t.root,a5i _⟩) ⟨⟨fun i hi=>(by simp at hi),fun i hi=>(by simp at hi),fun i hi=>(by simp at hi)⟩,fun e he=>(by cases he),a6x,fun v hv=>(by cases hv),fun b hb=>(by cases hb)⟩ (by show 0+wO J.s J.o<=ah;unfold ah;omega) (by show 0+wO J.s J.o<=ah;unfold ah;omega)
 rw[show m'+1-J.o.length-2+J.o.length+2=m'+1 by omega]at c4;have c5:=dG.ali hX (H:=[.map [],.cells [lI J.s,lI J.o,.nil .aP,.nil .aP,.int .i64 0],.aF (J.ps (.fn f [] [])),.aF [.fn 126 [] pM],.aF [.map 0]]) [.UQ 1 2 39,.UQ 1 3 105] c4 (by kernel_rfl);obtain⟨h1,h2,h3⟩:=JY hJ kW;have hr:=a8r hJ kW;have h4:(bH (qj J op)).2=0:=by rw[(Yo hJ kW).1]
 have h5:=xk hr (by unfold ah;omega) (by show J.s.length<=ah;unfold ah;omega) (by show J.o.length<=ah;unfold ah;omega) h4;have p1:J.s.length<=ah:=by unfold ah;omega
 have p2:J.o.length<=2^20:=by omega
 have p3:(qj J op).aK.length<=ah:=by unfold ah;omega
 have p4:((bH (qj J op)).2 != 0)=false->ClP (bH (qj J op)).1:=fun _=>by rw[h5.1];exact h5.2
 exact abr (hO (m'+1) (by omega)) J (fG J.D) (jP J op J.o (fG J.D) ⟨[],[],[]⟩) c1 c2 c3 c5 hr p1 p2 p3 p4
abbrev aqp(J:Jb)(f:Nat)(u:Int)(x:Mk):List (PB aG):=[.map (IB x.k),.cells [lI J.s,lI J.o,.own 8,.own 9,.int .i64 0],.cells (J.ps (.fn f [] [.ptr 5 0 1])),.cells [.fn 126 [] pM],.cells [.map 0],.aF [.int .u8 u],.gone,.gone,QE x.e,QF x.n]
theorem abt{m f:Nat}(u:Int)(hO:Ok m Iz)(J:Jb)(st:S3)(z:Int×Mk)
  (c1:dG X0 Qp (iE m) (.fn 125 [] []) [.dF 3 J.s false] [] (lI J.s) [])
  (c2:dG X0 Qp (iE m) (.fn 125 [] []) [.dF 3 J.o false] [] (lI J.o) [])
  (c3:dG X0 Qp (iE m) (.fn 130 [] []) [.agg (J.ps (.fn f [] [.ptr 0 0 1]))] [.aF [.int .u8 u]] (.agg st.ps) [.aF [.int .u8 u]])
  (c5:dG X0 Qp (iE m) (.fn 126 [] pM) [.agg st.ps,.int .i64 (0:Int)] [.map [],.cells [lI J.s,lI J.o,.nil .aP,.nil .aP,.int .i64 0],.aF (J.ps (.fn f [] [.ptr 5 0 1])),.aF [.fn 126 [] pM],.aF [.map 0],.aF [.int .u8 u]] (.int .i64 z.1) (abj J f u z.2))
  (hr:Ba ⟨J.s,J.o,z.2.e,z.2.n,z.1⟩) (p1:J.s.length<=ah) (p2:J.o.length<=2^20) (p3:z.2.e.length<=ah) (p4:((bH ⟨J.s,J.o,z.2.e,z.2.n,z.1⟩).2 != 0)=false->ClP (bH ⟨J.s,J.o,z.2.e,z.2.n,z.1⟩).1) :
  dG X0 Qp (iE (m+1)) (.fn 80 [] []) [.agg (J.ps (.fn f [] [.ptr 0 0 1]))] [.aF [.int .u8 u]] (dA.put (zT ⟨J.s,J.o,z.2.e,z.2.n,z.1⟩).1) [.aF [.int .u8 u]]:=by
 obtain⟨v,e,n,k⟩:=z;have h0:dG X0 Qp (iE (m+1)) (.fn 80 [] []) [.agg (J.ps (.fn f [] [.ptr 0 0 1]))] [.aF [.int .u8 u]] (dA.put (zT ⟨J.s,J.o,e,n,v⟩).1) ([.aF [.int .u8 u]]++[.cells (J.ps (.fn f [] [.ptr 0 0 1])),.cells [lI J.s,lI J.o,.own 8,.own 9,.int .i64 v],.map (IB k),.cells [.map 3],.cells [.fn 126 [] [.ptr 1 0 5,.ptr 2 0 5,.ptr 5 0 1,.ptr 4 0 1]],.gone,.gone,.gone,.gone]):=
  fA hO (first:=[]) (cap:=[]) (.fr [] c1 (.fr [] c2 (.fr [0] c3 (.QU (H2:=aqp J f u ⟨e,n,k⟩) [3,2,1,5,4,0] [2,3,4] c5 (.o hr (.o p1 (.o p2 (.o p3 (.o p4 .er)))))))))
 exact dG.cut hX h0 rfl rfl rfl rfl
theorem agz{N f:Nat}(u:Int){J:Jb}(hJ:kC J){op:List V->V}(kW:xu J op)(hs:∀m,N<=m->∀l:List V,l.length=J.D.length->dG X0 Qp (iE m) (.fn f [] [.ptr 0 0 1]) [lV l] [.aF [.int .u8 u]] (.agg (op l).ps) [.aF [.int .u8 u]])(hO:∀m,N<=m->Ok m Iz){m:Nat}(hm:N+J.o.length+2<=m):dG X0 Qp (iE (m+1)) (.fn 80 [] []) [.agg (J.ps (.fn f [] [.ptr 0 0 1]))] [.aF [.int .u8 u]] (dA.put (JX J op)) [.aF [.int .u8 u]]:=by
 have hl:=hJ.cu.len;have QL:=(kC.o2 hJ).2.1;have hw:=DT hJ.cu.sz hJ.ord;have hmn:=hJ.cu.many;have c1:=Nv (n:=m) (hO m (by omega)) J.s (by unfold ah;omega);have c2:=Nv (n:=m) (hO m (by omega)) J.o (by unfold ah;omega);obtain⟨m',rfl⟩:∃m',m=m'+1:=⟨m-1,by omega⟩;have c3:=a0m (M:=m') (f:=f) (a:=[]) (cc:=[.ptr 0 0 1]) (H:=[.aF [.int .u8 u]]) J hJ.d3;have c4:=aqn (N:=m'+1-J.o.length-2) (f:=f) u hJ kW (fun m2 h2=>hs m2 (by omega)) J.o.length J.o (a0P _) 0 (fG J.D) ⟨[],[],[]⟩ aav (a5i _) (fun k hk=>by rw[zU hJ.d3 hk];exact⟨(hJ.dg k hk).t.root,a5i _⟩) ⟨⟨fun i hi=>(by simp at hi),fun i hi=>(by simp at hi),fun i hi=>(by simp at hi)⟩,fun e he=>(by cases he),a6x,fun v hv=>(by cases hv),fun b hb=>(by cases hb)⟩ (by show 0+wO J.s J.o<=ah;unfold ah;omega) (by show 0+wO J.s J.o<=ah;unfold ah;omega)
 rw[show m'+1-J.o.length-2+J.o.length+2=m'+1 by omega]at c4;have c5:=dG.ali hX (H:=[.map [],.cells [lI J.s,lI J.o,.nil .aP,.nil .aP,.int .i64 0],.aF (J.ps (.fn f [] [.ptr 5 0 1])),.aF [.fn 126 [] pM],.aF [.map 0],.aF [.int .u8 u]]) [.UQ 1 2 39,.UQ 1 3 105] c4 (by kernel_rfl);obtain⟨h1,h2,h3⟩:=JY hJ kW;have hr:=a8r hJ kW;have h4:(bH (qj J op)).2=0:=by rw[(Yo hJ kW).1]
 have h5:=xk hr (by unfold ah;omega) (by show J.s.length<=ah;unfold ah;omega) (by show J.o.length<=ah;unfold ah;omega) h4;have p1:J.s.length<=ah:=by unfold ah;omega
 have p2:J.o.length<=2^20:=by omega
 have p3:(qj J op).aK.length<=ah:=by unfold ah;omega
 have p4:((bH (qj J op)).2 != 0)=false->ClP (bH (qj J op)).1:=fun _=>by rw[h5.1];exact h5.2
 exact abt u (hO (m'+1) (by omega)) J (fG J.D) (jP J op J.o (fG J.D) ⟨[],[],[]⟩) c1 c2 c3 c5 hr p1 p2 p3 p4
open Go Tw Pv bP
theorem alj(x:V):Instr.sameBits 10000 (kV.v x) (kV.v x)=true:=by show Instr.sameBits 10000 (.agg #[.int .u8 x.f,.int .i64 x.n]) (.agg #[.int .u8 x.f,.int .i64 x.n])=true;simp[Instr.sameBits]
theorem a8x(x:S3):Instr.sameBits 10000 (kS.v x) (kS.v x)=true:=by show Instr.sameBits 10000 (.agg #[.int .i64 x.a,.int .i64 x.b,.int .i64 x.c]) (.agg #[.int .i64 x.a,.int .i64 x.b,.int .i64 x.c])=true;simp[Instr.sameBits]
abbrev iC:V:=⟨0,1⟩
def alk:eY aG:=bZ 79 (a1 vsA) vA (fun p=>p.getD 0 V0) (fun p=>[0<p.length]) Iz
theorem aqr:Gd alk:=Yn.add fun n hO p hp=>aO hO (.o (aH (hp _ gY)) .rr)
def alm:eY aG:=bZ 89 afo vA (fun p=>iC) np alk
theorem aqs:Gd alm:=aqr.add fun n hO p hp=>aO hO .rr
def a8y:eY aG:=bZ 169 (a1 vA) tA (fun p=>decide (p=iC)) np alm
theorem aln:Gd a8y:=aqs.add fun n hO p hp=>aO hO (.q (.bool (decide (p=iC))) (eqV (.tmp 3) (.tmp 4) p iC) .rr)
def nG(l:List V):Bool:=l.all fun v=>decide (v=iC)
def oC(l:List V):V:=if nG l=true then iC else V0
theorem aqt{n:Nat}(hO:Ok n a8y)(l:List V)(hl:l.length<=ah):iJ (n+4) (.fn 168 [] []) [.fn 169 [] [],lV l] [] (tA.put (nG l)) []:=by
 have hs:∀v:V,iJ n (.fn 169 [] []) [.agg v.ps] [] (tA.put (decide (v=iC))) []:=fun v=>nS.Ql hX (first:=[]) (cap:=[]) (hO 169 [.agg v.ps] (tA.put (decide (v=iC))) [] [] (by kernel_rfl) (fun p h=>by cases h)) rfl rfl rfl rfl;have h1:∀v:V,iJ (n+1) (.fn 201 [] [.ptr 0 0 1]) [.agg v.ps] [.cells [.fn 169 [] []]] (tA.put (!(decide (v=iC)))) [.cells [.fn 169 [] []]]:=fun v=>
  jr gG (first:=[]) (.fr [] (hs v) .sr)
 have h2:=afM (n:=n+2) (by omega) (f:=201) (a:=[]) (c:=[.ptr 0 0 1]) (H:=[.cells [.fn 169 [] []]]) (g:=fun v=>!(decide (v=iC))) h1 l hl;rw[JC]at h2;unfold nG;rw[<-Ez l fun v=>decide (v=iC)];exact dG.drop hX (Dk hX gG (first:=[]) (cap:=[]) (H1:=[.cells [.fn 169 [] []]]) (by kernel_rfl) (.k h2 .sr)) rfl rfl
def su:eY aG:=bZ 117 (a1 vsA) vA oC (fun l=>[l.length<=ah]) a8y
theorem IG:Gd su:=aln.deep 4 fun n hn hO l hp=>by have hs:=aqt (n:=n-4) (hO (n-4) (by omega)) l (hp _ gY);rw[show n-4+4=n by omega]at hs;show nS X0 Qp _ _ _ (vA.put (oC l)) _;unfold oC;exact aO (hO n (by omega)) (.fr [] hs (.ss .rr .rr))
abbrev Yt:Code:=(TG Qp 87).body
abbrev Rk:Code:=(TG Qp 136).body
abbrev a8z(J:Jb)(f:Nat):List (Nat×PE aG):=[(2,.val (.nil .map)),(3,.val (.ptr 2 0 1)),(8,.val (.fn 136 [.agg (J.ps (.fn f [] []))] []))]
abbrev LRC(J:Jb)(f:Nat)(rd:Bool)(jQ:Option Code):PB aG:=.loop rd 87 (Cc Qp 87) (a8z J f) [9,10] (wV Qp 87) (AU Qp 87) jQ
abbrev HQc(J:Jb)(f:Nat)(t:List (V×Int)):List (PB aG):=[.cells (J.ps (.fn f [] [])),.map (kV.im t),.cells [.map 1]]
abbrev Rl(J:Jb)(f:Nat)(rd:Bool)(jQ:Option Code)(t:List (V×Int)):List (PB aG):=HQc J f t++[.mark,LRC J f rd jQ]
theorem a8A(l:List V):decide (oC l=iC)=nG l:=by unfold oC;cases nG l<;>decide
def yT(l:List V)(w:Int)(t:List (V×Int)):List (V×Int):=if nG (l.drop 1)=true then sG t (l.getD 0 V0) w else t
structure Tal(t:List (V×Int)):Prop where
 nd:(t.map (·.1)).Nodup
 pos:∀e∈t,0<e.2
 bnd:∀e∈t,e.2<=2000
theorem aqv{n:Nat}(hO:Ok n su)(J:Jb)(f:Nat){t:List (V×Int)}(ht:Tal t)(l:List V){w:Int}(h0:0<l.length)(hl:l.length<=ah)(hw:0<w∧w<=2000):iJ (n+1) (.kU 4) [lV l,.int .i64 w] (Rl J f true none t) (.bool true) (Rl J f true none (yT l w t)):=by
 have q1:dR X0 Qp T (iE n) LL 87 true (Cc Qp 87) 5 (wV Qp 87) ⟨uw (a8z J f) [9,10] [lV l,.int .i64 w],[],Rl J f true none t⟩ .norm ⟨[(3,.val (.ptr 2 0 1)),(4,.val (lV l)),(5,.val (.int .i64 w))],[],Rl J f true none t⟩:=yB hX hO (by kernel_rfl) .xx;have i0:gu 0 l.length:=aH h0;have a1:(1:Int)<=l.length:=by omega
 have e1:(l.take l.length)=l:=adC;have c1:decide (oC ((l.take ((l.length:Int).toNat)).drop (1:Int).toNat)=iC)=nG (l.drop 1):=by rw[a8A];simp
 have a2:((l.take ((l.length:Int).toNat)).drop (1:Int).toNat).length<=ah:=by simp;omega
 have ev:=eqV (.tmp 13) (.tmp 14) (oC ((l.take ((l.length:Int).toNat)).drop (1:Int).toNat)) iC;have z01:(0:Int)<=1:=by decide
 have z02:(l.length:Int)<=(l.length:Int):=a9r _;unfold yT;cases hc:nG (l.drop 1)
 .rw[hc]at c1;rw[a0E (by simp)];have q2:dR X0 Qp T (iE n) LL 87 true (Cc Qp 87) 5 (AU Qp 87) ⟨[(3,.val (.ptr 2 0 1)),(4,.val (lV l)),(5,.val (.int .i64 w))],[],Rl J f false none t⟩ .norm ⟨[(3,.val (.ptr 2 0 1)),(4,.val (lV l)),(5,.val (.int .i64 w)),(15,xl false)],[],Rl J f false none t⟩:=
   yB hX hO (by kernel_rfl) (.o z01 (.o a1 (.o z02 (.o a2 (.q (.bool (decide (oC ((l.take ((l.length:Int).toNat)).drop (1:Int).toNat)=iC))) ev (.b c1 .xx))))))
  exact Ic hX (l:=4) rfl rfl (by kernel_rfl) q1 rfl q2 rfl
 rw[hc]at c1;rw[a0F rfl];by_cases hk:l.getD 0 V0∈t.map (·.1)
 .obtain⟨j,old,g1,g2,g3,g4⟩:=kV.VI (alj _) ht.nd hk (n:=w) fun e he=>fK (by have:=ht.pos e he;omega) (by have:=ht.bnd e he;omega);have q2:dR X0 Qp T (iE n) LL 87 true (Cc Qp 87) 5 (AU Qp 87) ⟨[(3,.val (.ptr 2 0 1)),(4,.val (lV l)),(5,.val (.int .i64 w))],[],Rl J f false none t⟩ .norm ⟨[],[],[.cells (J.ps (.fn f [] [])),.map (Jl (kV.im t) j (.int .i64 (i64.wrap (old+w)))),.cells [.map 1],.mark,LRC J f false none]⟩:=
   yB hX hO (by kernel_rfl) (.o z01 (.o a1 (.o z02 (.o a2 (.q (.bool (decide (oC ((l.take ((l.length:Int).toNat)).drop (1:Int).toNat)=iC))) ev (.b c1 (.o i0 (.c (.int .i64 old) [] g1 (.a (.call (.int .i64 old) []) (.a (.ix j) (.o g2 (.o g3 .xx))))))))))))
  rw[g4]at q2;exact Ic hX (l:=4) rfl rfl (by kernel_rfl) q1 rfl q2 rfl
 obtain⟨g1,g2,g3,g4⟩:=kV.VJ hk (n:=w) (by rw[Int.zero_add];exact fK (by omega) (by omega));have q2:dR X0 Qp T (iE n) LL 87 true (Cc Qp 87) 5 (AU Qp 87) ⟨[(3,.val (.ptr 2 0 1)),(4,.val (lV l)),(5,.val (.int .i64 w))],[],Rl J f false none t⟩ .norm ⟨[],[],[.cells (J.ps (.fn f [] [])),.map (Jl (kV.im t++[(.agg (l.getD 0 V0).ps,.int .i64 0)]) (kV.im t).length (.int .i64 (i64.wrap (0+w)))),.cells [.map 1],.mark,LRC J f false none]⟩:=
  yB hX hO (by kernel_rfl) (.o z01 (.o a1 (.o z02 (.o a2 (.q (.bool (decide (oC ((l.take ((l.length:Int).toNat)).drop (1:Int).toNat)=iC))) ev (.b c1 (.o i0 (.q (.bool false) g1 (.a .calm (.o (kV.ck (l.getD 0 V0)) (.o g1 (.o g2 (.o g3 .xx)))))))))))))
 have g4:Jl (kV.im t++[(.agg (l.getD 0 V0).ps,.int .i64 0)]) (kV.im t).length (.int .i64 (i64.wrap (0+w)))=kV.im (sG t (l.getD 0 V0) w):=g4;rw[g4]at q2;exact Ic hX (l:=4) rfl rfl (by kernel_rfl) q1 rfl q2 rfl
open Go Tw Pv bP
abbrev HN(J:Jb)(f:Nat)(t:List (V×Int))(now:List (S3×Int)):List (PB aG):=Rl J f true none t++[.map (kS.im now)]
abbrev bLB:Code:=eP (eP (eU (eP (eU (eU Rk)))))
abbrev bB1:Code:=eP (eP (eU (eU bLB)))
abbrev bIB:Code:=eP (eP (eU (eP (eU (eU bB1)))))
abbrev bX:Code:=eP (eU (eU bIB))
abbrev bL2:Code:=eP (eP (eU (eU (eU (eU Rk)))))
abbrev bX2:Code:=eP (eU (eU bL2))
abbrev a4m(J:Jb)(c:Int)(a:Int):List (Nat×PE aG):=[(1,.val (.kU 4)),(2,.loc 0 0),(6,xi c),(7,.val (.map 6)),(21,xL 3 J.o),(22,xi J.o.length),(23,xi a),(29,.val (.iter 7))]
abbrev HI(J:Jb)(f:Nat)(t:List (V×Int))(now next:List (S3×Int))(seen:List Nat):List (PB aG):=HN J f t now++[.map (kS.im next),.dn 5 now.length seen]
structure NI(J:Jb)(a:Nat)(m:List (S3×Int)):Prop where
 nd:(m.map (·.1)).Nodup
 pos:∀e∈m,0<e.2
 dp:∀e∈m,Dp J a e.1
theorem NI.add{J:Jb}{a:Nat}{m:List (S3×Int)}(h:NI J a m){s:S3}{n:Int}(hs:Dp J a s)(hn:0<n):NI J a (sG m s n):=
 ⟨Gg h.nd s n,Pq hn h.pos,fun e he=>by
  rcases a7d he with e1|⟨e',h1,h2⟩
  .rw[e1];exact hs
  .rw[<-h2];exact h.dp e' h1⟩
theorem Bo{κ:Type}[DecidableEq κ](q:Int):∀m:List (κ×Int),dK (fun _=>q) m=dK (fun _=>1) m*q
 | []=>by simp[dK]
 |e::m=>by simp only[dK,Bo q m,ahH,acE]
theorem II{κ:Type}[DecidableEq κ]:∀{m:List (κ×Int)},(∀e∈m,0<e.2)->0<=dK (fun _=>1) m∧∀e∈m,e.2<=dK (fun _=>1) m
 | [],_=>⟨a9r _,fun e he=>by cases he⟩
 |x::m,h=>by
  obtain⟨h1,h2⟩:=II (m:=m) fun e he=>h e (by simp[he]);have h0:=h x (by simp);simp only[dK,acE];refine⟨by omega,fun e he=>?_⟩;rcases a1Y.1 he with rfl|he
  .omega
  have:=h2 e he;omega
theorem a8C{κ:Type}[DecidableEq κ]{m:List (κ×Int)}{q:Nat}(hp:∀e∈m,0<e.2)(hq:1<=q)(hs:dK (fun _=>(q:Int)) m<=2000):∀e∈m,e.2<=2000:=fun e he=>by
 obtain⟨h1,h2⟩:=II hp;rw[Bo]at hs;have h3:=h2 e he;have:dK (fun _=>1) m<=dK (fun _=>1) m*(q:Int):=by have:=a9k (show(1:Int)<=q by omega) h1;omega
 omega
theorem Yu{J:Jb}(r:LI0)(m:List (S3×Int)):dK (xQ J (fun _=>1) r) m=dK (fun _=>(Aa J r:Int)) m:=by
 induction m with
 |nil=>rfl
 |cons e m ih=>simp only[dK,ih,EF]
theorem EJ{J:Jb}{a:Nat}{r:LI0}{m:List (S3×Int)}(h:NI J a m)(hq:1<=Aa J r){s:S3}{n b:Int}(hn:0<n)(hs:dK (fun _=>(Aa J r:Int)) m+n*(Aa J r:Int)<=b)(hb:b<=2000):n<=2000∧(∀e∈m,e.2<=2000)∧∀e∈m,i64.wrap (e.2+n)=e.2+n:=by
 obtain⟨h1,h2⟩:=II h.pos;have h3:0<=dK (fun _=>(Aa J r:Int)) m:=by rw[Bo];exact agG h1 (by omega)
 have h4:n<=n*(Aa J r:Int):=by have:=a9k (show(1:Int)<=Aa J r by omega) (show 0<=n by omega);omega
 have h5:0<=n*(Aa J r:Int):=by omega
 have h6:=a8C h.pos hq (show dK (fun _=>(Aa J r:Int)) m<=2000 by omega);refine⟨by omega,h6,fun e he=>?_⟩;have:=h6 e he;have:=h.pos e he;exact fK (by omega) (by omega)
theorem a2w{now:List (S3×Int)}{j:Nat}{st:S3}{w:Int}(h:now[j]? = some (st,w)):(kS.im now).length=now.length∧(kS.im now)[j]? = some (.agg st.ps,.int .i64 w):=by refine⟨kS.pO now,?_⟩;rw[kS.Bj,h];rfl
section
variable {n:Nat} {J:Jb} (hJ:kC J) {f:Nat} (t:List (V×Int)) (now:List (S3×Int)) (seen:List Nat) {a:Nat} {c:Int} {r:LI0} {st:S3} {w:Int} {j:Nat}
abbrev sX(J:Jb)(f:Nat)(t:List (V×Int))(now next:List (S3×Int))(c:Int)(a:Int)(st:S3)(w:Int)(js:List Nat):aU aG:=⟨jm (T.iy 136 7) ((31,.val (.bool true))::(30,.val (.dJ [.bool true,.agg st.ps,.int .i64 w]))::a4m J c a),[J.ps (.fn f [] [])],HI J f t now next js⟩
abbrev sZ(J:Jb)(f:Nat)(t:List (V×Int))(now next:List (S3×Int))(c:Int)(a:Int)(st:S3)(js:List Nat):aU aG:=⟨a4m J c a,[J.ps (.fn f [] []),st.ps],HI J f t now next js⟩
abbrev wDi(J:Jb)(f:Nat)(t:List (V×Int))(now:List (S3×Int))(c:Int)(a:Int)(st:S3)(w:Int)(js:List Nat)(next:List (S3×Int))(i:Int)(x:List (Nat×PE aG)):aU aG:=⟨[(1,.val (.kU 4)),(2,.loc 0 0),(6,xi c),(7,.val (.map 6)),(8,.loc 1 0),(9,xi w),(21,xL 3 J.o),(22,xi J.o.length),(23,xi a),(29,.val (.iter 7)),(75,xi (J.s.getD c.toNat 0)),(76,xi i)]++x,[J.ps (.fn f [] []),st.ps],HI J f t now next js⟩
include hJ
theorem lDi(hr:J.o.drop a=c::r)(hd:Dp J a st)(hw:0<w){next:List (S3×Int)}(hN:NI J (a+1) next)(hg:¬decide (J.g.getD c.toNat 0>=0)=true)(hb:dK (fun _=>(Aa J r:Int)) next+w*(Aa J (c::r):Int)<=2000)(js:List Nat) :
  ∃next',NI J (a+1) next'∧(∀ψ,dK (xQ J ψ r) next'=dK (xQ J ψ r) next+w*xQ J ψ (c::r) st) ∧
   Nk (n+1) 136 2 5 (wDi J f t now c a st w js next 0 []) (.exit 5) (wDi J f t now c a st w js next' ((J.s.getD c.toNat 0).toNat:Nat) [(77,xl false)]):=by
 obtain⟨aT,hoc,wK,Gf,hci,qF⟩:=kC.at_ hJ hr;have hz:=hJ.cu.sz _ (dB (s:=J.s) (k:=c.toNat) (by have:=qF.1;have:=qF.2;omega));have hri:∀c'∈r,gu c' J.s.length:=fun c' h=>(kC.o2 hJ).2.2 c' (by rw[<-wK]at h;exact a5Z h);have hq:=(JZ hJ hri).1;have pV:(Aa J (c::r):Int)=((J.s.getD c.toNat 0).toNat:Int)*(Aa J r:Int):=by
  have:(Bg J c).length=(J.s.getD c.toNat 0).toNat:=by unfold Bg;rw[a0E hg];simp
  rw[Aa,this,aeD]
 let g:Nat->List (S3×Int)->List (S3×Int):=fun k y=>sG y (bM J.D st c k) w
 have inv:=cO (g:=g) (m:=(J.s.getD c.toNat 0).toNat) (k:=0) (s:=next) (fun k y=>NI J (a+1) y∧∀ψ,dK (xQ J ψ r) y=dK (xQ J ψ r) next+w*dZ (fun(j:Nat)=>xQ J ψ r (bM J.D st c j)) (List.range k)) ⟨hN,fun ψ=>by simp[dZ]⟩ (fun k y _ hk hy=>by obtain⟨h1,h2⟩:=hy;refine⟨h1.add (ni hJ hr hd ⟨by omega,by omega⟩) hw,fun ψ=>?_⟩;show dK (xQ J ψ r) (sG y _ w)=_;rw[zK,h2 ψ,aci,Ij,Int.mul_add];simp only[dZ,Int.add_zero];omega)
 rw[a3W]at inv;refine⟨_,inv.1,fun ψ=>by rw[inv.2 ψ,abm hg],?_⟩;have bound:∀k y,k<(J.s.getD c.toNat 0).toNat->(∀ψ,dK (xQ J ψ r) y=dK (xQ J ψ r) next+w*dZ (fun(j:Nat)=>xQ J ψ r (bM J.D st c j)) (List.range k))->dK (fun _=>(Aa J r:Int)) y+w*(Aa J r:Int)<=2000:=fun k y hk hy=>by have h1:=hy fun _=>1;rw[Yu,Yu,qG (φ':=fun _=>(Aa J r:Int)) (fun _ _=>EF r _),Bh,a9m]at h1;rw[h1];rw[pV]at hb;have h2:((k:Int)+1)*(Aa J r:Int)<=((J.s.getD c.toNat 0).toNat:Int)*(Aa J r:Int):=aaS (by omega) (by omega);have h3:=a9k h2 (show 0<=w by omega);rw[ahH,Int.mul_add,Int.one_mul]at h3;omega
 refine wY (σ:=List (S3×Int)) (N:=(J.s.getD c.toNat 0).toNat) (g:=g) (s0:=next) (st:=fun i y=>wDi J f t now c a st w js y i []) (fin:=fun y=>wDi J f t now c a st w js y (((J.s.getD c.toNat 0).toNat:Nat):Int) [(77,xl false)]) (fun k y=>NI J (a+1) y∧∀ψ,dK (xQ J ψ r) y=dK (xQ J ψ r) next+w*dZ (fun(j:Nat)=>xQ J ψ r (bM J.D st c j)) (List.range k)) (by kernel_rfl) (by unfold ah;omega) ⟨hN,fun ψ=>by simp[dZ]⟩ (fun k y hk hy=>?_) (fun k y hk hy m e p g9=>?_) (fun y _=>?_)
 .obtain⟨h1,h2⟩:=hy;refine⟨h1.add (ni hJ hr hd ⟨by omega,by omega⟩) hw,fun ψ=>?_⟩;show dK (xQ J ψ r) (sG y _ w)=_;rw[zK,h2 ψ,aci,Ij,Int.mul_add];simp only[dZ,Int.add_zero];omega
 .obtain⟨h1,h2⟩:=hy;obtain⟨b1,b2,b3⟩:=EJ h1 hq (s:=bM J.D st c k) hw (bound k y hk h2) (a9r _);have t1:decide ((k:Int)<J.s.getD c.toNat 0)=true:=by rw[a1z];omega
  have ha:=JQ (M:=n) (f:=f) (a:=[]) (cc:=[]) (H:=[]) J st c k hJ.d3 fun i hi=>JU hJ hd ⟨by omega,by omega⟩ hi;have g9:dM X0 Qp T (iE (n+1)) LL 136 false _ 5 _ m (wDi J f t now c a st w js (sG y (bM J.D st c k) w) _ []) e p:=g9;by_cases hk:bM J.D st c k∈y.map (·.1)
  .obtain⟨jj,old,g1,g2,g3,g4⟩:=kS.VI (a8x _) h1.nd hk (n:=w) b3;unfold wDi HI at g9;rw[<-g4]at g9;exact aN gG (.b t1 (.fr [] ha (.c (.int .i64 old) [] g1 (.a (.call (.int .i64 old) []) (.a (.ix jj) (.o g2 (.o g3 (.go g9))))))))
  .obtain⟨g1,g2,g3,g4⟩:=kS.VJ hk (n:=w) (by rw[Int.zero_add];exact fK (by omega) (by omega));unfold wDi HI at g9;rw[<-g4]at g9;exact aN gG (.b t1 (.fr [] ha (.q (.bool false) g1 (.a .calm (.o (kS.ck (bM J.D st c k)) (.o g1 (.o g2 (.o g3 (.go g9)))))))))
 .have t1:decide ((((J.s.getD c.toNat 0).toNat:Nat):Int)<J.s.getD c.toNat 0)=false:=by rw[a3b];omega
  exact aN gG (.b t1 .ex)
end
open Go Tw Pv bP
abbrev sH(J:Jb)(f:Nat)(t:List (V×Int))(now next:List (S3×Int))(c:Int)(a:Int)(js:List Nat):aU aG:=⟨a4m J c a,[J.ps (.fn f [] [])],HI J f t now next js⟩
section
variable {n:Nat} {J:Jb} (hJ:kC J) {f:Nat} (t:List (V×Int)) (now:List (S3×Int)) (seen:List Nat) {a:Nat} {c:Int} {r:LI0} {st:S3} {w:Int} {j:Nat}
include hJ
theorem alo(hr:J.o.drop a=c::r)(hd:Dp J a st)(hw:0<w){next:List (S3×Int)}(hN:NI J (a+1) next)(hj:now[j]? = some (st,w))(hb:dK (fun _=>(Aa J r:Int)) next+w*(Aa J (c::r):Int)<=2000) :
  ∃next' e s',NI J (a+1) next'∧(∀ψ,dK (xQ J ψ r) next'=dK (xQ J ψ r) next+w*xQ J ψ (c::r) st)∧(e=.norm∨e=.exit 3) ∧
   dR X0 Qp T (iE (n+1)) LL 136 false (Cc Qp 136) 5 bX (sX J f t now next c a st w (j::seen)) e s' ∧
   gU X0 (T.eX 136 (dW bIB)) s'=sH J f t now next' c a (j::seen):=by
 obtain⟨aT,hoc,wK,Gf,hci,qF⟩:=kC.at_ hJ hr;have hz:=hJ.cu.sz _ (dB (s:=J.s) (k:=c.toNat) (by have:=qF.1;have:=qF.2;omega));have hri:∀c'∈r,gu c' J.s.length:=fun c' h=>(kC.o2 hJ).2.2 c' (by rw[<-wK]at h;exact a5Z h);have hq:=(JZ hJ hri).1;have hcG:gu c J.g.length:=by rw[hJ.gl];exact qF
 have ho:=a2w hj;by_cases hg:decide (J.g.getD c.toNat 0>=0)=true
 .have hl1:(Aa J (c::r):Int)=Aa J r:=by rw[Aa,Bg,a0F hg];simp
  rw[hl1]at hb;have hgv:0<=J.g.getD c.toNat 0:=by simpa using hg
  have ZW:=ni hJ hr hd ⟨hgv,hJ.gv c qF hgv⟩;obtain⟨b1,b2,b3⟩:=EJ hN hq (s:=st) hw hb (a9r _);have ha:=JQ (M:=n) (f:=f) (a:=[]) (cc:=[]) (H:=[]) J st c (J.g.getD c.toNat 0) hJ.d3 fun i hi=>JU hJ hd ⟨hgv,hJ.gv c qF hgv⟩ hi;refine⟨sG next (bM J.D st c (J.g.getD c.toNat 0)) w,.exit 3,sZ J f t now (sG next (bM J.D st c (J.g.getD c.toNat 0)) w) c a st (j::seen),hN.add ZW hw,fun ψ=>by rw[zK,a4j hg],.inr rfl,?_,by kernel_rfl⟩;unfold sZ HI;by_cases hk:bM J.D st c (J.g.getD c.toNat 0)∈next.map (·.1)
  .obtain⟨jj,old,g1,g2,g3,g4⟩:=kS.VI (a8x _) hN.nd hk (n:=w) b3;rw[<-g4];exact zL hX gG (by kernel_rfl) (.c (.dJ [.agg st.ps,.int .i64 w]) [] ho (.o qF (.o hcG (.b hg (.fr [] ha (.c (.int .i64 old) [] g1 (.a (.call (.int .i64 old) []) (.a (.ix jj) (.o g2 (.o g3 (.r rfl)))))))))))
  .obtain⟨g1,g2,g3,g4⟩:=kS.VJ hk (n:=w) (by rw[Int.zero_add];exact fK (by omega) (by omega));rw[<-g4];exact zL hX gG (by kernel_rfl) (.c (.dJ [.agg st.ps,.int .i64 w]) [] ho (.o qF (.o hcG (.b hg (.fr [] ha (.q (.bool false) g1 (.a .calm (.o (kS.ck (bM J.D st c (J.g.getD c.toNat 0))) (.o g1 (.o g2 (.o g3 (.r rfl))))))))))))
 have hg':decide (J.g.getD c.toNat 0>=0)=false:=by simpa using hg
 have vC:((J.s.getD c.toNat 0).toNat:Int)=J.s.getD c.toNat 0:=by omega
 have pV:(Aa J (c::r):Int)=J.s.getD c.toNat 0*(Aa J r:Int):=by
  have:(Bg J c).length=(J.s.getD c.toNat 0).toNat:=by unfold Bg;rw[a0E hg];simp
  rw[Aa,this,aeD,vC]
 have hs:=a8l (M:=n) (f:=f) (a:=[]) (cc:=[]) (H:=[]) J st c hJ.d3 (fun k hk h=>⟨by simpa using h,(hd k hk).1.1⟩);cases Bf:jY J.D st c
 .rw[Bf]at hs;have ZW:=VD hJ hr hd Bf;have hm:0<w*J.s.getD c.toNat 0:=Int.mul_pos hw (by omega);rw[pV,<-Int.mul_assoc]at hb;obtain⟨b1,b2,b3⟩:=EJ hN hq (s:=st) hm hb (a9r _);have hwm:i64.wrap (w*J.s.getD c.toNat 0)=w*J.s.getD c.toNat 0:=fK (by omega) (by omega);refine⟨sG next st (w*J.s.getD c.toNat 0),.exit 3,sZ J f t now (sG next st (w*J.s.getD c.toNat 0)) c a st (j::seen),hN.add ZW hm,fun ψ=>by rw[zK,agq hg Bf,vC,Int.mul_assoc],.inr rfl,?_,by kernel_rfl⟩;unfold sZ HI;by_cases hk:st∈next.map (·.1)
  .obtain⟨jj,old,g1,g2,g3,g4⟩:=kS.VI (a8x _) hN.nd hk (n:=w*J.s.getD c.toNat 0) b3;rw[<-g4,<-hwm];exact zL hX gG (by kernel_rfl) (.c (.dJ [.agg st.ps,.int .i64 w]) [] ho (.o qF (.o hcG (.b hg' (.fr [] hs (.b (rfl:(!false)=true) (.c (.int .i64 old) [] g1 (.a (.call (.int .i64 old) []) (.a (.ix jj) (.o g2 (.o g3 (.r rfl))))))))))))
  .obtain⟨g1,g2,g3,g4⟩:=kS.VJ hk (n:=w*J.s.getD c.toNat 0) (by rw[Int.zero_add];exact hwm);rw[<-g4,<-hwm];exact zL hX gG (by kernel_rfl) (.c (.dJ [.agg st.ps,.int .i64 w]) [] ho (.o qF (.o hcG (.b hg' (.fr [] hs (.b (rfl:(!false)=true) (.q (.bool false) g1 (.a .calm (.o (kS.ck st) (.o g1 (.o g2 (.o g3 (.r rfl)))))))))))))
 .rw[Bf]at hs;obtain⟨next',h1,h2,h3⟩:=lDi (n:=n) hJ (f:=f) t now hr hd hw hN hg hb (j::seen);refine⟨next',.norm,_,h1,h2,.inl rfl,zL (ps1:=wDi J f t now c a st w (j::seen) next' ((J.s.getD c.toNat 0).toNat:Nat) [(77,xl false)]) hX gG (by kernel_rfl) (.c (.dJ [.agg st.ps,.int .i64 w]) [] ho (.o qF (.o hcG (.b hg' (.fr [] hs (.b (rfl:(!true)=false) (.w h3 (.r rfl)))))))),by kernel_rfl⟩
end
end Go.Proofs.YtmobpoiejckagaaGreat
namespace Pv
open Go Tw
section
variable {X:kX} {P:LI1} {T:qM} {call:aZ} {cd:vH} {L f nt B:Nat}
theorem aJ.Bq{a b:Code}{ps s1:aU X.Γ}{Q:Ex->aU X.Γ->Prop}(hn:og a=true)(ha:dR X P T call L f false nt B a ps .norm s1)(hb:aJ X P T call cd L f nt B b s1 Q):aJ X P T call cd L f nt B (.seq a b) ps Q:=
 aJ.seq (R:=fun e s=>e=.norm∧s=s1) (dR.dem hn ha ⟨rfl,rfl⟩) (fun s h=>by obtain⟨_,rfl⟩:=h;exact hb) (fun i s h=>by cases h.1) (fun s h=>by cases h.1)
theorem aJ.step{c:Code}{ps:aU X.Γ}{e:Ex}{ps1:aU X.Γ}{Q:Ex->aU X.Γ->Prop}(hn:og c=true)(ha:dR X P T call L f false nt B c ps e ps1)(hq:Q e ps1):aJ X P T call cd L f nt B c ps Q:=dR.dem hn ha hq
end
end Pv
namespace Go.Proofs.YtmobpoiejckagaaGreat
open Go Tw Pv bP
theorem Lj{α:Type}[DecidableEq α](φ:α->Int)(p:α->Bool):∀l:List α,dZ φ l=dZ φ (l.filter p)+dZ φ (l.filter fun a=>!p a)
 | []=>rfl
 |a::l=>by
  rw[dZ,Lj φ p l];cases h:p a
  .rw[adV (by simp[h]),adW (by simp[h]),dZ];omega
  rw[adW h,adV (by simp[h]),dZ];omega
theorem VN{α:Type}[DecidableEq α]{φ:α->Int}:∀{l:List α},(∀a∈l,0<=φ a)->0<=dZ φ l
 | [],_=>a9r _
 |a::l,h=>by have:=VN (l:=l) fun b hb=>h b (by simp[hb]);have:=h a (by simp);rw[dZ];omega
theorem Kq{n:Nat}{l:List Nat}(hn:l.Nodup)(hl:∀j∈l,j<n):((List.range n).filter fun j=>l.contains j).Perm l:=
 (a7x (List.nodup_range.filter _) hn).2 fun j=>by rw[a7t,a4P,List.contains_iff_mem];exact⟨fun h=>h.2,fun h=>⟨hl j h,h⟩⟩
theorem VO{n:Nat}{φ:Nat->Int}{l:List Nat}(hn:l.Nodup)(hl:∀j∈l,j<n)(hp:∀j,j<n->0<=φ j):dZ φ l<=dZ φ (List.range n):=by rw[Lj φ (fun j=>l.contains j) (List.range n),Jy φ (Kq hn hl)];have:=VN (φ:=φ) (l:=(List.range n).filter fun j=>!l.contains j) fun j hj=>hp j (a4P.1 (a7t.1 hj).1);omega
theorem Qo{n:Nat}{φ:Nat->Int}{l:List Nat}(hn:l.Nodup)(hl:∀j∈l,j<n)(ha:∀j,j<n->j∈l):dZ φ l=dZ φ (List.range n):=
 (Jy φ ((a7x aeu hn).2 fun j=>⟨fun h=>ha j (a4P.1 h),fun h=>a4P.2 (hl j h)⟩)).symm
abbrev nowAt(now:List (S3×Int))(j:Nat):S3×Int:=now.getD j (⟨0,0,0⟩,0)
theorem IJ{φ:S3->Int}(now:List (S3×Int)):dZ (fun j=>(nowAt now j).2*φ (nowAt now j).1) (List.range now.length)=dK φ now:=by
 have h1:dK φ now=dZ (fun e:S3×Int=>e.2*φ e.1) now:=by
  induction now with
  |nil=>rfl
  |cons e m ih=>simp only[dK,dZ,ih]
 have h2:now=(List.range now.length).map fun j=>nowAt now j:=by refine(qx (d:=(⟨⟨0,0,0⟩,0⟩:S3×Int)) (by simp)).2 fun k hk=>?_;simp[List.getD,hk]
 rw[h1]
 conv=>rhs;rw[h2]
 rw[zV]
theorem Yv{now:List (S3×Int)}{j:Nat}{e:S3×Int}(h:now[j]? = some e):nowAt now j=e∧j<now.length∧e∈now:=by obtain⟨h1,h2⟩:=a0h.1 h;exact⟨by simp[nowAt,List.getD,h],h1,h2▸a4Z h1⟩
section
variable {n:Nat} {J:Jb} (hJ:kC J) {f:Nat} (t:List (V×Int)) (now:List (S3×Int)) {a:Nat} {c:Int} {r:LI0}
def InS(J:Jb)(f:Nat)(t:List (V×Int))(now:List (S3×Int))(a:Nat)(c:Int)(r:LI0)(seen:List Nat)(s:aU aG):Prop:=
 seen.Nodup∧(∀j∈seen,j<now.length)∧∃next,NI J (a+1) next∧(∀ψ,dK (xQ J ψ r) next=dZ (fun j=>(nowAt now j).2*xQ J ψ (c::r) (nowAt now j).1) seen)∧gU X0 (T.eX 136 (dW bIB)) s=sH J f t now next c a seen
structure yG(J:Jb)(a:Nat)(now:List (S3×Int)):Prop where
 i:NI J a now
 s:∀ψ,dK (xQ J ψ (J.o.drop a)) now=xQ J ψ J.o (fG J.D)
include hJ
theorem agB:(Aa J J.o:Int)<=2000:=by have h1:=(JZ hJ (kC.o2 hJ).2.2).2;have hw:=DT hJ.cu.sz hJ.ord;have hm:=hJ.cu.many;omega
theorem Nw(h:yG J a now):dK (fun _=>(Aa J (J.o.drop a):Int)) now<=2000:=by have:=h.s fun _=>1;rw[Yu,EF]at this;have:=agB hJ;omega
theorem Yw(a:Nat):1<=Aa J (J.o.drop a):=(JZ hJ fun c hc=>(kC.o2 hJ).2.2 c (a5Z hc)).1
theorem a2x(h:yG J a now):now.length<=2000∧∀e∈now,e.2<=2000:=by
 have h1:=a8C h.i.pos (Yw hJ a) (Nw hJ now h);obtain⟨h2,h3⟩:=II h.i.pos;have h4:=Nw hJ now h;rw[Bo]at h4;have h5:=a9k (show(1:Int)<=Aa J (J.o.drop a) by have:=Yw hJ a;omega) h2;have h6:∀{m:List (S3×Int)},(∀e∈m,0<e.2)->(m.length:Int)<=dK (fun _=>1) m:=by
  intro m
  induction m with
  |nil=>intro _;exact a9r _
  |cons e m ih=>
   intro hp;have:=ih fun e he=>hp e (by simp[he]);have:=hp e (by simp);simp only[dK,a4K,acE];omega
 have:=h6 h.i.pos;exact⟨by omega,h1⟩
set_option maxRecDepth 20000 in
theorem inLoop(hr:J.o.drop a=c::r)(h:yG J a now):aJ X0 Qp T (iE (n+1)) D5 LL 136 (Cc Qp 136) 5 (.block 2 (.loop bIB)) (sH J f t now [] c a [])
  fun e s=>e=.norm∧∃next seen,NI J (a+1) next∧(∀ψ,dK (xQ J ψ r) next=dK (xQ J ψ (c::r)) now)∧s={ sH J f t now next c a seen with env:=jm (T.iy 136 7) ((31,.val (.bool false))::(30,.val (.dJ [.bool false]))::a4m J c a) }:=by
 have e0:bIB=.seq (.region 7 (a7l (eP bIB)) false) (.seq (.cond (.tmp 31) .skip (.exit 2)) (.block 3 bX)):=by kernel_rfl
 rw[e0];have hlen:=a2x hJ now h;have hlL:(kS.im now).length=now.length:=kS.pO now;have hql:=(JZ hJ (r:=c::r) fun c' hc=>(kC.o2 hJ).2.2 c' (by rw[<-hr]at hc;exact a5Z hc)).1;refine Vl hX (n:=now.length) (b:=7) (r:=5) (it:=29) (nx:=30) (mo:=31) (es:=kS.im now) (fun seen s=>InS J f t now a c r seen s) (by kernel_rfl) (a7X (by kernel_rfl)) (a7X (by kernel_rfl)) hlL (by unfold LL;omega)
  ⟨a6x,(fun j hj=>(by cases hj)),[],⟨a6x,(fun e he=>(by cases he)),(fun e he=>(by cases he))⟩,(fun ψ=>rfl),(by kernel_rfl)⟩ (fun seen s hi=>?_)
 obtain⟨jH,aT,next,h1,h2,h3⟩:=hi;rw[<-e0];refine⟨_,h3,by kernel_rfl,by kernel_rfl,by kernel_rfl,fun ho=>⟨by kernel_rfl,next,seen,h1,fun ψ=>?_,rfl⟩,fun j e hj he=>⟨by kernel_rfl,?_⟩⟩
 .rw[h2,Qo jH aT ho,IJ]
 .rw[kS.Bj,a0l]at he;obtain⟨⟨st,w⟩,sF,rfl⟩:=he;obtain⟨q1,q2,q3⟩:=Yv sF;have Gn:(j::seen).Nodup:=a4U.2 ⟨hj,jH⟩;have Gp:∀k∈j::seen,k<now.length:=fun k hk=>by
   rcases a1Y.1 hk with rfl|hk
   .exact q2
   .exact aT k hk
  have hb:dK (fun _=>(Aa J r:Int)) next+w*(Aa J (c::r):Int)<=2000:=by
   have e1:=h2 fun _=>1;rw[Yu]at e1;have e2:=VO (φ:=fun j=>(nowAt now j).2*xQ J (fun _=>1) (c::r) (nowAt now j).1) Gn Gp fun k hk=>by have:=h.i.pos _ (dI (d:=(⟨⟨0,0,0⟩,0⟩:S3×Int)) hk);rw[EF];exact agG (afU this) (Int.natCast_nonneg _)
   rw[IJ,dZ,q1]at e2;have e3:=Nw hJ now h;rw[hr]at e3;rw[Yu]at e2;have e4:xQ J (fun _=>1) (c::r) st=(Aa J (c::r):Int):=EF _ _;simp only[e4]at e2;omega
  obtain⟨next',e',s',g1,g2,g3,g4,g5⟩:=alo (n:=n) hJ (f:=f) t now seen (st:=st) (w:=w) (j:=j) hr (h.i.dp _ q3) (h.i.pos _ q3) h1 sF hb;refine aJ.step (by kernel_rfl) g4 ⟨g3,Gn,Gp,next',g1,fun ψ=>?_,g5⟩;rw[g2,h2,dZ,q1,ahy]
end
open Go Tw Pv bP
abbrev alq(J:Jb)(a:Int)(x:List (Nat×PE aG)):List (Nat×PE aG):=[(1,.val (.kU 4)),(2,.loc 0 0),(4,.val (.map 5)),(21,xL 3 J.o),(22,xi J.o.length),(23,xi a)]++x
abbrev VP(J:Jb)(f:Nat)(t:List (V×Int))(now:List (S3×Int))(a:Int)(x:List (Nat×PE aG)):aU aG:=⟨alq J a x,[J.ps (.fn f [] [])],HN J f t now⟩
abbrev ntE:Nat:=Cc Qp 136
abbrev ExE(n:Nat)(c:Code)(s:aU aG)(e:Ex)(s':aU aG):Prop:=dR X0 Qp T (iE (n+1)) LL 136 false ntE 5 c s e s'
abbrev ExD(n:Nat)(c:Code)(s:aU aG)(Q:Ex->aU aG->Prop):Prop:=aJ X0 Qp T (iE (n+1)) D5 LL 136 ntE 5 c s Q
section
variable {n:Nat} {J:Jb} (hJ:kC J) {f:Nat} (t:List (V×Int)) {now:List (S3×Int)} {a:Nat}
include hJ
set_option maxRecDepth 20000 in
theorem agC(h:yG J a now)(aT:a<J.o.length):ExD n bLB (VP J f t now a []) fun e s=>e=.norm∧∃Kr,yG J (a+1) Kr∧lJ 5 [.gc [6]] (gU X0 (T.eX 136 (dW bLB)) s)=some (VP J f t Kr ((a+1:Nat):Int) []):=by
 have hr:J.o.drop a=J.o.getD a 0::J.o.drop (a+1):=by rw[a6G aT];simp[List.getD,a0q aT]
 have QL:J.o.length<=6:=by rw[(kC.o2 hJ).2.1];exact hJ.cu.len
 have t1:decide ((a:Int)<(J.o.length:Int))=true:=bD aT;have e0:bLB=.seq (eP bLB) (.seq (.cond (.tmp 24) .skip (.exit 0)) (.seq (.block 1 bB1) (eU (eU (eU bLB))))):=by kernel_rfl
 have e1:bB1=.seq (eP bB1) (.seq (eP (eU bB1)) (.seq (.seq (eP (eP (eU (eU bB1)))) (.block 2 (.loop bIB))) (eU (eU (eU bB1))))):=by kernel_rfl
 have x3:ExE n (eP bLB) (VP J f t now a []) .norm (VP J f t now a [(24,.val (.bool (decide ((a:Int)<(J.o.length:Int)))))]):=zL hX gG (by kernel_rfl) (.r rfl);have hc:A8 (VP J f t now a [(24,.val (.bool (decide ((a:Int)<(J.o.length:Int)))))]).env (.tmp 24)=some (.bool true):=by rw[<-t1];kernel_rfl
 have i1:gu (a:Int) J.o.length:=aH aT;have x4:ExE n (eP bB1) (VP J f t now a [(24,.val (.bool (decide ((a:Int)<(J.o.length:Int)))))]) .norm ⟨[(1,.val (.kU 4)),(2,.loc 0 0),(4,.val (.map 5)),(6,xi (J.o.getD a 0)),(21,xL 3 J.o),(22,xi J.o.length),(23,xi a)],[J.ps (.fn f [] [])],HN J f t now⟩:=zL hX gG (by kernel_rfl) (.o i1 (.r rfl));have x5:ExE n (eP (eU bB1)) ⟨[(1,.val (.kU 4)),(2,.loc 0 0),(4,.val (.map 5)),(6,xi (J.o.getD a 0)),(21,xL 3 J.o),(22,xi J.o.length),(23,xi a)],[J.ps (.fn f [] [])],HN J f t now⟩ .norm ⟨[(1,.val (.kU 4)),(2,.loc 0 0),(4,.val (.map 5)),(6,xi (J.o.getD a 0)),(7,.val (.map 6)),(21,xL 3 J.o),(22,xi J.o.length),(23,xi a)],[J.ps (.fn f [] [])],HN J f t now++[.map []]⟩:=zL hX gG (by kernel_rfl) (.r rfl);have x6:ExE n (eP (eP (eU (eU bB1)))) ⟨[(1,.val (.kU 4)),(2,.loc 0 0),(4,.val (.map 5)),(6,xi (J.o.getD a 0)),(7,.val (.map 6)),(21,xL 3 J.o),(22,xi J.o.length),(23,xi a)],[J.ps (.fn f [] [])],HN J f t now++[.map []]⟩ .norm ⟨a4m J (J.o.getD a 0) a,[J.ps (.fn f [] [])],HN J f t now++[.map (kS.im []),.dn 5 (kS.im now).length []]⟩:=zL hX gG (by kernel_rfl) (.r rfl);rw[kS.pO now]at x6;rw[e0];refine aJ.Bq (by kernel_rfl) x3 (aJ.seq (R:=fun e s=>e=.norm∧s=VP J f t now a [(24,.val (.bool (decide ((a:Int)<(J.o.length:Int)))))]) (aJ.cond (t:=true) hc (aJ.step (by kernel_rfl) (zL hX gG (an:=.n) (by kernel_rfl) (.r rfl)) ⟨rfl,rfl⟩)) (fun s hs=>?_) (fun i s h=>by cases h.1) (fun s h=>by cases h.1));obtain⟨_,rfl⟩:=hs;refine aJ.seq (R:=fun e s=>e=.norm∧∃next seen,yG J (a+1) next∧s=⟨[(1,.val (.kU 4)),(2,.loc 0 0),(4,.val (.map 6)),(21,xL 3 J.o),(22,xi J.o.length),(23,xi a)],[J.ps (.fn f [] [])],HI J f t now next seen⟩) ?_ (fun s hs=>?_) (fun i s h=>by cases h.1) (fun s h=>by cases h.1)
 .refine aJ.block ?_;rw[e1];refine(aJ.Bq (by kernel_rfl) x4 (aJ.Bq (by kernel_rfl) x5 (aJ.seq (R:=fun e s=>e=.norm∧∃next seen,NI J (a+1) next∧(∀ψ,dK (xQ J ψ (J.o.drop (a+1))) next=dK (xQ J ψ (J.o.getD a 0::J.o.drop (a+1))) now)∧s={ sH J f t now next (J.o.getD a 0) a seen with env:=jm (T.iy 136 7) ((31,.val (.bool false))::(30,.val (.dJ [.bool false]))::a4m J (J.o.getD a 0) a) }) (Q:=fun e s=>e=.norm∧∃next seen,yG J (a+1) next∧s=⟨[(1,.val (.kU 4)),(2,.loc 0 0),(4,.val (.map 6)),(21,xL 3 J.o),(22,xi J.o.length),(23,xi a)],[J.ps (.fn f [] [])],HI J f t now next seen⟩) (aJ.Bq (by kernel_rfl) x6 (inLoop (n:=n) hJ t now hr h)) (fun s hs=>?_) (fun i s h=>by cases h.1) (fun s h=>by cases h.1)))).mono fun e s h=>?_
  .obtain⟨_,next,seen,g1,g2,rfl⟩:=hs;refine aJ.step (by kernel_rfl) (zL (ps1:=⟨[(1,.val (.kU 4)),(2,.loc 0 0),(4,.val (.map 6)),(21,xL 3 J.o),(22,xi J.o.length),(23,xi a)],[J.ps (.fn f [] [])],HI J f t now next seen⟩) hX gG (an:=.n) (by kernel_rfl) (.r rfl)) ⟨rfl,next,seen,⟨g1,fun ψ=>?_⟩,rfl⟩;rw[g2,<-hr,h.s]
  obtain⟨rfl,h2⟩:=h;exact⟨rfl,h2⟩
 obtain⟨_,next,seen,g1,rfl⟩:=hs;refine aJ.step (by kernel_rfl) (zL (ps1:=⟨[(1,.val (.kU 4)),(2,.loc 0 0),(4,.val (.map 6)),(21,xL 3 J.o),(22,xi J.o.length),(23,xi (i64.wrap ((a:Int)+1)))],[J.ps (.fn f [] [])],HI J f t now next seen⟩) hX gG (an:=.n) (by kernel_rfl) (.r rfl)) ⟨rfl,next,g1,?_⟩;rw[yA (by unfold ah;omega)]
 kernel_rfl
set_option maxRecDepth 20000 in
theorem a8D:ExD n bLB (VP J f t now J.o.length []) fun e s=>e=.exit 0∧s=VP J f t now J.o.length [(24,.val (.bool (decide ((J.o.length:Int)<(J.o.length:Int)))))]:=by
 have t1:decide ((J.o.length:Int)<(J.o.length:Int))=false:=fD _;have e0:bLB=.seq (eP bLB) (.seq (.cond (.tmp 24) .skip (.exit 0)) (.seq (.block 1 bB1) (eU (eU (eU bLB))))):=by kernel_rfl
 have x3:ExE n (eP bLB) (VP J f t now J.o.length []) .norm (VP J f t now J.o.length [(24,.val (.bool (decide ((J.o.length:Int)<(J.o.length:Int)))))]):=zL hX gG (by kernel_rfl) (.r rfl);have hc:A8 (VP J f t now J.o.length [(24,.val (.bool (decide ((J.o.length:Int)<(J.o.length:Int)))))]).env (.tmp 24)=some (.bool false):=by rw[<-t1];kernel_rfl
 rw[e0];refine aJ.Bq (by kernel_rfl) x3 (aJ.seq (R:=fun e s=>e=.exit 0∧s=VP J f t now J.o.length [(24,.val (.bool (decide ((J.o.length:Int)<(J.o.length:Int)))))]) (aJ.cond (t:=false) hc (aJ.step (by kernel_rfl) (zL hX gG (an:=.n) (by kernel_rfl) (.r rfl)) ⟨rfl,rfl⟩)) (fun s hs=>by cases hs.1) (fun i s h=>h) (fun s h=>by cases h.1))
set_option maxRecDepth 20000 in
theorem abv(h:yG J 0 now):ExD n (.block 0 (.loop bLB)) (VP J f t now 0 []) fun e s=>e=.norm∧∃Kr,yG J J.o.length Kr∧s=VP J f t Kr J.o.length [(24,.val (.bool (decide ((J.o.length:Int)<(J.o.length:Int)))))]:=by
 have QL:J.o.length<=6:=by rw[(kC.o2 hJ).2.1];exact hJ.cu.len
 refine aJ.block ?_;refine aJ.loop (fun k s=>∃a Kr gs,a+k=J.o.length∧yG J a Kr∧lJ 5 gs (gU X0 (T.eX 136 (dW bLB)) s)=some (VP J f t Kr (a:Int) [])) (fun k s hi=>?_) (k:=J.o.length) ⟨0,now,[],by omega,h,by kernel_rfl⟩ (by unfold LL;omega);obtain⟨a,Kr,gs,hk,h1,h2⟩:=hi;refine aJ.ghost hX h2 ?_;rcases a4N a J.o.length with aT|EW
 .refine(agC (n:=n) hJ t h1 aT).mono fun e s h3=>?_;obtain⟨rfl,aqB,h4,h5⟩:=h3;exact⟨k-1,by omega,a+1,aqB,_,by omega,h4,h5⟩
 have:a=J.o.length:=by omega
 subst this;refine(a8D (n:=n) hJ t).mono fun e s h3=>?_;obtain⟨rfl,rfl⟩:=h3;dsimp only;rw[a0F rfl];exact⟨rfl,Kr,h1,rfl⟩
end
open Go Tw Pv bP
def Yx(φ:V->Int)(l:List V):Int:=if nG (l.drop 1)=true then φ (l.getD 0 V0)else 0
theorem agD(φ:V->Int)(l:List V)(w:Int)(t:List (V×Int)):dK φ (yT l w t)=dK φ t+w*Yx φ l:=by
 unfold yT Yx;cases nG (l.drop 1)
 .rw[a0E (by simp),a0E (by simp)];omega
 rw[a0F rfl,a0F rfl,zK]
abbrev sH2(J:Jb)(f:Nat)(t:List (V×Int))(now:List (S3×Int))(seen:List Nat):aU aG:=⟨[(1,.val (.kU 4)),(2,.loc 0 0),(94,.val (.iter 6))],[J.ps (.fn f [] [])],Rl J f true none t++[.map (kS.im now),.dn 5 now.length seen]⟩
structure a0r(t:List (V×Int)):Prop where
 nd:(t.map (·.1)).Nodup
 pos:∀e∈t,0<e.2
theorem a0r.y{t:List (V×Int)}(h:a0r t)(l:List V){w:Int}(hw:0<w):a0r (yT l w t):=by
 unfold yT;split
 .exact⟨Gg h.nd _ _,Pq hw h.pos⟩
 exact h
section
variable {n:Nat} {J:Jb} (hJ:kC J) {f:Nat} {now:List (S3×Int)}
def aqC(J:Jb)(f:Nat)(now:List (S3×Int))(seen:List Nat)(s:aU aG):Prop:=
 seen.Nodup∧(∀j∈seen,j<now.length)∧∃t,a0r t∧(∀φ,dK φ t=dZ (fun j=>(nowAt now j).2*Yx φ (aV J.D (nowAt now j).1)) seen)∧gU X0 (T.eX 136 (dW bL2)) s=sH2 J f t now seen
theorem alr(l:List V):0<=Yx (fun _=>1) l∧Yx (fun _=>1) l<=1:=by unfold Yx;split<;>simp
include hJ
theorem agE(h:yG J J.o.length now){seen:List Nat}(jH:seen.Nodup)(aT:∀j∈seen,j<now.length){t:List (V×Int)}(ht:a0r t)(hs:∀φ,dK φ t=dZ (fun j=>(nowAt now j).2*Yx φ (aV J.D (nowAt now j).1)) seen):Tal t:=by
 refine⟨ht.nd,ht.pos,fun e he=>?_⟩;have h1:=(II ht.pos).2 e he;have hp:∀j,j<now.length->0<(nowAt now j).2:=fun k hk=>h.i.pos _ (dI (d:=(⟨⟨0,0,0⟩,0⟩:S3×Int)) hk);have h2:=VO (φ:=fun j=>(nowAt now j).2*Yx (fun _=>1) (aV J.D (nowAt now j).1)) jH aT fun k hk=>agG (afU (hp k hk)) (alr _).1;have h3:dZ (fun j=>(nowAt now j).2*Yx (fun _=>1) (aV J.D (nowAt now j).1)) (List.range now.length)<=dZ (fun j=>(nowAt now j).2*1) (List.range now.length):=by
  have:∀l:List Nat,(∀j∈l,j<now.length)->dZ (fun j=>(nowAt now j).2*Yx (fun _=>1) (aV J.D (nowAt now j).1)) l<=dZ (fun j=>(nowAt now j).2*1) l:=by
   intro l
   induction l with
   |nil=>intro _;exact a9r _
   |cons j l ih=>
    intro hl;have:=ih fun k hk=>hl k (by simp[hk]);have:=a9k (alr (aV J.D (nowAt now j).1)).2 (afU (hp j (hl j (by simp))));simp only[dZ];omega
  exact this _ fun j hj=>a4P.1 hj
 rw[IJ (φ:=fun _=>1)]at h3;have h4:=Nw hJ now h;rw[List.drop_length]at h4;have h4:dK (fun _=>1) now<=2000:=h4;rw[<-hs]at h2;omega
set_option maxRecDepth 20000 in
theorem a4n(hO:Ok n su)(h:yG J J.o.length now)(hD:0<J.D.length):aJ X0 Qp T (iE (n+1)) D5 LL 136 ntE 5 (.block 7 (.loop bL2)) (sH2 J f [] now [])
  fun e s=>e=.norm∧∃t seen,a0r t∧(∀φ,dK φ t=dK (fun st=>Yx φ (aV J.D st)) now)∧s={ sH2 J f t now seen with env:=jm (T.iy 136 23) ((96,.val (.bool false))::(95,.val (.dJ [.bool false]))::(sH2 J f t now seen).env) }:=by
 have e0:bL2=.seq (.region 23 (a7l (eP bL2)) false) (.seq (.cond (.tmp 96) .skip (.exit 7)) (.block 8 bX2)):=by kernel_rfl
 rw[e0];have hlen:=a2x hJ now h;refine Vl hX (n:=now.length) (b:=6) (r:=5) (it:=94) (nx:=95) (mo:=96) (es:=kS.im now) (fun seen s=>aqC J f now seen s) (by kernel_rfl) (a7X (by kernel_rfl)) (a7X (by kernel_rfl)) (kS.pO now) (by unfold LL;omega)
  ⟨a6x,(fun j hj=>(by cases hj)),[],⟨a6x,(fun e he=>(by cases he))⟩,(fun φ=>rfl),(by kernel_rfl)⟩ (fun seen s hi=>?_)
 obtain⟨jH,aT,t,h1,h2,h3⟩:=hi;rw[<-e0];refine⟨_,h3,by kernel_rfl,by kernel_rfl,by kernel_rfl,fun ho=>⟨by kernel_rfl,t,seen,h1,fun φ=>?_,rfl⟩,fun j e hj he=>⟨by kernel_rfl,?_⟩⟩
 .rw[h2,Qo jH aT ho,IJ (φ:=fun st=>Yx φ (aV J.D st))]
 .rw[kS.Bj,a0l]at he;obtain⟨⟨st,w⟩,sF,rfl⟩:=he;obtain⟨q1,q2,q3⟩:=Yv sF;have Gn:(j::seen).Nodup:=a4U.2 ⟨hj,jH⟩;have Gp:∀k∈j::seen,k<now.length:=fun k hk=>by
   rcases a1Y.1 hk with rfl|hk
   .exact q2
   .exact aT k hk
  have ho:=a2w sF;have pV:(aV J.D st).length=J.D.length:=by simp[aV]
  have hw:=h.i.pos _ q3;have hc:=a2s (M:=n) (f:=f) J st hJ.d3 fun k hk=>(JV hJ (h.i.dp _ q3) hk).2;have hd3:=hJ.d3;have hy:=aqv (n:=n) hO J f (agE hJ h jH aT h1 h2) (aV J.D st) (w:=w) (by omega) (by unfold ah;omega) ⟨hw,hlen.2 _ q3⟩;refine aJ.step (e:=.norm) (by kernel_rfl) (zL (ps1:=⟨[(1,.val (.kU 4)),(2,.loc 0 0),(94,.val (.iter 6)),(106,xl false)],[J.ps (.fn f [] []),st.ps],Rl J f true none (yT (aV J.D st) w t)++[.map (kS.im now),.dn 5 now.length (j::seen)]⟩) hX gG (by kernel_rfl) (.c (.dJ [.agg st.ps,.int .i64 w]) [] ho (.fr [] hc (.fr [0,1,2,3,4] hy (.b (rfl:(!true)=false) (.r rfl)))))) ⟨.inl rfl,Gn,Gp,yT (aV J.D st) w t,h1.y _ hw,fun φ=>?_,by kernel_rfl⟩;rw[agD,h2,dZ,q1,ahy]
def a8E(J:Jb)(t:List (V×Int)):Prop:=a0r t∧∀φ,dK φ t=dZ (fun q=>Yx φ (J.D.map fun d=>xP d q)) (IE J)
omit hJ in
theorem a4o(hJ:kC J):yG J 0 [(fG J.D,1)]:=by
 refine⟨⟨by simp,fun e he=>?_,fun e he=>?_⟩,fun ψ=>?_⟩
 .rw[a1S.1 he];show(0:Int)<1;decide
 .rw[a1S.1 he];exact Yq hJ
 simp[dK]
set_option maxRecDepth 20000 in
theorem als(hO:Ok n su)(hD:0<J.D.length):aaz X0 Qp (uY Qp T (iE (n+1)) LL) (.fn 136 [.agg (J.ps (.fn f [] []))] []) [.kU 4] (Rl J f true none []) fun v H1=>∃(t:List (V×Int)) (G:List (PB aG)),a8E J t∧H1=Rl J f true none t++G:=by
 refine a1O (t:=TG Qp 136) hX (by kernel_rfl) ?_;have e0:(TG Qp 136).body=.seq (eP Rk) (.seq (eP (eU Rk)) (.seq (.seq (eP (eP (eU (eU Rk)))) (.block 0 (.loop bLB))) (.seq (eP (eU (eU (eU Rk)))) (.block 7 (.loop bL2))))):=by kernel_rfl
 rw[e0];have hs:=a0m (M:=n) (f:=f) (a:=[]) (cc:=[]) (H:=[]) J hJ.d3;have hf:nY X0 Qp 148 (kS.es []) (kS.tv (fG J.D)):=kS.fresh (x:=fG J.D) (by simp);have x0:ExE n (eP Rk) ⟨lu X0 0 [.agg (J.ps (.fn f [] [])),.kU 4],[],Rl J f true none []⟩ .norm ⟨[(1,.val (.kU 4)),(2,.loc 0 0)],[J.ps (.fn f [] [])],Rl J f true none []⟩:=zL hX gG (an:=.n) (by kernel_rfl) (.r rfl);have x1:ExE n (eP (eU Rk)) ⟨[(1,.val (.kU 4)),(2,.loc 0 0)],[J.ps (.fn f [] [])],Rl J f true none []⟩ .norm ⟨[(1,.val (.kU 4)),(2,.loc 0 0),(4,.val (.map 5))],[J.ps (.fn f [] [])],HN J f [] [(fG J.D,1)]⟩:=zL hX gG (by kernel_rfl) (.fr [] hs (.q (.bool false) (kS.ck (fG J.D)) (.o hf (.r rfl))));have x2:ExE n (eP (eP (eU (eU Rk)))) ⟨[(1,.val (.kU 4)),(2,.loc 0 0),(4,.val (.map 5))],[J.ps (.fn f [] [])],HN J f [] [(fG J.D,1)]⟩ .norm (VP J f [] [(fG J.D,1)] 0 []):=zL hX gG (an:=.n) (by kernel_rfl) (.r rfl);refine aJ.Bq (by kernel_rfl) x0 (aJ.Bq (by kernel_rfl) x1 (aJ.seq (R:=fun e s=>e=.norm∧∃Kr,yG J J.o.length Kr∧s=VP J f [] Kr J.o.length [(24,.val (.bool (decide ((J.o.length:Int)<(J.o.length:Int)))))]) (aJ.Bq (by kernel_rfl) x2 (abv (n:=n) hJ [] (a4o hJ))) (fun s h=>?_) (fun i s h=>by cases h.1) (fun s h=>by cases h.1)));obtain⟨_,now,h1,rfl⟩:=h;have x3:ExE n (eP (eU (eU (eU Rk)))) (VP J f [] now J.o.length [(24,.val (.bool (decide ((J.o.length:Int)<(J.o.length:Int)))))]) .norm ⟨[(1,.val (.kU 4)),(2,.loc 0 0),(94,.val (.iter 6))],[J.ps (.fn f [] [])],Rl J f true none []++[.map (kS.im now),.dn 5 (kS.im now).length []]⟩:=zL hX gG (an:=.n) (by kernel_rfl) (.r rfl);rw[kS.pO now]at x3;refine aJ.Bq (by kernel_rfl) x3 ((a4n hJ hO h1 hD).mono fun e s h=>?_);obtain⟨rfl,t,seen,g1,g2,rfl⟩:=h;refine⟨.inl rfl,[],by kernel_rfl,t,[.map (kS.im now),.dn 5 now.length seen],⟨g1,fun φ=>?_⟩,rfl⟩;rw[g2];have:=h1.s fun st=>Yx φ (aV J.D st);rw[List.drop_length]at this;rw[<-abn hJ (Yx φ)];exact this
end
open Go Tw Pv bP
def Qq(J:Jb):List (List V):=(IE J).map fun q=>J.D.map fun d=>xP d q
def iM(J:Jb):List V:=((Qq J).filter fun l=>nG (l.drop 1)).map fun l=>l.getD 0 V0
abbrev VQ(e:V×Int):LI0:=Sr e.1.tv
def bW(J:Jb):List (V×Int):=zB VQ (yS (iM J))
theorem a2y(φ:V->Int):∀L:List (List V),dZ (Yx φ) L=dZ φ ((L.filter fun l=>nG (l.drop 1)).map fun l=>l.getD 0 V0)
 | []=>rfl
 |l::L=>by
  rw[dZ,a2y φ L];unfold Yx;cases h:nG (l.drop 1)
  .rw[a0E (by simp),adV (by rw[h];simp)];omega
  rw[a0F rfl,adW (by rw[h]),a4M,dZ]
theorem key_inj{l:List (V×Int)}(hn:(l.map (·.1)).Nodup):∀a∈l,∀b∈l,VQ a=VQ b->a=b:=fun a ha b hb h=>by
 have h1:a.1=b.1:=by have h:[a.1.f,a.1.n]=[b.1.f,b.1.n]:=h;simp only[aeG,and_true]at h;obtain⟨⟨a1,a2⟩,_⟩:=a;obtain⟨⟨b1,b2⟩,_⟩:=b;simp only at h;rw[h.1,h.2]
 have h2:=yD hn ha;have h3:=yD hn hb;rw[h1,h3]at h2;exact adu h1 h2.symm
theorem a8F{J:Jb}{t:List (V×Int)}(h:a8E J t):t.Perm (yS (iM J)):=by obtain⟨f1,f2⟩:=AV (iM J);refine Vj h.1.nd f1 h.1.pos f2 fun φ=>?_;rw[h.2,TA];unfold iM;rw[<-a2y];unfold Qq;rw[zV]
theorem a8G{J:Jb}{t:List (V×Int)}(h:a8E J t):zB VQ t=bW J:=Fq (a8F h) (key_inj h.1.nd)
abbrev abw(e:V×Int):TV×TV:=(e.1.tv,.int .i64 e.2)
theorem VT:∀t:List (V×Int),wW (kV.im t)=some (t.map abw)
 | []=>rfl
 |e::t=>by
  have:=VT t;show(match qw (kV.pv e.1),qw (PV.int .i64 e.2:PV aG),wW (kV.im t)with
   |some k,some v,some r=>some ((k,v)::r)
   |_,_,_=>none)=_
  rw[this];rfl
section
variable {n:Nat} {J:Jb} (hJ:kC J) {f:Nat}
include hJ
set_option maxRecDepth 20000 in
theorem Qr(hO:Ok n su)(hD:0<J.D.length):iJ (n+2) (.fn 87 [] []) [.agg (J.ps (.fn f [] []))] [] (.map 0) [.map (kV.im (bW J))]:=by
 refine a7i (X:=X0) (P:=Qp) (T:=T) (L:=LL) (n:=n+1) (f:=87) (first:=[]) (cap:=[]) (H:=[]) (t:=TG Qp 87) (es0:=kV.im (bW J)) (a3H:=(bW J).map abw) hX (by kernel_rfl) (by kernel_rfl) (by kernel_rfl) rfl (VT _) ?_;have e0:(TG Qp 87).body=.seq (eP Yt) (.seq (eP (eU Yt)) (.seq (.seq (eP (eP (eU (eU Yt)))) (.block 0 (.rangeFunc (.tmp 8) #[9,10] (wV Qp 87) (AU Qp 87)))) (.seq (eP (eU (eU (eU Yt)))) .ret))):=by kernel_rfl
 rw[e0];have x0:dR X0 Qp T (iE (n+1)) LL 87 false (Cc Qp 87) 0 (eP Yt) ⟨lu X0 0 [.agg (J.ps (.fn f [] []))],[],[]⟩ .norm ⟨[(1,.val (.ptr 0 0 5)),(2,.val (.nil .map))],[],[.cells (J.ps (.fn f [] []))]⟩:=zL hX gG (an:=.n) (by kernel_rfl) (.r rfl);have x1:dR X0 Qp T (iE (n+1)) LL 87 false (Cc Qp 87) 0 (eP (eU Yt)) ⟨[(1,.val (.ptr 0 0 5)),(2,.val (.nil .map))],[],[.cells (J.ps (.fn f [] []))]⟩ .norm ⟨[(1,.val (.ptr 0 0 5)),(2,.val (.nil .map)),(3,.val (.ptr 2 0 1))],[],HQc J f []⟩:=zL hX gG (an:=.n) (by kernel_rfl) (.r rfl);have x2:dR X0 Qp T (iE (n+1)) LL 87 false (Cc Qp 87) 0 (eP (eP (eU (eU Yt)))) ⟨[(1,.val (.ptr 0 0 5)),(2,.val (.nil .map)),(3,.val (.ptr 2 0 1))],[],HQc J f []⟩ .norm ⟨a8z J f,[],HQc J f []⟩:=zL hX gG (an:=.n) (by kernel_rfl) (.r rfl);refine aJ.Bq (by kernel_rfl) x0 (aJ.Bq (by kernel_rfl) x1 (aJ.seq (R:=fun e s=>e=.norm∧∃(t:List (V×Int)) (G:List (PB aG)),a8E J t∧s=⟨a8z J f,[],Rl J f false (some .skip) t++G⟩) (aJ.Bq (by kernel_rfl) x2 (aJ.block ?_)) (fun s h=>?_) (fun i s h=>by cases h.1) (fun s h=>by cases h.1)))
 .refine aJ.range (f1:=136) (a1:=[.agg (J.ps (.fn f [] []))]) (b1:=[]) (K:=fun v H1=>∃(t:List (V×Int)) (G:List (PB aG)),a8E J t∧H1=Rl J f true none t++G) hX rfl (by kernel_rfl) (by kernel_rfl) (als hJ hO hD) (fun v H1 hk=>?_);obtain⟨t,G,h1,rfl⟩:=hk;exact⟨true,_,_,_,_,_,_,none,.norm,rfl,rfl,rfl,t,G,h1,rfl⟩
 obtain⟨_,t,G,h1,rfl⟩:=h;have x3:dR X0 Qp T (iE (n+1)) LL 87 false (Cc Qp 87) 0 (.seq (eP (eU (eU (eU Yt)))) .ret) ⟨a8z J f,[],Rl J f false (some .skip) t++G⟩ .ret ⟨[(2,.val (.map 1))],[],Rl J f false (some .skip) t++G⟩:=zL hX gG (an:=.n) (by kernel_rfl) (.r rfl);refine aJ.step (by kernel_rfl) x3 ⟨.inr rfl,[.map 1],by kernel_rfl,1,kV.im t,t.map abw,rfl,rfl,VT t,?_⟩;unfold Sz;rw[TD (g:=abw) (key:=VQ) (a7e:=fun e=>Sr e.1) (fun _=>rfl),a8G h1]
end
open Go Tw Pv bP
abbrev Qs(t:List (V×Int))(j:Nat):V×Int:=t.getD j (V0,0)
theorem VU{t:List (V×Int)}{j:Nat}{e:V×Int}(h:t[j]? = some e):Qs t j=e∧j<t.length∧e∈t:=by obtain⟨h1,h2⟩:=a0h.1 h;exact⟨by simp[Qs,List.getD,h],h1,h2▸a4Z h1⟩
theorem agF(t:List (V×Int)):t=(List.range t.length).map fun j=>Qs t j:=
 (qx (d:=((V0,0):V×Int)) (by simp)).2 fun k hk=>by simp[List.getD,hk]
theorem Yy(t:List (V×Int)):dZ (fun j=>(Qs t j).2) (List.range t.length)=dK (fun _=>1) t:=by
 have h1:dK (fun _=>1) t=dZ (fun e:V×Int=>e.2) t:=by
  induction t with
  |nil=>rfl
  |cons e m ih=>simp only[dK,dZ,ih,acE]
 rw[h1]
 conv=>rhs;rw[agF t]
 rw[zV]
theorem Bv{t:List (V×Int)}{j:Nat}{v:V}{w:Int}(h:t[j]? = some (v,w)):(kV.im t).length=t.length∧(kV.im t)[j]? = some (.agg v.ps,.int .i64 w):=by refine⟨kV.pO t,?_⟩;rw[kV.Bj,h];rfl
structure Kt(t:List (V×Int)):Prop where
 pos:∀e∈t,0<e.2
 tot:dK (fun _=>1) t<=2000
theorem Kt.len{t:List (V×Int)}(h:Kt t):t.length<=2000:=by
 have h6:∀{m:List (V×Int)},(∀e∈m,0<e.2)->(m.length:Int)<=dK (fun _=>1) m:=by
  intro m
  induction m with
  |nil=>intro _;exact a9r _
  |cons e m ih=>
   intro hp;have:=ih fun e he=>hp e (by simp[he]);have:=hp e (by simp);simp only[dK,a4K,acE];omega
 have:=h6 h.pos;have:=h.tot;omega
abbrev a4p:Code:=(TG Qp 90).body
abbrev lpA:Code:=eP (eP (eU (eP (eU a4p))))
abbrev xA:Code:=eP (eU (eU lpA))
abbrev sA(t:List (V×Int))(z:Int)(js:List Nat):aU aG:=⟨[(2,xi z),(6,.val (.iter 1))],[],[.iG (kV.im t),.dn 0 t.length js]⟩
section
variable {n:Nat} {t:List (V×Int)}
set_option maxRecDepth 20000 in
theorem aqD(h:Kt t):iJ (n+1) (.fn 90 [] []) [.map 0] [.iG (kV.im t)] (.int .i64 (dK (fun _=>1) t)) [.iG (kV.im t)]:=by
 refine aaA (X:=X0) (P:=Qp) (T:=T) (L:=LL) (n:=n) (f:=90) (first:=[]) (cap:=[]) (xs:=[.map 0]) (H:=[.iG (kV.im t)]) (v:=.int .i64 (dK (fun _=>1) t)) (t:=TG Qp 90) (tv:=.int .i64 (dK (fun _=>1) t)) hX (by kernel_rfl) (by kernel_rfl) (by kernel_rfl) rfl rfl ?_;have e0:(TG Qp 90).body=.seq (eP a4p) (.seq (.seq (eP (eP (eU a4p))) (.block 0 (.loop lpA))) (.seq (eP (eU (eU a4p))) .ret)):=by kernel_rfl
 have e1:lpA=.seq (.region 2 (a7l (eP lpA)) false) (.seq (.cond (.tmp 8) .skip (.exit 0)) (.block 1 xA)):=by kernel_rfl
 have x0:dR X0 Qp T (iE n) LL 90 false (Cc Qp 90) 1 (eP a4p) ⟨lu X0 0 [.map 0],[],[.iG (kV.im t)]⟩ .norm ⟨[(0,.val (.map 0)),(2,xi 0)],[],[.iG (kV.im t)]⟩:=zL hX gG (an:=.n) (by kernel_rfl) (.r rfl);have x1:dR X0 Qp T (iE n) LL 90 false (Cc Qp 90) 1 (eP (eP (eU a4p))) ⟨[(0,.val (.map 0)),(2,xi 0)],[],[.iG (kV.im t)]⟩ .norm ⟨[(2,xi 0),(6,.val (.iter 1))],[],[.iG (kV.im t),.dn 0 (kV.im t).length []]⟩:=zL hX gG (an:=.n) (by kernel_rfl) (.r rfl);rw[kV.pO t]at x1;have hlen:=h.len;have hpj:∀j,j<t.length->0<(Qs t j).2:=fun k hk=>h.pos _ (dI (d:=((V0,0):V×Int)) hk);rw[e0];refine aJ.Bq (by kernel_rfl) x0 (aJ.seq (R:=fun e s=>e=.norm∧∃seen,s={ sA t (dK (fun _=>1) t) seen with env:=jm (T.iy 90 2) ((8,.val (.bool false))::(7,.val (.dJ [.bool false]))::(sA t (dK (fun _=>1) t) seen).env) }) (aJ.Bq (by kernel_rfl) x1 ?_) (fun s hs=>?_) (fun i s h=>by cases h.1) (fun s h=>by cases h.1))
 .rw[e1];refine Vl hX (n:=t.length) (b:=1) (r:=0) (it:=6) (nx:=7) (mo:=8) (es:=kV.im t) (fun seen s=>seen.Nodup∧(∀j∈seen,j<t.length)∧gU X0 (T.eX 90 (dW lpA)) s=sA t (dZ (fun j=>(Qs t j).2) seen) seen) (by kernel_rfl) (a7X (by kernel_rfl)) (a7X (by kernel_rfl)) (kV.pO t) (by unfold LL;omega)
   ⟨a6x,(fun j hj=>(by cases hj)),(by kernel_rfl)⟩ (fun seen s hi=>?_)
  obtain⟨jH,aT,h3⟩:=hi;rw[<-e1];refine⟨_,h3,by kernel_rfl,by kernel_rfl,by kernel_rfl,fun ho=>⟨by kernel_rfl,seen,?_⟩,fun j e hj he=>⟨by kernel_rfl,?_⟩⟩
  .rw[Qo jH aT ho,Yy]
  rw[kV.Bj,a0l]at he;obtain⟨⟨v,w⟩,sF,rfl⟩:=he;obtain⟨q1,q2,q3⟩:=VU sF;have Gn:(j::seen).Nodup:=a4U.2 ⟨hj,jH⟩;have Gp:∀k∈j::seen,k<t.length:=fun k hk=>by
   rcases a1Y.1 hk with rfl|hk
   .exact q2
   exact aT k hk
  have hb:=VO (φ:=fun j=>(Qs t j).2) Gn Gp fun k hk=>afU (hpj k hk);have zZ:=VN (φ:=fun j=>(Qs t j).2) (l:=seen) fun k hk=>afU (hpj k (aT k hk));rw[Yy,dZ,q1]at hb;have ht:=h.tot;have hw:=h.pos _ q3;have YL:i64.wrap (dZ (fun j=>(Qs t j).2) seen+w)=dZ (fun j=>(Qs t j).2) (j::seen):=by rw[fK (by have:(0:Int)<w:=hw;omega) (by have:w+dZ (fun j=>(Qs t j).2) seen<=dK (fun _=>1) t:=hb;omega),dZ,q1,ahy]
  refine aJ.step (e:=.norm) (by kernel_rfl) (zL (ps1:=⟨[(2,xi (i64.wrap (dZ (fun j=>(Qs t j).2) seen+w))),(6,.val (.iter 1))],[],[.iG (kV.im t),.dn 0 t.length (j::seen)]⟩) hX gG (by kernel_rfl) (.c (.dJ [.agg v.ps,.int .i64 w]) [] (Bv sF) (.r rfl))) ⟨.inl rfl,Gn,Gp,?_⟩;rw[YL]
  kernel_rfl
 obtain⟨_,seen,rfl⟩:=hs;exact aJ.step (by kernel_rfl) (zL (e:=.ret) (ps1:=⟨[(2,xi (dK (fun _=>1) t))],[],[.iG (kV.im t),.dn 0 t.length seen]⟩) hX gG (an:=.n) (by kernel_rfl) (.r rfl)) ⟨.inr rfl,[.int .i64 (dK (fun _=>1) t)],by kernel_rfl,rfl⟩
end
end Go.Proofs.YtmobpoiejckagaaGreat
