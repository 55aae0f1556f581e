/- Part 6 of a proof: ApplyAnswers -/
import Derived.Test.YtmobpoiejckagaaGreatP04
set_option linter.constructorNameAsVariable false
set_option linter.unusedVariables false
set_option linter.unusedSimpArgs false
set_option linter.unusedSectionVars false
open Go.IntKind (i64)
noncomputable section
namespace Go.Proofs.YtmobpoiejckagaaGreat
open Go Tw Pv bK
def lJ(s o:LI0)(l:List V):Dg:=⟨s,o,(jh s l o (List.replicate s.length 0) ([],[])).2.1,(jh s l o (List.replicate s.length 0) ([],[])).2.2,(jh s l o (List.replicate s.length 0) ([],[])).1⟩
theorem QO:∀{s},nZ s->jR s (List.replicate s.length 0)=true
 | [],_=>rfl
 |a::s,h=>by have:=h a (a3K ..);simp only[a4C,afn,jR,a2n,a1x];exact⟨⟨a8Z _,by omega⟩,QO h.tail⟩
open Go Tw Pv bK
theorem a8X{a b}(ha:a.length<=12)(he:a.length=b.length)(h:Jk a=Jk b):a=b:=by
 have e:∀l:LI0,l.length<=12->(Jk l).take l.length=l:=fun l hl=>by unfold Jk;rw[afB,a7z hl,List.take_left]
 rw[<-e a ha,<-e b (by omega),h,he]
def NOk(s:LI0)(N:List Br):Prop:=∀b∈N,gG b.var s.length/\(b.aA.length:Int)=s.getD b.var.toNat 0
theorem a8Y{s}(hs:nZ s){N}(h:NOk s N){c ks}(hc:gG c s.length)(hk:(ks.length:Int)=s.getD c.toNat 0){b}(hb:b∈N):Di b=uX c ks↔b=⟨c,ks⟩:=by
 constructor
 .intro e;obtain⟨v,l⟩:=b;have e1:v=c:=congrArg Prod.fst e;subst e1;have e2:Jk l=Jk ks:=congrArg (fun x:Ky=>x.2.1) e;have hl:=(h _ hb).2;have hl:(l.length:Int)=s.getD v.toNat 0:=hl;have hz:=hs _ (dG (s:=s) (k:=v.toNat) (by have:=hc.1;have:=hc.2;omega));rw[a8X (by omega) (by omega) e2]
 rintro rfl;rfl
theorem YW{s}(hs:nZ s){N}(h:NOk s N){c ks}(hc:gG c s.length)(hk:(ks.length:Int)=s.getD c.toNat 0):eH N c ks=Hz N c ks/\dH N c ks=qL N c ks:=by
 have hm:uX c ks∈N.map Di↔(⟨c,ks⟩:Br)∈N:=by
  rw[a1w];constructor
  .rintro⟨b,hb,e⟩;rw[(a8Y hs h hc hk hb).1 e]at hb;exact hb
  intro hb;exact⟨_,hb,rfl⟩
 have hi:(N.map Di).idxOf (uX c ks)=N.idxOf (⟨c,ks⟩:Br):=by
  clear hm
  induction N with
  |nil=>rfl
  |cons b N ih=>
   have e:=a8Y hs h hc hk (b:=b) (by simp);rw[a4U,aeS,aeS,ih fun b hb=>h b (by simp[hb])];have:(Di b==uX c ks)=(b==(⟨c,ks⟩:Br)):=by rw[a5S,a6x,a6x];exact e
   rw[this]
 unfold eH Hz dH qL;rw[hi];refine⟨rfl,?_⟩;split
 .rfl
 by_cases g:uX c ks∈N.map Di
 .rw[a1e g,a1e (hm.1 g)]
 rw[a18 g,a18 fun x=>g (hm.2 x)]
open Go Tw Pv bK
theorem ac8{s a b}(h:a.Perm b):wO s a=wO s b:=by
 induction h with
 |nil=>rfl
 |cons x _ ih=>simp only[wO,ih]
 |swap x y l=>simp only[wO];rw[<-Nat.mul_assoc,<-Nat.mul_assoc,Nat.mul_comm (s.getD y.toNat 0).toNat]
 |trans _ _ i1 i2=>rw[i1,i2]
theorem YX{s}(hs:nZ s):∀(m k),k+m=s.length->(wO s ((List.range' k m).map fun(j:Nat)=>(j:Int)):Int)=bF (s.drop k)
 | 0,k,h=>by rw[ag0 (by omega)];rfl
 |m+1,k,h=>by
  have hk:k<s.length:=by omega
  have hz:=hs _ (dG (s:=s) (k:=k) hk);rw[List.range'_succ,a4U,wO,Qj hk,afp,YX hs m (k+1) (by omega),a5R,ait (by omega)]
theorem HY{s o}(hs:nZ s)(h:kD s.length o=true):(wO s o:Int)=bF s:=by have h':=h;unfold kD at h';rw[a1x]at h';have hi:=Us s.length;have wS:=hi;unfold kD at wS;rw[a1x]at wS;have hp:o.Perm (dU s.length):=(a7x h'.2.2 wS.2.2).2 fun a=>⟨fun ha=>mP hi (h'.2.1 a ha),fun ha=>mP h (wS.2.1 a ha)⟩;rw[ac8 hp];have:=YX hs s.length 0 (by omega);rw[<-List.range_eq_range']at this;exact this
open Go Tw Pv bK
inductive To(d:Dg)(q:LI0):Int->V->Prop
 |fin {r:Int} (h:r<0):To d q r (d.aK.getD (ji r).toNat V0)
 |step {r:Int} {c:V} (h:0<=r) (t:To d q ((ay d r).aA.getD (q.getD (ay d r).var.toNat 0).toNat 0) c):To d q r c
theorem To.at_{d}(h:D6 d){q}(hq:jR d.aj q=true){r c}(t:To d q r c):∀F:Nat,r<F->jM d r d.au.length->c=d.aK.getD (ji (Wq d q F r)).toNat V0:=by
 induction t with
 |fin hr=>
  intro F _ _;cases F with
  |zero=>rfl
  |succ F=>rw[Wq,a1e hr]
 |step hr _ ih=>
  intro F hF hk;cases F with
  |zero=>omega
  |succ F=>
   rw[Wq,a18 (by omega)];have:=(QG h hq ⟨hr,hk.1⟩).2.2;exact ih F (by have:=this.1;omega) ⟨by have:=this.1;have:=hk.1;omega,this.2⟩
theorem To.of{d}(h:D6 d){q}(hq:jR d.aj q=true):∀(F:Nat) (r:Int),r<F->jM d r d.au.length->To d q r (d.aK.getD (ji (Wq d q F r)).toNat V0)
 | 0,r,hr,_=>.fin (by omega)
 |F+1,r,hr,hk=>by
  rw[Wq];split
  .rename_i c;exact .fin c
  rename_i c;have:=(QG h hq ⟨by omega,hk.1⟩).2.2;exact .step (by omega) (To.of h hq F _ (by have:=this.1;omega) ⟨by have:=this.1;have:=hk.1;omega,this.2⟩)
theorem To.det{d q r a b}(h:To d q r a):To d q r b->a=b:=by
 induction h with
 |fin hr=>intro g;cases g with
  |fin _=>rfl
  |step h _=>omega
 |step hr _ ih=>intro g;cases g with
  |fin h=>omega
  |step _ t=>exact ih t
theorem BM(E v):E <+: gK E v:=by
 unfold gK;split
 .exact a5P
 exact a9G _ _
theorem Jq(N c ks):N <+: qL N c ks:=by
 unfold qL;split
 .exact a5P
 split
 .exact a5P
 exact a9G _ _
def QS(x y:EN):Prop:=x.1 <+: y.1/\x.2 <+: y.2
theorem QS.rfl{x}:QS x x:=⟨a5P,a5P⟩
theorem QS.trans{x y z}(a:QS x y)(b:QS y z):QS x z:=⟨a.1.trans b.1,a.2.trans b.2⟩
theorem QU{s l}:∀(r p) (x),QS x (jh s l r p x).2
 | [],p,x=>⟨BM _ _,a5P⟩
 |c::r,p,x=>by have:=dh (g:=D8 (jh s l r) c p) (m:=(s.getD c.toNat 0).toNat) (k:=0) (s:=([],x)) (fun _ y=>QS x y.2) QS.rfl (fun j y _ _ hy=>hy.trans (QU r _ y.2));exact⟨this.1,this.2.trans (Jq _ _ _)⟩
theorem Ak{α:Type}{a b:List α}{d}(h:a <+: b){k}(hk:k<a.length):b.getD k d=a.getD k d:=by obtain⟨t,rfl⟩:=h;simp[List.getD,a0U hk]
theorem QV{k:Nat}(hk:k<2^61):i64.wrap (-1-(k:Int))=-1-(k:Int)/\ji (-1-(k:Int))=(k:Int):=by refine⟨fV (by omega) (by omega),?_⟩;unfold ji;rw[fV (by omega) (by omega)];omega
theorem UD(E v):E.idxOf v<(gK E v).length/\(gK E v).getD (E.idxOf v) V0=v:=by
 unfold gK;split
 .rename_i h;have:=a5Q.2 h;exact⟨this,by simp[List.getD,a0Q this]⟩
 rename_i h;rw[a9g h];exact⟨by simp,by simp[List.getD]⟩
theorem WE{N c ks}(hf:¬(ks.all fun x=>x==ks.getD 0 0)=true):N.idxOf (⟨c,ks⟩:Br)<(qL N c ks).length/\(qL N c ks).getD (N.idxOf (⟨c,ks⟩:Br)) lH=⟨c,ks⟩:=by
 unfold qL;rw[a18 hf];split
 .rename_i h;have:=a5Q.2 h;exact⟨this,by simp[List.getD,a0Q this]⟩
 rename_i h;rw[a9g h];exact⟨by simp,by simp[List.getD]⟩
def Agr(s r q p:LI0):Prop:=∀k:Nat,k<s.length->(k:Int)∉r->q.getD k 0=p.getD k 0
theorem Agr.set{s r q p c}(hc:gG c s.length)(hp:p.length=s.length)(h:Agr s (c::r) q p):Agr s r q (p.set c.toNat (q.getD c.toNat 0)):=fun k hk hr=>by
 by_cases e:k=c.toNat
 .subst e;have e2:(p.set c.toNat (q.getD c.toNat 0)).getD c.toNat 0=q.getD c.toNat 0:=by simp[List.getD,a2w (show c.toNat<p.length by omega)]
  exact e2.symm
 .rw[show(p.set c.toNat (q.getD c.toNat 0)).getD k 0=p.getD k 0 by rw[List.getD,a1y (afJ e)];rfl];exact h k hk (by simp only[a1E,adl];exact⟨fun e2=>e (by omega),hr⟩)
theorem Agr.back{s r q p c j}(hc:gG c s.length)(h:Agr s r q (p.set c.toNat j)):Agr s (c::r) q p:=fun k hk hr=>by simp only[a1E,adl]at hr;have hc:=hc.1;have e:k≠c.toNat:=fun e=>hr.1 (by omega);have:=h k hk hr.2;rw[this,List.getD,a1y (afJ e)];rfl
theorem ahp{s q p}(hq:q.length=s.length)(hp:p.length=s.length)(h:Agr s [] q p):q=p:=(pz (d:=(0:Int)) (by omega)).2 fun k hk=>h k (by omega) (by simp)
theorem a5f{ks:LI0}(h:(ks.all fun x=>x==ks.getD 0 0)=true){j}(hj:j<ks.length):ks.getD j 0=ks.getD 0 0:=by rw[a5L]at h;have:=h (ks.getD j 0) (dG hj);simpa using this
theorem aeK{s l}(hs:nZ s):∀(r p) (x),(∀c∈r,gG c s.length)->p.length=s.length->∀d,d.aK.length<2^61->(jh s l r p x).2.1 <+: d.aK->(jh s l r p x).2.2 <+: d.au->∀q,jR s q=true->Agr s r q p->To d q (jh s l r p x).1 (l.getD (jB s q).toNat V0)
 | [],p,x,_,hp,d,hd,h1,_,q,hq,ha=>by
  have e:=ahp (sN hq) hp ha;subst e;obtain⟨g1,g2⟩:=UD x.1 (l.getD (jB s q).toNat V0);have h1:gK x.1 (l.getD (jB s q).toNat V0) <+: d.aK:=h1;have aQ:x.1.idxOf (l.getD (jB s q).toNat V0)<2^61:=by have:=h1.length_le;omega
  obtain⟨e1,e2⟩:=QV aQ;show To d q (i64.wrap (-1-(x.1.idxOf (l.getD (jB s q).toNat V0):Nat))) _;rw[e1];have:=To.fin (d:=d) (q:=q) (r:=-1-((x.1.idxOf (l.getD (jB s q).toNat V0):Nat):Int)) (by omega);rw[e2,a5R,Ak h1 g1,g2]at this;exact this
 |c::r,p,x,hr,hp,d,hd,h1,h2,q,hq,ha=>by
  have hc:=hr c (by simp);have hri:∀c'∈r,gG c' s.length:=fun c' h=>hr c' (by simp[h]);have Zw:=(qA.1 hq).2 c.toNat (by have:=hc.1;have:=hc.2;omega);have inv:=dh (g:=D8 (jh s l r) c p) (m:=(s.getD c.toNat 0).toNat) (k:=0) (s:=([],x)) (fun k y=>y.1.length=k/\∀j:Nat,j<k->y.2.1 <+: d.aK->y.2.2 <+: d.au->∀q,jR s q=true->Agr s r q (p.set c.toNat j)->To d q (y.1.getD j 0) (l.getD (jB s q).toNat V0)) ⟨rfl,fun j hj=>by omega⟩ (fun j y _ hj hy=>by
   obtain⟨y1,y2⟩:=hy;refine⟨by simp[D8,y1],fun j' EM g1 g2 q hq ha=>?_⟩;have FQ:=QU (s:=s) (l:=l) r (p.set c.toNat j) y.2;by_cases e:j'<j
   .have:(D8 (jh s l r) c p j y).1.getD j' 0=y.1.getD j' 0:=by show(y.1++_).getD j' 0=_;simp[List.getD,a0U (show j'<y.1.length by omega)]
    rw[this];exact y2 j' e (FQ.1.trans g1) (FQ.2.trans g2) q hq ha
   have e:j'=j:=(by omega);subst e;have:(D8 (jh s l r) c p j' y).1.getD j' 0=(jh s l r (p.set c.toNat j') y.2).1:=by show(y.1++[_]).getD j' 0=_;simp[List.getD,<-y1]
   rw[this];exact aeK hs r _ y.2 hri (by simp[hp]) d hd g1 g2 q hq ha)
  rw[a3L]at inv;simp only[jh]at h1 h2 ⊢;generalize aS (D8 (jh s l r) c p) (s.getD c.toNat 0).toNat 0 ([],x)=y at inv h1 h2;obtain⟨ks,E,N⟩:=y;obtain⟨hlen,inv⟩:=inv;have hlen:ks.length=(s.getD c.toNat 0).toNat:=hlen;have h2:qL N c ks <+: d.au:=h2;have hj:(q.getD c.toNat 0).toNat<(s.getD c.toNat 0).toNat:=by omega
  have ZK:((q.getD c.toNat 0).toNat:Int)=q.getD c.toNat 0:=by omega
  have t:=inv (q.getD c.toNat 0).toNat hj h1 ((Jq N c ks).trans h2) q hq (by rw[ZK];exact Agr.set hc hp ha);have t:To d q (ks.getD (q.getD c.toNat 0).toNat 0) (l.getD (jB s q).toNat V0):=t;show To d q (Hz N c ks) _;by_cases hf:(ks.all fun x=>x==ks.getD 0 0)=true
  .rw[show Hz N c ks=ks.getD 0 0 from a1e hf];rw[a5f hf (by omega)]at t;exact t
  rw[show Hz N c ks=(N.idxOf (⟨c,ks⟩:Br):Nat)from a18 hf];obtain⟨g1,g2⟩:=WE (N:=N) (c:=c) hf;have en:ay d ((N.idxOf (⟨c,ks⟩:Br):Nat):Int)=⟨c,ks⟩:=by unfold ay;rw[a5R,Ak h2 g1,g2]
  refine .step (by omega) ?_;rw[en];exact t
open Go Tw Pv bK
def FW(o:LI0)(N:List Br)(r:Int):Nat:=if r<0 then o.length else o.idxOf (N.getD r.toNat lH).var
def D9(o:LI0)(x:EN)(v:Int)(b a:Nat):Prop:=(v<0->gG (ji v) x.1.length)/\v<(b:Int)/\a<=FW o x.2 v
structure PtV(s o:LI0)(x:EN):Prop where
 var:∀i,i<x.2.length->gG (x.2.getD i lH).var s.length
 ksz:∀i,i<x.2.length->((x.2.getD i lH).aA.length:Int)=s.getD (x.2.getD i lH).var.toNat 0
 Ah:∀i,i<x.2.length->∀k,k<(x.2.getD i lH).aA.length->D9 o x ((x.2.getD i lH).aA.getD k 0) i (o.idxOf (x.2.getD i lH).var+1)
theorem D9.mono{o x y v b b' a a'}(h:D9 o x v b a)(hp:QS x y)(hb:b<=b')(hx:b<=x.2.length)(ha:a'<=a):D9 o y v b' a':=by
 obtain⟨h1,h2,h3⟩:=h;refine⟨fun hv=>⟨(h1 hv).1,by have:=(h1 hv).2;have:=hp.1.length_le;omega⟩,by omega,?_⟩;unfold FW at h3 ⊢;split
 .rename_i c;rw[a1e c]at h3;omega
 rename_i c;rw[a18 c]at h3;rw[Ak hp.2 (by omega)];omega
theorem a90{s o l}(hs:nZ s)(ho:∀c∈o,gG c s.length)(hn:o.Nodup):∀(r) (a) (p) (x),o.drop a=r->a<=o.length->PtV s o x->(jh s l r p x).2.1.length<2^61->PtV s o (jh s l r p x).2/\D9 o (jh s l r p x).2 (jh s l r p x).1 (jh s l r p x).2.2.length a
 | [],a,p,x,hr,ha,hx,hE=>by
  have:a=o.length:=by have:=congrArg List.length hr;rw[a4g,a5W]at this;omega
  subst this;obtain⟨g1,g2⟩:=UD x.1 (l.getD (jB s p).toNat V0);have hE:(gK x.1 (l.getD (jB s p).toNat V0)).length<2^61:=hE;obtain⟨e1,e2⟩:=QV (k:=x.1.idxOf (l.getD (jB s p).toNat V0)) (by omega);have hp:QS x (gK x.1 (l.getD (jB s p).toNat V0),x.2):=⟨BM _ _,a5P⟩;refine⟨⟨hx.var,hx.ksz,fun i hi k hk=>(hx.Ah i hi k hk).mono hp (a1l _) (aas hi) (a1l _)⟩,?_⟩;show D9 o _ (i64.wrap (-1-(x.1.idxOf (l.getD (jB s p).toNat V0):Nat))) _ _;rw[e1];refine⟨fun _=>by rw[e2];exact⟨by omega,by show _<((gK x.1 (l.getD (jB s p).toNat V0)).length:Int);omega⟩,by omega,?_⟩;unfold FW;rw[a1e (by omega)];exact a1l _
 |c::r,a,p,x,hr,ha,hx,hE=>by
  have aQ:a<o.length:=by have:=congrArg List.length hr;rw[a4g,a4C]at this;omega
  have hd:=a6y aQ;rw[hr]at hd;obtain⟨hc,xK⟩:=List.cons.inj hd;have FV:c∈o:=by rw[hc];exact a5K aQ
  have qM:=ho c FV;have hia:o.idxOf c=a:=by rw[hc];exact hn.idxOf_getElem a aQ
  have hz:=hs _ (dG (s:=s) (k:=c.toNat) (by have:=qM.1;have:=qM.2;omega));have mono:=fun(n:Nat) (m:Nat) (y:LI0×EN)=>(dh (g:=D8 (jh s l r) c p) (m:=m) (k:=n) (s:=y) (fun _ z=>QS y.2 z.2) QS.rfl (fun j z _ _ hz=>hz.trans (QU r _ z.2)));have hEf:(aS (D8 (jh s l r) c p) (s.getD c.toNat 0).toNat 0 ([],x)).2.1.length<2^61:=hE;have inv:=dh (g:=D8 (jh s l r) c p) (m:=(s.getD c.toNat 0).toNat) (k:=0) (s:=([],x)) (fun k y=>y.1.length=k/\(y.2.1.length<2^61->PtV s o y.2/\∀j:Nat,j<k->D9 o y.2 (y.1.getD j 0) y.2.2.length (a+1))) ⟨rfl,fun _=>⟨hx,fun j hj=>by omega⟩⟩ (fun j y _ hj hy=>by
   obtain⟨y1,y2⟩:=hy;refine⟨by simp[D8,y1],fun hE=>?_⟩;have FQ:=QU (s:=s) (l:=l) r (p.set c.toNat j) y.2;have hE:(jh s l r (p.set c.toNat j) y.2).2.1.length<2^61:=hE;obtain⟨v1,v2⟩:=y2 (by have:=FQ.1.length_le;omega);obtain⟨w1,w2⟩:=a90 hs ho hn r (a+1) (p.set c.toNat j) y.2 xK.symm aQ v1 hE;refine⟨w1,fun j' EM=>?_⟩;by_cases e:j'<j
   .have:(D8 (jh s l r) c p j y).1.getD j' 0=y.1.getD j' 0:=by show(y.1++_).getD j' 0=_;simp[List.getD,a0U (show j'<y.1.length by omega)]
    rw[this];exact(v2 j' e).mono FQ FQ.2.length_le (a1l _) (a1l _)
   have e:j'=j:=(by omega);subst e;have:(D8 (jh s l r) c p j' y).1.getD j' 0=(jh s l r (p.set c.toNat j') y.2).1:=by show(y.1++[_]).getD j' 0=_;simp[List.getD,<-y1]
   rw[this];exact w2)
  rw[a3L]at inv;simp only[jh];generalize aS (D8 (jh s l r) c p) (s.getD c.toNat 0).toNat 0 ([],x)=y at inv hEf;obtain⟨ks,E,N⟩:=y;obtain⟨hlen,inv⟩:=inv;obtain⟨i1,i2⟩:=inv hEf;have hlen:ks.length=(s.getD c.toNat 0).toNat:=hlen;have i2:∀j:Nat,j<(s.getD c.toNat 0).toNat->D9 o (E,N) (ks.getD j 0) N.length (a+1):=i2;have FQ:QS (E,N) (E,qL N c ks):=⟨a5P,Jq N c ks⟩;show PtV s o (E,qL N c ks)/\D9 o (E,qL N c ks) (Hz N c ks) (qL N c ks).length a;by_cases hf:(ks.all fun x=>x==ks.getD 0 0)=true
  .rw[show Hz N c ks=ks.getD 0 0 from a1e hf,show qL N c ks=N from a1e hf];exact⟨i1,(i2 0 (by omega)).mono QS.rfl (a1l _) (a1l _) (by omega)⟩
  obtain⟨g1,g2⟩:=WE (N:=N) (c:=c) hf;rw[show Hz N c ks=(N.idxOf (⟨c,ks⟩:Br):Nat)from a18 hf];have Na:a<=FW o (qL N c ks) ((N.idxOf (⟨c,ks⟩:Br):Nat):Int):=by unfold FW;rw[a18 (by omega),a5R,g2];show a<=o.idxOf c;omega
  refine⟨?_,⟨fun h=>by omega,by omega,Na⟩⟩;by_cases hm:(⟨c,ks⟩:Br)∈N
  .rw[show qL N c ks=N by unfold qL;rw[a18 hf,a1e hm]];exact i1
  have eN:qL N c ks=N++[⟨c,ks⟩]:=by unfold qL;rw[a18 hf,a18 hm]
  rw[eN]at FQ ⊢;have hold:∀i,i<N.length->(N++[(⟨c,ks⟩:Br)]).getD i lH=N.getD i lH:=fun i hi=>Ak (a9G _ _) hi;have fZ:(N++[(⟨c,ks⟩:Br)]).getD N.length lH=⟨c,ks⟩:=by simp[List.getD]
  have wF:∀i,i<(N++[(⟨c,ks⟩:Br)]).length->i<N.length\/i=N.length:=fun i hi=>by rw[a1B,a4v]at hi;omega
  refine⟨fun i hi=>?_,fun i hi=>?_,fun i hi k hk=>?_⟩
  .show gG ((N++[(⟨c,ks⟩:Br)]).getD i lH).var s.length;rcases wF i hi with h|rfl
   .rw[hold i h];exact i1.var i h
   rw[fZ];exact qM
  .show(((N++[(⟨c,ks⟩:Br)]).getD i lH).aA.length:Int)=s.getD ((N++[(⟨c,ks⟩:Br)]).getD i lH).var.toNat 0;rcases wF i hi with h|rfl
   .rw[hold i h];exact i1.ksz i h
   rw[fZ];show(ks.length:Int)=s.getD c.toNat 0;omega
  have hk:k<((N++[(⟨c,ks⟩:Br)]).getD i lH).aA.length:=hk;show D9 o (E,N++[(⟨c,ks⟩:Br)]) (((N++[(⟨c,ks⟩:Br)]).getD i lH).aA.getD k 0) i (o.idxOf ((N++[(⟨c,ks⟩:Br)]).getD i lH).var+1);rcases wF i hi with h|rfl
  .rw[hold i h]at hk ⊢;exact(i1.Ah i h k hk).mono FQ (a1l _) (aas h) (a1l _)
  rw[fZ]at hk ⊢;have hk:k<ks.length:=hk;exact(i2 k (by omega)).mono FQ (a1l _) (a1l _) (by show o.idxOf c+1<=a+1;omega)
open Go Tw Pv bK
theorem Ol(d v):uV d v=(FW d.aB d.au v:Int):=by
 unfold uV FW;by_cases c:v<0
 .rw[a1e (by simpa using c),a1e c]
 rw[a18 (by simpa using c),a18 c];have hs:=a8W (l:=d.aB) (d:=0) (a:=(ay d v).var) (c:=QE d v) (fun k _=>by unfold QE;rw[a5S];simp);by_cases hm:(ay d v).var∈d.aB
 .rw[hs.1 hm];rfl
 rw[a1e (hs.2 hm),a9g hm]
theorem Ll{d}(hm:d.aK.length<=ah)(hf:(bn d.aj d.aB != 0)=false)(hv:∀v∈d.aK,vOk v=true)(hn:d.au.length<=6000)(hp:PtV d.aj d.aB (d.aK,d.au))(hr:D9 d.aB (d.aK,d.au) d.root d.au.length 0):bC d=0:=by
 obtain⟨bQ,QW⟩:=iT.1 (show bn d.aj d.aB=0 by simpa using hf);have ami:∀(v:Int) (b a:Nat),D9 d.aB (d.aK,d.au) v b a->jd d v b=true:=fun v b a h=>by
  unfold jd;split
  .simpa using h.2.1
  rename_i c;have c:v<0:=by simpa using c
  have:=h.1 c;have e:i64.wrap ((d.aK.length:Int)-1)=(d.aK.length:Int)-1:=by unfold ah at hm;rw[fV (by omega) (by omega)]
  rw[wR,e];have h2:=this.2;have h2:ji v<(d.aK.length:Int):=h2;exact⟨this.1,by show ji v<=_;omega⟩
 have hl:mO d=true:=by
  unfold mO;rw[a1e (dL.2 fun j hj=>by rw[cLe,hv _ (by simp[List.getD,a0Q hj])];rfl),a1e (dL.2 fun i hi=>?_)]
  .exact ami _ _ _ hr
  have h1:=hp.var i hi;have h2:=hp.ksz i hi;have h3:=hp.Ah i hi;have h1:gG (fD d i).var d.aj.length:=h1;have h2:((fD d i).aA.length:Int)=d.aj.getD (fD d i).var.toNat 0:=h2;have e:xw d.aj=(d.aj.length:Int)-1:=by have:=bQ.len;unfold xw;rw[fV (by omega) (by omega)]
  unfold cLn;rw[a18,a18 (by rw[h2];simp),a1e]
  .refine dL.2 fun k hk=>?_;have h4:=h3 k hk;unfold cLk;rw[a18 (by rw[ami _ _ _ h4];simp),a3G,Ol,Ol];have h5:=h4.2.2;have e6:FW d.aB d.au ((i:Nat):Int)=d.aB.idxOf (fD d i).var:=by unfold FW;rw[a18 (by omega),a5R]
   rw[e6];have h5:d.aB.idxOf (fD d i).var+1<=FW d.aB d.au ((d.au.getD i lH).aA.getD k 0):=h5;omega
  have:nU (fD d i).var 0 (xw d.aj)=true:=by rw[wR,e];have:=h1.1;have:=h1.2;exact⟨by omega,by omega⟩
  rw[this];simp
 unfold bC;rw[a18 (by rw[hf];simp),a18 (by rw[a1x];omega),a18 (by rw[hl];simp)]
structure OfP(s o:LI0)(l:List V):Prop where
 bQ:wC s
 ord:kD s.length o=true
 len:(l.length:Int)=bF s
theorem OfP.p{s o l}(h:OfP s o l):PtP s o l/\o.Nodup/\o.length=s.length:=by have ho:=h.ord;unfold kD at ho;rw[a1x]at ho;have:=h.bQ.len;exact⟨⟨h.bQ,fun c hc=>⟨(ho.2.1 c hc).1,(ho.2.1 c hc).2⟩,h.len,by unfold ah;omega,by unfold ah;omega⟩,ho.2.2,ho.1⟩
theorem YZ{s l}:∀(r p) (x),(∀q,l.getD (jB s q).toNat V0∈l\/True)->(∀q,jR s q=true->l.getD (jB s q).toNat V0∈l)->jR s p=true->(∀c∈r,gG c s.length)->nZ s->(∀v∈x.1,v∈l)->∀v∈(jh s l r p x).2.1,v∈l
 | [],p,x,_,h,hp,_,_,hx,v,hv=>by
  have hv:v∈gK x.1 (l.getD (jB s p).toNat V0):=hv;unfold gK at hv;split at hv
  .exact hx v hv
  rcases a3M.1 hv with hv|hv
  .exact hx v hv
  rw[a1D.1 hv];exact h p hp
 |c::r,p,x,h0,h,hp,hr,hs,hx,v,hv=>by have hc:=hr c (by simp);have hz:=hs _ (dG (s:=s) (k:=c.toNat) (by have:=hc.1;have:=hc.2;omega));have:=dh (g:=D8 (jh s l r) c p) (m:=(s.getD c.toNat 0).toNat) (k:=0) (s:=([],x)) (fun _ y=>∀v∈y.2.1,v∈l) hx (fun j y _ hj hy=>YZ r _ y.2 h0 h (YE hp hc ⟨by omega,by omega⟩) (fun c hc=>hr c (by simp[hc])) hs hy);exact this v hv
theorem I4{s o l}(h:OfP s o l)(hv:∀v∈l,vOk v=true):bC (lJ s o l)=0/\(lJ s o l).aK.length<=2000/\(∀v∈(lJ s o l).aK,v∈l)/\PtV s o ((lJ s o l).aK,(lJ s o l).au)/\D9 o ((lJ s o l).aK,(lJ s o l).au) (lJ s o l).root (lJ s o l).au.length 0:=by
 obtain⟨hP,hn,ho⟩:=h.p;have hz:=QO h.bQ.sz;have hm:=h.bQ.many;have hlen:=a0T (l:=l) h.bQ.sz o (List.replicate s.length 0) ([],[]) hP.ord;have hw:=HY h.bQ.sz h.ord;have JX:∀q,jR s q=true->l.getD (jB s q).toNat V0∈l:=fun q hq=>by
  have:=Ec hq h.bQ.sz;have:=h.len;have aQ:(jB s q).toNat<l.length:=by omega
  simp[List.getD,a0Q aQ]
 have lX:=YZ o (List.replicate s.length 0) ([],[]) (fun _=>.inr trivial) JX hz hP.ord h.bQ.sz (by simp);have XP:=a90 (l:=l) h.bQ.sz hP.ord hn o 0 (List.replicate s.length 0) ([],[]) rfl (a5U _) ⟨fun i hi=>(by simp at hi),fun i hi=>(by simp at hi),fun i hi=>(by simp at hi)⟩ (by have:=hlen.1;simp at this;omega);have h1:(lJ s o l).aK.length<=0+wO s o:=hlen.1;have h2:(lJ s o l).au.length+1<=0+wO s o:=hlen.2;refine⟨Ll (by unfold ah;omega) ?_ (fun v hv2=>hv v (lX v hv2)) (by omega) XP.1 XP.2,by omega,lX,XP.1,XP.2⟩;have:bn s o=0:=iT.2 ⟨h.bQ,h.ord⟩;show(bn s o != 0)=false;rw[this];rfl
theorem a3d{s o l}(h:OfP s o l)(hv:∀v∈l,vOk v=true){q}(hq:jR s q=true):kF (lJ s o l) q=l.getD (jB s q).toNat V0:=by
 obtain⟨hP,hn,ho⟩:=h.p;obtain⟨h1,h2,h3,h4,h5⟩:=I4 h hv;have ht:=jq (d:=lJ s o l) hP.aho (by unfold ah;omega) (by rw[h1];rfl);have hto:=aeK (l:=l) h.bQ.sz o (List.replicate s.length 0) ([],[]) hP.ord (by simp) (lJ s o l) (by omega) a5P a5P q hq (fun k hk Zx=>by exfalso;exact Zx (mP h.ord ⟨by omega,by omega⟩))
 have hr:=ht.1.root;exact(hto.at_ ht.1 hq 6001 (by have:=hr.1;have:=ht.2;show(lJ s o l).root<_;omega) hr).symm
theorem QX{s o l}(h:OfP s o l)(hv:∀v∈l,vOk v=true):cellsD (lJ s o l)=l:=by have hl:=h.len;unfold cellsD;refine aaw (by simp[uP,lJ];omega) fun n h1 h2=>?_;have hp:=uO (n:Int) h.bQ.sz;simp only[aag,afv];show kF (lJ s o l) (fP s n)=_;rw[a3d h hv hp,Je h.bQ.sz (by omega) (by omega)];simp[List.getD,a0Q h2]
open Go Tw Pv bK
def Kn(d:Dg)(x:Cs)(v:Int):Prop:=if v<0 then oM d v∈x.e else v∈x.k.map (·.1)
def wE(d:Dg)(x:Cs)(v:Int):Int:=if v<0 then i64.wrap (-1-(x.e.idxOf (oM d v):Nat))else Wx x.k v
def BN(x y:Cs):Prop:=x.e <+: y.e/\x.n <+: y.n/\x.k <+: y.k
theorem BN.rfl{x}:BN x x:=⟨a5P,a5P,a5P⟩
theorem BN.trans{x y z}(a:BN x y)(b:BN y z):BN x z:=⟨a.1.trans b.1,a.2.1.trans b.2.1,a.2.2.trans b.2.2⟩
theorem Kn.mono{d x y v}(h:Kn d x v)(hp:BN x y):Kn d y v:=by
 unfold Kn at h ⊢;split
 .rename_i c;rw[a1e c]at h;exact hp.1.subset h
 rename_i c;rw[a18 c]at h;obtain⟨t,ht⟩:=hp.2.2;rw[<-ht,a4Q,a3M];exact .inl h
theorem UE{α:Type}[BEq α][LawfulBEq α]{a b:List α}{v}(h:v∈a)(hp:a <+: b):b.idxOf v=a.idxOf v:=by obtain⟨t,rfl⟩:=hp;rw[aaP,a1e h]
theorem a3e{a b v}(h:v∈a.map (·.1))(hp:a <+: b):Wx b v=Wx a v:=by
 obtain⟨t,rfl⟩:=hp;unfold Wx;rw[List.find?_append];cases e:a.find? fun p=>p.1==v with
 |none=>
  rw[a1w]at h;obtain⟨p,hp,rfl⟩:=h;have:=aeW.1 e p hp;simp at this
 |some q=>rfl
theorem UF{d x y v}(h:Kn d x v)(hp:BN x y):wE d y v=wE d x v:=by
 unfold Kn at h;unfold wE;split
 .rename_i c;rw[a1e c]at h;rw[UE h hp.1]
 rename_i c;rw[a18 c]at h;rw[a3e h hp.2.2]
theorem Z4{E v}(h:v∈E):gK E v=E:=a1e h
theorem Nb(N c ks):N <+: dH N c ks:=by
 unfold dH;split
 .exact a5P
 split
 .exact a5P
 exact a9G _ _
theorem a0V{N M c ks}(h:dH N c ks=N)(hp:N <+: M):dH M c ks=M/\eH M c ks=eH N c ks:=by
 unfold dH at h ⊢;unfold eH;by_cases hf:(ks.all fun x=>x==ks.getD 0 0)=true
 .rw[a1e hf,a1e hf,a1e hf];exact⟨rfl,rfl⟩
 rw[a18 hf]at h ⊢;rw[a18 hf,a18 hf];by_cases hm:uX c ks∈N.map Di
 .have hp2:N.map Di <+: M.map Di:=by obtain⟨t,rfl⟩:=hp;rw[a4Q];exact a9G _ _
  rw[a1e (hp2.subset hm),UE hm hp2];exact⟨rfl,rfl⟩
 rw[a18 hm]at h;have:=congrArg List.length h;simp at this
theorem a5g(N c ks):dH (dH N c ks) c ks=dH N c ks/\eH (dH N c ks) c ks=eH N c ks:=by
 unfold eH;by_cases hf:(ks.all fun x=>x==ks.getD 0 0)=true
 .rw[a1e hf,a1e hf];have:dH N c ks=N:=a1e hf;rw[this,this];exact⟨rfl,rfl⟩
 rw[a18 hf,a18 hf];by_cases hm:uX c ks∈N.map Di
 .have:dH N c ks=N:=by unfold dH;rw[a18 hf,a1e hm]
  rw[this,this];exact⟨rfl,rfl⟩
 have e:dH N c ks=N++[⟨c,ks⟩]:=by unfold dH;rw[a18 hf,a18 hm]
 have hm2:uX c ks∈(N++[(⟨c,ks⟩:Br)]).map Di:=by rw[a4Q];simp
 have e2:dH (N++[⟨c,ks⟩]) c ks=N++[⟨c,ks⟩]:=by unfold dH;rw[a18 hf,a1e hm2]
 rw[e,e2];refine⟨rfl,?_⟩;rw[a4Q,aaP,a18 hm,a9g hm];simp
abbrev aT(d:Dg)(v:Int):LI0:=(ay d v).aA
def Z5(d:Dg)(x:Cs):Prop:=∀v∈x.k.map (·.1),(∀j,j<(aT d v).length->Kn d x ((aT d v).getD j 0))/\eH x.n (ay d v).var ((aT d v).map (wE d x))=Wx x.k v/\dH x.n (ay d v).var ((aT d v).map (wE d x))=x.n
abbrev Dj(d:Dg)(F:Nat)(r:Int)(j:Nat)(y:LI0×Cs):LI0×Cs:=(y.1.set j (bY d F ((aT d r).getD j 0) y.2).1,(bY d F ((aT d r).getD j 0) y.2).2)
theorem a94{d}:∀(F) (r) (x),BN x (bY d F r x).2
 | 0,_,x=>BN.rfl
 |F+1,r,x=>by
  unfold bY;split
  .exact⟨BM _ _,a5P,a5P⟩
  split
  .exact BN.rfl
  have:=dh (g:=Dj d F r) (m:=(aT d r).length) (k:=0) (s:=(List.replicate (aT d r).length 0,x)) (fun _ y=>BN x y.2) BN.rfl (fun j y _ _ hy=>hy.trans (a94 F _ y.2));exact⟨this.1,this.2.1.trans (Nb _ _ _),this.2.2.trans (a9G _ _)⟩
theorem Om{d F v x}(h:Kn d x v):bY d (F+1) v x=(wE d x v,x):=by
 unfold Kn at h;unfold bY wE;by_cases c:v<0
 .rw[a1e (by simpa using c),a1e c];rw[a1e c]at h;rw[Z4 h]
 rw[a18 c]at h;rw[a18 (by simpa using c),a1e (by simpa using h),a18 c]
theorem QY{d x y}{ks:LI0}(h:∀j,j<ks.length->Kn d x (ks.getD j 0))(hp:BN x y):ks.map (wE d y)=ks.map (wE d x):=by refine a5M fun v hv=>?_;obtain⟨j,hj,rfl⟩:=a9L hv;have:=h j hj;rw[List.getD,a0Q hj]at this;exact UF this hp
theorem Z5.a3f{d x y v}(h:(∀j,j<(aT d v).length->Kn d x ((aT d v).getD j 0))/\eH x.n (ay d v).var ((aT d v).map (wE d x))=Wx x.k v/\dH x.n (ay d v).var ((aT d v).map (wE d x))=x.n)(hv:v∈x.k.map (·.1))(hp:BN x y):(∀j,j<(aT d v).length->Kn d y ((aT d v).getD j 0))/\eH y.n (ay d v).var ((aT d v).map (wE d y))=Wx y.k v/\dH y.n (ay d v).var ((aT d v).map (wE d y))=y.n:=by obtain⟨h1,h2,h3⟩:=h;rw[QY h1 hp];obtain⟨g1,g2⟩:=a0V h3 hp.2.1;exact⟨fun j hj=>(h1 j hj).mono hp,by rw[g2,h2,a3e hv hp.2.2],g1⟩
theorem a0W{d}(h:D6 d):∀(F:Nat) (r:Int) (x),1<=F->r+1<F->jM d r d.au.length->Eu d x->Z5 d x->Z5 d (bY d F r x).2/\Kn d (bY d F r x).2 r/\wE d (bY d F r x).2 r=(bY d F r x).1
 | 0,r,x,h1,_,_,_,_=>by omega
 |F+1,r,x,_,hF,hr,hx,hi=>by
  by_cases c:r<0
  .have e:bY d (F+1) r x=(i64.wrap (-1-(x.e.idxOf (oM d r):Nat)),⟨gK x.e (oM d r),x.n,x.k⟩):=by unfold bY;rw[a1e (by simpa using c)]
   rw[e];have hp:BN x ⟨gK x.e (oM d r),x.n,x.k⟩:=⟨BM _ _,a5P,a5P⟩;refine⟨fun v hv=>Z5.a3f (hi v hv) hv hp,?_,?_⟩
   .unfold Kn;rw[a1e c];show oM d r∈gK x.e (oM d r);unfold gK;split
    .assumption
    simp
   unfold wE;rw[a1e c];show i64.wrap (-1-((gK x.e (oM d r)).idxOf (oM d r):Nat))=_;congr 3;unfold gK;split
   .rfl
   rename_i hn;rw[aaP,a18 hn,a9g hn];simp
  by_cases c2:r∈x.k.map (·.1)
  .have hk:Kn d x r:=by unfold Kn;rw[a18 c];exact c2
   rw[Om hk];exact⟨hi,hk,rfl⟩
  have aQ:r.toNat<d.au.length:=by have:=hr.1;omega
  have D7:∀k,k<(aT d r).length->(aT d r).getD k 0<r:=fun k kU=>by have h9:=(h.Ah r.toNat aQ k kU).1;have h9:(aT d r).getD k 0<(r.toNat:Int):=h9;omega
  have Na:∀j,j<(aT d r).length->jM d ((aT d r).getD j 0) d.au.length:=fun j hj=>⟨by have:=D7 j hj;have:=hr.1;omega,(h.Ah r.toNat aQ j hj).2⟩;have inv:=dh (g:=Dj d F r) (m:=(aT d r).length) (k:=0) (s:=(List.replicate (aT d r).length 0,x)) (fun k y=>(y.1.length=(aT d r).length/\BN x y.2)/\(Eu d y.2/\r∉y.2.k.map (·.1))/\Z5 d y.2/\∀j,j<k->Kn d y.2 ((aT d r).getD j 0)/\wE d y.2 ((aT d r).getD j 0)=y.1.getD j 0) ⟨⟨by simp,BN.rfl⟩,⟨hx,c2⟩,hi,fun j hj=>by omega⟩ (fun j y _ hj hy=>by
   obtain⟨⟨y1,y2⟩,⟨y3,y4⟩,y5,y6⟩:=hy;have hj:j<(aT d r).length:=(by omega);have hp:=a94 (d:=d) F ((aT d r).getD j 0) y.2;obtain⟨z1,z2,z3⟩:=a0W h F ((aT d r).getD j 0) y.2 (by omega) (by have:=D7 j hj;omega) (Na j hj) y3 y5;refine⟨⟨by simp[Dj,y1],y2.trans hp⟩,⟨QJ h F _ y.2 y3 (Na j hj),YQ F _ r y.2 (D7 j hj) y4 (by omega) (fun i hi k hk=>(h.Ah i hi k hk).1) (fun h5=>⟨h5,(Na j hj).1⟩)⟩,z1,fun j' EM=>?_⟩;by_cases e:j'=j
   .subst e;refine⟨z2,?_⟩;rw[z3];show(bY d F ((aT d r).getD j' 0) y.2).1=(y.1.set j' (bY d F ((aT d r).getD j' 0) y.2).1).getD j' 0;generalize (bY d F ((aT d r).getD j' 0) y.2).1=z;simp[List.getD,a2w (show j'<y.1.length by omega)]
   obtain⟨a1,a2⟩:=y6 j' (by omega);refine⟨a1.mono hp,?_⟩;rw[UF a1 hp,a2];show _=(y.1.set j (bY d F ((aT d r).getD j 0) y.2).1).getD j' 0;generalize (bY d F ((aT d r).getD j 0) y.2).1=z;simp[List.getD,a1y (afJ e)])
  rw[a3L]at inv;have e:bY d (F+1) r x=(eH (aS (Dj d F r) (aT d r).length 0 (List.replicate (aT d r).length 0,x)).2.n (ay d r).var (aS (Dj d F r) (aT d r).length 0 (List.replicate (aT d r).length 0,x)).1,⟨(aS (Dj d F r) (aT d r).length 0 (List.replicate (aT d r).length 0,x)).2.e,dH (aS (Dj d F r) (aT d r).length 0 (List.replicate (aT d r).length 0,x)).2.n (ay d r).var (aS (Dj d F r) (aT d r).length 0 (List.replicate (aT d r).length 0,x)).1,(aS (Dj d F r) (aT d r).length 0 (List.replicate (aT d r).length 0,x)).2.k++[(r,eH (aS (Dj d F r) (aT d r).length 0 (List.replicate (aT d r).length 0,x)).2.n (ay d r).var (aS (Dj d F r) (aT d r).length 0 (List.replicate (aT d r).length 0,x)).1)]⟩):=by rw[bY,a18 (by simpa using c),a18 (by simpa using c2)]
  rw[e];generalize aS (Dj d F r) (aT d r).length 0 (List.replicate (aT d r).length 0,x)=y at inv;obtain⟨ks,y⟩:=y;obtain⟨⟨y1,y2⟩,⟨y3,y4⟩,y5,y6⟩:=inv;have y1:ks.length=(aT d r).length:=y1;have y4:r∉y.k.map (·.1):=y4;have hp:BN y ⟨y.e,dH y.n (ay d r).var ks,y.k++[(r,eH y.n (ay d r).var ks)]⟩:=⟨a5P,Nb _ _ _,a9G _ _⟩;have Gj:(aT d r).map (wE d y)=ks:=by refine aaw (by simp[y1]) fun j j1 j2=>?_;have hj:j<(aT d r).length:=(by omega);have:=(y6 j hj).2;rw[List.getD,List.getD,a0Q hj,a0Q j2]at this;simpa using this
  have fZ:Wx (y.k++[(r,eH y.n (ay d r).var ks)]) r=eH y.n (ay d r).var ks:=by
   unfold Wx;rw[List.find?_append];have:(y.k.find? fun p=>p.1==r)=none:=aeW.2 fun p hp=>by simp only[a6x];intro e2;exact y4 (a1w.2 ⟨p,hp,e2⟩)
   rw[this];simp
  obtain⟨g1,g2⟩:=a5g y.n (ay d r).var ks;refine⟨fun v hv=>?_,?_,?_⟩
  .have hv:v∈(y.k++[(r,eH y.n (ay d r).var ks)]).map (·.1):=hv;rw[a4Q,a3M]at hv;rcases hv with hv|hv
   .exact Z5.a3f (y5 v hv) hv hp
   have hv:v=r:=(by simpa using hv);subst hv;refine⟨fun j hj=>(y6 j hj).1.mono hp,?_,?_⟩
   .rw[QY (fun j hj=>(y6 j hj).1) hp,Gj];show eH (dH y.n (ay d v).var ks) _ ks=Wx (y.k++[(v,eH y.n (ay d v).var ks)]) v;rw[g2,fZ]
   rw[QY (fun j hj=>(y6 j hj).1) hp,Gj];exact g1
  .unfold Kn;rw[a18 c];show r∈(y.k++[(r,eH y.n (ay d r).var ks)]).map (·.1);simp
  unfold wE;rw[a18 c];exact fZ
open Go Tw Pv bK
theorem Z7{d}(h:bC d=0):∀i,i<d.au.length->∀k,k<(fD d i).aA.length->d.aB.idxOf (fD d i).var+1<=FW d.aB d.au ((fD d i).aA.getD k 0):=by
 intro i hi k hk;unfold bC at h;split at h
 .rename_i c;rw[h]at c;cases c
 split at h
 .cases h
 split at h
 .cases h
 rename_i c;have c:mO d=true:=by simpa using c
 unfold mO at c;split at c
 rotate_left
 .cases c
 split at c
 rotate_left
 .cases c
 rename_i c2;have:=dL.1 c2 i hi;unfold cLn at this;split at this
 .cases this
 split at this
 .cases this
 split at this
 .rename_i c3;have:=dL.1 c3 k hk;unfold cLk at this;split at this
  .cases this
  rw[a3G,Ol,Ol]at this;have e6:FW d.aB d.au ((i:Nat):Int)=d.aB.idxOf (fD d i).var:=by unfold FW;rw[a18 (by omega),a5R]
  rw[e6]at this;show d.aB.idxOf (fD d i).var+1<=FW d.aB d.au ((d.au.getD i lH).aA.getD k 0);omega
 cases this
theorem a0X{d}(h:D6 d):∀(F) (r) (x),jM d r d.au.length->NOk d.aj x.n->NOk d.aj (bY d F r x).2.n
 | 0,_,_,_,hx=>hx
 |F+1,r,x,hr,hx=>by
  unfold bY;by_cases c:r<0
  .rw[a1e (by simpa using c)];exact hx
  rw[a18 (by simpa using c)];split
  .exact hx
  have aQ:r.toNat<d.au.length:=by have:=hr.1;omega
  have Na:∀j,j<(aT d r).length->jM d ((aT d r).getD j 0) d.au.length:=fun j hj=>by have h9:=h.Ah r.toNat aQ j hj;have h8:=h9.1;have h8:(aT d r).getD j 0<(r.toNat:Int):=h8;exact⟨by omega,h9.2⟩
  have inv:=dh (g:=Dj d F r) (m:=(aT d r).length) (k:=0) (s:=(List.replicate (aT d r).length 0,x)) (fun _ y=>y.1.length=(aT d r).length/\NOk d.aj y.2.n) ⟨by simp,hx⟩ (fun j y _ hj hy=>⟨by simp[Dj,hy.1],a0X h F _ y.2 (Na j (by omega)) hy.2⟩);show NOk d.aj (dH (aS (Dj d F r) (aT d r).length 0 (List.replicate (aT d r).length 0,x)).2.n (ay d r).var (aS (Dj d F r) (aT d r).length 0 (List.replicate (aT d r).length 0,x)).1);generalize aS (Dj d F r) (aT d r).length 0 (List.replicate (aT d r).length 0,x)=y at inv;intro b hb;unfold dH at hb;split at hb
  .exact inv.2 b hb
  split at hb
  .exact inv.2 b hb
  rcases a3M.1 hb with hb|hb
  .exact inv.2 b hb
  rw[a1D.1 hb];refine⟨h.var r.toNat aQ,?_⟩;show(y.1.length:Int)=d.aj.getD (ay d r).var.toNat 0;rw[inv.1];exact h.ksz r.toNat aQ
theorem a95{n}(hn:1<=n)(v:Int):((List.replicate n v).all fun x=>x==(List.replicate n v).getD 0 0)=true/\(List.replicate n v).getD 0 0=v:=by obtain⟨k,rfl⟩:∃k,n=k+1:=⟨n-1,by omega⟩;simp[afn]
theorem Z8{d l}(h:D6 d)(QW:kD d.aj.length d.aB=true)(hk:∀i,i<d.au.length->∀k,k<(fD d i).aA.length->d.aB.idxOf (fD d i).var+1<=FW d.aB d.au ((fD d i).aA.getD k 0)):∀(r) (a) (p) (v) (x) (F:Nat),d.aB.drop a=r->a<=d.aB.length->jR d.aj p=true->Eu d x->Z5 d x->NOk d.aj x.n->jM d v d.au.length->a<=FW d.aB d.au v->1<=F->v+1<F->(∀q,jR d.aj q=true->Agr d.aj r q p->To d q v (l.getD (jB d.aj q).toNat V0))->jh d.aj l r p (x.e,x.n)=((bY d F v x).1,((bY d F v x).2.e,(bY d F v x).2.n))
 | [],a,p,v,x,F,hr,ha,hp,_,_,_,hv,Na,hF1,hF,hto=>by
  obtain⟨F,rfl⟩:∃k,F=k+1:=⟨F-1,by omega⟩;have:a=d.aB.length:=by have:=congrArg List.length hr;rw[a4g,a5W]at this;omega
  subst this;have hv0:v<0:=by
   rcases Int.lt_or_le v 0 with c|c
   .exact c
   exfalso;unfold FW at Na;rw[a18 (by omega)]at Na;have aQ:v.toNat<d.au.length:=by have:=hv.1;omega
   have hm:=mP QW (h.var v.toNat aQ);have:=a5Q.2 hm;have:d.aB.idxOf (d.au.getD v.toNat lH).var<d.aB.length:=this;omega
  have t:=hto p hp (fun _ _ _=>rfl);have e:l.getD (jB d.aj p).toNat V0=oM d v:=(To.fin hv0:To d p v _).det t |>.symm
  unfold bY;rw[a1e (by simpa using hv0)];show(i64.wrap (-1-(x.e.idxOf (l.getD (jB d.aj p).toNat V0):Nat)),(gK x.e (l.getD (jB d.aj p).toNat V0),x.n))=_;rw[e]
 |c::r,a,p,v,x,F,hr,ha,hp,hx,hi,Zx,hv,Na,hF1,hF,hto=>by
  have aQ:a<d.aB.length:=by have:=congrArg List.length hr;rw[a4g,a4C]at this;omega
  have hd:=a6y aQ;rw[hr]at hd;obtain⟨hc,xK⟩:=List.cons.inj hd;have ho:=QW;unfold kD at ho;rw[a1x]at ho;have FV:c∈d.aB:=by rw[hc];exact a5K aQ
  have qM:gG c d.aj.length:=⟨(ho.2.1 c FV).1,(ho.2.1 c FV).2⟩;have hia:d.aB.idxOf c=a:=by rw[hc];exact ho.2.2.idxOf_getElem a aQ
  have nP:c.toNat<d.aj.length:=by have:=qM.1;have:=qM.2;omega
  have hz:=h.bQ.sz _ (dG (s:=d.aj) (k:=c.toNat) nP);have AQ:=sN hp;have hcr:c∉r:=by have:(d.aB.drop a).Nodup:=ho.2.2.sublist (List.drop_sublist _ _);rw[hr]at this;exact(a5I.1 this).1
  have GU:∀j:Nat,j<(d.aj.getD c.toNat 0).toNat->jR d.aj (p.set c.toNat j)=true:=fun j hj=>YE hp qM ⟨by omega,by omega⟩;simp only[jh];by_cases wF:0<=v/\(ay d v).var=c
  .obtain⟨hv0,hvc⟩:=wF;have a5h:v.toNat<d.au.length:=by have:=hv.1;omega
   have MF:((aT d v).length:Int)=d.aj.getD c.toNat 0:=by rw[<-hvc];exact h.ksz v.toNat a5h
   have hkn:(d.aj.getD c.toNat 0).toNat=(aT d v).length:=(by omega);have D7:∀j,j<(aT d v).length->(aT d v).getD j 0<v:=fun j hj=>by have h9:=(h.Ah v.toNat a5h j hj).1;have h9:(aT d v).getD j 0<(v.toNat:Int):=h9;omega
   have hrf:∀j,j<(aT d v).length->jM d ((aT d v).getD j 0) d.au.length:=fun j hj=>⟨by have:=D7 j hj;have:=hv.1;omega,(h.Ah v.toNat a5h j hj).2⟩;have amj:∀j,j<(aT d v).length->a+1<=FW d.aB d.au ((aT d v).getD j 0):=fun j hj=>by have:=hk v.toNat a5h j hj;have:d.aB.idxOf (ay d v).var+1<=FW d.aB d.au ((aT d v).getD j 0):=this;rw[hvc,hia]at this;exact this
   have amk:∀j:Nat,j<(aT d v).length->∀q,jR d.aj q=true->Agr d.aj r q (p.set c.toNat j)->To d q ((aT d v).getD j 0) (l.getD (jB d.aj q).toNat V0):=fun j hj q hq hag=>by
    have Zw:q.getD c.toNat 0=j:=by have:=hag c.toNat nP (by rw[ait qM.1];exact hcr);rw[this,List.getD,a2w (by omega)];rfl
    have t0:=hto q hq (Agr.back qM hag);revert t0;generalize l.getD (jB d.aj q).toNat V0=w;intro t0;cases t0 with
    |fin h9=>omega
    |step _ t=>
     rw[hvc,Zw,a5R]at t;exact t
   rw[hkn];by_cases CZ:v∈x.k.map (·.1)
   .
    have hKn:Kn d x v:=by unfold Kn;rw[a18 (by omega)];exact CZ
    obtain⟨F',rfl⟩:∃k,F=k+1:=⟨F-1,by omega⟩;rw[Om hKn];obtain⟨i1,i2,i3⟩:=hi v CZ;have inv:=dh (g:=D8 (jh d.aj l r) c p) (m:=(aT d v).length) (k:=0) (s:=([],(x.e,x.n))) (fun k y=>y=(((aT d v).map (wE d x)).take k,(x.e,x.n))) (by simp) (fun j y _ hj hy=>by have hj:j<(aT d v).length:=(by omega);subst hy;have ih:=Z8 h QW hk r (a+1) (p.set c.toNat j) ((aT d v).getD j 0) x (F'+1) xK.symm aQ (GU j (by omega)) hx hi Zx (hrf j hj) (amj j hj) (by omega) (by have:=D7 j hj;omega) (amk j hj);rw[Om (i1 j hj)]at ih;unfold D8;rw[ih];refine adA ?_ rfl;show(((aT d v).map (wE d x)).take j)++[wE d x ((aT d v).getD j 0)]=_;have hjm:j<((aT d v).map (wE d x)).length:=(by simpa using hj);rw[a7B hjm];simp[List.getD,a0Q hj])
    rw[a3L]at inv;rw[inv,aai (by simp)];rw[hvc]at i2 i3;obtain⟨n1,n2⟩:=YW h.bQ.sz Zx qM (ks:=(aT d v).map (wE d x)) (by simpa using MF);show(Hz x.n c _,(x.e,qL x.n c _))=_;rw[<-n1,<-n2,i2,i3];unfold wE;rw[a18 (by omega)]
   obtain⟨F',rfl⟩:∃k,F=k+1:=⟨F-1,by omega⟩;have key:∀j,j<=(aT d v).length->(aS (D8 (jh d.aj l r) c p) j 0 ([],(x.e,x.n)))=((aS (Dj d F' v) j 0 (List.replicate (aT d v).length 0,x)).1.take j,((aS (Dj d F' v) j 0 (List.replicate (aT d v).length 0,x)).2.e,(aS (Dj d F' v) j 0 (List.replicate (aT d v).length 0,x)).2.n))/\(aS (Dj d F' v) j 0 (List.replicate (aT d v).length 0,x)).1.length=(aT d v).length/\(Eu d (aS (Dj d F' v) j 0 (List.replicate (aT d v).length 0,x)).2/\v∉(aS (Dj d F' v) j 0 (List.replicate (aT d v).length 0,x)).2.k.map (·.1))/\Z5 d (aS (Dj d F' v) j 0 (List.replicate (aT d v).length 0,x)).2/\NOk d.aj (aS (Dj d F' v) j 0 (List.replicate (aT d v).length 0,x)).2.n:=by
    intro j
    induction j with
    |zero=>intro _;exact⟨rfl,by simp[aS],⟨hx,CZ⟩,hi,Zx⟩
    |succ j ih=>
     intro hj;have hj:j<(aT d v).length:=hj;obtain⟨q1,q2,⟨q3,q3'⟩,q4,q5⟩:=ih (by omega);rw[qK,qK,a3L];generalize aS (Dj d F' v) j 0 (List.replicate (aT d v).length 0,x)=y at q1 q2 q3 q3' q4 q5;rw[q1];have SY:=D7 j hj;have ih2:=Z8 h QW hk r (a+1) (p.set c.toNat j) ((aT d v).getD j 0) y.2 F' xK.symm aQ (GU j (by omega)) q3 q4 q5 (hrf j hj) (amj j hj) (by omega) (by omega) (amk j hj);refine⟨?_,by simp[Dj,q2],⟨QJ h F' _ y.2 q3 (hrf j hj),YQ F' _ v y.2 SY q3' (by omega) (fun i hi k hk=>(h.Ah i hi k hk).1) (fun h5=>⟨h5,(hrf j hj).1⟩)⟩,(a0W h F' _ y.2 (by omega) (by omega) (hrf j hj) q3 q4).1,a0X h F' _ y.2 (hrf j hj) q5⟩;unfold D8;rw[ih2];refine adA ?_ rfl;show y.1.take j++[(bY d F' ((aT d v).getD j 0) y.2).1]=(y.1.set j (bY d F' ((aT d v).getD j 0) y.2).1).take (j+1);rw[a7B (by simp;omega),List.take_set_of_le (a1l _),List.getElem_set_self]
   obtain⟨q1,q2,⟨q3,q3'⟩,q4,q5⟩:=key _ (a1l _);rw[q1];have e:bY d (F'+1) v x=(eH (aS (Dj d F' v) (aT d v).length 0 (List.replicate (aT d v).length 0,x)).2.n (ay d v).var (aS (Dj d F' v) (aT d v).length 0 (List.replicate (aT d v).length 0,x)).1,⟨(aS (Dj d F' v) (aT d v).length 0 (List.replicate (aT d v).length 0,x)).2.e,dH (aS (Dj d F' v) (aT d v).length 0 (List.replicate (aT d v).length 0,x)).2.n (ay d v).var (aS (Dj d F' v) (aT d v).length 0 (List.replicate (aT d v).length 0,x)).1,(aS (Dj d F' v) (aT d v).length 0 (List.replicate (aT d v).length 0,x)).2.k++[(v,eH (aS (Dj d F' v) (aT d v).length 0 (List.replicate (aT d v).length 0,x)).2.n (ay d v).var (aS (Dj d F' v) (aT d v).length 0 (List.replicate (aT d v).length 0,x)).1)]⟩):=by rw[bY,a18 (by simpa using hv0),a18 (by simpa using CZ)]
   rw[e];generalize aS (Dj d F' v) (aT d v).length 0 (List.replicate (aT d v).length 0,x)=y at q2 q5;rw[aai (by omega),hvc];obtain⟨n1,n2⟩:=YW h.bQ.sz q5 qM (ks:=y.1) (by rw[q2];exact MF);rw[n1,n2]
  
  have aml:a+1<=FW d.aB d.au v:=by
   unfold FW at Na ⊢;split
   .omega
   rename_i c1;rw[a18 c1]at Na;have iI:d.aB.idxOf (d.au.getD v.toNat lH).var≠a:=fun e=>by
    apply wF;refine⟨by omega,?_⟩;have a5h:v.toNat<d.au.length:=by have:=hv.1;omega
    have hm:=mP QW (h.var v.toNat a5h);have h1:=a9s (a5Q.2 hm);have e:d.aB.idxOf (fD d v.toNat).var=a:=e;show(fD d v.toNat).var=c;rw[hc,<-h1];congr 1
   omega
  obtain⟨z1,z2,z3⟩:=a0W h F v x hF1 hF hv hx hi;have RF:=QJ h F v x hx hv;have afX:=a0X h F v x hv Zx;have amm:bY d F v (bY d F v x).2=((bY d F v x).1,(bY d F v x).2):=by
   have e:∀y,Kn d y v->wE d y v=(bY d F v x).1->bY d F v y=((bY d F v x).1,y):=fun y h1 h2=>by obtain⟨F',rfl⟩:∃k,F=k+1:=⟨F-1,by omega⟩;rw[Om h1,h2]
   exact e _ z2 z3
  have amn:∀j:Nat,∀q,jR d.aj q=true->Agr d.aj r q (p.set c.toNat j)->To d q v (l.getD (jB d.aj q).toNat V0):=fun j q hq hag=>hto q hq (Agr.back qM hag);have inv:=dh (g:=D8 (jh d.aj l r) c p) (m:=(d.aj.getD c.toNat 0).toNat) (k:=0) (s:=([],(x.e,x.n))) (fun k y=>(k=0/\y=([],(x.e,x.n)))\/(0<k/\y=(List.replicate k (bY d F v x).1,((bY d F v x).2.e,(bY d F v x).2.n)))) (.inl ⟨rfl,rfl⟩) (fun j y _ hj hy=>by
   right;refine⟨by omega,?_⟩;rcases hy with⟨rfl,rfl⟩|⟨h0,rfl⟩
   .have ih:=Z8 h QW hk r (a+1) (p.set c.toNat ((0:Nat):Int)) v x F xK.symm aQ (GU 0 (by omega)) hx hi Zx hv aml hF1 hF (amn 0);unfold D8;rw[ih];rfl
   have ih:=Z8 h QW hk r (a+1) (p.set c.toNat ((j:Nat):Int)) v (bY d F v x).2 F xK.symm aQ (GU j (by omega)) RF z1 afX hv aml hF1 hF (amn j);rw[amm]at ih;unfold D8;rw[ih];refine adA ?_ rfl;show List.replicate j _++[_]=_;rw[List.replicate_succ'])
  rw[a3L]at inv;rcases inv with⟨h0,_⟩|⟨h0,e⟩
  .omega
  rw[e];obtain⟨f1,f2⟩:=a95 (n:=(d.aj.getD c.toNat 0).toNat) (by omega) (bY d F v x).1;show(Hz _ c _,(_,qL _ c _))=_;unfold Hz qL;rw[a1e f1,a1e f1,f2]
theorem Jr{d}(hl:bC d=0)(ho:d.aB.length<=ah)(he:d.aK.length<=ah):eP d=lJ d.aj d.aB (cellsD d)/\OfP d.aj d.aB (cellsD d):=by
 obtain⟨h,hn⟩:=jq ho he (by rw[hl];rfl);have hf:(bn d.aj d.aB != 0)=false:=by
  unfold bC at hl;split at hl
  .rename_i c;rw[hl]at c;cases c
  rename_i c;simpa using c
 obtain⟨bQ,QW⟩:=iT.1 (show bn d.aj d.aB=0 by simpa using hf);have hlen:((cellsD d).length:Int)=bF d.aj:=by unfold cellsD;rw[a4X,a6I,bQ.VY]
 have hr:=h.root;have hr1:=hr.1;have hto:∀q,jR d.aj q=true->To d q d.root ((cellsD d).getD (jB d.aj q).toNat V0):=fun q hq=>by
  have hrn:=Ec hq bQ.sz;have t:=To.of h hq 6001 d.root (by omega) hr;have e:(cellsD d).getD (jB d.aj q).toNat V0=kF d q:=by
   have aQ:(jB d.aj q).toNat<uP d.aj:=by unfold uP;omega
   unfold cellsD;rw[List.getD,a0Q (by simpa using aQ)];simp only[aag,afv,a5V];rw[show(((jB d.aj q).toNat:Nat):Int)=jB d.aj q by omega,VX hq bQ.sz]
  rw[e];exact t
 have key:=Z8 (l:=cellsD d) h QW (Z7 hl) d.aB 0 (List.replicate d.aj.length 0) d.root ZE 6002 rfl (a5U _) (QO bQ.sz) WB (fun v hv=>by cases hv) (fun b hb=>by cases hb) hr (a5U _) (by omega) (by omega) (fun q hq _=>hto q hq);refine⟨?_,⟨bQ,QW,hlen⟩⟩;have key:jh d.aj (cellsD d) d.aB (List.replicate d.aj.length 0) ([],[])=_:=key;unfold eP lJ;rw[key]
open Go Tw Pv bK
theorem QZ(k):Hy (i64.wrap k):=by
 have e:i64.wrap k=if k%(2^64:Int)>=(2^63:Int)then k%(2^64:Int)-2^64 else k%(2^64:Int):=by
  show(if(true&&decide (k%(2^64:Int)>=(2^63:Int)))=true then _ else _)=_;by_cases c:k%(2^64:Int)>=(2^63:Int)
  .rw[a1e (by simpa using c),a1e c];rfl
  rw[a18 (by simpa using c),a18 c];rfl
 rw[e];unfold Hy;split<;>constructor<;>omega
def EnW(x:EN):Prop:=∀b∈x.2,∀k∈b.aA,Hy k
theorem a96{s l}(hs:nZ s):∀(r p) (x),(∀c∈r,gG c s.length)->EnW x->(jh s l r p x).2.2.length<2^61->EnW (jh s l r p x).2/\Hy (jh s l r p x).1
 | [],p,x,_,hx,_=>⟨hx,QZ _⟩
 |c::r,p,x,hr,hx,hE=>by
  have qM:=hr c (by simp);have hz:=hs _ (dG (s:=s) (k:=c.toNat) (by have:=qM.1;have:=qM.2;omega));have hN:=Jq (aS (D8 (jh s l r) c p) (s.getD c.toNat 0).toNat 0 ([],x)).2.2 c (aS (D8 (jh s l r) c p) (s.getD c.toNat 0).toNat 0 ([],x)).1;have hE:(qL (aS (D8 (jh s l r) c p) (s.getD c.toNat 0).toNat 0 ([],x)).2.2 c (aS (D8 (jh s l r) c p) (s.getD c.toNat 0).toNat 0 ([],x)).1).length<2^61:=hE;have inv:=dh (g:=D8 (jh s l r) c p) (m:=(s.getD c.toNat 0).toNat) (k:=0) (s:=([],x)) (fun k y=>y.1.length=k/\(y.2.2.length<2^61->EnW y.2/\∀v∈y.1,Hy v)) ⟨rfl,fun _=>⟨hx,by simp⟩⟩ (fun j y _ hj hy=>by
   refine⟨by simp[D8,hy.1],fun hE2=>?_⟩;have hE2:(jh s l r (p.set c.toNat j) y.2).2.2.length<2^61:=hE2;have hp:=(QU (s:=s) (l:=l) r (p.set c.toNat j) y.2).2.length_le;obtain⟨y1,y2⟩:=hy.2 (by omega);obtain⟨z1,z2⟩:=a96 hs r (p.set c.toNat j) y.2 (fun c hc=>hr c (by simp[hc])) y1 hE2;refine⟨z1,fun v hv=>?_⟩;have hv:v∈y.1++[(jh s l r (p.set c.toNat j) y.2).1]:=hv;rcases a3M.1 hv with hv|hv
   .exact y2 v hv
   rw[a1D.1 hv];exact z2)
  rw[a3L]at inv;simp only[jh];generalize aS (D8 (jh s l r) c p) (s.getD c.toNat 0).toNat 0 ([],x)=y at inv hN hE;obtain⟨ks,E,N⟩:=y;have hN:N <+: qL N c ks:=hN;have hE:(qL N c ks).length<2^61:=hE;obtain⟨i0,i1⟩:=inv;have i0:ks.length=(s.getD c.toNat 0).toNat:=i0;obtain⟨i1,i2⟩:=i1 (by have:=hN.length_le;show N.length<2^61;omega);have i1:∀b∈N,∀k∈b.aA,Hy k:=i1;have i2:∀v∈ks,Hy v:=i2;refine⟨fun b hb=>?_,?_⟩
  .have hb:b∈qL N c ks:=hb;unfold qL at hb;split at hb
   .exact i1 b hb
   split at hb
   .exact i1 b hb
   rcases a3M.1 hb with hb|hb
   .exact i1 b hb
   rw[a1D.1 hb];exact i2
  show Hy (Hz N c ks);by_cases hf:(ks.all fun x=>x==ks.getD 0 0)=true
  .rw[show Hz N c ks=ks.getD 0 0 from a1e hf];exact i2 _ (dG (s:=ks) (k:=0) (by omega))
  rw[show Hz N c ks=(N.idxOf (⟨c,ks⟩:Br):Nat)from a18 hf];have:=(WE (N:=N) (c:=c) hf).1;exact⟨by omega,by omega⟩
theorem ac9{s o l}(h:OfP s o l)(hv:∀v∈l,vOk v=true)(hf:∀v∈l,0<=v.f):Dh (lJ s o l)/\iD (lJ s o l)=0:=by
 obtain⟨hP,hn,ho⟩:=h.p;obtain⟨h1,h2,h3,h4,h5⟩:=I4 h hv;have hw:=HY h.bQ.sz h.ord;have hm:=h.bQ.many;have hlen:=a0T (l:=l) h.bQ.sz o (List.replicate s.length 0) ([],[]) hP.ord;have Td:(jh s l o (List.replicate s.length 0) ([],[])).2.2.length+1<=0+wO s o:=hlen.2;obtain⟨w1,w2⟩:=a96 (l:=l) h.bQ.sz o (List.replicate s.length 0) ([],[]) hP.ord (fun b hb=>by cases hb) (by omega);have hR:Dh (lJ s o l):=⟨fun i hi k hk=>by
  have hb:fD (lJ s o l) i∈(lJ s o l).au:=by show(lJ s o l).au.getD i lH∈_;rw[List.getD,a0Q hi];exact a5K hi
  exact w1 _ hb _ (dG hk),w2,fun v hv=>hf v (h3 v hv)⟩
 refine⟨hR,?_⟩;obtain⟨ht,hn6⟩:=jq (d:=lJ s o l) hP.aho (by unfold ah;omega) (by rw[h1];rfl);have hc:=(Jr (d:=lJ s o l) h1 hP.aho (by unfold ah;omega)).1;rw[QX h hv]at hc;have hd:=(Lj ht hR (by omega) hn6).1 hc;unfold iD;rw[a18 (by rw[h1];decide),a18 (by rw[hd];decide)]
open Go Tw Pv bK
def aeN:gZ aH:=cu 121 (a1 dA) iA (fun p=>(vC p).2) (fun p=>[Dh p,p.aj.length<=ah,p.aB.length<=2^20,p.aK.length+1<=ah]) aeI
theorem amo:Gd aeN:=amh.add fun n hO p hp=>aP hO (.o (hp _ iE) (.o (hp _ zq) (.o (hp _ hh2) (.o (hp _ (.tail _ (.tail _ (.tail _ (.head _))))) .rr))))
def Am(d:Dg):Dg×Int:=if((bI d).2 != 0)=true then(iJ,(bI d).2)else(eP (bI d).1.d,0)
def a97:gZ aH:=cu 108 (a1 dA) (dQ (a2 dA iA)) (fun p=>Am p) (fun p=>[Dh p,p.aj.length<=ah,p.aB.length<=2^20,p.aK.length<=ah,((bI p).2 != 0)=false->ClP (bI p).1]) aeN
theorem aeO:Gd a97:=amo.add fun n hO p hp=>aP hO (.o (hp _ zq) (.o (hp _ hh2) (.o (hp _ (.tail _ (.tail _ (.tail _ (.head _))))) (.sh (fun _=>.rn (.dM [.agg [.nil .aO,.nil .aO,.nil .aO,.nil .aO,.int .i64 0],.int .i64 (bI p).2]) rfl) fun h=>.o (hp _ (.tail _ (.tail _ (.tail _ (.tail _ (.head _))))) h) .rr))))
def amq:gZ aH:=cu 77 (a3 iA iA iA) tA (fun p=>(if decide (p.2.2>=p.1)=true then decide (p.2.2<=p.2.1)else false)) np a97
theorem arx:Gd amq:=aeO.add fun n hO p hp=>aP hO (.ss .rr .rr)
def a3g:gZ aH:=cu 123 (a2 (a7Q frA) dA) tA (fun p=>(if decide (p.2.aj=p.1.1)=true then decide (p.2.aB=p.1.2)else false)) (fun p=>[p.2.aj.length<=ah,p.2.aB.length<=ah]) amq
theorem amr:Gd a3g:=arx.add fun n hO p hp=>aP hO (.o (hp _ iE) (.ss (.o (hp _ zq) .rr) .rr))
end Go.Proofs.YtmobpoiejckagaaGreat
namespace Pv
open Go Tw
variable{X:mV}{P:LI1}
theorem nI.ND(hX:bT X P){call f first xs cap vs v v' ext ext'}(hc:nI X P call f vs v ext)(hv:views [] (first++xs++cap)=some vs)(hs:rZ X 0 ext=some ext')(e:shift 0 v=v') (he:(if yE v||ext.any (hasB X)then aX (lN.kX (first++xs++cap)) []else [])=([]:List (PB X.Γ))):dK X P call (.fn f first cap) xs [] v' ext':=by
 subst e;intro A m h tf rH hr hf hx;cases hf with
 |gone hi _ _=>simp[bf]at hi
 |fn p1 p2 p3 p4=>
  obtain⟨w,h',m1,c1,c2,c3,c4,c5⟩:=J6 hX hc hr hv hs ⟨p1,p2⟩ hx ⟨p3,p4⟩;rw[he]at c2;exact⟨w,h',[],m1,c1,c2,c3,c4,c5,fun b hb=>by cases hb⟩
end Pv
namespace Go.Proofs.YtmobpoiejckagaaGreat
open Go Tw Pv bK
def a5i{α:Type}(g:α->Bool)(i:Nat)(x:α)(s:Unit):Unit⊕(Nat×α×Unit):=if(g x)=true then .inr (i,x,s)else .inl ()
def ahq{α:Type}(d:α)(g:α->Bool)(l:List α):Int:=if(kC (nG (a5i g) l 0 ()))=true then -1 else(((Ea (0,d,()) (nG (a5i g) l 0 ())).1:Int))
theorem a98{α}(g:α->Bool):∀(l) (i),kC (nG (a5i g) l i ())=!(l.any g)
 | [],i=>rfl
 |x::l,i=>by
  simp only[nG,a5i,aeM];cases g x
  .simpa using a98 g l (i+1)
  simp[kC]
theorem ahr{α}(d:α)(g l):decide (ahq d g l>=0)=l.any g:=by have:=a98 g l 0;unfold ahq;rw[this];cases l.any g<;>simp
theorem cO{α:Type}{l:List α}{k d}(h:k<l.length):l.getD k d∈l:=by simp[List.getD,a0Q h]
abbrev ahs(f:Nat)(a c:List (PV aH))(H:List (PB aH))(l:List Dg)(i:Int)(x:List (Nat×PE aH)):bV aH:=⟨[(0,xL 26 l),(1,.val (.fn f a c)),(7,xi l.length),(8,xi i)]++x,[],H⟩
def ams(f:Nat)(a c:List (PV aH))(H:List (PB aH))(l:List Dg):Unit⊕(Nat×Dg×Unit)->Ex×bV aH
 |.inl _=>(.exit 0,ahs f a c H l l.length [(9,xl false)])
 |.inr r=>(.ret,⟨[(4,xi r.1)],[],H⟩)
theorem arz{n f:Nat}{a c:List (PV aH)}{H:List (PB aH)}{g}(l)(hf:∀x∈l,iW n (.fn f a c) [.agg x.ps] H (.bool (g x)) H)(hl:l.length<=ah):iW (n+1) (.fn 204 [] []) [lDg l,.fn f a c] H (iA.put (ahq iJ g l)) H:=by
 have lp:Oi n 204 0 H.length (ahs f a c H l 0 []) (ams f a c H l (nG (a5i g) l 0 ())).1 (ams f a c H l (nG (a5i g) l 0 ())).2:=
  Yb (st:=fun i _=>ahs f a c H l i []) iJ (fun _ _=>True) (by kernel_rfl) hl SB trivial (fun k s n hk _ ih=>aN gU (.b (bg hk) (.o (aG hk) (.k (hf (l.getD k iJ) (cO hk)) (.ls (.ou nofun) (.nx (ih _ trivial))))))) (fun s _=>aN gU (.b (fC l.length) (.ou nofun)))
 exact jI gU (first:=[]) (cap:=[]) (.szh (fun h=>.w (l7 lp () h) .sr) (fun h=>.w (l9 lp (0,iJ,()) h) .sr))
theorem arA{n f:Nat}{a c:List (PV aH)}{H:List (PB aH)}{g}(l)(hf:∀x∈l,iW n (.fn f a c) [.agg x.ps] H (.bool (g x)) H)(hl:l.length<=ah):iW (n+2) (.fn 173 [] []) [lDg l,.fn f a c] H (tA.put (l.any g)) H:=by rw[<-ahr iJ g l];have h1:=arz l hf hl;exact jI gU (first:=[]) (cap:=[]) (.k h1 .sr)
def wM(f:LI0×LI0)(d:Dg):Bool:=if decide (d.aj=f.1)=true then decide (d.aB=f.2)else false
abbrev a99(f:LI0×LI0):PV aH:=.fn 123 [.agg [lI f.1,lI f.2]] []
structure kQ(d:Dg):Prop where
 r:Dh d
 s:d.aj.length<=ah
 o:d.aB.length<=2^20
 e:d.aK.length+1<=ah
theorem arB{n}(hO:Ok n a3g)(f l)(hp:∀d∈l,kQ d)(hl:l.length<=ah):iW (n+4) (.fn 122 [] []) [a99 f,lDg l] [] (tA.put (l.all (wM f))) []:=by
 have hs:∀d∈l,iW n (a99 f) [.agg d.ps] [] (tA.put (wM f d)) []:=fun d hd=>nI.ND hX (first:=[.agg [lI f.1,lI f.2]]) (cap:=[]) (hO 123 [.agg [lI f.1,lI f.2],.agg d.ps] (tA.put (wM f d)) [] [d.aj.length<=ah,d.aB.length<=ah] (by kernel_rfl) (fun p h=>by
  have h9:=hp d hd;have h8:=h9.o;rcases a1E.1 h with rfl|h
  .exact h9.s
  rw[a1D.1 h];exact h8)) rfl rfl rfl rfl
 have h1:∀d∈l,iW (n+1) (.fn 174 [] [.ptr 0 0 1]) [.agg d.ps] [.cells [a99 f]] (tA.put (!(wM f d))) [.cells [a99 f]]:=fun d hd=>
  jI gU (first:=[]) (.fr [] (hs d hd) .sr)
 have h2:=arA l h1 hl;rw[<-Fz l (wM f)];exact dK.drop hX (E8 hX gU (first:=[]) (cap:=[]) (H1:=[.cells [a99 f]]) (by kernel_rfl) (.k h2 .sr)) rfl rfl
abbrev wCk(l:List Dg)(i:Int)(x:List (Nat×PE aH)):bV aH:=⟨[(0,xL 26 l),(6,xL 26 l),(7,xi l.length),(8,xi i)]++x,[],[]⟩
abbrev Z9(l:List Dg)(k:Nat):Bool:=(vC (l.getD k iJ)).2 != 0
def zCk(l:List Dg):Unit⊕Nat->Ex×bV aH
 |.inl _=>(.exit 0,wCk l l.length [(9,xl false)])
 |.inr k=>(.ret,⟨[(2,xi (vC (l.getD k iJ)).2)],[(l.getD k iJ).ps],[]⟩)
theorem lCk{n}(hO:Ok n a3g){l}(hp:∀d∈l,kQ d)(hl:l.length<=ah):Lp n 76 0 (wCk l 0 []) (zCk l (bH (Z9 l) l.length)).1 (zCk l (bH (Z9 l) l.length)).2:=by
 refine jo (st:=fun i _=>wCk l i []) (g:=gS (Z9 l)) (out:=zCk l) (fun _ _=>True) (by kernel_rfl) hl trivial (fun k u m hk _ ih=>?_) (fun _ _=>?_)
 .have h9:=hp _ (cO (d:=iJ) hk);unfold gS Z9;exact aN hO (.b (bg hk) (.o (aG hk) (.o h9.r (.o h9.s (.o h9.o (.o h9.e (.ls (.ou nofun) (.nx (ih _ trivial)))))))))
 exact aN hO (.b (fC l.length) (.ou nofun))
def aW(l:List Dg):Int:=if kC (bH (Z9 l) l.length)=true then(if(!(l.all (wM ((l.getD 0 iJ).aj,(l.getD 0 iJ).aB))))=true then 2 else 0)else(vC (l.getD (Ea 0 (bH (Z9 l) l.length)) iJ)).2
def amu:gZ aH:=cu 76 (a1 a4P) iA aW (fun l=>[∀d∈l,kQ d,0<l.length/\l.length<=ah]) a3g
theorem arE:Gd amu:=amr.deep 4 fun n hn hO l hp=>by have h1:∀d∈l,kQ d:=hp _ iE;have h2:0<l.length/\l.length<=ah:=hp _ zq;have hs:=arB (n:=n-4) (hO (n-4) (by omega)) ((l.getD 0 iJ).aj,(l.getD 0 iJ).aB) l h1 h2.2;rw[show n-4+4=n by omega]at hs;have i0:gG 0 l.length:=⟨by omega,by omega⟩;have hl:=lCk (hO n (by omega)) h1 h2.2;show nI X0 Qp _ _ _ (iA.put (aW l)) _;unfold aW;exact aP (hO n (by omega)) (.zh (fun h=>.w (l7 hl () h) (.o i0 (.o i0 (.fr [] hs (.ss .rr .rr))))) (fun h=>.w (l9 hl 0 h) .rr))
open Go Tw Pv bK
theorem a9a{n:Int}(h:0<=n/\n<=6):n=0\/n=1\/n=2\/n=3\/n=4\/n=5\/n=6:=by omega
theorem a9b:(0:Int)<=32:=by decide
def aeP:gZ aH:=cu 206 (a2 pA pA) (dQ (a2 pA pA)) (fun p=>(0,p.2)) (fun p=>[p.1=1,0<=p.2/\p.2<=6]) amu
theorem amv:Gd aeP:=arE.add fun n hO p hp=>by
 obtain⟨a,b⟩:=p;have h1:a=1:=hp _ iE;have h2:0<=b/\b<=6:=hp _ zq;subst h1;rcases a9a h2 with rfl|rfl|rfl|rfl|rfl|rfl|rfl
 all_goals exact aP hO (.o a9b (.o a9b (.o a9b (.o a9b (.o a9b .rr)))))
def aeQ:gZ aH:=cu 175 (a2 pA pA) (dQ (a2 pA pA)) (fun p=>(0,p.2)) (fun p=>[p.1=1,0<=p.2/\p.2<=6]) aeP
theorem amw:Gd aeQ:=amv.add fun n hO p hp=>aP hO (.o (hp _ iE) (.o (hp _ zq) .rr))
def Gy:gZ aH:=cu 124 (a2 qC iA) qC (fun p=>List.replicate p.2.toNat (-1)) (fun p=>[p.1=[-1],0<=p.2/\p.2<=6]) aeQ
theorem UG:Gd Gy:=amw.add fun n hO p hp=>by
 obtain⟨a,b⟩:=p;have h1:a=[-1]:=hp _ iE;have h2:0<=b/\b<=6:=hp _ zq;subst h1;rcases a9a h2 with rfl|rfl|rfl|rfl|rfl|rfl|rfl
 .exact aP hO (.b (rfl:decide ((0:Int)<0)=false) (.o aiG (.o aj1 (.b (rfl:decide ((0:Int)>0)=false) (.b (rfl:decide ((0:Int)>9223372036854775807)=false) (.o aiN (.o aiD (.o (show(0:Int)<=(ah:Int) by decide) (.m 8 le8 (.b (rfl:decide ((0:Int)<0)=false) .rr))))))))))
 .exact aP hO (.b (rfl:decide ((1:Int)<0)=false) (.o aiG (.o aj2 (.b (rfl:decide ((0:Int)>0)=false) (.b (rfl:decide ((1:Int)>9223372036854775807)=false) (.o aiG (.o aiE (.o (show(1:Int)<=(ah:Int) by decide) (.m 8 le8 (.b (rfl:decide ((1:Int)<1)=false) .rr))))))))))
 .exact aP hO (.b (rfl:decide ((2:Int)<0)=false) (.o aiG (.o aj6 (.b (rfl:decide ((0:Int)>0)=false) (.b (rfl:decide ((2:Int)>9223372036854775807)=false) (.o (rfl:(2:Int)=2) (.o aiF (.o (show(2:Int)<=(ah:Int) by decide) (.m 8 le8 (.b (rfl:decide ((1:Int)<2)=true) (.o aiE (.o aiO (.o aj3 (.o aiD (.o aiE (.o aiO (.b (rfl:decide ((2:Int)<2)=false) .rr)))))))))))))))))
 .exact aP hO (.b (rfl:decide ((3:Int)<0)=false) (.o aiG (.o aj8 (.b (rfl:decide ((0:Int)>0)=false) (.b (rfl:decide ((3:Int)>9223372036854775807)=false) (.o (rfl:(3:Int)=3) (.o aj7 (.o (show(3:Int)<=(ah:Int) by decide) (.m 8 le8 (.b (rfl:decide ((1:Int)<3)=true) (.o aiE (.o aiP (.o aiQ (.o aiD (.o aiE (.o aiP (.b (rfl:decide ((2:Int)<3)=true) (.o aiF (.o aiR (.o aiQ (.o aiD (.o aiF (.o aiR (.b (rfl:decide ((3:Int)<3)=false) .rr))))))))))))))))))))))))
 .exact aP hO (.b (rfl:decide ((4:Int)<0)=false) (.o aiG (.o aj9 (.b (rfl:decide ((0:Int)>0)=false) (.b (rfl:decide ((4:Int)>9223372036854775807)=false) (.o (rfl:(4:Int)=4) (.o aiI (.o (show(4:Int)<=(ah:Int) by decide) (.m 8 le8 (.b (rfl:decide ((1:Int)<4)=true) (.o aiE (.o aiS (.o aiT (.o aiD (.o aiE (.o aiS (.b (rfl:decide ((2:Int)<4)=true) (.o aiF (.o aiU (.o aiT (.o aiD (.o aiF (.o aiU (.b (rfl:decide ((4:Int)<4)=false) .rr))))))))))))))))))))))))
 .exact aP hO (.b (rfl:decide ((5:Int)<0)=false) (.o aiG (.o ajc (.b (rfl:decide ((0:Int)>0)=false) (.b (rfl:decide ((5:Int)>9223372036854775807)=false) (.o (rfl:(5:Int)=5) (.o aja (.o (show(5:Int)<=(ah:Int) by decide) (.m 8 le8 (.b (rfl:decide ((1:Int)<5)=true) (.o aiE (.o aiV (.o aiL (.o aiD (.o aiE (.o aiV (.b (rfl:decide ((2:Int)<5)=true) (.o aiF (.o aiW (.o aiL (.o aiD (.o aiF (.o aiW (.b (rfl:decide ((4:Int)<5)=true) (.o aiI (.o aiX (.o aiL (.o aiD (.o aiI (.o aiX (.b (rfl:decide ((5:Int)<5)=false) .rr)))))))))))))))))))))))))))))))
 .exact aP hO (.b (rfl:decide ((6:Int)<0)=false) (.o aiG (.o ajg (.b (rfl:decide ((0:Int)>0)=false) (.b (rfl:decide ((6:Int)>9223372036854775807)=false) (.o (rfl:(6:Int)=6) (.o aje (.o (show(6:Int)<=(ah:Int) by decide) (.m 8 le8 (.b (rfl:decide ((1:Int)<6)=true) (.o aiE (.o aiY (.o aiM (.o aiD (.o aiE (.o aiY (.b (rfl:decide ((2:Int)<6)=true) (.o aiF (.o aiZ (.o aiM (.o aiD (.o aiF (.o aiZ (.b (rfl:decide ((4:Int)<6)=true) (.o aiI (.o aj0 (.o aiM (.o aiD (.o aiI (.o aj0 (.b (rfl:decide ((6:Int)<6)=false) .rr)))))))))))))))))))))))))))))))
open Go Tw Pv bK
structure S3 where
 a:Int
 b:Int
 c:Int
 deriving DecidableEq
abbrev S3.ps(s:S3):List (PV aH):=[.int .i64 s.a,.int .i64 s.b,.int .i64 s.c]
def S3.get(s:S3):Nat->Int
 | 0=>s.a
 | 1=>s.b
 |_=>s.c
def S3.set(s:S3)(k:Nat)(v:Int):S3:=match k with
 | 0=>⟨v,s.b,s.c⟩
 | 1=>⟨s.a,v,s.c⟩
 |_=>⟨s.a,s.b,v⟩
structure Jb where
 s:LI0
 o:LI0
 D:List Dg
 g:LI0
abbrev Jb.ps(J:Jb)(op:PV aH):List (PV aH):=[lI J.s,lI J.o,lDg J.D,lI J.g,op]
def lM(d:Dg)(x c:Int):Bool:=if decide (x>=0)=true then((ay d x).var==c)else false
def NG(d:Dg)(x c g:Int):Int:=if lM d x c=true then(ay d x).aA.getD g.toNat 0 else x
theorem acd{d x c}(e:decide (x>=0)=false):lM d x c=false:=by unfold lM;rw[e];rfl
theorem a9c{d x c}(e:decide (x>=0)=true):lM d x c=((ay d x).var==c):=by unfold lM;rw[e];rfl
abbrev lQ(D:List Dg)(k:Nat):Dg:=D.getD k iJ
def kG(D:List Dg)(s:S3)(c:Int):Bool:=!(kC (bH (fun k=>lM (lQ D k) (s.get k) c) D.length))
def bP(D:List Dg)(s:S3)(c g:Int):S3:=aS (fun k y=>y.set k (NG (lQ D k) (y.get k) c g)) D.length 0 s
def fB(D:List Dg):S3:=aS (fun k y=>y.set k (lQ D k).root) D.length 0 ⟨0,0,0⟩
theorem three{k n}(h:k<n)(hn:n<=3):k=0\/k=1\/k=2:=by omega
theorem m3{n}(h:n<=3):n<=ah:=by unfold ah;omega
section
variable{M f:Nat}{a cc:List (PV aH)}{H:List (PB aH)}
abbrev wAs(J:Jb)(op:PV aH)(H:List (PB aH))(s:S3)(c:Int)(i:Int)(x:List (Nat×PE aH)):bV aH:=⟨[(2,xi c),(4,.loc 1 0),(10,xL 26 J.D),(11,xi J.D.length),(12,xi i)]++x,[J.ps op,s.ps],H⟩
def zAs(J:Jb)(op:PV aH)(H:List (PB aH))(s:S3)(c:Int):Unit⊕Nat->Ex×bV aH
 |.inl _=>(.exit 0,wAs J op H s c J.D.length [(13,xl false)])
 |.inr k=>(.ret,⟨[(6,xl true)],[J.ps op,s.ps,(lQ J.D k).ps],H⟩)
theorem lAs(J s c)(hD:J.D.length<=3)(hr:∀k,k<J.D.length->decide (s.get k>=0)=true->gG (s.get k) (lQ J.D k).au.length):Oi M 127 0 H.length (wAs J (.fn f a cc) H s c 0 []) (zAs J (.fn f a cc) H s c (bH (fun k=>lM (lQ J.D k) (s.get k) c) J.D.length)).1 (zAs J (.fn f a cc) H s c (bH (fun k=>lM (lQ J.D k) (s.get k) c) J.D.length)).2:=by
 refine jo (st:=fun i _=>wAs J (.fn f a cc) H s c i []) (g:=gS (fun k=>lM (lQ J.D k) (s.get k) c)) (out:=zAs J (.fn f a cc) H s c) (fun _ _=>True) (by kernel_rfl) (m3 hD) trivial (fun k u m hk _ ih=>?_) (fun _ _=>?_)
 .have h1:=hr k hk;have hg:gS (fun k=>lM (lQ J.D k) (s.get k) c) k u=if lM (lQ J.D k) (s.get k) c=true then .inr k else .inl u:=rfl
  cases e:decide (s.get k>=0)
  .rw[acd e,a18 (by simp)]at hg;rw[hg];rcases three hk hD with rfl|rfl|rfl
   all_goals exact aN gU (.b (bg hk) (.o (aG hk) (.b e (.nx (ih _ trivial)))))
  rw[a9c e]at hg;rw[hg];rcases three hk hD with rfl|rfl|rfl
  all_goals exact aN gU (.b (bg hk) (.o (aG hk) (.b e (.o (h1 e) (.ls (.ou nofun) (.nx (ih _ trivial)))))))
 exact aN gU (.b (fC J.D.length) (.ou nofun))
theorem a9d(J:Jb)(s c)(hD:J.D.length<=3)(hr:∀k,k<J.D.length->decide (s.get k>=0)=true->gG (s.get k) (lQ J.D k).au.length):dK X0 Qp (iw (M+1)) (.fn 127 [] []) [.agg (J.ps (.fn f a cc)),.agg s.ps,.int .i64 c] H (.bool (kG J.D s c)) H:=by
 have lp:=lAs (M:=M) (f:=f) (a:=a) (cc:=cc) (H:=H) J s c hD hr;unfold kG;cases h:kC (bH (fun k=>lM (lQ J.D k) (s.get k) c) J.D.length)
 .exact fK gU (first:=[]) (cap:=[]) (.w (l9 lp 0 h) .er)
 exact fK gU (first:=[]) (cap:=[]) (.w (l7 lp () h) .er)
abbrev wAf(J:Jb)(op:PV aH)(H:List (PB aH))(s:S3)(c g:Int)(i:Int)(x:List (Nat×PE aH)):bV aH:=⟨[(2,xi c),(3,xi g),(5,.loc 1 0),(8,.loc 2 0),(12,xL 26 J.D),(13,xi J.D.length),(14,xi i)]++x,[J.ps op,s.ps,[.int .i64 0,.int .i64 0,.int .i64 0]],H⟩
structure a3h(d:Dg)(x c g:Int):Prop where
 n:decide (x>=0)=true->gG x d.au.length
 k:lM d x c=true->gG g (ay d x).aA.length
theorem Lm(J:Jb)(s c g)(hD:J.D.length<=3)(hr:∀k,k<J.D.length->a3h (lQ J.D k) (s.get k) c g):dK X0 Qp (iw (M+1)) (.fn 129 [] []) [.agg (J.ps (.fn f a cc)),.agg s.ps,.int .i64 c,.int .i64 g] H (.agg (bP J.D s c g).ps) H:=by
 have lp:Oi M 129 0 H.length (wAf J (.fn f a cc) H s c g 0 []) (.exit 0) (wAf J (.fn f a cc) H (bP J.D s c g) c g J.D.length [(15,xl false)]):=by
  refine wL (σ:=S3) (N:=J.D.length) (g:=fun k y=>y.set k (NG (lQ J.D k) (y.get k) c g)) (s0:=s) (st:=fun i y=>wAf J (.fn f a cc) H y c g i []) (fin:=fun y=>wAf J (.fn f a cc) H y c g J.D.length [(15,xl false)]) (fun j y=>∀k,j<=k->k<J.D.length->y.get k=s.get k) (by kernel_rfl) (m3 hD) (fun _ _ _=>rfl) (fun j y hj hy=>?_) (fun j y hj hy m e p g9=>?_) (fun y _=>?_)
  .intro k hk kU;rw[<-hy k (by omega) kU];rcases three kU hD with rfl|rfl|rfl<;>rcases three hj hD with rfl|rfl|rfl<;>first|rfl|omega
  .have h1:=hr j hj;rw[<-hy j (a1l _) hj]at h1;obtain⟨h1,h2⟩:=h1;unfold NG at g9;rcases three hj hD with rfl|rfl|rfl
   all_goals
    cases e1:decide (y.get _>=0)
    .unfold lM at g9;rw[e1]at g9;exact aN gU (.b (bg hj) (.o (aG hj) (.b e1 (.go g9))))
    .have h3:=h1 e1;cases e2:(ay (lQ J.D _) (y.get _)).var==c
     .unfold lM at g9;rw[e1,a1e rfl,e2]at g9;exact aN gU (.b (bg hj) (.o (aG hj) (.b e1 (.o h3 (.b e2 (.go g9))))))
     .unfold lM at g9 h2;rw[e1,a1e rfl,e2]at g9 h2;exact aN gU (.b (bg hj) (.o (aG hj) (.b e1 (.o h3 (.b e2 (.o h3 (.o (h2 rfl) (.go g9))))))))
  exact aN gU (.b (fC J.D.length) .ex)
 exact fK gU (first:=[]) (cap:=[]) (.w lp .er)
abbrev wSt(J:Jb)(op:PV aH)(H:List (PB aH))(s:S3)(i:Int)(x:List (Nat×PE aH)):bV aH:=⟨[(2,.loc 1 0),(6,xL 26 J.D),(7,xi J.D.length),(8,xi i)]++x,[J.ps op,s.ps],H⟩
theorem a0Y(J:Jb)(hD:J.D.length<=3):dK X0 Qp (iw (M+1)) (.fn 130 [] []) [.agg (J.ps (.fn f a cc))] H (.agg (fB J.D).ps) H:=by
 have lp:Oi M 130 0 H.length (wSt J (.fn f a cc) H ⟨0,0,0⟩ 0 []) (.exit 0) (wSt J (.fn f a cc) H (fB J.D) J.D.length [(9,xl false)]):=by
  refine wL (σ:=S3) (N:=J.D.length) (g:=fun k y=>y.set k (lQ J.D k).root) (s0:=⟨0,0,0⟩) (st:=fun i y=>wSt J (.fn f a cc) H y i []) (fin:=fun y=>wSt J (.fn f a cc) H y J.D.length [(9,xl false)]) (fun _ _=>True) (by kernel_rfl) (m3 hD) trivial (fun _ _ _ _=>trivial) (fun j y hj _ m e p g9=>?_) (fun y _=>?_)
  .rcases three hj hD with rfl|rfl|rfl
   all_goals exact aN gU (.b (bg hj) (.o (aG hj) (.go g9)))
  exact aN gU (.b (fC J.D.length) .ex)
 exact fK gU (first:=[]) (cap:=[]) (.w lp .er)
end
end Go.Proofs.YtmobpoiejckagaaGreat
namespace Pv
open Go Tw
section
variable{X:mV}{P:LI1}
theorem dK.fzR(hX:bT X P){call fv xs H H1 v v'}(hs:dK X P call fv xs H v H1)(is)(hv:views H1 [v]=some [v'])(ho:∀i,i∈lN.kX [v]->i∈is):dK X P call fv xs H v' (aX is H1):=by intro A m h tf rH hr hf hx;obtain⟨w,h',ws,m1,k1,k2,k3,k4,k5,k6⟩:=hs A m h tf rH hr hf hx;have hF:=iK (h:=h') is m1;have w1:=(mg (m':=bW is m1) hX k2 (.cons k3 .nil) hv ho).mono fun b hb=>FA.gone k2 hb;obtain⟨x,r,e,h1,_⟩:=w1.inv;cases e;exact⟨w,h',ws,bW is m1,k1,k2.aX is,h1,k4.trans hF.1,k5.trans hF.2,k6⟩
end
end Pv
namespace Go.Proofs.YtmobpoiejckagaaGreat
open Go Tw Pv bK
def aV(D:List Dg)(s:S3):List V:=(List.range D.length).map fun k=>oM (lQ D k) (s.get k)
def gCe(D:List Dg)(s:S3)(k:Nat)(l:List V):List V:=l++[oM (lQ D k) (s.get k)]
theorem a9e(D s):aS (gCe D s) D.length 0 []=aV D s:=by have:=dh (g:=gCe D s) (m:=D.length) (k:=0) (s:=[]) (fun k l=>l=(List.range k).map fun k=>oM (lQ D k) (s.get k)) rfl (fun j l _ _ e=>by rw[gCe,e,abW,a4Q];rfl);rw[a3L]at this;exact this
abbrev wCe(J:Jb)(op:PV aH)(H:List (PB aH))(s:S3)(l:List V)(i:Int)(x:List (Nat×PE aH)):bV aH:=⟨[(3,.loc 1 0),(4,.val (.own H.length)),(8,xL 26 J.D),(9,xi J.D.length),(10,xi i)]++x,[J.ps op,s.ps],H++[.list false false 39 l]⟩
theorem a3i{M f:Nat}(J:Jb)(s)(hD:J.D.length<=3)(hr:∀k,k<J.D.length->gG (ji (s.get k)) (lQ J.D k).aK.length):dK X0 Qp (iw (M+1)) (.fn 128 [] []) [.agg (J.ps (.fn f [] [])),.agg s.ps] [] (lV (aV J.D s)) []:=by
 have lp:Oi M 128 0 0 (wCe J (.fn f [] []) [] s [] 0 []) (.exit 0) (wCe J (.fn f [] []) [] s (aV J.D s) J.D.length [(11,xl false)]):=by
  rw[<-a9e J.D s];refine wL (σ:=List V) (N:=J.D.length) (g:=gCe J.D s) (s0:=[]) (st:=fun i l=>wCe J (.fn f [] []) [] s l i []) (fin:=fun l=>wCe J (.fn f [] []) [] s l J.D.length [(11,xl false)]) (fun k l=>l.length=k) (by kernel_rfl) (m3 hD) rfl (fun j y hj hy=>by simp[gCe,hy]) (fun j y hj hy m e p g9=>?_) (fun y _=>?_)
  .have h1:=hr j hj;have h2:y.length+[oM (lQ J.D j) (s.get j)].length<=ah:=by rw[hy,a4v];exact m3 (by omega)
   rcases three hj hD with rfl|rfl|rfl
   all_goals exact aN gU (.b (bg hj) (.o (aG hj) (.o h1 (.o h2 (.goG [.gc [2]] g9)))))
  exact aN gU (.b (fC J.D.length) .ex)
 have h0:dK X0 Qp (iw (M+1)) (.fn 128 [] []) [.agg (J.ps (.fn f [] [])),.agg s.ps] [] (.own 0) ([]++[.list false false 39 (aV J.D s)]):=fK gU (first:=[]) (cap:=[]) (.wG [.IQ 4 39] lp .er);exact dK.cut hX (dK.fzR hX h0 [0] (v':=lV (aV J.D s)) rfl (by decide)) rfl rfl rfl rfl
theorem ace{M f:Nat}{u}(J:Jb)(s)(hD:J.D.length<=3)(hr:∀k,k<J.D.length->gG (ji (s.get k)) (lQ J.D k).aK.length):dK X0 Qp (iw (M+1)) (.fn 128 [] []) [.agg (J.ps (.fn f [] [.ptr 0 0 1])),.agg s.ps] [.aF [.int .u8 u]] (lV (aV J.D s)) [.aF [.int .u8 u]]:=by
 have lp:Oi M 128 0 1 (wCe J (.fn f [] [.ptr 0 0 1]) [.aF [.int .u8 u]] s [] 0 []) (.exit 0) (wCe J (.fn f [] [.ptr 0 0 1]) [.aF [.int .u8 u]] s (aV J.D s) J.D.length [(11,xl false)]):=by
  rw[<-a9e J.D s];refine wL (σ:=List V) (N:=J.D.length) (g:=gCe J.D s) (s0:=[]) (st:=fun i l=>wCe J (.fn f [] [.ptr 0 0 1]) [.aF [.int .u8 u]] s l i []) (fin:=fun l=>wCe J (.fn f [] [.ptr 0 0 1]) [.aF [.int .u8 u]] s l J.D.length [(11,xl false)]) (fun k l=>l.length=k) (by kernel_rfl) (m3 hD) rfl (fun j y hj hy=>by simp[gCe,hy]) (fun j y hj hy m e p g9=>?_) (fun y _=>?_)
  .have h1:=hr j hj;have h2:y.length+[oM (lQ J.D j) (s.get j)].length<=ah:=by rw[hy,a4v];exact m3 (by omega)
   rcases three hj hD with rfl|rfl|rfl
   all_goals exact aN gU (.b (bg hj) (.o (aG hj) (.o h1 (.o h2 (.goG [.gc [3]] g9)))))
  exact aN gU (.b (fC J.D.length) .ex)
 have h0:dK X0 Qp (iw (M+1)) (.fn 128 [] []) [.agg (J.ps (.fn f [] [.ptr 0 0 1])),.agg s.ps] [.aF [.int .u8 u]] (.own 1) ([.aF [.int .u8 u]]++[.list false false 39 (aV J.D s)]):=fK gU (first:=[]) (cap:=[]) (.wG [.IQ 4 39] lp .er);exact dK.cut hX (dK.fzR hX h0 [1] (v':=lV (aV J.D s)) rfl (by decide)) rfl rfl rfl rfl
open Go Tw Pv bK
def S3.l(s:S3):LI0:=[s.a,s.b,s.c]
theorem uSt:Tryz.prog.underlying 148=some (.array 3 3):=by kernel_rfl
theorem amx(a b:S3):aC Qp (Op.equal 148 (.agg (Ef .i64 a.l)) (.agg (Ef .i64 b.l)))=some (decide (a=b)):=by have:=CJ (P:=Qp) 9998 (k:=.i64) (l:=a.l) (l':=b.l) uSt (by kernel_rfl) a4S (by kernel_rfl) rfl rfl;refine Eq.trans this ?_;obtain⟨a1,a2,a3⟩:=a;obtain⟨b1,b2,b3⟩:=b;simp[S3.l]
def kS:pF X0 Qp 148 S3 where
 pv x:=.agg x.ps
 tv x:=.agg [.int .i64 x.a,.int .i64 x.b,.int .i64 x.c]
 v x:=.agg (Ef .i64 x.l)
 hp _:=rfl
 ht _:=rfl
 hc em x:=by kernel_rfl
 hf x l:=agK uSt amx x l
 hk:=agL uSt amx
structure Mk where
 e:List V
 n:List Br
 k:List (S3×Int)
def WG(D:List Dg)(f:S3->Mk->Int×Mk)(s:S3)(c:Int)(j:Nat)(y:LI0×Mk):LI0×Mk:=(y.1++[(f (bP D s c j) y.2).1],(f (bP D s c j) y.2).2)
def knS(k:List (S3×Int))(s:S3):Int:=((k.find? fun e=>decide (e.1=s)).map (·.2)).getD 0
def jO(J:Jb)(op:List V->V):LI0->S3->Mk->Int×Mk
 | [],s,x=>(i64.wrap (0-((x.e++[op (aV J.D s)]).length:Int)),{ x with e:=x.e++[op (aV J.D s)] })
 |c::r,s,x=>if kG J.D s c=true then(if decide (J.g.getD c.toNat 0>=0)=true then jO J op r (bP J.D s c (J.g.getD c.toNat 0)) x
   else if s∈x.k.map (·.1)then(knS x.k s,x)
   else
    let y:=aS (WG J.D (jO J op r) s c) (J.s.getD c.toNat 0).toNat 0 ([],x)
    ((y.2.n.length:Int),⟨y.2.e,y.2.n++[⟨c,y.1⟩],y.2.k++[(s,(y.2.n.length:Int))]⟩))
  else jO J op r s x
abbrev Js(k:List (S3×Int)):List (PV aH×PV aH):=kS.es (k.map fun e=>(e.1,.int .i64 e.2))
abbrev pM:List (PV aH):=[.ptr 2 0 5,.ptr 1 0 5,.ptr 3 0 1,.ptr 4 0 1]
abbrev HM0(J:Jb)(f:Nat)(x:Mk):List (PB aH):=[.map (Js x.k),.cells [lI J.s,lI J.o,.own 5,.own 6,.int .i64 0],.aF (J.ps (.fn f [] [])),.aF [.fn 126 [] pM],.aF [.map 0],RI x.e,RJ x.n]
abbrev acf(J:Jb)(f:Nat)(x:Mk):List (PB aH):=[.map (Js x.k),.cells [lI J.s,lI J.o,.own 7,.own 8,.int .i64 0],.aF (J.ps (.fn f [] [])),.aF [.fn 126 [] pM],.aF [.map 0],.gone,.gone,RI x.e,RJ x.n]
abbrev HM1(J:Jb)(f:Nat)(u:Int)(x:Mk):List (PB aH):=[.map (Js x.k),.cells [lI J.s,lI J.o,.own 6,.own 7,.int .i64 0],.aF (J.ps (.fn f [] [.ptr 5 0 1])),.aF [.fn 126 [] pM],.aF [.map 0],.aF [.int .u8 u],RI x.e,RJ x.n]
abbrev acg(J:Jb)(f:Nat)(u:Int)(x:Mk):List (PB aH):=[.map (Js x.k),.cells [lI J.s,lI J.o,.own 8,.own 9,.int .i64 0],.aF (J.ps (.fn f [] [.ptr 5 0 1])),.aF [.fn 126 [] pM],.aF [.map 0],.aF [.int .u8 u],.gone,.gone,RI x.e,RJ x.n]
open Go Tw Pv bK
theorem S3.jm{s:S3}{i k v}(hi:i<3)(hk:k<3):(s.set i v).get k=if k=i then v else s.get k:=by
 match i,k,hi,hk with
 | 0,0,_,_=>rfl
 | 0,1,_,_=>rfl
 | 0,2,_,_=>rfl
 | 1,0,_,_=>rfl
 | 1,1,_,_=>rfl
 | 1,2,_,_=>rfl
 | 2,0,_,_=>rfl
 | 2,1,_,_=>rfl
 | 2,2,_,_=>rfl
 |i+3,_,h,_=>omega
 |_,k+3,_,h=>omega
theorem Lr{D}(hD:D.length<=3)(t c g){k}(hk:k<D.length):(bP D t c g).get k=NG (lQ D k) (t.get k) c g:=by
 have:=dh (g:=fun k (y:S3)=>y.set k (NG (lQ D k) (y.get k) c g)) (m:=D.length) (k:=0) (s:=t) (fun j y=>∀k,k<D.length->y.get k=if k<j then NG (lQ D k) (t.get k) c g else t.get k) (fun k _=>by rw[a18 (by omega)]) (fun j y _ hj hy k hk=>by
  rw[S3.jm (by omega) (by omega)];by_cases e:k=j
  .subst e;rw[a1e rfl,a1e (by omega),hy k hk,a18 (by omega)]
  rw[a18 e,hy k hk];by_cases e2:k<j
  .rw[a1e e2,a1e (by omega)]
  rw[a18 e2,a18 (by omega)])
 have h:=this k hk;rw[a1e (by omega)]at h;exact h
theorem Ey{D t c}:kG D t c=true↔∃k,k<D.length/\lM (lQ D k) (t.get k) c=true:=by
 unfold kG;constructor
 .intro h;refine ade fun h2=>?_;have:kC (bH (fun k=>lM (lQ D k) (t.get k) c) D.length)=true:=dL.2 fun k hk=>by
   cases e:lM (lQ D k) (t.get k) c
   .rfl
   exact absurd ⟨k,hk,e⟩ h2
  rw[this]at h;cases h
 rintro⟨k,hk,h⟩;cases e:kC (bH (fun k=>lM (lQ D k) (t.get k) c) D.length)
 .rfl
 have:=dL.1 e k hk;rw[h]at this;cases this
theorem FC{d x c}:lM d x c=true↔0<=x/\(ay d x).var=c:=by
 unfold lM;split
 .rename_i h;simp at h;simp[h]
 rename_i h;simp at h;simp;omega
structure DJ(J:Jb)(d:Dg):Prop where
 t:D6 d
 n:d.au.length<=6000
 s:d.aj=J.s
 o:d.aB=J.o
 rk:∀i,i<d.au.length->∀k,k<(fD d i).aA.length->d.aB.idxOf (fD d i).var+1<=FW d.aB d.au ((fD d i).aA.getD k 0)
 two:∀i,i<d.au.length->2<=(fD d i).aA.length
structure jr(J:Jb):Prop where
 d3:J.D.length<=3
 bQ:wC J.s
 ord:kD J.s.length J.o=true
 dg:∀k,k<J.D.length->DJ J (lQ J.D k)
 gl:J.g.length=J.s.length
 gv:∀c,gG c J.s.length->0<=J.g.getD c.toNat 0->J.g.getD c.toNat 0<J.s.getD c.toNat 0
def Dp(J:Jb)(a:Nat)(t:S3):Prop:=∀k,k<J.D.length->jM (lQ J.D k) (t.get k) (lQ J.D k).au.length/\a<=FW J.o (lQ J.D k).au (t.get k)
theorem Dp.le{J a b t}(h:Dp J a t)(hb:b<=a):Dp J b t:=fun k hk=>⟨(h k hk).1,by have:=(h k hk).2;omega⟩
section
variable{J:Jb}(hJ:jr J){a:Nat}{t:S3}{c:Int}{r:LI0}
include hJ
theorem jr.o2:J.o.Nodup/\J.o.length=J.s.length/\∀c∈J.o,gG c J.s.length:=by have ho:=hJ.ord;unfold kD at ho;rw[a1x]at ho;exact⟨ho.2.2,ho.1,fun c hc=>⟨(ho.2.1 c hc).1,(ho.2.1 c hc).2⟩⟩
theorem jr.at_(hr:J.o.drop a=c::r):a<J.o.length/\J.o.getD a 0=c/\J.o.drop (a+1)=r/\c∈J.o/\J.o.idxOf c=a/\gG c J.s.length:=by
 have aQ:a<J.o.length:=by have:=congrArg List.length hr;rw[a4g,a4C]at this;omega
 have hd:=a6y aQ;rw[hr]at hd;obtain⟨hc,xK⟩:=List.cons.inj hd;have FV:c∈J.o:=by rw[hc];exact a5K aQ
 obtain⟨h1,h2,h3⟩:=jr.o2 hJ;exact⟨aQ,by rw[hc];simp[List.getD,a0Q aQ],xK.symm,FV,by rw[hc];exact h1.idxOf_getElem a aQ,h3 c FV⟩
theorem a0Z(hr:J.o.drop a=c::r)(h:kG J.D t c=true):¬Dp J (a+1) t:=fun hd=>by obtain⟨k,hk,h1⟩:=Ey.1 h;obtain⟨x0,hv⟩:=FC.1 h1;have:=(hd k hk).2;unfold FW at this;rw[a18 (by omega)]at this;have e:((lQ J.D k).au.getD (t.get k).toNat lH).var=c:=hv;rw[e,(jr.at_ hJ hr).2.2.2.2.1]at this;omega
theorem a3j(hr:J.o.drop a=c::r)(hd:Dp J a t){k}(hk:k<J.D.length)(hn:lM (lQ J.D k) (t.get k) c=false):a+1<=FW J.o (lQ J.D k).au (t.get k):=by
 have h1:=(hd k hk).2;have h2:=jr.at_ hJ hr;by_cases x0:t.get k<0
 .unfold FW;rw[a1e x0];omega
 have iI:((lQ J.D k).au.getD (t.get k).toNat lH).var≠c:=fun e=>by have:lM (lQ J.D k) (t.get k) c=true:=FC.2 ⟨by omega,e⟩;rw[hn]at this;cases this
 unfold FW at h1 ⊢;rw[a18 x0]at h1 ⊢;rcases a4W a (J.o.idxOf ((lQ J.D k).au.getD (t.get k).toNat lH).var)with h3|h3
 .exact h3
 exfalso;have e:J.o.idxOf ((lQ J.D k).au.getD (t.get k).toNat lH).var=a:=by omega
 have aQ:J.o.idxOf ((lQ J.D k).au.getD (t.get k).toNat lH).var<J.o.length:=by rw[e];exact h2.1
 have g:J.o.getD (J.o.idxOf ((lQ J.D k).au.getD (t.get k).toNat lH).var) 0=((lQ J.D k).au.getD (t.get k).toNat lH).var:=by rw[List.getD,a0Q aQ,a5V];exact a9s aQ
 rw[e,h2.2.1]at g;exact iI g.symm
theorem WH(hr:J.o.drop a=c::r)(hd:Dp J a t)(h:kG J.D t c=false):Dp J (a+1) t:=fun k hk=>by
 refine⟨(hd k hk).1,a3j hJ hr hd hk ?_⟩;cases e:lM (lQ J.D k) (t.get k) c
 .rfl
 .have:=Ey.2 ⟨k,hk,e⟩;rw[h]at this;cases this
theorem Jt(hd:Dp J a t){k}(hk:k<J.D.length)(h:lM (lQ J.D k) (t.get k) c=true):gG (t.get k) (lQ J.D k).au.length/\(ay (lQ J.D k) (t.get k)).var=c/\((ay (lQ J.D k) (t.get k)).aA.length:Int)=J.s.getD c.toNat 0:=by obtain⟨x0,hv⟩:=FC.1 h;have hr:gG (t.get k) (lQ J.D k).au.length:=⟨x0,(hd k hk).1.1⟩;have hdj:=hJ.dg k hk;have:=hdj.t.ksz (t.get k).toNat (by have:=hr.2;omega);refine⟨hr,hv,?_⟩;have e:(ay (lQ J.D k) (t.get k))=fD (lQ J.D k) (t.get k).toNat:=rfl;rw[e,this,<-e,hv,hdj.s]
theorem nM(hr:J.o.drop a=c::r)(hd:Dp J a t){j}(hj:0<=j/\j<J.s.getD c.toNat 0):Dp J (a+1) (bP J.D t c j):=fun k hk=>by
 rw[Lr hJ.d3 t c j hk];unfold NG;split
 .rename_i h;obtain⟨h1,h2,h3⟩:=Jt hJ hd hk h;have hdj:=hJ.dg k hk;have aQ:(t.get k).toNat<(lQ J.D k).au.length:=by have:=h1.1;have:=h1.2;omega
  have MF:j.toNat<(fD (lQ J.D k) (t.get k).toNat).aA.length:=by have h3:((fD (lQ J.D k) (t.get k).toNat).aA.length:Int)=J.s.getD c.toNat 0:=h3;omega
  have g1:=hdj.t.Ah (t.get k).toNat aQ j.toNat MF;have g2:=hdj.rk (t.get k).toNat aQ j.toNat MF;refine⟨⟨by have:=g1.1;show(fD (lQ J.D k) (t.get k).toNat).aA.getD j.toNat 0<_;omega,g1.2⟩,?_⟩;have e:(fD (lQ J.D k) (t.get k).toNat).var=c:=h2;rw[hdj.o,e,(jr.at_ hJ hr).2.2.2.2.1]at g2;exact g2
 .rename_i h;exact⟨(hd k hk).1,a3j hJ hr hd hk (by simpa using h)⟩
theorem Ls(hd:Dp J a t){j}(hj:0<=j/\j<J.s.getD c.toNat 0){k}(hk:k<J.D.length):a3h (lQ J.D k) (t.get k) c j:=by refine⟨fun h=>⟨by simpa using h,(hd k hk).1.1⟩,fun h=>?_⟩;have:=(Jt hJ hd hk h).2.2;exact⟨hj.1,by rw[this];exact hj.2⟩
theorem WI(hr:J.o.drop a=c::r)(hd:Dp J a t)(h:kG J.D t c=true):2<=(J.s.getD c.toNat 0).toNat:=by obtain⟨k,hk,h1⟩:=Ey.1 h;obtain⟨h2,h3,h4⟩:=Jt hJ hd hk h1;have:=(hJ.dg k hk).two (t.get k).toNat (by have:=h2.1;have:=h2.2;omega);have h4:((fD (lQ J.D k) (t.get k).toNat).aA.length:Int)=J.s.getD c.toNat 0:=h4;omega
theorem Lu(hd:Dp J J.o.length t){k}(hk:k<J.D.length):t.get k<0/\gG (ji (t.get k)) (lQ J.D k).aK.length:=by
 have h1:=hd k hk;have:t.get k<0:=by
  refine ade fun h=>?_;have h2:=h1.2;unfold FW at h2;rw[a18 h]at h2;have hdj:=hJ.dg k hk;have aQ:(t.get k).toNat<(lQ J.D k).au.length:=by have:=h1.1.1;omega
  have hv:=hdj.t.var (t.get k).toNat aQ;rw[hdj.s]at hv;have:=a5Q.2 (mP hJ.ord hv);have e:(fD (lQ J.D k) (t.get k).toNat).var=((lQ J.D k).au.getD (t.get k).toNat lH).var:=rfl;rw[e]at this;omega
 exact⟨this,h1.1.2 this⟩
end
open Go Tw Pv bK
def ov(g q:LI0):LI0:=List.zipWith (fun a b=>if 0<=a then a else b) g q
theorem LC{g q k}(h:g.length=q.length):(ov g q).getD k 0=if k<g.length then(if 0<=g.getD k 0 then g.getD k 0 else q.getD k 0)else 0:=by
 unfold ov;by_cases hk:k<g.length
 .rw[a1e hk];simp[List.getD,List.getElem?_zipWith,a0Q hk,a0Q (show k<q.length by omega)]
 rw[a18 hk];simp[List.getD,List.getElem?_zipWith,a4O (show g.length<=k by omega)]
def a9h(J:Jb)(op:List V->V)(q:LI0)(t:S3)(v:V):Prop:=∃l:List V,l.length=J.D.length/\(∀k,k<J.D.length->To (lQ J.D k) (ov J.g q) (t.get k) (l.getD k V0))/\v=op l
def Sem(J:Jb)(op:List V->V)(v:Int)(t:S3)(x:EN):Prop:=∀Z:Dg,Z.aK.length<2^61->x.1 <+: Z.aK->x.2 <+: Z.au->∀q,jR J.s q=true->∃u,To Z q v u/\a9h J op q t u
theorem Sem.mono{J op v t x y}(h:Sem J op v t x)(hp:QS x y):Sem J op v t y:=fun Z hZ h1 h2=>h Z hZ (hp.1.trans h1) (hp.2.trans h2)
abbrev Mk.en(x:Mk):EN:=(x.e,x.n)
def Dk(v:V):Prop:=vOk v=true/\0<=v.f
structure XOk(J:Jb)(op:List V->V)(x:Mk):Prop where
 v:PtV J.s J.o x.en
 k:∀e∈x.k,gG e.2 x.n.length/\kG J.D e.1 (x.n.getD e.2.toNat lH).var=true/\Sem J op e.2 e.1 x.en
 nd:(x.k.map (·.1)).Nodup
 e:∀v∈x.e,Dk v
 w:∀b∈x.n,∀v∈b.aA,Hy v
structure a5j(J:Jb)(op:List V->V)(a:Nat)(w:Nat)(t:S3)(x:Mk)(z:Int×Mk):Prop where
 pre:QS x.en z.2.en
 el:z.2.e.length<=x.e.length+w
 nl:z.2.n.length+1<=x.n.length+w
 ok:XOk J op z.2
 rf:D9 J.o z.2.en z.1 z.2.n.length a
 sm:Sem J op z.1 t z.2.en
 ks:∀e∈z.2.k,e∈x.k\/Dp J a e.1
 w:Hy z.1
theorem XOk.mono{J op x e}(h:XOk J op x)(hp:x.e <+: e)(he:∀v∈e,Dk v):XOk J op { x with e:=e }:=by have hq:QS x.en (e,x.n):=⟨hp,a5P⟩;exact⟨⟨h.v.var,h.v.ksz,fun i hi k hk=>(h.v.Ah i hi k hk).mono hq (a1l _) (aas hi) (a1l _)⟩,fun e he=>⟨(h.k e he).1,(h.k e he).2.1,(h.k e he).2.2.mono hq⟩,h.nd,he,h.w⟩
theorem Rf{J}(hJ:jr J){op q t a}(hd:Dp J a t){c j u}(hj:(ov J.g q).getD c.toNat 0=j)(h:a9h J op q (bP J.D t c j) u):a9h J op q t u:=by
 obtain⟨l,h1,h2,h3⟩:=h;refine⟨l,h1,fun k hk=>?_,h3⟩;have h4:=h2 k hk;rw[Lr hJ.d3 t c j hk]at h4;unfold NG at h4;split at h4
 .rename_i h5;obtain⟨h6,h7,_⟩:=Jt hJ hd hk h5;refine .step h6.1 ?_;rw[h7,hj];exact h4
 exact h4
def mX(J:Jb)(op:List V->V):Prop:=∀t,Dp J J.o.length t->Dk (op (aV J.D t))
theorem ach{J}(hJ:jr J)(op)(jy:mX J op){t x}(hd:Dp J J.o.length t)(hx:XOk J op x)(hb:x.e.length+1<=2^60):a5j J op J.o.length 1 t x (jO J op [] t x):=by
 have e0:i64.wrap (0-((x.e++[op (aV J.D t)]).length:Int))=-1-(x.e.length:Int):=by rw[a1B,a4v,fV (by omega) (by omega)];omega
 obtain⟨_,e2⟩:=QV (k:=x.e.length) (by omega);have hp:x.e <+: x.e++[op (aV J.D t)]:=a9G _ _;show a5j J op J.o.length 1 t x (i64.wrap (0-((x.e++[op (aV J.D t)]).length:Int)),_);rw[e0];refine⟨⟨hp,a5P⟩,by simp,a1l _,hx.mono hp (fun v hv=>by rcases a3M.1 hv with hv|hv;exact hx.e v hv;rw[a1D.1 hv];exact jy t hd),⟨fun _=>?_,?_,?_⟩,fun Z hZ g1 g2 q hq=>?_,fun e he=>.inl he,⟨by show _<=-1-(x.e.length:Int);omega,by show -1-(x.e.length:Int)<_;omega⟩⟩
 .rw[e2];exact⟨by omega,by simp;omega⟩
 .show -1-(x.e.length:Int)<_;omega
 .unfold FW;rw[a1e (by show -1-(x.e.length:Int)<0;omega)];exact a1l _
 have h1:=To.fin (d:=Z) (q:=q) (r:=-1-(x.e.length:Int)) (by omega);rw[e2,a5R]at h1;have g1:x.e++[op (aV J.D t)] <+: Z.aK:=g1;have e3:Z.aK.getD x.e.length V0=op (aV J.D t):=by rw[Ak g1 (by simp)];simp[List.getD]
 rw[e3]at h1;refine⟨_,h1,aV J.D t,by simp[aV],fun k hk=>?_,rfl⟩;have h2:=Lu hJ hd hk;have e4:(aV J.D t).getD k V0=oM (lQ J.D k) (t.get k):=by simp[aV,List.getD,hk]
 rw[e4];exact .fin h2.1
theorem Ez{α:Type}{l:List α}{a}(h:l.Nodup)(ha:a∉l):(l++[a]).Nodup:=by rw[a9N];exact⟨h,by simp,fun x hx y hy e=>by simp at hy;subst hy;subst e;exact ha hx⟩
theorem LD{α:Type}{l:List α}{x d j}:(l++[x]).getD j d=if j<l.length then l.getD j d else if j=l.length then x else d:=by
 split
 .rename_i h;simp[List.getD,a0U h]
 rename_i h;split
 .rename_i h2;subst h2;simp[List.getD]
 rename_i h2;rw[List.getD,a4O (by simp;omega)];rfl
theorem UH{J}(hJ:jr J)(op)(jy:mX J op):∀(r) (a) (t) (x),J.o.drop a=r->a<=J.o.length->Dp J a t->XOk J op x->x.e.length+wO J.s r<=2^60->x.n.length+wO J.s r<=2^60->a5j J op a (wO J.s r) t x (jO J op r t x)
 | [],a,t,x,hr,ha,hd,hx,hb,yN=>by
  have:a=J.o.length:=by have:=congrArg List.length hr;rw[a4g,a5W]at this;omega
  subst this;exact ach hJ op jy hd hx hb
 |c::r,a,t,x,hr,ha,hd,hx,hb,yN=>by
  obtain⟨aQ,hoc,xK,FV,hci,qM⟩:=jr.at_ hJ hr;have hz:=hJ.bQ.sz _ (dG (s:=J.s) (k:=c.toNat) (by have:=qM.1;have:=qM.2;omega));have hri:∀c'∈r,gG c' J.s.length:=fun c' h=>(jr.o2 hJ).2.2 c' (by rw[<-xK]at h;exact a6a h);have hw:=WC hJ.bQ.sz hri;have hw1:wO J.s r<=(J.s.getD c.toNat 0).toNat*wO J.s r:=af5 _ (by omega);simp only[wO]at hb yN ⊢;have up:∀{t':S3} {z:Int×Mk},a5j J op (a+1) (wO J.s r) t' x z->(∀q u,jR J.s q=true->a9h J op q t' u->a9h J op q t u)->a5j J op a ((J.s.getD c.toNat 0).toNat*wO J.s r) t x z:=fun{t' z} h hs=>
   ⟨h.pre,by have:=h.el;omega,by have:=h.nl;omega,h.ok,h.rf.mono QS.rfl (a1l _) (a1l _) (by omega),fun Z hZ g1 g2 q hq=>let ⟨u,u1,u2⟩:=h.sm Z hZ g1 g2 q hq;⟨u,u1,hs q u hq u2⟩,fun e he=>(h.ks e he).imp id fun h=>h.le (by omega),h.w⟩
  unfold jO;cases BO:kG J.D t c
  .rw[a18 (by simp)];exact up (UH hJ op jy r (a+1) t x xK aQ (WH hJ hr hd BO) hx (by omega) (by omega)) fun _ _ _ h=>h
  rw[a1e rfl];by_cases hg:J.g.getD c.toNat 0>=0
  .rw[a1e (by simpa using hg)];refine up (UH hJ op jy r (a+1) _ x xK aQ (nM hJ hr hd ⟨hg,hJ.gv c qM hg⟩) hx (by omega) (by omega)) fun q u hq h=>Rf hJ hd ?_ h;rw[LC (by rw[hJ.gl,sN hq]),a1e (by rw[hJ.gl];have:=qM.1;have:=qM.2;omega),a1e hg]
  rw[a18 (by simpa using hg)];by_cases hk:t∈x.k.map (·.1)
  .rw[a1e hk];obtain⟨e,he,rfl⟩:=a1w.1 hk;have hkn:knS x.k e.1=e.2:=by
    have:x.k.find? (fun y=>decide (y.1=e.1))=some e:=by
     have jD:=hx.nd;clear hb up hk BO hd;generalize x.k=l at he jD
     induction l with
     |nil=>cases he
     |cons y l ih=>
      rw[ai7];rcases a1E.1 he with rfl|he
      .simp
      have:¬y.1=e.1:=fun h=>by rw[a4U,a5I]at jD;exact jD.1 (a1w.2 ⟨e,he,h.symm⟩)
      rw[afr this];rw[a4U,a5I]at jD;exact ih he jD.2
    unfold knS;rw[this];rfl
   rw[hkn];obtain⟨k1,k2,k3⟩:=hx.k e he;have hmul:2*1<=(J.s.getD c.toNat 0).toNat*wO J.s r:=aiw (WI hJ hr hd BO) hw;refine⟨QS.rfl,by show x.e.length<=_;omega,by show x.n.length+1<=_;omega,hx,⟨fun h=>by have:=k1.1;show gG _ _;exact absurd h (by omega),k1.2,?_⟩,k3,fun _ h=>.inl h,⟨by have:=k1.1;show _<=e.2;omega,by have:=k1.2;show e.2<_;omega⟩⟩;obtain⟨k,hk,h1⟩:=Ey.1 k2;obtain⟨x0,hv⟩:=FC.1 h1;have h2:=(hd k hk).2;unfold FW at h2 ⊢;rw[a18 (by omega)]at h2;have k10:=k1.1;rw[a18 (show ¬e.2<0 by omega)];have hv:((lQ J.D k).au.getD (e.1.get k).toNat lH).var=(x.n.getD e.2.toNat lH).var:=hv;rw[hv]at h2;exact h2
  rw[a18 hk];have hm2:=WI hJ hr hd BO;have Zy:∀j,j<(J.s.getD c.toNat 0).toNat->j*wO J.s r+wO J.s r<=(J.s.getD c.toNat 0).toNat*wO J.s r:=fun j hj=>by have:(j+1)*wO J.s r<=(J.s.getD c.toNat 0).toNat*wO J.s r:=a3N _ hj;rw[a3W]at this;omega
  have inv:=dh (g:=WG J.D (jO J op r) t c) (m:=(J.s.getD c.toNat 0).toNat) (k:=0) (s:=([],x)) (fun k y=>y.1.length=k/\QS x.en y.2.en/\y.2.e.length<=x.e.length+k*wO J.s r/\y.2.n.length+k<=x.n.length+k*wO J.s r/\XOk J op y.2/\(∀e∈y.2.k,e∈x.k\/Dp J (a+1) e.1)/\(∀v∈y.1,Hy v)/\∀j:Nat,j<k->D9 J.o y.2.en (y.1.getD j 0) y.2.n.length (a+1)/\Sem J op (y.1.getD j 0) (bP J.D t c j) y.2.en)
   ⟨rfl,QS.rfl,by simp,by simp,hx,fun _ h=>.inl h,(fun v hv=>by cases hv),fun j hj=>by omega⟩ (fun j y _ hj hy=>by
    obtain⟨y1,y2,y3,y4,y5,y6,y8,y7⟩:=hy;have Zy:=Zy j (by omega);have h:=UH hJ op jy r (a+1) (bP J.D t c j) y.2 xK aQ (nM hJ hr hd ⟨by omega,by omega⟩) y5 (by omega) (by omega);refine⟨by simp[WG,y1],y2.trans h.pre,?_,?_,h.ok,fun e he=>?_,fun v hv=>?_,fun j' EM=>?_⟩
    .have:=h.el;show(jO J op r (bP J.D t c j) y.2).2.e.length<=_;rw[a3W];omega
    .have:=h.nl;show(jO J op r (bP J.D t c j) y.2).2.n.length+_<=_;rw[a3W];omega
    .rcases h.ks e he with h1|h1
     .exact y6 e h1
     .exact .inr h1
    .have hv:v∈y.1++[(jO J op r (bP J.D t c j) y.2).1]:=hv;rcases a3M.1 hv with hv|hv
     .exact y8 v hv
     .rw[a1D.1 hv];exact h.w
    .have e1:(WG J.D (jO J op r) t c j y).1.getD j' 0=if j'<j then y.1.getD j' 0 else(jO J op r (bP J.D t c j) y.2).1:=by
      show(y.1++[_]).getD j' 0=_;rw[LD,y1];split
      .rfl
      .rw[a1e (by omega)]
     rw[e1];by_cases e:j'<j
     .rw[a1e e];obtain⟨a1,a2⟩:=y7 j' e;exact⟨a1.mono h.pre h.pre.2.length_le (a1l _) (a1l _),a2.mono h.pre⟩
     .rw[a18 e];have e:j'=j:=(by omega);subst e;exact⟨h.rf,h.sm⟩)
  rw[a3L]at inv;simp only[];generalize aS (WG J.D (jO J op r) t c) (J.s.getD c.toNat 0).toNat 0 ([],x)=y at inv;obtain⟨ks,m⟩:=y;obtain⟨y1,y2,y3,y4,y5,y6,y8,y7⟩:=inv;have y1:ks.length=(J.s.getD c.toNat 0).toNat:=y1;have hp:QS m.en (m.e,m.n++[(⟨c,ks⟩:Br)]):=⟨a5P,a9G _ _⟩;have fZ:(m.n++[(⟨c,ks⟩:Br)]).getD m.n.length lH=⟨c,ks⟩:=by simp[List.getD]
  have a6z:Sem J op (m.n.length:Int) t (m.e,m.n++[(⟨c,ks⟩:Br)]):=fun Z hZ g1 g2 q hq=>by
   have g2:m.n++[(⟨c,ks⟩:Br)] <+: Z.au:=g2;have Zw:=(qA.1 hq).2 c.toNat (by have:=qM.1;have:=qM.2;omega);have hj:(q.getD c.toNat 0).toNat<(J.s.getD c.toNat 0).toNat:=(by omega);obtain⟨u,u1,u2⟩:=(y7 _ hj).2 Z hZ g1 ((a9G _ _).trans g2) q hq;have en:ay Z (m.n.length:Int)=⟨c,ks⟩:=by show Z.au.getD (m.n.length:Int).toNat lH=_;rw[a5R,Ak g2 (by simp),fZ]
   refine⟨u,.step (by omega) (by rw[en];exact u1),Rf hJ hd ?_ u2⟩;rw[LC (by rw[hJ.gl,sN hq]),a1e (by rw[hJ.gl];have:=qM.1;have:=qM.2;omega),a18 (by omega)];omega
  have hv2:PtV J.s J.o (m.e,m.n++[(⟨c,ks⟩:Br)]):=by
   have hg:∀i,i<(m.n++[(⟨c,ks⟩:Br)]).length->(i<m.n.length/\(m.n++[(⟨c,ks⟩:Br)]).getD i lH=m.n.getD i lH)\/(i=m.n.length/\(m.n++[(⟨c,ks⟩:Br)]).getD i lH=⟨c,ks⟩):=fun i hi=>by
    simp only[a1B,a4v]at hi;rcases a4W i m.n.length with h|h
    .exact .inl ⟨h,by rw[LD,a1e h]⟩
    exact .inr ⟨by omega,by rw[show i=m.n.length by omega,fZ]⟩
   refine⟨fun i hi=>?_,fun i hi=>?_,fun i hi k hk=>?_⟩
   .rcases hg i hi with⟨h1,h2⟩|⟨h1,h2⟩
    .show gG ((m.n++[_]).getD i lH).var _;rw[h2];exact y5.v.var i h1
    show gG ((m.n++[_]).getD i lH).var _;rw[h2];exact qM
   .rcases hg i hi with⟨h1,h2⟩|⟨h1,h2⟩
    .show(((m.n++[_]).getD i lH).aA.length:Int)=J.s.getD ((m.n++[_]).getD i lH).var.toNat 0;rw[h2];exact y5.v.ksz i h1
    show(((m.n++[_]).getD i lH).aA.length:Int)=J.s.getD ((m.n++[_]).getD i lH).var.toNat 0;rw[h2];show(ks.length:Int)=J.s.getD c.toNat 0;omega
   rcases hg i hi with⟨h1,h2⟩|⟨h1,h2⟩
   .have hk:k<((m.n++[(⟨c,ks⟩:Br)]).getD i lH).aA.length:=hk;show D9 J.o _ (((m.n++[(⟨c,ks⟩:Br)]).getD i lH).aA.getD k 0) i (J.o.idxOf ((m.n++[(⟨c,ks⟩:Br)]).getD i lH).var+1);rw[h2]at hk ⊢;exact(y5.v.Ah i h1 k hk).mono hp (a1l _) (aas h1) (a1l _)
   have hk:k<((m.n++[(⟨c,ks⟩:Br)]).getD i lH).aA.length:=hk;show D9 J.o _ (((m.n++[(⟨c,ks⟩:Br)]).getD i lH).aA.getD k 0) i (J.o.idxOf ((m.n++[(⟨c,ks⟩:Br)]).getD i lH).var+1);rw[h2]at hk ⊢;have hk:k<ks.length:=hk;subst h1;show D9 J.o _ (ks.getD k 0) m.n.length (J.o.idxOf c+1);rw[hci];exact(y7 k (by omega)).1.mono hp (a1l _) (a1l _) (a1l _)
  have y5:XOk J op m:=y5;have y6:∀e∈m.k,e∈x.k\/Dp J (a+1) e.1:=y6;refine⟨y2.trans hp,y3,?_,⟨hv2,fun e he=>?_,?_,y5.e,fun b hb=>?_⟩,⟨fun h=>?_,?_,?_⟩,a6z,fun e he=>?_,⟨by show _<=(m.n.length:Int);omega,by have y4:m.n.length+_<=x.n.length+_:=y4;show(m.n.length:Int)<_;omega⟩⟩
  .show(m.n++[_]).length+1<=_;rw[a1B,a4v];have y4:m.n.length+(J.s.getD c.toNat 0).toNat<=x.n.length+(J.s.getD c.toNat 0).toNat*wO J.s r:=y4;omega
  .rcases a3M.1 he with he|he
   .obtain⟨k1,k2,k3⟩:=y5.k e he;have aQ:e.2.toNat<m.n.length:=by have:=k1.1;have:=k1.2;omega
    refine⟨⟨k1.1,?_⟩,?_,k3.mono hp⟩
    .have:=k1.2;show e.2<((m.n++[_]).length:Int);rw[a1B];omega
    show kG J.D e.1 ((m.n++[_]).getD e.2.toNat lH).var=true;rw[LD,a1e aQ];exact k2
   rw[a1D.1 he];refine⟨⟨by omega,by show(m.n.length:Int)<((m.n++[_]).length:Int);rw[a1B,a4v];omega⟩,?_,a6z⟩;show kG J.D t ((m.n++[_]).getD (m.n.length:Int).toNat lH).var=true;rw[a5R,fZ];exact BO
  .rw[a4Q];refine Ez y5.nd fun h=>?_;obtain⟨e,he,e2⟩:=a1w.1 h;rcases y6 e he with h1|h1
   .exact hk (a1w.2 ⟨e,h1,e2⟩)
   rw[e2]at h1;exact a0Z hJ hr BO h1
  .have hb:b∈m.n++[(⟨c,ks⟩:Br)]:=hb;rcases a3M.1 hb with hb|hb
   .exact y5.w b hb
   rw[a1D.1 hb];exact y8
  .exact absurd h (by show ¬((m.n.length:Int)<0);omega)
  .show(m.n.length:Int)<((m.n++[_]).length:Int);rw[a1B,a4v];omega
  .show a<=FW J.o (m.n++[_]) (m.n.length:Int);unfold FW;rw[a18 (by omega),a5R,fZ];show a<=J.o.idxOf c;omega
  rcases a3M.1 he with he|he
  .rcases y6 e he with h1|h1
   .exact .inl h1
   exact .inr (h1.le (by omega))
  rw[a1D.1 he];exact .inr hd
open Go Tw Pv bK
def kH(J:Jb)(op:List V->V):Dg:=⟨J.s,J.o,(jO J op J.o (fB J.D) ⟨[],[],[]⟩).2.e,(jO J op J.o (fB J.D) ⟨[],[],[]⟩).2.n,(jO J op J.o (fB J.D) ⟨[],[],[]⟩).1⟩
def tJ(J:Jb)(op:List V->V):Dg:=(Am (kH J op)).1
def BP(J:Jb)(op:List V->V):List V:=(List.range (uP J.s)).map fun(k:Nat)=>op (J.D.map fun d=>kF d (ov J.g (fP J.s k)))
theorem wZ{D}(hD:D.length<=3){k}(hk:k<D.length):(fB D).get k=(lQ D k).root:=by
 have:=dh (g:=fun k (y:S3)=>y.set k (lQ D k).root) (m:=D.length) (k:=0) (s:=⟨0,0,0⟩) (fun j y=>∀k,k<j->y.get k=(lQ D k).root) (fun k hk=>by omega) (fun j y _ hj hy k hk=>by
  rw[S3.jm (by omega) (by omega)];by_cases e:k=j
  .rw[a1e e,e]
  rw[a18 e];exact hy k (by omega))
 exact this k (by omega)
theorem amy{J}(hJ:jr J){q}(hq:jR J.s q=true):jR J.s (ov J.g q)=true:=by
 have hl:=sN hq;refine qA.2 ⟨by simp[ov,afo,hJ.gl,hl],fun k hk=>?_⟩;rw[LC (by rw[hJ.gl,hl]),a1e (by rw[hJ.gl];exact hk)];split
 .rename_i h;exact⟨h,hJ.gv (k:Int) (aG hk) h⟩
 exact(qA.1 hq).2 k hk
theorem a13{J}(hJ:jr J){op}(jy:mX J op):a5j J op 0 (wO J.s J.o) (fB J.D) ⟨[],[],[]⟩ (jO J op J.o (fB J.D) ⟨[],[],[]⟩):=by have hw:=HY hJ.bQ.sz hJ.ord;have hm:=hJ.bQ.many;refine UH hJ op jy J.o 0 (fB J.D) ⟨[],[],[]⟩ (ab3) (a5U _) (fun k hk=>?_) ⟨⟨fun i hi=>(by simp at hi),fun i hi=>(by simp at hi),fun i hi=>(by simp at hi)⟩,fun e he=>(by cases he),a6p,fun v hv=>(by cases hv),fun b hb=>(by cases hb)⟩ (by show 0+wO J.s J.o<=_;omega) (by show 0+wO J.s J.o<=_;omega);rw[wZ hJ.d3 hk];exact⟨(hJ.dg k hk).t.root,a5U _⟩
theorem xg{J}(hJ:jr J){op}(jy:mX J op):bC (kH J op)=0/\(kH J op).aK.length<=2000/\∀v∈(kH J op).aK,Dk v:=by have h:=a13 hJ jy;have hw:=HY hJ.bQ.sz hJ.ord;have hm:=hJ.bQ.many;have h1:(kH J op).aK.length<=0+wO J.s J.o:=h.el;have h2:(kH J op).au.length+1<=0+wO J.s J.o:=h.nl;refine⟨Ll (by unfold ah;omega) ?_ (fun v hv=>(h.ok.e v hv).1) (by omega) h.ok.v h.rf,by omega,h.ok.e⟩;have:bn J.s J.o=0:=iT.2 ⟨hJ.bQ,hJ.ord⟩;show(bn J.s J.o != 0)=false;rw[this];rfl
theorem a9i{J}(hJ:jr J){op}(jy:mX J op):Dh (kH J op):=by have h:=a13 hJ jy;exact⟨fun i hi k hk=>h.ok.w _ (YO hi) _ (dG hk),h.w,fun v hv=>(h.ok.e v hv).2⟩
theorem Ju{J}(hJ:jr J){op}(jy:mX J op):bI (kH J op)=(zH (kH J op),0)/\tJ J op=lJ J.s J.o (cellsD (kH J op)):=by
 obtain⟨h1,h2,h3⟩:=xg hJ jy;have hr:=a9i hJ jy;have ho:=(jr.o2 hJ).2.1;have hl:=hJ.bQ.len;have e:=Le hr (by unfold ah;omega);rw[h1]at e;have hf:¬(bn (kH J op).aj (kH J op).aB != 0)=true:=by have:bn J.s J.o=0:=iT.2 ⟨hJ.bQ,hJ.ord⟩;show ¬(bn J.s J.o != 0)=true;rw[this];simp
 rw[a18 hf]at e;refine⟨e,?_⟩;unfold tJ Am;rw[e];show eP (kH J op)=_;exact(Jr h1 (by show J.o.length<=ah;unfold ah;omega) (by unfold ah;omega)).1
theorem UJ{J}(hJ:jr J){op}(jy:mX J op):cellsD (kH J op)=BP J op:=by
 obtain⟨h1,h2,h3⟩:=xg hJ jy;have h:=a13 hJ jy;have ho:=(jr.o2 hJ).2.1;have hl:=hJ.bQ.len;have ht:=(jq (d:=kH J op) (by show J.o.length<=ah;unfold ah;omega) (by unfold ah;omega) (by rw[h1];rfl));unfold cellsD BP;refine a5M fun k _=>?_;have hq:jR J.s (fP J.s k)=true:=uO _ hJ.bQ.sz;obtain⟨u,u1,l,l1,l2,rfl⟩:=h.sm (kH J op) (by omega) a5P a5P (fP J.s k) hq;have e1:=u1.at_ ht.1 hq 6001 (by have:=h.rf.2.1;have:=ht.2;show(kH J op).root<_;have e:(kH J op).au.length=(jO J op J.o (fB J.D) ⟨[],[],[]⟩).2.n.length:=rfl;have e2:(kH J op).root=(jO J op J.o (fB J.D) ⟨[],[],[]⟩).1:=rfl;omega) ht.1.root;show kF (kH J op) (fP J.s k)=_;unfold kF;have e1:op l=(kH J op).aK.getD (ji (Wq (kH J op) (fP J.s k) 6001 (kH J op).root)).toNat V0:=e1;rw[<-e1];congr 1;refine(pz (d:=V0) (by rw[l1,a4X])).2 fun i hi=>?_;rw[l1]at hi;have hd:=hJ.dg i hi;have h5:=l2 i hi;rw[wZ hJ.d3 hi]at h5;have hov:jR (lQ J.D i).aj (ov J.g (fP J.s k))=true:=by rw[hd.s];exact amy hJ hq
 have h6:=h5.at_ hd.t hov 6001 (by have:=hd.t.root.1;have:=hd.n;omega) hd.t.root;rw[h6];simp[List.getD,a4V,a0Q hi,kF,atR]
theorem mk_eq{J}(hJ:jr J){op}(jy:mX J op):tJ J op=lJ J.s J.o (BP J op):=by rw[(Ju hJ jy).2,UJ hJ jy]
open Go Tw Pv bK
def BQ(J:Jb)(c:Int):LI0:=if decide (J.g.getD c.toNat 0>=0)=true then [J.g.getD c.toNat 0]else(List.range (J.s.getD c.toNat 0).toNat).map fun(j:Nat)=>(j:Int)
def yG(J:Jb)(ψ:S3->Int):LI0->S3->Int
 | [],t=>ψ t
 |c::r,t=>eu (fun j=>yG J ψ r (bP J.D t c j)) (BQ J c)
theorem Ap{α β}[DecidableEq α][DecidableEq β](φ)(f:α->β):∀l,eu φ (l.map f)=eu (fun a=>φ (f a)) l
 | []=>rfl
 |a::l=>by simp only[a4U,eu,Ap φ f l]
theorem qN{α}[DecidableEq α]{φ φ':α->Int}:∀{l},(∀a∈l,φ a=φ' a)->eu φ l=eu φ' l
 | [],_=>rfl
 |a::l,h=>by rw[eu,eu,h a (by simp),qN fun b hb=>h b (by simp[hb])]
theorem UK{α β}[DecidableEq α][DecidableEq β](φ)(f:α->List β):∀l,eu φ (l.flatMap f)=eu (fun a=>eu φ (f a)) l
 | []=>rfl
 |a::l=>by rw[List.flatMap_cons,Jh,eu,UK φ f l]
theorem BU{α}[DecidableEq α](x):∀l:List α,eu (fun _=>x) l=l.length*x
 | []=>by simp[eu]
 |a::l=>by rw[eu,BU x l,a4C,Int.natCast_add,aix];omega
theorem S3.aci(s:S3)(k):s.set k (s.get k)=s:=by
 match k with
 | 0=>rfl
 | 1=>rfl
 |k+2=>rfl
theorem a9j{D t c}(h:kG D t c=false)(g):bP D t c g=t:=by
 have hk:∀k,k<D.length->lM (lQ D k) (t.get k) c=false:=fun k hk=>by
  cases e:lM (lQ D k) (t.get k) c
  .rfl
  have:=Ey.2 ⟨k,hk,e⟩;rw[h]at this;cases this
 exact dh (g:=fun k (y:S3)=>y.set k (NG (lQ D k) (y.get k) c g)) (m:=D.length) (k:=0) (s:=t) (fun _ y=>y=t) rfl (fun j y _ hj hy=>by subst hy;show y.set j (NG (lQ D j) (y.get j) c g)=y;unfold NG;rw[hk j (by omega),a18 (by simp)];exact S3.aci y j)
theorem a5k{J ψ c r t}(h:decide (J.g.getD c.toNat 0>=0)=true):yG J ψ (c::r) t=yG J ψ r (bP J.D t c (J.g.getD c.toNat 0)):=by rw[yG,BQ,a1e h];simp[eu]
theorem ahu{J ψ c r t}(h:¬decide (J.g.getD c.toNat 0>=0)=true)(ha:kG J.D t c=false):yG J ψ (c::r) t=((J.s.getD c.toNat 0).toNat:Int)*yG J ψ r t:=by rw[yG,BQ,a18 h,Ap,qN (φ':=fun _=>yG J ψ r t) (fun a _=>by rw[a9j ha]),BU,a6I]
theorem acj{J ψ c r t}(h:¬decide (J.g.getD c.toNat 0>=0)=true):yG J ψ (c::r) t=eu (fun(j:Nat)=>yG J ψ r (bP J.D t c j)) (List.range (J.s.getD c.toNat 0).toNat):=by rw[yG,BQ,a18 h,Ap]
def AB(J:Jb):LI0->Nat
 | []=>1
 |c::r=>(BQ J c).length*AB J r
theorem FD{J}:∀(r) (t),yG J (fun _=>1) r t=(AB J r:Int)
 | [],_=>rfl
 |c::r,t=>by rw[yG,qN (φ':=fun _=>(AB J r:Int)) (fun a _=>FD r _),BU,AB,afp]
section
variable{J:Jb}(hJ:jr J)
include hJ
theorem Za{c}(hc:gG c J.s.length){j}:j∈BQ J c↔(0<=j/\j<J.s.getD c.toNat 0)/\(0<=J.g.getD c.toNat 0->J.g.getD c.toNat 0=j):=by
 unfold BQ;split
 .rename_i h;have h:J.g.getD c.toNat 0>=0:=by simpa using h
  have:=hJ.gv c hc h;rw[a1D];constructor
  .rintro rfl;exact⟨⟨h,this⟩,fun _=>rfl⟩
  exact fun h2=>(h2.2 h).symm
 rename_i h;have h:¬J.g.getD c.toNat 0>=0:=by simpa using h
 rw[a1w];constructor
 .rintro⟨k,h1,rfl⟩;rw[a5m]at h1;exact⟨⟨by omega,by omega⟩,fun h2=>absurd h2 h⟩
 rintro⟨h1,_⟩;exact⟨j.toNat,a5m.2 (by omega),by omega⟩
theorem a9k{c}(hc:gG c J.s.length):1<=(BQ J c).length/\(BQ J c).length<=(J.s.getD c.toNat 0).toNat:=by
 have hz:=hJ.bQ.sz _ (dG (s:=J.s) (k:=c.toNat) (by have:=hc.1;have:=hc.2;omega));unfold BQ;split
 .exact⟨a1l _,by show 1<=_;omega⟩
 rw[a4X,a6I];exact⟨by omega,a1l _⟩
theorem LG:∀{r},(∀c∈r,gG c J.s.length)->1<=AB J r/\AB J r<=wO J.s r
 | [],_=>⟨a1l _,a1l _⟩
 |c::r,h=>by obtain⟨h1,h2⟩:=a9k hJ (h c (by simp));obtain⟨h3,h4⟩:=LG (r:=r) fun c hc=>h c (by simp[hc]);exact⟨aiw h1 h3,aiw h2 h4⟩
end
def plc(J:Jb):LI0->LI0->List LI0
 | [],q=>[q]
 |c::r,q=>(BQ J c).flatMap fun j=>plc J r (q.set c.toNat j)
def WJ(D:List Dg)(q:LI0):LI0->S3->S3
 | [],t=>t
 |c::r,t=>WJ D q r (bP D t c (q.getD c.toNat 0))
theorem Aq{q:LI0}{i k v}:(q.set i v).getD k 0=if k=i/\i<q.length then v else q.getD k 0:=by
 simp only[List.getD,aaF];by_cases h:i=k
 .subst h;by_cases h2:i<q.length
  .simp[h2]
  simp[h2,a4O (show q.length<=i by omega)]
 rw[a18 (fun e:k=i/\i<q.length=>h e.1.symm)];simp[h]
theorem Oo{J}:∀{r q q'},q'∈plc J r q->q'.length=q.length/\∀k,k∉r.map Int.toNat->q'.getD k 0=q.getD k 0
 | [],q,q',h=>by rw[plc,a1D]at h;subst h;exact⟨rfl,fun _ _=>rfl⟩
 |c::r,q,q',h=>by rw[plc,afj]at h;obtain⟨j,_,h2⟩:=h;obtain⟨h3,h4⟩:=Oo h2;refine⟨by rw[h3,a5O],fun k hk=>?_⟩;rw[a4U,a1E,adl]at hk;rw[h4 k hk.2,Aq,a18 (fun h=>hk.1 h.1)]
section
variable{J:Jb}{n:Nat}
structure a14(n:Nat)(r:LI0):Prop where
 nd:r.Nodup
 mem:∀c∈r,gG c n
theorem a14.tail{c r}(h:a14 n (c::r)):a14 n r/\c.toNat∉r.map Int.toNat/\gG c n:=by
 have h1:=a5I.1 h.nd;have hc:=h.mem c (by simp);refine⟨⟨h1.2,fun c hc=>h.mem c (by simp[hc])⟩,fun h2=>?_,hc⟩;obtain⟨d,h3,h4⟩:=a1w.1 h2;have hd:=h.mem d (by simp[h3]);have:d=c:=by have:=hc.1;have:=hd.1;omega
 exact h1.1 (this▸h3)
theorem a3l(ψ):∀{r} (q) (t),a14 q.length r->yG J ψ r t=eu (fun q'=>ψ (WJ J.D q' r t)) (plc J r q)
 | [],q,t,_=>by simp[yG,plc,WJ,eu]
 |c::r,q,t,ho=>by obtain⟨h1,h2,h3⟩:=ho.tail;rw[yG,plc,UK];refine qN fun j _=>?_;rw[a3l ψ (q.set c.toNat j) _ (by rw[a5O];exact h1)];refine qN fun q' hq=>?_;rw[WJ,(Oo hq).2 _ h2,Aq,a1e ⟨rfl,by have:=h3.1;have:=h3.2;omega⟩]
theorem WL:∀{r q q'},a14 q.length r->(q'∈plc J r q↔q'.length=q.length/\(∀k,k∉r.map Int.toNat->q'.getD k 0=q.getD k 0)/\∀c∈r,q'.getD c.toNat 0∈BQ J c)
 | [],q,q',_=>by
  rw[plc,a1D];constructor
  .rintro rfl;exact⟨rfl,fun _ _=>rfl,fun _ h=>by cases h⟩
  rintro⟨h1,h2,_⟩;exact(pz (d:=0) h1).2 fun i _=>h2 i (by simp)
 |c::r,q,q',ho=>by
  obtain⟨h1,h2,h3⟩:=ho.tail;have hl:c.toNat<q.length:=by have:=h3.1;have:=h3.2;omega
  rw[plc,afj];constructor
  .rintro⟨j,hj,h4⟩;obtain⟨h5,h6,h7⟩:=(WL (by rw[a5O];exact h1)).1 h4;refine⟨by rw[h5,a5O],fun k hk=>?_,fun d hd=>?_⟩
   .rw[a4U,a1E,adl]at hk;rw[h6 k hk.2,Aq,a18 (fun h=>hk.1 h.1)]
   rcases a1E.1 hd with rfl|hd
   .rw[h6 _ h2,Aq,a1e ⟨rfl,hl⟩];exact hj
   exact h7 d hd
  rintro⟨h4,h5,h6⟩;refine⟨q'.getD c.toNat 0,h6 c (by simp),(WL (by rw[a5O];exact h1)).2 ⟨by rw[a5O];exact h4,fun k hk=>?_,fun d hd=>h6 d (by simp[hd])⟩⟩;rw[Aq];split
  .rename_i h;rw[h.1]
  rename_i h;exact h5 k (by rw[a4U,a1E,adl];exact⟨fun e=>h ⟨e,hl⟩,hk⟩)
theorem a15(c):(BQ J c).Nodup:=by
 unfold BQ;split
 .simp
 rw[List.Nodup,adb];exact List.nodup_range.imp fun h e=>h (by omega)
theorem UL:∀{r q},a14 q.length r->(plc J r q).Nodup
 | [],q,_=>by simp[plc]
 |c::r,q,ho=>by
  obtain⟨h1,h2,h3⟩:=ho.tail;have hl:c.toNat<q.length:=by have:=h3.1;have:=h3.2;omega
  rw[plc,List.Nodup,List.pairwise_flatMap];refine⟨fun j _=>UL (by rw[a5O];exact h1),(a15 (J:=J) c).imp fun{a b} hab x hx y hy e=>?_⟩;subst e;have e1:=(Oo hx).2 _ h2;have e2:=(Oo hy).2 _ h2;rw[Aq,a1e ⟨rfl,hl⟩]at e1 e2;exact hab (e1.symm.trans e2)
end
def Jv(J:Jb):List LI0:=((List.range (uP J.s)).map fun(k:Nat)=>fP J.s k).filter fun q=>decide (ov J.g q=q)
section
variable{J:Jb}(hJ:jr J)
include hJ
theorem WM{q}(hq:q.length=J.s.length):ov J.g q=q↔∀k,k<J.s.length->0<=J.g.getD k 0->J.g.getD k 0=q.getD k 0:=by
 have hg:=hJ.gl;have hl:(ov J.g q).length=q.length:=by simp[ov,afo,hg,hq]
 rw[pz (d:=0) hl];constructor
 .intro h k hk h0;have:=h k (by rw[hl,hq];exact hk);rw[LC (by rw[hg,hq]),a1e (by rw[hg];exact hk),a1e h0]at this;exact this
 intro h k hk;rw[hl,hq]at hk;rw[LC (by rw[hg,hq]),a1e (by rw[hg];exact hk)];split
 .exact h k hk ‹_›
 rfl
theorem Oq{q}:q∈(List.range (uP J.s)).map (fun(k:Nat)=>fP J.s k)↔jR J.s q=true:=by
 have hc:(uP J.s:Int)=bF J.s:=by have:=jG hJ.bQ.sz;unfold uP;omega
 constructor
 .intro h;obtain⟨k,_,rfl⟩:=a1w.1 h;exact uO _ hJ.bQ.sz
 intro h;have:=Ec h hJ.bQ.sz;refine a1w.2 ⟨(jB J.s q).toNat,a5m.2 (by omega),?_⟩;rw[show((jB J.s q).toNat:Int)=jB J.s q by omega];exact VX h hJ.bQ.sz
theorem a5l:((List.range (uP J.s)).map (fun(k:Nat)=>fP J.s k)).Nodup:=by
 have hc:(uP J.s:Int)=bF J.s:=by have:=jG hJ.bQ.sz;unfold uP;omega
 rw[List.Nodup,adb];refine List.Pairwise.imp_of_mem (fun{a b} ha hb h e=>h ?_) afm;rw[a5m]at ha hb;have h1:=Je hJ.bQ.sz (n:=(a:Int)) (by omega) (by omega);have h2:=Je hJ.bQ.sz (n:=(b:Int)) (by omega) (by omega);have e:fP J.s (a:Int)=fP J.s (b:Int):=e;rw[e,h2]at h1;omega
theorem a9l:(plc J J.o (List.replicate J.s.length 0)).Perm (Jv J):=by
 obtain⟨o1,o2,o3⟩:=jr.o2 hJ;have ho:a14 (List.replicate J.s.length (0:Int)).length J.o:=⟨o1,fun c hc=>by rw[a7t];exact o3 c hc⟩;unfold Jv;refine(a7x (UL ho) ((a5l hJ).filter _)).2 fun q=>?_;rw[WL ho,a5X,Oq hJ,a1x,a7t];constructor
 .rintro⟨h1,h2,h3⟩;have key:∀k,k<J.s.length->(0<=q.getD k 0/\q.getD k 0<J.s.getD k 0)/\(0<=J.g.getD k 0->J.g.getD k 0=q.getD k 0):=fun k hk=>by have hc:gG (k:Int) J.s.length:=aG hk;have:=h3 k (mP hJ.ord hc);rw[Za hJ hc]at this;exact this
  exact⟨qA.2 ⟨h1,fun k hk=>(key k hk).1⟩,(WM hJ h1).2 fun k hk=>(key k hk).2⟩
 rintro⟨h1,h2⟩;have hl:=sN h1;refine⟨hl,fun k hk=>?_,fun c hc=>?_⟩
 .have MF:J.s.length<=k:=by refine adv fun aQ=>hk ?_;exact a1w.2 ⟨(k:Int),mP hJ.ord (aG aQ),by simp⟩
  simp[List.getD,a4O (show q.length<=k by omega),a4O (show(List.replicate J.s.length (0:Int)).length<=k by simp;omega)]
 have qM:=o3 c hc;have aQ:c.toNat<J.s.length:=by have:=qM.1;have:=qM.2;omega
 rw[Za hJ qM];exact⟨(qA.1 h1).2 _ aQ,(WM hJ hl).1 h2 _ aQ⟩
theorem UM{q}(hq:jR J.s q=true):∀(r) (a) (t),J.o.drop a=r->a<=J.o.length->Dp J a t->Dp J J.o.length (WJ J.D q r t)/\∀k,k<J.D.length->∀v,To (lQ J.D k) q ((WJ J.D q r t).get k) v->To (lQ J.D k) q (t.get k) v
 | [],a,t,hr,ha,hd=>by
  have:a=J.o.length:=by have:=congrArg List.length hr;rw[a4g,a5W]at this;omega
  subst this;exact⟨hd,fun _ _ _ h=>h⟩
 |c::r,a,t,hr,ha,hd=>by
  obtain⟨aQ,hoc,xK,FV,hci,qM⟩:=jr.at_ hJ hr;have Zw:=(qA.1 hq).2 c.toNat (by have:=qM.1;have:=qM.2;omega);obtain⟨h1,h2⟩:=UM hq r (a+1) _ xK aQ (nM hJ hr hd Zw);refine⟨h1,fun k hk v h=>?_⟩;have h4:=h2 k hk v h;rw[Lr hJ.d3 t c _ hk]at h4;unfold NG at h4;split at h4
  .rename_i h5;obtain⟨h6,h7,_⟩:=Jt hJ hd hk h5;refine .step h6.1 ?_;rw[h7];exact h4
  exact h4
theorem Zb:Dp J 0 (fB J.D):=fun k hk=>by rw[wZ hJ.d3 hk];exact⟨(hJ.dg k hk).t.root,a5U _⟩
theorem ahv{q}(hq:jR J.s q=true):aV J.D (WJ J.D q J.o (fB J.D))=J.D.map fun d=>kF d q:=by
 obtain⟨h1,h2⟩:=UM hJ hq J.o 0 (fB J.D) ab3 (a5U _) (Zb hJ);unfold aV;refine(pz (d:=V0) (by simp)).2 fun k hk=>?_;rw[a4X,a6I]at hk;have hd:=hJ.dg k hk;have h3:=Lu hJ h1 hk;have h4:=h2 k hk _ (.fin h3.1);rw[wZ hJ.d3 hk]at h4;have h6:=h4.at_ hd.t (by rw[hd.s];exact hq) 6001 (by have:=hd.t.root.1;have:=hd.n;omega) hd.t.root;have e1:((List.range J.D.length).map fun k=>oM (lQ J.D k) ((WJ J.D q J.o (fB J.D)).get k)).getD k V0=oM (lQ J.D k) ((WJ J.D q J.o (fB J.D)).get k):=by simp[List.getD,hk]
 have e2:(J.D.map fun d=>kF d q).getD k V0=kF (lQ J.D k) q:=by simp[List.getD,hk]
 rw[e1,e2];exact h6
theorem acn(ψ:List V->Int):yG J (fun t=>ψ (aV J.D t)) J.o (fB J.D)=eu (fun q=>ψ (J.D.map fun d=>kF d q)) (Jv J):=by obtain⟨o1,o2,o3⟩:=jr.o2 hJ;rw[a3l _ (List.replicate J.s.length 0) _ ⟨o1,fun c hc=>by rw[a7t];exact o3 c hc⟩,KP _ (a9l hJ)];refine qN fun q hq=>?_;unfold Jv at hq;rw[a5X,Oq hJ]at hq;rw[ahv hJ hq.1]
end
end Go.Proofs.YtmobpoiejckagaaGreat
namespace Pv
open Go Tw
section
variable{X:mV}{P:LI1}{kt:LI2}{α:Type}[DecidableEq α](C:pF X P kt α)
theorem pF.amA{l x v j}(hb:Instr.sameBits 10000 (C.v x) (C.v x)=true)(hn:(l.map (·.1)).Nodup)(h:l[j]? = some (x,v)):a7l X P kt (C.es l) (C.tv x) (C.pv x) v j:=by
 obtain⟨hj,e⟩:=a0x.1 h;have hxj:(l.map (·.1))[j]? = some x:=by simp[a0Q hj,e]
 refine⟨C.v x,_,C.tv x,C.v x,C.ht x,C.hc false x,C.pk l,?_,?_,?_,C.ht x,hb⟩
 .have hu:∀(i:Nat) y,(l.map (·.1))[i]? = some y->decide (x=y)=(some i==some j):=fun i y hy=>by
   rw[a5S];simp only[a1x,a6x,a09];constructor
   .rintro rfl;have i1:=a0x.1 hy;have i2:=a0x.1 hxj;exact(aaZ hn (h₀:=i1.1) (h₁:=i2.1)).1 (i1.2.trans i2.2.symm)
   rintro rfl;rw[hxj]at hy;exact aan hy
  refine C.find x _ (some j) ?_ hu;rw[aaX];refine⟨by simpa using hj,by simp[e],fun i hi=>?_⟩;have hil:i<(l.map (·.1)).length:=by simp;omega
  rw[hu i _ (a0Q hil)];simp;omega
 .simp[pF.es,a0Q hj,e]
 simp[a0Q hj,e]
theorem pF.newP{l x v}(h:x∉l.map (·.1)):afS X P kt (C.es (l++[(x,v)])) (C.tv x) l.length:=by
 refine⟨C.v x,_,C.ht x,C.pk _,?_⟩;have hu:∀(i:Nat) y,((l++[(x,v)]).map (·.1))[i]? = some y->decide (x=y)=(some i==some l.length):=fun i y hy=>by
  rw[a4Q]at hy;rcases a4W i l.length with hi|hi
  .rw[a0U (by simpa using hi)]at hy;have:¬x=y:=fun e=>h (e▸a5N hy);rw[afr this];have:¬i=l.length:=(by omega);simp[this]
  rw[a1r (by simpa using hi)]at hy;have MC:i=l.length:=by have:=(a0x.1 hy).1;simp at this;omega
  subst MC;simp at hy;subst hy;simp
 refine C.find x _ (some l.length) ?_ hu;rw[aaX];refine⟨by simp,by simp,fun i hi=>?_⟩;have hil:i<((l++[(x,v)]).map (·.1)).length:=by simp;omega
 rw[hu i _ (a0Q hil)];simp;omega
abbrev pF.im(m:List (α×Int)):List (PV X.Γ×PV X.Γ):=C.es (m.map fun e=>(e.1,.int .i64 e.2))
theorem pF.qo(m):(C.im m).length=m.length:=by simp[pF.im,pF.es]
theorem pF.BX(m)(j:Nat):(C.im m)[j]? = (m[j]?).map fun e=>(C.pv e.1,.int .i64 e.2):=by simp[pF.im,pF.es,a4V];rfl
theorem Au{Y:mV}(m:List (α×Int)):((m.map fun e=>(e.1,(PV.int .i64 e.2:PV Y.Γ))).map (·.1))=m.map (·.1):=by simp
theorem ahw{m j}{f:Int->Int}{v}(h:∀e,m[j]? = some e->f e.2=v):Kz (C.im m) j (.int .i64 v)=C.im (m.modify j fun e=>(e.1,f e.2)):=by
 unfold Kz;refine aaK fun i=>?_;rw[afk,C.BX,C.BX,afk];by_cases e:j=i
 .subst e;cases h2:m[j]? with
  |none=>simp[h2]
  |some x=>simp[h2,h x h2]
 simp[e]
theorem ahx{m x z v}:Kz (C.im m++[(C.pv x,.int .i64 z)]) (C.im m).length (.int .i64 v)=C.im (m++[(x,v)]):=by
 have:C.im (m++[(x,v)])=C.im m++[(C.pv x,.int .i64 v)]:=by simp[pF.im,pF.es]
 rw[this];unfold Kz;generalize C.im m=l;refine aaK fun i=>?_;rw[afk];rcases Nat.lt_trichotomy i l.length with h|h|h
 .rw[a0U h,a0U h];simp[show ¬l.length=i by omega]
 .subst h;simp
 rw[a4O (by simp;omega),a4O (by simp;omega)];rfl
theorem pF.WO{m k n}(hb:Instr.sameBits 10000 (C.v k) (C.v k)=true)(hn:(m.map (·.1)).Nodup)(h:k∈m.map (·.1))(hw:∀e∈m,i64.wrap (e.2+n)=e.2+n) :∃j old,qJ X P kt (C.im m) (C.tv k) (.int .i64 old)/\a7l X P kt (C.im m) (C.tv k) (C.pv k) (.int .i64 old) j/\j<(C.im m).length/\Kz (C.im m) j (.int .i64 (i64.wrap (old+n)))=C.im (bK.ug m k n):=by
 have aQ:=a5Q.2 h;have a7v:(m.map (·.1)).idxOf k<m.length:=by simpa using aQ
 have hk:m[(m.map (·.1)).idxOf k]? = some (k,m[(m.map (·.1)).idxOf k].2):=by rw[a0Q a7v];have:=a9s aQ;rw[aag]at this;exact congrArg some (adA this rfl)
 have JX:(k,m[(m.map (·.1)).idxOf k].2)∈m:=a5N hk;refine⟨(m.map (·.1)).idxOf k,m[(m.map (·.1)).idxOf k].2,C.found (by rw[Au];exact hn) (a1w.2 ⟨_,JX,rfl⟩),C.amA hb (by rw[Au];exact hn) (by rw[a4V,hk];rfl),by rw[C.qo];exact a7v,?_⟩;rw[hw _ JX];unfold bK.ug;rw[a1e h];exact ahw C (f:=fun x=>x+n) fun e he=>by rw[hk]at he;cases he;rfl
theorem pF.WQ{m k n}(h:k∉m.map (·.1))(hw:i64.wrap (0+n)=n) :oz X P kt (C.im m) (C.tv k)/\afS X P kt (C.im m++[(C.pv k,(PV.int .i64 0:PV X.Γ))]) (C.tv k) (C.im m).length/\(C.im m).length<(C.im m++[(C.pv k,(PV.int .i64 0:PV X.Γ))]).length/\Kz (C.im m++[(C.pv k,.int .i64 0)]) (C.im m).length (.int .i64 (i64.wrap (0+n)))=C.im (bK.ug m k n):=by
 refine⟨C.fresh (by rw[Au];exact h),?_,by simp,?_⟩
 .have:=C.newP (l:=m.map fun e=>(e.1,(PV.int .i64 e.2:PV X.Γ))) (x:=k) (v:=.int .i64 0) (by rw[Au];exact h);rw[C.qo];simpa[pF.im,pF.es]using this
 rw[hw,ahx];unfold bK.ug;rw[a18 h]
end
end Pv
namespace Go.Proofs.YtmobpoiejckagaaGreat
open Go Tw Pv bK
abbrev wSk(H:List (PB aH))(s:S3)(r:Int)(x:List (Nat×PE aH)):bV aH:=⟨[(1,xi r),(2,.val (.ptr 2 0 5)),(3,.val (.ptr 1 0 5)),(4,.val (.ptr 3 0 1)),(5,.val (.ptr 4 0 1)),(6,.loc 0 0)]++x,[s.ps],H⟩
def SG(D:List Dg)(t:S3):LI0->Nat
 | []=>0
 |c::r=>if kG D t c=true then 0 else SG D t r+1
def SH(J:Jb)(t:S3)(i:Int):Int⊕Int:=if decide (i<(J.o.length:Int))=true then(if(!(kG J.D t (J.o.getD i.toNat 0)))=true then .inl (i64.wrap (i+1))else .inr i)else .inr i
theorem a9m{J}(hJ:jr J)(t):∀(r) (a),J.o.drop a=r->a<=J.o.length->itF (SH J t) (r.length+1) (a:Int)=some ((a+SG J.D t r:Nat):Int)
 | [],a,hr,ha=>by
  have:a=J.o.length:=by have:=congrArg List.length hr;rw[a4g,a5W]at this;omega
  have e:SH J t (a:Int)=.inr (a:Int):=by unfold SH;rw[a18 (by simp;omega)]
  rw[a5W,itF,e];rfl
 |c::r,a,hr,ha=>by
  obtain⟨aQ,hoc,xK,_⟩:=jr.at_ hJ hr;have hl:=hJ.bQ.len;have RX:=(jr.o2 hJ).2.1;have e:SH J t (a:Int)=if(!(kG J.D t c))=true then .inl (i64.wrap ((a:Int)+1))else .inr (a:Int):=by unfold SH;rw[a1e (by simp;omega),a5R,hoc]
  rw[a4C,itF,e];cases h:kG J.D t c
  .simp only[abf,a2p];have ew:i64.wrap ((a:Int)+1)=((a+1:Nat):Int):=by rw[fV (by omega) (by omega)];omega
   have:=a9m hJ t r (a+1) xK aQ;simp only[ew,SG,h];rw[this];simp;omega
  simp[SG,h]
theorem arJ{M f J}(hJ:jr J){t x}(r){a}(hr:J.o.drop a=r)(ha:a<=J.o.length)(hd:Dp J a t):Oi (M+1) 126 0 7 (wSk (HM0 J f x) t a []) (.exit 0) (wSk (HM0 J f x) t ((a+SG J.D t r:Nat):Int) [(32,xl false)]):=by
 have RZ:=a9m hJ t r a hr ha;have RX:=(jr.o2 hJ).2.1;have hl:=hJ.bQ.len;refine a0P (st:=fun i=>wSk (HM0 J f x) t i []) (g:=SH J t) (out:=fun i=>(.exit 0,wSk (HM0 J f x) t i [(32,xl false)])) (fun i=>0<=i/\i<=J.o.length) RZ (by kernel_rfl) (by have:=congrArg List.length hr;rw[a4g]at this;unfold LL;omega) ⟨by omega,by omega⟩ ?_ ?_
 .intro i i1 hi e;unfold SH at e;split at e
  .rename_i c;have c:i<(J.o.length:Int):=(by simpa using c);split at e
   .cases e;rw[fV (by omega) (by omega)];omega
   cases e
  cases e
 intro i m i' hi ih;have hs:=a9d (M:=M) (f:=f) (a:=[]) (cc:=[]) (H:=[]) J t (J.o.getD i.toNat 0) hJ.d3 (fun k hk h=>⟨by simpa using h,(hd k hk).1.1⟩);by_cases c:i<(J.o.length:Int)
 .have t1:decide (i<(J.o.length:Int))=true:=by simpa using c
  have i1:gG i J.o.length:=⟨hi.1,c⟩;cases hq:kG J.D t (J.o.getD i.toNat 0)
  .have e:SH J t i=.inl (i64.wrap (i+1)):=by unfold SH;rw[a1e t1,hq];rfl
   rw[hq]at hs;have g:=ih _ e;rw[e];exact aN gU (.b t1 (.o i1 (.fr [] hs (.b aiK (.go g)))))
  have e:SH J t i=.inr i:=by unfold SH;rw[a1e t1,hq];rfl
  rw[hq]at hs;rw[e];dsimp only[Eb];exact aN gU (.b t1 (.o i1 (.fr [] hs (.b aiJ .ex))))
 have t1:decide (i<(J.o.length:Int))=false:=by simpa using c
 have e:SH J t i=.inr i:=by unfold SH;rw[a18 (by rw[t1];simp)]
 rw[e];dsimp only[Eb];exact aN gU (.b t1 .ex)
theorem arK{M f}(u){J}(hJ:jr J){t x}(r){a}(hr:J.o.drop a=r)(ha:a<=J.o.length)(hd:Dp J a t):Oi (M+1) 126 0 8 (wSk (HM1 J f u x) t a []) (.exit 0) (wSk (HM1 J f u x) t ((a+SG J.D t r:Nat):Int) [(32,xl false)]):=by
 have RZ:=a9m hJ t r a hr ha;have RX:=(jr.o2 hJ).2.1;have hl:=hJ.bQ.len;refine a0P (st:=fun i=>wSk (HM1 J f u x) t i []) (g:=SH J t) (out:=fun i=>(.exit 0,wSk (HM1 J f u x) t i [(32,xl false)])) (fun i=>0<=i/\i<=J.o.length) RZ (by kernel_rfl) (by have:=congrArg List.length hr;rw[a4g]at this;unfold LL;omega) ⟨by omega,by omega⟩ ?_ ?_
 .intro i i1 hi e;unfold SH at e;split at e
  .rename_i c;have c:i<(J.o.length:Int):=(by simpa using c);split at e
   .cases e;rw[fV (by omega) (by omega)];omega
   cases e
  cases e
 intro i m i' hi ih;have hs:=a9d (M:=M) (f:=f) (a:=[]) (cc:=[.ptr 0 0 1]) (H:=[.aF [.int .u8 u]]) J t (J.o.getD i.toNat 0) hJ.d3 (fun k hk h=>⟨by simpa using h,(hd k hk).1.1⟩);by_cases c:i<(J.o.length:Int)
 .have t1:decide (i<(J.o.length:Int))=true:=by simpa using c
  have i1:gG i J.o.length:=⟨hi.1,c⟩;cases hq:kG J.D t (J.o.getD i.toNat 0)
  .have e:SH J t i=.inl (i64.wrap (i+1)):=by unfold SH;rw[a1e t1,hq];rfl
   rw[hq]at hs;have g:=ih _ e;rw[e];exact aN gU (.b t1 (.o i1 (.fr [5] hs (.b aiK (.go g)))))
  have e:SH J t i=.inr i:=by unfold SH;rw[a1e t1,hq];rfl
  rw[hq]at hs;rw[e];dsimp only[Eb];exact aN gU (.b t1 (.o i1 (.fr [5] hs (.b aiJ .ex))))
 have t1:decide (i<(J.o.length:Int))=false:=by simpa using c
 have e:SH J t i=.inr i:=by unfold SH;rw[a18 (by rw[t1];simp)]
 rw[e];dsimp only[Eb];exact aN gU (.b t1 .ex)
open Go Tw Pv bK
theorem WR{J}(hJ:jr J){op x}:∀(r) (a) (t),J.o.drop a=r->a<=J.o.length->Dp J a t->jO J op r t x=jO J op (r.drop (SG J.D t r)) t x/\a+SG J.D t r<=J.o.length/\Dp J (a+SG J.D t r) t/\∀c r',r.drop (SG J.D t r)=c::r'->kG J.D t c=true
 | [],a,t,hr,ha,hd=>⟨rfl,ha,hd,fun _ _ h=>by cases h⟩
 |c::r,a,t,hr,ha,hd=>by
  obtain⟨aQ,hoc,xK,_⟩:=jr.at_ hJ hr;cases h:kG J.D t c
  .obtain⟨q1,q2,q3,q4⟩:=WR hJ (op:=op) (x:=x) r (a+1) t xK aQ (WH hJ hr hd h);have e:SG J.D t (c::r)=SG J.D t r+1:=(by simp[SG,h]);rw[e];refine⟨?_,by omega,by rw[show a+(SG J.D t r+1)=a+1+SG J.D t r by omega];exact q3,q4⟩;rw[List.drop_succ_cons,<-q1]
   conv=>lhs;unfold jO
   rw[a18 (by rw[h];simp)]
  have e:SG J.D t (c::r)=0:=by simp[SG,h]
  rw[e];exact⟨rfl,ha,hd,fun c' r' h2=>by cases h2;exact h⟩
theorem WS{J}(hJ:jr J):∀(r) (n),(∀c∈r,gG c J.s.length)->wO J.s (r.drop n)<=wO J.s r
 | [],n,_=>by simp
 |c::r,0,_=>a1l _
 |c::r,n+1,h=>by have h1:=WS hJ r n fun c hc=>h c (by simp[hc]);have hi:=h c (by simp);have hz:=hJ.bQ.sz _ (dG (s:=J.s) (k:=c.toNat) (by have:=hi.1;have:=hi.2;omega));have:wO J.s r<=(J.s.getD c.toNat 0).toNat*wO J.s r:=af5 _ (by omega);rw[List.drop_succ_cons];simp only[wO];omega
abbrev aco(J:Jb)(f:Nat)(t:S3)(c:Int)(a:Int)(m:Mk)(ks:LI0)(i:Int)(y:List (Nat×PE aH)):bV aH:=⟨[(1,xi a),(2,.val (.ptr 2 0 5)),(3,.val (.ptr 1 0 5)),(4,.val (.ptr 3 0 1)),(5,.val (.ptr 4 0 1)),(6,.loc 0 0),(9,xi c),(13,.loc 1 0),(93,xi (J.s.getD c.toNat 0)),(94,xi i)]++y,[t.ps,[.int .i64 c,.own 9]],acf J f m++[oI false false ks]⟩
theorem arL{M f J}(hJ:jr J){op r t c a}(x)(hc:gG c J.s.length)(Q:Nat->Mk->Prop)(h0:Q 0 x)(hq:∀j y,j<(J.s.getD c.toNat 0).toNat->Q j y->Q (j+1) (jO J op r (bP J.D t c j) y).2)(hk:∀j,j<(J.s.getD c.toNat 0).toNat->∀k,k<J.D.length->a3h (lQ J.D k) (t.get k) c j)(hf:∀(j) y,j<(J.s.getD c.toNat 0).toNat->Q j y->dK X0 Qp (iw (M+1)) (.fn 126 [] pM) [.agg (bP J.D t c j).ps,.int .i64 (i64.wrap (a+1))] (HM0 J f y) (.int .i64 (jO J op r (bP J.D t c j) y).1) (acf J f (jO J op r (bP J.D t c j) y).2)) :Oi (M+1) 126 1 7 (aco J f t c a x [] 0 []) (.exit 2) (aco J f t c a (aS (WG J.D (jO J op r) t c) (J.s.getD c.toNat 0).toNat 0 ([],x)).2 (aS (WG J.D (jO J op r) t c) (J.s.getD c.toNat 0).toNat 0 ([],x)).1 (((J.s.getD c.toNat 0).toNat:Nat):Int) [(95,xl false)]):=by
 have hz:=hJ.bQ.sz _ (dG (s:=J.s) (k:=c.toNat) (by have:=hc.1;have:=hc.2;omega));refine wL (σ:=LI0×Mk) (N:=(J.s.getD c.toNat 0).toNat) (g:=WG J.D (jO J op r) t c) (s0:=([],x)) (st:=fun i y=>aco J f t c a y.2 y.1 i []) (fin:=fun y=>aco J f t c a y.2 y.1 (((J.s.getD c.toNat 0).toNat:Nat):Int) [(95,xl false)]) (fun j y=>y.1.length=j/\Q j y.2) (by kernel_rfl) (by unfold ah;omega) ⟨rfl,h0⟩ (fun j y hj hy=>⟨by simp[WG,hy.1],hq j y.2 hj hy.2⟩) (fun j y hj hy m e p g=>?_) (fun y _=>?_)
 .have h1:=hf j y.2 hj hy.2;have ha:=Lm (M:=M) (f:=f) (a:=[]) (cc:=[]) (H:=[]) J t c j hJ.d3 (hk j hj);have t1:decide ((j:Int)<J.s.getD c.toNat 0)=true:=by rw[a1x];omega
  have h3:=hy.1;unfold WG at g;generalize jO J op r (bP J.D t c j) y.2=z at h1 g;obtain⟨v,z⟩:=z;exact aN gU (.b t1 (.fr [] ha (.fr [0,1,2,3,4,7,8] h1 (.o (show y.1.length+[v].length<=ah by simp only[a4v];unfold ah;omega) (.goG [.gc [10,11,13]] g)))))
 .have t1:decide ((((J.s.getD c.toNat 0).toNat:Nat):Int)<J.s.getD c.toNat 0)=false:=by rw[a3G];omega
  exact aN gU (.b t1 .ex)
open Go Tw Pv bK
theorem Zc{k t}(hn:(k.map (·.1)).Nodup)(h:t∈k.map (·.1)):qJ X0 Qp 148 (Js k) (.agg [.int .i64 t.a,.int .i64 t.b,.int .i64 t.c]) (.int .i64 (knS k t)):=by
 refine kS.found (x:=t) (by rw[a6q];exact hn) ?_;obtain⟨e,he,rfl⟩:=a1w.1 h;refine a1w.2 ⟨e,he,?_⟩;have:knS k e.1=e.2:=by
  have:k.find? (fun y=>decide (y.1=e.1))=some e:=by
   clear h
   induction k with
   |nil=>cases he
   |cons y l ih=>
    rw[a4U,a5I]at hn;rw[ai7];rcases a1E.1 he with rfl|he
    .simp
    have:¬y.1=e.1:=fun h=>hn.1 (a1w.2 ⟨e,he,h.symm⟩);rw[afr this];exact ih hn.2 he
  unfold knS;rw[this];rfl
 rw[this]
abbrev ahy(J:Jb)(op:List V->V)(f:Nat)(m:Nat)(r:LI0):Prop:=∀(a:Nat) (t:S3) (x:Mk),J.o.drop a=r->a<=J.o.length->Dp J a t->XOk J op x->x.e.length+wO J.s r<=ah->x.n.length+wO J.s r<=ah ->
  dK X0 Qp (iw m) (.fn 126 [] pM) [.agg t.ps,.int .i64 (a:Int)] (HM0 J f x) (.int .i64 (jO J op r t x).1) (acf J f (jO J op r t x).2)
abbrev ahz(J:Jb)(f:Nat)(x:Mk)(v:V):List (PB aH):=[.map (Js x.k),.cells [lI J.s,lI J.o,.own 8,.own 6,.int .i64 0],.aF (J.ps (.fn f [] [])),.aF [.fn 126 [] pM],.aF [.map 0],.gone,RJ x.n,.list true true 39 [v],RI (x.e++[v])]
abbrev amB(J:Jb)(f:Nat)(x:Mk)(t:S3)(b:Br):List (PB aH):=[.map (Js x.k++[(.agg t.ps,.int .i64 (x.n.length:Int))]),.cells [lI J.s,lI J.o,.own 7,.own 11,.int .i64 0],.aF (J.ps (.fn f [] [])),.aF [.fn 126 [] pM],.aF [.map 0],.gone,.gone,RI x.e,.gone,.gone,.list true true 105 [b],RJ (x.n++[b])]
theorem aeT{N f:Nat}{J}(hJ:jr J){op}(jy:mX J op)(hs:∀l,l.length=J.D.length->dK X0 Qp (iw (N+1)) (.fn f [] []) [lV l] [] (.agg (op l).ps) [])(r)(rec:∀c r',c::r' <:+ r->ahy J op f (N+1) r'):ahy J op f (N+2) r:=by
 intro a t x hr ha hd hx CV yN;unfold ah at CV yN;have RX:=(jr.o2 hJ).2.1;have hl6:=hJ.bQ.len;have lsk:=arJ (M:=N) (f:=f) hJ (x:=x) r hr ha hd;obtain⟨q1,q2,q3,q4⟩:=WR hJ (op:=op) (x:=x) r a t hr ha hd;have hw:=WS hJ r (SG J.D t r) (fun c hc=>(jr.o2 hJ).2.2 c (a6a (by rw[hr];exact hc)));rw[q1];generalize SG J.D t r=n at lsk q1 q2 q3 q4 hw;have GK:J.o.drop (a+n)=r.drop n:=by rw[<-hr,afG]
 have a9n:r.drop n <:+ r:=List.drop_suffix _ _;have Iu:=congrArg List.length GK;rw[a4g]at Iu;clear q1 hr;generalize a+n=i at lsk q2 q3 GK Iu;generalize r.drop n=r0 at q4 hw GK a9n Iu;cases r0 with
 |nil=>
  have e0:i=J.o.length:=by rw[a5W]at Iu;omega
  have t0:((i:Int)==(J.o.length:Int))=true:=by rw[e0];simp
  rw[e0]at q3;have nP:(aV J.D t).length=J.D.length:=by simp[aV]
  have hce:=a3i (M:=N) (f:=f) J t hJ.d3 (fun k hk=>(Lu hJ q3 hk).2);have hv:=hs (aV J.D t) nP;simp only[wO]at hw;have hb:x.e.length+[op (aV J.D t)].length<=ah:=by simp only[a4v];unfold ah;omega
  have h1:dK X0 Qp (iw (N+2)) (.fn 126 [] pM) [.agg t.ps,.int .i64 (a:Int)] (HM0 J f x) (.int .i64 (i64.wrap (0-((x.e++[op (aV J.D t)]).length:Int)))) (ahz J f x (op (aV J.D t))):=
   fK gU (first:=[]) (cap:=pM) (.w lsk (.b t0 (.fr [] hce (.fr [] hv (.o hb .er)))))
  exact dK.gs hX h1 [.mv 6,.gc [8,9]] (by kernel_rfl)
 |cons c r'=>
  have t0:((i:Int)==(J.o.length:Int))=false:=by rw[a4C]at Iu;simp;omega
  obtain⟨aQ,hoc,xK,FV,hci,qM⟩:=jr.at_ hJ GK;have BO:=q4 c r' rfl;have rc:=rec c r' a9n;have ia:gG (i:Int) J.o.length:=⟨by omega,by omega⟩;have LH:J.o.getD (i:Int).toNat 0=c:=by rw[a5R];exact hoc
  have ig:gG (J.o.getD (i:Int).toNat 0) J.g.length:=by rw[LH,hJ.gl];exact qM
  have hz:=hJ.bQ.sz _ (dG (s:=J.s) (k:=c.toNat) (by have:=qM.1;have:=qM.2;omega));have hri:∀c'∈r',gG c' J.s.length:=fun c' h=>(jr.o2 hJ).2.2 c' (by rw[<-xK]at h;exact a6a h);have hw0:=WC hJ.bQ.sz hri;have hw1:wO J.s r'<=(J.s.getD c.toNat 0).toNat*wO J.s r':=af5 _ (by omega);have ew:i64.wrap ((i:Int)+1)=((i+1:Nat):Int):=by rw[fV (by omega) (by omega)];omega
  simp only[wO]at hw;unfold jO;rw[a1e BO];cases tg:decide (J.g.getD c.toNat 0>=0)
  .rw[a18 (by simp)];have tg':decide (J.g.getD (J.o.getD (i:Int).toNat 0).toNat 0>=0)=false:=by rw[LH];exact tg
   by_cases hk:t∈x.k.map (·.1)
   .rw[a1e hk];have hF:qJ X0 Qp 148 (Js x.k) (.agg [.int .i64 t.a,.int .i64 t.b,.int .i64 t.c]) (.int .i64 (knS x.k t)):=Zc hx.nd hk;have h1:dK X0 Qp (iw (N+2)) (.fn 126 [] pM) [.agg t.ps,.int .i64 (a:Int)] (HM0 J f x) (.int .i64 (knS x.k t)) (HM0 J f x):=
     fK gU (first:=[]) (cap:=pM) (.w lsk (.b t0 (.o ia (.o ig (.b tg' (.c (.int .i64 (knS x.k t)) [] hF (.b aiH .er)))))))
    exact dK.gs hX h1 [.mv 5,.mv 6] (by kernel_rfl)
   rw[a18 hk];have hm2:=WI hJ GK q3 BO;have hF:oz X0 Qp 148 (Js x.k) (.agg [.int .i64 t.a,.int .i64 t.b,.int .i64 t.c]):=kS.fresh (x:=t) (by simpa using hk);have is:gG (J.o.getD (i:Int).toNat 0) J.s.length:=by rw[LH];exact qM
   have Zy:∀j,j<(J.s.getD c.toNat 0).toNat->j*wO J.s r'+wO J.s r'<=(J.s.getD c.toNat 0).toNat*wO J.s r':=fun j hj=>by have:(j+1)*wO J.s r'<=(J.s.getD c.toNat 0).toNat*wO J.s r':=a3N _ hj;rw[a3W]at this;omega
   let Q:Nat->Mk->Prop:=fun j y=>XOk J op y/\y.e.length<=x.e.length+j*wO J.s r'/\y.n.length+j<=x.n.length+j*wO J.s r'/\∀e∈y.k,e∈x.k\/Dp J (i+1) e.1
   have hq:∀j y,j<(J.s.getD c.toNat 0).toNat->Q j y->Q (j+1) (jO J op r' (bP J.D t c j) y).2:=fun j y hj hy=>by
    obtain⟨y1,y2,y3,y4⟩:=hy;have Zy:=Zy j hj;have h:=UH hJ op jy r' (i+1) (bP J.D t c j) y xK aQ (nM hJ GK q3 ⟨by omega,by omega⟩) y1 (by omega) (by omega);have h3:=h.el;have h4:=h.nl;refine⟨h.ok,by rw[a3W];omega,by rw[a3W];omega,fun e he=>?_⟩;rcases h.ks e he with h5|h5
    .exact y4 e h5
    exact .inr h5
   have lp:=arL (M:=N) (f:=f) hJ (op:=op) (r:=r') (t:=t) (c:=c) (a:=(i:Int)) x qM Q ⟨hx,by simp,by simp,fun e he=>.inl he⟩ hq (fun j hj k hk=>Ls hJ q3 ⟨by omega,by omega⟩ hk) (fun j y hj hy=>by obtain⟨y1,y2,y3,y4⟩:=hy;have Zy:=Zy j hj;rw[ew];exact rc (i+1) (bP J.D t c j) y xK aQ (nM hJ GK q3 ⟨by omega,by omega⟩) y1 (by unfold ah;omega) (by unfold ah;omega))
   have inv:=dh (g:=WG J.D (jO J op r') t c) (m:=(J.s.getD c.toNat 0).toNat) (k:=0) (s:=([],x)) (fun j y=>Q j y.2) ⟨hx,by simp,by simp,fun e he=>.inl he⟩ (fun j y _ hj hy=>hq j y.2 (by omega) hy);rw[a3L]at inv;simp only[];generalize aS (WG J.D (jO J op r') t c) (J.s.getD c.toNat 0).toNat 0 ([],x)=y at lp inv;obtain⟨ks,m⟩:=y;obtain⟨y1,y2,y3,y4⟩:=inv;have hnk:t∉m.k.map (·.1):=fun h=>by
    obtain⟨e,he,e2⟩:=a1w.1 h;rcases y4 e he with h1|h1
    .exact hk (a1w.2 ⟨e,h1,e2⟩)
    rw[e2]at h1;exact a0Z hJ GK BO h1
   have hF2:oz X0 Qp 148 (Js m.k) (.agg [.int .i64 t.a,.int .i64 t.b,.int .i64 t.c]):=kS.fresh (x:=t) (by simpa using hnk);have ek:Js m.k++[(.agg t.ps,.int .i64 (m.n.length:Int))]=Js (m.k++[(t,(m.n.length:Int))]):=by unfold Js pF.es;rw[a4Q,a4Q];rfl
   have hF3:qJ X0 Qp 148 (Js m.k++[(.agg t.ps,.int .i64 (m.n.length:Int))]) (.agg [.int .i64 t.a,.int .i64 t.b,.int .i64 t.c]) (.int .i64 (m.n.length:Int)):=by
    refine(congrArg (fun l:List (PV aH×PV aH)=>qJ X0 Qp 148 l (.agg [.int .i64 t.a,.int .i64 t.b,.int .i64 t.c]) (.int .i64 (m.n.length:Int))) ek).mpr ?_;refine kS.found (x:=t) ?_ ?_
    .rw[a6q,show((fun e:S3×PV X0.Γ=>e.1)∘fun e:S3×Int=>(e.1,(PV.int .i64 e.2:PV X0.Γ)))=fun e=>e.1 from rfl,a4Q];exact Ez y1.nd hnk
    simp
   have hb:m.n.length+[(⟨c,ks⟩:Br)].length<=ah:=by simp only[a4v];have y3:m.n.length+(J.s.getD c.toNat 0).toNat<=x.n.length+(J.s.getD c.toNat 0).toNat*wO J.s r':=y3;unfold ah;omega
   have h1:dK X0 Qp (iw (N+2)) (.fn 126 [] pM) [.agg t.ps,.int .i64 (a:Int)] (HM0 J f x) (.int .i64 (m.n.length:Int)) (amB J f m t ⟨c,ks⟩):=by subst LH;exact fK gU (first:=[]) (cap:=pM) (.w lsk (.b t0 (.o ia (.o ig (.b tg' (.q (.bool false) hF (.b aiC (.o is (.wG [.mv 5,.mv 6,.a4k 1 1 3] lp (.q (.bool false) (kS.ck t) (.o hF2 (.o hb (.c (.int .i64 (m.n.length:Int)) [] hF3 .er)))))))))))))
   have h2:=dK.gs hX h1 [.gc [7,11]] (v':=.int .i64 (m.n.length:Int)) (H2:=[.map (Js m.k++[(.agg t.ps,.int .i64 (m.n.length:Int))]),.cells [lI J.s,lI J.o,.own 7,.own 8,.int .i64 0],.aF (J.ps (.fn f [] [])),.aF [.fn 126 [] pM],.aF [.map 0],.gone,.gone,RI m.e,RJ (m.n++[⟨c,ks⟩])]) (by kernel_rfl);exact(congrArg (fun l:List (PV aH×PV aH)=>dK X0 Qp (iw (N+2)) (.fn 126 [] pM) [.agg t.ps,.int .i64 (a:Int)] (HM0 J f x) (.int .i64 (m.n.length:Int)) [.map l,.cells [lI J.s,lI J.o,.own 7,.own 8,.int .i64 0],.aF (J.ps (.fn f [] [])),.aF [.fn 126 [] pM],.aF [.map 0],.gone,.gone,RI m.e,RJ (m.n++[⟨c,ks⟩])]) ek).mp h2
  rw[a1e rfl];have tg':decide (J.g.getD (J.o.getD (i:Int).toNat 0).toNat 0>=0)=true:=by rw[LH];exact tg
  have hg:0<=J.g.getD c.toNat 0:=by simpa using tg
  have haf:=Lm (M:=N) (f:=f) (a:=[]) (cc:=[]) (H:=[]) J t c (J.g.getD c.toNat 0) hJ.d3 (fun k hk=>Ls hJ q3 ⟨hg,hJ.gv c qM hg⟩ hk);have h2:=rc (i+1) (bP J.D t c (J.g.getD c.toNat 0)) x xK aQ (nM hJ GK q3 ⟨hg,hJ.gv c qM hg⟩) hx (by unfold ah;omega) (by unfold ah;omega);rw[<-ew]at h2;subst LH;exact fK gU (first:=[]) (cap:=pM) (.w lsk (.b t0 (.o ia (.o ig (.b tg' (.fr [] haf (.fr [0,1,2,3,4,5,6] h2 .er)))))))
theorem arP{N f:Nat}{J}(hJ:jr J){op}(jy:mX J op)(hs:∀m,N<=m->∀l,l.length=J.D.length->dK X0 Qp (iw m) (.fn f [] []) [lV l] [] (.agg (op l).ps) []):∀(F) (r),r.length<=F->ahy J op f (N+F+2) r:=by
 intro F
 induction F with
 |zero=>
  intro r hF;refine aeT hJ jy (hs _ (by omega)) r fun c r' h=>?_;have:=h.length_le;rw[a4C]at this;omega
 |succ F ih=>
  intro r hF;refine aeT (N:=N+F+1) hJ jy (hs _ (by omega)) r fun c r' h=>ih r' ?_;have:=h.length_le;rw[a4C]at this;omega
open Go Tw Pv bK
abbrev acr(J:Jb)(f:Nat)(u:Int)(t:S3)(c:Int)(a:Int)(m:Mk)(ks:LI0)(i:Int)(y:List (Nat×PE aH)):bV aH:=⟨[(1,xi a),(2,.val (.ptr 2 0 5)),(3,.val (.ptr 1 0 5)),(4,.val (.ptr 3 0 1)),(5,.val (.ptr 4 0 1)),(6,.loc 0 0),(9,xi c),(13,.loc 1 0),(93,xi (J.s.getD c.toNat 0)),(94,xi i)]++y,[t.ps,[.int .i64 c,.own 10]],acg J f u m++[oI false false ks]⟩
theorem arQ{M f u J}(hJ:jr J){op r t c a}(x)(hc:gG c J.s.length)(Q:Nat->Mk->Prop)(h0:Q 0 x)(hq:∀j y,j<(J.s.getD c.toNat 0).toNat->Q j y->Q (j+1) (jO J op r (bP J.D t c j) y).2)(hk:∀j,j<(J.s.getD c.toNat 0).toNat->∀k,k<J.D.length->a3h (lQ J.D k) (t.get k) c j)(hf:∀(j) y,j<(J.s.getD c.toNat 0).toNat->Q j y->dK X0 Qp (iw (M+1)) (.fn 126 [] pM) [.agg (bP J.D t c j).ps,.int .i64 (i64.wrap (a+1))] (HM1 J f u y) (.int .i64 (jO J op r (bP J.D t c j) y).1) (acg J f u (jO J op r (bP J.D t c j) y).2)) :Oi (M+1) 126 1 8 (acr J f u t c a x [] 0 []) (.exit 2) (acr J f u t c a (aS (WG J.D (jO J op r) t c) (J.s.getD c.toNat 0).toNat 0 ([],x)).2 (aS (WG J.D (jO J op r) t c) (J.s.getD c.toNat 0).toNat 0 ([],x)).1 (((J.s.getD c.toNat 0).toNat:Nat):Int) [(95,xl false)]):=by
 have hz:=hJ.bQ.sz _ (dG (s:=J.s) (k:=c.toNat) (by have:=hc.1;have:=hc.2;omega));refine wL (σ:=LI0×Mk) (N:=(J.s.getD c.toNat 0).toNat) (g:=WG J.D (jO J op r) t c) (s0:=([],x)) (st:=fun i y=>acr J f u t c a y.2 y.1 i []) (fin:=fun y=>acr J f u t c a y.2 y.1 (((J.s.getD c.toNat 0).toNat:Nat):Int) [(95,xl false)]) (fun j y=>y.1.length=j/\Q j y.2) (by kernel_rfl) (by unfold ah;omega) ⟨rfl,h0⟩ (fun j y hj hy=>⟨by simp[WG,hy.1],hq j y.2 hj hy.2⟩) (fun j y hj hy m e p g=>?_) (fun y _=>?_)
 .have h1:=hf j y.2 hj hy.2;have ha:=Lm (M:=M) (f:=f) (a:=[]) (cc:=[.ptr 0 0 1]) (H:=[.aF [.int .u8 u]]) J t c j hJ.d3 (hk j hj);have t1:decide ((j:Int)<J.s.getD c.toNat 0)=true:=by rw[a1x];omega
  have h3:=hy.1;unfold WG at g;generalize jO J op r (bP J.D t c j) y.2=z at h1 g;obtain⟨v,z⟩:=z;exact aN gU (.b t1 (.fr [5] ha (.fr [0,1,2,3,4,5,8,9] h1 (.o (show y.1.length+[v].length<=ah by simp only[a4v];unfold ah;omega) (.goG [.gc [11,12,14]] g)))))
 .have t1:decide ((((J.s.getD c.toNat 0).toNat:Nat):Int)<J.s.getD c.toNat 0)=false:=by rw[a3G];omega
  exact aN gU (.b t1 .ex)
abbrev ahA(J:Jb)(op:List V->V)(f:Nat)(u:Int)(m:Nat)(r:LI0):Prop:=∀(a:Nat) (t:S3) (x:Mk),J.o.drop a=r->a<=J.o.length->Dp J a t->XOk J op x->x.e.length+wO J.s r<=ah->x.n.length+wO J.s r<=ah ->
  dK X0 Qp (iw m) (.fn 126 [] pM) [.agg t.ps,.int .i64 (a:Int)] (HM1 J f u x) (.int .i64 (jO J op r t x).1) (acg J f u (jO J op r t x).2)
abbrev ahB(J:Jb)(f:Nat)(u:Int)(x:Mk)(v:V):List (PB aH):=[.map (Js x.k),.cells [lI J.s,lI J.o,.own 9,.own 7,.int .i64 0],.aF (J.ps (.fn f [] [.ptr 5 0 1])),.aF [.fn 126 [] pM],.aF [.map 0],.aF [.int .u8 u],.gone,RJ x.n,.list true true 39 [v],RI (x.e++[v])]
abbrev amD(J:Jb)(f:Nat)(u:Int)(x:Mk)(t:S3)(b:Br):List (PB aH):=[.map (Js x.k++[(.agg t.ps,.int .i64 (x.n.length:Int))]),.cells [lI J.s,lI J.o,.own 8,.own 12,.int .i64 0],.aF (J.ps (.fn f [] [.ptr 5 0 1])),.aF [.fn 126 [] pM],.aF [.map 0],.aF [.int .u8 u],.gone,.gone,RI x.e,.gone,.gone,.list true true 105 [b],RJ (x.n++[b])]
theorem aeU{N f:Nat}(u){J}(hJ:jr J){op}(jy:mX J op)(hs:∀l,l.length=J.D.length->dK X0 Qp (iw (N+1)) (.fn f [] [.ptr 0 0 1]) [lV l] [.aF [.int .u8 u]] (.agg (op l).ps) [.aF [.int .u8 u]])(r)(rec:∀c r',c::r' <:+ r->ahA J op f u (N+1) r'):ahA J op f u (N+2) r:=by
 intro a t x hr ha hd hx CV yN;unfold ah at CV yN;have RX:=(jr.o2 hJ).2.1;have hl6:=hJ.bQ.len;have lsk:=arK (M:=N) (f:=f) u hJ (x:=x) r hr ha hd;obtain⟨q1,q2,q3,q4⟩:=WR hJ (op:=op) (x:=x) r a t hr ha hd;have hw:=WS hJ r (SG J.D t r) (fun c hc=>(jr.o2 hJ).2.2 c (a6a (by rw[hr];exact hc)));rw[q1];generalize SG J.D t r=n at lsk q1 q2 q3 q4 hw;have GK:J.o.drop (a+n)=r.drop n:=by rw[<-hr,afG]
 have a9n:r.drop n <:+ r:=List.drop_suffix _ _;have Iu:=congrArg List.length GK;rw[a4g]at Iu;clear q1 hr;generalize a+n=i at lsk q2 q3 GK Iu;generalize r.drop n=r0 at q4 hw GK a9n Iu;cases r0 with
 |nil=>
  have e0:i=J.o.length:=by rw[a5W]at Iu;omega
  have t0:((i:Int)==(J.o.length:Int))=true:=by rw[e0];simp
  rw[e0]at q3;have nP:(aV J.D t).length=J.D.length:=by simp[aV]
  have hce:=ace (M:=N) (f:=f) (u:=u) J t hJ.d3 (fun k hk=>(Lu hJ q3 hk).2);have hv:=hs (aV J.D t) nP;simp only[wO]at hw;have hb:x.e.length+[op (aV J.D t)].length<=ah:=by simp only[a4v];unfold ah;omega
  have h1:dK X0 Qp (iw (N+2)) (.fn 126 [] pM) [.agg t.ps,.int .i64 (a:Int)] (HM1 J f u x) (.int .i64 (i64.wrap (0-((x.e++[op (aV J.D t)]).length:Int)))) (ahB J f u x (op (aV J.D t))):=
   fK gU (first:=[]) (cap:=pM) (.w lsk (.b t0 (.fr [5] hce (.fr [5] hv (.o hb .er)))))
  exact dK.gs hX h1 [.mv 7,.gc [9,10]] (by kernel_rfl)
 |cons c r'=>
  have t0:((i:Int)==(J.o.length:Int))=false:=by rw[a4C]at Iu;simp;omega
  obtain⟨aQ,hoc,xK,FV,hci,qM⟩:=jr.at_ hJ GK;have BO:=q4 c r' rfl;have rc:=rec c r' a9n;have ia:gG (i:Int) J.o.length:=⟨by omega,by omega⟩;have LH:J.o.getD (i:Int).toNat 0=c:=by rw[a5R];exact hoc
  have ig:gG (J.o.getD (i:Int).toNat 0) J.g.length:=by rw[LH,hJ.gl];exact qM
  have hz:=hJ.bQ.sz _ (dG (s:=J.s) (k:=c.toNat) (by have:=qM.1;have:=qM.2;omega));have hri:∀c'∈r',gG c' J.s.length:=fun c' h=>(jr.o2 hJ).2.2 c' (by rw[<-xK]at h;exact a6a h);have hw0:=WC hJ.bQ.sz hri;have hw1:wO J.s r'<=(J.s.getD c.toNat 0).toNat*wO J.s r':=af5 _ (by omega);have ew:i64.wrap ((i:Int)+1)=((i+1:Nat):Int):=by rw[fV (by omega) (by omega)];omega
  simp only[wO]at hw;unfold jO;rw[a1e BO];cases tg:decide (J.g.getD c.toNat 0>=0)
  .rw[a18 (by simp)];have tg':decide (J.g.getD (J.o.getD (i:Int).toNat 0).toNat 0>=0)=false:=by rw[LH];exact tg
   by_cases hk:t∈x.k.map (·.1)
   .rw[a1e hk];have hF:qJ X0 Qp 148 (Js x.k) (.agg [.int .i64 t.a,.int .i64 t.b,.int .i64 t.c]) (.int .i64 (knS x.k t)):=Zc hx.nd hk;have h1:dK X0 Qp (iw (N+2)) (.fn 126 [] pM) [.agg t.ps,.int .i64 (a:Int)] (HM1 J f u x) (.int .i64 (knS x.k t)) (HM1 J f u x):=
     fK gU (first:=[]) (cap:=pM) (.w lsk (.b t0 (.o ia (.o ig (.b tg' (.c (.int .i64 (knS x.k t)) [] hF (.b aiH .er)))))))
    exact dK.gs hX h1 [.mv 6,.mv 7] (by kernel_rfl)
   rw[a18 hk];have hm2:=WI hJ GK q3 BO;have hF:oz X0 Qp 148 (Js x.k) (.agg [.int .i64 t.a,.int .i64 t.b,.int .i64 t.c]):=kS.fresh (x:=t) (by simpa using hk);have is:gG (J.o.getD (i:Int).toNat 0) J.s.length:=by rw[LH];exact qM
   have Zy:∀j,j<(J.s.getD c.toNat 0).toNat->j*wO J.s r'+wO J.s r'<=(J.s.getD c.toNat 0).toNat*wO J.s r':=fun j hj=>by have:(j+1)*wO J.s r'<=(J.s.getD c.toNat 0).toNat*wO J.s r':=a3N _ hj;rw[a3W]at this;omega
   let Q:Nat->Mk->Prop:=fun j y=>XOk J op y/\y.e.length<=x.e.length+j*wO J.s r'/\y.n.length+j<=x.n.length+j*wO J.s r'/\∀e∈y.k,e∈x.k\/Dp J (i+1) e.1
   have hq:∀j y,j<(J.s.getD c.toNat 0).toNat->Q j y->Q (j+1) (jO J op r' (bP J.D t c j) y).2:=fun j y hj hy=>by
    obtain⟨y1,y2,y3,y4⟩:=hy;have Zy:=Zy j hj;have h:=UH hJ op jy r' (i+1) (bP J.D t c j) y xK aQ (nM hJ GK q3 ⟨by omega,by omega⟩) y1 (by omega) (by omega);have h3:=h.el;have h4:=h.nl;refine⟨h.ok,by rw[a3W];omega,by rw[a3W];omega,fun e he=>?_⟩;rcases h.ks e he with h5|h5
    .exact y4 e h5
    exact .inr h5
   have lp:=arQ (M:=N) (f:=f) (u:=u) hJ (op:=op) (r:=r') (t:=t) (c:=c) (a:=(i:Int)) x qM Q ⟨hx,by simp,by simp,fun e he=>.inl he⟩ hq (fun j hj k hk=>Ls hJ q3 ⟨by omega,by omega⟩ hk) (fun j y hj hy=>by obtain⟨y1,y2,y3,y4⟩:=hy;have Zy:=Zy j hj;rw[ew];exact rc (i+1) (bP J.D t c j) y xK aQ (nM hJ GK q3 ⟨by omega,by omega⟩) y1 (by unfold ah;omega) (by unfold ah;omega))
   have inv:=dh (g:=WG J.D (jO J op r') t c) (m:=(J.s.getD c.toNat 0).toNat) (k:=0) (s:=([],x)) (fun j y=>Q j y.2) ⟨hx,by simp,by simp,fun e he=>.inl he⟩ (fun j y _ hj hy=>hq j y.2 (by omega) hy);rw[a3L]at inv;simp only[];generalize aS (WG J.D (jO J op r') t c) (J.s.getD c.toNat 0).toNat 0 ([],x)=y at lp inv;obtain⟨ks,m⟩:=y;obtain⟨y1,y2,y3,y4⟩:=inv;have hnk:t∉m.k.map (·.1):=fun h=>by
    obtain⟨e,he,e2⟩:=a1w.1 h;rcases y4 e he with h1|h1
    .exact hk (a1w.2 ⟨e,h1,e2⟩)
    rw[e2]at h1;exact a0Z hJ GK BO h1
   have hF2:oz X0 Qp 148 (Js m.k) (.agg [.int .i64 t.a,.int .i64 t.b,.int .i64 t.c]):=kS.fresh (x:=t) (by simpa using hnk);have ek:Js m.k++[(.agg t.ps,.int .i64 (m.n.length:Int))]=Js (m.k++[(t,(m.n.length:Int))]):=by unfold Js pF.es;rw[a4Q,a4Q];rfl
   have hF3:qJ X0 Qp 148 (Js m.k++[(.agg t.ps,.int .i64 (m.n.length:Int))]) (.agg [.int .i64 t.a,.int .i64 t.b,.int .i64 t.c]) (.int .i64 (m.n.length:Int)):=by
    refine(congrArg (fun l:List (PV aH×PV aH)=>qJ X0 Qp 148 l (.agg [.int .i64 t.a,.int .i64 t.b,.int .i64 t.c]) (.int .i64 (m.n.length:Int))) ek).mpr ?_;refine kS.found (x:=t) ?_ ?_
    .rw[a6q,show((fun e:S3×PV X0.Γ=>e.1)∘fun e:S3×Int=>(e.1,(PV.int .i64 e.2:PV X0.Γ)))=fun e=>e.1 from rfl,a4Q];exact Ez y1.nd hnk
    simp
   have hb:m.n.length+[(⟨c,ks⟩:Br)].length<=ah:=by simp only[a4v];have y3:m.n.length+(J.s.getD c.toNat 0).toNat<=x.n.length+(J.s.getD c.toNat 0).toNat*wO J.s r':=y3;unfold ah;omega
   have h1:dK X0 Qp (iw (N+2)) (.fn 126 [] pM) [.agg t.ps,.int .i64 (a:Int)] (HM1 J f u x) (.int .i64 (m.n.length:Int)) (amD J f u m t ⟨c,ks⟩):=by subst LH;exact fK gU (first:=[]) (cap:=pM) (.w lsk (.b t0 (.o ia (.o ig (.b tg' (.q (.bool false) hF (.b aiC (.o is (.wG [.mv 6,.mv 7,.a4k 1 1 3] lp (.q (.bool false) (kS.ck t) (.o hF2 (.o hb (.c (.int .i64 (m.n.length:Int)) [] hF3 .er)))))))))))))
   have h2:=dK.gs hX h1 [.gc [8,12]] (v':=.int .i64 (m.n.length:Int)) (H2:=[.map (Js m.k++[(.agg t.ps,.int .i64 (m.n.length:Int))]),.cells [lI J.s,lI J.o,.own 8,.own 9,.int .i64 0],.aF (J.ps (.fn f [] [.ptr 5 0 1])),.aF [.fn 126 [] pM],.aF [.map 0],.aF [.int .u8 u],.gone,.gone,RI m.e,RJ (m.n++[⟨c,ks⟩])]) (by kernel_rfl);exact(congrArg (fun l:List (PV aH×PV aH)=>dK X0 Qp (iw (N+2)) (.fn 126 [] pM) [.agg t.ps,.int .i64 (a:Int)] (HM1 J f u x) (.int .i64 (m.n.length:Int)) [.map l,.cells [lI J.s,lI J.o,.own 8,.own 9,.int .i64 0],.aF (J.ps (.fn f [] [.ptr 5 0 1])),.aF [.fn 126 [] pM],.aF [.map 0],.aF [.int .u8 u],.gone,.gone,RI m.e,RJ (m.n++[⟨c,ks⟩])]) ek).mp h2
  rw[a1e rfl];have tg':decide (J.g.getD (J.o.getD (i:Int).toNat 0).toNat 0>=0)=true:=by rw[LH];exact tg
  have hg:0<=J.g.getD c.toNat 0:=by simpa using tg
  have haf:=Lm (M:=N) (f:=f) (a:=[]) (cc:=[.ptr 0 0 1]) (H:=[.aF [.int .u8 u]]) J t c (J.g.getD c.toNat 0) hJ.d3 (fun k hk=>Ls hJ q3 ⟨hg,hJ.gv c qM hg⟩ hk);have h2:=rc (i+1) (bP J.D t c (J.g.getD c.toNat 0)) x xK aQ (nM hJ GK q3 ⟨hg,hJ.gv c qM hg⟩) hx (by unfold ah;omega) (by unfold ah;omega);rw[<-ew]at h2;subst LH;exact fK gU (first:=[]) (cap:=pM) (.w lsk (.b t0 (.o ia (.o ig (.b tg' (.fr [5] haf (.fr [0,1,2,3,4,5,6,7] h2 .er)))))))
theorem arR{N f:Nat}(u){J}(hJ:jr J){op}(jy:mX J op)(hs:∀m,N<=m->∀l,l.length=J.D.length->dK X0 Qp (iw m) (.fn f [] [.ptr 0 0 1]) [lV l] [.aF [.int .u8 u]] (.agg (op l).ps) [.aF [.int .u8 u]]):∀(F) (r),r.length<=F->ahA J op f u (N+F+2) r:=by
 intro F
 induction F with
 |zero=>
  intro r hF;refine aeU u hJ jy (hs _ (by omega)) r fun c r' h=>?_;have:=h.length_le;rw[a4C]at this;omega
 |succ F ih=>
  intro r hF;refine aeU (N:=N+F+1) u hJ jy (hs _ (by omega)) r fun c r' h=>ih r' ?_;have:=h.length_le;rw[a4C]at this;omega
end Go.Proofs.YtmobpoiejckagaaGreat
namespace Pv
open Go Tw
section
variable{X:mV}{P:LI1}
theorem dK.amE(hX:bT X P){call fv v xs H H0 H1}(gs)(hs:dK X P call fv xs H0 v H1)(hg:lZ H.length gs (⟨[],[],H⟩:bV X.Γ)=some ⟨[],[],H0⟩):dK X P call fv xs H v H1:=by
 intro A m h tf rH hr hf hx;obtain⟨m2,q1,q2,q3⟩:=nO hX hg A (fun b=>b∈aZ m) h.length m ⟨[],[],h,[]⟩ ⟨⟨hr,rfl,fun k c hk=>(by simp at hk),.nil⟩,fun b hb=>.inl hb,fun b hb=>(by cases hb),a1l _⟩;have up:Up m m2:=fun i mb hi=>q3 i mb (by rw[<-hr.len];exact(a0x.1 hi).1) hi;obtain⟨w,h',ws,m1,k1,k2,k3,k4,k5,k6⟩:=hs A m2 h tf rH q1.st.heap (hf.step q2 up) (hx.step q2 up);refine⟨w,h',ws,m1,k1,k2,k3,q2.trans k4,fun i mb hi=>?_,fun b hb=>?_⟩
 .rcases up i mb hi with g|g
  .exact k5 i mb g
  rcases k5 i _ g with g|g<;>exact .inr g
 have hb:=k6 b hb;rcases q1.own b hb with g|g
 .exact g
 have:=q1.st.heap.inb hb;have:b<h.length:=this;omega
end
end Pv
namespace Go.Proofs.YtmobpoiejckagaaGreat
open Go Tw Pv bK
theorem Ot{n}(hO:Ok n Gy)(l:LI0)(hl:l.length<=ah):iW n (.fn 125 [] []) [.dD 3 l false] [] (lI l) []:=
 have h0:=nI.a8y hX (hO 125 [.dD 3 l false] (.own 0) (lsI l) [l.length<=ah] (by kernel_rfl) (aft.2 hl)) rfl rfl rfl rfl
 dK.cut hX (dK.fzR hX h0 [0] (v':=lI l) rfl (by decide)) rfl rfl rfl rfl
abbrev arS(J:Jb)(f:Nat)(x:Mk):List (PB aH):=[.map (Js x.k),.cells [lI J.s,lI J.o,.own 7,.own 8,.int .i64 0],.cells (J.ps (.fn f [] [])),.cells [.fn 126 [] pM],.cells [.map 0],.gone,.gone,RI x.e,RJ x.n]
theorem acs{m f:Nat}(hO:Ok m Gy)(J)(st:S3)(z:Int×Mk)(c1:dK X0 Qp (iw m) (.fn 125 [] []) [.dD 3 J.s false] [] (lI J.s) [])(c2:dK X0 Qp (iw m) (.fn 125 [] []) [.dD 3 J.o false] [] (lI J.o) [])(c3:dK X0 Qp (iw m) (.fn 130 [] []) [.agg (J.ps (.fn f [] []))] [] (.agg st.ps) [])(c5:dK X0 Qp (iw m) (.fn 126 [] pM) [.agg st.ps,.int .i64 (0:Int)] [.map [],.cells [lI J.s,lI J.o,.nil .aO,.nil .aO,.int .i64 0],.aF (J.ps (.fn f [] [])),.aF [.fn 126 [] pM],.aF [.map 0]] (.int .i64 z.1) (acf J f z.2))(hr:Dh ⟨J.s,J.o,z.2.e,z.2.n,z.1⟩) (p1:J.s.length<=ah) (p2:J.o.length<=2^20) (p3:z.2.e.length<=ah) (p4:((bI ⟨J.s,J.o,z.2.e,z.2.n,z.1⟩).2 != 0)=false->ClP (bI ⟨J.s,J.o,z.2.e,z.2.n,z.1⟩).1) :dK X0 Qp (iw (m+1)) (.fn 80 [] []) [.agg (J.ps (.fn f [] []))] [] (dA.put (Am ⟨J.s,J.o,z.2.e,z.2.n,z.1⟩).1) []:=by
 obtain⟨v,e,n,k⟩:=z;have h0:dK X0 Qp (iw (m+1)) (.fn 80 [] []) [.agg (J.ps (.fn f [] []))] [] (dA.put (Am ⟨J.s,J.o,e,n,v⟩).1) ([]++[.cells (J.ps (.fn f [] [])),.cells [lI J.s,lI J.o,.own 7,.own 8,.int .i64 v],.map (Js k),.cells [.map 2],.cells [.fn 126 [] [.ptr 0 0 5,.ptr 1 0 5,.ptr 4 0 1,.ptr 3 0 1]],.gone,.gone,.gone,.gone]):=
  fK hO (first:=[]) (cap:=[]) (.fr [] c1 (.fr [] c2 (.fr [] c3 (.RH (H2:=arS J f ⟨e,n,k⟩) [2,1,0,4,3] [2,3,4] c5 (.o hr (.o p1 (.o p2 (.o p3 (.o p4 .er)))))))))
 exact dK.cut hX h0 rfl rfl rfl rfl
theorem ahC{N f:Nat}{J}(hJ:jr J){op}(jy:mX J op)(hs:∀m,N<=m->∀l,l.length=J.D.length->dK X0 Qp (iw m) (.fn f [] []) [lV l] [] (.agg (op l).ps) [])(hO:∀m,N<=m->Ok m Gy){m}(hm:N+J.o.length+2<=m):dK X0 Qp (iw (m+1)) (.fn 80 [] []) [.agg (J.ps (.fn f [] []))] [] (dA.put (tJ J op)) []:=by
 have hl:=hJ.bQ.len;have RX:=(jr.o2 hJ).2.1;have hw:=HY hJ.bQ.sz hJ.ord;have hmn:=hJ.bQ.many;have c1:=Ot (n:=m) (hO m (by omega)) J.s (by unfold ah;omega);have c2:=Ot (n:=m) (hO m (by omega)) J.o (by unfold ah;omega);obtain⟨m',rfl⟩:∃m',m=m'+1:=⟨m-1,by omega⟩;have c3:=a0Y (M:=m') (f:=f) (a:=[]) (cc:=[]) (H:=[]) J hJ.d3;have c4:=arP (N:=m'+1-J.o.length-2) (f:=f) hJ jy (fun m2 h2=>hs m2 (by omega)) J.o.length J.o (a1l _) 0 (fB J.D) ⟨[],[],[]⟩ ab3 (a5U _) (fun k hk=>by rw[wZ hJ.d3 hk];exact⟨(hJ.dg k hk).t.root,a5U _⟩) ⟨⟨fun i hi=>(by simp at hi),fun i hi=>(by simp at hi),fun i hi=>(by simp at hi)⟩,fun e he=>(by cases he),a6p,fun v hv=>(by cases hv),fun b hb=>(by cases hb)⟩ (by show 0+wO J.s J.o<=ah;unfold ah;omega) (by show 0+wO J.s J.o<=ah;unfold ah;omega)
 rw[show m'+1-J.o.length-2+J.o.length+2=m'+1 by omega]at c4;have c5:=dK.amE hX (H:=[.map [],.cells [lI J.s,lI J.o,.nil .aO,.nil .aO,.int .i64 0],.aF (J.ps (.fn f [] [])),.aF [.fn 126 [] pM],.aF [.map 0]]) [.VD 1 2 39,.VD 1 3 105] c4 (by kernel_rfl);obtain⟨h1,h2,h3⟩:=xg hJ jy;have hr:=a9i hJ jy;have h4:(bI (kH J op)).2=0:=by rw[(Ju hJ jy).1]
 have h5:=yh hr (by unfold ah;omega) (by show J.s.length<=ah;unfold ah;omega) (by show J.o.length<=ah;unfold ah;omega) h4;have p1:J.s.length<=ah:=by unfold ah;omega
 have p2:J.o.length<=2^20:=by omega
 have p3:(kH J op).aK.length<=ah:=by unfold ah;omega
 have p4:((bI (kH J op)).2 != 0)=false->ClP (bI (kH J op)).1:=fun _=>by rw[h5.1];exact h5.2
 exact acs (hO (m'+1) (by omega)) J (fB J.D) (jO J op J.o (fB J.D) ⟨[],[],[]⟩) c1 c2 c3 c5 hr p1 p2 p3 p4
abbrev arT(J:Jb)(f:Nat)(u:Int)(x:Mk):List (PB aH):=[.map (Js x.k),.cells [lI J.s,lI J.o,.own 8,.own 9,.int .i64 0],.cells (J.ps (.fn f [] [.ptr 5 0 1])),.cells [.fn 126 [] pM],.cells [.map 0],.aF [.int .u8 u],.gone,.gone,RI x.e,RJ x.n]
theorem acu{m f:Nat}(u)(hO:Ok m Gy)(J)(st:S3)(z:Int×Mk)(c1:dK X0 Qp (iw m) (.fn 125 [] []) [.dD 3 J.s false] [] (lI J.s) [])(c2:dK X0 Qp (iw m) (.fn 125 [] []) [.dD 3 J.o false] [] (lI J.o) [])(c3:dK X0 Qp (iw m) (.fn 130 [] []) [.agg (J.ps (.fn f [] [.ptr 0 0 1]))] [.aF [.int .u8 u]] (.agg st.ps) [.aF [.int .u8 u]])(c5:dK X0 Qp (iw m) (.fn 126 [] pM) [.agg st.ps,.int .i64 (0:Int)] [.map [],.cells [lI J.s,lI J.o,.nil .aO,.nil .aO,.int .i64 0],.aF (J.ps (.fn f [] [.ptr 5 0 1])),.aF [.fn 126 [] pM],.aF [.map 0],.aF [.int .u8 u]] (.int .i64 z.1) (acg J f u z.2))(hr:Dh ⟨J.s,J.o,z.2.e,z.2.n,z.1⟩) (p1:J.s.length<=ah) (p2:J.o.length<=2^20) (p3:z.2.e.length<=ah) (p4:((bI ⟨J.s,J.o,z.2.e,z.2.n,z.1⟩).2 != 0)=false->ClP (bI ⟨J.s,J.o,z.2.e,z.2.n,z.1⟩).1) :dK X0 Qp (iw (m+1)) (.fn 80 [] []) [.agg (J.ps (.fn f [] [.ptr 0 0 1]))] [.aF [.int .u8 u]] (dA.put (Am ⟨J.s,J.o,z.2.e,z.2.n,z.1⟩).1) [.aF [.int .u8 u]]:=by
 obtain⟨v,e,n,k⟩:=z;have h0:dK X0 Qp (iw (m+1)) (.fn 80 [] []) [.agg (J.ps (.fn f [] [.ptr 0 0 1]))] [.aF [.int .u8 u]] (dA.put (Am ⟨J.s,J.o,e,n,v⟩).1) ([.aF [.int .u8 u]]++[.cells (J.ps (.fn f [] [.ptr 0 0 1])),.cells [lI J.s,lI J.o,.own 8,.own 9,.int .i64 v],.map (Js k),.cells [.map 3],.cells [.fn 126 [] [.ptr 1 0 5,.ptr 2 0 5,.ptr 5 0 1,.ptr 4 0 1]],.gone,.gone,.gone,.gone]):=
  fK hO (first:=[]) (cap:=[]) (.fr [] c1 (.fr [] c2 (.fr [0] c3 (.RH (H2:=arT J f u ⟨e,n,k⟩) [3,2,1,5,4,0] [2,3,4] c5 (.o hr (.o p1 (.o p2 (.o p3 (.o p4 .er)))))))))
 exact dK.cut hX h0 rfl rfl rfl rfl
theorem ahD{N f:Nat}(u){J}(hJ:jr J){op}(jy:mX J op)(hs:∀m,N<=m->∀l,l.length=J.D.length->dK X0 Qp (iw m) (.fn f [] [.ptr 0 0 1]) [lV l] [.aF [.int .u8 u]] (.agg (op l).ps) [.aF [.int .u8 u]])(hO:∀m,N<=m->Ok m Gy){m}(hm:N+J.o.length+2<=m):dK X0 Qp (iw (m+1)) (.fn 80 [] []) [.agg (J.ps (.fn f [] [.ptr 0 0 1]))] [.aF [.int .u8 u]] (dA.put (tJ J op)) [.aF [.int .u8 u]]:=by
 have hl:=hJ.bQ.len;have RX:=(jr.o2 hJ).2.1;have hw:=HY hJ.bQ.sz hJ.ord;have hmn:=hJ.bQ.many;have c1:=Ot (n:=m) (hO m (by omega)) J.s (by unfold ah;omega);have c2:=Ot (n:=m) (hO m (by omega)) J.o (by unfold ah;omega);obtain⟨m',rfl⟩:∃m',m=m'+1:=⟨m-1,by omega⟩;have c3:=a0Y (M:=m') (f:=f) (a:=[]) (cc:=[.ptr 0 0 1]) (H:=[.aF [.int .u8 u]]) J hJ.d3;have c4:=arR (N:=m'+1-J.o.length-2) (f:=f) u hJ jy (fun m2 h2=>hs m2 (by omega)) J.o.length J.o (a1l _) 0 (fB J.D) ⟨[],[],[]⟩ ab3 (a5U _) (fun k hk=>by rw[wZ hJ.d3 hk];exact⟨(hJ.dg k hk).t.root,a5U _⟩) ⟨⟨fun i hi=>(by simp at hi),fun i hi=>(by simp at hi),fun i hi=>(by simp at hi)⟩,fun e he=>(by cases he),a6p,fun v hv=>(by cases hv),fun b hb=>(by cases hb)⟩ (by show 0+wO J.s J.o<=ah;unfold ah;omega) (by show 0+wO J.s J.o<=ah;unfold ah;omega)
 rw[show m'+1-J.o.length-2+J.o.length+2=m'+1 by omega]at c4;have c5:=dK.amE hX (H:=[.map [],.cells [lI J.s,lI J.o,.nil .aO,.nil .aO,.int .i64 0],.aF (J.ps (.fn f [] [.ptr 5 0 1])),.aF [.fn 126 [] pM],.aF [.map 0],.aF [.int .u8 u]]) [.VD 1 2 39,.VD 1 3 105] c4 (by kernel_rfl);obtain⟨h1,h2,h3⟩:=xg hJ jy;have hr:=a9i hJ jy;have h4:(bI (kH J op)).2=0:=by rw[(Ju hJ jy).1]
 have h5:=yh hr (by unfold ah;omega) (by show J.s.length<=ah;unfold ah;omega) (by show J.o.length<=ah;unfold ah;omega) h4;have p1:J.s.length<=ah:=by unfold ah;omega
 have p2:J.o.length<=2^20:=by omega
 have p3:(kH J op).aK.length<=ah:=by unfold ah;omega
 have p4:((bI (kH J op)).2 != 0)=false->ClP (bI (kH J op)).1:=fun _=>by rw[h5.1];exact h5.2
 exact acu u (hO (m'+1) (by omega)) J (fB J.D) (jO J op J.o (fB J.D) ⟨[],[],[]⟩) c1 c2 c3 c5 hr p1 p2 p3 p4
open Go Tw Pv bK
theorem amF(x):Instr.sameBits 10000 (kV.v x) (kV.v x)=true:=by show Instr.sameBits 10000 (.agg #[.int .u8 x.f,.int .i64 x.n]) (.agg #[.int .u8 x.f,.int .i64 x.n])=true;simp[Instr.sameBits]
theorem a9o(x):Instr.sameBits 10000 (kS.v x) (kS.v x)=true:=by show Instr.sameBits 10000 (.agg #[.int .i64 x.a,.int .i64 x.b,.int .i64 x.c]) (.agg #[.int .i64 x.a,.int .i64 x.b,.int .i64 x.c])=true;simp[Instr.sameBits]
abbrev cZ:V:=⟨0,1⟩
def amG:gZ aH:=cu 79 (a1 vsA) vA (fun p=>p.getD 0 V0) (fun p=>[0<p.length]) Gy
theorem arU:Gd amG:=UG.add fun n hO p hp=>aP hO (.o (aG (hp _ iE)) .rr)
def amH:gZ aH:=cu 89 agt vA (fun p=>cZ) np amG
theorem arV:Gd amH:=arU.add fun n hO p hp=>aP hO .rr
def a9p:gZ aH:=cu 169 (a1 vA) tA (fun p=>decide (p=cZ)) np amH
theorem amI:Gd a9p:=arV.add fun n hO p hp=>aP hO (.q (.bool (decide (p=cZ))) (eqV (.tmp 3) (.tmp 4) p cZ) .rr)
def mF(l:List V):Bool:=l.all fun v=>decide (v=cZ)
def iU(l:List V):V:=if mF l=true then cZ else V0
theorem arW{n}(hO:Ok n a9p)(l)(hl:l.length<=ah):iW (n+4) (.fn 168 [] []) [.fn 169 [] [],lV l] [] (tA.put (mF l)) []:=by
 have hs:∀v:V,iW n (.fn 169 [] []) [.agg v.ps] [] (tA.put (decide (v=cZ))) []:=fun v=>nI.ND hX (first:=[]) (cap:=[]) (hO 169 [.agg v.ps] (tA.put (decide (v=cZ))) [] [] (by kernel_rfl) (fun p h=>by cases h)) rfl rfl rfl rfl;have h1:∀v:V,iW (n+1) (.fn 201 [] [.ptr 0 0 1]) [.agg v.ps] [.cells [.fn 169 [] []]] (tA.put (!(decide (v=cZ)))) [.cells [.fn 169 [] []]]:=fun v=>
  jI gU (first:=[]) (.fr [] (hs v) .sr)
 have h2:=agU (n:=n+2) (by omega) (f:=201) (a:=[]) (c:=[.ptr 0 0 1]) (H:=[.cells [.fn 169 [] []]]) (g:=fun v=>!(decide (v=cZ))) h1 l hl;rw[KU]at h2;unfold mF;rw[<-Fz l fun v=>decide (v=cZ)];exact dK.drop hX (E8 hX gU (first:=[]) (cap:=[]) (H1:=[.cells [.fn 169 [] []]]) (by kernel_rfl) (.k h2 .sr)) rfl rfl
def qY:gZ aH:=cu 117 (a1 vsA) vA iU (fun l=>[l.length<=ah]) a9p
theorem Jw:Gd qY:=amI.deep 4 fun n hn hO l hp=>by have hs:=arW (n:=n-4) (hO (n-4) (by omega)) l (hp _ iE);rw[show n-4+4=n by omega]at hs;show nI X0 Qp _ _ _ (vA.put (iU l)) _;unfold iU;exact aP (hO n (by omega)) (.fr [] hs (.ss .rr .rr))
abbrev Zd:Code:=(Un Qp 87).body
abbrev SI:Code:=(Un Qp 136).body
abbrev a9q(J:Jb)(f:Nat):List (Nat×PE aH):=[(2,.val (.nil .map)),(3,.val (.ptr 2 0 1)),(8,.val (.fn 136 [.agg (J.ps (.fn f [] []))] []))]
abbrev LRC(J:Jb)(f:Nat)(rd:Bool)(jW:Option Code):PB aH:=.loop rd 87 (Df Qp 87) (a9q J f) [9,10] (xY Qp 87) (BF Qp 87) jW
abbrev HQc(J:Jb)(f:Nat)(t:List (V×Int)):List (PB aH):=[.cells (J.ps (.fn f [] [])),.map (kV.im t),.cells [.map 1]]
abbrev SK(J:Jb)(f:Nat)(rd:Bool)(jW:Option Code)(t:List (V×Int)):List (PB aH):=HQc J f t++[.mark,LRC J f rd jW]
theorem a9r(l):decide (iU l=cZ)=mF l:=by unfold iU;cases mF l<;>decide
def yT(l:List V)(w:Int)(t:List (V×Int)):List (V×Int):=if mF (l.drop 1)=true then ug t (l.getD 0 V0) w else t
structure Tal(t:List (V×Int)):Prop where
 nd:(t.map (·.1)).Nodup
 pos:∀e∈t,0<e.2
 bnd:∀e∈t,e.2<=2000
theorem arY{n}(hO:Ok n qY)(J f){t}(ht:Tal t)(l){w}(h0:0<l.length)(hl:l.length<=ah)(hw:0<w/\w<=2000):iW (n+1) (.lC 4) [lV l,.int .i64 w] (SK J f true none t) (.bool true) (SK J f true none (yT l w t)):=by
 have q1:dS X0 Qp T (iw n) LL 87 true (Df Qp 87) 5 (xY Qp 87) ⟨vw (a9q J f) [9,10] [lV l,.int .i64 w],[],SK J f true none t⟩ .norm ⟨[(3,.val (.ptr 2 0 1)),(4,.val (lV l)),(5,.val (.int .i64 w))],[],SK J f true none t⟩:=yX hX hO (by kernel_rfl) .xx;have i0:gG 0 l.length:=aG h0;have a1:(1:Int)<=l.length:=by omega
 have e1:(l.take l.length)=l:=adB;have c1:decide (iU ((l.take ((l.length:Int).toNat)).drop (1:Int).toNat)=cZ)=mF (l.drop 1):=by rw[a9r];simp
 have a2:((l.take ((l.length:Int).toNat)).drop (1:Int).toNat).length<=ah:=by simp;omega
 have ev:=eqV (.tmp 13) (.tmp 14) (iU ((l.take ((l.length:Int).toNat)).drop (1:Int).toNat)) cZ;have z01:(0:Int)<=1:=by decide
 have z02:(l.length:Int)<=(l.length:Int):=a8Z _;unfold yT;cases hc:mF (l.drop 1)
 .rw[hc]at c1;rw[a18 (by simp)];have q2:dS X0 Qp T (iw n) LL 87 true (Df Qp 87) 5 (BF Qp 87) ⟨[(3,.val (.ptr 2 0 1)),(4,.val (lV l)),(5,.val (.int .i64 w))],[],SK J f false none t⟩ .norm ⟨[(3,.val (.ptr 2 0 1)),(4,.val (lV l)),(5,.val (.int .i64 w)),(15,xl false)],[],SK J f false none t⟩:=
   yX hX hO (by kernel_rfl) (.o z01 (.o a1 (.o z02 (.o a2 (.q (.bool (decide (iU ((l.take ((l.length:Int).toNat)).drop (1:Int).toNat)=cZ))) ev (.b c1 .xx))))))
  exact J9 hX (l:=4) rfl rfl (by kernel_rfl) q1 rfl q2 rfl
 rw[hc]at c1;rw[a1e rfl];by_cases hk:l.getD 0 V0∈t.map (·.1)
 .obtain⟨j,old,g1,g2,g3,g4⟩:=kV.WO (amF _) ht.nd hk (n:=w) fun e he=>fV (by have:=ht.pos e he;omega) (by have:=ht.bnd e he;omega);have q2:dS X0 Qp T (iw n) LL 87 true (Df Qp 87) 5 (BF Qp 87) ⟨[(3,.val (.ptr 2 0 1)),(4,.val (lV l)),(5,.val (.int .i64 w))],[],SK J f false none t⟩ .norm ⟨[],[],[.cells (J.ps (.fn f [] [])),.map (Kz (kV.im t) j (.int .i64 (i64.wrap (old+w)))),.cells [.map 1],.mark,LRC J f false none]⟩:=
   yX hX hO (by kernel_rfl) (.o z01 (.o a1 (.o z02 (.o a2 (.q (.bool (decide (iU ((l.take ((l.length:Int).toNat)).drop (1:Int).toNat)=cZ))) ev (.b c1 (.o i0 (.c (.int .i64 old) [] g1 (.a (.call (.int .i64 old) []) (.a (.ix j) (.o g2 (.o g3 .xx))))))))))))
  rw[g4]at q2;exact J9 hX (l:=4) rfl rfl (by kernel_rfl) q1 rfl q2 rfl
 obtain⟨g1,g2,g3,g4⟩:=kV.WQ hk (n:=w) (by rw[Int.zero_add];exact fV (by omega) (by omega));have q2:dS X0 Qp T (iw n) LL 87 true (Df Qp 87) 5 (BF Qp 87) ⟨[(3,.val (.ptr 2 0 1)),(4,.val (lV l)),(5,.val (.int .i64 w))],[],SK J f false none t⟩ .norm ⟨[],[],[.cells (J.ps (.fn f [] [])),.map (Kz (kV.im t++[(.agg (l.getD 0 V0).ps,.int .i64 0)]) (kV.im t).length (.int .i64 (i64.wrap (0+w)))),.cells [.map 1],.mark,LRC J f false none]⟩:=
  yX hX hO (by kernel_rfl) (.o z01 (.o a1 (.o z02 (.o a2 (.q (.bool (decide (iU ((l.take ((l.length:Int).toNat)).drop (1:Int).toNat)=cZ))) ev (.b c1 (.o i0 (.q (.bool false) g1 (.a .calm (.o (kV.ck (l.getD 0 V0)) (.o g1 (.o g2 (.o g3 .xx)))))))))))))
 have g4:Kz (kV.im t++[(.agg (l.getD 0 V0).ps,.int .i64 0)]) (kV.im t).length (.int .i64 (i64.wrap (0+w)))=kV.im (ug t (l.getD 0 V0) w):=g4;rw[g4]at q2;exact J9 hX (l:=4) rfl rfl (by kernel_rfl) q1 rfl q2 rfl
open Go Tw Pv bK
abbrev HN(J:Jb)(f:Nat)(t:List (V×Int))(now:List (S3×Int)):List (PB aH):=SK J f true none t++[.map (kS.im now)]
abbrev bLB:Code:=eU (eU (eX (eU (eX (eX SI)))))
abbrev bB1:Code:=eU (eU (eX (eX bLB)))
abbrev bIB:Code:=eU (eU (eX (eU (eX (eX bB1)))))
abbrev bX:Code:=eU (eX (eX bIB))
abbrev bL2:Code:=eU (eU (eX (eX (eX (eX SI)))))
abbrev bX2:Code:=eU (eX (eX bL2))
abbrev a5n(J:Jb)(c:Int)(a:Int):List (Nat×PE aH):=[(1,.val (.lC 4)),(2,.loc 0 0),(6,xi c),(7,.val (.map 6)),(21,xL 3 J.o),(22,xi J.o.length),(23,xi a),(29,.val (.iter 7))]
abbrev HI(J:Jb)(f:Nat)(t:List (V×Int))(now next:List (S3×Int))(seen:List Nat):List (PB aH):=HN J f t now++[.map (kS.im next),.dB 5 now.length seen]
structure NI(J:Jb)(a:Nat)(m:List (S3×Int)):Prop where
 nd:(m.map (·.1)).Nodup
 pos:∀e∈m,0<e.2
 dp:∀e∈m,Dp J a e.1
theorem NI.add{J a m}(h:NI J a m){s n}(hs:Dp J a s)(hn:0<n):NI J a (ug m s n):=
 ⟨Ht h.nd s n,Qq hn h.pos,fun e he=>by
  rcases a81 he with e1|⟨e',h1,h2⟩
  .rw[e1];exact hs
  .rw[<-h2];exact h.dp e' h1⟩
theorem BZ{κ}[DecidableEq κ](q):∀m:List (κ×Int),dJ (fun _=>q) m=dJ (fun _=>1) m*q
 | []=>by simp[dJ]
 |e::m=>by simp only[dJ,BZ q m,aix,adh]
theorem Jy{κ}[DecidableEq κ]:∀{m:List (κ×Int)},(∀e∈m,0<e.2)->0<=dJ (fun _=>1) m/\∀e∈m,e.2<=dJ (fun _=>1) m
 | [],_=>⟨a8Z _,fun e he=>by cases he⟩
 |x::m,h=>by
  obtain⟨h1,h2⟩:=Jy (m:=m) fun e he=>h e (by simp[he]);have h0:=h x (by simp);simp only[dJ,adh];refine⟨by omega,fun e he=>?_⟩;rcases a1E.1 he with rfl|he
  .omega
  have:=h2 e he;omega
theorem a9t{κ}[DecidableEq κ]{m:List (κ×Int)}{q:Nat}(hp:∀e∈m,0<e.2)(hq:1<=q)(hs:dJ (fun _=>(q:Int)) m<=2000):∀e∈m,e.2<=2000:=fun e he=>by
 obtain⟨h1,h2⟩:=Jy hp;rw[BZ]at hs;have h3:=h2 e he;have:dJ (fun _=>1) m<=dJ (fun _=>1) m*(q:Int):=by have:=a9K (show(1:Int)<=q by omega) h1;omega
 omega
theorem Ze{J}(r m):dJ (yG J (fun _=>1) r) m=dJ (fun _=>(AB J r:Int)) m:=by
 induction m with
 |nil=>rfl
 |cons e m ih=>simp only[dJ,ih,FD]
theorem FM{J a r m}(h:NI J a m)(hq:1<=AB J r){s:S3}{n b}(hn:0<n)(hs:dJ (fun _=>(AB J r:Int)) m+n*(AB J r:Int)<=b)(hb:b<=2000):n<=2000/\(∀e∈m,e.2<=2000)/\∀e∈m,i64.wrap (e.2+n)=e.2+n:=by
 obtain⟨h1,h2⟩:=Jy h.pos;have h3:0<=dJ (fun _=>(AB J r:Int)) m:=by rw[BZ];exact afM h1 (by omega)
 have h4:n<=n*(AB J r:Int):=by have:=a9K (show(1:Int)<=AB J r by omega) (show 0<=n by omega);omega
 have h5:0<=n*(AB J r:Int):=by omega
 have h6:=a9t h.pos hq (show dJ (fun _=>(AB J r:Int)) m<=2000 by omega);refine⟨by omega,h6,fun e he=>?_⟩;have:=h6 e he;have:=h.pos e he;exact fV (by omega) (by omega)
theorem a3m{now}{j:Nat}{st w}(h:now[j]? = some (st,w)):(kS.im now).length=now.length/\(kS.im now)[j]? = some (.agg st.ps,.int .i64 w):=by refine⟨kS.qo now,?_⟩;rw[kS.BX,h];rfl
section
variable{n:Nat}{J:Jb}(hJ:jr J){f:Nat}(t:List (V×Int))(now:List (S3×Int))(seen:List Nat){a:Nat}{c:Int}{r:LI0}{st:S3}{w:Int}{j:Nat}
abbrev sX(J:Jb)(f:Nat)(t:List (V×Int))(now next:List (S3×Int))(c:Int)(a:Int)(st:S3)(w:Int)(js:List Nat):bV aH:=⟨jF (T.iL 136 7) ((31,.val (.bool true))::(30,.val (.dM [.bool true,.agg st.ps,.int .i64 w]))::a5n J c a),[J.ps (.fn f [] [])],HI J f t now next js⟩
abbrev sZ(J:Jb)(f:Nat)(t:List (V×Int))(now next:List (S3×Int))(c:Int)(a:Int)(st:S3)(js:List Nat):bV aH:=⟨a5n J c a,[J.ps (.fn f [] []),st.ps],HI J f t now next js⟩
abbrev wDi(J:Jb)(f:Nat)(t:List (V×Int))(now:List (S3×Int))(c:Int)(a:Int)(st:S3)(w:Int)(js:List Nat)(next:List (S3×Int))(i:Int)(x:List (Nat×PE aH)):bV aH:=⟨[(1,.val (.lC 4)),(2,.loc 0 0),(6,xi c),(7,.val (.map 6)),(8,.loc 1 0),(9,xi w),(21,xL 3 J.o),(22,xi J.o.length),(23,xi a),(29,.val (.iter 7)),(75,xi (J.s.getD c.toNat 0)),(76,xi i)]++x,[J.ps (.fn f [] []),st.ps],HI J f t now next js⟩
include hJ
theorem lDi(hr:J.o.drop a=c::r)(hd:Dp J a st)(hw:0<w){next:List (S3×Int)}(hN:NI J (a+1) next)(hg:¬decide (J.g.getD c.toNat 0>=0)=true)(hb:dJ (fun _=>(AB J r:Int)) next+w*(AB J (c::r):Int)<=2000)(js:List Nat) :∃next',NI J (a+1) next'/\(∀ψ,dJ (yG J ψ r) next'=dJ (yG J ψ r) next+w*yG J ψ (c::r) st) /\Oi (n+1) 136 2 5 (wDi J f t now c a st w js next 0 []) (.exit 5) (wDi J f t now c a st w js next' ((J.s.getD c.toNat 0).toNat:Nat) [(77,xl false)]):=by
 obtain⟨aQ,hoc,xK,FV,hci,qM⟩:=jr.at_ hJ hr;have hz:=hJ.bQ.sz _ (dG (s:=J.s) (k:=c.toNat) (by have:=qM.1;have:=qM.2;omega));have hri:∀c'∈r,gG c' J.s.length:=fun c' h=>(jr.o2 hJ).2.2 c' (by rw[<-xK]at h;exact a6a h);have hq:=(LG hJ hri).1;have nP:(AB J (c::r):Int)=((J.s.getD c.toNat 0).toNat:Int)*(AB J r:Int):=by
  have:(BQ J c).length=(J.s.getD c.toNat 0).toNat:=by unfold BQ;rw[a18 hg];simp
  rw[AB,this,afp]
 let g:Nat->List (S3×Int)->List (S3×Int):=fun k y=>ug y (bP J.D st c k) w
 have inv:=dh (g:=g) (m:=(J.s.getD c.toNat 0).toNat) (k:=0) (s:=next) (fun k y=>NI J (a+1) y/\∀ψ,dJ (yG J ψ r) y=dJ (yG J ψ r) next+w*eu (fun(j:Nat)=>yG J ψ r (bP J.D st c j)) (List.range k)) ⟨hN,fun ψ=>by simp[eu]⟩ (fun k y _ hk hy=>by obtain⟨h1,h2⟩:=hy;refine⟨h1.add (nM hJ hr hd ⟨by omega,by omega⟩) hw,fun ψ=>?_⟩;show dJ (yG J ψ r) (ug y _ w)=_;rw[Ae,h2 ψ,abW,Jh,Int.mul_add];simp only[eu,Int.add_zero];omega)
 rw[a3L]at inv;refine⟨_,inv.1,fun ψ=>by rw[inv.2 ψ,acj hg],?_⟩;have bound:∀k y,k<(J.s.getD c.toNat 0).toNat->(∀ψ,dJ (yG J ψ r) y=dJ (yG J ψ r) next+w*eu (fun(j:Nat)=>yG J ψ r (bP J.D st c j)) (List.range k))->dJ (fun _=>(AB J r:Int)) y+w*(AB J r:Int)<=2000:=fun k y hk hy=>by have h1:=hy fun _=>1;rw[Ze,Ze,qN (φ':=fun _=>(AB J r:Int)) (fun _ _=>FD r _),BU,a6I]at h1;rw[h1];rw[nP]at hb;have h2:((k:Int)+1)*(AB J r:Int)<=((J.s.getD c.toNat 0).toNat:Int)*(AB J r:Int):=ab8 (by omega) (by omega);have h3:=a9K h2 (show 0<=w by omega);rw[aix,Int.mul_add,Int.one_mul]at h3;omega
 refine wL (σ:=List (S3×Int)) (N:=(J.s.getD c.toNat 0).toNat) (g:=g) (s0:=next) (st:=fun i y=>wDi J f t now c a st w js y i []) (fin:=fun y=>wDi J f t now c a st w js y (((J.s.getD c.toNat 0).toNat:Nat):Int) [(77,xl false)]) (fun k y=>NI J (a+1) y/\∀ψ,dJ (yG J ψ r) y=dJ (yG J ψ r) next+w*eu (fun(j:Nat)=>yG J ψ r (bP J.D st c j)) (List.range k)) (by kernel_rfl) (by unfold ah;omega) ⟨hN,fun ψ=>by simp[eu]⟩ (fun k y hk hy=>?_) (fun k y hk hy m e p g9=>?_) (fun y _=>?_)
 .obtain⟨h1,h2⟩:=hy;refine⟨h1.add (nM hJ hr hd ⟨by omega,by omega⟩) hw,fun ψ=>?_⟩;show dJ (yG J ψ r) (ug y _ w)=_;rw[Ae,h2 ψ,abW,Jh,Int.mul_add];simp only[eu,Int.add_zero];omega
 .obtain⟨h1,h2⟩:=hy;obtain⟨b1,b2,b3⟩:=FM h1 hq (s:=bP J.D st c k) hw (bound k y hk h2) (a8Z _);have t1:decide ((k:Int)<J.s.getD c.toNat 0)=true:=by rw[a1x];omega
  have ha:=Lm (M:=n) (f:=f) (a:=[]) (cc:=[]) (H:=[]) J st c k hJ.d3 fun i hi=>Ls hJ hd ⟨by omega,by omega⟩ hi;have g9:dP X0 Qp T (iw (n+1)) LL 136 false _ 5 _ m (wDi J f t now c a st w js (ug y (bP J.D st c k) w) _ []) e p:=g9;by_cases hk:bP J.D st c k∈y.map (·.1)
  .obtain⟨jj,old,g1,g2,g3,g4⟩:=kS.WO (a9o _) h1.nd hk (n:=w) b3;unfold wDi HI at g9;rw[<-g4]at g9;exact aN gU (.b t1 (.fr [] ha (.c (.int .i64 old) [] g1 (.a (.call (.int .i64 old) []) (.a (.ix jj) (.o g2 (.o g3 (.go g9))))))))
  .obtain⟨g1,g2,g3,g4⟩:=kS.WQ hk (n:=w) (by rw[Int.zero_add];exact fV (by omega) (by omega));unfold wDi HI at g9;rw[<-g4]at g9;exact aN gU (.b t1 (.fr [] ha (.q (.bool false) g1 (.a .calm (.o (kS.ck (bP J.D st c k)) (.o g1 (.o g2 (.o g3 (.go g9)))))))))
 .have t1:decide ((((J.s.getD c.toNat 0).toNat:Nat):Int)<J.s.getD c.toNat 0)=false:=by rw[a3G];omega
  exact aN gU (.b t1 .ex)
end
open Go Tw Pv bK
abbrev sH(J:Jb)(f:Nat)(t:List (V×Int))(now next:List (S3×Int))(c:Int)(a:Int)(js:List Nat):bV aH:=⟨a5n J c a,[J.ps (.fn f [] [])],HI J f t now next js⟩
section
variable{n:Nat}{J:Jb}(hJ:jr J){f:Nat}(t:List (V×Int))(now:List (S3×Int))(seen:List Nat){a:Nat}{c:Int}{r:LI0}{st:S3}{w:Int}{j:Nat}
include hJ
theorem amJ(hr:J.o.drop a=c::r)(hd:Dp J a st)(hw:0<w){next}(hN:NI J (a+1) next)(hj:now[j]? = some (st,w))(hb:dJ (fun _=>(AB J r:Int)) next+w*(AB J (c::r):Int)<=2000) :∃next' e s',NI J (a+1) next'/\(∀ψ,dJ (yG J ψ r) next'=dJ (yG J ψ r) next+w*yG J ψ (c::r) st)/\(e=.norm\/e=.exit 3) /\dS X0 Qp T (iw (n+1)) LL 136 false (Df Qp 136) 5 bX (sX J f t now next c a st w (j::seen)) e s' /\gY X0 (T.eY 136 (dZ bIB)) s'=sH J f t now next' c a (j::seen):=by
 obtain⟨aQ,hoc,xK,FV,hci,qM⟩:=jr.at_ hJ hr;have hz:=hJ.bQ.sz _ (dG (s:=J.s) (k:=c.toNat) (by have:=qM.1;have:=qM.2;omega));have hri:∀c'∈r,gG c' J.s.length:=fun c' h=>(jr.o2 hJ).2.2 c' (by rw[<-xK]at h;exact a6a h);have hq:=(LG hJ hri).1;have hcG:gG c J.g.length:=by rw[hJ.gl];exact qM
 have ho:=a3m hj;by_cases hg:decide (J.g.getD c.toNat 0>=0)=true
 .have hl1:(AB J (c::r):Int)=AB J r:=by rw[AB,BQ,a1e hg];simp
  rw[hl1]at hb;have hgv:0<=J.g.getD c.toNat 0:=by simpa using hg
  have hd2:=nM hJ hr hd ⟨hgv,hJ.gv c qM hgv⟩;obtain⟨b1,b2,b3⟩:=FM hN hq (s:=st) hw hb (a8Z _);have ha:=Lm (M:=n) (f:=f) (a:=[]) (cc:=[]) (H:=[]) J st c (J.g.getD c.toNat 0) hJ.d3 fun i hi=>Ls hJ hd ⟨hgv,hJ.gv c qM hgv⟩ hi;refine⟨ug next (bP J.D st c (J.g.getD c.toNat 0)) w,.exit 3,sZ J f t now (ug next (bP J.D st c (J.g.getD c.toNat 0)) w) c a st (j::seen),hN.add hd2 hw,fun ψ=>by rw[Ae,a5k hg],.inr rfl,?_,by kernel_rfl⟩;unfold sZ HI;by_cases hk:bP J.D st c (J.g.getD c.toNat 0)∈next.map (·.1)
  .obtain⟨jj,old,g1,g2,g3,g4⟩:=kS.WO (a9o _) hN.nd hk (n:=w) b3;rw[<-g4];exact Af hX gU (by kernel_rfl) (.c (.dM [.agg st.ps,.int .i64 w]) [] ho (.o qM (.o hcG (.b hg (.fr [] ha (.c (.int .i64 old) [] g1 (.a (.call (.int .i64 old) []) (.a (.ix jj) (.o g2 (.o g3 (.r rfl)))))))))))
  .obtain⟨g1,g2,g3,g4⟩:=kS.WQ hk (n:=w) (by rw[Int.zero_add];exact fV (by omega) (by omega));rw[<-g4];exact Af hX gU (by kernel_rfl) (.c (.dM [.agg st.ps,.int .i64 w]) [] ho (.o qM (.o hcG (.b hg (.fr [] ha (.q (.bool false) g1 (.a .calm (.o (kS.ck (bP J.D st c (J.g.getD c.toNat 0))) (.o g1 (.o g2 (.o g3 (.r rfl))))))))))))
 have hg':decide (J.g.getD c.toNat 0>=0)=false:=by simpa using hg
 have qV:((J.s.getD c.toNat 0).toNat:Int)=J.s.getD c.toNat 0:=by omega
 have nP:(AB J (c::r):Int)=J.s.getD c.toNat 0*(AB J r:Int):=by
  have:(BQ J c).length=(J.s.getD c.toNat 0).toNat:=by unfold BQ;rw[a18 hg];simp
  rw[AB,this,afp,qV]
 have hs:=a9d (M:=n) (f:=f) (a:=[]) (cc:=[]) (H:=[]) J st c hJ.d3 (fun k hk h=>⟨by simpa using h,(hd k hk).1.1⟩);cases BO:kG J.D st c
 .rw[BO]at hs;have hd2:=WH hJ hr hd BO;have hm:0<w*J.s.getD c.toNat 0:=Int.mul_pos hw (by omega);rw[nP,<-Int.mul_assoc]at hb;obtain⟨b1,b2,b3⟩:=FM hN hq (s:=st) hm hb (a8Z _);have hwm:i64.wrap (w*J.s.getD c.toNat 0)=w*J.s.getD c.toNat 0:=fV (by omega) (by omega);refine⟨ug next st (w*J.s.getD c.toNat 0),.exit 3,sZ J f t now (ug next st (w*J.s.getD c.toNat 0)) c a st (j::seen),hN.add hd2 hm,fun ψ=>by rw[Ae,ahu hg BO,qV,Int.mul_assoc],.inr rfl,?_,by kernel_rfl⟩;unfold sZ HI;by_cases hk:st∈next.map (·.1)
  .obtain⟨jj,old,g1,g2,g3,g4⟩:=kS.WO (a9o _) hN.nd hk (n:=w*J.s.getD c.toNat 0) b3;rw[<-g4,<-hwm];exact Af hX gU (by kernel_rfl) (.c (.dM [.agg st.ps,.int .i64 w]) [] ho (.o qM (.o hcG (.b hg' (.fr [] hs (.b aiK (.c (.int .i64 old) [] g1 (.a (.call (.int .i64 old) []) (.a (.ix jj) (.o g2 (.o g3 (.r rfl))))))))))))
  .obtain⟨g1,g2,g3,g4⟩:=kS.WQ hk (n:=w*J.s.getD c.toNat 0) (by rw[Int.zero_add];exact hwm);rw[<-g4,<-hwm];exact Af hX gU (by kernel_rfl) (.c (.dM [.agg st.ps,.int .i64 w]) [] ho (.o qM (.o hcG (.b hg' (.fr [] hs (.b aiK (.q (.bool false) g1 (.a .calm (.o (kS.ck st) (.o g1 (.o g2 (.o g3 (.r rfl)))))))))))))
 .rw[BO]at hs;obtain⟨next',h1,h2,h3⟩:=lDi (n:=n) hJ (f:=f) t now hr hd hw hN hg hb (j::seen);refine⟨next',.norm,_,h1,h2,.inl rfl,Af (ps1:=wDi J f t now c a st w (j::seen) next' ((J.s.getD c.toNat 0).toNat:Nat) [(77,xl false)]) hX gU (by kernel_rfl) (.c (.dM [.agg st.ps,.int .i64 w]) [] ho (.o qM (.o hcG (.b hg' (.fr [] hs (.b aiJ (.w h3 (.r rfl)))))))),by kernel_rfl⟩
end
end Go.Proofs.YtmobpoiejckagaaGreat
namespace Pv
open Go Tw
section
variable{X:mV}{P:LI1}{T:vH}{call:dO}{cd:xM}{L f nt B:Nat}
theorem aJ.C9{a b ps s1 Q}(hn:oJ a=true)(ha:dS X P T call L f false nt B a ps .norm s1)(hb:aJ X P T call cd L f nt B b s1 Q):aJ X P T call cd L f nt B (.seq a b) ps Q:=
 aJ.seq (R:=fun e s=>e=.norm/\s=s1) (dS.dem hn ha ⟨rfl,rfl⟩) (fun s h=>by obtain⟨_,rfl⟩:=h;exact hb) (fun i s h=>by cases h.1) (fun s h=>by cases h.1)
theorem aJ.step{c ps e ps1 Q}(hn:oJ c=true)(ha:dS X P T call L f false nt B c ps e ps1)(hq:Q e ps1):aJ X P T call cd L f nt B c ps Q:=dS.dem hn ha hq
end
end Pv
namespace Go.Proofs.YtmobpoiejckagaaGreat
open Go Tw Pv bK
theorem Nc{α}[DecidableEq α](φ:α->Int)(p):∀l,eu φ l=eu φ (l.filter p)+eu φ (l.filter fun a=>!p a)
 | []=>rfl
 |a::l=>by
  rw[eu,Nc φ p l];cases h:p a
  .rw[aeE (by simp[h]),aeJ (by simp[h]),eu];omega
  rw[aeJ h,aeE (by simp[h]),eu];omega
theorem WT{α}[DecidableEq α]{φ:α->Int}:∀{l},(∀a∈l,0<=φ a)->0<=eu φ l
 | [],_=>a8Z _
 |a::l,h=>by have:=WT (l:=l) fun b hb=>h b (by simp[hb]);have:=h a (by simp);rw[eu];omega
theorem LJ{n l}(hn:l.Nodup)(hl:∀j∈l,j<n):((List.range n).filter fun j=>l.contains j).Perm l:=
 (a7x (List.nodup_range.filter _) hn).2 fun j=>by rw[a5X,a5m,List.contains_iff_mem];exact⟨fun h=>h.2,fun h=>⟨hl j h,h⟩⟩
theorem WU{n φ l}(hn:l.Nodup)(hl:∀j∈l,j<n)(hp:∀j,j<n->0<=φ j):eu φ l<=eu φ (List.range n):=by rw[Nc φ (fun j=>l.contains j) (List.range n),KP φ (LJ hn hl)];have:=WT (φ:=φ) (l:=(List.range n).filter fun j=>!l.contains j) fun j hj=>hp j (a5m.1 (a5X.1 hj).1);omega
theorem Rh{n φ l}(hn:l.Nodup)(hl:∀j∈l,j<n)(ha:∀j,j<n->j∈l):eu φ l=eu φ (List.range n):=
 (KP φ ((a7x afm hn).2 fun j=>⟨fun h=>ha j (a5m.1 h),fun h=>a5m.2 (hl j h)⟩)).symm
abbrev nowAt(now:List (S3×Int))(j:Nat):S3×Int:=now.getD j (⟨0,0,0⟩,0)
theorem Jz{φ}(now):eu (fun j=>(nowAt now j).2*φ (nowAt now j).1) (List.range now.length)=dJ φ now:=by
 have h1:dJ φ now=eu (fun e:S3×Int=>e.2*φ e.1) now:=by
  induction now with
  |nil=>rfl
  |cons e m ih=>simp only[dJ,eu,ih]
 have h2:now=(List.range now.length).map fun j=>nowAt now j:=by refine(pz (d:=(⟨⟨0,0,0⟩,0⟩:S3×Int)) (by simp)).2 fun k hk=>?_;simp[List.getD,hk]
 rw[h1]
 conv=>rhs;rw[h2]
 rw[Ap]
theorem Zf{now j e}(h:now[j]? = some e):nowAt now j=e/\j<now.length/\e∈now:=by obtain⟨h1,h2⟩:=a0x.1 h;exact⟨by simp[nowAt,List.getD,h],h1,h2▸a5K h1⟩
section
variable{n:Nat}{J:Jb}(hJ:jr J){f:Nat}(t:List (V×Int))(now:List (S3×Int)){a:Nat}{c:Int}{r:LI0}
def InS(J:Jb)(f:Nat)(t:List (V×Int))(now:List (S3×Int))(a:Nat)(c:Int)(r:LI0)(seen:List Nat)(s:bV aH):Prop:=
 seen.Nodup/\(∀j∈seen,j<now.length)/\∃next,NI J (a+1) next/\(∀ψ,dJ (yG J ψ r) next=eu (fun j=>(nowAt now j).2*yG J ψ (c::r) (nowAt now j).1) seen)/\gY X0 (T.eY 136 (dZ bIB)) s=sH J f t now next c a seen
structure zf(J:Jb)(a:Nat)(now:List (S3×Int)):Prop where
 i:NI J a now
 s:∀ψ,dJ (yG J ψ (J.o.drop a)) now=yG J ψ J.o (fB J.D)
include hJ
theorem ahF:(AB J J.o:Int)<=2000:=by have h1:=(LG hJ (jr.o2 hJ).2.2).2;have hw:=HY hJ.bQ.sz hJ.ord;have hm:=hJ.bQ.many;omega
theorem Ou(h:zf J a now):dJ (fun _=>(AB J (J.o.drop a):Int)) now<=2000:=by have:=h.s fun _=>1;rw[Ze,FD]at this;have:=ahF hJ;omega
theorem Zg(a:Nat):1<=AB J (J.o.drop a):=(LG hJ fun c hc=>(jr.o2 hJ).2.2 c (a6a hc)).1
theorem a3n(h:zf J a now):now.length<=2000/\∀e∈now,e.2<=2000:=by
 have h1:=a9t h.i.pos (Zg hJ a) (Ou hJ now h);obtain⟨h2,h3⟩:=Jy h.i.pos;have h4:=Ou hJ now h;rw[BZ]at h4;have h5:=a9K (show(1:Int)<=AB J (J.o.drop a) by have:=Zg hJ a;omega) h2;have h6:∀{m:List (S3×Int)},(∀e∈m,0<e.2)->(m.length:Int)<=dJ (fun _=>1) m:=by
  intro m
  induction m with
  |nil=>intro _;exact a8Z _
  |cons e m ih=>
   intro hp;have:=ih fun e he=>hp e (by simp[he]);have:=hp e (by simp);simp only[dJ,a4C,adh];omega
 have:=h6 h.i.pos;exact⟨by omega,h1⟩
set_option maxRecDepth 20000 in
theorem inLoop(hr:J.o.drop a=c::r)(h:zf J a now):aJ X0 Qp T (iw (n+1)) DN LL 136 (Df Qp 136) 5 (.block 2 (.loop bIB)) (sH J f t now [] c a []) fun e s=>e=.norm/\∃next seen,NI J (a+1) next/\(∀ψ,dJ (yG J ψ r) next=dJ (yG J ψ (c::r)) now)/\s={ sH J f t now next c a seen with env:=jF (T.iL 136 7) ((31,.val (.bool false))::(30,.val (.dM [.bool false]))::a5n J c a) }:=by
 have e0:bIB=.seq (.region 7 (a8e (eU bIB)) false) (.seq (.cond (.tmp 31) .skip (.exit 2)) (.block 3 bX)):=by kernel_rfl
 rw[e0];have hlen:=a3n hJ now h;have hlL:(kS.im now).length=now.length:=kS.qo now;have hql:=(LG hJ (r:=c::r) fun c' hc=>(jr.o2 hJ).2.2 c' (by rw[<-hr]at hc;exact a6a hc)).1;refine Wi hX (n:=now.length) (b:=7) (r:=5) (it:=29) (nx:=30) (mo:=31) (es:=kS.im now) (fun seen s=>InS J f t now a c r seen s) (by kernel_rfl) (a7y (by kernel_rfl)) (a7y (by kernel_rfl)) hlL (by unfold LL;omega)
  ⟨a6p,(fun j hj=>(by cases hj)),[],⟨a6p,(fun e he=>(by cases he)),(fun e he=>(by cases he))⟩,(fun ψ=>rfl),(by kernel_rfl)⟩ (fun seen s hi=>?_)
 obtain⟨jD,aQ,next,h1,h2,h3⟩:=hi;rw[<-e0];refine⟨_,h3,by kernel_rfl,by kernel_rfl,by kernel_rfl,fun ho=>⟨by kernel_rfl,next,seen,h1,fun ψ=>?_,rfl⟩,fun j e hj he=>⟨by kernel_rfl,?_⟩⟩
 .rw[h2,Rh jD aQ ho,Jz]
 .rw[kS.BX,a0A]at he;obtain⟨⟨st,w⟩,tY,rfl⟩:=he;obtain⟨q1,q2,q3⟩:=Zf tY;have EC:(j::seen).Nodup:=a5I.2 ⟨hj,jD⟩;have FX:∀k∈j::seen,k<now.length:=fun k hk=>by
   rcases a1E.1 hk with rfl|hk
   .exact q2
   .exact aQ k hk
  have hb:dJ (fun _=>(AB J r:Int)) next+w*(AB J (c::r):Int)<=2000:=by
   have e1:=h2 fun _=>1;rw[Ze]at e1;have e2:=WU (φ:=fun j=>(nowAt now j).2*yG J (fun _=>1) (c::r) (nowAt now j).1) EC FX fun k hk=>by have:=h.i.pos _ (cO (d:=(⟨⟨0,0,0⟩,0⟩:S3×Int)) hk);rw[FD];exact afM (adC this) (aiA _)
   rw[Jz,eu,q1]at e2;have e3:=Ou hJ now h;rw[hr]at e3;rw[Ze]at e2;have e4:yG J (fun _=>1) (c::r) st=(AB J (c::r):Int):=FD _ _;simp only[e4]at e2;omega
  obtain⟨next',e',s',g1,g2,g3,g4,g5⟩:=amJ (n:=n) hJ (f:=f) t now seen (st:=st) (w:=w) (j:=j) hr (h.i.dp _ q3) (h.i.pos _ q3) h1 tY hb;refine aJ.step (by kernel_rfl) g4 ⟨g3,EC,FX,next',g1,fun ψ=>?_,g5⟩;rw[g2,h2,eu,q1,ahS]
end
open Go Tw Pv bK
abbrev amL(J:Jb)(a:Int)(x:List (Nat×PE aH)):List (Nat×PE aH):=[(1,.val (.lC 4)),(2,.loc 0 0),(4,.val (.map 5)),(21,xL 3 J.o),(22,xi J.o.length),(23,xi a)]++x
abbrev WV(J:Jb)(f:Nat)(t:List (V×Int))(now:List (S3×Int))(a:Int)(x:List (Nat×PE aH)):bV aH:=⟨amL J a x,[J.ps (.fn f [] [])],HN J f t now⟩
abbrev ntE:Nat:=Df Qp 136
abbrev ExE(n:Nat)(c:Code)(s:bV aH)(e:Ex)(s':bV aH):Prop:=dS X0 Qp T (iw (n+1)) LL 136 false ntE 5 c s e s'
abbrev ExD(n:Nat)(c:Code)(s:bV aH)(Q:Ex->bV aH->Prop):Prop:=aJ X0 Qp T (iw (n+1)) DN LL 136 ntE 5 c s Q
section
variable{n:Nat}{J:Jb}(hJ:jr J){f:Nat}(t:List (V×Int)){now:List (S3×Int)}{a:Nat}
include hJ
set_option maxRecDepth 20000 in
theorem ahG(h:zf J a now)(aQ:a<J.o.length):ExD n bLB (WV J f t now a []) fun e s=>e=.norm/\∃LK,zf J (a+1) LK/\lZ 5 [.gc [6]] (gY X0 (T.eY 136 (dZ bLB)) s)=some (WV J f t LK ((a+1:Nat):Int) []):=by
 have hr:J.o.drop a=J.o.getD a 0::J.o.drop (a+1):=by rw[a6y aQ];simp[List.getD,a0Q aQ]
 have RX:J.o.length<=6:=by rw[(jr.o2 hJ).2.1];exact hJ.bQ.len
 have t1:decide ((a:Int)<(J.o.length:Int))=true:=bg aQ;have e0:bLB=.seq (eU bLB) (.seq (.cond (.tmp 24) .skip (.exit 0)) (.seq (.block 1 bB1) (eX (eX (eX bLB))))):=by kernel_rfl
 have e1:bB1=.seq (eU bB1) (.seq (eU (eX bB1)) (.seq (.seq (eU (eU (eX (eX bB1)))) (.block 2 (.loop bIB))) (eX (eX (eX bB1))))):=by kernel_rfl
 have x3:ExE n (eU bLB) (WV J f t now a []) .norm (WV J f t now a [(24,.val (.bool (decide ((a:Int)<(J.o.length:Int)))))]):=Af hX gU (by kernel_rfl) (.r rfl);have hc:Az (WV J f t now a [(24,.val (.bool (decide ((a:Int)<(J.o.length:Int)))))]).env (.tmp 24)=some (.bool true):=by rw[<-t1];kernel_rfl
 have i1:gG (a:Int) J.o.length:=aG aQ;have x4:ExE n (eU bB1) (WV J f t now a [(24,.val (.bool (decide ((a:Int)<(J.o.length:Int)))))]) .norm ⟨[(1,.val (.lC 4)),(2,.loc 0 0),(4,.val (.map 5)),(6,xi (J.o.getD a 0)),(21,xL 3 J.o),(22,xi J.o.length),(23,xi a)],[J.ps (.fn f [] [])],HN J f t now⟩:=Af hX gU (by kernel_rfl) (.o i1 (.r rfl));have x5:ExE n (eU (eX bB1)) ⟨[(1,.val (.lC 4)),(2,.loc 0 0),(4,.val (.map 5)),(6,xi (J.o.getD a 0)),(21,xL 3 J.o),(22,xi J.o.length),(23,xi a)],[J.ps (.fn f [] [])],HN J f t now⟩ .norm ⟨[(1,.val (.lC 4)),(2,.loc 0 0),(4,.val (.map 5)),(6,xi (J.o.getD a 0)),(7,.val (.map 6)),(21,xL 3 J.o),(22,xi J.o.length),(23,xi a)],[J.ps (.fn f [] [])],HN J f t now++[.map []]⟩:=Af hX gU (by kernel_rfl) (.r rfl);have x6:ExE n (eU (eU (eX (eX bB1)))) ⟨[(1,.val (.lC 4)),(2,.loc 0 0),(4,.val (.map 5)),(6,xi (J.o.getD a 0)),(7,.val (.map 6)),(21,xL 3 J.o),(22,xi J.o.length),(23,xi a)],[J.ps (.fn f [] [])],HN J f t now++[.map []]⟩ .norm ⟨a5n J (J.o.getD a 0) a,[J.ps (.fn f [] [])],HN J f t now++[.map (kS.im []),.dB 5 (kS.im now).length []]⟩:=Af hX gU (by kernel_rfl) (.r rfl);rw[kS.qo now]at x6;rw[e0];refine aJ.C9 (by kernel_rfl) x3 (aJ.seq (R:=fun e s=>e=.norm/\s=WV J f t now a [(24,.val (.bool (decide ((a:Int)<(J.o.length:Int)))))]) (aJ.cond (t:=true) hc (aJ.step (by kernel_rfl) (Af hX gU (an:=.n) (by kernel_rfl) (.r rfl)) ⟨rfl,rfl⟩)) (fun s hs=>?_) (fun i s h=>by cases h.1) (fun s h=>by cases h.1));obtain⟨_,rfl⟩:=hs;refine aJ.seq (R:=fun e s=>e=.norm/\∃next seen,zf J (a+1) next/\s=⟨[(1,.val (.lC 4)),(2,.loc 0 0),(4,.val (.map 6)),(21,xL 3 J.o),(22,xi J.o.length),(23,xi a)],[J.ps (.fn f [] [])],HI J f t now next seen⟩) ?_ (fun s hs=>?_) (fun i s h=>by cases h.1) (fun s h=>by cases h.1)
 .refine aJ.block ?_;rw[e1];refine(aJ.C9 (by kernel_rfl) x4 (aJ.C9 (by kernel_rfl) x5 (aJ.seq (R:=fun e s=>e=.norm/\∃next seen,NI J (a+1) next/\(∀ψ,dJ (yG J ψ (J.o.drop (a+1))) next=dJ (yG J ψ (J.o.getD a 0::J.o.drop (a+1))) now)/\s={ sH J f t now next (J.o.getD a 0) a seen with env:=jF (T.iL 136 7) ((31,.val (.bool false))::(30,.val (.dM [.bool false]))::a5n J (J.o.getD a 0) a) }) (Q:=fun e s=>e=.norm/\∃next seen,zf J (a+1) next/\s=⟨[(1,.val (.lC 4)),(2,.loc 0 0),(4,.val (.map 6)),(21,xL 3 J.o),(22,xi J.o.length),(23,xi a)],[J.ps (.fn f [] [])],HI J f t now next seen⟩) (aJ.C9 (by kernel_rfl) x6 (inLoop (n:=n) hJ t now hr h)) (fun s hs=>?_) (fun i s h=>by cases h.1) (fun s h=>by cases h.1)))).mono fun e s h=>?_
  .obtain⟨_,next,seen,g1,g2,rfl⟩:=hs;refine aJ.step (by kernel_rfl) (Af (ps1:=⟨[(1,.val (.lC 4)),(2,.loc 0 0),(4,.val (.map 6)),(21,xL 3 J.o),(22,xi J.o.length),(23,xi a)],[J.ps (.fn f [] [])],HI J f t now next seen⟩) hX gU (an:=.n) (by kernel_rfl) (.r rfl)) ⟨rfl,next,seen,⟨g1,fun ψ=>?_⟩,rfl⟩;rw[g2,<-hr,h.s]
  obtain⟨rfl,h2⟩:=h;exact⟨rfl,h2⟩
 obtain⟨_,next,seen,g1,rfl⟩:=hs;refine aJ.step (by kernel_rfl) (Af (ps1:=⟨[(1,.val (.lC 4)),(2,.loc 0 0),(4,.val (.map 6)),(21,xL 3 J.o),(22,xi J.o.length),(23,xi (i64.wrap ((a:Int)+1)))],[J.ps (.fn f [] [])],HI J f t now next seen⟩) hX gU (an:=.n) (by kernel_rfl) (.r rfl)) ⟨rfl,next,g1,?_⟩;rw[yV (by unfold ah;omega)]
 kernel_rfl
set_option maxRecDepth 20000 in
theorem a9u:ExD n bLB (WV J f t now J.o.length []) fun e s=>e=.exit 0/\s=WV J f t now J.o.length [(24,.val (.bool (decide ((J.o.length:Int)<(J.o.length:Int)))))]:=by
 have t1:decide ((J.o.length:Int)<(J.o.length:Int))=false:=fC _;have e0:bLB=.seq (eU bLB) (.seq (.cond (.tmp 24) .skip (.exit 0)) (.seq (.block 1 bB1) (eX (eX (eX bLB))))):=by kernel_rfl
 have x3:ExE n (eU bLB) (WV J f t now J.o.length []) .norm (WV J f t now J.o.length [(24,.val (.bool (decide ((J.o.length:Int)<(J.o.length:Int)))))]):=Af hX gU (by kernel_rfl) (.r rfl);have hc:Az (WV J f t now J.o.length [(24,.val (.bool (decide ((J.o.length:Int)<(J.o.length:Int)))))]).env (.tmp 24)=some (.bool false):=by rw[<-t1];kernel_rfl
 rw[e0];refine aJ.C9 (by kernel_rfl) x3 (aJ.seq (R:=fun e s=>e=.exit 0/\s=WV J f t now J.o.length [(24,.val (.bool (decide ((J.o.length:Int)<(J.o.length:Int)))))]) (aJ.cond (t:=false) hc (aJ.step (by kernel_rfl) (Af hX gU (an:=.n) (by kernel_rfl) (.r rfl)) ⟨rfl,rfl⟩)) (fun s hs=>by cases hs.1) (fun i s h=>h) (fun s h=>by cases h.1))
set_option maxRecDepth 20000 in
theorem acw(h:zf J 0 now):ExD n (.block 0 (.loop bLB)) (WV J f t now 0 []) fun e s=>e=.norm/\∃LK,zf J J.o.length LK/\s=WV J f t LK J.o.length [(24,.val (.bool (decide ((J.o.length:Int)<(J.o.length:Int)))))]:=by
 have RX:J.o.length<=6:=by rw[(jr.o2 hJ).2.1];exact hJ.bQ.len
 refine aJ.block ?_;refine aJ.loop (fun k s=>∃a LK gs,a+k=J.o.length/\zf J a LK/\lZ 5 gs (gY X0 (T.eY 136 (dZ bLB)) s)=some (WV J f t LK (a:Int) [])) (fun k s hi=>?_) (k:=J.o.length) ⟨0,now,[],by omega,h,by kernel_rfl⟩ (by unfold LL;omega);obtain⟨a,LK,gs,hk,h1,h2⟩:=hi;refine aJ.ghost hX h2 ?_;rcases a4W a J.o.length with aQ|CU
 .refine(ahG (n:=n) hJ t h1 aQ).mono fun e s h3=>?_;obtain⟨rfl,as7,h4,h5⟩:=h3;exact⟨k-1,by omega,a+1,as7,_,by omega,h4,h5⟩
 have:a=J.o.length:=by omega
 subst this;refine(a9u (n:=n) hJ t).mono fun e s h3=>?_;obtain⟨rfl,rfl⟩:=h3;dsimp only;rw[a1e rfl];exact⟨rfl,LK,h1,rfl⟩
end
open Go Tw Pv bK
def Zh(φ:V->Int)(l:List V):Int:=if mF (l.drop 1)=true then φ (l.getD 0 V0)else 0
theorem ahH(φ l w t):dJ φ (yT l w t)=dJ φ t+w*Zh φ l:=by
 unfold yT Zh;cases mF (l.drop 1)
 .rw[a18 (by simp),a18 (by simp)];omega
 rw[a1e rfl,a1e rfl,Ae]
abbrev sH2(J:Jb)(f:Nat)(t:List (V×Int))(now:List (S3×Int))(seen:List Nat):bV aH:=⟨[(1,.val (.lC 4)),(2,.loc 0 0),(94,.val (.iter 6))],[J.ps (.fn f [] [])],SK J f true none t++[.map (kS.im now),.dB 5 now.length seen]⟩
structure a19(t:List (V×Int)):Prop where
 nd:(t.map (·.1)).Nodup
 pos:∀e∈t,0<e.2
theorem a19.y{t}(h:a19 t)(l){w}(hw:0<w):a19 (yT l w t):=by
 unfold yT;split
 .exact⟨Ht h.nd _ _,Qq hw h.pos⟩
 exact h
section
variable{n:Nat}{J:Jb}(hJ:jr J){f:Nat}{now:List (S3×Int)}
def as8(J:Jb)(f:Nat)(now:List (S3×Int))(seen:List Nat)(s:bV aH):Prop:=
 seen.Nodup/\(∀j∈seen,j<now.length)/\∃t,a19 t/\(∀φ,dJ φ t=eu (fun j=>(nowAt now j).2*Zh φ (aV J.D (nowAt now j).1)) seen)/\gY X0 (T.eY 136 (dZ bL2)) s=sH2 J f t now seen
theorem amM(l):0<=Zh (fun _=>1) l/\Zh (fun _=>1) l<=1:=by unfold Zh;split<;>simp
include hJ
theorem ahI(h:zf J J.o.length now){seen:List Nat}(jD:seen.Nodup)(aQ:∀j∈seen,j<now.length){t:List (V×Int)}(ht:a19 t)(hs:∀φ,dJ φ t=eu (fun j=>(nowAt now j).2*Zh φ (aV J.D (nowAt now j).1)) seen):Tal t:=by
 refine⟨ht.nd,ht.pos,fun e he=>?_⟩;have h1:=(Jy ht.pos).2 e he;have hp:∀j,j<now.length->0<(nowAt now j).2:=fun k hk=>h.i.pos _ (cO (d:=(⟨⟨0,0,0⟩,0⟩:S3×Int)) hk);have h2:=WU (φ:=fun j=>(nowAt now j).2*Zh (fun _=>1) (aV J.D (nowAt now j).1)) jD aQ fun k hk=>afM (adC (hp k hk)) (amM _).1;have h3:eu (fun j=>(nowAt now j).2*Zh (fun _=>1) (aV J.D (nowAt now j).1)) (List.range now.length)<=eu (fun j=>(nowAt now j).2*1) (List.range now.length):=by
  have:∀l:List Nat,(∀j∈l,j<now.length)->eu (fun j=>(nowAt now j).2*Zh (fun _=>1) (aV J.D (nowAt now j).1)) l<=eu (fun j=>(nowAt now j).2*1) l:=by
   intro l
   induction l with
   |nil=>intro _;exact a8Z _
   |cons j l ih=>
    intro hl;have:=ih fun k hk=>hl k (by simp[hk]);have:=a9K (amM (aV J.D (nowAt now j).1)).2 (adC (hp j (hl j (by simp))));simp only[eu];omega
  exact this _ fun j hj=>a5m.1 hj
 rw[Jz (φ:=fun _=>1)]at h3;have h4:=Ou hJ now h;rw[List.drop_length]at h4;have h4:dJ (fun _=>1) now<=2000:=h4;rw[<-hs]at h2;omega
set_option maxRecDepth 20000 in
theorem a5o(hO:Ok n qY)(h:zf J J.o.length now)(hD:0<J.D.length):aJ X0 Qp T (iw (n+1)) DN LL 136 ntE 5 (.block 7 (.loop bL2)) (sH2 J f [] now []) fun e s=>e=.norm/\∃t seen,a19 t/\(∀φ,dJ φ t=dJ (fun st=>Zh φ (aV J.D st)) now)/\s={ sH2 J f t now seen with env:=jF (T.iL 136 23) ((96,.val (.bool false))::(95,.val (.dM [.bool false]))::(sH2 J f t now seen).env) }:=by
 have e0:bL2=.seq (.region 23 (a8e (eU bL2)) false) (.seq (.cond (.tmp 96) .skip (.exit 7)) (.block 8 bX2)):=by kernel_rfl
 rw[e0];have hlen:=a3n hJ now h;refine Wi hX (n:=now.length) (b:=6) (r:=5) (it:=94) (nx:=95) (mo:=96) (es:=kS.im now) (fun seen s=>as8 J f now seen s) (by kernel_rfl) (a7y (by kernel_rfl)) (a7y (by kernel_rfl)) (kS.qo now) (by unfold LL;omega)
  ⟨a6p,(fun j hj=>(by cases hj)),[],⟨a6p,(fun e he=>(by cases he))⟩,(fun φ=>rfl),(by kernel_rfl)⟩ (fun seen s hi=>?_)
 obtain⟨jD,aQ,t,h1,h2,h3⟩:=hi;rw[<-e0];refine⟨_,h3,by kernel_rfl,by kernel_rfl,by kernel_rfl,fun ho=>⟨by kernel_rfl,t,seen,h1,fun φ=>?_,rfl⟩,fun j e hj he=>⟨by kernel_rfl,?_⟩⟩
 .rw[h2,Rh jD aQ ho,Jz (φ:=fun st=>Zh φ (aV J.D st))]
 .rw[kS.BX,a0A]at he;obtain⟨⟨st,w⟩,tY,rfl⟩:=he;obtain⟨q1,q2,q3⟩:=Zf tY;have EC:(j::seen).Nodup:=a5I.2 ⟨hj,jD⟩;have FX:∀k∈j::seen,k<now.length:=fun k hk=>by
   rcases a1E.1 hk with rfl|hk
   .exact q2
   .exact aQ k hk
  have ho:=a3m tY;have nP:(aV J.D st).length=J.D.length:=by simp[aV]
  have hw:=h.i.pos _ q3;have hc:=a3i (M:=n) (f:=f) J st hJ.d3 fun k hk=>(Lu hJ (h.i.dp _ q3) hk).2;have hd3:=hJ.d3;have hy:=arY (n:=n) hO J f (ahI hJ h jD aQ h1 h2) (aV J.D st) (w:=w) (by omega) (by unfold ah;omega) ⟨hw,hlen.2 _ q3⟩;refine aJ.step (e:=.norm) (by kernel_rfl) (Af (ps1:=⟨[(1,.val (.lC 4)),(2,.loc 0 0),(94,.val (.iter 6)),(106,xl false)],[J.ps (.fn f [] []),st.ps],SK J f true none (yT (aV J.D st) w t)++[.map (kS.im now),.dB 5 now.length (j::seen)]⟩) hX gU (by kernel_rfl) (.c (.dM [.agg st.ps,.int .i64 w]) [] ho (.fr [] hc (.fr [0,1,2,3,4] hy (.b aiJ (.r rfl)))))) ⟨.inl rfl,EC,FX,yT (aV J.D st) w t,h1.y _ hw,fun φ=>?_,by kernel_rfl⟩;rw[ahH,h2,eu,q1,ahS]
def a9v(J:Jb)(t:List (V×Int)):Prop:=a19 t/\∀φ,dJ φ t=eu (fun q=>Zh φ (J.D.map fun d=>kF d q)) (Jv J)
omit hJ in
theorem a5p(hJ:jr J):zf J 0 [(fB J.D,1)]:=by
 refine⟨⟨by simp,fun e he=>?_,fun e he=>?_⟩,fun ψ=>?_⟩
 .rw[a1D.1 he];show(0:Int)<1;decide
 .rw[a1D.1 he];exact Zb hJ
 simp[dJ]
set_option maxRecDepth 20000 in
theorem amN(hO:Ok n qY)(hD:0<J.D.length):abx X0 Qp (wo Qp T (iw (n+1)) LL) (.fn 136 [.agg (J.ps (.fn f [] []))] []) [.lC 4] (SK J f true none []) fun v H1=>∃(t:List (V×Int)) (G:List (PB aH)),a9v J t/\H1=SK J f true none t++G:=by
 refine a2E (t:=Un Qp 136) hX (by kernel_rfl) ?_;have e0:(Un Qp 136).body=.seq (eU SI) (.seq (eU (eX SI)) (.seq (.seq (eU (eU (eX (eX SI)))) (.block 0 (.loop bLB))) (.seq (eU (eX (eX (eX SI)))) (.block 7 (.loop bL2))))):=by kernel_rfl
 rw[e0];have hs:=a0Y (M:=n) (f:=f) (a:=[]) (cc:=[]) (H:=[]) J hJ.d3;have hf:oz X0 Qp 148 (kS.es []) (kS.tv (fB J.D)):=kS.fresh (x:=fB J.D) (by simp);have x0:ExE n (eU SI) ⟨lT X0 0 [.agg (J.ps (.fn f [] [])),.lC 4],[],SK J f true none []⟩ .norm ⟨[(1,.val (.lC 4)),(2,.loc 0 0)],[J.ps (.fn f [] [])],SK J f true none []⟩:=Af hX gU (an:=.n) (by kernel_rfl) (.r rfl);have x1:ExE n (eU (eX SI)) ⟨[(1,.val (.lC 4)),(2,.loc 0 0)],[J.ps (.fn f [] [])],SK J f true none []⟩ .norm ⟨[(1,.val (.lC 4)),(2,.loc 0 0),(4,.val (.map 5))],[J.ps (.fn f [] [])],HN J f [] [(fB J.D,1)]⟩:=Af hX gU (by kernel_rfl) (.fr [] hs (.q (.bool false) (kS.ck (fB J.D)) (.o hf (.r rfl))));have x2:ExE n (eU (eU (eX (eX SI)))) ⟨[(1,.val (.lC 4)),(2,.loc 0 0),(4,.val (.map 5))],[J.ps (.fn f [] [])],HN J f [] [(fB J.D,1)]⟩ .norm (WV J f [] [(fB J.D,1)] 0 []):=Af hX gU (an:=.n) (by kernel_rfl) (.r rfl);refine aJ.C9 (by kernel_rfl) x0 (aJ.C9 (by kernel_rfl) x1 (aJ.seq (R:=fun e s=>e=.norm/\∃LK,zf J J.o.length LK/\s=WV J f [] LK J.o.length [(24,.val (.bool (decide ((J.o.length:Int)<(J.o.length:Int)))))]) (aJ.C9 (by kernel_rfl) x2 (acw (n:=n) hJ [] (a5p hJ))) (fun s h=>?_) (fun i s h=>by cases h.1) (fun s h=>by cases h.1)));obtain⟨_,now,h1,rfl⟩:=h;have x3:ExE n (eU (eX (eX (eX SI)))) (WV J f [] now J.o.length [(24,.val (.bool (decide ((J.o.length:Int)<(J.o.length:Int)))))]) .norm ⟨[(1,.val (.lC 4)),(2,.loc 0 0),(94,.val (.iter 6))],[J.ps (.fn f [] [])],SK J f true none []++[.map (kS.im now),.dB 5 (kS.im now).length []]⟩:=Af hX gU (an:=.n) (by kernel_rfl) (.r rfl);rw[kS.qo now]at x3;refine aJ.C9 (by kernel_rfl) x3 ((a5o hJ hO h1 hD).mono fun e s h=>?_);obtain⟨rfl,t,seen,g1,g2,rfl⟩:=h;refine⟨.inl rfl,[],by kernel_rfl,t,[.map (kS.im now),.dB 5 now.length seen],⟨g1,fun φ=>?_⟩,rfl⟩;rw[g2];have:=h1.s fun st=>Zh φ (aV J.D st);rw[List.drop_length]at this;rw[<-acn hJ (Zh φ)];exact this
end
open Go Tw Pv bK
def Ri(J:Jb):List (List V):=(Jv J).map fun q=>J.D.map fun d=>kF d q
def iH(J:Jb):List V:=((Ri J).filter fun l=>mF (l.drop 1)).map fun l=>l.getD 0 V0
abbrev WW(e:V×Int):LI0:=TL e.1.tv
def bD(J:Jb):List (V×Int):=zV WW (zD (iH J))
theorem a3o(φ):∀L,eu (Zh φ) L=eu φ ((L.filter fun l=>mF (l.drop 1)).map fun l=>l.getD 0 V0)
 | []=>rfl
 |l::L=>by
  rw[eu,a3o φ L];unfold Zh;cases h:mF (l.drop 1)
  .rw[a18 (by simp),aeE (by rw[h];simp)];omega
  rw[a1e rfl,aeJ (by rw[h]),a4U,eu]
theorem key_inj{l:List (V×Int)}(hn:(l.map (·.1)).Nodup):∀a∈l,∀b∈l,WW a=WW b->a=b:=fun a ha b hb h=>by
 have h1:a.1=b.1:=by have h:[a.1.f,a.1.n]=[b.1.f,b.1.n]:=h;simp only[afq,and_true]at h;obtain⟨⟨a1,a2⟩,_⟩:=a;obtain⟨⟨b1,b2⟩,_⟩:=b;simp only at h;rw[h.1,h.2]
 have h2:=BG hn ha;have h3:=BG hn hb;rw[h1,h3]at h2;exact adA h1 h2.symm
theorem a9w{J t}(h:a9v J t):t.Perm (zD (iH J)):=by obtain⟨f1,f2⟩:=BH (iH J);refine W9 h.1.nd f1 h.1.pos f2 fun φ=>?_;rw[h.2,Uj];unfold iH;rw[<-a3o];unfold Ri;rw[Ap]
theorem a9x{J t}(h:a9v J t):zV WW t=bD J:=Gw (a9w h) (key_inj h.1.nd)
abbrev acy(e:V×Int):TV×TV:=(e.1.tv,.int .i64 e.2)
theorem WX:∀t,xZ (kV.im t)=some (t.map acy)
 | []=>rfl
 |e::t=>by
  have:=WX t;show(match qE (kV.pv e.1),qE (PV.int .i64 e.2:PV aH),xZ (kV.im t)with
   |some k,some v,some r=>some ((k,v)::r)
   |_,_,_=>none)=_
  rw[this];rfl
section
variable{n:Nat}{J:Jb}(hJ:jr J){f:Nat}
include hJ
set_option maxRecDepth 20000 in
theorem Rj(hO:Ok n qY)(hD:0<J.D.length):iW (n+2) (.fn 87 [] []) [.agg (J.ps (.fn f [] []))] [] (.map 0) [.map (kV.im (bD J))]:=by
 refine a8b (X:=X0) (P:=Qp) (T:=T) (L:=LL) (n:=n+1) (f:=87) (first:=[]) (cap:=[]) (H:=[]) (t:=Un Qp 87) (es0:=kV.im (bD J)) (a4E:=(bD J).map acy) hX (by kernel_rfl) (by kernel_rfl) (by kernel_rfl) rfl (WX _) ?_;have e0:(Un Qp 87).body=.seq (eU Zd) (.seq (eU (eX Zd)) (.seq (.seq (eU (eU (eX (eX Zd)))) (.block 0 (.rangeFunc (.tmp 8) #[9,10] (xY Qp 87) (BF Qp 87)))) (.seq (eU (eX (eX (eX Zd)))) .ret))):=by kernel_rfl
 rw[e0];have x0:dS X0 Qp T (iw (n+1)) LL 87 false (Df Qp 87) 0 (eU Zd) ⟨lT X0 0 [.agg (J.ps (.fn f [] []))],[],[]⟩ .norm ⟨[(1,.val (.ptr 0 0 5)),(2,.val (.nil .map))],[],[.cells (J.ps (.fn f [] []))]⟩:=Af hX gU (an:=.n) (by kernel_rfl) (.r rfl);have x1:dS X0 Qp T (iw (n+1)) LL 87 false (Df Qp 87) 0 (eU (eX Zd)) ⟨[(1,.val (.ptr 0 0 5)),(2,.val (.nil .map))],[],[.cells (J.ps (.fn f [] []))]⟩ .norm ⟨[(1,.val (.ptr 0 0 5)),(2,.val (.nil .map)),(3,.val (.ptr 2 0 1))],[],HQc J f []⟩:=Af hX gU (an:=.n) (by kernel_rfl) (.r rfl);have x2:dS X0 Qp T (iw (n+1)) LL 87 false (Df Qp 87) 0 (eU (eU (eX (eX Zd)))) ⟨[(1,.val (.ptr 0 0 5)),(2,.val (.nil .map)),(3,.val (.ptr 2 0 1))],[],HQc J f []⟩ .norm ⟨a9q J f,[],HQc J f []⟩:=Af hX gU (an:=.n) (by kernel_rfl) (.r rfl);refine aJ.C9 (by kernel_rfl) x0 (aJ.C9 (by kernel_rfl) x1 (aJ.seq (R:=fun e s=>e=.norm/\∃(t:List (V×Int)) (G:List (PB aH)),a9v J t/\s=⟨a9q J f,[],SK J f false (some .skip) t++G⟩) (aJ.C9 (by kernel_rfl) x2 (aJ.block ?_)) (fun s h=>?_) (fun i s h=>by cases h.1) (fun s h=>by cases h.1)))
 .refine aJ.range (f1:=136) (a1:=[.agg (J.ps (.fn f [] []))]) (b1:=[]) (K:=fun v H1=>∃(t:List (V×Int)) (G:List (PB aH)),a9v J t/\H1=SK J f true none t++G) hX rfl (by kernel_rfl) (by kernel_rfl) (amN hJ hO hD) (fun v H1 hk=>?_);obtain⟨t,G,h1,rfl⟩:=hk;exact⟨true,_,_,_,_,_,_,none,.norm,rfl,rfl,rfl,t,G,h1,rfl⟩
 obtain⟨_,t,G,h1,rfl⟩:=h;have x3:dS X0 Qp T (iw (n+1)) LL 87 false (Df Qp 87) 0 (.seq (eU (eX (eX (eX Zd)))) .ret) ⟨a9q J f,[],SK J f false (some .skip) t++G⟩ .ret ⟨[(2,.val (.map 1))],[],SK J f false (some .skip) t++G⟩:=Af hX gU (an:=.n) (by kernel_rfl) (.r rfl);refine aJ.step (by kernel_rfl) x3 ⟨.inr rfl,[.map 1],by kernel_rfl,1,kV.im t,t.map acy,rfl,rfl,WX t,?_⟩;unfold TN;rw[Ul (g:=acy) (key:=WW) (key2:=fun e=>TL e.1) (fun _=>rfl),a9x h1]
end
open Go Tw Pv bK
abbrev Rk(t:List (V×Int))(j:Nat):V×Int:=t.getD j (V0,0)
theorem WY{t j e}(h:t[j]? = some e):Rk t j=e/\j<t.length/\e∈t:=by obtain⟨h1,h2⟩:=a0x.1 h;exact⟨by simp[Rk,List.getD,h],h1,h2▸a5K h1⟩
theorem ahJ(t):t=(List.range t.length).map fun j=>Rk t j:=
 (pz (d:=((V0,0):V×Int)) (by simp)).2 fun k hk=>by simp[List.getD,hk]
theorem Zi(t):eu (fun j=>(Rk t j).2) (List.range t.length)=dJ (fun _=>1) t:=by
 have h1:dJ (fun _=>1) t=eu (fun e:V×Int=>e.2) t:=by
  induction t with
  |nil=>rfl
  |cons e m ih=>simp only[dJ,eu,ih,adh]
 rw[h1]
 conv=>rhs;rw[ahJ t]
 rw[Ap]
theorem Cb{t}{j:Nat}{v w}(h:t[j]? = some (v,w)):(kV.im t).length=t.length/\(kV.im t)[j]? = some (.agg v.ps,.int .i64 w):=by refine⟨kV.qo t,?_⟩;rw[kV.BX,h];rfl
structure LM(t:List (V×Int)):Prop where
 pos:∀e∈t,0<e.2
 tot:dJ (fun _=>1) t<=2000
theorem LM.len{t}(h:LM t):t.length<=2000:=by
 have h6:∀{m:List (V×Int)},(∀e∈m,0<e.2)->(m.length:Int)<=dJ (fun _=>1) m:=by
  intro m
  induction m with
  |nil=>intro _;exact a8Z _
  |cons e m ih=>
   intro hp;have:=ih fun e he=>hp e (by simp[he]);have:=hp e (by simp);simp only[dJ,a4C,adh];omega
 have:=h6 h.pos;have:=h.tot;omega
abbrev a5q:Code:=(Un Qp 90).body
abbrev lpA:Code:=eU (eU (eX (eU (eX a5q))))
abbrev xA:Code:=eU (eX (eX lpA))
abbrev sA(t:List (V×Int))(z:Int)(js:List Nat):bV aH:=⟨[(2,xi z),(6,.val (.iter 1))],[],[.iP (kV.im t),.dB 0 t.length js]⟩
section
variable{n:Nat}{t:List (V×Int)}
set_option maxRecDepth 20000 in
theorem as9(h:LM t):iW (n+1) (.fn 90 [] []) [.map 0] [.iP (kV.im t)] (.int .i64 (dJ (fun _=>1) t)) [.iP (kV.im t)]:=by
 refine aby (X:=X0) (P:=Qp) (T:=T) (L:=LL) (n:=n) (f:=90) (first:=[]) (cap:=[]) (xs:=[.map 0]) (H:=[.iP (kV.im t)]) (v:=.int .i64 (dJ (fun _=>1) t)) (t:=Un Qp 90) (tv:=.int .i64 (dJ (fun _=>1) t)) hX (by kernel_rfl) (by kernel_rfl) (by kernel_rfl) rfl rfl ?_;have e0:(Un Qp 90).body=.seq (eU a5q) (.seq (.seq (eU (eU (eX a5q))) (.block 0 (.loop lpA))) (.seq (eU (eX (eX a5q))) .ret)):=by kernel_rfl
 have e1:lpA=.seq (.region 2 (a8e (eU lpA)) false) (.seq (.cond (.tmp 8) .skip (.exit 0)) (.block 1 xA)):=by kernel_rfl
 have x0:dS X0 Qp T (iw n) LL 90 false (Df Qp 90) 1 (eU a5q) ⟨lT X0 0 [.map 0],[],[.iP (kV.im t)]⟩ .norm ⟨[(0,.val (.map 0)),(2,xi 0)],[],[.iP (kV.im t)]⟩:=Af hX gU (an:=.n) (by kernel_rfl) (.r rfl);have x1:dS X0 Qp T (iw n) LL 90 false (Df Qp 90) 1 (eU (eU (eX a5q))) ⟨[(0,.val (.map 0)),(2,xi 0)],[],[.iP (kV.im t)]⟩ .norm ⟨[(2,xi 0),(6,.val (.iter 1))],[],[.iP (kV.im t),.dB 0 (kV.im t).length []]⟩:=Af hX gU (an:=.n) (by kernel_rfl) (.r rfl);rw[kV.qo t]at x1;have hlen:=h.len;have hpj:∀j,j<t.length->0<(Rk t j).2:=fun k hk=>h.pos _ (cO (d:=((V0,0):V×Int)) hk);rw[e0];refine aJ.C9 (by kernel_rfl) x0 (aJ.seq (R:=fun e s=>e=.norm/\∃seen,s={ sA t (dJ (fun _=>1) t) seen with env:=jF (T.iL 90 2) ((8,.val (.bool false))::(7,.val (.dM [.bool false]))::(sA t (dJ (fun _=>1) t) seen).env) }) (aJ.C9 (by kernel_rfl) x1 ?_) (fun s hs=>?_) (fun i s h=>by cases h.1) (fun s h=>by cases h.1))
 .rw[e1];refine Wi hX (n:=t.length) (b:=1) (r:=0) (it:=6) (nx:=7) (mo:=8) (es:=kV.im t) (fun seen s=>seen.Nodup/\(∀j∈seen,j<t.length)/\gY X0 (T.eY 90 (dZ lpA)) s=sA t (eu (fun j=>(Rk t j).2) seen) seen) (by kernel_rfl) (a7y (by kernel_rfl)) (a7y (by kernel_rfl)) (kV.qo t) (by unfold LL;omega)
   ⟨a6p,(fun j hj=>(by cases hj)),(by kernel_rfl)⟩ (fun seen s hi=>?_)
  obtain⟨jD,aQ,h3⟩:=hi;rw[<-e1];refine⟨_,h3,by kernel_rfl,by kernel_rfl,by kernel_rfl,fun ho=>⟨by kernel_rfl,seen,?_⟩,fun j e hj he=>⟨by kernel_rfl,?_⟩⟩
  .rw[Rh jD aQ ho,Zi]
  rw[kV.BX,a0A]at he;obtain⟨⟨v,w⟩,tY,rfl⟩:=he;obtain⟨q1,q2,q3⟩:=WY tY;have EC:(j::seen).Nodup:=a5I.2 ⟨hj,jD⟩;have FX:∀k∈j::seen,k<t.length:=fun k hk=>by
   rcases a1E.1 hk with rfl|hk
   .exact q2
   exact aQ k hk
  have hb:=WU (φ:=fun j=>(Rk t j).2) EC FX fun k hk=>adC (hpj k hk);have yu:=WT (φ:=fun j=>(Rk t j).2) (l:=seen) fun k hk=>adC (hpj k (aQ k hk));rw[Zi,eu,q1]at hb;have ht:=h.tot;have hw:=h.pos _ q3;have V7:i64.wrap (eu (fun j=>(Rk t j).2) seen+w)=eu (fun j=>(Rk t j).2) (j::seen):=by rw[fV (by have:(0:Int)<w:=hw;omega) (by have:w+eu (fun j=>(Rk t j).2) seen<=dJ (fun _=>1) t:=hb;omega),eu,q1,ahS]
  refine aJ.step (e:=.norm) (by kernel_rfl) (Af (ps1:=⟨[(2,xi (i64.wrap (eu (fun j=>(Rk t j).2) seen+w))),(6,.val (.iter 1))],[],[.iP (kV.im t),.dB 0 t.length (j::seen)]⟩) hX gU (by kernel_rfl) (.c (.dM [.agg v.ps,.int .i64 w]) [] (Cb tY) (.r rfl))) ⟨.inl rfl,EC,FX,?_⟩;rw[V7]
  kernel_rfl
 obtain⟨_,seen,rfl⟩:=hs;exact aJ.step (by kernel_rfl) (Af (e:=.ret) (ps1:=⟨[(2,xi (dJ (fun _=>1) t))],[],[.iP (kV.im t),.dB 0 t.length seen]⟩) hX gU (an:=.n) (by kernel_rfl) (.r rfl)) ⟨.inr rfl,[.int .i64 (dJ (fun _=>1) t)],by kernel_rfl,rfl⟩
end
open Go Tw Pv bK
abbrev a1a:Code:=(Un Qp 88).body
abbrev lpB:Code:=eU (eU (eX (eU (eX a1a))))
abbrev xB:Code:=eU (eX (eX lpB))
def ED(t:List (V×Int))(js:List Nat):LI0:=(js.reverse.filter fun j=>!decide ((Rk t j).1.f>0)).map fun j=>(Rk t j).1.n
def fOf(t:List (V×Int))(js:List Nat):Bool:=js.any fun j=>decide ((Rk t j).1.f>0)
theorem a5r(t j js):ED t (j::js)=ED t js++(if decide ((Rk t j).1.f>0)=true then []else [(Rk t j).1.n]):=by
 unfold ED;rw[List.reverse_cons,List.filter_append,a4Q];congr 1;cases h:decide ((Rk t j).1.f>0)
 .rw[aeJ (by rw[h];rfl),a18 (by simp)];rfl
 rw[aeE (by rw[h];simp),a1e rfl];rfl
def kL(t:List (V×Int)):LI0:=gu ((t.filter fun e=>!decide (e.1.f>0)).map fun e=>e.1.n)
def uh(t:List (V×Int)):Bool:=t.any fun e=>decide (e.1.f>0)
theorem a1b{l l'}(h:l.Perm l'):gu l=gu l':=by
 unfold gu;have hs:∀l:LI0,(l.mergeSort fun x y=>decide (x<=y)).Pairwise fun a b=>decide (a<=b)=true:=fun l=>
  afY (fun a b c h1 h2=>by simp at *;omega) (fun a b=>by simp;omega) l
 exact List.Perm.eq_of_pairwise (le:=fun a b=>decide (a<=b)=true) (fun a b _ _ h1 h2=>by simp at h1 h2;omega) (hs l) (hs l') ((aer l _).trans (h.trans (aer l' _).symm))
theorem ahL{t js}(hn:js.Nodup)(hl:∀j∈js,j<t.length)(ha:∀j,j<t.length->j∈js):gu (ED t js)=kL t/\fOf t js=uh t:=by
 have hp:(js.reverse).Perm (List.range t.length):=(List.reverse_perm js).trans ((a7x hn afm).2 fun j=>⟨fun h=>a5m.2 (hl j h),fun h=>ha j (a5m.1 h)⟩);constructor
 .refine a1b ?_;unfold ED;have e:((t.filter fun e=>!decide (e.1.f>0)).map fun e=>e.1.n)=((List.range t.length).filter fun j=>!decide ((Rk t j).1.f>0)).map fun j=>(Rk t j).1.n:=by
   conv=>lhs;rw[ahJ t]
   rw[List.filter_map,a6q];rfl
  rw[e];exact(hp.filter _).map _
 unfold fOf uh;rw[a5S,agF,agF];constructor
 .rintro⟨j,hj,h⟩;exact⟨Rk t j,cO (d:=((V0,0):V×Int)) (hl j hj),h⟩
 rintro⟨e,he,h⟩;obtain⟨j,hj,rfl⟩:=a5T.1 he;exact⟨j,ha j hj,by rw[(WY (a0Q hj)).1];exact h⟩
abbrev sBl(t:List (V×Int))(l:LI0)(b:Bool)(js:List Nat):bV aH:=match l with
 | []=>⟨[(2,.val (.nil .aO)),(3,xl b),(6,.val (.iter 1))],[],[.iP (kV.im t),.dB 0 t.length js]⟩
 |x::l=>⟨[(2,.val (.own 2)),(3,xl b),(6,.val (.iter 1))],[],[.iP (kV.im t),.dB 0 t.length js,.list false false 3 (x::l)]⟩
theorem ahM{n}:iW (n+1) (.fn 137 [] []) [.nil .aO] [] (.dM []) []:=by intro A m h tf rH hr hf hx;obtain⟨x,r,rfl,h1,h2⟩:=hx.inv;have:=h2.inv0;subst this;have htf:=hf.Qd;subst htf;have hx:x=.nil .aO:=jZ h1 rfl;subst hx;exact⟨.dM [],h,[],m,rfl,hr,.dM rfl (fun i x y hx=>by simp at hx),.refl,.refl,fun b hb=>by cases hb⟩
section
variable{n:Nat}{t:List (V×Int)}
set_option maxRecDepth 20000 in
theorem acz(h:LM t):aJ X0 Qp T (iw (n+1)) (wo Qp T (iw (n+1)) LL) LL 88 (Df Qp 88) 1 (.block 0 (.loop lpB)) (sBl t [] false []) fun e s=>e=.norm/\∃l seen,gu l=kL t/\s={ sBl t l (uh t) seen with env:=jF (T.iL 88 2) ((8,.val (.bool false))::(7,.val (.dM [.bool false]))::(sBl t l (uh t) seen).env) }:=by
 have e1:lpB=.seq (.region 2 (a8e (eU lpB)) false) (.seq (.cond (.tmp 8) .skip (.exit 0)) (.block 1 xB)):=by kernel_rfl
 have hlen:=h.len;rw[e1];refine Qv hX (n:=t.length) (b:=1) (r:=0) (it:=6) (nx:=7) (mo:=8) (es:=kV.im t) (fun seen s=>seen.Nodup/\(∀j∈seen,j<t.length)/\∃gs,lZ 1 gs (gY X0 (T.eY 88 (dZ lpB)) s)=some (sBl t (ED t seen) (fOf t seen) seen)) (by kernel_rfl) (a7y (by kernel_rfl)) (a7y (by kernel_rfl)) (kV.qo t) (by unfold LL;omega)
  ⟨a6p,(fun j hj=>(by cases hj)),[],(by kernel_rfl)⟩ (fun seen s hi=>?_)
 obtain⟨jD,aQ,gs,h3⟩:=hi;rw[<-e1];refine⟨gs,_,h3,?_,?_,?_,fun ho=>?_,fun j e hj he=>?_⟩
 .cases ED t seen<;>kernel_rfl
 .cases ED t seen<;>kernel_rfl
 .cases ED t seen<;>kernel_rfl
 .obtain⟨a1,a2⟩:=ahL jD aQ ho;refine⟨?_,ED t seen,seen,a1,?_⟩
  .cases ED t seen<;>kernel_rfl
  .rw[a2]
 .rw[kV.BX,a0A]at he;obtain⟨⟨v,w⟩,tY,rfl⟩:=he;obtain⟨q1,q2,q3⟩:=WY tY;have EC:(j::seen).Nodup:=a5I.2 ⟨hj,jD⟩;have FX:∀k∈j::seen,k<t.length:=fun k hk=>by
   rcases a1E.1 hk with rfl|hk
   .exact q2
   .exact aQ k hk
  have hll:(ED t seen).length<=2000:=by
   have h1:(ED t seen).length<=seen.length:=by unfold ED;rw[a4X];exact a5Y (aaq ..) (by simp)
   have h2:seen.length<=t.length:=by have:=(LJ jD aQ).length_eq;have h3:=aaq (fun j=>seen.contains j) (List.range t.length);rw[a6I]at h3;omega
   omega
  have EO:=a5r t j seen;have hf2:fOf t (j::seen)=(decide (v.f>0)||fOf t seen):=by unfold fOf;rw[aeM,q1]
  rw[q1]at EO;generalize fOf t seen=b at hf2;have EO:ED t (j::seen)=ED t seen++(if decide (v.f>0)=true then []else [v.n]):=EO;generalize ED t seen=l at EO hll;cases hv:decide (v.f>0)
  .rw[hv,a18 (by simp)]at EO;rw[hv,agp]at hf2;have Xe:decide (v.f>0)=false:=hv;cases l with
   |nil=>
    have a1:[v.n].length<=ah:=by rw[a4v];unfold ah;omega
    refine⟨by kernel_rfl,aJ.step (e:=.norm) (by kernel_rfl) (Af (ps1:=⟨[(2,.val (.own 3)),(3,xl b),(6,.val (.iter 1))],[v.ps],[.iP (kV.im t),.dB 0 t.length (j::seen),.list true true 3 [v.n],.list true false 3 [v.n]]⟩) hX gU (by kernel_rfl) (.c (.dM [.agg v.ps,.int .i64 w]) [] (Cb tY) (.b Xe (.o a1 (.r rfl))))) ⟨.inl rfl,EC,FX,[.flag 3,.gc [1,3]],?_⟩⟩;rw[EO,hf2]
    kernel_rfl
   |cons x l=>
    have a1:(x::l).length+[v.n].length<=ah:=by rw[a4v];unfold ah;omega
    refine⟨by kernel_rfl,aJ.step (e:=.norm) (by kernel_rfl) (Af (ps1:=⟨[(2,.val (.own 4)),(3,xl b),(6,.val (.iter 1))],[v.ps],[.iP (kV.im t),.dB 0 t.length (j::seen),.gone,.list true true 3 [v.n],.list false false 3 (x::l++[v.n])]⟩) hX gU (by kernel_rfl) (.c (.dM [.agg v.ps,.int .i64 w]) [] (Cb tY) (.b Xe (.o a1 (.r rfl))))) ⟨.inl rfl,EC,FX,[.gc [1,4]],?_⟩⟩;rw[EO,hf2]
    kernel_rfl
  .rw[hv,a1e rfl,a6g]at EO;rw[hv,Bool.true_or]at hf2;have Xe:decide (v.f>0)=true:=hv;cases l with
   |nil=>
    refine⟨by kernel_rfl,aJ.step (e:=.exit 1) (by kernel_rfl) (Af (ps1:=⟨[(2,.val (.nil .aO)),(3,xl true),(6,.val (.iter 1))],[v.ps],[.iP (kV.im t),.dB 0 t.length (j::seen)]⟩) hX gU (by kernel_rfl) (.c (.dM [.agg v.ps,.int .i64 w]) [] (Cb tY) (.b Xe (.r rfl)))) ⟨.inr rfl,EC,FX,[],?_⟩⟩;rw[EO,hf2]
    kernel_rfl
   |cons x l=>
    refine⟨by kernel_rfl,aJ.step (e:=.exit 1) (by kernel_rfl) (Af (ps1:=⟨[(2,.val (.own 2)),(3,xl true),(6,.val (.iter 1))],[v.ps],[.iP (kV.im t),.dB 0 t.length (j::seen),.list false false 3 (x::l)]⟩) hX gU (by kernel_rfl) (.c (.dM [.agg v.ps,.int .i64 w]) [] (Cb tY) (.b Xe (.r rfl)))) ⟨.inr rfl,EC,FX,[],?_⟩⟩;rw[EO,hf2]
    kernel_rfl
theorem FH:∀l:LI0,iZ (FU X0 3 l)=some (l.map fun n=>TV.int .i64 n)
 | []=>rfl
 |a::l=>by
  have:=FH l;show(match rY (PV.int .i64 a:PV aH),iZ (FU X0 3 l)with
   |some a,some b=>some (a::b)
   |_,_=>none)=_
  rw[this];rfl
theorem a5s{nN b}{Hs:List (PB aH)}:a4D X0 Qp nN (.dM [.nil .aO,.bool b]) Hs (fun _=>.dM [.nil .aO,.bool b]) []:=fun A m h h1 w hr hw _=>by
 cases hw with
 |gone hi _ _=>simp[bf]at hi
 |dM a1 a2=>
  obtain⟨x,r,rfl,v0,v1⟩:=Pv.bZ.inv (⟨a1,a2⟩:Pv.bZ X0 Qp _ _ _ _ _);obtain⟨y,r,rfl,v2,v3⟩:=v1.inv;have:=v3.inv0;subst this;have:=jZ v2 (show qE (PV.bool b:PV aH)=some (TV.bool b)from rfl);subst this;have:=jZ v0 (show qE (PV.nil .aO:PV aH)=some (TV.nil .aO)from rfl);subst this;unfold Pn;simp only[CW,CW.Gm,xO,nY,nY.zU,DR,Vq,Nl,a4U,abr,a6g,a1n]
set_option maxRecDepth 20000 in
theorem aeX(h:LM t):(kL t=[]->iW (n+2) (.fn 88 [] []) [.map 0] [.iP (kV.im t)] (.dM [.nil .aO,.bool (uh t)]) [.iP (kV.im t)]) /\(kL t≠[]->iW (n+2) (.fn 88 [] []) [.map 0] [.iP (kV.im t)] (.dM [.own 1,.bool (uh t)]) [.iP (kV.im t),.list false false 3 (kL t)]):=by
 have e0:(Un Qp 88).body=.seq (eU a1a) (.seq (.seq (eU (eU (eX a1a))) (.block 0 (.loop lpB))) (eX (eX a1a))):=by kernel_rfl
 have x0:dS X0 Qp T (iw (n+1)) LL 88 false (Df Qp 88) 1 (eU a1a) ⟨lT X0 0 [.map 0],[],[.iP (kV.im t)]⟩ .norm ⟨[(0,.val (.map 0)),(2,.val (.nil .aO)),(3,xl false)],[],[.iP (kV.im t)]⟩:=Af hX gU (an:=.n) (by kernel_rfl) (.r rfl);have x1:dS X0 Qp T (iw (n+1)) LL 88 false (Df Qp 88) 1 (eU (eU (eX a1a))) ⟨[(0,.val (.map 0)),(2,.val (.nil .aO)),(3,xl false)],[],[.iP (kV.im t)]⟩ .norm ⟨[(2,.val (.nil .aO)),(3,xl false),(6,.val (.iter 1))],[],[.iP (kV.im t),.dB 0 (kV.im t).length []]⟩:=Af hX gU (an:=.n) (by kernel_rfl) (.r rfl);rw[kV.qo t]at x1;have run:∀Q:Ex->bV aH->Prop,(∀l seen,gu l=kL t->aJ X0 Qp T (iw (n+1)) (wo Qp T (iw (n+1)) LL) LL 88 (Df Qp 88) 1 (eX (eX a1a)) { sBl t l (uh t) seen with env:=jF (T.iL 88 2) ((8,.val (.bool false))::(7,.val (.dM [.bool false]))::(sBl t l (uh t) seen).env) } Q) ->
   aJ X0 Qp T (iw (n+1)) (wo Qp T (iw (n+1)) LL) LL 88 (Df Qp 88) 1 (Un Qp 88).body ⟨lT X0 0 [.map 0],[],[.iP (kV.im t)]⟩ Q:=fun Q hQ=>by
  rw[e0];refine aJ.C9 (by kernel_rfl) x0 (aJ.seq (R:=fun e s=>e=.norm/\∃l seen,gu l=kL t/\s={ sBl t l (uh t) seen with env:=jF (T.iL 88 2) ((8,.val (.bool false))::(7,.val (.dM [.bool false]))::(sBl t l (uh t) seen).env) }) (aJ.C9 (by kernel_rfl) x1 (acz (n:=n) h)) (fun s hs=>?_) (fun i s h=>by cases h.1) (fun s h=>by cases h.1));obtain⟨_,l,seen,h1,rfl⟩:=hs;exact hQ l seen h1
 have hlen:∀l:LI0,gu l=kL t->l.length<=2^20:=fun l hl=>by
  have h1:(gu l).length=l.length:=by unfold gu;rw[ab6]
  have h2:(kL t).length<=t.length:=by unfold kL gu;rw[ab6,a4X];exact aaq ..
  have:=h.len;rw[hl]at h1;omega
 have asb:gu []=([]:LI0):=by simp[gu]
 constructor
 .intro hn;have:=Ei (X:=X0) (P:=Qp) (T:=T) (L:=LL) (n:=n+1) (f:=88) (first:=[]) (cap:=[]) (xs:=[.map 0]) (H:=[.iP (kV.im t)]) (N:=[]) (v:=.dM [.nil .aO,.bool (uh t)]) (tv:=fun _=>.dM [.nil .aO,.bool (uh t)]) (tN:=[]) (t:=Un Qp 88) hX (by kernel_rfl) (by kernel_rfl) (by kernel_rfl) rfl (fun A m h hr=>⟨m,by simpa using hr,Pv.bZ.cons (.nil .aO) (.cons (.bool _) .nil) |> fun h=>.dM h.1 h.2,by simpa using Fr.refl,.refl⟩) (run _ fun l seen hl=>?_)
  .exact this
  .rw[hn]at hl;have qW:l=[]:=by
    have h1:(gu l).length=l.length:=by unfold gu;rw[ab6]
    rw[hl]at h1;exact a4u h1.symm
   subst qW;exact aJ.step (by kernel_rfl) (Af (e:=.ret) (ps1:=⟨[(2,.val (.nil .aO)),(3,xl (uh t))],[],[.iP (kV.im t),.dB 0 t.length seen]⟩) hX gU (by kernel_rfl) (.fr [] (ahM (n:=n)) (.r rfl))) ⟨.inr rfl,[.nil .aO,.bool (uh t)],by kernel_rfl,a5s⟩
 .intro hn;have:=Ei (X:=X0) (P:=Qp) (T:=T) (L:=LL) (n:=n+1) (f:=88) (first:=[]) (cap:=[]) (xs:=[.map 0]) (H:=[.iP (kV.im t)]) (N:=[.list false false 3 (kL t)]) (v:=.dM [.own 1,.bool (uh t)]) (tv:=fun n=>.dM [.aO n 0 (kL t).length (kL t).length 1 false,.bool (uh t)]) (tN:=[.cells .last ((kL t).map fun n=>TV.int .i64 n)]) (t:=Un Qp 88) hX (by kernel_rfl) (by kernel_rfl) (by kernel_rfl) rfl (fun A m h hr=>abA hX (H:=[.iP (kV.im t)]) (ty:=3) (l:=kL t) hn (FH _) N9 (by decide) (fun _ _ _=>rfl) rfl hr) (run _ fun l seen hl=>?_)
  .exact this
  .cases l with
   |nil=>rw[asb]at hl;exact absurd hl.symm hn
   |cons x l=>
    have hs:=aek (n:=n) (k:=false) (ex:=false) (x::l) (hlen _ hl);rw[hl]at hs;exact aJ.step (by kernel_rfl) (Af (e:=.ret) (ps1:=⟨[(2,.val (.own 2)),(3,xl (uh t))],[],[.iP (kV.im t),.dB 0 t.length seen,.list false false 3 (kL t)]⟩) hX gU (by kernel_rfl) (.fr [2] hs (.r rfl))) ⟨.inr rfl,[.own 2,.bool (uh t)],by kernel_rfl,a8d hX (i:=2) (ty:=3) (l:=kL t) rfl hn (FH _) N9 rfl⟩
end
open Go Tw Pv bK
abbrev vF:PV aH:=.fn 139 [] [.ptr 1 0 1]
abbrev a9y:Code:=(Un Qp 138).body
abbrev ahN:Code:=(Un Qp 139).body
abbrev lpW:Code:=eU (eU (eX ahN))
abbrev xW:Code:=eU (eX (eX lpW))
abbrev a9z:List (Nat×PE aH):=[(2,.val (.ptr 2 0 1)),(4,.val (.nil .aO)),(6,.val vF)]
abbrev Rl(rd:Bool)(jW:Option Code):PB aH:=.loop rd 138 (Df Qp 138) a9z [7] (xY Qp 138) (BF Qp 138) jW
abbrev H3(t:List (V×Int))(x:PV aH):List (PB aH):=[.iP (kV.im t),.aF [.map 0],.cells [x]]
theorem one_le(w:Int):[w].length<=ah:=by rw[a4v];unfold ah;omega
theorem asc{n}(t w):iW (n+1) (.lC 4) [.int .i64 w] (H3 t (.nil .aO)++[.mark,Rl true none]) (.bool true) (H3 t (.own 6)++[.mark,Rl true none,.list true true 3 [w],.list true false 3 [w]]):=by have q1:dS X0 Qp T (iw n) LL 138 true (Df Qp 138) 5 (xY Qp 138) ⟨vw a9z [7] [.int .i64 w],[],H3 t (.nil .aO)++[.mark,Rl true none]⟩ .norm ⟨[(2,.val (.ptr 2 0 1)),(5,xi w)],[],H3 t (.nil .aO)++[.mark,Rl true none]⟩:=yX hX gU (by kernel_rfl) .xx;have q2:dS X0 Qp T (iw n) LL 138 true (Df Qp 138) 5 (BF Qp 138) ⟨[(2,.val (.ptr 2 0 1)),(5,xi w)],[],H3 t (.nil .aO)++[.mark,Rl false none]⟩ .norm ⟨[],[],H3 t (.own 6)++[.mark,Rl false none,.list true true 3 [w],.list true false 3 [w]]⟩:=yX hX gU (by kernel_rfl) (.o (one_le w) .xx);exact J9 hX (l:=4) rfl rfl (by kernel_rfl) q1 rfl q2 rfl
theorem ase{n}(t)(l:LI0)(w)(hl:l.length+[w].length<=ah):iW (n+1) (.lC 4) [.int .i64 w] (H3 t (.own 5)++[.mark,Rl true none,.list false false 3 l]) (.bool true) (H3 t (.own 7)++[.mark,Rl true none,.gone,.list true true 3 [w],.list false false 3 (l++[w])]):=by have q1:dS X0 Qp T (iw n) LL 138 true (Df Qp 138) 6 (xY Qp 138) ⟨vw a9z [7] [.int .i64 w],[],H3 t (.own 5)++[.mark,Rl true none,.list false false 3 l]⟩ .norm ⟨[(2,.val (.ptr 2 0 1)),(5,xi w)],[],H3 t (.own 5)++[.mark,Rl true none,.list false false 3 l]⟩:=yX hX gU (by kernel_rfl) .xx;have q2:dS X0 Qp T (iw n) LL 138 true (Df Qp 138) 6 (BF Qp 138) ⟨[(2,.val (.ptr 2 0 1)),(5,xi w)],[],H3 t (.own 5)++[.mark,Rl false none,.list false false 3 l]⟩ .norm ⟨[],[],H3 t (.own 7)++[.mark,Rl false none,.gone,.list true true 3 [w],.list false false 3 (l++[w])]⟩:=yX hX gU (by kernel_rfl) (.o hl .xx);exact J9 hX (l:=4) rfl rfl (by kernel_rfl) q1 rfl q2 rfl
def FY(t:List (V×Int))(js:List Nat):LI0:=js.reverse.map fun j=>(Rk t j).2
theorem a5t(t j js):FY t (j::js)=FY t js++[(Rk t j).2]:=by simp[FY]
abbrev sWl(t:List (V×Int))(l:LI0)(js:List Nat):bV aH:=match l with
 | []=>⟨[(0,.val (.lC 4)),(6,.val (.iter 5))],[],H3 t (.nil .aO)++[.mark,Rl true none,.dB 0 t.length js]⟩
 |x::l=>⟨[(0,.val (.lC 4)),(6,.val (.iter 5))],[],H3 t (.own 6)++[.mark,Rl true none,.dB 0 t.length js,.list false false 3 (x::l)]⟩
section
variable{n:Nat}{t:List (V×Int)}
set_option maxRecDepth 20000 in
theorem acA(h:LM t):aJ X0 Qp T (iw (n+1)) DN LL 139 (Df Qp 139) 5 (.block 0 (.loop lpW)) (sWl t [] []) fun e s=>e=.norm/\∃l seen,l.Perm (t.map (·.2))/\s={ sWl t l seen with env:=jF (T.iL 139 1) ((8,.val (.bool false))::(7,.val (.dM [.bool false]))::(sWl t l seen).env) }:=by
 have e1:lpW=.seq (.region 1 (a8e (eU lpW)) false) (.seq (.cond (.tmp 8) .skip (.exit 0)) (.block 1 xW)):=by kernel_rfl
 have hlen:=h.len;rw[e1];refine Qv hX (n:=t.length) (b:=5) (r:=0) (it:=6) (nx:=7) (mo:=8) (es:=kV.im t) (fun seen s=>seen.Nodup/\(∀j∈seen,j<t.length)/\∃gs,lZ 5 gs (gY X0 (T.eY 139 (dZ lpW)) s)=some (sWl t (FY t seen) seen)) (by kernel_rfl) (a7y (by kernel_rfl)) (a7y (by kernel_rfl)) (kV.qo t) (by unfold LL;omega)
  ⟨a6p,(fun j hj=>(by cases hj)),[],(by kernel_rfl)⟩ (fun seen s hi=>?_)
 obtain⟨jD,aQ,gs,h3⟩:=hi;rw[<-e1];refine⟨gs,_,h3,?_,?_,?_,fun ho=>?_,fun j e hj he=>?_⟩
 .cases FY t seen<;>kernel_rfl
 .cases FY t seen<;>kernel_rfl
 .cases FY t seen<;>kernel_rfl
 .refine⟨?_,FY t seen,seen,?_,rfl⟩
  .cases FY t seen<;>kernel_rfl
  .have hp:(seen.reverse).Perm (List.range t.length):=(List.reverse_perm seen).trans ((a7x jD afm).2 fun j=>⟨fun h=>a5m.2 (aQ j h),fun h=>ho j (a5m.1 h)⟩);unfold FY
   conv=>rhs;rw[ahJ t]
   rw[a6q];exact hp.map _
 .rw[kV.BX,a0A]at he;obtain⟨⟨v,w⟩,tY,rfl⟩:=he;obtain⟨q1,q2,q3⟩:=WY tY;have EC:(j::seen).Nodup:=a5I.2 ⟨hj,jD⟩;have FX:∀k∈j::seen,k<t.length:=fun k hk=>by
   rcases a1E.1 hk with rfl|hk
   .exact q2
   .exact aQ k hk
  have hll:(FY t seen).length<=2000:=by
   have h2:seen.length<=t.length:=by have:=(LJ jD aQ).length_eq;have h3:=aaq (fun j=>seen.contains j) (List.range t.length);rw[a6I]at h3;omega
   have h1:(FY t seen).length=seen.length:=(by simp[FY]);omega
  have EO:=a5t t j seen;rw[q1]at EO;have EO:FY t (j::seen)=FY t seen++[w]:=EO;generalize FY t seen=l at EO hll;cases l with
  |nil=>
   refine⟨by kernel_rfl,aJ.step (e:=.norm) (by kernel_rfl) (Af (ps1:=⟨[(0,.val (.lC 4)),(6,.val (.iter 5)),(14,xl false)],[],H3 t (.own 7)++[.mark,Rl true none,.dB 0 t.length (j::seen),.list true true 3 [w],.list true false 3 [w]]⟩) hX gU (by kernel_rfl) (.c (.dM [.agg v.ps,.int .i64 w]) [] (Cb tY) (.fr [0,1,2,3,4] (asc (n:=n) t w) (.b aiJ (.r rfl))))) ⟨.inl rfl,EC,FX,[.flag 7,.gc [5,7]],?_⟩⟩;rw[EO]
   kernel_rfl
  |cons x l=>
   have a1:(x::l).length+[w].length<=ah:=by rw[a4v];unfold ah;omega
   refine⟨by kernel_rfl,aJ.step (e:=.norm) (by kernel_rfl) (Af (ps1:=⟨[(0,.val (.lC 4)),(6,.val (.iter 5)),(14,xl false)],[],H3 t (.own 8)++[.mark,Rl true none,.dB 0 t.length (j::seen),.gone,.list true true 3 [w],.list false false 3 (x::l++[w])]⟩) hX gU (by kernel_rfl) (.c (.dM [.agg v.ps,.int .i64 w]) [] (Cb tY) (.fr [0,1,2,3,4,6] (ase (n:=n) t (x::l) w a1) (.b aiJ (.r rfl))))) ⟨.inl rfl,EC,FX,[.gc [5,8]],?_⟩⟩;rw[EO]
   kernel_rfl
end
open Go Tw Pv bK
def tK(t:List (V×Int)):LI0:=zV (fun n=>[n]) (t.map fun e:V×Int=>e.2)
abbrev SL(n:Int):TV:=.int .i64 n
abbrev NH(n:Int):PV aH:=.int .i64 n
theorem a5u{t}{l:LI0}(h:l.Perm (t.map fun e:V×Int=>e.2)):TP (l.map SL)=(tK t).map SL:=by unfold TP;rw[Ul (g:=SL) (key:=fun n=>[n]) (key2:=TL) (fun _=>rfl),Gw h fun a _ b _ e=>by simpa using e];rfl
theorem LP:∀l:LI0,Vw (l.map NH)=some (l.map SL)
 | []=>rfl
 |a::l=>by
  have:=LP l;show(match qE (NH a),Vw (l.map NH)with
   |some a,some b=>some (a::b)
   |_,_=>none)=_
  rw[this];rfl
section
variable{n:Nat}{t:List (V×Int)}
set_option maxRecDepth 20000 in
theorem amP(h:LM t)(ht:t≠[]):abx X0 Qp (wo Qp T (iw (n+1)) LL) vF [.lC 4] (H3 t (.nil .aO)++[.mark,Rl true none]) fun v H1=>∃(l:LI0) (seen:List Nat),l.Perm (t.map fun e:V×Int=>e.2)/\H1=H3 t (.own 6)++[.mark,Rl true none,.dB 0 t.length seen,.list false false 3 l]:=by
 refine a2E (t:=Un Qp 139) hX (by kernel_rfl) ?_;have e0:(Un Qp 139).body=.seq (eU ahN) (.block 0 (.loop lpW)):=by kernel_rfl
 rw[e0];have x0:dS X0 Qp T (iw (n+1)) LL 139 false (Df Qp 139) 5 (eU ahN) ⟨lT X0 0 [.lC 4,.ptr 1 0 1],[],H3 t (.nil .aO)++[.mark,Rl true none]⟩ .norm ⟨[(0,.val (.lC 4)),(6,.val (.iter 5))],[],H3 t (.nil .aO)++[.mark,Rl true none,.dB 0 (kV.im t).length []]⟩:=Af hX gU (an:=.n) (by kernel_rfl) (.r rfl);rw[kV.qo t]at x0;refine aJ.C9 (by kernel_rfl) x0 ((acA (n:=n) h).mono fun e s h1=>?_);obtain⟨rfl,l,seen,h2,rfl⟩:=h1;cases l with
 |nil=>
  have:=h2.length_eq;rw[a4X]at this;exact absurd (a4u this.symm) ht
 |cons x l=>exact⟨.inl rfl,[],by kernel_rfl,x::l,seen,h2,rfl⟩
set_option maxRecDepth 20000 in
theorem acB(h:LM t)(ht:t≠[]):iW (n+2) (.fn 138 [] []) [.nil .aO,vF] [.iP (kV.im t),.aF [.map 0]] (.aO 2 0 t.length t.length 1 false) [.iP (kV.im t),.aF [.map 0],.nN ((tK t).map NH)]:=by
 have e0:(Un Qp 138).body=.seq (eU a9y) (.seq (.seq (eU (eU (eX a9y))) (.block 0 (.rangeFunc (.tmp 6) #[7] (xY Qp 138) (BF Qp 138)))) (eX (eX a9y))):=by kernel_rfl
 have x0:dS X0 Qp T (iw (n+1)) LL 138 false (Df Qp 138) 2 (eU a9y) ⟨lT X0 0 [.nil .aO,vF],[],[.iP (kV.im t),.aF [.map 0]]⟩ .norm ⟨[(1,.val vF),(2,.val (.ptr 2 0 1)),(4,.val (.nil .aO))],[],H3 t (.nil .aO)⟩:=Af hX gU (an:=.n) (by kernel_rfl) (.r rfl);have x1:dS X0 Qp T (iw (n+1)) LL 138 false (Df Qp 138) 2 (eU (eU (eX a9y))) ⟨[(1,.val vF),(2,.val (.ptr 2 0 1)),(4,.val (.nil .aO))],[],H3 t (.nil .aO)⟩ .norm ⟨a9z,[],H3 t (.nil .aO)⟩:=Af hX gU (an:=.n) (by kernel_rfl) (.r rfl);have:=Ei (X:=X0) (P:=Qp) (T:=T) (L:=LL) (n:=n+1) (f:=138) (first:=[]) (cap:=[]) (xs:=[.nil .aO,vF]) (H:=[.iP (kV.im t),.aF [.map 0]]) (N:=[.nN ((tK t).map NH)]) (v:=.aO 2 0 t.length t.length 1 false) (tv:=fun k=>.aO k 0 t.length t.length 1 false) (tN:=[.nN ((tK t).map SL)]) (t:=Un Qp 138) hX (by kernel_rfl) (by kernel_rfl) (by kernel_rfl) rfl (fun A m h hr=>abz (H:=[.iP (kV.im t),.aF [.map 0]]) (n:=t.length) (sz:=1) (LP _) hr) ?_
 .exact this
 rw[e0];refine aJ.C9 (by kernel_rfl) x0 (aJ.seq (R:=fun e s=>e=.norm/\∃(l:LI0) (seen:List Nat),l.Perm (t.map fun e:V×Int=>e.2)/\s=⟨a9z,[],H3 t (.own 6)++[.mark,Rl false (some .skip),.dB 0 t.length seen,.list false false 3 l]⟩) (aJ.C9 (by kernel_rfl) x1 (aJ.block ?_)) (fun s hs=>?_) (fun i s h=>by cases h.1) (fun s h=>by cases h.1))
 .refine aJ.range (f1:=139) (a1:=[]) (b1:=[.ptr 1 0 1]) (K:=fun v H1=>∃(l:LI0) (seen:List Nat),l.Perm (t.map fun e:V×Int=>e.2)/\H1=H3 t (.own 6)++[.mark,Rl true none,.dB 0 t.length seen,.list false false 3 l]) hX rfl (by kernel_rfl) (by kernel_rfl) (amP (n:=n) h ht) (fun v H1 hk=>?_);obtain⟨l,seen,h1,rfl⟩:=hk;exact⟨true,_,_,_,_,_,_,none,.norm,rfl,rfl,rfl,l,seen,h1,rfl⟩
 obtain⟨_,l,seen,h1,rfl⟩:=hs;have hl:l≠[]:=fun e=>by subst e;have:=h1.length_eq;rw[a4X]at this;exact absurd (a4u this.symm) ht
 have hlen:t.length=l.length:=by rw[h1.length_eq,a4X]
 refine aJ.step (by kernel_rfl) (Af (e:=.ret) (ps1:=⟨[(4,.val (.own 6))],[],H3 t (.own 6)++[.mark,Rl false (some .skip),.dB 0 t.length seen,.list false false 3 l]⟩) hX gU (an:=.n) (by kernel_rfl) (.r rfl)) ⟨.inr rfl,[.own 6],by kernel_rfl,?_⟩;rw[<-a5u h1,hlen];exact a8c hX (i:=6) (ty:=3) (l:=l) rfl hl (FH _) N9
end
def Ro:LI0->Int
 | []=>0
 |x::l=>l.foldl max x
theorem Zj:∀(l:LI0) (x),(l.foldl max x=x\/l.foldl max x∈l)/\x<=l.foldl max x/\∀y∈l,y<=l.foldl max x
 | [],x=>⟨.inl rfl,a8Z _,fun y hy=>by cases hy⟩
 |a::l,x=>by
  obtain⟨h1,h2,h3⟩:=Zj l (max x a);rw[aeR];have hm:max x a=x\/max x a=a:=by omega
  refine⟨?_,by omega,fun y hy=>?_⟩
  .rcases h1 with h1|h1
   .rcases hm with e|e
    .exact .inl (h1.trans e)
    rw[h1,e];exact .inr (by simp)
   exact .inr (by simp[h1])
  rcases a1E.1 hy with rfl|hy
  .omega
  exact h3 y hy
theorem Zk{l}(h:l≠[]):Ro l∈l/\∀y∈l,y<=Ro l:=by
 cases l with
 |nil=>exact absurd rfl h
 |cons x l=>
  obtain⟨h1,h2,h3⟩:=Zj l x;refine⟨?_,fun y hy=>?_⟩
  .rcases h1 with h1|h1
   .show l.foldl max x∈_;rw[h1];simp
   exact a3I _ h1
  rcases a1E.1 hy with rfl|hy
  .exact h2
  exact h3 y hy
theorem a5v{l l'}(h:l.Perm l')(hl:l≠[]):Ro l=Ro l':=by
 have hl':l'≠[]:=fun e=>by subst e;exact hl h.eq_nil
 obtain⟨a1,a2⟩:=Zk hl;obtain⟨b1,b2⟩:=Zk hl';have:=a2 _ (h.mem_iff.2 b1);have:=b2 _ (h.mem_iff.1 a1);omega
end Go.Proofs.YtmobpoiejckagaaGreat
