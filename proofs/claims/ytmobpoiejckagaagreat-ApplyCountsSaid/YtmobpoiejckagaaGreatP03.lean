/- Part 4 of a proof: At how many places a diagram has a cell, and the first one, are the document's, or the errors are; for all diagrams and cells. -/
import Derived.Shelf.Spec.SlicesInsert
import Derived.Shelf.Spec.SlicesInsertGrow
import Derived.Shelf.Sort.Plain
import Derived.Shelf.Slices.In.SortNone
import Derived.Test.YtmobpoiejckagaaGreatProg
import Derived.KernelRfl
import Derived.Test.YtmobpoiejckagaaGreatP02
set_option linter.constructorNameAsVariable false
set_option linter.unusedVariables false
set_option linter.unusedSimpArgs false
set_option linter.unusedSectionVars false
open Go.IntKind (i64)
noncomputable section
namespace Pv
open Go Tw
section
variable {X:kC} {P:Program} {A B F:Nat->Prop} {m m':List MB} {h h':List HB} {H H':List (PB X.Γ)}
variable {call:aY} {fH:eU X.Γ} {site:Nat->Bool} {ρ:Type} {y:ρ}
def a5x(X:kC)(P:Program)(A:Nat->Prop)(m:List MB)(call:aY)(site:Nat->Bool)(ts:St)(o:Oper)(k:PE X.Γ->aS X.Γ->PI->PT X.Γ->OT ρ)(y:ρ):Prop:=
 ∃pe ps1 pi GK,OpR X P A m call site ts o pe ps1 pi∧(k pe ps1 pi GK).Ends y
theorem wE{ps:aS X.Γ}{ts:St}(hR:uJ X P A m ps ts){o:Oper}{k:PE X.Γ->aS X.Γ->PI->PT X.Γ->OT ρ}{r:Option (TV×St×lG)}{v:PV X.Γ}{H1:List (PB X.Γ)}{pi:PI}{an:PT X.Γ}(hm:VZ X P A m ts r v H1 pi)
  (ho:oN P call site ts o=r.map fun(v,s,i)=>(.val v,s,i)) (hk:(k (.val v) { ps with heap:=H1 } pi an).Ends y):a5x X P A m call site ts o k y:=by
 obtain⟨w,h1,ti,m1,rfl,e1,e2,e3,e4,e5,e6⟩:=hm;exact⟨.val v,_,_,_,⟨.val w,_,ti,m1,ho,rfl,rfl,hR.step e1 e3 e4,e2,e3,e4,e5,e6⟩,hk⟩
theorem iJ{ps:aS X.Γ}{ts:St}(hR:uJ X P A m ps ts){o:Oper}{k:PE X.Γ->aS X.Γ->PI->PT X.Γ->OT ρ}{v:PV X.Γ}{w:TV}{pi:PI}{an:PT X.Γ}(hv:VR X P (AA A m) m ts.heap v w)(ho:oN P call site ts o=some (.val w,ts,bW))(hk:(k (.val v) ps pi an).Ends y):a5x X P A m call site ts o k y:=
 ⟨.val v,_,_,_,uo hR ho (nG hv),hk⟩
theorem adQ{op:BinOp}{a b v:PV X.Γ}{ta tb:TV}{ps:List Prop}{t:TypeId}{x z:Operand}(ha:VR X P A m h a ta)(hb:VR X P A m h b tb)(hd:ady op a b=some (v,ps))(hp:∀p∈ps,p) :
  ∃w,rY P op t x z ta tb=some w∧VR X P A m h v w:=by
 unfold ady at hd;split at hd
 .cases ha with
  |gone hi _ _=>simp[bg]at hi
  |int=>
   cases hb with
   |gone hi _ _=>simp[bg]at hi
   |int=>
    split at hd
    .split at hd
     .rename_i e;subst e;cases hd;exact⟨_,a4Z (hp _ (.head _)),.int _ _⟩
     .cases hd
    .split at hd
     .rename_i e;subst e;cases hd;exact⟨_,a5a (hp _ (.head _)),.int _ _⟩
     .cases hd
    .cases hd;exact⟨_,a4X (hp _ (.head _)),.int _ _⟩
    .cases hd;exact⟨_,a4Y (hp _ (.head _)),.int _ _⟩
    .cases hd
 .cases hd
theorem adR(hX:bK X P)(hO:jo X P call fH){ps:aS X.Γ}{ts:St}(hR:uJ X P A m ps ts){o:Oper}{an:PT X.Γ}{k:PE X.Γ->aS X.Γ->PI->PT X.Γ->OT ρ}(hk:(adB X P fH (aV X P call) site ps o an k).Ends y):a5x X P A m call site ts o k y:=by
 have hE:=hR.env;unfold adB at hk;split at hk
 .-- move
  rename_i x ho;split at hk
  .rename_i v hv;obtain⟨e,h1,h2⟩:=mM hE hv;exact⟨_,_,_,_,uo hR (by simp only[oN,ho,h1,a1z]) h2,hk⟩
  exact hk.elim
 .rename_i x ho;split at hk
  .rename_i v hv;obtain⟨e,h1,h2⟩:=mM hE hv;exact⟨_,_,_,_,uo hR (by simp only[oN,ho,h1,a1z]) h2,hk⟩
  exact hk.elim
 .-- pick
  rename_i c a b ho;split at hk
  .rename_i u hu;obtain⟨tu,h1,h2⟩:=VU hE hu;obtain⟨t,GK,rfl,hk⟩:=YT hk h2;split at hk
   .rename_i v hv;obtain⟨e,g1,g2⟩:=mM hE hv;exact⟨_,_,_,_,uo (hR.Bo h1) (by simp only[oN,ho,h1,g1,a1z]) g2,hk⟩
   exact hk.elim
  exact hk.elim
 .-- alloc
  rename_i e ho;split at hk
  .rename_i z hz;obtain⟨z',g1,g2⟩:=Gv (A:=AA A m) (m:=m) (h:=ts.heap) hz;obtain⟨m1,e1,e2,e3,e4,e5,e6⟩:=Ri hR (site:=site (o.dst.getD 0)) g2;exact⟨_,_,_,_,⟨_,_,bW,m1,by simp only[oN,ho,g1,a1z],e1,e2,e3,e4,e5,e6,.none,fun b hb=>by cases hb⟩,hk⟩
  exact hk.elim
 .-- box
  rename_i t x ho;split at hk
  .rename_i v hv;obtain⟨w,g1,g2⟩:=jd hE hv;split at hk
   .rename_i EH;have hc:=Gt g2;obtain⟨m1,e1,e2,e3,e4,e5,e6⟩:=Ri hR (site:=site (o.dst.getD 0)) hc;exact⟨_,_,_,_,⟨_,_,bW,m1,by simp only[oN,ho,g1,Dv hc,EH,a2D],e1,e2,e3,e4,e5,e6,.none,fun b hb=>by cases hb⟩,hk⟩
   exact hk.elim
  exact hk.elim
 .-- build
  rename_i t qs ho;split at hk
  .rename_i vs ZJ;obtain⟨ws,g1,g2⟩:=YO hE ZJ;split at hk
   .rename_i v hv;obtain⟨w,g3,g4⟩:=a5k g2 hv;exact iJ hR g4 (by simp only[oN,ho,g1,g3,a1z]) hk
   exact hk.elim
  exact hk.elim
 .-- buildSlice
  rename_i t len qs ho;split at hk
  .rename_i vs ZJ;obtain⟨ws,g1,g2⟩:=YO hE ZJ;split at hk
   .split at hk
    .rename_i v H1 hv;refine wE hR (tK hX hR g2 hv) ?_ hk;simp only[oN,ho,g1,ag3];rfl
    exact hk.elim
   split at hk
   .rename_i v H1 hv;refine wE hR (tK hX hR g2 hv) ?_ hk;simp only[oN,ho,g1,ag3];rfl
   exact hk.elim
  exact hk.elim
 .-- load
  rename_i t a ho;split at hk
  .rename_i pa ha;obtain⟨ea,g1,g2⟩:=mM hE ha;split at hk
   .rename_i v i hv;obtain⟨w,ti,g3,g4,g5,g6⟩:=FV hX hR g2 hv;exact⟨.val v,_,_,_,⟨.val w,ts,ti,m,by simp only[oN,ho,g1,g3,a1z],rfl,rfl,hR,g4,.refl,.refl,g5,fun b hb=>by rw[g6]at hb;cases hb⟩,hk⟩
   exact hk.elim
  exact hk.elim
 .-- store
  rename_i t a x ho;split at hk
  .rename_i pa v ha hv;obtain⟨ea,g1,g2⟩:=mM hE ha;obtain⟨w,g3,g4⟩:=jd hE hv;split at hk
   .rename_i s i hs;obtain⟨iE,ti,m1,e1,e2,e3,e4,e5,e6,e7,e8⟩:=yI hX hR g2 g4 hs;exact⟨.undef,_,_,_,⟨.undef,iE,ti,m1,by simp only[oN,ho,g1,g3,e1,a1z],e2,e3,e4,trivial,e5,e6,e7,e8⟩,hk⟩
   exact hk.elim
  exact hk.elim
 .-- nilCheck
  rename_i x ho;have go:∀{pe:PE X.Γ} {ev:EV},Hz ts.env x=some ev->I7 X P (AA A m) m ts.heap pe ev->(match ev with|.loc _ _=>True|.val (.ptr _ _ _)=>True|.val (.fn _ _ _)=>True|_=>False)->(k pe ps xq an).Ends y->a5x X P A m call site ts o k y:=by
   intro pe ev h1 h2 h3 h4;refine⟨_,_,_,_,uo hR ?_ h2,h4⟩;cases ev with
   |loc a b=>simp only[oN,ho,h1]
   |val v=>cases v<;>simp at h3<;>simp only[oN,ho,h1]
   |undef|ent|DY=>simp at h3
  split at hk
  .rename_i a b ha;obtain⟨ea,g1,g2⟩:=mM hE ha;have:=Dw g2;subst this;exact go g1 g2 trivial hk
  .rename_i a b c ha;obtain⟨ea,g1,g2⟩:=mM hE ha;obtain⟨w,rfl,g3⟩:=fK g2;split at hk
   .rename_i cs hb;obtain⟨mb,f1,f2⟩:=hR.heap.at_ a _ hb;cases mb with
    |fP cb=>
     cases g3 with
     |ptr e=>exact go g1 g2 trivial hk
     |gone hi e _=>simp only[bg,a01]at hi;subst hi;rw[f1]at e;cases e
    |_=>exact f2.elim
   .rename_i cs hb;obtain⟨mb,f1,f2⟩:=hR.heap.at_ a _ hb;cases mb with
    |jc cb=>
     cases g3 with
     |ptr e=>rw[f1]at e;cases e
     |gone hi e _=>
      simp only[bg,a01]at hi;subst hi;rw[f1]at e;cases e with
      |r _ e=>simp only[roV,a01]at e;subst e;exact go g1 g2 trivial hk
    |_=>exact f2.elim
   exact hk.elim
  .rename_i a b c ha;obtain⟨ea,g1,g2⟩:=mM hE ha;obtain⟨w,rfl,g3⟩:=fK g2;split at hk
   .rename_i q1 q2 q3 q4 hb;obtain⟨mb,f1,f2⟩:=hR.heap.at_ a _ hb;cases mb with
    |dn cb=>
     cases g3 with
     |row e=>exact go g1 g2 trivial hk
     |gone hi e _=>simp only[bg,a01]at hi;subst hi;rw[f1]at e;cases e
    |_=>exact f2.elim
   exact hk.elim
  .rename_i a b c ha;obtain⟨ea,g1,g2⟩:=mM hE ha;obtain⟨w,rfl,g3⟩:=fK g2;cases g3 with
   |el=>exact go g1 g2 trivial hk
   |gone hi _ _=>simp[bg]at hi
  .rename_i a b c ha;obtain⟨ea,g1,g2⟩:=mM hE ha;obtain⟨w,rfl,g3⟩:=fK g2;cases g3 with
   |fn=>exact go g1 g2 trivial hk
   |gone hi _ _=>simp[bg]at hi
  exact hk.elim
 .-- binOp
  rename_i op t x z w0 ho;split at hk
  rotate_left
  .exact hk.elim
  rename_i a b ha hb;obtain⟨ta,g1,g2⟩:=jd hE ha;obtain⟨tb,g3,g4⟩:=jd hE hb;split at hk
  .split at hk
   .rename_i v ps hd;obtain⟨hp,hk⟩:=uq hk;obtain⟨w,e1,e2⟩:=adQ (P:=P) (t:=t) (x:=x) (z:=z) g2 g4 hd hp;exact iJ hR e2 (by simp only[oN,ho,g1,g3,e1,a1z]) hk
   exact hk.elim
  split at hk
  .rename_i v q hv;obtain⟨w,e1,e2⟩:=a2n (x:=x) (y:=z) hR.heap g2 g4 hv hk.1;exact iJ hR e2 (by simp only[oN,ho,g1,g3,e1,a1z]) hk.2
  split at hk
  .split at hk
   .rename_i w r;split at hk
    .rename_i v ua ub e1 e2 e3;obtain⟨PO,hk⟩:=hk;rw[<-jE g2 e2,<-jE g4 e3]at PO;exact iJ hR (wC e1) (by simp only[oN,ho,g1,g3,PO,a1z]) hk
    exact hk.elim
   exact hk.elim
  split at hk
  .rename_i v hv;obtain⟨w,e1,e2⟩:=Yb g2 g4 hv;exact iJ hR e2 (by simp only[oN,ho,g1,g3,e1,a1z]) hk
  exact hk.elim
 .-- unOp
  rename_i op t x ho;split at hk
  .rename_i a ha;obtain⟨ta,g1,g2⟩:=jd hE ha;split at hk
   .rename_i v hv;obtain⟨w,e1,e2⟩:=iM g2 hv;exact iJ hR e2 (by simp only[oN,ho,g1,e1,a1z]) hk
   exact hk.elim
  exact hk.elim
 .-- convert
  rename_i s d x ho;split at hk
  .rename_i a ha;obtain⟨ta,g1,g2⟩:=jd hE ha;split at hk
   .split at hk
    .rename_i w r;split at hk
     .rename_i v ua e1 e2;obtain⟨PO,hk⟩:=hk;rw[<-jE g2 e2]at PO;exact iJ hR (wC e1) (by simp only[oN,ho,g1,PO,a1z]) hk
     exact hk.elim
    exact hk.elim
   split at hk
   .rename_i v hv;obtain⟨w,e1,e2⟩:=Tt g2 hv;exact iJ hR e2 (by simp only[oN,ho,g1,e1,a1z]) hk
   exact hk.elim
  exact hk.elim
 .-- makeFunc
  rename_i f first cap ho
  split at hk
  .rename_i a b ha hb;obtain⟨ta,g1,g2⟩:=U8 hE ha;obtain⟨tb,g3,g4⟩:=U8 hE hb;exact iJ hR (.fn g2.1 g2.2 g4.1 g4.2) (by simp only[oN,ho,g1,g3]) hk
  exact hk.elim
 .-- makeMap
  rename_i t r ho;have hp:=hR.heap.push (pb:=.map []) (hb:=.map []) (mb:=.fP ts.heap.length) (.inl rfl) ⟨[],by simp,rfl,fun i a b ha=>by simp at ha⟩;have go:oN P call site ts o=some (.val (.map ts.heap.length),{ ts with heap:=ts.heap++[.map []] },bW)->∀{an:PT X.Γ},(k (.val (.map ps.heap.length)) { ps with heap:=ps.heap++[.map []] } xq an).Ends y->a5x X P A m call site ts o k y:=fun h1 an h2=>
   ⟨.val (.map ps.heap.length),_,_,_,⟨_,_,bW,_,h1,rfl,rfl,hR.step hp.1 hp.2.1 hp.2.2,nG (.map (by rw[<-hR.heap.len];simp)),hp.2.1,hp.2.2,.none,fun b hb=>by cases hb⟩,h2⟩
  split at hk
  .rename_i h1;obtain⟨w,g1,g2⟩:=Gw hE h1;have:=qQ g2;subst this;exact go (by simp only[oN,ho,g1]) hk
  .rename_i k0 n0 kt vt h1 hu;obtain⟨w,g1,g2⟩:=Gw hE h1;have:=O6 g2;subst this;exact go (by simp only[oN,ho,g1,hu]) hk
  exact hk.elim
 .-- makeSlice
  rename_i t l c ho;split at hk
  .rename_i vl vc hl hc;obtain⟨tl,g1,g2⟩:=jd hE hl;obtain⟨tc,g3,g4⟩:=jd hE hc;split at hk
   .rename_i v H1 qs hv;obtain⟨hq,hk⟩:=uq hk;refine wE hR (zQ hX hR g2 g4 hv hq) ?_ hk;simp only[oN,ho,g1,g3,ag3];rfl
   exact hk.elim
  exact hk.elim
 .-- slice
  rename_i t x lo hi mx ho;split at hk
  rotate_left
  .exact hk.elim
  rename_i px plo wV pmx hx G8 hhi hmx;obtain⟨ex,g1,g2⟩:=mM hE hx;obtain⟨Q7,g3,g4⟩:=Gw hE G8;obtain⟨Q8,g5,g6⟩:=Gw hE hhi;obtain⟨tmx,g7,g8⟩:=Gw hE hmx;split at hk
  .rename_i n e hu;split at hk
   .split at hk
    .rename_i v hv;refine wE (H1:=ps.heap) hR (Uc hR g2 g4 g6 g8 hv) ?_ hk;simp only[oN,ho,g1,g3,g5,g7,hu,ag3];rfl
    exact hk.elim
   split at hk
   .rename_i v H1 qs hv;obtain⟨hq,hk⟩:=uq hk;refine wE hR (BO hX hR g2 g4 g6 g8 hv hq) ?_ hk;simp only[oN,ho,g1,g3,g5,g7,hu,ag3];rfl
   exact hk.elim
  rename_i adS;have ku:∀{w:TV},ex=.val w->oN P call site ts o=(qH P t w Q7 Q8 tmx).map fun v=>(.val v,ts,bW):=by
   intro w e;subst e;simp only[oN,ho,g1,g3,g5,g7]
  split at hk
  .rename_i b;obtain⟨w,rfl,g9⟩:=fK g2;have:w=.str b:=by
    cases g9 with
    |str=>rfl
    |gone hi _ _=>simp[bg]at hi
   subst this;split at hk
   rotate_left
   .exact hk.elim
   rename_i w r;split at hk
   rotate_left
   .exact hk.elim
   rename_i v tl th e1 e2 e3;split at hk
   rotate_left
   .exact hk.elim
   rename_i ahF;obtain⟨hs,hk⟩:=hk;have h7:tmx=none:=by
    cases pmx with
    |none=>exact qQ g8
    |some _=>simp at ahF
   have h5:Q7=tl:=by
    cases plo with
    |none=>simp at e2;rw[qQ g4,e2]
    |some q=>
     obtain⟨tq,rfl⟩:=Lm g4;simp only[a0D]at e2;obtain⟨q1,q2,rfl⟩:=e2;rw[jE (show VR X P (AA A m) m ts.heap q tq from g4) q2]
   have h6:Q8=th:=by
    cases wV with
    |none=>simp at e3;rw[qQ g6,e3]
    |some q=>
     obtain⟨tq,rfl⟩:=Lm g6;simp only[a0D]at e3;obtain⟨q1,q2,rfl⟩:=e3;rw[jE (show VR X P (AA A m) m ts.heap q tq from g6) q2]
   subst h5;subst h6;subst h7;exact iJ hR (wC e1) (by rw[ku rfl,hs];rfl) hk
  .rename_i px' hns;obtain⟨w,rfl,g9⟩:=fK g2;split at hk
   .rename_i v qs hv;obtain⟨hq,hk⟩:=uq hk;obtain⟨w',e1,e2⟩:=N7 hR g9 g4 g6 g8 hv hq;exact iJ hR e2 (by rw[ku rfl,e1];rfl) hk
   exact hk.elim
  exact hk.elim
 .-- fieldAddr
  rename_i t x f ho;split at hk
  .rename_i pa n ha hn;obtain⟨ea,g1,g2⟩:=mM hE ha;split at hk
   .rename_i v hv;obtain⟨eb,g3,g4⟩:=MW hR g2 hv;exact⟨_,_,_,_,uo hR (by simp only[oN,ho,g1,hn,g3,a1z]) g4,hk⟩
   exact hk.elim
  exact hk.elim
 .-- field
  rename_i t x f ho;split at hk
  .rename_i a ha;obtain⟨ta,g1,g2⟩:=jd hE ha;split at hk
   .rename_i v hv;obtain⟨w,e1,e2⟩:=MX g2 hv;exact iJ hR e2 (by simp only[oN,ho,g1,e1,a1z]) hk
   exact hk.elim
  exact hk.elim
 .-- indexAddr
  rename_i t x i ho;split at hk
  .rename_i pa vi ha hi;obtain⟨ea,g1,g2⟩:=mM hE ha;obtain⟨ti,g3,g4⟩:=jd hE hi;split at hk
   .rename_i v qs hv;obtain⟨hq,hk⟩:=uq hk;obtain⟨eb,g5,g6⟩:=zN hR g2 g4 hv hq;exact⟨_,_,_,_,uo hR (by simp only[oN,ho,g1,g3,g5,a1z]) g6,hk⟩
   exact hk.elim
  exact hk.elim
 .-- index
  rename_i t x i ho;split at hk
  .rename_i a vi ha hi;obtain⟨ta,g1,g2⟩:=jd hE ha;obtain⟨ti,g3,g4⟩:=jd hE hi;split at hk
   .split at hk
    .rename_i w r;split at hk
     .rename_i v ua ui e1 e2 e3;obtain⟨PO,hk⟩:=hk;rw[<-jE g2 e2,<-jE g4 e3]at PO;exact iJ hR (wC e1) (by simp only[oN,ho,g1,g3,PO,a1z]) hk
     exact hk.elim
    exact hk.elim
   split at hk
   .rename_i v hv;obtain⟨w,e1,e2⟩:=MZ g2 g4 hv;exact iJ hR e2 (by simp only[oN,ho,g1,g3,e1,a1z]) hk
   exact hk.elim
  exact hk.elim
 .-- lookup
  rename_i t mm i ok ho;split at hk
  .rename_i vm vi hm hi;obtain⟨tm,g1,g2⟩:=jd hE hm;obtain⟨ti,g3,g4⟩:=jd hE hi;obtain⟨v,pi,GK,w,e1,e2,e3,e4⟩:=a9c hR g2 g4 hk;refine⟨.val v,_,_,_,⟨.val w,ts,_,m,?_,rfl,rfl,hR,e2,.refl,.refl,e4,fun b hb=>by cases hb⟩,e3⟩;simp only[oN,ho,g1,g3,e1,a1z];cases tm<;>rfl
  exact hk.elim
 .-- mapUpdate
  rename_i t mm i x ho;split at hk
  .rename_i vm vi vx hm hi hx;obtain⟨tm,g1,g2⟩:=jd hE hm;obtain⟨ti,g3,g4⟩:=jd hE hi;obtain⟨tx,g5,g6⟩:=jd hE hx;obtain⟨ps1,pi,GK,h1,YZ,e1,e2,e3,e4,e5,e6⟩:=a5t hR g2 g4 g6 hk;exact⟨.undef,_,_,_,⟨.undef,{ ts with heap:=h1 },YZ,m,by simp only[oN,ho,g1,g3,g5,e1,a1z],rfl,rfl,e2,trivial,e3,.refl,e5,e6⟩,e4⟩
  exact hk.elim
 .-- insert
  rename_i t mm i x ho;split at hk
  .rename_i vm vi vx hm hi hx;obtain⟨tm,g1,g2⟩:=jd hE hm;obtain⟨ti,g3,g4⟩:=jd hE hi;obtain⟨tx,g5,g6⟩:=jd hE hx;obtain⟨ps1,pi,GK,h1,YZ,e1,e2,e3,e4,e5,e6⟩:=a5t hR g2 g4 g6 hk;exact⟨.undef,_,_,_,⟨.undef,{ ts with heap:=h1 },YZ,m,by simp only[oN,ho,g1,g3,g5,e1,a1z],rfl,rfl,e2,trivial,e3,.refl,e5,e6⟩,e4⟩
  exact hk.elim
 .-- mapEntry
  rename_i t mm i ho;split at hk
  .rename_i vm vi hm hi;obtain⟨tm,g1,g2⟩:=jd hE hm;obtain⟨ti,g3,g4⟩:=jd hE hi;obtain⟨e,e',ps1,pi,GK,h1,YZ,e1,e0,e2,e3,e4,e5,e6⟩:=a9e hR g2 g4 hk;exact⟨e,_,_,_,⟨e',{ ts with heap:=h1 },YZ,m,by simp only[oN,ho,g1,g3,e1],rfl,rfl,e2,e0,e3,.refl,e5,e6⟩,e4⟩
  exact hk.elim
 .-- entryStore
  rename_i t mm i x ho;split at hk
  .rename_i vm vi vx hm hi hx;obtain⟨tm,g1,g2⟩:=jd hE hm;obtain⟨ti,g3,g4⟩:=mM hE hi;obtain⟨tx,g5,g6⟩:=jd hE hx;obtain⟨ps1,pi,h1,YZ,e1,e2,e3,e4,e5,e6⟩:=a9g hR g2 g4 g6 hk;exact⟨.undef,_,_,_,⟨.undef,{ ts with heap:=h1 },YZ,m,by simp only[oN,ho,g1,g3,g5,e1,a1z],rfl,rfl,e2,trivial,e3,.refl,e5,e6⟩,e4⟩
  exact hk.elim
 .-- extract
  rename_i t i ho;split at hk
  .rename_i vs hv;obtain⟨w,g1,g2⟩:=mM hE hv;obtain⟨w,rfl,g2⟩:=fK g2;split at hk
   .rename_i v hvi;cases g2 with
    |dG h1 h2=>
     obtain⟨x,e1,e2⟩:=bU.get ⟨h1,h2⟩ hvi;exact iJ hR e2 (by simp only[oN,ho,g1,yH,e1,a1z]) hk
    |gone hi _ _=>simp[bg]at hi
   exact hk.elim
  .rename_i r j v hv;obtain⟨w,g1,g2⟩:=mM hE hv;obtain⟨c,y0,rfl,q1,q2⟩:=Lj g2;split at hk
   .exact iJ hR (nD q2) (by simp only[oN,ho,g1,yH,a1z]) hk
   .exact⟨_,_,_,_,uo hR (pe:=.DY r j) (ev:=.DY c j) (by simp only[oN,ho,g1,yH,a1z]) ⟨q1,rfl⟩,hk⟩
   exact hk.elim
  exact hk.elim
 .-- call
  rename_i c ho;split at hk
  rotate_left
  .exact hk.elim
  rename_i az has;obtain⟨tas,g1,g2⟩:=U8 hE has;have xO:∀{b:Builtin},c.callee=.builtin b->∀{r:Option (TV×St×lG)},qI P b c.argTypes o.type ts tas=r->oN P call site ts o=r.map fun(v,s,i)=>(.val v,s,i):=by
   intro b hb r hr;simp only[oN,ho,MC,hb,g1,hr]
  split at hk
  .rename_i hb;split at hk
   .rename_i x;obtain⟨tx,r,rfl,q1,q2⟩:=g2.inv;have:=q2.inv0;subst this;split at hk
    .rename_i v i hv;obtain⟨w,ti,e1,e2,e3,e4⟩:=Yd hR.heap q1 hv;exact⟨.val v,_,_,_,⟨.val w,ts,ti,m,by rw[xO hb (r:=some (w,ts,ti)) (by simp only[qI,e1,a1z])];rfl,rfl,rfl,hR,nG e2,.refl,.refl,e3,fun b hb=>by rw[e4]at hb;cases hb⟩,hk⟩
    exact hk.elim
   exact hk.elim
  .rename_i hb;split at hk
   .rename_i d x;obtain⟨td,r,rfl,q1,q2⟩:=g2.inv;obtain⟨tx,r,rfl,q3,q4⟩:=q2.inv;have:=q4.inv0;subst this;split at hk
    .rename_i v H1 i qs hv;obtain⟨hq,hk⟩:=uq hk;exact wE hR (Ih hX hR q1 q3 hv hq) (xO hb rfl) hk
    exact hk.elim
   exact hk.elim
  .rename_i hb;split at hk
   .rename_i d x;obtain⟨td,r,rfl,q1,q2⟩:=g2.inv;obtain⟨tx,r,rfl,q3,q4⟩:=q2.inv;have:=q4.inv0;subst this;split at hk
    .rename_i v H1 i hv;exact wE hR (TB hX hR q1 q3 hv) (xO hb rfl) hk
    exact hk.elim
   exact hk.elim
  .rename_i hb;split at hk
   .rename_i v hv;obtain⟨w,e1,e2⟩:=yK g2 hv;refine iJ hR e2 ?_ hk;rw[xO hb (r:=some (w,ts,bW)) (by simp only[qI,e1,a1z])];rfl
   exact hk.elim
  .rename_i hb;split at hk
   .rename_i v hv;obtain⟨w,e1,e2⟩:=yK g2 hv;refine iJ hR e2 ?_ hk;rw[xO hb (r:=some (w,ts,bW)) (by simp only[qI,e1,a1z])];rfl
   exact hk.elim
  .rename_i f hb;split at hk
   rotate_left
   .exact hk.elim
   rename_i fv hfv;obtain⟨tf,f1,f2⟩:=jd hE hfv;have ku:∀{w:TV} {h1:List HB} {ws:List Nat},call tf tas ts.heap=some (w,h1,ws)->oN P call site ts o=some (.val w,{ ts with heap:=h1 },⟨true,[],ws.map .h⟩):=by
    intro w h1 ws hc;simp only[oN,ho,MC,hb,g1,f1,hc]
   unfold a5h at hk;split at hk
   .rename_i v H1 r;obtain⟨hs,hk⟩:=hk;obtain⟨w,h1,ws,m1,c1,c2,c3,c4,c5,c6⟩:=hs A m ts.heap tf tas hR.heap f2 g2;refine⟨.val v,_,_,_,⟨.val w,_,_,m1,ku c1,rfl,rfl,hR.step c2 c4 c5,nG c3,c4,c5,⟨fun _=>rfl,fun k hk=>(by cases hk),fun k hk=>?_,fun b hb=>?_,fun b hb=>(by cases hb),fun h=>(by cases h)⟩,fun b hb=>?_⟩,hk⟩
    .simp at hk
    .simp at hb;exact .inr ⟨rfl,c6 b hb⟩
    simp at hb;exact c6 b hb
   .split at hk
    .rename_i Hp jk hp;split at hk
     .rename_i Hs fv1 xs1 hHs adT adU;split at hk
      .rename_i v1 Py hv1 adV;obtain⟨hs,hk⟩:=hk;simp only[a2r,a1T]at jk;obtain⟨w,h1,ws,m1,c1,c2,c3,c4,c5,c6⟩:=IE hX hs.w jk.1 hp hHs adT adU hv1 adV jk.2 A m ts.heap tf tas hR.heap f2 g2;refine⟨.val v1,_,_,_,⟨.val w,_,_,m1,ku c1,rfl,rfl,hR.step c2 c4 c5,nG c3,c4,c5,⟨fun _=>rfl,fun k hk=>(by cases hk),fun k hk=>?_,fun b hb=>?_,fun b hb=>(by cases hb),fun h=>(by cases h)⟩,fun b hb=>?_⟩,hk⟩
       .simp at hk
       .simp at hb;obtain⟨_,k,h8,_,h9⟩:=c6 b hb;exact .inl ⟨k,a1L.2 ⟨k,a4b h8,rfl⟩,h9⟩
       simp at hb;obtain⟨_,k,_,_,mb,h8,h9⟩:=c6 b hb;exact aZ h8 h9
      exact hk.elim
     exact hk.elim
    exact hk.elim
   .split at hk
    .rename_i Hp jk hp;split at hk
     .rename_i Hs fv1 xs1 hHs adT adU;split at hk
      .rename_i v1 Py Hs2 H2 hv1 adV anj;obtain⟨hs,hk⟩:=hk;simp only[a2r,a1T]at jk;have hsl:Hs.length=_:=(sN hHs).1.trans (DC hp).1;obtain⟨w,h1,ws,m1,c1,c2,c3,c4,c5,c6⟩:=IE hX (YV anj (by rw[hsl];exact jk.2) hs.w) jk.1 hp hHs adT adU hv1 adV jk.2 A m ts.heap tf tas hR.heap f2 g2;refine⟨.val v1,_,_,_,⟨.val w,_,_,m1,ku c1,rfl,rfl,hR.step c2 c4 c5,nG c3,c4,c5,⟨fun _=>rfl,fun k hk=>(by cases hk),fun k hk=>?_,fun b hb=>?_,fun b hb=>(by cases hb),fun h=>(by cases h)⟩,fun b hb=>?_⟩,hk⟩
       .simp at hk
       .simp at hb;obtain⟨p,k,h8,h7,h9⟩:=c6 b hb;exact .inl ⟨k,a1L.2 ⟨k,Wq h8 (by simpa using h7.2),rfl⟩,h9⟩
       simp at hb;obtain⟨_,k,_,_,mb,h8,h9⟩:=c6 b hb;exact aZ h8 h9
      exact hk.elim
     exact hk.elim
    exact hk.elim
   split at hk
   .rename_i g first cap _
    cases f2 with
    |gone hi _ _=>simp[bg]at hi
    |fn p1 p2 p3 p4=>
     split at hk
     .rename_i vs ZJ;split at hk
      .rename_i v ext qs ank;split at hk
       .rename_i ext' EJ;obtain⟨hq,hk⟩:=uq hk;obtain⟨w,h1,m1,c1,c2,c3,c4,c5⟩:=GI hX (hO _ _ _ _ _ ank hq) hR.heap ZJ EJ ⟨p1,p2⟩ g2 ⟨p3,p4⟩;refine⟨.val (shift ps.heap.length v),_,_,_,⟨.val w,_,_,m1,ku c1,rfl,rfl,hR.step c2 c4 c5,nG c3,c4,c5,⟨fun _=>rfl,fun k hk=>(by cases hk),fun k hk=>(by simp at hk),fun b hb=>(by simp at hb),fun b hb=>(by cases hb),fun h=>(by cases h)⟩,fun b hb=>(by simp at hb)⟩,hk⟩
       exact hk.elim
      exact hk.elim
     exact hk.elim
   exact hk.elim
  exact hk.elim
 .-- range
  rename_i t x ho;split at hk
  .rename_i r kt et hx hu;obtain⟨tx,g1,g2⟩:=jd hE hx;split at hk
   .rename_i es KP;obtain⟨c,fO,q0,q3,q4,q5⟩:=CB hR.heap KP;have htm:=a0C g2 q0;subst htm;have aQ:r<m.length:=by rcases q0 with q1|⟨q1,_⟩<;>exact(a02.1 q1).1
    have hp:=hR.heap.push (pb:=.cu r es.length []) (hb:=.cu c es.length []) (mb:=.fP ts.heap.length) (.inl rfl) ⟨c,by simp,by rw[a0N aQ];rcases q0 with q1|⟨q1,_⟩<;>rw[q1]<;>rfl,fun c' hc=>by
     rw[a0N aQ]at hc;rcases q0 with q1|⟨q1,_⟩<;>rw[q1]at hc<;>simp at hc<;>exact hc.symm⟩
    have go:oN P call site ts o=some (.val (.iter ts.heap.length),{ ts with heap:=ts.heap++[.cu c es.length []] },wW (.h c)):=by
     simp only[oN,ho,g1,hu,q3,q4]
    exact⟨.val (.iter ps.heap.length),_,_,_,⟨_,_,wW (.h c),_,go,rfl,rfl,hR.step hp.1 hp.2.1 hp.2.2,nG (.iter (by rw[<-hR.heap.len];simp)),hp.2.1,hp.2.2,IR.reads rfl (fun b hb=>by simp[wW]at hb;subst hb;exact⟨Rq q0,(a02.1 q3).1⟩) (by simp[wW]),fun b hb=>by simp[wW]at hb⟩,hk⟩
   exact hk.elim
  exact hk.elim
 .-- entry
  rename_i x ho;split at hk
  rotate_left
  .exact hk.elim
  rename_i b hx;obtain⟨tx,g1,g2⟩:=jd hE hx;split at hk
  rotate_left
  .exact hk.elim
  rename_i r n i seen hb;split at hk
  rotate_left
  .exact hk.elim
  rename_i es KP;split at hk
  .rename_i kk vv _ rest;obtain⟨⟨hn,he⟩,hk⟩:=hk;obtain⟨e,rfl,rfl⟩:∃e:PV X.Γ×PV X.Γ,e.1=kk∧e.2=vv:=⟨(kk,vv),rfl,rfl⟩;have he:es[i]? = some e:=he;obtain⟨mb,q1,q2⟩:=hR.heap.at_ b _ hb;cases mb with
   |fP cb=>
    obtain⟨c,q3,_,q5⟩:=q2;obtain⟨c',fO,z1,z3,z4,z5⟩:=CB hR.heap KP;have:=q5 c' (by rcases z1 with z1|⟨z1,_⟩;exact .inl z1;exact .inr z1);subst this;cases g2 with
    |gone hi e _=>simp only[bg,a01]at hi;subst hi;rw[q1]at e;cases e
    |iter e1=>
     rw[q1]at e1;cases e1;have hl:i<fO.length:=by rw[<-z4];exact(a02.1 he).1
     have he':=a0E hl;have hv:=z5 i _ _ he he';refine⟨.val (.dG [e.1,e.2]),_,_,_,⟨.val (.dG [fO[i].1,fO[i].2]),ts,gU [.h cb,.h c'],m,?_,rfl,rfl,hR,nG (Lr (nD hv.1) (nD hv.2)),.refl,.refl,IR.reads rfl (fun b2 xM=>?_) (by simp[gU]),fun b hb=>by simp[gU]at hb⟩,hk⟩
     .simp only[oN,ho,g1,q3,z3];rw[a0V (by rw[<-z4];exact hn),he'];rfl
     simp[gU]at xM;rcases xM with rfl|rfl
     .exact⟨.inl ⟨b,by simp[gU],iK q1 rfl⟩,(a02.1 q3).1⟩
     refine⟨?_,(a02.1 z3).1⟩;rcases z1 with z1|⟨_,z1⟩
     .exact .inl ⟨r,by simp[gU],iK z1 rfl⟩
     exact .inr z1
   |_=>exact q2.elim
  split at hk
  case isFalse=>exact hk.elim
  rename_i hn;split at hk
  case h_2=>exact hk.elim
  rename_i e he;obtain⟨mb,q1,q2⟩:=hR.heap.at_ b _ hb;cases mb with
  |fP cb=>
   obtain⟨c,q3,_,q5⟩:=q2;obtain⟨c',fO,z1,z3,z4,z5⟩:=CB hR.heap KP;have:=q5 c' (by rcases z1 with z1|⟨z1,_⟩;exact .inl z1;exact .inr z1);subst this;cases g2 with
   |gone hi e _=>simp only[bg,a01]at hi;subst hi;rw[q1]at e;cases e
   |iter e1=>
    rw[q1]at e1;cases e1;have hl:i<fO.length:=by rw[<-z4];exact(a02.1 he).1
    have he':=a0E hl;have hv:=z5 i _ _ he he';refine⟨.val (.dG [e.1,e.2]),_,_,_,⟨.val (.dG [fO[i].1,fO[i].2]),ts,gU [.h cb,.h c'],m,?_,rfl,rfl,hR,nG (Lr (nD hv.1) (nD hv.2)),.refl,.refl,IR.reads rfl (fun b2 xM=>?_) (by simp[gU]),fun b hb=>by simp[gU]at hb⟩,hk⟩
    .simp only[oN,ho,g1,q3,z3];rw[a0V (by rw[<-z4];exact hn),he'];rfl
    simp[gU]at xM;rcases xM with rfl|rfl
    .exact⟨.inl ⟨b,by simp[gU],iK q1 rfl⟩,(a02.1 q3).1⟩
    refine⟨?_,(a02.1 z3).1⟩;rcases z1 with z1|⟨_,z1⟩
    .exact .inl ⟨r,by simp[gU],iK z1 rfl⟩
    exact .inr z1
  |_=>exact q2.elim
 exact hk.elim
end
inductive IRs:List MB->List HB->List PI->List lG->Prop where
 |nil {m h}:IRs m h [] []
 |cons {m h p t m1 h1 ps ts}:(bn m).Nodup->(∀b,b∈bn m->b<h.length)->IR m h p t->Fr m h m1 h1->Up m m1->(p.mv=false->∀(i:Nat),i<m.length->m1[i]? = some .gone->m[i]? = some .gone)->IRs m1 h1 ps ts->IRs m h (p::ps) (t::ts)
theorem a5y{fl b c:Nat}{ws:List Nat}(h:c∈DZ fl b ws):c∈ws∨(c=b∧b<fl):=by
 unfold DZ at h;split at h
 .rename_i hl;split at h
  .exact .inl h
  rcases a2t.1 h with h|h
  .exact .inr ⟨h,hl⟩
  exact .inl h
 exact .inl h
theorem vJ{fl c:Nat}:∀{ks:List Key} {ws:List Nat},c∈jK fl ks ws->c∈ws∨(.h c∈ks∧c<fl)
 | [],ws,h=>.inl h
 |.h b::ks,ws,h=>by
  rcases vJ (ks:=ks) h with h|⟨h1,h2⟩
  .rcases a5y h with h|⟨rfl,h⟩
   .exact .inl h
   exact .inr ⟨a3u,h⟩
  exact .inr ⟨a3w _ h1,h2⟩
 |.l _::ks,ws,h=>by
  rcases vJ (ks:=ks) h with h|⟨h1,h2⟩
  .exact .inl h
  exact .inr ⟨a3w _ h1,h2⟩
theorem Ws{m m1:List MB}(hU:Up m m1)(hg:∀(i:Nat),i<m.length->m1[i]? = some .gone->m[i]? = some .gone){i b:Nat}(h:Gx m i b):Gx m1 i b:=by
 obtain⟨mb,h1,h2⟩:=h;rcases hU i mb h1 with e|e
 .exact⟨mb,e,h2⟩
 have:=hg i (a02.1 h1).1 e;rw[h1]at this;cases this;cases h2
theorem CG{m:List MB}(hn:(bn m).Nodup){i j b:Nat}(h1:Gx m i b)(h2:Gx m j b):i=j:=by
 obtain⟨_,a1,a2⟩:=h1;obtain⟨_,b1,b2⟩:=h2;exact iQ hn a1 b1 a2 b2
theorem a9l{ma mb:List MB}{ha hb:List HB}{pa pb:PI}{ta tb:lG}(na:(bn ma).Nodup)(nb:(bn mb).Nodup)(la:∀b,b∈bn ma->b<ha.length)(hab:Fr ma ha mb hb)(A:IR ma ha pa ta)(B:IR mb hb pb tb)(hc:a0t pa pb=true)
  (PS:(∀i b,Gx ma i b->Gx mb i b)∨pa.hp=false∨pb.hp=false):calm ta tb=true:=by
 simp only[a0t,a2r]at hc;obtain⟨c1,c2⟩:=hc;simp only[YM,a2r,a4f,a8m,a8t]at c1 c2;obtain⟨c1,c1w⟩:=c1;obtain⟨c2,c2w⟩:=c2;simp only[calm,a2r];constructor
 .simp only[MI,a4f,a2r,a8m,agc];intro k hk;cases k with
  |l j=>
   have:=c1 _ (A.wl j hk);simp only[a4O,a3t]at this ⊢;exact⟨⟨.inr rfl,fun h=>this.1.1.2 (B.tl j h)⟩,fun h=>this.1.2 (B.wl j h)⟩
  |h c=>
   rcases PS with a5z|PS|PS
   .-- nothing is given up
    have hca:c∈bn ma:=by
     rcases A.wh c hk with⟨i,_,h2⟩|⟨_,h2⟩
     .exact YP h2
     .exact h2
    obtain⟨i0,hi0⟩:=jT hca;have hi1:=a5z _ _ hi0;have hcb:c∈bn mb:=YP hi1;rcases A.wh c hk with⟨i,h1,h2⟩|⟨h1,h2⟩
    .have hii:=CG na hi0 h2;subst hii;have N9:=c1 _ h1;simp only[a4O,a3t,Key.isH,agy]at N9;refine⟨⟨.inl ?_,?_⟩,?_⟩
     .cases hq:tb.all with
      |false=>rfl
      |true=>rw[B.all hq]at N9;simp at N9
     .simp only[a4O,a3t];intro hq;rcases(B.th c hq).1 with⟨j,g1,g2⟩|g1
      .have:=CG nb hi1 g2;subst this;exact N9.1.1.2 g1
      .exact g1 hcb
     .simp only[a4O,a3t];intro hq;rcases B.wh c hq with⟨j,g1,g2⟩|⟨g1,g2⟩
      .have:=CG nb hi1 g2;subst this;exact N9.1.2 g1
      .rw[g1]at N9;simp at N9
    .rw[h1]at c1w;simp only[afm,false_or]at c1w;obtain⟨⟨⟨w1,w2⟩,w3⟩,w4⟩:=c1w;refine⟨⟨.inl ?_,?_⟩,?_⟩
     .cases hq:tb.all with
      |false=>rfl
      |true=>rw[B.all hq]at w1;cases w1
     .simp only[a4O,a3t];intro hq;rcases(B.th c hq).1 with⟨j,g1,g2⟩|g1
      .have:=w3 _ g1;simp[Key.isH]at this
      .exact g1 hcb
     .simp only[a4O,a3t];intro hq;rcases B.wh c hq with⟨j,g1,g2⟩|⟨g1,g2⟩
      .have:=w4 _ g1;simp[Key.isH]at this
      .rw[g1]at w2;cases w2
   .exact absurd hk ((A.hp PS).2.2 c)
   .obtain⟨g1,g2,g3⟩:=B.hp PS;refine⟨⟨.inl g1,?_⟩,?_⟩<;>simp only[a4O,a3t]
    .exact g2 c
    .exact g3 c
 .simp only[MI,a4f,a2r,a8m,agc];intro k hk;cases k with
  |l j=>
   have:=c2 _ (B.wl j hk);simp only[a4O,a3t]at this ⊢;exact⟨⟨.inr rfl,fun h=>this.1.1.2 (A.tl j h)⟩,fun h=>this.1.2 (A.wl j h)⟩
  |h c=>
   rcases PS with a5z|PS|PS
   .have hcb:c∈bn mb:=by
     rcases B.wh c hk with⟨i,_,h2⟩|⟨_,h2⟩
     .exact YP h2
     .exact h2
    obtain⟨j0,hj0⟩:=jT hcb;have back:c<ha.length->c∈bn ma:=fun aQ=>by
     rcases hab.new c hcb with h1|h1
     .exact h1
     .omega
    have ahI:∀i,Gx ma i c->i=j0:=fun i hi=>CG nb (a5z _ _ hi) hj0;rcases B.wh c hk with⟨j,h1,h2⟩|⟨h1,h2⟩
    .have hii:=CG nb hj0 h2;subst hii;have N9:=c2 _ h1;simp only[a4O,a3t,Key.isH,agy]at N9;refine⟨⟨.inl ?_,?_⟩,?_⟩
     .cases hq:ta.all with
      |false=>rfl
      |true=>rw[A.all hq]at N9;simp at N9
     .simp only[a4O,a3t];intro hq;obtain⟨g0,glt⟩:=A.th c hq;rcases g0 with⟨i,g1,g2⟩|g1
      .have:=ahI i g2;subst this;exact N9.1.1.2 g1
      .exact g1 (back glt)
     .simp only[a4O,a3t];intro hq;rcases A.wh c hq with⟨i,g1,g2⟩|⟨g1,g2⟩
      .have:=ahI i g2;subst this;exact N9.1.2 g1
      .rw[g1]at N9;simp at N9
    .rw[h1]at c2w;simp only[afm,false_or]at c2w;obtain⟨⟨⟨w1,w2⟩,w3⟩,w4⟩:=c2w;refine⟨⟨.inl ?_,?_⟩,?_⟩
     .cases hq:ta.all with
      |false=>rfl
      |true=>rw[A.all hq]at w1;cases w1
     .simp only[a4O,a3t];intro hq;obtain⟨g0,glt⟩:=A.th c hq;rcases g0 with⟨i,g1,g2⟩|g1
      .have:=w3 _ g1;simp[Key.isH]at this
      .exact g1 (back glt)
     .simp only[a4O,a3t];intro hq;rcases A.wh c hq with⟨i,g1,g2⟩|⟨g1,g2⟩
      .have:=w4 _ g1;simp[Key.isH]at this
      .rw[g1]at w2;cases w2
   .obtain⟨g1,g2,g3⟩:=A.hp PS;refine⟨⟨.inl g1,?_⟩,?_⟩<;>simp only[a4O,a3t]
    .exact g2 c
    .exact g3 c
   .exact absurd hk ((B.hp PS).2.2 c)
theorem a5A:∀{ps:List PI} {ts:List lG} {m:List MB} {h:List HB},IRs m h ps ts->∀{j:Nat} {p:PI},ps[j]? = some p->∃t mj hj,ts[j]? = some t∧IR mj hj p t∧(bn mj).Nodup∧(∀b,b∈bn mj->b<hj.length)∧Fr m h mj hj∧((∀(i:Nat) q,i<j->ps[i]? = some q->q.mv=false)->∀i b,Gx m i b->Gx mj i b)
 |_,_,_,_,.nil,j,p,hj=>by simp at hj
 |_,_,m,h,.cons n1 n2 i1 f1 u1 g1 rest,j,p,hj=>by
  cases j with
  |zero=>
   simp only[a2I,a01]at hj;subst hj;exact⟨_,m,h,rfl,i1,n1,n2,.refl,fun _ i b hb=>hb⟩
  |succ j=>
   obtain⟨t,mj,Ei,e1,e2,e3,e4,e5,e6⟩:=a5A rest (j:=j) (by simpa using hj);refine⟨t,mj,Ei,by simpa using e1,e2,e3,e4,f1.trans e5,fun hq i b hb=>e6 (fun i q hl hi=>hq (i+1) q (by omega) (by simpa using hi)) i b ?_⟩;exact Ws u1 (g1 (hq 0 _ (by omega) rfl)) hb
theorem a0G:∀{ps:List PI} {ts:List lG} {m:List MB} {h:List HB},IRs m h ps ts->∀{i j:Nat} {p q:PI},i<j->ps[i]? = some p->ps[j]? = some q->a0t p q=true->((∀(k:Nat) q,i<=k->k<j->ps[k]? = some q->q.mv=false)∨p.hp=false∨q.hp=false)->∃a b,ts[i]? = some a∧ts[j]? = some b∧calm a b=true
 |_,_,_,_,.nil,i,j,p,q,_,hi,_,_,_=>by simp at hi
 |_,_,m,h,.cons n1 n2 i1 f1 u1 g1 rest,i,j,p,q,zS,hi,hj,hc,PS=>by
  cases j with
  |zero=>omega
  |succ j=>
   cases i with
   |zero=>
    simp only[a2I,a01]at hi;subst hi;obtain⟨t,mj,Ei,e1,e2,e3,e4,e5,e6⟩:=a5A rest (j:=j) (by simpa using hj);refine⟨_,t,rfl,by simpa using e1,a9l n1 e3 n2 (f1.trans e5) i1 e2 hc ?_⟩;refine PS.imp_left fun hq i b hb=>e6 (fun i q hl hi=>hq (i+1) q (by omega) (by omega) (by simpa using hi)) i b (Ws u1 (g1 (hq 0 _ (by omega) (by omega) rfl)) hb)
   |succ i=>
    obtain⟨a,b,e1,e2,e3⟩:=a0G rest (i:=i) (j:=j) (by omega) (by simpa using hi) (by simpa using hj) hc (PS.imp_left fun hq k q h1 h2 hi=>hq (k+1) q (by omega) (by omega) (by simpa using hi));exact⟨a,b,by simpa using e1,by simpa using e2,e3⟩
theorem a5B{ps:List PI}{ts:List lG}{m:List MB}{h:List HB}(hI:IRs m h ps ts):∀{prs:List (Nat×Nat)},(∀q∈prs,q.1<q.2)->U4 ps prs=true->AV ts prs=true
 | [],_,_=>rfl
 |(i,j)::r,aQ,hd=>by
  simp only[U4,a2r]at hd;obtain⟨h1,h2⟩:=hd;split at h1
  .rename_i a b ha hb;simp only[a2r,a8t,a8m]at h1;obtain⟨x,y,e1,e2,e3⟩:=a0G hI (aQ _ a3u) ha hb h1.1 (by
    rcases h1.2 with(h3|h3)|h3
    .exact .inr (.inl h3)
    .exact .inr (.inr h3)
    left;intro k q Ve mD hk;cases hq:q.mv with
    |false=>rfl
    |true=>
     refine absurd (agb.2 ⟨q,a4b (i:=k-i) ?_,hq⟩) (by rw[h3];simp);rw[a3O,a0V (by omega),a3M,<-hk];congr 1;omega)
   simp only[AV,e1,e2,e3,acW];exact a5B hI (fun q hq=>aQ q (a3w _ hq)) h2
  cases h1
theorem adW{ops:List Oper}:∀q∈lW ops,q.1<q.2:=by
 intro q hq;unfold lW at hq;have:=(a8e.1 hq).1;unfold nS at this;simp only[adt,a1L,a8e,a3R]at this;obtain⟨j,_,i,⟨hi,_⟩,rfl⟩:=this;exact hi
theorem Rx{ts:List lG}(hw:∀t∈ts,t.ws=[]):∀{prs:List (Nat×Nat)},(∀q∈prs,q.1<ts.length∧q.2<ts.length)->AV ts prs=true
 | [],_=>rfl
 |(i,j)::r,hl=>by
  obtain⟨h1,h2⟩:=hl _ a3u;simp only[AV,a0E h1,a0E h2,a2r];refine⟨?_,Rx hw fun q hq=>hl q (a3w _ hq)⟩;simp[calm,MI,hw _ (a4d h1),hw _ (a4d h2)]
theorem adX{ops:List Oper}:∀q∈lW ops,q.1<ops.length∧q.2<ops.length:=by
 intro q hq;unfold lW at hq;have:=(a8e.1 hq).1;unfold nS at this;simp only[adt,a1L,a8e,a3R]at this;obtain⟨j,hj,i,⟨hi,_⟩,rfl⟩:=this;exact⟨by simp only;omega,hj⟩
section
variable {X:kC} {P:Program} {A W:Nat->Prop} {m m':List MB} {h:List HB}
structure SR(X:kC)(P:Program)(A W:Nat->Prop)(fl:Nat)(m:List MB)(ps:aS X.Γ)(ts:St):Prop where
 st:uJ X P A m ps ts
 own:∀b,b∈bn m->W b∨fl<=b
 ws:∀b,b∈ts.ws->W b
 fl:fl<=ts.heap.length
def Lu(B:Nat)(m m1:List MB):Prop:=∀(i:Nat) mb,i<B->m[i]? = some mb->m1[i]? = some mb∨m1[i]? = some .gone
theorem Up.b{B:Nat}{m m1:List MB}(h:Up m m1):Lu B m m1:=fun i mb _ hi=>h i mb hi
theorem Lu.trans{B:Nat}{m m1 m2:List MB}(a:Lu B m m1)(b:Lu B m1 m2):Lu B m m2:=fun i mb hB hi=>by
 rcases a i mb hB hi with h|h
 .exact b i mb hB h
 .rcases b i _ hB h with h|h<;>exact .inr h
theorem Lu.refl{B:Nat}{m:List MB}:Lu B m m:=fun _ _ _ h=>.inl h
def CJ(X:kC)(P:Program)(B:Nat)(ps ps1:aS X.Γ):Prop:=
 ∀(A W:Nat->Prop) (fl:Nat) (m:List MB) (ts:St),SR X P A W fl m ps ts->∃m1,SR X P A W fl m1 ps1 ts∧Fr m ts.heap m1 ts.heap∧Lu B m m1
theorem CJ.refl{B:Nat}{ps:aS X.Γ}:CJ X P B ps ps:=fun _ _ _ m _ hS=>⟨m,hS,.refl,.refl⟩
theorem CJ.trans{B:Nat}{a b c:aS X.Γ}(h1:CJ X P B a b)(h2:CJ X P B b c):CJ X P B a c:=fun A W fl m ts hS=>by
 obtain⟨m1,g1,g2,g3⟩:=h1 A W fl m ts hS;obtain⟨m2,g4,g5,g6⟩:=h2 A W fl m1 ts g1;exact⟨m2,g4,g2.trans g5,g3.trans g6⟩
theorem a9m{env:List (Nat×PE X.Γ)}{env':List (Nat×EV)}(he:jJ X P A m h env env'):jJ X P A m h (a8V env) env':=by
 induction he with
 |nil=>exact .nil
 |cons h1 _ ih=>
  rename_i k v x r r' _;cases v with
  |val v=>obtain⟨y,rfl,h2⟩:=fK h1;exact .cons (nG (Gs h2)) ih
  |_=>exact .cons h1 ih
theorem a9n{t i:Nat}(hi:m[i]? = some (.dn (.nil .slc))):∀{env:List (Nat×PE X.Γ)} {env':List (Nat×EV)} {r:List (Nat×PE X.Γ)},jJ X P A m h env env'->Iq t i env=some r->jJ X P A m h r env':=by
 intro env env' r he
 induction he generalizing r with
 |nil=>intro h;cases h
 |cons h1 h2 ih=>
  rename_i k v x q q';intro hn;simp only[Iq]at hn;split at hn
  .split at hn
   .cases hn;obtain⟨y,rfl,h3⟩:=fK h1;have:y=.nil .slc:=by
     cases h3 with
     |nil=>rfl
     |gone hi _ _=>simp[bg]at hi
    subst this;exact .cons (nG (.own hi rfl)) h2
   cases hn
  simp only[a0D]at hn;obtain⟨q2,h3,rfl⟩:=hn;exact .cons h1 (ih h3)
theorem a0H{i off:Nat}(hi:m[i]? = some (.dn (.nil .slc))){cs r:List (PV X.Γ)}{xs:List TV}(hv:bU X P A m h cs xs)(hn:a8W off i cs=some r):bU X P A m h r xs:=by
 unfold a8W at hn;split at hn
 .rename_i hc;cases hn;refine⟨by rw[a3W,hv.1],fun j a b ha hb=>?_⟩;by_cases e:off=j
  .subst e;rw[a3N,hc]at ha;cases ha;have:b=.nil .slc:=by
    cases hv.2 _ _ _ hc hb with
    |nil=>rfl
    |gone hi _ _=>simp[bg]at hi
   subst this;exact .own hi rfl
  rw[a1M e]at ha;exact hv.2 j a b ha hb
 cases hn
theorem SR.Ud{fl:Nat}{ps:aS X.Γ}{ts:St}(hS:SR X P A W fl m ps ts)(e:Nat):∃m1,HR X P A m1 (ps.heap++[.list false false e []]) ts.heap∧Fr m ts.heap m1 ts.heap∧Up m m1∧m1[ps.heap.length]? = some (.dn (.nil .slc))∧(∀b,b∈bn m1->b∈bn m):=by
 obtain⟨h1,h2,h3⟩:=hS.st.heap.abl (pb:=.list false false e []) (mb:=.dn (.nil .slc)) rfl LR.nil;refine⟨_,h1,h2,h3,by rw[<-hS.st.heap.len];simp,fun b hb=>?_⟩;rw[iU,a3y,jS]at hb;simpa[MB.own]using hb
theorem a5C(hX:bK X P){H:List (PB X.Γ)}(hr:HR X P A m H h){i:Nat}{v w:PV X.Γ}{x:TV}(hv:VR X P (AA A m) m h v x)(hw:fzV H i v=some w):VR X P (AA A (bQ [i] m)) (bQ [i] m) h w x:=by
 unfold fzV at hw;split at hw
 .cases hw;exact hv.step (gY (h:=h) [i] m).1 (gY (h:=h) [i] m).2
 split at hw
 .rename_i ha;refine(Ua (m':=bQ [i] m) hX hr hv hw (is:=[i]) fun j hj=>?_).mono fun b hb=>FA.gone hr hb;have:=a4f.1 ha j hj;rw[a8p this];exact a2J.2 rfl
 cases hw
theorem a0I(hX:bK X P){H:List (PB X.Γ)}(hr:HR X P A m H h){i:Nat}:∀{v w:List (PV X.Γ)} {x:List TV},bU X P (AA A m) m h v x->a5b H i v=some w->bU X P (AA A (bQ [i] m)) (bQ [i] m) h w x
 | [],w,x,hv,hw=>by
  cases hw;rw[hv.inv0];exact .nil
 |v::vs,w,x,hv,hw=>by
  obtain⟨y,r,rfl,h1,h2⟩:=hv.inv;simp only[a5b]at hw;split at hw
  .rename_i w1 ws e1 e2;cases hw;exact .cons (a5C hX hr h1 e1) (a0I hX hr h2 e2)
  cases hw
theorem adY(hX:bK X P){H:List (PB X.Γ)}(hr:HR X P A m H h){i:Nat}{v:List (Nat×PE X.Γ)}{x:List (Nat×EV)}(hv:jJ X P (AA A m) m h v x):∀{w:List (Nat×PE X.Γ)},fzE H i v=some w->jJ X P (AA A (bQ [i] m)) (bQ [i] m) h w x:=by
 induction hv with
 |nil=>intro w hw;cases hw;exact .nil
 |cons h1 h2 ih=>
  rename_i k v x q q';intro w hw;cases v with
  |val v=>
   simp only[fzE]at hw;split at hw
   .rename_i w1 ws e1 e2;cases hw;obtain⟨y,rfl,h3⟩:=fK h1;exact .cons (nG (a5C hX hr h3 e1)) (ih e2)
   cases hw
  |loc k o=>
   simp only[fzE,a0D]at hw;obtain⟨ws,e2,rfl⟩:=hw;exact .cons (by cases x<;>exact h1) (ih e2)
  |undef=>
   simp only[fzE,a0D]at hw;obtain⟨ws,e2,rfl⟩:=hw;exact .cons (by cases x<;>exact h1) (ih e2)
  |ent|DY=>simp[fzE]at hw
theorem a0J{Γ:Nat->Type}{H:List (PB Γ)}{i:Nat}:∀{l r:List (List (PV Γ))},fzL H i l=some r->r.length=l.length∧∀(k:Nat) ds,r[k]? = some ds->∃cs,l[k]? = some cs∧a5b H i cs=some ds
 | [],r,h=>by cases h;exact⟨rfl,fun k ds hk=>by simp at hk⟩
 |c::l,r,h=>by
  simp only[fzL]at h;split at h
  .rename_i w ws e1 e2;cases h;obtain⟨q1,q2⟩:=a0J e2;refine⟨by simp[q1],fun k ds hk=>?_⟩;cases k with
   |zero=>simp at hk;subst hk;exact⟨c,rfl,e1⟩
   |succ k=>exact q2 k ds (by simpa using hk)
  cases h
theorem a5D(hX:bK X P){B:Nat}{g:G}{ps ps1:aS X.Γ}(hg:Ba B ps g=some ps1):CJ X P B ps ps1:=by
 intro A W fl m ts hS;cases g with
 |lit=>
  simp only[Ba,a01]at hg;subst hg;exact⟨m,⟨⟨hS.st.heap,hS.st.llen,hS.st.loc,a9m hS.st.env⟩,hS.own,hS.ws,hS.fl⟩,.refl,.refl⟩
 |Iq t e=>
  simp only[Ba,a0D]at hg;obtain⟨env,h1,rfl⟩:=hg;obtain⟨m1,e1,e2,e3,e4,e5⟩:=hS.Ud e;exact⟨m1,⟨⟨e1,hS.st.llen,fun k cs hk=>let ⟨cs',q1,q2⟩:=hS.st.loc k cs hk;⟨cs',q1,q2.step e2 e3⟩,a9n e4 (hS.st.env.step e2 e3) h1⟩,fun b hb=>hS.own b (e5 b hb),hS.ws,hS.fl⟩,e2,e3.b⟩
 |a2i k off e=>
  simp only[Ba]at hg;split at hg
  .rename_i cs hk;simp only[a0D]at hg;obtain⟨Rk,h1,rfl⟩:=hg;obtain⟨m1,e1,e2,e3,e4,e5⟩:=hS.Ud e;refine⟨m1,⟨⟨e1,by simp[hS.st.llen],fun j ds hj=>?_,hS.st.env.step e2 e3⟩,fun b hb=>hS.own b (e5 b hb),hS.ws,hS.fl⟩,e2,e3.b⟩;by_cases e0:k=j
   .subst e0;rw[a3N,hk]at hj;cases hj;obtain⟨cs',q1,q2⟩:=hS.st.loc k cs hk;exact⟨cs',q1,a0H e4 (q2.step e2 e3) h1⟩
   rw[a1M e0]at hj;obtain⟨cs',q1,q2⟩:=hS.st.loc j ds hj;exact⟨cs',q1,q2.step e2 e3⟩
  cases hg
 |U2 i off e=>
  simp only[Ba]at hg;split at hg
  rotate_left
  .cases hg
  rename_i cs hi;simp only[a0D]at hg;obtain⟨Rk,h1,rfl⟩:=hg;obtain⟨m1,e1,e2,e3,e4,e5⟩:=hS.Ud e;have aQ:i<ps.heap.length:=(a02.1 hi).1;have xg:HR X P A m1 (ps.heap.set i (.cells Rk)++[.list false false e []]) ts.heap:=by
   refine e1.next .refl .refl (by simp[e1.len]) e1.nodup fun j b hj=>?_;by_cases e0:i=j
   .subst e0;right;rw[a0N (by simpa using aQ),a3N,hi]at hj;cases hj;obtain⟨mb,q1,q2⟩:=e1.at_ i (.cells cs) (by rw[a0N aQ];exact hi);refine⟨mb,q1,?_⟩;cases mb with
    |fP c=>obtain⟨xs,q3,q4⟩:=q2;exact⟨xs,q3,a0H e4 q4 h1⟩
    |_=>exact q2.elim
   left;have:(ps.heap++[PB.list false false e []])[j]? = some b:=by
    rw[<-hj];rcases a3L j ps.heap.length with h9|h9
    .rw[a0N h9,a0N (by simpa using h9),a1M e0]
    rw[a1H h9,a1H (by simpa using h9),a3W]
   obtain⟨mb,q1,_⟩:=e1.at_ j b this;exact⟨mb,this,q1,q1,fun _ _=>rfl⟩
  exact⟨m1,⟨⟨xg,hS.st.llen,fun k cs hk=>let ⟨cs',q1,q2⟩:=hS.st.loc k cs hk;⟨cs',q1,q2.step e2 e3⟩,hS.st.env.step e2 e3⟩,fun b hb=>hS.own b (e5 b hb),hS.ws,hS.fl⟩,e2,e3.b⟩
 |flag i=>
  simp only[Ba]at hg;split at hg
  rotate_left
  .cases hg
  rename_i k ex t l hi;cases hg;have hr:=hS.st.heap;refine⟨m,⟨⟨?_,hS.st.llen,hS.st.loc,hS.st.env⟩,hS.own,hS.ws,hS.fl⟩,.refl,.refl⟩;refine hr.next .refl .refl (by simp[hr.len]) hr.nodup fun j b hj=>?_;by_cases e0:i=j
  .subst e0;right;rw[a3N,hi]at hj;cases hj;obtain⟨mb,q1,q2⟩:=hr.at_ i _ hi;refine⟨mb,q1,?_⟩;cases mb with
   |dn y=>
    cases(q2:LR X P _ _ _ _ _ _ _ y)with
    |nil=>exact LR.nil
    |emp p0 p1 p2 p3 p4=>exact LR.emp p0 p1 p2 p3 p4
    |some p1 p2 p3 p4 p5 p6 p7 p8 p9=>exact LR.some p1 p2 p3 p4 p5 (by simp) (by simp) p8 p9
   |_=>exact q2.elim
  left;rw[a1M e0]at hj;obtain⟨mb,q1,_⟩:=hr.at_ j b hj;exact⟨mb,hj,q1,q1,fun _ _=>rfl⟩
 |gc ks=>
  simp only[Ba]at hg;split at hg
  rotate_left
  .cases hg
  rename_i hc;simp only[a2r,a1T,a4f]at hc;obtain⟨⟨En,jk⟩,hB⟩:=hc;split at hg
  rotate_left
  .cases hg
  rename_i env loc b1 b2 h1 h2 h3 h4;split at hg
  rotate_left
  .cases hg
  rename_i b3 h5;cases hg;have hr:=hS.st.heap;have hp:=DC h4;have anq:∀k∈ks,k<m.length:=fun k hk=>by
   obtain⟨i,hi⟩:=a8i hk;obtain⟨b,q1,_⟩:=hp.2 hi;rw[hr.len];exact(a02.1 q1).1
  have hBm:B<=m.length:=by rw[hr.len];exact hB
  let m1:List MB:=m.take B++ks.map fun k=>m.getD k .gone
  have adZ:(m.take B).length=B:=by rw[a3B];omega
  have G8:∀i,i<B->m1[i]? = m[i]?:=fun i hi=>by
   show(m.take B++_)[i]? = _;rw[a0N (by omega),a3O,a0V hi]
  have hhi:∀p k,ks[p]? = some k->m1[p+B]? = m[k]?:=fun p k hp=>by
   show(m.take B++_)[p+B]? = _;rw[a1H (by omega),adZ,Nat.add_sub_cancel,a3V,hp];have:=anq k (a4b hp);simp[a3d,this]
  have hg:∀i j,(fun i=>if i<B then some i else(wo ks i).map (·+B)) i=some j->m1[j]? = m[i]?:=fun i j zS=>by
   simp only at zS;split at zS
   .rename_i hi;cases zS;exact G8 i hi
   simp only[a0D]at zS;obtain⟨p,hp,rfl⟩:=zS;exact hhi p i (Oa hp)
  have hold:∀j mb,m1[j]? = some mb->∃i,m[i]? = some mb∧((j<B∧i=j)∨∃p,j=p+B∧ks[p]? = some i):=fun j mb hj=>by
   rcases a3L j B with aQ|Eh
   .exact⟨j,by rw[<-G8 j aQ];exact hj,.inl ⟨aQ,rfl⟩⟩
   have rM:j-B<ks.length:=by
    have:=(a02.1 hj).1;have h9:m1.length=B+ks.length:=by show(m.take B++_).length=_;rw[a2m,adZ,a3Q]
    omega
   have hp:=a0E rM;have hh:=hhi (j-B) _ hp;rw[show j-B+B=j by omega,hj]at hh;exact⟨_,hh.symm,.inr ⟨j-B,by omega,hp⟩⟩
  have yL:∀b,b∈bn m1->b∈bn m:=fun b hb=>by
   obtain⟨j,mb,q1,q2⟩:=jT hb;obtain⟨i,q3,_⟩:=hold j mb q1;exact aZ q3 q2
  have hA:∀b,AA A m b->AA A m1 b:=fun b hb=>⟨hb.1,fun hm=>hb.2 (yL b hm)⟩;have ae0:(bn m1).Nodup:=jl fun i j c q1 q2=>by
   obtain⟨ma,a1,a2⟩:=q1;obtain⟨mc,c1,c2⟩:=q2;obtain⟨i',a3,a4⟩:=hold i ma a1;obtain⟨j',c3,c4⟩:=hold j mc c1;have e:=iQ hr.nodup a3 c3 a2 c2;subst e;rcases a4 with⟨a5,a6⟩|⟨p,a5,a6⟩<;>rcases c4 with⟨c5,c6⟩|⟨q,c5,c6⟩
   .omega
   .have:=En _ (a4b c6);omega
   .have:=En _ (a4b a6);omega
   have FI:=(a02.1 a6).1;have:p=q:=(List.getElem?_inj FI jk).1 (by rw[a6,c6]);omega
  have hFr:Fr m ts.heap m1 ts.heap:=⟨a1J _,fun _ _ _=>rfl,fun b hb=>.inl (yL b hb),fun b cs hc=>⟨cs,hc,a1J _⟩⟩;have BN:=sN h3;have hb3:=sN h5;have Tn:=Oc h2;refine⟨m1,⟨⟨⟨?_,fun j b hj=>?_,ae0,hr.up,fun b hb=>hr.Cm b (yL b hb)⟩,by rw[Tn.1];exact hS.st.llen,fun k cs hk=>?_,Ob hX hg hA hS.st.env h1⟩,fun b hb=>hS.own b (yL b hb),hS.ws,hS.fl⟩,hFr,fun i mb hi hm=>.inl (by rw[G8 i hi];exact hm)⟩
  .show(m.take B++_).length=_;rw[a2m,a2m,a3Q,BN.1,hb3.1,hp.1,adZ,a3B];omega
  .have a0c:b1.length=B:=by rw[BN.1,a3B];omega
   rcases a3L j B with aQ|Eh
   .rw[a0N (by omega)]at hj;obtain⟨b0,q1,q2⟩:=BN.2 hj;rw[a3O,a0V aQ]at q1;obtain⟨mb,q3,q4⟩:=hr.at_ j b0 q1;exact⟨mb,by rw[G8 j aQ];exact q3,Dz hX hg hA (fun c _ h9 h8=>h9 (yL c h8)) q4 q2⟩
   rw[a1H (by omega),a0c]at hj;obtain⟨b0,q1,q2⟩:=hb3.2 hj;have rM:j-B<ks.length:=by rw[<-hp.1];exact(a02.1 q1).1
   obtain⟨b9,q5,q6⟩:=hp.2 (a0E rM);rw[q1]at q6;cases q6;obtain⟨mb,q3,q4⟩:=hr.at_ _ _ q5;refine⟨mb,?_,Dz hX hg hA (fun c _ h9 h8=>h9 (yL c h8)) q4 q2⟩;have:=hhi (j-B) _ (a0E rM);rw[show j-B+B=j by omega]at this;rw[this];exact q3
  obtain⟨cs0,q1,q2⟩:=Tn.2 hk;obtain⟨cs',q3,q4⟩:=hS.st.loc k cs0 q1;exact⟨cs',q3,yZ hX hg hA q4 q2⟩
 |fz i=>
  simp only[Ba]at hg;split at hg
  .rename_i env loc e1 e2;cases hg;have hr:=hS.st.heap;have hF:=gY (h:=ts.heap) [i] m;obtain⟨q1,q2⟩:=a0J e2;refine⟨bQ [i] m,⟨⟨hr.aX [i],by rw[q1];exact hS.st.llen,fun k ds hk=>?_,adY hX hr hS.st.env e1⟩,fun b hb=>?_,hS.ws,hS.fl⟩,hF.1,hF.2.b⟩
   .obtain⟨cs,h1,h2⟩:=q2 k ds hk;obtain⟨cs',h3,h4⟩:=hS.st.loc k cs h1;exact⟨cs',h3,a0I hX hr h4 h2⟩
   obtain⟨j,mb,_,h2,h3⟩:=Ac hb;exact hS.own b (aZ h2 h3)
  cases hg
 |mv i=>
  simp only[Ba]at hg;split at hg
  rotate_left
  .cases hg
  rename_i b0 hi;split at hg
  rotate_left
  .cases hg
  rename_i env loc b1 b2 h1 h2 h3 h4;cases hg;have hr:=hS.st.heap;have aQ:i<ps.heap.length:=(a02.1 hi).1;obtain⟨mi,mi1,mi2⟩:=hr.at_ i b0 hi
  let m1:List MB:=m.set i .gone++[mi]
  have qC:(m.set i .gone).length=ps.heap.length:=by rw[a3W,hr.len]
  have G8:∀j,j<ps.heap.length->j≠i->m1[j]? = m[j]?:=fun j hj hn=>by
   show(m.set i .gone++[mi])[j]? = _;rw[a0N (by omega),a1M (fun e=>hn e.symm)]
  have Jv:m1[i]? = some .gone:=by
   show(m.set i .gone++[mi])[i]? = _;rw[a0N (by omega),a3N,mi1];rfl
  have hhi:m1[ps.heap.length]? = some mi:=by
   show(m.set i .gone++[mi])[ps.heap.length]? = _;rw[a1H (by omega),qC,agh];rfl
  have hg:∀a b,(fun j=>if j=i then some ps.heap.length else if j<ps.heap.length then some j else none) a=some b->m1[b]? = m[a]?:=fun a b hab=>by
   simp only at hab;split at hab
   .rename_i e;subst e;cases hab;rw[hhi,mi1]
   split at hab
   .rename_i e1 e2;cases hab;exact G8 a e2 e1
   cases hab
  have hold:∀j mb,m1[j]? = some mb->mb=.gone∨∃k,m[k]? = some mb∧((j<ps.heap.length∧k=j∧j≠i)∨(j=ps.heap.length∧k=i)):=fun j mb hj=>by
   have rM:j<ps.heap.length+1:=by
    have:=(a02.1 hj).1;have h9:m1.length=ps.heap.length+1:=by show(m.set i .gone++[mi]).length=_;rw[a2m,qC];rfl
    omega
   by_cases e:j=i
   .subst e;rw[Jv]at hj;cases hj;exact .inl rfl
   rcases a3L j ps.heap.length with h5|h5
   .exact .inr ⟨j,by rw[<-G8 j h5 e];exact hj,.inl ⟨h5,rfl,e⟩⟩
   have:j=ps.heap.length:=(by omega);subst this;rw[hhi]at hj;cases hj;exact .inr ⟨i,mi1,.inr ⟨rfl,rfl⟩⟩
  have yL:∀b,b∈bn m1->b∈bn m:=fun b hb=>by
   obtain⟨j,mb,q1,q2⟩:=jT hb;rcases hold j mb q1 with rfl|⟨k,q3,_⟩
   .cases q2
   exact aZ q3 q2
  have hA:∀b,AA A m b->AA A m1 b:=fun b hb=>⟨hb.1,fun hm=>hb.2 (yL b hm)⟩;have ae0:(bn m1).Nodup:=jl fun j k c q1 q2=>by
   obtain⟨ma,a1,a2⟩:=q1;obtain⟨mc,c1,c2⟩:=q2;rcases hold j ma a1 with rfl|⟨j',a3,a4⟩
   .cases a2
   rcases hold k mc c1 with rfl|⟨k',c3,c4⟩
   .cases c2
   have e:=iQ hr.nodup a3 c3 a2 c2;subst e;rcases a4 with⟨a5,a6,a7⟩|⟨a5,a6⟩<;>rcases c4 with⟨c5,c6,c7⟩|⟨c5,c6⟩<;>omega
  have hFr:Fr m ts.heap m1 ts.heap:=⟨a1J _,fun _ _ _=>rfl,fun b hb=>.inl (yL b hb),fun b cs hc=>⟨cs,hc,a1J _⟩⟩;have BN:=sN h3;have Tn:=Oc h2;have ahJ:b1.length=ps.heap.length:=by rw[BN.1,a3W]
  refine⟨m1,⟨⟨⟨?_,fun j b hj=>?_,ae0,hr.up,fun b hb=>hr.Cm b (yL b hb)⟩,by rw[Tn.1];exact hS.st.llen,fun k cs hk=>?_,Ob hX hg hA hS.st.env h1⟩,fun b hb=>hS.own b (yL b hb),hS.ws,hS.fl⟩,hFr,fun j mb _ hj=>?_⟩
  .show(m.set i .gone++[mi]).length=_;rw[a2m,a2m,qC,ahJ];rfl
  .rcases a3L j ps.heap.length with h5|h5
   .rw[a0N (by omega)]at hj;obtain⟨b9,q1,q2⟩:=BN.2 hj;by_cases e:j=i
    .subst e;rw[a3N,hi]at q1;cases q1;have q2:some (PB.gone (Γ:=X.Γ))=some b:=q2;cases q2;exact⟨.gone,Jv,trivial⟩
    rw[a1M (fun e2=>e e2.symm)]at q1;obtain⟨mb,q3,q4⟩:=hr.at_ j b9 q1;exact⟨mb,by rw[G8 j h5 e];exact q3,Dz hX hg hA (fun c _ h9 h8=>h9 (yL c h8)) q4 q2⟩
   rw[a1H (by omega),ahJ]at hj;have:j-ps.heap.length=0:=by
    have:=(a02.1 hj).1;simp at this;omega
   rw[this]at hj;cases hj;refine⟨mi,?_,Dz hX hg hA (fun c _ h9 h8=>h9 (yL c h8)) mi2 h4⟩;rw[show j=ps.heap.length by omega];exact hhi
  .obtain⟨cs0,q1,q2⟩:=Tn.2 hk;obtain⟨cs',q3,q4⟩:=hS.st.loc k cs0 q1;exact⟨cs',q3,yZ hX hg hA q4 q2⟩
  by_cases e:j=i
  .subst e;exact .inr Jv
  have:j<ps.heap.length:=by rw[<-hr.len];exact(a02.1 hj).1
  exact .inl (by rw[G8 j this e];exact hj)
theorem mF(hX:bK X P){B:Nat}:∀{gs:List G} {ps ps1:aS X.Γ},kT B gs ps=some ps1->CJ X P B ps ps1
 | [],ps,ps1,h=>by simp only[kT,a01]at h;subst h;exact .refl
 |g::gs,ps,ps1,h=>by
  simp only[kT]at h;split at h
  .rename_i s hs;exact(a5D hX hs).trans (mF hX h)
  cases h
end
section
variable {X:kC} {P:Program} {T:qy} {A W:Nat->Prop} {m m':List MB}
variable {call:aY} {fH:eU X.Γ} {ρ:Type} {y:ρ}
theorem SR.Bo{fl:Nat}{ps:aS X.Γ}{ts:St}(hS:SR X P A W fl m ps ts){x:Operand}{b:Bool}(hb:qE ts.env x=some (.bool b)):SR X P A W fl m (ps.Bo x b) ts:=⟨hS.st.Bo hb,hS.own,hS.ws,hS.fl⟩
theorem uJ.put{ps:aS X.Γ}{ts:St}(hR:uJ X P A m ps ts){d:Option Nat}{pe:PE X.Γ}{ev:EV}(h:I7 X P (AA A m) m ts.heap pe ev):uJ X P A m (ps.put d pe) (ts.put d ev):=by
 cases d with
 |none=>exact hR
 |some d=>exact⟨hR.heap,hR.llen,hR.loc,.cons h hR.env⟩
theorem zf{ts:St}{d:Option Nat}{ev:EV}:(ts.put d ev).heap=ts.heap∧(ts.put d ev).ws=ts.ws:=by cases d<;>exact⟨rfl,rfl⟩
theorem Wu{H:List (PB X.Γ)}{h:List HB}(hr:HR X P A m H h){i:Nat}{b:PB X.Γ}(hb:H[i]? = some b):qP b=true↔m[i]? = some .gone:=by
 obtain⟨mb,h1,h2⟩:=hr.at_ i b hb;cases b with
 |gone=>
  cases mb with
  |gone=>exact⟨fun _=>h1,fun _=>rfl⟩
  |_=>exact h2.elim
 |cells cs=>cases mb with
  |gone=>exact h2.elim
  |_=>simp[qP,h1]
 |aC cs=>cases mb with
  |gone=>exact h2.elim
  |_=>simp[qP,h1]
 |list k ex t l=>cases mb with
  |gone=>exact h2.elim
  |_=>simp[qP,h1]
 |map es=>cases mb with
  |gone=>exact h2.elim
  |_=>simp[qP,h1]
 |mark=>cases mb with
  |gone=>exact h2.elim
  |_=>simp[qP,h1]
 |mg=>cases mb with
  |gone=>exact h2.elim
  |_=>simp[qP,h1]
 |iy=>cases mb with
  |gone=>exact h2.elim
  |_=>simp[qP,h1]
 |cu=>cases mb with
  |gone=>exact h2.elim
  |_=>simp[qP,h1]
 |loop=>cases mb with
  |gone=>exact h2.elim
  |_=>simp[qP,h1]
theorem JI:∀{H H1:List (PB X.Γ)},yY H H1=true->∀{i:Nat} {b:PB X.Γ},H[i]? = some b->∃b1,H1[i]? = some b1∧qP b=qP b1
 | [],H1,_,i,b,hi=>by simp at hi
 |a::H,[],h,i,b,hi=>by simp[yY]at h
 |a::H,a1::H1,h,i,b,hi=>by
  simp only[yY,a2r,a7k]at h;cases i with
  |zero=>simp only[a2I,a01]at hi;subst hi;exact⟨a1,rfl,h.1⟩
  |succ i=>obtain⟨b1,e1,e2⟩:=JI h.2 (i:=i) (by simpa using hi);exact⟨b1,by simpa using e1,e2⟩
theorem ae1{H H1:List (PB X.Γ)}{h h1:List HB}{m1:List MB}(hr:HR X P A m H h)(hr1:HR X P A m1 H1 h1)(hs:(!yY H H1)=false):∀(i:Nat),i<m.length->m1[i]? = some .gone->m[i]? = some .gone:=by
 intro i hi hg;have wY:i<H.length:=by rw[<-hr.len];exact hi
 have hb:=a0E wY;obtain⟨b1,e1,e2⟩:=JI (by simpa using hs) hb;have:=(Wu hr1 e1).2 hg;rw[<-e2]at this;exact(Wu hr hb).1 this
theorem KT{fl:Nat}{ops:Array Oper}{ps:aS X.Γ}{ts:St}(hS:SR X P A W fl m ps ts){o:Oper}{an:PT X.Γ}{k:Bool->aS X.Γ->PT X.Γ->OT ρ}(hk:(YL X ops ps o an k).Ends y) :
  ∃w ps1 GK,BJ ops ts.env o=some w∧SR X P A W fl m ps1 ts∧(k w ps1 GK).Ends y∧ps1.heap=ps.heap:=by
 unfold YL at hk;unfold BJ;split at hk
 .rename_i hg;exact⟨true,ps,an,by simp only[hg],hS,hk,rfl⟩
 .rename_i j want hg;simp only[hg];split at hk
  .rename_i d hd;simp only[hd];split at hk
   .rename_i b hb;obtain⟨ev,h1,h2⟩:=o8 hS.st.env hb;obtain⟨tv,rfl,h3⟩:=fK h2;obtain⟨t,GK,rfl,hk⟩:=YT hk h3;exact⟨t==want,_,GK,by simp only[h1],hS.Bo (x:=.tmp d) (by simp only[qE,Hz,h1]),hk,rfl⟩
   .rename_i hb;obtain⟨ev,h1,h2⟩:=o8 hS.st.env hb;have:=Iy h2;subst this;exact⟨false,ps,an,by simp only[h1],hS,hk,rfl⟩
   .exact hk.elim
  .exact hk.elim
theorem Z4(hX:bK X P)(hO:jo X P call fH){site:Nat->Bool}{fl nt:Nat}{ops:Array Oper}:∀{os:List Oper} {m:List MB} {ps:aS X.Γ} {ts:St} {an:PT X.Γ} {k:aS X.Γ->List PI->PT X.Γ->OT ρ},SR X P A W fl m ps ts->(VP X P fH (aV X P call) site nt ops os ps an k).Ends y ->
  ∃iE is pis ps1 GK m1,kN P call site fl nt ops os ts=some (iE,is)∧(k ps1 pis GK).Ends y∧SR X P A W fl m1 ps1 iE∧Fr m ts.heap m1 iE.heap∧Up m m1∧IRs m ts.heap pis is∧is.length=os.length
 | [],m,ps,ts,an,k,hS,hk=>⟨ts,[],[],ps,an,m,rfl,hk,hS,.refl,.refl,.nil,rfl⟩
 |o::os,m,ps,ts,an,k,hS,hk=>by
  simp only[VP]at hk;split at hk
  .exact hk.elim
  .rename_i hd;obtain⟨w,ps1,Kz,hw,hS1,hk,hh⟩:=KT hS hk;cases w with
   |true=>
    simp only at hk;obtain⟨pe,BM,pi,an2,⟨ev,ts2,ti,m2,e1,e2,e3,e4,e5,e6,e7,e8,e9⟩,hk⟩:=adR hX hO hS1.st hk;have hS2:SR X P A W fl m2 (BM.put o.dst pe) (({ ts2 with ws:=jK fl ti.ws ts.ws }).put o.dst ev):=by
     refine⟨uJ.put (ts:={ ts2 with ws:=jK fl ti.ws ts.ws }) ⟨e4.heap,e4.llen,e4.loc,e4.env⟩ e5,fun b hb=>?_,fun b hb=>?_,?_⟩
     .rcases e6.new b hb with h1|h1
      .exact hS.own b h1
      .exact .inr (a4p hS.fl h1)
     .rw[zf.2]at hb;rcases vJ hb with h1|⟨h1,h2⟩
      .exact hS.ws b h1
      .rcases hS.own b (e9 b h1)with h3|h3
       .exact h3
       .omega
     .rw[zf.1];exact a4p hS.fl e6.len
    obtain⟨ts3,is,pis,ps3,an3,m3,g1,g2,g3,g4,g5,g6,g7⟩:=Z4 hX hO (os:=os) hS2 hk;rw[zf.1]at g4 g6;refine⟨ts3,ti::is,_,ps3,an3,m3,?_,g2,g3,e6.trans g4,e7.trans g5,.cons hS.st.heap.nodup (fun b hb=>hS.st.heap.inb hb) ⟨e8.all,e8.tl,e8.wl,e8.wh,e8.th,e8.hp⟩ e6 e7 (ae1 hS1.st.heap e4.heap) g6,by simp[g7]⟩;simp only[kN,hd,hw,e1,g1];rfl
   |false=>
    simp only at hk;have hS2:SR X P A W fl m (ps1.put o.dst .undef) (ts.put o.dst .undef):=by
     refine⟨hS1.st.put trivial,hS.own,fun b hb=>?_,?_⟩
     .rw[zf.2]at hb;exact hS.ws b hb
     .rw[zf.1];exact hS.fl
    obtain⟨ts3,is,pis,ps3,an3,m3,g1,g2,g3,g4,g5,g6,g7⟩:=Z4 hX hO (os:=os) hS2 hk;rw[zf.1]at g4 g6;refine⟨ts3,bW::is,_,ps3,an3,m3,?_,g2,g3,g4,g5,.cons hS.st.heap.nodup (fun b hb=>hS.st.heap.inb hb) .none .refl .refl (fun _ i _ hg=>hg) g6,by simp[g7]⟩;simp only[kN,hd,hw,g1];rfl
def dM(X:kC)(P:Program)(T:qy)(call:aY)(L f:Nat)(gJ:Bool)(nt B:Nat)(c:Code)(ps:aS X.Γ)(e:Ex)(ps1:aS X.Γ):Prop:=
 ∀(A W:Nat->Prop) (fl:Nat) (m:List MB) (ts:St),SR X P A W fl m ps ts->∃iE m1,exec P T call L f gJ fl nt c ts=some (e,iE)∧SR X P A W fl m1 ps1 iE∧Fr m ts.heap m1 iE.heap∧Lu B m m1
theorem uJ.pick{ps:aS X.Γ}{ts:St}(hR:uJ X P A m ps ts)(live:List Nat):uJ X P A m { ps with env:=iW live ps.env } { ts with env:=Tw.pick live ts.env }:=
 ⟨hR.heap,hR.llen,hR.loc,U9 hR.env live⟩
theorem SR.pick{fl:Nat}{ps:aS X.Γ}{ts:St}(hS:SR X P A W fl m ps ts)(live:List Nat):SR X P A W fl m { ps with env:=iW live ps.env } { ts with env:=Tw.pick live ts.env }:=⟨hS.st.pick live,hS.own,hS.ws,hS.fl⟩
theorem SR.head{fl:Nat}{ps:aS X.Γ}{ts:St}(hS:SR X P A W fl m ps ts)(live:List Nat):SR X P A W fl m (gq X live ps) (jM live ts):=by
 have h1:=hS.pick live;have ht:=adD h1.st.env;refine⟨⟨h1.st.heap,?_,fun k cs hk=>?_,h1.st.env⟩,h1.own,h1.ws,h1.fl⟩
 .simp only[gq,jM,a3B];have:=h1.st.llen;simp only at this ht;omega
 simp only[gq,jM]at hk ⊢;rw[a3O]at hk;split at hk
 .rename_i aQ;obtain⟨cs',g1,g2⟩:=h1.st.loc k cs hk;refine⟨cs',?_,g2⟩;rw[a3O,a0V (by simp only at ht;omega)];exact g1
 cases hk
theorem Ue{g:St->Option (Ex×St)}:∀{k j:Nat} {s:St} {r:Ex×St},iter g k s=some r->k<=j->iter g j s=some r
 | 0,_,s,r,h,_=>by simp[iter]at h
 |k+1,j,s,r,h,hj=>by
  obtain⟨j,rfl⟩:∃i,j=i+1:=⟨j-1,by omega⟩;simp only[iter]at h ⊢;split at h
  .rename_i s1 hs;exact Ue h (by omega)
  rename_i hn;exact h
section
variable {L f:Nat} {gJ:Bool} {nt B:Nat}
theorem KX(hX:bK X P){c:Code}{A W:Nat->Prop}{fl:Nat}{m:List MB}{ps:aS X.Γ}{ts:St}{k:Ex->aS X.Γ->PT X.Γ->OT ρ}(hS:SR X P A W fl m ps ts):∀{an:PT X.Γ},(yD X (dM X P T call L f gJ nt B) B c ps k an).Ends y ->
  ∃e iE ps1 GK m1,exec P T call L f gJ fl nt c ts=some (e,iE)∧(k e ps1 GK).Ends y∧SR X P A W fl m1 ps1 iE∧Fr m ts.heap m1 iE.heap∧Lu B m m1:=by
 intro an
 induction an with
 |a x r=>
  intro hk;cases x with
  |loop e s'=>
   simp only[yD]at hk;obtain⟨G8,hk⟩:=hk;obtain⟨iE,m1,h1,h2,h3,h4⟩:=G8 A W fl m ts hS;exact⟨_,iE,_,_,m1,h1,hk,h2,h3,h4⟩
  |lg gs e s'=>
   simp only[yD]at hk;split at hk
   .rename_i hgs;obtain⟨G8,hk⟩:=hk;obtain⟨m0,e1,e2,e3⟩:=mF hX hgs A W fl m ts hS;obtain⟨iE,m1,h1,h2,h3,h4⟩:=G8 A W fl m0 ts e1;exact⟨_,iE,_,_,m1,h1,hk,h2,e2.trans h3,e3.trans h4⟩
   .exact hk.elim
  |_=>simp only[yD]at hk;exact hk.elim
 |z c' a b iha ihb=>
  intro hk;simp only[yD]at hk;rcases hk with⟨_,hk⟩|⟨_,hk⟩
  .exact iha hk
  .exact ihb hk
 |_=>intro hk;simp only[yD]at hk;exact hk.elim
theorem uY(hX:bK X P)(hO:jo X P call fH):∀(c:Code) {A W:Nat->Prop} {fl:Nat} {m:List MB} {ps:aS X.Γ} {ts:St} {an:PT X.Γ} {k:Ex->aS X.Γ->PT X.Γ->OT ρ},SR X P A W fl m ps ts->(jD X P T fH (aV X P call) (dM X P T call L f gJ nt B) B L f gJ nt c ps an k).Ends y ->
  ∃e iE ps1 GK m1,exec P T call L f gJ fl nt c ts=some (e,iE)∧(k e ps1 GK).Ends y∧SR X P A W fl m1 ps1 iE∧Fr m ts.heap m1 iE.heap∧Lu B m m1:=by
 intro c
 induction c with
 |skip=>intro A W fl m ps ts an k hS hk;exact⟨.norm,ts,ps,an,m,rfl,hk,hS,.refl,.refl⟩
 |label=>intro A W fl m ps ts an k hS hk;exact⟨.norm,ts,ps,an,m,rfl,hk,hS,.refl,.refl⟩
 |exit id=>intro A W fl m ps ts an k hS hk;exact⟨.exit id,ts,ps,an,m,rfl,hk,hS,.refl,.refl⟩
 |ret=>intro A W fl m ps ts an k hS hk;exact⟨.ret,ts,ps,an,m,rfl,hk,hS,.refl,.refl⟩
 |region id ops draw=>
  intro A W fl m ps ts an k hS hk;simp only[jD]at hk;obtain⟨iE,is,pis,ps1,Kz,m1,g1,hk,g3,g4,g5,g6,g7⟩:=Z4 hX hO hS hk;have fin:∀{an2:PT X.Γ},(!draw||(mY ops.toList&&AV is (lW ops.toList)))=true->(k .norm { ps1 with env:=iW (T.gZ f id) ps1.env } an2).Ends y->∃e iE ps1 GK m1,exec P T call L f gJ fl nt (.region id ops draw) ts=some (e,iE)∧(k e ps1 GK).Ends y∧SR X P A W fl m1 ps1 iE∧Fr m ts.heap m1 iE.heap∧Lu B m m1:=by
   intro an2 hc hk;exact⟨.norm,{ iE with env:=Tw.pick (T.gZ f id) iE.env },_,an2,m1,by simp only[exec,g1,hc,a2D],hk,g3.pick _,g4,g5.b⟩
  cases draw with
  |false=>exact fin rfl hk
  |true=>
   simp only at hk;split at hk
   .rename_i r;split at hk
    .rename_i EO;obtain⟨vH,hk⟩:=hk;refine fin ?_ hk;rw[vH];simp only[a8q,ag8,acW];refine Rx (fun t ht=>?_) fun q hq=>by rw[g7];exact adX q hq
     have key:∀{ps:List PI} {ts:List lG} {m:List MB} {h:List HB},IRs m h ps ts->(ps.all fun i=>i.i.ws.isEmpty&&!i.wall)=true->∀t∈ts,t.ws=[]:=by
      intro ps ts m h hI
      induction hI with
      |nil=>intro _ t ht;cases ht
      |cons _ _ i1 _ _ _ _ ih=>
       intro ha t ht;simp only[abn,a2r,List.isEmpty_iff,a8m]at ha;rcases a2t.1 ht with rfl|ht
       .refine a7v.2 fun x hx=>?_;cases x with
        |l j=>have:=i1.wl j hx;rw[ha.1.1]at this;cases this
        |h b=>
         rcases i1.wh b hx with⟨i,h1,_⟩|⟨h1,_⟩
         .rw[ha.1.1]at h1;cases h1
         .rw[ha.1.2]at h1;cases h1
       .exact ih ha.2 t ht
     exact key g6 EO t ht
    .exact hk.elim
   .split at hk
    .rename_i hc;simp only[a2r]at hc;refine fin ?_ hk;rw[hc.1,a5B g6 adW hc.2];rfl
    .exact hk.elim
 |seq a b iha ihb=>
  intro A W fl m ps ts an k hS hk;simp only[jD]at hk;obtain⟨e,iE,ps1,Kz,m1,h1,hk,h3,h4,h5⟩:=iha hS hk;cases e with
  |norm=>
   obtain⟨e2,ts2,BM,an2,m2,g1,g2,g3,g4,g5⟩:=ihb h3 hk;exact⟨e2,ts2,BM,an2,m2,by simp only[exec,h1,g1],g2,g3,h4.trans g4,h5.trans g5⟩
  |exit id=>exact⟨_,iE,ps1,Kz,m1,by simp only[exec,h1],hk,h3,h4,h5⟩
  |ret=>exact⟨_,iE,ps1,Kz,m1,by simp only[exec,h1],hk,h3,h4,h5⟩
 |cond c a b iha ihb=>
  intro A W fl m ps ts an k hS hk;simp only[jD]at hk;split at hk
  .rename_i u hu;obtain⟨tu,h1,h2⟩:=VU hS.st.env hu;obtain⟨t,GK,rfl,hk⟩:=YT hk h2;cases t with
   |true=>
    obtain⟨e,iE,ps1,Kz,m1,g1,g2,g3,g4,g5⟩:=iha (hS.Bo h1) hk;exact⟨e,iE,ps1,Kz,m1,by simp only[exec,h1,g1],g2,g3,g4,g5⟩
   |false=>
    obtain⟨e,iE,ps1,Kz,m1,g1,g2,g3,g4,g5⟩:=ihb (hS.Bo h1) hk;exact⟨e,iE,ps1,Kz,m1,by simp only[exec,h1,g1],g2,g3,g4,g5⟩
  .exact hk.elim
 |block id b ih=>
  intro A W fl m ps ts an k hS hk;simp only[jD]at hk;obtain⟨e,iE,ps1,Kz,m1,h1,hk,h3,h4,h5⟩:=ih hS hk;cases e with
  |norm=>exact⟨_,iE,ps1,Kz,m1,by simp only[exec,h1],hk,h3,h4,h5⟩
  |ret=>exact⟨_,iE,ps1,Kz,m1,by simp only[exec,h1],hk,h3,h4,h5⟩
  |exit i=>exact⟨_,iE,ps1,Kz,m1,by simp only[exec,h1],hk,h3,h4,h5⟩
 |scope b ih=>
  intro A W fl m ps ts an k hS hk;simp only[jD]at hk;obtain⟨e,iE,ps1,Kz,m1,h1,hk,h3,h4,h5⟩:=ih hS hk;exact⟨e,iE,ps1,Kz,m1,by simp only[exec,h1],hk,h3,h4,h5⟩
 |loop b ih=>
  intro A W fl m ps ts an k hS hk;simp only[jD]at hk;split at hk
  .rename_i j r;obtain⟨hj,hk⟩:=hk;have go:∀(j:Nat) {m:List MB} {ps:aS X.Γ} {ts:St} {an:PT X.Γ},SR X P A W fl m ps ts->(U6 X (fun s an k=>jD X P T fH (aV X P call) (dM X P T call L f gJ nt B) B L f gJ nt b (gq X (T.eH f (dR b)) s) an k) j ps an k).Ends y ->
     ∃e iE ps1 GK m1,iter (fun s=>exec P T call L f gJ fl nt b (jM (T.eH f (dR b)) s)) j ts=some (e,iE)∧(k e ps1 GK).Ends y∧SR X P A W fl m1 ps1 iE∧Fr m ts.heap m1 iE.heap∧Lu B m m1:=by
    intro j
    induction j with
    |zero=>intro m ps ts an _ hk;exact hk.elim
    |succ j ihj=>
     intro m ps ts an hS hk;simp only[U6]at hk;obtain⟨e,iE,ps1,Kz,m1,h1,hk,h3,h4,h5⟩:=ih (hS.head _) hk;cases e with
     |norm=>
      obtain⟨e2,ts2,BM,an2,m2,g1,g2,g3,g4,g5⟩:=ihj h3 hk;exact⟨e2,ts2,BM,an2,m2,by simp only[iter,h1,g1],g2,g3,h4.trans g4,h5.trans g5⟩
     |exit id=>exact⟨_,iE,ps1,Kz,m1,by simp only[iter,h1],hk,h3,h4,h5⟩
     |ret=>exact⟨_,iE,ps1,Kz,m1,by simp only[iter,h1],hk,h3,h4,h5⟩
   obtain⟨e,iE,ps1,Kz,m1,h1,h2,h3,h4,h5⟩:=go j hS hk;exact⟨e,iE,ps1,Kz,m1,by simp only[exec];exact Ue h1 hj,h2,h3,h4,h5⟩
  .exact KX hX hS hk
 |rangeFunc g qs uD body iha ihb=>
  intro A W fl m ps ts an k hS hk;simp only[jD]at hk;exact KX hX hS hk
 |_=>intro A W fl m ps ts an k hS hk;simp only[jD]at hk;exact hk.elim
end
end
section
variable {X:kC} {P:Program} {T:qy} {A W:Nat->Prop} {m m':List MB}
variable {call:aY} {fH:eU X.Γ} {L:Nat}
def Bz(P:Program)(f:Nat):Nat:=match Tc P f with
 |some t=>t.nt
 |none=>0
abbrev Bc(X:kC)(P:Program)(T:qy)(call:aY)(L f B:Nat):a0u X.Γ:=dM X P T call L f false (Bz P f) B
theorem LC{A:Nat->Prop}{h:List HB}:∀{k:Nat} {vs:List (PV X.Γ)} {xs:List TV},bU X P A m h vs xs->jJ X P A m h (kL X k vs) (mZ k xs)
 |k,[],xs,hv=>by rw[hv.inv0];exact .nil
 |k,v::vs,xs,hv=>by
  obtain⟨x,r,rfl,h1,h2⟩:=hv.inv;exact .cons h1 (LC h2)
theorem Ik(hX:bK X P){ps:aS X.Γ}{ts:St}(hR:uJ X P A m ps ts):∀{rs:List ResultVar} {vs:List (PV X.Γ)},Ew X P ps rs=some vs->∃ws,xG P ts rs=some ws∧bU X P (AA A m) m ts.heap vs ws
 | [],vs,h=>by simp only[Ew,a01]at h;subst h;exact⟨[],rfl,.nil⟩
 |r::rs,vs,h=>by
  simp only[Ew]at h;split at h
  rotate_left
  .cases h
  rename_i v vs' h1 h2;cases h;obtain⟨ws,g1,g2⟩:=Ik hX hR h2;have:∃w,a3U P ts r=some w∧VR X P (AA A m) m ts.heap v w:=by
   unfold ahq at h1;unfold a3U;split at h1
   .rename_i t;split at h1
    .rename_i u hu;cases h1;obtain⟨ev,e1,e2⟩:=o8 hR.env hu;obtain⟨w,rfl,e3⟩:=fK e2;exact⟨w,by simp only[e1],Gs e3⟩
    cases h1
   rename_i a t;split at h1
   .rename_i pa ha;simp only[a0D]at h1;obtain⟨⟨u,i⟩,e1,rfl⟩:=h1;obtain⟨ev,e2,e3⟩:=o8 hR.env ha;obtain⟨w,ti,e4,e5,_,_⟩:=FV hX hR e3 e1;exact⟨w,by simp only[e2,e4,a1z],e5⟩
   cases h1
  obtain⟨w,g3,g4⟩:=this;exact⟨w::ws,by simp only[xG,g3,g1],.cons g4 g2⟩
theorem Uf{A:Nat->Prop}{h:List HB}{vs:List (PV X.Γ)}{ws:List TV}(hv:bU X P A m h vs ws):VR X P A m h (YN X vs) (one ws):=by
 match vs,ws,hv with
 | [],ws,hv=>rw[hv.inv0];exact .dG rfl (by simp)
 | [v],ws,hv=>
  obtain⟨x,r,rfl,h1,h2⟩:=hv.inv;have:=h2.inv0;subst this;exact h1
 |v::u::vs,ws,hv=>
  obtain⟨x,r,rfl,h1,h2⟩:=hv.inv;obtain⟨z,r,rfl,h3,h4⟩:=h2.inv;exact .dG hv.1 hv.2
theorem a5E(hX:bK X P)(hO:jo X P call fH){f:Nat}{vs:List (PV X.Γ)}{H:List (PB X.Γ)}{an:PT X.Γ}{v:PV X.Γ}{H1:List (PB X.Γ)}(hk:(Ci X P T fH (aV X P call) (Bc X P T call L f H.length) L f vs H an).Ends (v,H1))
  {h:List HB} (hr:HR X P A m H h) {xs:List TV} (hv:bU X P (AA A m) m h vs xs):∃w h1 ws m1,TT P T call L f xs h=some (w,h1,ws)∧HR X P A m1 H1 h1∧VR X P (AA A m1) m1 h1 v w∧Fr m h m1 h1∧Lu H.length m m1∧(∀b∈ws,b∈bn m)∧¬(T.exts.contains f||T.ZI.contains f)=true:=by
 unfold Ci at hk;split at hk
 .rename_i t ht;have hnx:¬(T.exts.contains f||T.ZI.contains f)=true:=fun hx=>by rw[a0V hx]at ht;cases ht
  rw[a0S hnx]at ht;have hnt:Bz P f=t.nt:=by unfold Bz;rw[ht]
  have hS:SR X P A (fun b=>b∈bn m) h.length m ⟨kL X 0 vs,[],H⟩ ⟨mZ 0 xs,[],h,[]⟩:=
   ⟨⟨hr,rfl,fun k cs hk=>by simp at hk,LC hv⟩,fun b hb=>.inl hb,fun b hb=>(by cases hb),a1J _⟩
  rw[show Bc X P T call L f H.length=dM X P T call L f false t.nt H.length by unfold Bc;rw[hnt]]at hk;obtain⟨e,iE,ps1,Kz,m1,h1,hk,h3,h4,h5⟩:=uY hX hO t.body hS hk;have fin:∀{e:Ex},exec P T call L f false h.length t.nt t.body ⟨mZ 0 xs,[],h,[]⟩=some (e,iE)->(e=.norm∨e=.ret)->∀{us:List (PV X.Γ)},Ew X P ps1 t.results=some us->(YN X us,ps1.heap)=(v,H1)->∃w h1 ws m1,TT P T call L f xs h=some (w,h1,ws)∧HR X P A m1 H1 h1∧VR X P (AA A m1) m1 h1 v w∧Fr m h m1 h1∧Lu H.length m m1∧(∀b∈ws,b∈bn m)∧¬(T.exts.contains f||T.ZI.contains f)=true:=by
   intro e he hee us hus hv;cases hv;obtain⟨ws,g1,g2⟩:=Ik hX h3.st hus;refine⟨one ws,iE.heap,iE.ws,m1,?_,h3.st.heap,Uf g2,h4,h5,h3.ws,hnx⟩;unfold TT;rcases hee with rfl|rfl<;>simp only[ht,he,g1]
  cases e with
  |exit id=>exact hk.elim
  |norm=>
   cases Kz with
   |n=>
    simp only at hk;split at hk
    .rename_i us hus;exact fin h1 (.inl rfl) hus hk
    .exact hk.elim
   |_=>exact hk.elim
  |ret=>
   cases Kz with
   |n=>
    simp only at hk;split at hk
    .rename_i us hus;exact fin h1 (.inr rfl) hus hk
    .exact hk.elim
   |_=>exact hk.elim
 .exact hk.elim
theorem Z5(hX:bK X P){n f:Nat}(hn:0<n)(hO:jo X P (kJ P T L (n-1)) fH){vs:List (PV X.Γ)}{an:PT X.Γ}{v:PV X.Γ}{ext:List (PB X.Γ)}
  (hk:(Ci X P T fH (aV X P (kJ P T L (n-1))) (Bc X P T (kJ P T L (n-1)) L f 0) L f vs [] an).Ends (v,ext)):nR X P (kJ P T L n) f vs v ext:=by
 intro A h first args cap I5 hv
 have hr:HR X P A [] [] h:=⟨rfl,fun i b hb=>by simp at hb,by simp[bn],I5,fun b hb=>by simp[bn]at hb⟩;obtain⟨w,h1,ws,m1,g1,g2,g3,g4,_,g6,g7⟩:=a5E hX hO (H:=[]) hk hr (hv.mono fun b hb=>⟨hb,by simp[bn]⟩);obtain⟨n,rfl⟩:∃j,n=j+1:=⟨n-1,by omega⟩;have:ws=[]:=a7v.2 fun x hx=>by have:=g6 x hx;simp[bn]at this
 subst this;exact⟨w,h1,m1,by simp only[kJ];simp only[a8t,ad1]at g7;rw[a0S g7.1,a0S g7.2];exact g1,g2,g3,g4⟩
theorem a5F(hX:bK X P){n f:Nat}(hn:0<n)(hO:jo X P (kJ P T L (n-1)) fH){first xs cap:List (PV X.Γ)}{H H1:List (PB X.Γ)}{an:PT X.Γ}{v:PV X.Γ}
  (hk:(Ci X P T fH (aV X P (kJ P T L (n-1))) (Bc X P T (kJ P T L (n-1)) L f H.length) L f (first++xs++cap) H an).Ends (v,H1)):aV X P (kJ P T L n) (.fn f first cap) xs H v H1:=by
 intro A m h tf rO hr hf hx;obtain⟨n,rfl⟩:∃j,n=j+1:=⟨n-1,by omega⟩;cases hf with
 |gone hi _ _=>simp[bg]at hi
 |fn p1 p2 p3 p4=>
  obtain⟨w,h1,ws,m1,g1,g2,g3,g4,g5,g6,g7⟩:=a5E hX hO hk hr ((bU.app ⟨p1,p2⟩ hx).app ⟨p3,p4⟩);refine⟨w,h1,ws,m1,by simp only[kJ];simp only[a8t,ad1]at g7;rw[a0S g7.1,a0S g7.2];exact g1,g2,g3,g4,fun i mb hi=>g5 i mb ?_ hi,g6⟩;rw[<-hr.len];exact(a02.1 hi).1
def ae3:Ex->aS X.Γ->PT X.Γ->OT (Ex×aS X.Γ):=fun e s an=>match an with
 |.n=>.ret (e,s)
 |_=>.bad
section
variable {f nt B:Nat} {gJ:Bool}
theorem Wv(hX:bK X P)(hO:jo X P call fH){c:Code}{ps:aS X.Γ}{an:PT X.Γ}{e:Ex}{ps1:aS X.Γ}(hk:(jD X P T fH (aV X P call) (dM X P T call L f gJ nt B) B L f gJ nt c ps an ae3).Ends (e,ps1)):dM X P T call L f gJ nt B c ps e ps1:=by
 intro A W fl m ts hS;obtain⟨e1,iE,BM,Kz,m1,h1,h2,h3,h4,h5⟩:=uY hX hO c hS hk;cases Kz with
 |n=>cases h2;exact⟨iE,m1,h1,h3,h4,h5⟩
 |_=>exact h2.elim
end
end
def OT.map{ρ σ:Type}(f:ρ->σ):OT ρ->OT σ
 |.bad=>.bad
 |.ret r=>.ret (f r)
 |.o p r=>.o p (r.map f)
 |.br c t e=>.br c (t.map f) (e.map f)
theorem OT.GL{ρ σ:Type}{f:ρ->σ}{y:σ}:∀{o:OT ρ},(o.map f).Ends y->∃r,o.Ends r∧f r=y
 |.bad,h=>h.elim
 |.ret r,h=>⟨r,rfl,h⟩
 |.o p r,h=>by obtain⟨x,h1,h2⟩:=OT.GL h.2;exact⟨x,⟨h.1,h1⟩,h2⟩
 |.br c t e,h=>by
  rcases h with⟨h0,h⟩|⟨h0,h⟩
  .obtain⟨x,h1,h2⟩:=OT.GL h;exact⟨x,.inl ⟨h0,h1⟩,h2⟩
  obtain⟨x,h1,h2⟩:=OT.GL h;exact⟨x,.inr ⟨h0,h1⟩,h2⟩
inductive Fp{Γ:Nat->Type}{ρ:Type}(R:ρ->Prop):PT Γ->OT ρ->Prop where
 |r {v:ρ} (h:R v):Fp R .n (.ret v)
 |g {v:ρ} (gs:List G) (h:R v):Fp R (.a (.lg gs .norm ⟨[],[],[]⟩) .n) (.ret v)
 |o {p:Prop} {an:PT Γ} {o:OT ρ} (h:p) (f:Fp R an o):Fp R an (.o p o)
 |s {c:Bool} {a b:PT Γ} {x y:OT ρ} (f:c=true->Fp R a x) (g:c=false->Fp R b y):Fp R (.s a b) (.br c x y)
 |z {c:Bool} {a b:PT Γ} {x y:OT ρ} (f:c=true->Fp R a x) (g:c=false->Fp R b y):Fp R (.z c a b) (.br c x y)
 |b {c t:Bool} {an:PT Γ} {o:OT ρ} (h:c=t) (f:Fp R an o):Fp R (.a (.br t) an) (.o (c=t) o)
 |q {p:Prop} {an:PT Γ} {o:OT ρ} (w:TV) (h:p) (f:Fp R an o):Fp R (.a (.rd w) an) (.o p o)
 |c {p:Prop} {an:PT Γ} {o:OT ρ} (v:PV Γ) (H:List (PB Γ)) (h:p) (f:Fp R an o):Fp R (.a (.call v H) an) (.o p o)
 |kf {p:Prop} {an:PT Γ} {o:OT ρ} (ks:List Nat) (v:PV Γ) (H:List (PB Γ)) (h:p) (f:Fp R an o):Fp R (.a (.fr ks v H) an) (.o p o)
 |kg {p:Prop} {an:PT Γ} {o:OT ρ} (ks rs:List Nat) (v:PV Γ) (H:List (PB Γ)) (h:p) (f:Fp R an o):Fp R (.a (.PZ ks rs v H) an) (.o p o)
 |l {p:Prop} {an:PT Γ} {o:OT ρ} (gs:List G) (e:Ex) (s:aS Γ) (h:p) (f:Fp R an o):Fp R (.a (.lg gs e s) an) (.o p o)
 |f {p:Prop} {an:PT Γ} {o:OT ρ} (e:Ex) (s:aS Γ) (h:p) (f:Fp R an o):Fp R (.a (.loop e s) an) (.o p o)
 |m {p:Prop} {an:PT Γ} {o:OT ρ} (k:Nat) (h:p) (f:Fp R an o):Fp R (.l k an) (.o p o)
 |a {an:PT Γ} {o:OT ρ} (x:PA Γ) (f:Fp R an o):Fp R (.a x an) o
theorem Fp.aO{Γ:Nat->Type}{ρ:Type}{R:ρ->Prop}{an:PT Γ}{o:OT ρ}(h:Fp R an o):∃y,o.Ends y∧R y:=by
 induction h with
 |r h=>exact⟨_,rfl,h⟩
 |g _ h=>exact⟨_,rfl,h⟩
 |s _ _ i1 i2=>
  rename_i c _ _ _ _ _ _;cases c with
  |true=>obtain⟨y,h1,h2⟩:=i1 rfl;exact⟨y,.inl ⟨rfl,h1⟩,h2⟩
  |false=>obtain⟨y,h1,h2⟩:=i2 rfl;exact⟨y,.inr ⟨rfl,h1⟩,h2⟩
 |z _ _ i1 i2=>
  rename_i c _ _ _ _ _ _;cases c with
  |true=>obtain⟨y,h1,h2⟩:=i1 rfl;exact⟨y,.inl ⟨rfl,h1⟩,h2⟩
  |false=>obtain⟨y,h1,h2⟩:=i2 rfl;exact⟨y,.inr ⟨rfl,h1⟩,h2⟩
 |a _ _ i=>exact i
 |o h _ i=>obtain⟨y,h1,h2⟩:=i;exact⟨y,⟨h,h1⟩,h2⟩
 |b h _ i=>obtain⟨y,h1,h2⟩:=i;exact⟨y,⟨h,h1⟩,h2⟩
 |q _ h _ i=>obtain⟨y,h1,h2⟩:=i;exact⟨y,⟨h,h1⟩,h2⟩
 |c _ _ h _ i=>obtain⟨y,h1,h2⟩:=i;exact⟨y,⟨h,h1⟩,h2⟩
 |kg _ _ _ _ h _ i=>obtain⟨y,h1,h2⟩:=i;exact⟨y,⟨h,h1⟩,h2⟩
 |kf _ _ _ h _ i=>obtain⟨y,h1,h2⟩:=i;exact⟨y,⟨h,h1⟩,h2⟩
 |l _ _ _ h _ i=>obtain⟨y,h1,h2⟩:=i;exact⟨y,⟨h,h1⟩,h2⟩
 |f _ _ h _ i=>obtain⟨y,h1,h2⟩:=i;exact⟨y,⟨h,h1⟩,h2⟩
 |m _ h _ i=>obtain⟨y,h1,h2⟩:=i;exact⟨y,⟨h,h1⟩,h2⟩
section
variable {X:kC} {P:Program} {T:qy} {L:Nat}
def frz(r:PV X.Γ×List (PB X.Γ)):Option (PV X.Γ):=view r.2 r.1
theorem Wx(hX:bK X P){call:aY}{f:FuncId}{vs:List (PV X.Γ)}{v w:PV X.Γ}{ext:List (PB X.Γ)}(hc:nR X P call f vs v ext)(hw:view ext v=some w):nR X P call f vs w []:=by
 intro A h first args cap I5 hv
 obtain⟨x,h',m',c1,c2,c3,c4⟩:=hc A h first args cap I5 hv
 refine⟨x,h',[],c1,⟨rfl,fun i b hb=>by simp at hb,by simp[bn],c2.up,fun b hb=>by simp[bn]at hb⟩,?_,?_⟩
 .refine(Ua (m':=[]) hX c2 c3 hw (is:=kF v) fun i hi=>hi).mono fun b hb=>⟨?_,by simp[bn]⟩;rcases hb with hb|⟨i,mb,h1,h2,h3⟩
  .exact hb.1
  exact c2.Cm b (aZ h2 h3)
 exact⟨c4.len,fun b hb hn=>c4.same b hb hn,fun b hb=>by simp[bn]at hb,c4.grow⟩
def ae4(hd:aS X.Γ->aS X.Γ)(B:Nat):Ex->aS X.Γ->PT X.Γ->OT (Ex×aS X.Γ):=fun e s an=>match an with
 |.n=>match e with
  |.norm=>.ret (.norm,hd s)
  |e=>.ret (e,s)
 |.a (.lg gs _ _) .n=>match e with
  |.norm=>match kT B gs (hd s)with
   |some s=>.ret (.norm,s)
   |none=>.bad
  |e=>match kT B gs s with
   |some s=>.ret (e,s)
   |none=>.bad
 |_=>.bad
section
variable {f nt B:Nat} {gJ:Bool} {call:aY} {fH:eU X.Γ}
def dI(X:kC)(P:Program)(T:qy)(call:aY)(L f:Nat)(gJ:Bool)(nt B:Nat)(b:Code)(n:Nat)(ps:aS X.Γ)(e:Ex)(ps1:aS X.Γ):Prop:=
 ∀(A W:Nat->Prop) (fl:Nat) (m:List MB) (ts:St),SR X P A W fl m ps (jM (T.eH f (dR b)) ts)->∃iE m1,iter (fun s=>exec P T call L f gJ fl nt b (jM (T.eH f (dR b)) s)) n ts=some (e,iE)∧SR X P A W fl m1 ps1 iE∧Fr m ts.heap m1 iE.heap∧Lu B m m1
theorem Ug{b:Code}{n k:Nat}{ps:aS X.Γ}{e:Ex}{ps1:aS X.Γ}(h:dI X P T call L f gJ nt B b n ps e ps1)(hk:n<=k):dI X P T call L f gJ nt B b k ps e ps1:=fun A W fl m ts hS=>by
 obtain⟨iE,m1,h1,h2⟩:=h A W fl m ts hS;exact⟨iE,m1,Ue h1 hk,h2⟩
theorem zi{b:Code}{n:Nat}{s0 ps:aS X.Γ}{e:Ex}{ps1:aS X.Γ}(h:dI X P T call L f gJ nt B b n ps e ps1)(h0:gq X (T.eH f (dR b)) s0=ps)(hn:n<=L):dM X P T call L f gJ nt B (.loop b) s0 e ps1:=fun A W fl m ts hS=>by
 obtain⟨iE,m1,h1,h2⟩:=Ug h hn A W fl m ts (by rw[<-h0];exact hS.head _);exact⟨iE,m1,by simp only[exec];exact h1,h2⟩
def Rnd(X:kC)(P:Program)(T:qy)(call:aY)(L f:Nat)(gJ:Bool)(nt B:Nat)(b:Code)(n:Nat)(e:Ex)(s:aS X.Γ):Ex×aS X.Γ->Prop
 |(.norm,s')=>dI X P T call L f gJ nt B b n s' e s
 |(e',s')=>e'=e∧s'=s
theorem a0K{b:Code}{n:Nat}{e e':Ex}{s s':aS X.Γ}(hn:e'≠.norm)(h:Rnd X P T call L f gJ nt B b n e s (e',s')):e'=e∧s'=s:=by
 cases e' with
 |norm=>exact absurd rfl hn
 |exit id=>exact h
 |ret=>exact h
theorem round(hX:bK X P)(hO:jo X P call fH){b:Code}{n:Nat}{ps:aS X.Γ}{an:PT X.Γ}{e:Ex}{s:aS X.Γ}{o:OT (Ex×aS X.Γ)}
  (hk:jD X P T fH (aV X P call) (dM X P T call L f gJ nt B) B L f gJ nt b ps an (ae4 (gq X (T.eH f (dR b))) B)=o) (ht:Fp (Rnd X P T call L f gJ nt B b n e s) an o):dI X P T call L f gJ nt B b (n+1) ps e s:=by
 obtain⟨⟨e',s'⟩,h1,h2⟩:=ht.aO;rw[<-hk]at h1;intro A W fl m ts hS;obtain⟨e1,iE,BM,Kz,m1,g1,g2,g3,g4,g5⟩:=uY hX hO b hS h1;have out:∀{e1:Ex} {m2:List MB},exec P T call L f gJ fl nt b (jM (T.eH f (dR b)) ts)=some (e1,iE)->e1≠.norm->e1=e∧s'=s->SR X P A W fl m2 s' iE->Fr m ts.heap m2 iE.heap->Lu B m m2->∃iE m1,iter (fun s=>exec P T call L f gJ fl nt b (jM (T.eH f (dR b)) s)) (n+1) ts=some (e,iE)∧SR X P A W fl m1 s iE∧Fr m ts.heap m1 iE.heap∧Lu B m m1:=by
  intro e1 m2 ge hn hh q1 q2 q3;obtain⟨rfl,rfl⟩:=hh;refine⟨iE,m2,?_,q1,q2,q3⟩;cases e1 with
  |norm=>exact absurd rfl hn
  |exit id=>simp only[iter,ge]
  |ret=>simp only[iter,ge]
 have on:∀{m2:List MB},exec P T call L f gJ fl nt b (jM (T.eH f (dR b)) ts)=some (.norm,iE)->SR X P A W fl m2 s' (jM (T.eH f (dR b)) iE)->Fr m ts.heap m2 iE.heap->Lu B m m2->dI X P T call L f gJ nt B b n s' e s->∃iE m1,iter (fun s=>exec P T call L f gJ fl nt b (jM (T.eH f (dR b)) s)) (n+1) ts=some (e,iE)∧SR X P A W fl m1 s iE∧Fr m ts.heap m1 iE.heap∧Lu B m m1:=by
  intro m2 ge q1 q2 q3 hr;obtain⟨ts2,m3,r1,r2,r3,r4⟩:=hr A W fl m2 iE q1;exact⟨ts2,m3,by simp only[iter,ge,r1],r2,q2.trans r3,q3.trans r4⟩
 unfold ae4 at g2;split at g2
 .split at g2
  .cases g2;exact on g1 (g3.head _) g4 g5 h2
  .rename_i e1 iq;cases g2;exact out g1 (fun h=>iq h) (a0K (fun h=>iq h) h2) g3 g4 g5
 .split at g2
  .split at g2
   .rename_i hg;cases g2;obtain⟨m2,q1,q2,q3⟩:=mF hX hg _ _ _ _ _ (g3.head _);exact on g1 q1 (g4.trans q2) (g5.trans q3) h2
   .exact g2.elim
  .rename_i e1 iq;split at g2
   .rename_i hg;cases g2;obtain⟨m2,q1,q2,q3⟩:=mF hX hg _ _ _ _ _ g3;exact out g1 (fun h=>iq h) (a0K (fun h=>iq h) h2) q1 (g4.trans q2) (g5.trans q3)
   .exact g2.elim
 .exact g2.elim
end
structure Ar(X:kC)(P:Program)(α:Type) where
 put:α->PV X.Γ
 get:PV X.Γ->Option α
 ok:∀{v:PV X.Γ} {a:α},get v=some a->∀{A:Nat->Prop} {m:List MB} {h:List HB} {x:TV},VR X P A m h v x->VR X P A m h (put a) x
structure Uh(X:kC)(P:Program)(α:Type) where
 put:α->List (PV X.Γ)
 get:List (PV X.Γ)->Option α
 ok:∀{v:List (PV X.Γ)} {a:α},get v=some a->∀{A:Nat->Prop} {m:List MB} {h:List HB} {x:List TV},bU X P A m h v x->bU X P A m h (put a) x
def ae5(k:IntKind):Ar X P Int where
 put n:=.int k n
 get v:=match v with
  |.int k' n=>if k'=k then some n else none
  |_=>none
 ok:=by
  intro v a hg A m h x hv;split at hg
  .split at hg
   .rename_i e;subst e;cases hg;exact hv
   .cases hg
  .cases hg
def ahL:Ar X P Bool where
 put n:=.bool n
 get v:=match v with
  |.bool n=>some n
  |.lit n=>some n
  |_=>none
 ok:=by
  intro v a hg A m h x hv;split at hg
  .cases hg;exact hv
  .cases hg;exact Gs hv
  .cases hg
theorem VR.less{A:Nat->Prop}{m:List MB}{h:List HB}{t:Nat}{l:List (X.Γ t)}{fu:Bool}{x:TV}(hv:VR X P A m h (.dn t l fu) x):VR X P A m h (.dn t l false) x:=by
 cases hv with
 |gone hi _ _=>simp[bg]at hi
 |o7=>exact .o7
 |dn a c c2 s z o k f e r=>exact .dn a c c2 s z o k (fun h=>by cases h) e r
def a5G(t:Nat):Ar X P (List (X.Γ t)) where
 put l:=.dn t l false
 get v:=match v with
  |.dn t' l _=>Cb t t' l
  |.nil .slc=>some []
  |_=>none
 ok:=by
  intro v a hg A m h x hv;split at hg
  .obtain⟨rfl,rfl⟩:=um hg;exact hv.less
  .cases hg;cases hv with
   |nil=>exact .o7
   |gone hi _ _=>simp[bg]at hi
  .cases hg
def ahM(hX:bK X P)(t:Nat):Ar X P (X.Γ t) where
 put a:=.agg (X.enc t a)
 get v:=match v with
  |.agg cs=>X.dec t cs
  |_=>none
 ok:=by
  intro v a hg A m h x hv;split at hg
  .cases hv with
   |gone hi _ _=>simp[bg]at hi
   |agg h1 h2=>obtain⟨h3,h4⟩:=hX.dec hg ⟨h1,h2⟩;exact .agg h3 h4
  .cases hg
def fnA(f:FuncId):Ar X P Unit where
 put _:=.fn f [] []
 get v:=match v with
  |.fn g [] []=>if g=f then some ()else none
  |_=>none
 ok:=by
  intro v a hg A m h x hv;split at hg
  .split at hg
   .rename_i e;subst e;exact hv
   .cases hg
  .cases hg
def ae6:Uh X P Unit where
 put _:=[]
 get v:=match v with
  | []=>some ()
  |_=>none
 ok:=by
  intro v a hg A m h x hv;split at hg
  .exact hv
  .cases hg
def KA{α β:Type}(a:Ar X P α)(l:Uh X P β):Uh X P (α×β) where
 put x:=a.put x.1::l.put x.2
 get v:=match v with
  |v::vs=>match a.get v,l.get vs with
   |some x,some y=>some (x,y)
   |_,_=>none
  |_=>none
 ok:=by
  intro v x hg A m h xs hv;split at hg
  .split at hg
   .rename_i e1 e2;cases hg;obtain⟨y,r,rfl,h1,h2⟩:=hv.inv;exact .cons (a.ok e1 h1) (l.ok e2 h2)
   .cases hg
  .cases hg
def ahN{α:Type}(a:Ar X P α):Uh X P α where
 put x:=[a.put x]
 get v:=match v with
  | [v]=>a.get v
  |_=>none
 ok:=by
  intro v x hg A m h xs hv;split at hg
  .obtain⟨y,r,rfl,h1,h2⟩:=hv.inv;have:=h2.inv0;subst this;exact .cons (a.ok hg h1) .nil
  .cases hg
def dK{α:Type}(l:Uh X P α):Ar X P α where
 put x:=.dG (l.put x)
 get v:=match v with
  |.dG cs=>l.get cs
  |_=>none
 ok:=by
  intro v x hg A m h xs hv;split at hg
  .cases hv with
   |gone hi _ _=>simp[bg]at hi
   |dG h1 h2=>obtain⟨h3,h4⟩:=l.ok hg ⟨h1,h2⟩;exact .dG h3 h4
  .cases hg
def a5H{α:Type}(l:Uh X P α):Ar X P α where
 put x:=.agg (l.put x)
 get v:=match v with
  |.agg cs=>l.get cs
  |_=>none
 ok:=by
  intro v x hg A m h xs hv;split at hg
  .cases hv with
   |gone hi _ _=>simp[bg]at hi
   |agg h1 h2=>obtain⟨h3,h4⟩:=l.ok hg ⟨h1,h2⟩;exact .agg h3 h4
  .cases hg
def ae7{α β:Type}(a:Ar X P α)(f:α->β)(g:β->α)(hgf:∀x,g (f x)=x):Ar X P β where
 put x:=a.put (g x)
 get v:=match a.get v with
  |some x=>some (f x)
  |none=>none
 ok:=by
  intro v x hg A m h xs hv;split at hg
  .rename_i y hy;cases hg;rw[hgf];exact a.ok hy hv
  .cases hg
def Good(X:kC)(P:Program)(T:qy)(L:Nat)(fH:eU X.Γ):Prop:=∃N,∀n,N<=n->jo X P (kJ P T L n) fH
def a9p:eU X.Γ:=fun _ _=>none
def bZ{α β:Type}(f:FuncId)(a:Uh X P α)(r:Ar X P β)(S:α->β)(pre:α->List Prop)(fH:eU X.Γ):eU X.Γ:=fun g vs=>
 match Nat.beq g f with
 |true=>match a.get vs with
  |some x=>some (r.put (S x),[],pre x)
  |none=>fH g vs
 |false=>fH g vs
theorem Good.nil:Good X P T L (a9p (X:=X)):=⟨0,fun n _ f vs v ext ps h=>by cases h⟩
theorem Good.add{α β:Type}{f:FuncId}{a:Uh X P α}{r:Ar X P β}{S:α->β}{pre:α->List Prop}{fH:eU X.Γ}(hg:Good X P T L fH)
  (hf:∀n,jo X P (kJ P T L n) fH->∀x,(∀p∈pre x,p)->nR X P (kJ P T L (n+1)) f (a.put x) (r.put (S x)) []):Good X P T L (bZ f a r S pre fH):=by
 obtain⟨N,hN⟩:=hg;refine⟨N+1,fun n hn=>?_⟩;obtain⟨k,rfl⟩:∃k,n=k+1:=⟨n-1,by omega⟩;intro g vs v ext ps ho hp;unfold bZ at ho;split at ho
 .rename_i e;have e:=a8p e;subst e;split at ho
  .rename_i x hx;cases ho;intro A h first args cap I5 hv
   exact hf k (hN k (by omega)) x hp A h first args cap I5 (a.ok hx hv)
  .exact hN (k+1) (by omega) g vs v ext ps ho hp
 .exact hN (k+1) (by omega) g vs v ext ps ho hp
theorem Good.deep{α β:Type}{f:FuncId}{a:Uh X P α}{r:Ar X P β}{S:α->β}{pre:α->List Prop}{fH:eU X.Γ}(d:Nat)(hg:Good X P T L fH)
  (hf:∀n,d<=n->(∀m,n-d<=m->jo X P (kJ P T L m) fH)->∀x,(∀p∈pre x,p)->nR X P (kJ P T L (n+1)) f (a.put x) (r.put (S x)) []):Good X P T L (bZ f a r S pre fH):=by
 obtain⟨N,hN⟩:=hg;refine⟨N+d+1,fun n hn=>?_⟩;obtain⟨k,rfl⟩:∃k,n=k+1:=⟨n-1,by omega⟩;intro g vs v ext ps ho hp;unfold bZ at ho;split at ho
 .rename_i e;have e:=a8p e;subst e;split at ho
  .rename_i x hx;cases ho;intro A h first args cap I5 hv
   exact hf k (by omega) (fun m hm=>hN m (by omega)) x hp A h first args cap I5 (a.ok hx hv)
  .exact hN (k+1) (by omega) g vs v ext ps ho hp
 .exact hN (k+1) (by omega) g vs v ext ps ho hp
def Is{β:Type}(r:Ar X P β)(s:β):Option (PV X.Γ)->Prop:=fun v=>v=some (r.put s)∨∃w,v=some w∧r.get w=some s
theorem ahO{β:Type}(hX:bK X P){n f:Nat}{fH:eU X.Γ}(hO:jo X P (kJ P T L n) fH){vs:List (PV X.Γ)}{an:PT X.Γ}{r:Ar X P β}{s:β}{o:OT (Option (PV X.Γ))}
  (hk:(Ci X P T fH (aV X P (kJ P T L n)) (Bc X P T (kJ P T L n) L f 0) L f vs [] an).map frz=o) (ht:Fp (Is r s) an o):nR X P (kJ P T L (n+1)) f vs (r.put s) []:=
 by
 obtain⟨v,h1,h2⟩:=ht.aO;rw[<-hk]at h1;obtain⟨⟨v,H⟩,h3,rfl⟩:=OT.GL h1;rcases h2 with h2|⟨w,h2,h4⟩
 .exact Wx hX (Z5 hX (n:=n+1) (by omega) hO h3) h2
 .intro A h first args cap I5 hv
  obtain⟨x,h',m',c1,c2,c3,c4⟩:=Wx hX (Z5 hX (n:=n+1) (by omega) hO h3) h2 A h first args cap I5 hv
  exact⟨x,h',m',c1,c2,r.ok h4 c3,c4⟩
theorem Fp.rr{β:Type}{r:Ar X P β}{s:β}:Fp (Is r s) (.n:PT X.Γ) (.ret (some (r.put s))):=.r (.inl rfl)
theorem Fp.rn{β:Type}{r:Ar X P β}{s:β}(w:PV X.Γ)(h:r.get w=some s):Fp (Is r s) (.n:PT X.Γ) (.ret (some w)):=.r (.inr ⟨w,rfl,h⟩)
theorem Fp.ss{β:Type}{r:Ar X P β}{c:Bool}{t e:β}{a b:PT X.Γ}{x y:OT (Option (PV X.Γ))}(h1:Fp (Is r t) a x)(h2:Fp (Is r e) b y):Fp (Is r (if c=true then t else e)) (.s a b) (.br c x y):=
 .s (fun h=>by subst h;exact h1) (fun h=>by subst h;exact h2)
theorem Fp.sh{β:Type}{r:Ar X P β}{c:Bool}{t e:β}{a b:PT X.Γ}{x y:OT (Option (PV X.Γ))}(h1:c=true->Fp (Is r t) a x)(h2:c=false->Fp (Is r e) b y):Fp (Is r (if c=true then t else e)) (.s a b) (.br c x y):=
 .s (fun h=>by rw[a0V h];exact h1 h) (fun h=>by rw[a0S (by rw[h];simp)];exact h2 h)
theorem Fp.zh{β:Type}{r:Ar X P β}{c:Bool}{t e:β}{a b:PT X.Γ}{x y:OT (Option (PV X.Γ))}(h1:c=true->Fp (Is r t) a x)(h2:c=false->Fp (Is r e) b y):Fp (Is r (if c=true then t else e)) (.z c a b) (.br c x y):=
 .z (fun h=>by rw[a0V h];exact h1 h) (fun h=>by rw[a0S (by rw[h];simp)];exact h2 h)
theorem Fp.v{β:Type}{r:Ar X P β}{s:β}(u:β)(h:u=s):Fp (Is r s) (.n:PT X.Γ) (.ret (some (r.put u))):=.r (.inl (by rw[h]))
theorem Fp.k{τ:Type}{R:τ->Prop}{call:aY}{fv v:PV X.Γ}{xs:List (PV X.Γ)}{H H1:List (PB X.Γ)}{an:PT X.Γ}{o:OT τ}(h:aV X P call fv xs H v H1)(t:Fp R an o):Fp R (.a (.call v H1) an) (.o (aV X P call fv xs H v H1) o):=.c v H1 h t
theorem Fp.fr{τ:Type}{R:τ->Prop}{call:aY}{fv v:PV X.Γ}{xs:List (PV X.Γ)}{H H1:List (PB X.Γ)}{an:PT X.Γ}{o:OT τ}(ks:List Nat)(h:aV X P call fv xs H v H1)(t:Fp R an o):Fp R (.a (.fr ks v H1) an) (.o (aV X P call fv xs H v H1) o):=.kf ks v H1 h t
theorem Fp.PZ{τ:Type}{R:τ->Prop}{call:aY}{fv v:PV X.Γ}{xs:List (PV X.Γ)}{H H1 H2:List (PB X.Γ)}{an:PT X.Γ}{o:OT τ}(ks rs:List Nat)(h:aV X P call fv xs H v H1)(t:Fp R an o):Fp R (.a (.PZ ks rs v H2) an) (.o (aV X P call fv xs H v H1) o):=.kg ks rs v H2 h t
def IsS{β:Type}(r:Ar X P β)(s:β)(H:List (PB X.Γ)):PV X.Γ×List (PB X.Γ)->Prop:=fun v=>v=(r.put s,H)
theorem Fp.sr{β:Type}{r:Ar X P β}{s:β}{H:List (PB X.Γ)}:Fp (IsS r s H) (.n:PT X.Γ) (.ret (r.put s,H)):=.r rfl
theorem Fp.szh{β:Type}{r:Ar X P β}{H:List (PB X.Γ)}{c:Bool}{t e:β}{a b:PT X.Γ}{x y:OT (PV X.Γ×List (PB X.Γ))}(h1:c=true->Fp (IsS r t H) a x)(h2:c=false->Fp (IsS r e H) b y):Fp (IsS r (if c=true then t else e) H) (.z c a b) (.br c x y):=
 .z (fun h=>by rw[a0V h];exact h1 h) (fun h=>by rw[a0S (by rw[h];simp)];exact h2 h)
theorem Fp.ssh{β:Type}{r:Ar X P β}{H:List (PB X.Γ)}{c:Bool}{t e:β}{a b:PT X.Γ}{x y:OT (PV X.Γ×List (PB X.Γ))}(h1:c=true->Fp (IsS r t H) a x)(h2:c=false->Fp (IsS r e H) b y):Fp (IsS r (if c=true then t else e) H) (.s a b) (.br c x y):=
 .s (fun h=>by rw[a0V h];exact h1 h) (fun h=>by rw[a0S (by rw[h];simp)];exact h2 h)
theorem CO{β:Type}(hX:bK X P){n f:Nat}{fH:eU X.Γ}(hO:jo X P (kJ P T L n) fH){first xs cap:List (PV X.Γ)}{H H1:List (PB X.Γ)}{an:PT X.Γ}{r:Ar X P β}{s:β}{o:OT (PV X.Γ×List (PB X.Γ))}
  (hk:Ci X P T fH (aV X P (kJ P T L n)) (Bc X P T (kJ P T L n) L f H.length) L f (first++xs++cap) H an=o) (ht:Fp (IsS r s H1) an o):aV X P (kJ P T L (n+1)) (.fn f first cap) xs H (r.put s) H1:=by
 obtain⟨y,h1,h2⟩:=ht.aO;cases h2;rw[<-hk]at h1;exact a5F hX (n:=n+1) (by omega) hO h1
theorem LD(hX:bK X P){call:aY}{fH:eU X.Γ}(hO:jo X P call fH){f:FuncId}{first xs cap vs:List (PV X.Γ)}{v:PV X.Γ}{ps:List Prop}{H:List (PB X.Γ)}(hv:views H (first++xs++cap)=some vs)(ho:fH f vs=some (v,[],ps))(hp:∀p∈ps,p)(hl:xk v=false) :
  aV X P call (.fn f first cap) xs H (shift H.length v) H:=by
 intro A m h tf rO hr hf hx;cases hf with
 |gone hi _ _=>simp[bg]at hi
 |fn p1 p2 p3 p4=>
  obtain⟨w,h1,m1,e1,e2,e3,e4,e5⟩:=GI hX (hO f vs v [] ps ho hp) hr hv (ext':=[]) rfl ⟨p1,p2⟩ hx ⟨p3,p4⟩;simp only[hl,List.any_nil,Bool.or_self,a2H,a3x,a6h]at e2;exact⟨w,h1,[],m1,e1,e2,e3,e4,e5,fun b hb=>by cases hb⟩
def a1{α:Type}(a:Ar X P α):Uh X P α:=ahN a
def a2{α β:Type}(a:Ar X P α)(b:Ar X P β):Uh X P (α×β):=KA a (ahN b)
def a3{α β γ:Type}(a:Ar X P α)(b:Ar X P β)(c:Ar X P γ):Uh X P (α×β×γ):=KA a (a2 b c)
def a4{α β γ δ:Type}(a:Ar X P α)(b:Ar X P β)(c:Ar X P γ)(d:Ar X P δ):Uh X P (α×β×γ×δ):=KA a (a3 b c d)
def np{α:Type}:α->List Prop:=fun _=>[]
end
end Pv
namespace Tw
def lT{α σ ρ:Type}(step:Nat->α->σ->σ⊕ρ):List α->Nat->σ->σ⊕ρ
 | [],_,s=>.inl s
 |a::l,i,s=>match step i a s with
  |.inl s'=>lT step l (i+1) s'
  |.inr r=>.inr r
def jU{σ ρ:Type}:σ⊕ρ->Bool
 |.inl _=>true
 |.inr _=>false
def ahQ{σ ρ:Type}(d:σ):σ⊕ρ->σ
 |.inl s=>s
 |.inr _=>d
def CP{σ ρ:Type}(d:ρ):σ⊕ρ->ρ
 |.inl _=>d
 |.inr r=>r
def anx{σ:Type}:σ⊕Empty->σ
 |.inl s=>s
end Tw
namespace Pv
open Go Tw
def tV:Code->List Code
 |.seq a b=>tV a++tV b
 |.cond _ a b=>tV a++tV b
 |.block _ b=>tV b
 |.loop b=>b::tV b
 |.scope b=>tV b
 |.rangeFunc _ _ a b=>tV a++tV b
 |_=>[]
def Ry(P:Program)(f k:Nat):Code:=
 match Tc P f with
 |some t=>(tV t.body).getD k .skip
 |none=>.skip
theorem xY{k:Nat}(h:k<=ah):i64.wrap ((k:Int)+1)=((k+1:Nat):Int):=by
 simp only[IntKind.wrap,IntKind.bits,IntKind.signed];unfold ah at h;have:((k:Int)+1)%(2^64:Int)=(k:Int)+1:=a8h (by omega) (by omega);simp only[this];rw[a0S (by simp;omega)];omega
theorem aH{k n:Nat}(h:k<n):gW k n:=⟨by omega,by omega⟩
theorem bC{k n:Nat}(h:k<n):decide ((k:Int)<(n:Int))=true:=by simp[h]
theorem fD(n:Nat):decide ((n:Int)<(n:Int))=false:=by simp
section
variable {X:kC} {P:Program} {T:qy} {L:Nat} {f nt B:Nat} {gJ:Bool} {call:aY} {b:Code} {σ α ρ:Type}
theorem Fp.w{τ:Type}{R:τ->Prop}{c:Code}{e:Ex}{s s':aS X.Γ}{an:PT X.Γ}{o:OT τ}(h:dM X P T call L f gJ nt B c s e s')(t:Fp R an o):Fp R (.a (.lg [] e s') an) (.o (dM X P T call L f gJ nt B c s e s') o):=.l [] e s' h t
theorem Fp.wG{τ:Type}{R:τ->Prop}(gs:List G){c:Code}{e:Ex}{s s':aS X.Γ}{an:PT X.Γ}{o:OT τ}(h:dM X P T call L f gJ nt B c s e s')(t:Fp R an o):Fp R (.a (.lg gs e s') an) (.o (dM X P T call L f gJ nt B c s e s') o):=.l gs e s' h t
theorem Fp.go{n:Nat}{e:Ex}{s s':aS X.Γ}(h:dI X P T call L f gJ nt B b n s' e s):Fp (Rnd X P T call L f gJ nt B b n e s) (.n:PT X.Γ) (.ret (.norm,s')):=Fp.r (v:=(Ex.norm,s')) h
theorem Fp.goG{n:Nat}{e:Ex}{s s':aS X.Γ}(gs:List G)(h:dI X P T call L f gJ nt B b n s' e s):Fp (Rnd X P T call L f gJ nt B b n e s) (.a (.lg gs .norm ⟨[],[],[]⟩) .n:PT X.Γ) (.ret (.norm,s')):=Fp.g (v:=(Ex.norm,s')) gs h
theorem Fp.ex{n i:Nat}{s:aS X.Γ}:Fp (Rnd X P T call L f gJ nt B b n (.exit i) s) (.n:PT X.Γ) (.ret (.exit i,s)):=Fp.r (v:=(Ex.exit i,s)) ⟨rfl,rfl⟩
def cont(out:σ⊕ρ->Ex×aS X.Γ)(g:Nat->α->σ->σ⊕ρ)(l:List α)(i:Nat):σ⊕ρ->Ex×aS X.Γ
 |.inl s=>out (lT g l i s)
 |.inr r=>out (.inr r)
def Rn(X:kC)(P:Program)(T:qy)(call:aY)(L f:Nat)(gJ:Bool)(nt B:Nat)(b:Code)(n:Nat){τ:Type}(K:τ->Ex×aS X.Γ)(x:τ):Ex×aS X.Γ->Prop:=Rnd X P T call L f gJ nt B b n (K x).1 (K x).2
section
variable {τ:Type} {K:τ->Ex×aS X.Γ} {n:Nat}
theorem Fp.ls{c:Bool}{t e:τ}{a d:PT X.Γ}{x y:OT (Ex×aS X.Γ)}(h1:Fp (Rn X P T call L f gJ nt B b n K t) a x)(h2:Fp (Rn X P T call L f gJ nt B b n K e) d y):Fp (Rn X P T call L f gJ nt B b n K (if c=true then t else e)) (.s a d) (.br c x y):=
 .s (fun h=>by subst h;exact h1) (fun h=>by subst h;exact h2)
theorem Fp.nx{x:τ}{s':aS X.Γ}(h:dI X P T call L f gJ nt B b n s' (K x).1 (K x).2):Fp (Rn X P T call L f gJ nt B b n K x) (.n:PT X.Γ) (.ret (.norm,s')):=Fp.r (v:=(Ex.norm,s')) h
theorem Fp.nxG{x:τ}{s':aS X.Γ}(gs:List G)(h:dI X P T call L f gJ nt B b n s' (K x).1 (K x).2):Fp (Rn X P T call L f gJ nt B b n K x) (.a (.lg gs .norm ⟨[],[],[]⟩) .n:PT X.Γ) (.ret (.norm,s')):=Fp.g (v:=(Ex.norm,s')) gs h
theorem Fp.ou{x:τ}(h:(K x).1≠.norm):Fp (Rn X P T call L f gJ nt B b n K x) (.n:PT X.Γ) (.ret (K x)):=by
 refine Fp.r ?_;unfold Rn Rnd;split
 .rename_i e;rw[e]at h;exact absurd rfl h
 rename_i e;rw[e];exact⟨rfl,rfl⟩
theorem Fp.ouG{x:τ}(gs:List G)(h:(K x).1≠.norm):Fp (Rn X P T call L f gJ nt B b n K x) (.a (.lg gs .norm ⟨[],[],[]⟩) .n:PT X.Γ) (.ret (K x)):=by
 refine Fp.g gs ?_;unfold Rn Rnd;split
 .rename_i e;rw[e]at h;exact absurd rfl h
 rename_i e;rw[e];exact⟨rfl,rfl⟩
end
theorem Wy{l:List α}(d:α){st:Int->σ->aS X.Γ}{g:Nat->α->σ->σ⊕ρ}{out:σ⊕ρ->Ex×aS X.Γ}{s0:σ}{w:aS X.Γ}(Inv:Nat->σ->Prop)(h0:gq X (T.eH f (dR b)) w=st 0 s0)(hl:l.length<=ah)(hL:ah<L)(hi:Inv 0 s0)
  (hs:∀(k:Nat) (s:σ) (n:Nat),k<l.length->Inv k s->(∀s1,Inv (k+1) s1->dI X P T call L f gJ nt B b n (st (i64.wrap (k+1)) s1) (cont out g (l.drop (k+1)) (k+1) (.inl s1)).1 (cont out g (l.drop (k+1)) (k+1) (.inl s1)).2) ->
   dI X P T call L f gJ nt B b (n+1) (st k s) (cont out g (l.drop (k+1)) (k+1) (g k (l.getD k d) s)).1 (cont out g (l.drop (k+1)) (k+1) (g k (l.getD k d) s)).2)
  (ho:∀s,Inv l.length s->dI X P T call L f gJ nt B b 1 (st l.length s) (out (.inl s)).1 (out (.inl s)).2) :
  dM X P T call L f gJ nt B (.loop b) w (out (lT g l 0 s0)).1 (out (lT g l 0 s0)).2:=by
 have key:∀(m k:Nat) (s:σ),k+m=l.length->Inv k s->dI X P T call L f gJ nt B b (m+1) (st k s) (out (lT g (l.drop k) k s)).1 (out (lT g (l.drop k) k s)).2:=by
  intro m
  induction m with
  |zero=>
   intro k s hk hr;have:k=l.length:=(by omega);subst this;rw[List.drop_length];exact ho s hr
  |succ m ih=>
   intro k s hk hr;have aQ:k<l.length:=(by omega);have h1:=hs k s (m+1) aQ hr fun s1 h=>by
    have:=ih (k+1) s1 (by omega) h;rw[xY (by omega)];exact this
   have hd:l.getD k d=l[k]:=(by simp[List.getD,a0E aQ]);rw[a7R aQ];simp only[lT];rw[hd]at h1;cases hg:g k l[k] s with
   |inl s1=>rw[hg]at h1;exact h1
   |inr r=>rw[hg]at h1;exact h1
 exact zi (key l.length 0 s0 (by omega) hi) h0 (by omega)
theorem jV{c:Code}{w:aS X.Γ}{R:σ⊕ρ}{out:σ⊕ρ->Ex×aS X.Γ}(h:dM X P T call L f gJ nt B c w (out R).1 (out R).2)(d:σ)(hR:jU R=true):dM X P T call L f gJ nt B c w (out (.inl (ahQ d R))).1 (out (.inl (ahQ d R))).2:=by
 cases R with
 |inl s=>exact h
 |inr r=>cases hR
theorem jW{c:Code}{w:aS X.Γ}{R:σ⊕ρ}{out:σ⊕ρ->Ex×aS X.Γ}(h:dM X P T call L f gJ nt B c w (out R).1 (out R).2)(d:ρ)(hR:jU R=false):dM X P T call L f gJ nt B c w (out (.inr (CP d R))).1 (out (.inr (CP d R))).2:=by
 cases R with
 |inl s=>cases hR
 |inr r=>exact h
end
def Z7{Γ:Nat->Type}:PE Γ->Bool
 |.val _=>true
 |_=>false
def tX{Γ:Nat->Type}(env:List (Nat×PE Γ)):List Nat->List (PV Γ)->List (Nat×PE Γ)
 |p::ps,v::vs=>tX ((p,.val v)::env) ps vs
 |_,_=>env
section
variable {X:kC} {P:Program} {T:qy} {A W:Nat->Prop} {m m':List MB} {h h':List HB} {L f nt B:Nat}
theorem a5J{env:List (Nat×PE X.Γ)}{env':List (Nat×EV)}(he:jJ X P A m h env env')(hv:(env.all fun p=>Z7 p.2)=true):env'.all isVal=true:=by
 induction he with
 |nil=>rfl
 |cons h1 _ ih=>
  rename_i k v x r r' _;simp only[abn,a2r]at hv ⊢;refine⟨?_,ih hv.2⟩;cases v with
  |val v=>obtain⟨y,rfl,_⟩:=fK h1;rfl
  |_=>simp[Z7]at hv
theorem Rz:∀{ps:List Nat} {vs:List (PV X.Γ)} {xs:List TV} {env:List (Nat×PE X.Γ)} {env':List (Nat×EV)},jJ X P A m h env env'->bU X P A m h vs xs->jJ X P A m h (tX env ps vs) (su env' ps xs)
 | [],vs,xs,_,_,he,hv=>by simpa[tX,su]using he
 |p::ps,[],xs,_,_,he,hv=>by rw[hv.inv0];simpa[tX,su]using he
 |p::ps,v::vs,xs,_,_,he,hv=>by
  obtain⟨x,r,rfl,h1,h2⟩:=hv.inv;simp only[tX,su];exact Rz (jJ.cons (v:=.val v) (x:=.val x) h1 he) h2
theorem GN(hX:bK X P){n l:Nat}{xs:List (PV X.Γ)}{H:List (PB X.Γ)}{env:List (Nat×PE X.Γ)}{ps:List Nat}{uD body:Code}{jA:Option Code}{s1 s2:aS X.Γ}{e:Ex}
  {f' nt':Nat} {env':List (Nat×PE X.Γ)} {ps':List Nat} {a' b':Code} {abg:Option Code} {f'' ae8:Nat} {abu:List (Nat×PE X.Γ)} {ae9:List Nat} {a'' b'':Code}
  (hl:H[l]? = some (.loop true f nt env ps uD body jA)) (hlen:xs.length=ps.length) (hps:(ps.all fun p=>decide (p<nt))=true)
  (h1:dM X P T (kJ P T L n) L f true nt H.length uD ⟨tX env ps xs,[],H⟩ .norm s1) (hl1:s1.heap[l]? = some (.loop true f' nt' env' ps' a' b' abg))
  (h2:dM X P T (kJ P T L n) L f true nt H.length body { s1 with heap:=s1.heap.set l (.loop false f' nt' env' ps' a' b' none) } e s2)
  (Tn:s2.heap[l]? = some (.loop false f'' ae8 abu ae9 a'' b'' none)) :
  aV X P (kJ P T L (n+1)) (.jZ l) xs H (.bool (oO e)) (s2.heap.set l (.loop (oO e) f'' ae8 abu ae9 a'' b'' (sD e))):=by
 intro A m h tf rO hr hf hx;have aQ:l<H.length:=(a02.1 hl).1;obtain⟨mb,k1,k2⟩:=hr.at_ l _ hl;cases mb with
 |dn _=>exact k2.elim
 |jc _=>exact k2.elim
 |gone=>exact k2.elim
 |fP c=>
 obtain⟨te,k3,k4⟩:=k2;have Gz:c∈bn m:=aZ k1 rfl;cases hf with
 |gone hi Kq _=>simp only[bg,a01]at hi;subst hi;rw[k1]at Kq;cases Kq
 |jZ hy=>
 rw[k1]at hy;cases hy;have hS:SR X P A (fun b=>b∈bn m) h.length m ⟨tX env ps xs,[],H⟩ ⟨su te ps rO,[],h,[]⟩:=
  ⟨⟨hr,rfl,fun k cs hk=>by simp at hk,Rz (env:=env) (env':=te) k4 hx⟩,fun b hb=>.inl hb,fun b hb=>(by cases hb),a1J _⟩
 obtain⟨t1,m1,x1,x2,x3,x4⟩:=h1 A _ _ m _ hS;have at1:∀{M:List MB} {S:aS X.Γ} {TS:St} {W:Nat->Prop} {rd:Bool} {f0 n0:Nat} {ee:List (Nat×PE X.Γ)} {pp:List Nat} {aa bb:Code} {pe:Option Code},SR X P A W h.length M S TS->Lu H.length m M->S.heap[l]? = some (.loop rd f0 n0 ee pp aa bb pe)->M[l]? = some (.fP c)∧∃te,TS.heap[c]? = some (.loop rd f0 n0 te pp aa bb pe)∧jJ X P (AA A M) M TS.heap ee te:=by
  intro M S TS W rd f0 n0 ee pp aa bb pe hS hU hh;obtain⟨mb,j1,j2⟩:=hS.st.heap.at_ l _ hh;rcases hU l _ aQ k1 with e|e
  .rw[e]at j1;cases j1;obtain⟨te,j3,j4⟩:=j2;exact⟨e,te,j3,j4⟩
  .rw[e]at j1;cases j1;exact j2.elim
 have ahS:∀{M:List MB} {S:aS X.Γ} {TS:St} {W:Nat->Prop} {rd:Bool} {f0 n0:Nat} {ee:List (Nat×PE X.Γ)} {pp:List Nat} {aa bb:Code} {pe:Option Code} (rd':Bool) (pe':Option Code),SR X P A W h.length M S TS->Lu H.length m M->S.heap[l]? = some (.loop rd f0 n0 ee pp aa bb pe)->∃te,TS.heap[c]? = some (.loop rd f0 n0 te pp aa bb pe)∧HR X P A M (S.heap.set l (.loop rd' f0 n0 ee pp aa bb pe')) (TS.heap.set c (.loop rd' f0 n0 te pp aa bb pe'))∧Fr M TS.heap M (TS.heap.set c (.loop rd' f0 n0 te pp aa bb pe')):=by
  intro M S TS W rd f0 n0 ee pp aa bb pe rd' pe' hS hU hh;obtain⟨j1,te,j3,j4⟩:=at1 hS hU hh;obtain⟨s1,s2⟩:=hS.st.heap.set (i:=l) (c:=c) (pb:=.loop rd' f0 n0 ee pp aa bb pe') (hb:=.loop rd' f0 n0 te pp aa bb pe') j1 rfl (fun cs hc=>by unfold aU at hc;rw[j3]at hc;cases hc) (fun hF=>⟨te,by rw[a1V (a02.1 j3).1],j4.step hF .refl⟩);exact⟨te,j3,s1,s2⟩
 obtain⟨te1,y1,y2,y3⟩:=ahS false none x2 x4 hl1;have hS1:SR X P A (fun b=>b∈bn m) h.length m1 { s1 with heap:=s1.heap.set l (.loop false f' nt' env' ps' a' b' none) } { t1 with heap:=t1.heap.set c (.loop false f' nt' te1 ps' a' b' none),ws:=DZ h.length c t1.ws }:=by
  have q:=x2.st.step y2 y3 .refl;refine⟨⟨q.heap,q.llen,q.loc,q.env⟩,x2.own,fun b hb=>?_,a4p x2.fl y3.len⟩;rcases vJ (ks:=[.h c]) hb with k|⟨k,_⟩
  .exact x2.ws b k
  .simp at k;subst k;exact Gz
 obtain⟨t2,m2,z1,z2,z3,z4⟩:=h2 A _ _ m1 _ hS1;obtain⟨te2,u1,u2,u3⟩:=ahS (oO e) (sD e) z2 (x4.trans z4) Tn;have hF:=(x3.trans y3).trans (z3.trans u3);refine⟨.bool (oO e),t2.heap.set c (.loop (oO e) f'' ae8 te2 ae9 a'' b'' (sD e)),DZ h.length c t2.ws,m2,?_,u2,.bool _,hF,fun i mb hi=>(x4.trans z4) i mb ?_ hi,fun b hb=>?_⟩
 .have hl':rO.length=ps.length:=by rw[<-hx.1,hlen]
  simp only[kJ,ap,MJ,k3,hl',hps,acG,a2D,x1,y1,z1,u1]
 .rw[<-hr.len];exact(a02.1 hi).1
 .rcases vJ (ks:=[.h c]) hb with k|⟨k,_⟩
  .exact z2.ws b k
  .simp at k;subst k;exact Gz
abbrev gB(B:Nat):Nat->Option Nat:=fun i=>if i<B then some i else(wo [] i).map (·+B)
theorem zk{g:Nat->Option Nat}:∀{a:List (PV X.Γ)},(∀(i:Nat) x,a[i]? = some x->fG g x=some x)->fG.oL g a=some a
 | [],_=>rfl
 |c::cs,h=>by
  simp only[fG.oL,h 0 c rfl,zk (a:=cs) fun i x hi=>h (i+1) x (by simpa using hi)]
theorem GR{α β:Type}{a:List α}{b:List β}(hl:a.length=b.length){i:Nat}{x:α}(hi:a[i]? = some x):∃y,b[i]? = some y:=by
 have:i<b.length:=by rw[<-hl];exact(a02.1 hi).1
 exact⟨b[i],a0E this⟩
theorem Ui{v:PV X.Γ}{x:TV}(hv:VR X P A m h v x){B:Nat}(hB:m.length<=B):fG (gB B) v=some v:=by
 have key:∀{b:Nat} {mb:MB},m[b]? = some mb->gB B b=some b:=fun e=>by
  have:=(a02.1 e).1;simp only[gB];rw[a0V (by omega)]
 induction hv with
 |bool=>rfl
 |lit=>rfl
 |int=>rfl
 |str=>rfl
 |nil=>rfl
 |ptr e=>simp only[fG,key e,a1z]
 |slc e=>simp only[fG,key e,a1z]
 |own e _=>simp only[fG,key e,a1z]
 |win e _ _=>simp only[fG,key e,a1z]
 |zZ e=>simp only[fG,key e,a1z]
 |map e=>simp only[fG,key e,a1z]
 |iter e=>simp only[fG,key e,a1z]
 |jZ e=>simp only[fG,key e,a1z]
 |row e _ _=>simp only[fG,key e,a1z]
 |o7=>rfl
 |dn=>rfl
 |el=>rfl
 |fn h1 _ h3 _ i2 i4=>
  simp only[fG];rw[zk fun i x hi=>let ⟨y,hy⟩:=GR h1 hi;i2 i x y hi hy,zk fun i x hi=>let ⟨y,hy⟩:=GR h3 hi;i4 i x y hi hy]
 |agg h1 _ i2=>simp only[fG];rw[zk fun i x hi=>let ⟨y,hy⟩:=GR h1 hi;i2 i x y hi hy];rfl
 |dG h1 _ i2=>simp only[fG];rw[zk fun i x hi=>let ⟨y,hy⟩:=GR h1 hi;i2 i x y hi hy];rfl
 | @gone v i x hi e _=>
  have:=key (b:=i) (mb:=(m[i]?).getD .gone) (by cases q:m[i]? with|none=>rw[q]at e;cases e|some y=>rfl);cases v<;>simp only[bg,a01]at hi<;>first|(subst hi;simp only[fG,this,a1z])|cases hi
theorem a0L{v:List (PV X.Γ)}{x:List TV}(hv:bU X P A m h v x){B:Nat}(hB:m.length<=B):fG.oL (gB B) v=some v:=
 zk fun i a hi=>let ⟨y,hy⟩:=GR hv.1 hi;Ui (hv.2 i a y hi hy) hB
theorem a5K{v:List (Nat×PE X.Γ)}{x:List (Nat×EV)}(hv:jJ X P A m h v x){B:Nat}(hB:m.length<=B):oK (gB B) v=some v:=by
 induction hv with
 |nil=>rfl
 |cons h1 _ ih=>
  rename_i k v x r r' _;simp only[oK,ih];cases v with
  |val v=>obtain⟨y,rfl,h2⟩:=fK h1;simp only[NS,Ui h2 hB,a1z]
  |ent r j v=>
   obtain⟨c,y,rfl,h2,_⟩:=Lj h1;have:=Ui h2 hB;simp only[fG,a0D,PV.map.injEq,exists_eq_right]at this;simp only[NS,this,a1z]
  |DY r j=>
   obtain⟨c,rfl,h2⟩:=Ll h1;have:=Ui h2 hB;simp only[fG,a0D,PV.map.injEq,exists_eq_right]at this;simp only[NS,this,a1z]
  |_=>rfl
theorem a9r{b:PB X.Γ}{mb:MB}(hb:BR X P A m h b mb){B:Nat}(hB:m.length<=B):yX (gB B) b=some b:=by
 cases b with
 |cells cs=>
  cases mb with
  |fP c=>obtain⟨_,_,h2⟩:=hb;simp only[yX,a0L h2 hB,a1z]
  |_=>exact hb.elim
 |aC cs=>
  cases mb with
  |jc c=>obtain⟨_,_,_,h2⟩:=hb;simp only[yX,a0L h2 hB,a1z]
  |_=>exact hb.elim
 |map es=>rfl
 |cu r n seen=>
  cases mb with
  |fP c=>
   obtain⟨_,_,h2,_⟩:=hb;obtain⟨mb,h3⟩:=a4q.1 h2;have aQ:r<B:=a8K (a02.1 h3).1 hB;have:gB B r=some r:=(by simp[gB,aQ]);simp only[yX,this,a1z]
  |_=>exact hb.elim
 |loop=>
  cases mb with
  |fP c=>obtain⟨_,_,h2⟩:=hb;simp only[yX,a5K h2 hB,a1z]
  |_=>exact hb.elim
 |_=>rfl
theorem WA{B:Nat}:∀{H:List (PB X.Γ)},(∀(i:Nat) b,H[i]? = some b->yX (gB B) b=some b)->ni (gB B) H=some H
 | [],_=>rfl
 |c::cs,h=>by
  simp only[ni,h 0 c rfl,WA (H:=cs) fun i x hi=>h (i+1) x (by simpa using hi)]
theorem aV.drop(hX:bK X P){call:aY}{fv:PV X.Γ}{xs:List (PV X.Γ)}{H H1:List (PB X.Γ)}{v:PV X.Γ}(hs:aV X P call fv xs H v H1)(h1:H1.take H.length=H)(hv:fG (gB H.length) v=some v):aV X P call fv xs H v H:=by
 intro A m h tf rO hr hf hx;obtain⟨w,h',ws,m1,c1,c2,c3,c4,c5,c6⟩:=hs A m h tf rO hr hf hx;have hg:kT H.length [.gc []] (⟨[(0,.val v)],[],H1⟩:aS X.Γ)=some ⟨[(0,.val v)],[],H⟩:=by
  have hb:ni (gB H.length) H=some H:=WA fun i b hi=>let ⟨mb,_,h2⟩:=hr.at_ i b hi;a9r h2 (agf hr.len)
  have hl:H.length<=H1.length:=by have:=congrArg List.length h1;simp at this;omega
  have e:oK (gB H.length) [(0,PE.val v)]=some [(0,.val v)]:=by simp only[oK,NS,hv,a1z]
  have qA:ni (fun i=>if i<H.length then some i else(wo [] i).map (·+H.length)) H=some H:=hb;have e':oK (fun i=>if i<H.length then some i else(wo [] i).map (·+H.length)) [(0,PE.val v)]=some [(0,.val v)]:=e;simp only[kT,Ba,List.all_nil,a6a,decide_true,Bool.and_self,acW,hl,a2D,e',VO,h1,qA,Ce,ni,a6h]
 obtain⟨m2,q1,q2,q3⟩:=mF hX hg A (fun _=>True) 0 m1 ⟨[(0,.val w)],[],h',[]⟩ ⟨⟨c2,rfl,fun k cs hk=>by simp at hk,.cons c3 .nil⟩,fun b _=>.inl trivial,fun b hb=>(by cases hb),a4A _⟩;obtain⟨w',e1,e2⟩:=o8 q1.st.env (t:=0) (v:=.val v) rfl;simp only[dL,a2D,a01]at e1;subst e1;refine⟨w,h',ws,m2,c1,q1.st.heap,e2,c4.trans q2,fun i mb hi=>?_,c6⟩;have aQ:i<H.length:=by rw[<-hr.len];exact(a02.1 hi).1
 rcases c5 i mb hi with g|g
 .exact q3 i mb aQ g
 rcases q3 i _ aQ g with g|g<;>exact .inr g
end
section
variable {X:kC} {P:Program}
theorem aV.frame(hX:bK X P){call:aY}{ks:List Nat}{H' Hp H H1 Py:List (PB X.Γ)}{fv fv' v v':PV X.Γ}{xs xs':List (PV X.Γ)}(hs:aV X P call fv xs H v H1)
  (jk:ks.Nodup) (hp:Ce H' ks=some Hp) (hH:ni (wo ks) Hp=some H) (hf:fG (wo ks) fv'=some fv) (hx:fG.oL (wo ks) xs'=some xs)
  (hv:fG (bk ks H'.length) v=some v') (hH1:ni (bk ks H'.length) H1=some Py) (hro:Ir (H1.drop ks.length)=true) :
  aV X P call fv' xs' H' v' (putAt ks Py H'++Py.drop ks.length):=fun A m' h tf rO hr hf' EK=>by
 obtain⟨w,h1,ws,m1,c1,c2,c3,c4,c5,c6⟩:=IE hX hs.w jk hp hH hf hx hv hH1 hro A m' h tf rO hr hf' EK;exact⟨w,h1,ws,m1,c1,c2,c3,c4,c5,fun b hb=>by obtain⟨_,k,_,_,mb,h8,h9⟩:=c6 b hb;exact aZ h8 h9⟩
end
def itF{σ ρ:Type}(g:σ->σ⊕ρ):Nat->σ->Option ρ
 | 0,_=>none
 |k+1,s=>match g s with
  |.inl s1=>itF g k s1
  |.inr r=>some r
section
variable {X:kC} {P:Program} {T:qy} {L:Nat} {f nt B:Nat} {gJ:Bool} {call:aY} {b:Code} {σ ρ:Type}
def CQ(out:ρ->Ex×aS X.Γ)(r:ρ):σ⊕ρ->Ex×aS X.Γ
 |.inl _=>out r
 |.inr r'=>out r'
theorem a5L{st:σ->aS X.Γ}{g:σ->σ⊕ρ}{out:ρ->Ex×aS X.Γ}(Inv:σ->Prop)(hi:∀s s1,Inv s->g s=.inl s1->Inv s1)
  (hs:∀s n r,Inv s->(∀s1,g s=.inl s1->dI X P T call L f gJ nt B b n (st s1) (out r).1 (out r).2)->dI X P T call L f gJ nt B b (n+1) (st s) (CQ out r (g s)).1 (CQ out r (g s)).2) :
  ∀{k:Nat} {s:σ} {r:ρ},Inv s->itF g k s=some r->dI X P T call L f gJ nt B b k (st s) (out r).1 (out r).2
 | 0,s,r,_,h=>by cases h
 |k+1,s,r,hv,h=>by
  simp only[itF]at h;have h1:=hs s k r hv fun s1 h1=>by
   rw[h1]at h;exact a5L Inv hi hs (hi s s1 hv h1) h
  cases hg:g s with
  |inl s1=>rw[hg]at h1;exact h1
  |inr r'=>rw[hg]at h1 h;simp only[a01]at h;subst h;exact h1
theorem aea{st:σ->aS X.Γ}{g:σ->σ⊕ρ}{out:ρ->Ex×aS X.Γ}(Inv:σ->Prop){k:Nat}{s:σ}{r:ρ}{w:aS X.Γ}(hr:itF g k s=some r)(h0:gq X (T.eH f (dR b)) w=st s)(hk:k<=L)(hv:Inv s)(hi:∀s s1,Inv s->g s=.inl s1->Inv s1)
  (hs:∀s n r,Inv s->(∀s1,g s=.inl s1->dI X P T call L f gJ nt B b n (st s1) (out r).1 (out r).2)->dI X P T call L f gJ nt B b (n+1) (st s) (CQ out r (g s)).1 (CQ out r (g s)).2) :
  dM X P T call L f gJ nt B (.loop b) w (out r).1 (out r).2:=zi (a5L Inv hi hs hv hr) h0 hk
end
section
variable {X:kC} {P:Program} {T:qy} {L:Nat}
def Z8{α:Type}(f:FuncId)(a:Uh X P α)(v:α->PV X.Γ)(ext:α->List (PB X.Γ))(pre:α->List Prop)(fH:eU X.Γ):eU X.Γ:=fun g vs=>
 match Nat.beq g f with
 |true=>match a.get vs with
  |some x=>some (v x,ext x,pre x)
  |none=>fH g vs
 |false=>fH g vs
theorem Good.WB{α:Type}{f:FuncId}{a:Uh X P α}{v:α->PV X.Γ}{ext:α->List (PB X.Γ)}{pre:α->List Prop}{fH:eU X.Γ}(d:Nat)(hg:Good X P T L fH)
  (hf:∀n,d<=n->(∀m,n-d<=m->jo X P (kJ P T L m) fH)->∀x,(∀p∈pre x,p)->nR X P (kJ P T L (n+1)) f (a.put x) (v x) (ext x)):Good X P T L (Z8 f a v ext pre fH):=by
 obtain⟨N,hN⟩:=hg;refine⟨N+d+1,fun n hn=>?_⟩;obtain⟨k,rfl⟩:∃k,n=k+1:=⟨n-1,by omega⟩;intro g vs v ext ps ho hp;unfold Z8 at ho;split at ho
 .rename_i e;have e:=a8p e;subst e;split at ho
  .rename_i x hx;cases ho;intro A h first args cap I5 hv
   exact hf k (by omega) (fun m hm=>hN m (by omega)) x hp A h first args cap I5 (a.ok hx hv)
  .exact hN (k+1) (by omega) g vs v ext ps ho hp
 .exact hN (k+1) (by omega) g vs v ext ps ho hp
def IsE(v:PV X.Γ)(H:List (PB X.Γ)):PV X.Γ×List (PB X.Γ)->Prop:=fun y=>y=(v,H)
theorem Fp.er{v:PV X.Γ}{H:List (PB X.Γ)}:Fp (IsE v H) (.n:PT X.Γ) (.ret (v,H)):=.r rfl
theorem Bd(hX:bK X P){n f:Nat}{fH:eU X.Γ}(hO:jo X P (kJ P T L n) fH){vs:List (PV X.Γ)}{an:PT X.Γ}{v:PV X.Γ}{H:List (PB X.Γ)}{o:OT (PV X.Γ×List (PB X.Γ))}
  (hk:Ci X P T fH (aV X P (kJ P T L n)) (Bc X P T (kJ P T L n) L f 0) L f vs [] an=o) (ht:Fp (IsE v H) an o):nR X P (kJ P T L (n+1)) f vs v H:=by
 obtain⟨y,h1,h2⟩:=ht.aO;cases h2;rw[<-hk]at h1;exact Z5 hX (n:=n+1) (by omega) hO h1
end
section
variable {X:kC} {P:Program} {T:qy} {L:Nat}
theorem qU(hX:bK X P){n f:Nat}{fH:eU X.Γ}(hO:jo X P (kJ P T L n) fH){first xs cap:List (PV X.Γ)}{H H1:List (PB X.Γ)}{v:PV X.Γ}{an:PT X.Γ}{o:OT (PV X.Γ×List (PB X.Γ))}
  (hk:Ci X P T fH (aV X P (kJ P T L n)) (Bc X P T (kJ P T L n) L f H.length) L f (first++xs++cap) H an=o) (ht:Fp (IsE v H1) an o):aV X P (kJ P T L (n+1)) (.fn f first cap) xs H v H1:=by
 obtain⟨y,h1,h2⟩:=ht.aO;cases h2;rw[<-hk]at h1;exact a5F hX (n:=n+1) (by omega) hO h1
end
theorem Good.WC{X:kC}{P:Program}{T:qy}{L:Nat}{α β:Type}{f:FuncId}{a:Uh X P α}{r:Ar X P β}{S:α->β}{pre:α->List Prop}{fH WE:eU X.Γ}(d:Nat)(hg:Good X P T L fH)(hg2:Good X P T L WE)
  (hf:∀n,d<=n->(∀m,n-d<=m->jo X P (kJ P T L m) fH)->(∀m,n-d<=m->jo X P (kJ P T L m) WE)->∀x,(∀p∈pre x,p)->nR X P (kJ P T L (n+1)) f (a.put x) (r.put (S x)) []):Good X P T L (bZ f a r S pre fH):=by
 obtain⟨N2,hN2⟩:=hg2;obtain⟨M,hM⟩:=hg;refine⟨M+N2+d+1,fun n hn=>?_⟩;obtain⟨k,rfl⟩:∃k,n=k+1:=⟨n-1,by omega⟩;intro g vs v ext ps ho hp;unfold bZ at ho;split at ho
 .rename_i e;have e:=a8p e;subst e;split at ho
  .rename_i x hx;cases ho;intro A h first args cap I5 hv
   exact hf k (by omega) (fun m hm=>hM m (by omega)) (fun m hm=>hN2 m (by omega)) x hp A h first args cap I5 (a.ok hx hv)
  .exact hM (k+1) (by omega) g vs v ext ps ho hp
 .exact hM (k+1) (by omega) g vs v ext ps ho hp
section
variable {X:kC} {P:Program}
theorem aV.gs(hX:bK X P){call:aY}{fv:PV X.Γ}{xs:List (PV X.Γ)}{H H1 H2:List (PB X.Γ)}{v v':PV X.Γ}(hs:aV X P call fv xs H v H1)(gs:List G)(hg:kT H.length gs (⟨[(0,.val v)],[],H1⟩:aS X.Γ)=some ⟨[(0,.val v')],[],H2⟩):aV X P call fv xs H v' H2:=by
 intro A m h tf rO hr hf hx;obtain⟨w,h',ws,m1,c1,c2,c3,c4,c5,c6⟩:=hs A m h tf rO hr hf hx;obtain⟨m2,q1,q2,q3⟩:=mF hX hg A (fun _=>True) 0 m1 ⟨[(0,.val w)],[],h',[]⟩ ⟨⟨c2,rfl,fun k cs hk=>by simp at hk,.cons c3 .nil⟩,fun b _=>.inl trivial,fun b hb=>(by cases hb),a4A _⟩;obtain⟨w',e1,e2⟩:=o8 q1.st.env (t:=0) (v:=.val v') rfl;simp only[dL,a2D,a01]at e1;subst e1;refine⟨w,h',ws,m2,c1,q1.st.heap,e2,c4.trans q2,fun i mb hi=>?_,c6⟩;have aQ:i<H.length:=by rw[<-hr.len];exact(a02.1 hi).1
 rcases c5 i mb hi with g|g
 .exact q3 i mb aQ g
 rcases q3 i _ aQ g with g|g<;>exact .inr g
theorem aV.cut(hX:bK X P){call:aY}{fv:PV X.Γ}{xs:List (PV X.Γ)}{H H1 H2:List (PB X.Γ)}{v:PV X.Γ}(hs:aV X P call fv xs H v H1)(h1:H1.take H.length=H2)(hb:ni (gB H.length) H2=some H2)(hl:decide (H.length<=H1.length)=true)(hv:fG (gB H.length) v=some v):aV X P call fv xs H v H2:=by
 intro A m h tf rO hr hf hx;obtain⟨w,h',ws,m1,c1,c2,c3,c4,c5,c6⟩:=hs A m h tf rO hr hf hx;have hl:=a7Q hl;have hg:kT H.length [.gc []] (⟨[(0,.val v)],[],H1⟩:aS X.Γ)=some ⟨[(0,.val v)],[],H2⟩:=by
  have e:oK (gB H.length) [(0,PE.val v)]=some [(0,.val v)]:=by simp only[oK,NS,hv,a1z]
  have qA:ni (fun i=>if i<H.length then some i else(wo [] i).map (·+H.length)) H2=some H2:=hb;have e':oK (fun i=>if i<H.length then some i else(wo [] i).map (·+H.length)) [(0,PE.val v)]=some [(0,.val v)]:=e;simp only[kT,Ba,List.all_nil,a6a,decide_true,Bool.and_self,acW,hl,a2D,e',VO,h1,qA,Ce,ni,a6h]
 obtain⟨m2,q1,q2,q3⟩:=mF hX hg A (fun _=>True) 0 m1 ⟨[(0,.val w)],[],h',[]⟩ ⟨⟨c2,rfl,fun k cs hk=>by simp at hk,.cons c3 .nil⟩,fun b _=>.inl trivial,fun b hb=>(by cases hb),a4A _⟩;obtain⟨w',e1,e2⟩:=o8 q1.st.env (t:=0) (v:=.val v) rfl;simp only[dL,a2D,a01]at e1;subst e1;refine⟨w,h',ws,m2,c1,q1.st.heap,e2,c4.trans q2,fun i mb hi=>?_,c6⟩;have aQ:i<H.length:=by rw[<-hr.len];exact(a02.1 hi).1
 rcases c5 i mb hi with g|g
 .exact q3 i mb aQ g
 rcases q3 i _ aQ g with g|g<;>exact .inr g
end
section
variable {X:kC} {P:Program} {T:qy} {L f nt B:Nat} {gJ:Bool} {call:aY} {fH:eU X.Γ}
theorem xZ(hX:bK X P)(hO:jo X P call fH){c:Code}{ps ps1:aS X.Γ}{an:PT X.Γ}{e:Ex}{o:OT (Ex×aS X.Γ)}
  (hk:jD X P T fH (aV X P call) (dM X P T call L f gJ nt B) B L f gJ nt c ps an ae3=o) (ht:Fp (fun y=>y=(e,ps1)) an o):dM X P T call L f gJ nt B c ps e ps1:=by
 obtain⟨y,h1,rfl⟩:=ht.aO;rw[<-hk]at h1;exact Wv hX hO h1
theorem Fp.xx{y:Ex×aS X.Γ}:Fp (fun z=>z=y) (.n:PT X.Γ) (.ret y):=.r rfl
end
theorem aV.forget{X:kC}{P:Program}{call:aY}{fv:PV X.Γ}{xs:List (PV X.Γ)}{H H1:List (PB X.Γ)}{v:PV X.Γ}(hs:aV X P call fv xs H v H1)(i:Nat):aV X P call fv xs H v (H1.set i .gone):=by
 intro A m h tf rO hr hf hx;obtain⟨w,h',ws,m1,c1,c2,c3,c4,c5,c6⟩:=hs A m h tf rO hr hf hx;have hg:=c2.aX [i];have hf2:=gY (h:=h') [i] m1;exact⟨w,h',ws,_,c1,hg,c3.step hf2.1 hf2.2,c4.trans hf2.1,c5.trans hf2.2,c6⟩
theorem qV{X:kC}{P:Program}(hX:bK X P){call:aY}{fH:eU X.Γ}(hO:jo X P call fH){f:FuncId}{first xs cap vs:List (PV X.Γ)}{v:PV X.Γ}{ps:List Prop}{H:List (PB X.Γ)}(hv:views H (first++xs++cap)=some vs)(ho:fH f vs=some (v,[],ps))(hp:∀p∈ps,p)(hl:xk v=true) :
  aV X P call (.fn f first cap) xs H (shift H.length v) (aX (kF.jR (first++xs++cap)) H):=by
 intro A m h tf rO hr hf hx;cases hf with
 |gone hi _ _=>simp[bg]at hi
 |fn p1 p2 p3 p4=>
  obtain⟨w,h1,m1,e1,e2,e3,e4,e5⟩:=GI hX (hO f vs v [] ps ho hp) hr hv (ext':=[]) rfl ⟨p1,p2⟩ hx ⟨p3,p4⟩;simp only[hl,List.any_nil,Bool.true_or,a2D,a6h]at e2;exact⟨w,h1,[],m1,e1,e2,e3,e4,e5,fun b hb=>by cases hb⟩
section
variable {X:kC} {P:Program} {A:Nat->Prop} {m:List MB} {h:List HB}
theorem VR.a0M{k:IntKind}{n:Int}{y:TV}(hy:VR X P A m h (.int k n) y):y=.int k n:=by
 cases hy with
 |int=>rfl
 |gone hi _ _=>simp[bg]at hi
theorem VR.Uj{f:FuncId}{y:TV}(hy:VR X P A m h (.fn f [] []) y):y=.fn f [] []:=by
 cases hy with
 |gone hi _ _=>simp[bg]at hi
 |fn p1 _ p3 _=>rw[a3F p1.symm,a3F p3.symm]
theorem aeb{k ex:Bool}{t:Nat}{l:List (X.Γ t)}{x:TV}(hl:LR X P A m h k ex t l x):(l=[]∧x=.nil .slc)∨(l=[]∧∃b off sz cs,x=.slc b off 0 0 sz true∧A b∧aU h b=some cs∧off<=cs.length∧dw P t=some sz∧0<sz) ∨
  (l≠[]∧∃b sz e kk cs,x=.slc b 0 l.length l.length sz e∧dw P t=some sz∧0<sz∧h[b]? = some (.cells kk cs)∧kk≠.ro∧(k=true->kk=.own)∧(ex=true->e=true)∧cs.length=l.length*sz∧dV X P A m h t l cs 0 sz):=by
 cases hl with
 |nil=>exact .inl ⟨rfl,rfl⟩
 |emp p0 p1 p2 p3 p4=>exact .inr (.inl ⟨rfl,_,_,_,_,rfl,p0,p1,p2,p3,p4⟩)
 |some p1 p2 p3 p4 p5 p6 p7 p8 p9=>exact .inr (.inr ⟨p1,_,_,_,_,_,rfl,p2,p3,p4,p5,p6,p7,p8,p9⟩)
theorem a9t{H:List (PB X.Γ)}{i:Nat}{x:TV}{k ex:Bool}{t:Nat}{l:List (X.Γ t)}(hr:HR X P A m H h)(hi:H[i]? = some (.list k ex t l))(hv:VR X P (AA A m) m h (.own i) x):m[i]? = some (.dn x)∧LR X P (AA A m) m h k ex t l x:=by
 obtain⟨mb,g1,g2⟩:=hr.at_ i _ hi;cases hv with
 |own e _=>
  rw[g1]at e;cases e;exact⟨g1,g2⟩
 |gone Kq e _=>
  simp only[bg,a01]at Kq;subst Kq;rw[g1]at e;cases e<;>exact g2.elim
end
section
variable {X:kC} {P:Program}
theorem nR.gs(hX:bK X P){call:aY}{f:FuncId}{vs:List (PV X.Γ)}{v v':PV X.Γ}{ext ext':List (PB X.Γ)}(hc:nR X P call f vs v ext)(gs:List G)(hg:kT 0 gs (⟨[(0,.val v)],[],ext⟩:aS X.Γ)=some ⟨[(0,.val v')],[],ext'⟩):nR X P call f vs v' ext':=by
 intro A h first args cap I5 hv
 obtain⟨w,h',m',c1,c2,c3,c4⟩:=hc A h first args cap I5 hv
 obtain⟨m2,q1,q2,q3⟩:=mF hX hg A (fun _=>True) 0 m' ⟨[(0,.val w)],[],h',[]⟩ ⟨⟨c2,rfl,fun k cs hk=>by simp at hk,.cons c3 .nil⟩,fun b _=>.inl trivial,fun b hb=>(by cases hb),a4A _⟩;obtain⟨w',e1,e2⟩:=o8 q1.st.env (t:=0) (v:=.val v') rfl;simp only[dL,a2D,a01]at e1;subst e1;exact⟨w,h',m2,c1,q1.st.heap,e2,c4.trans q2⟩
theorem a5M{A:Nat->Prop}{m:List MB}{h:List HB}{t:Nat}{fu:Bool}{x:TV}(hv:VR X P A m h (.dn t [] fu) x):x=.nil .slc∨∃b off cap sz ex cs,x=.slc b off 0 cap sz ex∧A b∧aU h b=some cs∧dw P t=some sz∧0<sz∧off<=cs.length:=by
 generalize hl:([]:List (X.Γ t))=l at hv;cases hv with
 |o7=>exact .inl rfl
 |dn a c c2 s z o k f e r=>
  subst hl;exact .inr ⟨_,_,_,_,_,_,rfl,a,c,s,z,by simpa using o⟩
 |gone hi _ _=>simp[bg]at hi
theorem WG{A:Nat->Prop}{h:List HB}{t:Nat}{x:TV}(I5:∀b,h.length<=b->A b)(hx:LR X P (AA A [.dn x]) [.dn x] h false false t [] x)(ho:(MB.dn x).own=none):HR X P A [.dn x] [.list false false t []] h:=by
 have hb:bn [MB.dn x]=[]:=by simp[bn,ho]
 refine⟨rfl,fun i b hi=>?_,by rw[hb];exact a6a,I5,fun b qA=>by rw[hb]at qA;cases qA⟩;cases i with
 |zero=>simp only[a2I,a01]at hi;subst hi;exact⟨.dn x,rfl,hx⟩
 |succ i=>simp at hi
end
end Pv
namespace Go.Proofs.YtmobpoiejckagaaGreat
open Go Tw
structure B where
 lo:Int
 hi:Int
 f:Int
 deriving DecidableEq
structure O where
 code:Int
 a:Int
 b:Int
 c:Int
 n:Int
 deriving DecidableEq
structure K where
 name:ByteArray
 lo:Int
 hi:Int
structure V where
 f:Int
 n:Int
 deriving DecidableEq
abbrev B0:B:=⟨0,0,0⟩
abbrev O0:O:=⟨0,0,0,0,0⟩
abbrev K0:K:=⟨ByteArray.empty,0,0⟩
abbrev V0:V:=⟨0,0⟩
def oZ(g:Int->Bool)(i:Nat)(x:Int)(s:Unit):(Unit)⊕(Nat×Int×(Unit)):=
 if(g x)=true then .inr (i,x,s)else .inl ()
def qW(g:Int->Bool)(l:List Int):Int:=
 if(jU (lT (oZ g) l 0 ()))=true then -1 else(((CP (0,0,()) (lT (oZ g) l 0 ())).1:Int))
def lX(g:Int->Bool)(l:List Int):Bool:=
 decide ((qW g l)>=0)
theorem a5N(g:Int->Bool):∀(l:List Int) (i:Nat),jU (lT (oZ g) l i ())=!(l.any g)
 | [],i=>rfl
 |x::l,i=>by
  simp only[lT,oZ,acX];cases g x with
  |true=>rfl
  |false=>simpa using a5N g l (i+1)
theorem DF(g:Int->Bool)(l:List Int):lX g l=l.any g:=by
 have:=a5N g l 0;unfold lX qW;rw[this];cases l.any g with
 |true=>simp
 |false=>simp
def vK(x:Int)(lo:Int)(hi:Int):Bool:=
 if(decide ((x)<(lo)))=true then true else decide ((x)>(hi))
def lY(l:List Int)(lo:Int)(hi:Int):Bool:=
 !(l.any ((fun x=>vK x lo hi)))
theorem wrap_small{z:Int}(h0:-(2^62)<=z)(h1:z<2^62):i64.wrap z=z:=by
 simp only[IntKind.wrap,IntKind.bits,IntKind.signed];rcases Int.lt_or_le z 0 with h|h
 .have:z%(2^64:Int)=z+2^64:=by
   have:=abo z (2^64) 1;rw[ach]at this;rw[<-this];exact a8h (by omega) (by omega)
  simp only[this];rw[a0V (by simp;omega)];omega
 have:z%(2^64:Int)=z:=a8h h (by omega);simp only[this];rw[a0S (by simp;omega)]
def mQ(k:Int)(least:Int)(ah:Int):Bool:=
 if(decide ((k)>=(least)))=true then decide ((k)<=(ah))else false
def eY(k:Int):V:=
 (⟨0,k⟩:V)
def kW(f:Int):V:=
 (⟨f,0⟩:V)
def qX(is:Bool):V:=
 if is=true then eY 1 else eY 0
def pK(k:Int):V:=
 if(decide ((k)<(-9999)))=true then kW 2 else if(decide ((k)>9999))=true then kW 2 else eY k
def IG(a:V)(b:V)(c:V):V:=
 if(decide ((a.f)>0))=true then a else if((a.n)==0)=true then c else b
def fV(a b:Int):Int:=if b<0 then(-a)/(-b)else a/b
def bH(code:Int)(a:V)(b:V):V:=
 if(decide ((a.f)>0))=true then a else if((code)==15)=true then if((a.n)==0)=true then a else if((code)==16)=true then if((a.n) != 0)=true then eY 1 else b else b else if((code)==16)=true then if((a.n) != 0)=true then eY 1 else b else if(decide ((b.f)>0))=true then b else if((code)==7)=true then pK (i64.wrap ((a.n)+(b.n)))else if((code)==8)=true then pK (i64.wrap ((a.n)-(b.n)))else if((code)==9)=true then pK (i64.wrap ((a.n)*(b.n)))else if((code)==12)=true then qX ((a.n)==(b.n))else if((code)==13)=true then qX (decide ((a.n)<(b.n)))else if((code)==14)=true then qX (decide ((a.n)<=(b.n)))else if((b.n)==0)=true then kW 1 else if((code)==10)=true then eY (fV (a.n) (b.n))else eY (i64.wrap ((a.n)-(i64.wrap ((b.n)*(fV (a.n) (b.n))))))
def je(g:V->Bool)(i:Nat)(x:V)(s:Unit):(Unit)⊕(Nat×V×(Unit)):=
 if(g x)=true then .inr (i,x,s)else .inl ()
def iC(g:V->Bool)(l:List V):Int:=
 if(jU (lT (je g) l 0 ()))=true then -1 else(((CP (0,V0,()) (lT (je g) l 0 ())).1:Int))
def pO(g:V->Bool)(l:List V):Bool:=
 decide ((iC g l)>=0)
theorem a5O(g:V->Bool):∀(l:List V) (i:Nat),jU (lT (je g) l i ())=!(l.any g)
 | [],i=>rfl
 |x::l,i=>by
  simp only[lT,je,acX];cases g x with
  |true=>rfl
  |false=>simpa using a5O g l (i+1)
theorem II(g:V->Bool)(l:List V):pO g l=l.any g:=by
 have:=a5O g l 0;unfold pO iC;rw[this];cases l.any g with
 |true=>simp
 |false=>simp
theorem RD(g:V->Bool):∀(l:List V) (i:Nat),jU (lT (je g) l i ())=false->(CP (0,V0,()) (lT (je g) l i ())).1<i+l.length∧l[(CP (0,V0,()) (lT (je g) l i ())).1-i]? = l.find? g∧i<=(CP (0,V0,()) (lT (je g) l i ())).1
 | [],i,h=>by cases h
 |x::l,i,h=>by
  simp only[lT,je]at h ⊢;by_cases hx:g x=true
  .simp only[hx,a2D,CP,a3J,agi];refine⟨by omega,by simp,by omega⟩
  simp only[aga]at hx;simp only[hx,a2H,a3x,a3J,agi]at h ⊢;obtain⟨h1,h2,h3⟩:=RD g l (i+1) h;refine⟨by omega,?_,by omega⟩;rw[<-h2,show(CP (0,V0,()) (lT (je g) l (i+1) ())).1-i=((CP (0,V0,()) (lT (je g) l (i+1) ())).1-(i+1))+1 by omega];simp
theorem Q9(g:V->Bool)(l:List V):iC g l<l.length:=by
 unfold iC;split
 .omega
 rename_i h;have:=(RD g l 0 (by simpa using h)).1;omega
def Uk(x:Int):Bool:=
 (x) != (x)
def IJ(x:Int)(y:Int):Int:=
 if(decide ((x)<(y)))=true then -1 else if(decide ((x)>(y)))=true then 1 else 0
def GU(f:Int):V:=
 (⟨f,0⟩:V)
def sQ(x:Int)(lo:Int)(hi:Int):Bool:=
 if(decide ((x)<(lo)))=true then true else decide ((x)>(hi))
def vM(l:List Int)(lo:Int)(hi:Int):Bool:=
 !(l.any ((fun x=>sQ x lo hi)))
def wF(v:V):Bool:=
 if((v.f)==0)=true then vM (([v.n]:List Int)) (-9999) 9999 else if(decide ((v.f)<=4))=true then(v.n)==0 else false
def og(k:Int):V:=
 if(!(vM (([k]:List Int)) (-9999) 9999))=true then GU 2 else(⟨0,k⟩:V)
def Og(is:Bool):V:=
 if is=true then og 1 else og 0
def nJ(v:V):Bool:=
 (v.f) != 0
def Ag(v:V):Bool:=
 !(wF v)
def bM(l:List V):V×Bool:=
 if(decide ((iC ((fun v=>nJ v)) l)<0))=true then((⟨0,0⟩:V),false)else((l.getD (iC ((fun v=>nJ v)) l).toNat V0),true)
def gX(l:List V):Bool:=
 !(l.any ((fun v=>Ag v)))
def jr(a:V)(b:V)(c:V):V×Int:=
 if(!(gX (([a,b,c]:List V))))=true then((⟨0,0⟩:V),2)else if((a.f) != 0)=true then(a,0)else if((a.n)==0)=true then(c,0)else(b,0)
def IK(a:Int)(b:Int):V:=
 og (i64.wrap ((a)+(b)))
def IL(a:Int)(b:Int):V:=
 og (i64.wrap ((a)-(b)))
def IQ(a:Int)(b:Int):V:=
 og (i64.wrap ((a)*(b)))
def CS(a:Int)(b:Int):Int:=
 a
def CU(a:Int)(b:Int):Int:=
 b
def CV(a:Int):Bool:=
 (a)==0
def CW(a:Int):Bool:=
 decide ((a)<0)
def CX(a:Int):Bool:=
 decide ((a)<=0)
def uw(a:Int)(b:Int):Int×Int:=
 if((NR .i64 (a) (b)) != 0)=true then if((decide ((NR .i64 (a) (b))<0)) != (decide ((b)<0)))=true then(i64.wrap ((U1 .i64 (a) (b))-1),i64.wrap ((NR .i64 (a) (b))+(b)))else(U1 .i64 (a) (b),NR .i64 (a) (b))else(U1 .i64 (a) (b),NR .i64 (a) (b))
def iD(g:Int->Int->Int)(a:Int)(b:Int):V:=
 if((b)==0)=true then GU 1 else og (g ((uw a b).1) ((uw a b).2))
def dP(g:Int->Bool)(a:Int)(b:Int):V:=
 Og (g (IJ a b))
def qY(a:V)(b:V):V×Int:=
 if(!(gX (([a,b]:List V))))=true then((⟨0,0⟩:V),2)else if((bM (([a,b]:List V))).2)=true then((bM (([a,b]:List V))).1,0)else(IK a.n b.n,0)
def qZ(a:V)(b:V):V×Int:=
 if(!(gX (([a,b]:List V))))=true then((⟨0,0⟩:V),2)else if((bM (([a,b]:List V))).2)=true then((bM (([a,b]:List V))).1,0)else(IL a.n b.n,0)
def ru(a:V)(b:V):V×Int:=
 if(!(gX (([a,b]:List V))))=true then((⟨0,0⟩:V),2)else if((bM (([a,b]:List V))).2)=true then((bM (([a,b]:List V))).1,0)else(IQ a.n b.n,0)
def oh(a:V)(b:V):V×Int:=
 if(!(gX (([a,b]:List V))))=true then((⟨0,0⟩:V),2)else if((bM (([a,b]:List V))).2)=true then((bM (([a,b]:List V))).1,0)else(iD CS (a.n) (b.n),0)
def oq(a:V)(b:V):V×Int:=
 if(!(gX (([a,b]:List V))))=true then((⟨0,0⟩:V),2)else if((bM (([a,b]:List V))).2)=true then((bM (([a,b]:List V))).1,0)else(iD CU (a.n) (b.n),0)
def oz(a:V)(b:V):V×Int:=
 if(!(gX (([a,b]:List V))))=true then((⟨0,0⟩:V),2)else if((bM (([a,b]:List V))).2)=true then((bM (([a,b]:List V))).1,0)else(dP CV (a.n) (b.n),0)
def oC(a:V)(b:V):V×Int:=
 if(!(gX (([a,b]:List V))))=true then((⟨0,0⟩:V),2)else if((bM (([a,b]:List V))).2)=true then((bM (([a,b]:List V))).1,0)else(dP CW (a.n) (b.n),0)
def oD(a:V)(b:V):V×Int:=
 if(!(gX (([a,b]:List V))))=true then((⟨0,0⟩:V),2)else if((bM (([a,b]:List V))).2)=true then((bM (([a,b]:List V))).1,0)else(dP CX (a.n) (b.n),0)
def sS(a:V)(b:V):V×Int:=
 ((jr a b (og 0)).1,(jr a b (og 0)).2)
def sU(a:V)(b:V):V×Int:=
 ((jr a (og 1) b).1,(jr a (og 1) b).2)
def fZ(code:Int)(a b:V):V:=
 if code=7 then(qY a b).1 else if code=8 then(qZ a b).1 else if code=9 then(ru a b).1 else if code=10 then(oh a b).1 else if code=11 then(oq a b).1 else if code=12 then(oz a b).1 else if code=13 then(oC a b).1 else if code=14 then(oD a b).1 else if code=15 then(sS a b).1 else(sU a b).1
def GV(code:Int)(a b:V):V×Int:=if code=7 then qY a b else if code=8 then qZ a b else if code=9 then ru a b else if code=10 then oh a b else if code=11 then oq a b else if code=12 then oz a b else if code=13 then oC a b else if code=14 then oD a b else if code=15 then sS a b else sU a b
theorem nine{p:Int}(h:7<=p∧p<=16):p=7∨p=8∨p=9∨p=10∨p=11∨p=12∨p=13∨p=14∨p=15∨p=16:=by omega
structure kD(v:V):Prop where
 f0:0<=v.f
 f1:v.f<=4
 n:v.f=0->-9999<=v.n∧v.n<=9999
 z:v.f≠0->v.n=0
theorem WH(k:Int):vM [k] (-9999) 9999=(decide (-9999<=k)&&decide (k<=9999)):=by
 simp only[vM,sQ,acX,List.any_nil,Bool.or_false];by_cases h:k < -9999
 .simp[h];omega
 by_cases h2:k>9999<;>simp[h,h2]<;>omega
theorem uy{v:V}(h:kD v):wF v=true:=by
 obtain⟨f,n⟩:=v;have h0:=h.f0;have h1:=h.f1;have h2:=h.n;have h3:=h.z;simp only at h0 h1 h2 h3;unfold wF;simp only[WH,a7k];by_cases hf:f=0
 .subst hf;simp;exact h2 rfl
 simp[hf,h1,h3 hf]
theorem anD{a b:V}(ha:kD a)(hb:kD b):(!(gX [a,b]))=false:=by simp[gX,Ag,uy ha,uy hb]
theorem a5P{a b c:V}(ha:kD a)(hb:kD b)(hc:kD c):(!(gX [a,b,c]))=false:=by simp[gX,Ag,uy ha,uy hb,uy hc]
theorem aec(a b:V):bM [a,b]=if a.f≠0 then(a,true)else if b.f≠0 then(b,true)else(⟨0,0⟩,false):=by
 by_cases h:a.f=0
 .by_cases h2:b.f=0
  .simp[bM,iC,lT,je,nJ,jU,CP,h,h2]
  simp[bM,iC,lT,je,nJ,jU,CP,h,h2]
 simp[bM,iC,lT,je,nJ,jU,CP,h]
theorem vk(k:Int):og k=pK k:=by
 unfold og pK GU kW eY;rw[WH];by_cases h:k < -9999
 .rw[a0V (by simp;omega),a0V (by simpa using h)]
 rw[a0S (c:=decide (k < -9999)=true) (by simpa using h)];by_cases h2:k>9999
 .rw[a0V (by simp;omega),a0V (by simpa using h2)]
 rw[a0S (by simp;omega),a0S (by simpa using h2)]
theorem sV(k:Int):kD (pK k):=by
 unfold pK kW eY;split
 .exact⟨by decide,by decide,by simp,by simp⟩
 split
 .exact⟨by decide,by decide,by simp,by simp⟩
 rename_i h1 h2;simp at h1 h2;exact⟨by simp,by simp,fun _=>by simp only;omega,by simp⟩
theorem a2u(b:Bool):Og b=qX b:=by cases b<;>rfl
theorem IU(b:Bool):kD (qX b):=by cases b<;>exact⟨by decide,by decide,fun _=>by decide,by decide⟩
theorem a2v{a b:Int}(hb:b≠0):a.tmod b=0∨True->(fV a b=(if a.tmod b≠0∧(decide (a.tmod b<0) != decide (b<0))=true then a.tdiv b-1 else a.tdiv b))∧a-b*fV a b=(if a.tmod b≠0∧(decide (a.tmod b<0) != decide (b<0))=true then a.tmod b+b else a.tmod b)∧(a-b*fV a b).natAbs<b.natAbs:=by
 intro _;have hq:=@Int.tdiv_eq_ediv a b;have hr:=@Int.tmod_eq_emod a b;have hm:=Int.mul_ediv_add_emod a b;have h0:=agj a hb;have h1:=Int.emod_lt a hb;have hd:b ∣ a↔a%b=0:=⟨Int.emod_eq_zero_of_dvd,Int.dvd_of_emod_eq_zero⟩;generalize a.tdiv b=T at *;generalize a.tmod b=R at *;generalize hE:a/b=e at *;generalize hM:a%b=m at *;unfold fV;have cT:0<=a∨b ∣ a->T=e∧R=m:=fun h=>by rw[a0V h]at hq hr;omega
 rcases Int.lt_or_gt_of_ne hb with zG|zG
 .rw[a0V zG];have hsg:b.sign=-1:=Int.sign_eq_neg_one_of_neg zG;have hna:(b.natAbs:Int)=-b:=by omega
  have cF:¬(0<=a∨b ∣ a)->T=e-1∧R=m+b:=fun h=>by rw[a0S h]at hq hr;omega
  rw[hna]at h1;by_cases Qs:m=0
  .have u:=(Int.ediv_emod_unique (a:=-a) (b:=-b) (r:=0) (q:=e) (by omega)).2 ⟨by rw[Int.neg_mul];omega,by omega,by omega⟩;rw[u.1];obtain⟨c1,c2⟩:=cT (.inr (hd.2 Qs));subst c1;subst c2;rw[a0S (by simp[Qs]),a0S (by simp[Qs])];omega
  have jk:¬b ∣ a:=fun h=>Qs (hd.1 h);have e1:b*(e-1)=b*e-b:=by rw[Int.mul_sub,ach]
  have u:=(Int.ediv_emod_unique (a:=-a) (b:=-b) (r:=-b-m) (q:=e-1) (by omega)).2 ⟨by rw[Int.neg_mul,e1];omega,by omega,by omega⟩;rw[u.1,e1];by_cases ha:0<=a
  .obtain⟨c1,c2⟩:=cT (.inl ha);subst c1;subst c2;have hc:(R≠0∧(decide (R<0) != decide (b<0))=true):=⟨Qs,by simp[zG];omega⟩;rw[a0V hc,a0V hc];omega
  obtain⟨c1,c2⟩:=cF (by simp[ha,jk]);have hc:¬(R≠0∧(decide (R<0) != decide (b<0))=true):=fun h=>by
   have:=h.2;simp[zG]at this;omega
  rw[a0S hc,a0S hc];omega
 rw[a0S (by omega),hE];have hsg:b.sign=1:=Int.sign_eq_one_of_pos zG;have hna:(b.natAbs:Int)=b:=by omega
 have cF:¬(0<=a∨b ∣ a)->T=e+1∧R=m-b:=fun h=>by rw[a0S h]at hq hr;omega
 rw[hna]at h1;by_cases hc0:0<=a∨b ∣ a
 .obtain⟨c1,c2⟩:=cT hc0;have hc:¬(R≠0∧(decide (R<0) != decide (b<0))=true):=fun h=>by
   have:=h.2;simp at this;omega
  rw[a0S hc,a0S hc];omega
 obtain⟨c1,c2⟩:=cF hc0;have Qs:m≠0:=fun h=>hc0 (.inr (hd.2 h));have hc:(R≠0∧(decide (R<0) != decide (b<0))=true):=⟨by omega,by simp;omega⟩;rw[a0V hc,a0V hc];omega
theorem wr{z:Int}(h1:-1000000000<=z)(h2:z<=1000000000):i64.wrap z=z:=wrap_small (by omega) (by omega)
theorem WI{a b:Int}(a0:-9999<=a)(a1:a<=9999)(b0:-9999<=b)(b1:b<=9999)(hb:b≠0):uw a b=(fV a b,a-b*fV a b)∧(-9999<=fV a b∧fV a b<=9999)∧(-9999<=a-b*fV a b∧a-b*fV a b<=9999)∧i64.wrap (a-i64.wrap (b*fV a b))=a-b*fV a b:=by
 obtain⟨h1,h2,h3⟩:=a2v (a:=a) hb (.inr trivial);have hna:(a.tdiv b).natAbs<=a.natAbs:=by rw[Int.natAbs_tdiv];exact Nat.div_le_self _ _
 have hq:U1 .i64 a b=a.tdiv b:=wr (by omega) (by omega);have hp:(b*fV a b).natAbs=b.natAbs*(fV a b).natAbs:=Int.natAbs_mul _ _;have hQ:(fV a b).natAbs<=9999:=by
  rcases a3L 9999 (fV a b).natAbs with h|h
  .have:=Nat.mul_le_mul_left b.natAbs (show 10000<=(fV a b).natAbs from h);generalize b*fV a b=p at *;generalize b.natAbs*(fV a b).natAbs=r at *;omega
  exact h
 refine⟨?_,by omega,by generalize b*fV a b=p at *;omega,?_⟩
 .unfold uw NR;rw[hq];have hw1:i64.wrap (a.tdiv b-1)=a.tdiv b-1:=wr (by omega) (by omega);have hrb:(a.tmod b).natAbs<=9999:=by rw[Int.natAbs_tmod];exact a4p (Nat.mod_le _ _) (by omega)
  have hw2:i64.wrap (a.tmod b+b)=a.tmod b+b:=wr (by omega) (by omega);rw[h2,h1,hw1,hw2];by_cases c1:a.tmod b=0
  .rw[a0S (by simp[c1]),a0S (by simp[c1]),a0S (by simp[c1])]
  rw[a0V (by simpa using c1)];by_cases c2:(decide (a.tmod b<0) != decide (b<0))=true
  .rw[a0V c2,a0V ⟨c1,c2⟩,a0V ⟨c1,c2⟩]
  rw[a0S c2,a0S (fun h=>c2 h.2),a0S (fun h=>c2 h.2)]
 rw[wr (z:=b*fV a b) (by generalize b*fV a b=p at *;omega) (by generalize b*fV a b=p at *;omega)];exact wr (by generalize b*fV a b=p at *;omega) (by generalize b*fV a b=p at *;omega)
theorem WJ{k:Int}(h1:-9999<=k)(h2:k<=9999):pK k=eY k:=by
 unfold pK;rw[a0S (by simp;omega),a0S (by simp;omega)]
theorem jm{g:Int->Int->V}{a b:V}(ha:kD a)(hb:kD b):(if(!(gX [a,b]))=true then((⟨0,0⟩:V),(2:Int))else if(bM [a,b]).2=true then((bM [a,b]).1,0)else(g a.n b.n,0)).1=if a.f≠0 then a else if b.f≠0 then b else g a.n b.n:=by
 rw[anD ha hb,aec];by_cases h:a.f=0
 .by_cases h2:b.f=0<;>simp[h,h2]
 simp[h]
theorem Ah{a:V}(ha:kD a)(h:a.f≠0):decide (a.f>0)=true:=by have:=ha.f0;simp;omega
theorem Oh{k:Int}(h1:-9999<=k)(h2:k<=9999):kD (eY k):=⟨by simp[eY],by simp[eY],fun _=>⟨h1,h2⟩,fun h=>by simp[eY]at h⟩
theorem div_eq{a b:V}(ha:kD a)(hb:kD b)(h:a.f=0)(h2:b.f=0):iD CS a.n b.n=(if(b.n==0)=true then kW 1 else eY (fV a.n b.n))∧kD (if(b.n==0)=true then kW 1 else eY (fV a.n b.n)):=by
 have a9:=ha.n h;have b9:=hb.n h2;unfold iD CS;by_cases hz:b.n=0
 .rw[a0V (by simpa using hz),a0V (by simpa using hz)];exact⟨rfl,⟨by decide,by decide,by decide,by decide⟩⟩
 obtain⟨q1,q2,_,_⟩:=WI a9.1 a9.2 b9.1 b9.2 hz;rw[a0S (by simpa using hz),a0S (by simpa using hz),q1,vk,WJ q2.1 q2.2];exact⟨rfl,Oh q2.1 q2.2⟩
theorem mod_eq{a b:V}(ha:kD a)(hb:kD b)(h:a.f=0)(h2:b.f=0):iD CU a.n b.n=(if(b.n==0)=true then kW 1 else eY (i64.wrap (a.n-i64.wrap (b.n*fV a.n b.n))))∧kD (if(b.n==0)=true then kW 1 else eY (i64.wrap (a.n-i64.wrap (b.n*fV a.n b.n)))):=by
 have a9:=ha.n h;have b9:=hb.n h2;unfold iD CU;by_cases hz:b.n=0
 .rw[a0V (by simpa using hz),a0V (by simpa using hz)];exact⟨rfl,⟨by decide,by decide,by decide,by decide⟩⟩
 obtain⟨q1,_,q3,q4⟩:=WI a9.1 a9.2 b9.1 b9.2 hz;rw[a0S (by simpa using hz),a0S (by simpa using hz),q1,vk,q4,WJ q3.1 q3.2];exact⟨rfl,Oh q3.1 q3.2⟩
theorem aed(a b:Int):dP CV a b=qX (a==b)∧dP CW a b=qX (decide (a<b))∧dP CX a b=qX (decide (a<=b)):=by
 unfold dP CV CW CX IJ;simp only[a2u];rcases Int.lt_trichotomy a b with h|h|h
 .have:(a==b)=false:=by simp;omega
  simp[h,this,afx h]
 .subst h;simp
 have h1:¬a<b:=by omega
 have h2:(a==b)=false:=by simp;omega
 have h3:¬a<=b:=by omega
 simp[h,h1,h2,h3]
theorem aee{k:Int}(h7:7<=k∧k<=16){a b:V}(ha:kD a)(hb:kD b):fZ k a b=bH k a b∧kD (bH k a b):=by
 have e15:a.f=0->fZ 15 a b=bH 15 a b∧kD (bH 15 a b):=fun h=>by
  rw[show fZ 15 a b=(sS a b).1 from rfl,show bH 15 a b=(if(a.n==0)=true then a else b) by simp[bH,h]];unfold sS jr;rw[a5P ha hb (vk 0▸sV 0)];by_cases hz:a.n=0
  .have:a=⟨0,0⟩:=by obtain⟨f,n⟩:=a;simp only at h hz;rw[h,hz]
   subst this;exact⟨rfl,ha⟩
  simp[h,hz];exact hb
 have e16:a.f=0->fZ 16 a b=bH 16 a b∧kD (bH 16 a b):=fun h=>by
  rw[show fZ 16 a b=(sU a b).1 from rfl,show bH 16 a b=(if(a.n != 0)=true then eY 1 else b) by simp[bH,h]];unfold sU jr;rw[a5P ha (vk 1▸sV 1) hb];by_cases hz:a.n=0
  .simp[h,hz];exact hb
  simp[h,hz];exact⟨rfl,Oh (by decide) (by decide)⟩
 by_cases h:a.f=0
 .by_cases h2:b.f=0
  .have d:=div_eq ha hb h h2;have m:=mod_eq ha hb h h2;have c:=aed a.n b.n;rcases nine h7 with rfl|rfl|rfl|rfl|rfl|rfl|rfl|rfl|rfl|rfl
   .rw[show fZ 7 a b=(qY a b).1 from rfl,show bH 7 a b=pK (i64.wrap (a.n+b.n)) by simp[bH,h,h2]];unfold qY;rw[jm (g:=fun x y=>IK x y) ha hb];simp only[h,h2,ne_eq,a8f,a3x,IK,vk];exact⟨trivial,sV _⟩
   .rw[show fZ 8 a b=(qZ a b).1 from rfl,show bH 8 a b=pK (i64.wrap (a.n-b.n)) by simp[bH,h,h2]];unfold qZ;rw[jm (g:=fun x y=>IL x y) ha hb];simp only[h,h2,ne_eq,a8f,a3x,IL,vk];exact⟨trivial,sV _⟩
   .rw[show fZ 9 a b=(ru a b).1 from rfl,show bH 9 a b=pK (i64.wrap (a.n*b.n)) by simp[bH,h,h2]];unfold ru;rw[jm (g:=fun x y=>IQ x y) ha hb];simp only[h,h2,ne_eq,a8f,a3x,IQ,vk];exact⟨trivial,sV _⟩
   .rw[show fZ 10 a b=(oh a b).1 from rfl,show bH 10 a b=(if(b.n==0)=true then kW 1 else eY (fV a.n b.n)) by simp[bH,h,h2]];unfold oh;rw[jm (g:=fun x y=>iD CS x y) ha hb];simp only[h,h2,ne_eq,a8f,a3x];exact d
   .rw[show fZ 11 a b=(oq a b).1 from rfl,show bH 11 a b=(if(b.n==0)=true then kW 1 else eY (i64.wrap (a.n-i64.wrap (b.n*fV a.n b.n)))) by simp[bH,h,h2]];unfold oq;rw[jm (g:=fun x y=>iD CU x y) ha hb];simp only[h,h2,ne_eq,a8f,a3x];exact m
   .rw[show fZ 12 a b=(oz a b).1 from rfl,show bH 12 a b=qX (a.n==b.n) by simp[bH,h,h2]];unfold oz;rw[jm (g:=fun x y=>dP CV x y) ha hb];simp only[h,h2,ne_eq,a8f,a3x];exact⟨c.1,IU _⟩
   .rw[show fZ 13 a b=(oC a b).1 from rfl,show bH 13 a b=qX (decide (a.n<b.n)) by simp[bH,h,h2]];unfold oC;rw[jm (g:=fun x y=>dP CW x y) ha hb];simp only[h,h2,ne_eq,a8f,a3x];exact⟨c.2.1,IU _⟩
   .rw[show fZ 14 a b=(oD a b).1 from rfl,show bH 14 a b=qX (decide (a.n<=b.n)) by simp[bH,h,h2]];unfold oD;rw[jm (g:=fun x y=>dP CX x y) ha hb];simp only[h,h2,ne_eq,a8f,a3x];exact⟨c.2.2,IU _⟩
   .exact e15 h
   exact e16 h
  rcases nine h7 with rfl|rfl|rfl|rfl|rfl|rfl|rfl|rfl|rfl|rfl
  .rw[show fZ 7 a b=(qY a b).1 from rfl,show bH 7 a b=b by simp[bH,h,Ah hb h2]];unfold qY;rw[jm (g:=fun x y=>IK x y) ha hb];simp only[h,h2,ne_eq,a8f,a4U,a3x,a2D];exact⟨trivial,hb⟩
  .rw[show fZ 8 a b=(qZ a b).1 from rfl,show bH 8 a b=b by simp[bH,h,Ah hb h2]];unfold qZ;rw[jm (g:=fun x y=>IL x y) ha hb];simp only[h,h2,ne_eq,a8f,a4U,a3x,a2D];exact⟨trivial,hb⟩
  .rw[show fZ 9 a b=(ru a b).1 from rfl,show bH 9 a b=b by simp[bH,h,Ah hb h2]];unfold ru;rw[jm (g:=fun x y=>IQ x y) ha hb];simp only[h,h2,ne_eq,a8f,a4U,a3x,a2D];exact⟨trivial,hb⟩
  .rw[show fZ 10 a b=(oh a b).1 from rfl,show bH 10 a b=b by simp[bH,h,Ah hb h2]];unfold oh;rw[jm (g:=fun x y=>iD CS x y) ha hb];simp only[h,h2,ne_eq,a8f,a4U,a3x,a2D];exact⟨trivial,hb⟩
  .rw[show fZ 11 a b=(oq a b).1 from rfl,show bH 11 a b=b by simp[bH,h,Ah hb h2]];unfold oq;rw[jm (g:=fun x y=>iD CU x y) ha hb];simp only[h,h2,ne_eq,a8f,a4U,a3x,a2D];exact⟨trivial,hb⟩
  .rw[show fZ 12 a b=(oz a b).1 from rfl,show bH 12 a b=b by simp[bH,h,Ah hb h2]];unfold oz;rw[jm (g:=fun x y=>dP CV x y) ha hb];simp only[h,h2,ne_eq,a8f,a4U,a3x,a2D];exact⟨trivial,hb⟩
  .rw[show fZ 13 a b=(oC a b).1 from rfl,show bH 13 a b=b by simp[bH,h,Ah hb h2]];unfold oC;rw[jm (g:=fun x y=>dP CW x y) ha hb];simp only[h,h2,ne_eq,a8f,a4U,a3x,a2D];exact⟨trivial,hb⟩
  .rw[show fZ 14 a b=(oD a b).1 from rfl,show bH 14 a b=b by simp[bH,h,Ah hb h2]];unfold oD;rw[jm (g:=fun x y=>dP CX x y) ha hb];simp only[h,h2,ne_eq,a8f,a4U,a3x,a2D];exact⟨trivial,hb⟩
  .exact e15 h
  exact e16 h
 rcases nine h7 with rfl|rfl|rfl|rfl|rfl|rfl|rfl|rfl|rfl|rfl
 .rw[show fZ 7 a b=(qY a b).1 from rfl,show bH 7 a b=a by simp[bH,Ah ha h]];unfold qY;rw[jm (g:=fun x y=>IK x y) ha hb];simp only[h,ne_eq,a8f,a4U,a2D];exact⟨trivial,ha⟩
 .rw[show fZ 8 a b=(qZ a b).1 from rfl,show bH 8 a b=a by simp[bH,Ah ha h]];unfold qZ;rw[jm (g:=fun x y=>IL x y) ha hb];simp only[h,ne_eq,a8f,a4U,a2D];exact⟨trivial,ha⟩
 .rw[show fZ 9 a b=(ru a b).1 from rfl,show bH 9 a b=a by simp[bH,Ah ha h]];unfold ru;rw[jm (g:=fun x y=>IQ x y) ha hb];simp only[h,ne_eq,a8f,a4U,a2D];exact⟨trivial,ha⟩
 .rw[show fZ 10 a b=(oh a b).1 from rfl,show bH 10 a b=a by simp[bH,Ah ha h]];unfold oh;rw[jm (g:=fun x y=>iD CS x y) ha hb];simp only[h,ne_eq,a8f,a4U,a2D];exact⟨trivial,ha⟩
 .rw[show fZ 11 a b=(oq a b).1 from rfl,show bH 11 a b=a by simp[bH,Ah ha h]];unfold oq;rw[jm (g:=fun x y=>iD CU x y) ha hb];simp only[h,ne_eq,a8f,a4U,a2D];exact⟨trivial,ha⟩
 .rw[show fZ 12 a b=(oz a b).1 from rfl,show bH 12 a b=a by simp[bH,Ah ha h]];unfold oz;rw[jm (g:=fun x y=>dP CV x y) ha hb];simp only[h,ne_eq,a8f,a4U,a2D];exact⟨trivial,ha⟩
 .rw[show fZ 13 a b=(oC a b).1 from rfl,show bH 13 a b=a by simp[bH,Ah ha h]];unfold oC;rw[jm (g:=fun x y=>dP CW x y) ha hb];simp only[h,ne_eq,a8f,a4U,a2D];exact⟨trivial,ha⟩
 .rw[show fZ 14 a b=(oD a b).1 from rfl,show bH 14 a b=a by simp[bH,Ah ha h]];unfold oD;rw[jm (g:=fun x y=>dP CX x y) ha hb];simp only[h,ne_eq,a8f,a4U,a2D];exact⟨trivial,ha⟩
 .rw[show fZ 15 a b=(sS a b).1 from rfl,show bH 15 a b=a by simp[bH,Ah ha h]];unfold sS jr;rw[a5P ha hb (vk 0▸sV 0)];simp[h];exact ha
 rw[show fZ 16 a b=(sU a b).1 from rfl,show bH 16 a b=a by simp[bH,Ah ha h]];unfold sU jr;rw[a5P ha (vk 1▸sV 1) hb];simp[h];exact ha
theorem a2w{a b c:V}(ha:kD a)(hb:kD b)(hc:kD c):(jr a b c).1=IG a b c∧kD (IG a b c):=by
 unfold jr IG;rw[a5P ha hb hc];by_cases h:a.f=0
 .by_cases hz:a.n=0
  .simp[h,hz];exact hc
  simp[h,hz];exact hb
 have:=Ah ha h;simp only[a1T]at this;simp[h,this];exact ha
end Go.Proofs.YtmobpoiejckagaaGreat
namespace Pv
open Go Tw
def lq{σ ρ:Type}(g:Nat->σ->σ⊕ρ):Nat->Nat->σ->σ⊕ρ
 | 0,_,s=>.inl s
 |m+1,k,s=>match g k s with
  |.inl s'=>lq g m (k+1) s'
  |.inr r=>.inr r
def aW{σ:Type}(g:Nat->σ->σ):Nat->Nat->σ->σ
 | 0,_,s=>s
 |m+1,k,s=>aW g m (k+1) (g k s)
theorem RF{σ ρ:Type}{g:Nat->σ->σ}:∀(m k:Nat) (s:σ),lq (ρ:=ρ) (fun k s=>.inl (g k s)) m k s=.inl (aW g m k s)
 | 0,_,_=>rfl
 |m+1,k,s=>RF m (k+1) (g k s)
theorem sW{σ:Type}{g:Nat->σ->σ}:∀(m k:Nat) (s:σ),aW g (m+1) k s=g (k+m) (aW g m k s)
 | 0,_,_=>rfl
 |m+1,k,s=>by
  rw[aW,sW m (k+1),show k+1+m=k+(m+1) by omega];rfl
theorem dW{σ:Type}{g:Nat->σ->σ}(Q:Nat->σ->Prop){m k:Nat}{s:σ}(h0:Q k s)(hs:∀j s,k<=j->j<k+m->Q j s->Q (j+1) (g j s)):Q (k+m) (aW g m k s):=by
 induction m with
 |zero=>exact h0
 |succ m ih=>rw[sW];exact hs (k+m) _ (by omega) (by omega) (ih fun j s h1 h2 h3=>hs j s h1 (by omega) h3)
theorem Oi{c:Nat->Bool}{ρ:Type}{r:Nat->ρ}:∀(m k:Nat),jU (lq (σ:=Unit) (fun k _=>if c k=true then .inr (r k)else .inl ()) m k ())=true↔∀j,k<=j->j<k+m->c j=false
 | 0,k=>by simp[lq,jU];omega
 |m+1,k=>by
  simp only[lq];by_cases hc:c k=true
  .simp only[hc,a2D,jU,a2H,false_iff];intro h;have:=h k (a1J _) (by omega);rw[hc]at this;cases this
  simp only[hc,a2H,a3x];rw[Oi m (k+1)];constructor
  .intro h j h1 h2;rcases a3L k j with h3|h3
   .exact h j h3 (by omega)
   rw[show j=k by omega];simpa using hc
  intro h j h1 h2;exact h j (by omega) (by omega)
theorem a5Q{c:Nat->Bool}{ρ:Type}{r:Nat->ρ}{m k:Nat}(h:jU (lq (σ:=Unit) (fun k _=>if c k=true then .inr (r k)else .inl ()) m k ())=false):∃j,k<=j∧j<k+m∧c j=true∧(∀i,k<=i->i<j->c i=false)∧lq (σ:=Unit) (fun k _=>if c k=true then .inr (r k)else .inl ()) m k ()=.inr (r j):=by
 induction m generalizing k with
 |zero=>simp[lq,jU]at h
 |succ m ih=>
  simp only[lq]at h ⊢;by_cases hc:c k=true
  .simp only[hc,a2D];exact⟨k,a1J _,by omega,hc,fun i h1 h2=>by omega,rfl⟩
  simp only[hc,a2H,a3x]at h ⊢;obtain⟨j,h1,h2,h3,h4,h5⟩:=ih h;exact⟨j,by omega,by omega,h3,fun i hi1 Kq=>by
   rcases a3L k i with h6|h6
   .exact h4 i h6 Kq
   rw[show i=k by omega];simpa using hc,h5⟩
abbrev gS(c:Nat->Bool)(k:Nat)(_:Unit):Unit⊕Nat:=if c k=true then .inr k else .inl ()
abbrev bG(c:Nat->Bool)(N:Nat):Unit⊕Nat:=lq (gS c) N 0 ()
theorem dQ{c:Nat->Bool}{N:Nat}:jU (bG c N)=true↔∀j,j<N->c j=false:=by
 unfold bG gS;rw[Oi (r:=fun k=>k)];exact⟨fun h j hj=>h j (by omega) (by omega),fun h j _ hj=>h j (by omega)⟩
theorem GX{c:Nat->Bool}{N:Nat}(h:jU (bG c N)=false):∃j,j<N∧c j=true∧(∀i,i<j->c i=false)∧bG c N=.inr j:=by
 obtain⟨j,_,h2,h3,h4,h5⟩:=a5Q (r:=fun k=>k) h;exact⟨j,by omega,h3,fun i hi=>h4 i (by omega) hi,h5⟩
abbrev RG(c:Nat->Bool)(a N:Nat):Unit⊕Nat:=lq (gS c) (N-a) a ()
def Oj{σ:Type}(g:Nat->σ->σ):Nat->σ->σ
 | 0,s=>s
 |k+1,s=>Oj g k (g k s)
theorem RH{σ:Type}{g:Nat->σ->σ}(Q:Nat->σ->Prop):∀{k:Nat} {s:σ},Q k s->(∀j s,j<k->Q (j+1) s->Q j (g j s))->Q 0 (Oj g k s)
 | 0,_,h,_=>h
 |k+1,s,h,hs=>RH Q (k:=k) (hs k s (by omega) h) fun j s h1 h2=>hs j s (by omega) h2
theorem Ol{α:Type}{l:List α}{d:α}{p:α->Prop}:(∀j,j<l.length->p (l.getD j d))↔∀a∈l,p a:=by
 constructor
 .intro h a ha;obtain⟨j,hj,rfl⟩:=a4h.1 ha;simpa[List.getD,a0E hj]using h j hj
 intro h j hj;have:l.getD j d=l[j]:=by simp[List.getD,a0E hj]
 rw[this];exact h _ (a4d hj)
theorem rC{α:Type}{a b:List α}{d:α}(hl:a.length=b.length):a=b↔∀j,j<a.length->a.getD j d=b.getD j d:=by
 constructor
 .rintro rfl j _;rfl
 intro h;apply aae hl;intro j h1 h2;simpa[List.getD,a0E h1,a0E h2]using h j h1
section
variable {X:kC} {P:Program} {T:qy} {L:Nat} {f nt B:Nat} {gJ:Bool} {call:aY} {b:Code} {σ ρ:Type}
def uS(out:σ⊕ρ->Ex×aS X.Γ)(g:Nat->σ->σ⊕ρ)(m k:Nat):σ⊕ρ->Ex×aS X.Γ
 |.inl s=>out (lq g m k s)
 |.inr r=>out (.inr r)
theorem Om{N:Nat}{st:Int->σ->aS X.Γ}{g:Nat->σ->σ⊕ρ}{out:σ⊕ρ->Ex×aS X.Γ}{s0:σ}{w:aS X.Γ}(Inv:Nat->σ->Prop)(h0:gq X (T.eH f (dR b)) w=st 0 s0)(hl:N<=ah)(hL:ah<L)(hi:Inv 0 s0)
  (hs:∀(k:Nat) (s:σ) (n:Nat),k<N->Inv k s->(∀s1,Inv (k+1) s1->dI X P T call L f gJ nt B b n (st (i64.wrap (k+1)) s1) (uS out g (N-(k+1)) (k+1) (.inl s1)).1 (uS out g (N-(k+1)) (k+1) (.inl s1)).2) ->
   dI X P T call L f gJ nt B b (n+1) (st k s) (uS out g (N-(k+1)) (k+1) (g k s)).1 (uS out g (N-(k+1)) (k+1) (g k s)).2)
  (ho:∀s,Inv N s->dI X P T call L f gJ nt B b 1 (st N s) (out (.inl s)).1 (out (.inl s)).2) :
  dM X P T call L f gJ nt B (.loop b) w (out (lq g N 0 s0)).1 (out (lq g N 0 s0)).2:=by
 have key:∀(m k:Nat) (s:σ),k+m=N->Inv k s->dI X P T call L f gJ nt B b (m+1) (st k s) (out (lq g m k s)).1 (out (lq g m k s)).2:=by
  intro m
  induction m with
  |zero=>
   intro k s hk hr;have:k=N:=(by omega);subst this;exact ho s hr
  |succ m ih=>
   intro k s hk hr;have aQ:k<N:=(by omega);have h1:=hs k s (m+1) aQ hr fun s1 h=>by
    have:=ih (k+1) s1 (by omega) h;rw[xY (by omega),show N-(k+1)=m by omega];exact this
   rw[show N-(k+1)=m by omega]at h1;simp only[lq];cases hg:g k s with
   |inl s1=>rw[hg]at h1;exact h1
   |inr r=>rw[hg]at h1;exact h1
 exact zi (key N 0 s0 (by omega) hi) h0 (by omega)
theorem aef{a N:Nat}{st:Int->σ->aS X.Γ}{g:Nat->σ->σ⊕ρ}{out:σ⊕ρ->Ex×aS X.Γ}{s0:σ}{w:aS X.Γ}(Inv:Nat->σ->Prop)(h0:gq X (T.eH f (dR b)) w=st a s0)(ha:a<=N)(hl:N<=ah)(hL:ah<L)(hi:Inv a s0)
  (hs:∀(k:Nat) (s:σ) (n:Nat),a<=k->k<N->Inv k s->(∀s1,Inv (k+1) s1->dI X P T call L f gJ nt B b n (st (i64.wrap (k+1)) s1) (uS out g (N-(k+1)) (k+1) (.inl s1)).1 (uS out g (N-(k+1)) (k+1) (.inl s1)).2) ->
   dI X P T call L f gJ nt B b (n+1) (st k s) (uS out g (N-(k+1)) (k+1) (g k s)).1 (uS out g (N-(k+1)) (k+1) (g k s)).2)
  (ho:∀s,Inv N s->dI X P T call L f gJ nt B b 1 (st N s) (out (.inl s)).1 (out (.inl s)).2) :
  dM X P T call L f gJ nt B (.loop b) w (out (lq g (N-a) a s0)).1 (out (lq g (N-a) a s0)).2:=by
 have key:∀(m k:Nat) (s:σ),a<=k->k+m=N->Inv k s->dI X P T call L f gJ nt B b (m+1) (st k s) (out (lq g m k s)).1 (out (lq g m k s)).2:=by
  intro m
  induction m with
  |zero=>
   intro k s _ hk hr;have:k=N:=(by omega);subst this;exact ho s hr
  |succ m ih=>
   intro k s ak hk hr;have aQ:k<N:=(by omega);have h1:=hs k s (m+1) ak aQ hr fun s1 h=>by
    have:=ih (k+1) s1 (by omega) (by omega) h;rw[xY (by omega),show N-(k+1)=m by omega];exact this
   rw[show N-(k+1)=m by omega]at h1;simp only[lq];cases hg:g k s with
   |inl s1=>rw[hg]at h1;exact h1
   |inr r=>rw[hg]at h1;exact h1
 exact zi (key (N-a) a s0 (a1J _) (by omega) hi) h0 (by omega)
theorem JJ{N:Nat}{st:Int->σ->aS X.Γ}{g:Nat->σ->σ}{e:Ex}{fin:σ->aS X.Γ}{s0:σ}{w:aS X.Γ}(Inv:Nat->σ->Prop)(h0:gq X (T.eH f (dR b)) w=st 0 s0)(hl:N<=ah)(hL:ah<L)(hi:Inv 0 s0)(hv:∀k s,k<N->Inv k s->Inv (k+1) (g k s))
  (hs:∀(k:Nat) (s:σ),k<N->Inv k s->∀n e1 p,dI X P T call L f gJ nt B b n (st (i64.wrap (k+1)) (g k s)) e1 p->dI X P T call L f gJ nt B b (n+1) (st k s) e1 p)
  (ho:∀s,Inv N s->dI X P T call L f gJ nt B b 1 (st N s) e (fin s)):dM X P T call L f gJ nt B (.loop b) w e (fin (aW g N 0 s0)):=by
 have:=Om (X:=X) (P:=P) (T:=T) (call:=call) (f:=f) (gJ:=gJ) (nt:=nt) (B:=B) (b:=b) (ρ:=Empty) (N:=N) (st:=st) (g:=fun k s=>.inl (g k s)) (out:=fun x=>(e,fin (anx x))) (s0:=s0) (w:=w) Inv h0 hl hL hi
  (fun k s n hk hr h=>hs k s hk hr n _ _ (h _ (hv k s hk hr))) ho
 rw[RF]at this;exact this
theorem ahU{N:Nat}{st:Int->σ->aS X.Γ}{g:Nat->σ->σ}{e:Ex}{fin:σ->aS X.Γ}{s0:σ}{w:aS X.Γ}(Inv:Nat->σ->Prop)(h0:gq X (T.eH f (dR b)) w=st (i64.wrap ((N:Int)-1)) s0)(hl:N<=ah)(hL:ah<L)(hi:Inv N s0)(hv:∀k s,k<N->Inv (k+1) s->Inv k (g k s))
  (hs:∀(k:Nat) (s:σ),k<N->Inv (k+1) s->∀n e1 p,dI X P T call L f gJ nt B b n (st (i64.wrap (k-1)) (g k s)) e1 p->dI X P T call L f gJ nt B b (n+1) (st k s) e1 p)
  (ho:∀s,Inv 0 s->dI X P T call L f gJ nt B b 1 (st (-1) s) e (fin s)):dM X P T call L f gJ nt B (.loop b) w e (fin (Oj g N s0)):=by
 have wr:∀k:Nat,k<=ah->i64.wrap ((k:Int)-1)=(k:Int)-1:=by
  intro k hk;cases k with
  |zero=>rfl
  |succ k=>
   have:=xY (k:=k) (by omega);rw[show((k+1:Nat):Int)-1=(k:Int) by omega];unfold ah at hk;simp only[IntKind.wrap,IntKind.bits,IntKind.signed];have:(k:Int)%(2^64:Int)=(k:Int):=a8h (by omega) (by omega);simp only[this];rw[a0S (by simp;omega)]
 have key:∀(k:Nat) (s:σ),k<=N->Inv k s->dI X P T call L f gJ nt B b (k+1) (st ((k:Int)-1) s) e (fin (Oj g k s)):=by
  intro k
  induction k with
  |zero=>intro s _ hr;exact ho s hr
  |succ k ih=>
   intro s hk hr;have h1:=ih (g k s) (by omega) (hv k s (by omega) hr);rw[<-wr k (by omega)]at h1;rw[show((k+1:Nat):Int)-1=(k:Int) by omega];exact hs k s (by omega) hr _ _ _ h1
 rw[wr N hl]at h0;exact zi (key N s0 (a1J _) hi) h0 (by omega)
end
end Pv
namespace cO
open Go Tw Pv
def bf:List Int->Int
 | []=>1
 |a::t=>a*bf t
def lu:List Int->Int->List Int
 | [],_=>[]
 |a::t,n=>(n/bf t)%a::lu t n
def kG:List Int->List Int->Int
 |a::t,d::p=>d*bf t+kG t p
 |_,_=>0
def jF:List Int->List Int->Bool
 | [],[]=>true
 |a::t,d::p=>decide (0<=d∧d<a)&&jF t p
 |_,_=>false
def oG(s:List Int):Prop:=∀a∈s,1<=a∧a<=12
instance (s:List Int):Decidable (oG s):=inferInstanceAs (Decidable (∀a∈s,1<=a∧a<=12))
structure wH(s:List Int):Prop where
 len:s.length<=6
 sz:oG s
 many:bf s<=2000
def jX(n:Nat)(o:List Int):Bool:=decide (o.length=n∧(∀a∈o,0<=a∧a<n)∧o.Nodup)
theorem fF{z:Int}(h0:-(2^62)<=z)(h1:z<2^62):i64.wrap z=z:=by
 simp only[IntKind.wrap,IntKind.bits,IntKind.signed];rcases Int.lt_or_le z 0 with h|h
 .have:z%(2^64:Int)=z+2^64:=by
   have:=abo z (2^64) 1;rw[ach]at this;rw[<-this];exact a8h (by omega) (by omega)
  simp only[this];rw[a0V (by simp;omega)];omega
 have:z%(2^64:Int)=z:=a8h h (by omega);simp only[this];rw[a0S (by simp;omega)]
theorem oG.tail{a:Int}{t:List Int}(h:oG (a::t)):oG t:=fun b hb=>h b (a3w _ hb)
theorem iL:∀{s:List Int},oG s->1<=bf s
 | [],_=>a8Y _
 |a::t,h=>by
  have h1:=h a (a3u ..);have h2:=iL h.tail;have:=Int.mul_le_mul h1.1 h2 (by omega) (by omega);simpa[bf]using this
theorem DI:∀(s t:List Int),bf (s++t)=bf s*bf t
 | [],t=>by simp[bf]
 |a::s,t=>by simp[bf,DI s t,Int.mul_assoc]
theorem Qa{s:List Int}(h:oG s)(k:Nat):bf (s.take k)<=bf s:=by
 have e:bf s=bf (s.take k)*bf (s.drop k):=by rw[<-DI,List.take_append_drop]
 have h1:1<=bf (s.take k):=iL fun a ha=>h a (a8Z ha);have h2:1<=bf (s.drop k):=iL fun a ha=>h a (a5s ha);have:=a8k h2 (show 0<=bf (s.take k) by omega);omega
theorem WL:∀(s:List Int) (n:Int),(lu s n).length=s.length
 | [],_=>rfl
 |_::t,n=>by simp[lu,WL t n]
theorem RI:∀(s:List Int) (n:Int) (k:Nat),k<s.length->(lu s n).getD k 0=(n/bf (s.drop (k+1)))%s.getD k 0
 | [],_,k,h=>by simp at h
 |a::t,n,0,_=>by simp[lu]
 |a::t,n,k+1,h=>by
  have:=RI t n k (by simpa using h);simpa[lu]using this
theorem pq:∀{s p:List Int},jF s p=true->p.length=s.length
 | [],[],_=>rfl
 |a::t,d::p,h=>by
  simp only[jF,a2r]at h;simp[pq h.2]
 | [],_::_,h=>by cases h
 |_::_,[],h=>by cases h
theorem nK:∀{s p:List Int},jF s p=true↔p.length=s.length∧∀j,j<s.length->0<=p.getD j 0∧p.getD j 0<s.getD j 0
 | [],[]=>by simp[jF]
 |a::t,d::p=>by
  simp only[jF,a2r,a1T,nK (s:=t),a3J];constructor
  .rintro⟨h1,h2,h3⟩;refine⟨by omega,fun j hj=>?_⟩;cases j with
   |zero=>simpa using h1
   |succ j=>simpa using h3 j (by omega)
  rintro⟨h1,h2⟩;exact⟨by simpa using h2 0 (by omega),by omega,fun j hj=>by simpa using h2 (j+1) (by omega)⟩
 | [],_::_=>by simp[jF]
 |_::_,[]=>by simp[jF]
theorem wI:∀{s p:List Int},jF s p=true->oG s->0<=kG s p∧kG s p<bf s
 | [],[],_,_=>by simp[kG,bf]
 |a::t,d::p,h,hs=>by
  simp only[jF,a2r,a1T]at h;have ih:=wI h.2 hs.tail;have hp:=iL hs.tail;simp only[kG,bf];have h1:0<=d*bf t:=ag4 h.1.1 (by omega);have h2:(d+1)*bf t<=a*bf t:=a8A (by omega) (by omega);rw[ag6,Int.one_mul]at h2;omega
theorem DK:∀{s:List Int} (n:Int),oG s->jF s (lu s n)=true
 | [],_,_=>rfl
 |a::t,n,hs=>by
  simp only[lu,jF,a2r,a1T];have:=hs a (a3u ..);exact⟨⟨agj _ (by omega),Int.emod_lt_of_pos _ (by omega)⟩,DK n hs.tail⟩
theorem CY:∀{s:List Int} (n:Int),oG s->lu s (n%bf s)=lu s n
 | [],_,_=>rfl
 |a::t,n,hs=>by
  have hp:=iL hs.tail;have ha:=hs a (a3u ..);simp only[lu,bf];have e1:n%(a*bf t)/bf t%a=n/bf t%a:=by
   rw[Int.emod_def n,show n-a*bf t*(n/(a*bf t))=n+(-(a*(n/(a*bf t))))*bf t by rw[Int.neg_mul,Int.mul_right_comm];rfl,Int.add_mul_ediv_right _ _ (by omega),show n/bf t+-(a*(n/(a*bf t)))=n/bf t+a*(-(n/(a*bf t))) by rw[Int.mul_neg],abo]
  have e2:lu t (n%(a*bf t))=lu t n:=by
   rw[<-CY (n%(a*bf t)) hs.tail,<-CY n hs.tail,Int.emod_emod_of_dvd n (Int.dvd_mul_left a (bf t))]
  rw[e1,e2]
theorem LG:∀{s:List Int} {n:Int},oG s->0<=n->n<bf s->kG s (lu s n)=n
 | [],n,_,h0,h1=>by simp[bf]at h1;simp[lu,kG];omega
 |a::t,n,hs,h0,h1=>by
  have hp:=iL hs.tail;have ha:=hs a (a3u ..);simp only[lu,kG];simp only[bf]at h1;have h2:0<=n/bf t:=agk h0 (by omega);have h3:n/bf t<a:=Int.ediv_lt_of_lt_mul (by omega) h1;rw[a8h h2 h3,<-CY n hs.tail,LG hs.tail (agj _ (by omega)) (Int.emod_lt_of_pos _ (by omega))];exact Int.ediv_mul_add_emod n (bf t)
theorem LH:∀{s p:List Int},jF s p=true->oG s->lu s (kG s p)=p
 | [],[],_,_=>rfl
 |a::t,d::p,h,hs=>by
  simp only[jF,a2r,a1T]at h;have ih:=LH h.2 hs.tail;have hr:=wI h.2 hs.tail;have hp:=iL hs.tail;simp only[lu,kG];have e1:(d*bf t+kG t p)/bf t=d:=by
   rw[agl,Int.add_mul_ediv_right _ _ (by omega),Int.ediv_eq_zero_of_lt hr.1 hr.2];omega
  have e2:lu t (d*bf t+kG t p)=lu t (kG t p):=by
   rw[<-CY _ hs.tail,agl,Int.add_mul_emod_self_right,CY _ hs.tail]
  rw[e1,e2,ih,a8h h.1.1 h.1.2]
theorem dZ{s:List Int}{k:Nat}(h:k<s.length):s.getD k 0∈s:=by
 have:s.getD k 0=s[k]:=by simp[List.getD,a0E h]
 rw[this];exact a4d h
theorem Oo{s:List Int}{k:Nat}(h:k<s.length):bf (s.drop k)=s.getD k 0*bf (s.drop (k+1)):=by
 rw[a7R h];simp[bf,List.getD,a0E h]
theorem yR{l:List Int}{i j:Nat}{a:Int}(h:i<l.length):(l.set i a).getD j 0=if i=j then a else l.getD j 0:=by
 simp only[a3d,a9f];split<;>simp_all
def a2x(s:List Int)(k:Nat)(x:Int×List Int):Int×List Int:=(U1 .i64 x.1 (s.getD k 0),x.2.set k (NR .i64 x.1 (s.getD k 0)))
theorem aeg{a b:Int}(h0:0<=a)(h1:a<2^62)(hb:0<b):U1 .i64 a b=a/b:=by
 have:a/b<=a:=Int.ediv_le_self b h0;have h2:0<=a/b:=agk h0 (by omega);rw[U1,Int.tdiv_eq_ediv_of_nonneg h0,fF (by omega) (by omega)]
theorem aeh{a b:Int}(h0:0<=a)(h1:a<2^62)(hb:0<b):NR .i64 a b=a%b:=by
 have h2:0<=a%b:=agj _ (by omega);have h3:a%b<=a:=by
  have:=Int.emod_def a b;have h4:0<=b*(a/b):=ag4 (by omega) (agk h0 (by omega));omega
 rw[NR,Int.tmod_eq_emod_of_nonneg h0]
theorem a5R{s:List Int}{n:Int}(hs:oG s)(h0:0<=n)(h1:n<2^62){o:List Int}(ho:o.length=s.length):(Oj (a2x s) s.length (n,o)).2=lu s n:=by
 have:=RH (g:=a2x s) (k:=s.length) (s:=(n,o)) (fun k x=>x.1=n/bf (s.drop k)∧x.2.length=s.length∧∀j,k<=j->j<s.length->x.2.getD j 0=(lu s n).getD j 0)
  ⟨by simp[bf],ho,fun j h1 h2=>by omega⟩ (fun k x hk hx=>by
   obtain⟨e1,e2,e3⟩:=hx;have hp:1<=bf (s.drop (k+1)):=iL fun a ha=>hs a (a5s ha);have ha:=hs _ (dZ hk);have hx0:0<=x.1:=by rw[e1];exact agk h0 (by omega)
   have hx1:x.1<=n:=by rw[e1];exact Int.ediv_le_self _ h0
   simp only[a2x];rw[aeg hx0 (by omega) (by omega),aeh hx0 (by omega) (by omega)];refine⟨?_,by simp[e2],fun j h2 h3=>?_⟩
   .rw[Oo hk,Int.mul_comm,<-Int.ediv_ediv_of_nonneg (by omega),e1]
   .rw[yR (by omega)];split
    .rename_i e;subst e;rw[RI s n k hk,e1]
    .exact e3 j (by omega) h3)
 obtain⟨_,e2,e3⟩:=this;rw[rC (d:=0) (by rw[e2,WL])];intro j hj;exact e3 j (a4A _) (by omega)
def Ez(s:List Int):Int:=aW (fun k n=>if i64.wrap (n*s.getD k 0)<3000 then i64.wrap (n*s.getD k 0)else 3000) s.length 0 1
theorem WM{s:List Int}(hs:oG s):Ez s=min 3000 (bf s):=by
 have:=dW (g:=fun k n=>if i64.wrap (n*s.getD k 0)<3000 then i64.wrap (n*s.getD k 0)else 3000) (m:=s.length) (k:=0) (s:=(1:Int)) (fun k n=>n=min 3000 (bf (s.take k))) (by simp[bf];decide) (fun j n h1 h2 h3=>by
  have hj:j<s.length:=by omega
  have ha:=hs _ (dZ hj);have hp:1<=bf (s.take j):=iL fun a ha=>hs a (a8Z ha);have e:bf (s.take (j+1))=bf (s.take j)*s.getD j 0:=by
   rw[a6Y hj,DI];simp[bf,List.getD,a0E hj]
  have hn0:1<=n:=by omega
  have hn1:n<=3000:=by omega
  have h4:n*s.getD j 0<=3000*12:=Int.mul_le_mul hn1 ha.2 (by omega) (by omega);have h5:1<=n*s.getD j 0:=by have:=Int.mul_le_mul hn0 ha.1 (by omega) (by omega);omega
  rw[fF (by omega) (by omega),e];by_cases hc:bf (s.take j)<=3000
  .have:n=bf (s.take j):=(by omega);rw[this];split<;>omega
  have:n=3000:=by omega
  subst this;have h6:3000*s.getD j 0<=bf (s.take j)*s.getD j 0:=a8A (by omega) (by omega);have h7:3000<=3000*s.getD j 0:=by omega
  split<;>omega)
 rw[a3E,ab5]at this;exact this
theorem wH.a5S{s:List Int}(h:wH s):Ez s=bf s:=by rw[WM h.sz];have:=h.many;omega
abbrev Fb(s:List Int):Nat:=(bf s).toNat
theorem wH.aei{s:List Int}(h:wH s):((Fb s:Nat):Int)=bf s:=by have:=iL h.sz;show((bf s).toNat:Int)=_;omega
theorem wH.Fb{s:List Int}(h:wH s):((Fb s:Nat):Int)=Ez s:=by rw[h.a5S,h.aei]
theorem wH.lt{s:List Int}(h:wH s){k:Nat}(hk:k<cO.Fb s):decide ((k:Int)<Ez s)=true:=by rw[<-h.Fb];exact bC hk
theorem wH.no{s:List Int}(h:wH s):decide (((cO.Fb s:Nat):Int)<Ez s)=false:=by rw[<-h.Fb];exact fD _
theorem wH.ahV{s:List Int}(h:wH s):s.length<=ah:=by have:=h.len;unfold ah;omega
theorem WO{α:Type}(f:Nat->α)(n:Nat):aW (fun k (s:List α)=>s++[f k]) n 0 []=(List.range n).map f:=by
 have:=dW (g:=fun k (s:List α)=>s++[f k]) (m:=n) (k:=0) (s:=[]) (fun k s=>s=(List.range k).map f) rfl (fun j s _ _ h=>by rw[h,ad3,a3H];rfl);simpa using this
end cO
namespace Tw
open Go Go.Proofs Go.Shelf
section
variable {P:Program} {ρ:Ren}
theorem a2y{M:Mp}{w:World}{h:List HB}(hV:Valid M uF (kH h) w){b off len cap:Nat}{ex:Bool}{y:Value}(hx:VR M.h (.slc b off len cap 1 ex) y)(h0:0<len){k:BK}{cs r:List TV}(hb:h[b]? = some (.cells k cs))(hk:k≠.ro)
  (hl:k=.last->off+cap=cs.length) (hr:sub cs off len=some r) :
  ∃ls p cap',M (.h b)=some (.cells ls)∧p∈ls∧y=.slice (some ⟨p.c,off,none⟩) len cap'∧len<=cap'∧cap<=cap'∧off+cap<=p.ext∧off+cap'<=p.tot∧cap'<2^63∧ML M.h w k cs p∧p.base=0∧(∀c∈cs,iO c=true) ∧
   ∃xs:List Value,bU M.h r xs∧∀(j:Nat) (v:Value),xs[j]? = some v->w.cell? ⟨p.c,off+j,none⟩=some v:=by
 cases hx with
 |slc hm hp EJ hle vV hex ha anE=>
  rename_i ls p a cap';obtain⟨fP,h1,h2⟩:=hV.ok _ _ hm trivial;have hg:kH h (.h b)=some (.cells k cs):=by simp[St.get,hb]
  rw[hg]at h1;cases h1;have hp:=hp.resolve_left (by omega);have FI:=h2.2.1 p hp;have zG:=FI.base hk;rcases ha with ha|⟨rfl,ha⟩
  .omega
  obtain⟨xs,g1,g2⟩:=FI.slice hr (by omega) (fun e=>by have:=hl e;have:=FI.ext;omega);rw[zG]at g2 ha ⊢;simp only[a3E,agv]at g2 ha EJ ⊢;exact⟨ls,p,cap',hm,hp,rfl,by omega,vV,EJ,ha,anE,FI,zG,h2.1,xs,g1,g2⟩
end
open Go.Sort
theorem aej{N:Np}{k:IntKind}{n:Int}{y:Value}(h:VR N (.int k n) y):y=.int k n:=by cases h;rfl
section
variable {P:Program} {M:Mp} {D:Key->Prop} {C:Ct} {w w':World}
theorem aek(h:Valid M D C w){k:Key}{ls:List Pl}{p:Pl}{cs cs':List TV}{kk AX:BK}
  (hk:M k=some (.cells ls)) (hd:D k) (hc:C k=some (.cells kk cs)) (hp:p∈ls) (xJ:(kk=.own∧AX=.own)∨((kk=.grow∨kk=.last)∧AX=.last∧p.ext=cs.length))
  (hl:cs'.length=cs.length) (hn:∀c∈cs',iO c=true) {uG:Array Value} {ty':TypeId} (yC:w'.heap[p.c]? = some (.cells uG ty' (0,0))) (hs':uG.size=p.tot)
  (VE:∀c,c<w.heap.size->c≠p.c->w'.heap[c]? = w.heap[c]?) (uN:w.heap.size<=w'.heap.size) (ho:w'.os=w.os) (hou:w'.output=w.output) (ht:w'.tape=w.tape)
  (a5T:∀(i:Nat) (c:TV) (v:Value),cs'[i]? = some c->uG[i]? = some v->VR M.h c v) :
  Valid M D (l9 C k (.cells AX cs')) w'∧Ext M C w M (l9 C k (.cells AX cs')) w' [k]:=by
 obtain⟨hb,he,h1,FI,jk,huq,arr,ty,hr,hs,hle,hv⟩:=h.wrB hk hd hc hp xJ;have iq:kk≠.ro:=by rcases xJ with⟨e,_⟩|⟨e|e,_⟩<;>rw[e]<;>simp
 have XV:∀b0,C k=some b0->wr b0=true:=fun b0 zG=>by rw[hc]at zG;cases zG;cases kk<;>simp_all [wr]
 have qo:dJ M k (.cells ls)=M:=Ib hk;have fU:∀c,c<w.heap.size->c∉aI (.cells ls)->w'.heap[c]? = w.heap[c]?:=fun c hc0 hc=>VE c hc0 (fun e=>hc (by rw[e];exact a1L.2 ⟨p,hp,rfl⟩));have gQ:∀c∈aI (.cells ls),(∃l0,M k=some l0∧c∈aI l0)∨w.heap.size<=c:=fun c hc=>.inl ⟨_,hk,hc⟩;have Ie:rV M (dJ M k (.cells ls)):=by rw[qo];exact .refl _
 have aQ:∀q∈ls,q.c<w.heap.size:=fun q hq=>h.inb _ _ hk q.c (a1L.2 ⟨q,hq,rfl⟩);refine⟨?_,?_⟩
 .have:=h.upd (D':=D) (w':=w') k (.cells AX cs') (.cells ls) (fun j hj=>.inl hj) (fun l0 h0=>by
   rw[hk]at h0;cases h0;exact⟨hd,.refl _,XV⟩) fU gQ uN (by
   rw[qo];refine⟨hn,fun q hq=>?_,fun e=>?_,fun e=>⟨jk,fun q1 Ju q2 FT e1 e2=>by rw[huq q1 Ju (by omega),huq q2 FT (by omega)]⟩⟩
   .have hq0:=FI q hq;by_cases Y7:q.c=p.c
    .have:=MR jk hp hq Y7;subst this;exact⟨⟨uG,ty',(0,0),yC,hs',fun _=>rfl,fun _ i c v _ a b=>a5T i c v a (by simpa[hb]using b)⟩,by omega,by omega,fun _=>hb⟩
    .obtain⟨anF,ty2,fz2,t1,t2,t3,t4⟩:=hq0.row;refine⟨⟨anF,ty2,fz2,(VE q.c (aQ q hq) Y7).trans t1,t2,fun _=>t3 iq,fun hz i c v hi a b=>?_⟩,hq0.fit,by have:=hq0.ext;omega,fun _=>hq0.base iq⟩;exfalso;apply Y7;rcases xJ with⟨e,_⟩|⟨_,e,_⟩
     .obtain⟨b',g1,g2⟩:=h.ok k _ hk hd;rw[hc]at g1;cases g1;obtain⟨q',g3,_⟩:=g2.2.2.1 e;rw[g3]at hq hp;simp at hq hp;rw[hq,hp]
     .rw[huq q hq (by rw[hz e];omega)]
   .rcases xJ with⟨e0,_⟩|⟨_,e1,_⟩
    .obtain⟨b',g1,g2⟩:=h.ok k _ hk hd;rw[hc]at g1;cases g1;obtain⟨q',g3,g4⟩:=g2.2.2.1 e0;exact⟨q',g3,by omega⟩
    .rw[e1]at e;cases e)
  rwa [qo]at this
 .have:=Ext.upd (M:=M) (C:=C) (w:=w) (w':=w') k (.cells AX cs') (.cells ls) [k] (.inl ⟨by simp[hc],rfl,by simp[hk],XV⟩) Ie fU gQ uN ho hou ht
  rwa [qo]at this
end
def JK:List TV->Option (List Int)
 | []=>some []
 |.int .i64 n::r=>(JK r).map (n::·)
 |_=>none
theorem Oq:∀{cs:List TV} {zs:List Int},JK cs=some zs->cs=zs.map fun n=>TV.int .i64 n
 | [],zs,h=>by simp[JK]at h;subst h;rfl
 |c::r,zs,h=>by
  unfold JK at h;split at h
  .rename_i e;cases e
  .rename_i n r' e;cases e;simp only[a0D]at h;obtain⟨ys,h1,rfl⟩:=h;rw[Oq h1];rfl
  cases h
def gy(l:List Int):List Int:=l.mergeSort fun x y=>decide (x<=y)
def a5U(g:List Int->List Int)(fI:Nat):aY
 |.fn f [] [],[d],h=>
  if f=fI then
   match d with
   |.nil .slc=>some (.dG [],h,[])
   |.slc _ _ 0 _ _ _=>some (.dG [],h,[])
   |.slc b 0 n n' 1 _=>match h[b]? with
    |some (.cells k cs)=>match zK k true,JK cs with
     |some k',some zs=>if n=n'∧cs.length=n∧0<n∧n<=2^20 then some (.dG [],h.set b (.cells k' ((g zs).map fun x=>TV.int .i64 x)),[b])else none
     |_,_=>none
    |_=>none
   |_=>none
  else none
 |_,_,_=>none
def Ot:Nat->aY:=a5U gy
section
variable {P:Program} {ρ:Ren}
theorem WQ(L:Lays.n189 P ρ):iw P (Ot (ρ.f 189)):=by
 intro fv args h v h' ws hc M w x xs hV yN hx Nc;unfold Ot a5U at hc;split at hc
 case h_2=>cases hc
 rename_i f d;split at hc
 case isFalse=>cases hc
 rename_i hf;subst hf;cases hx with
 | @fn _ _ _ ys zs h1 h1a h3 h3a=>
 have:ys=[]:=a3F h1.symm;subst this;have:zs=[]:=a3F h3.symm;subst this;obtain⟨dv,r1,rfl,hdv,Nc⟩:=Nc.iH;have:=Nc.pI;subst this;have enters:∀{R:Value->World->Prop},Calls P (ρ.f 189) #[dv] w (Kv R) ->
   ∃d,(∀w,(Deferred.ofValue (.func (.func (ρ.f 189)) [].toArray [].toArray) [dv].toArray).run P w=.ok d w)∧((KQ P d w R∧∃f a b,(TV.fn (ρ.f 189) [] [])=.fn f a b)∨(TG P d w R∧∃l,(TV.fn (ρ.f 189) [] [])=.jZ l)):=by
  intro R Ul;refine⟨{ target:=.fn (.func (ρ.f 189)) #[],args:=#[dv] },fun w=>by simp[Deferred.ofValue],.inl ⟨⟨ρ.f 189,_,?_,fun n=>callsIn_wide.2 Ul⟩,_,_,_,rfl⟩⟩;have e1:=L.f189;have e2 : ¬ (Body.n189 ρ).name = "runtime.NumGoroutine" := by simp [Body.n189]
  obtain⟨c,e3⟩:∃c,(Body.n189 ρ).body=some c:=⟨_,rfl⟩;simp[invoke,callFunc,program,Sem.run,e1,e2,e3]
 split at hc
 .simp only[a01,a1o]at hc;obtain⟨rfl,rfl,rfl⟩:=hc;cases hdv;refine enters ((Any.slices_Sort_int_none L none 0 w).mono fun e w' ⟨he,hw⟩=>?_);subst he;subst hw;exact⟨M,hV,yN,.refl _ _ _,.PN .nil⟩
 .simp only[a01,a1o]at hc;obtain⟨rfl,rfl,rfl⟩:=hc;cases hdv;refine enters ((Any.slices_Sort_int_none L _ _ w).mono fun e w' ⟨he,hw⟩=>?_);subst he;subst hw;exact⟨M,hV,yN,.refl _ _ _,.PN .nil⟩
 .rename_i b n n' ex _;split at hc
  case h_2=>cases hc
  rename_i k cs hb;split at hc
  case h_2=>cases hc
  rename_i k' zs nU hzs;split at hc
  case isFalse=>cases hc
  rename_i Qy;obtain⟨rfl,pU,hn0,atm⟩:=Qy;simp only[a01,a1o]at hc;obtain⟨rfl,rfl,rfl⟩:=hc;have QB:=Oq hzs;have XW:zs.length=n:=by rw[<-pU,QB,a3Q]
  have hk:k≠.ro:=by rintro rfl;cases nU
  have ahW:sub cs 0 n=some cs:=by
   unfold sub;rw[a0V (by omega)];simp[<-pU]
  obtain⟨ls,p,cap',k1,k2,rfl,k3,k4,k5,k6,k7,k8,k9,k10,csv,k11,k12⟩:=a2y hV hdv hn0 hb hk (fun _=>by omega) ahW;have hpe:p.ext=cs.length:=by have:=k8.ext;omega
  obtain⟨arr,ty,fz,z1,z2,z3,_⟩:=k8.row;have:=z3 hk;subst this;have aQ:=(a2s.1 z1).1;have hcv:csv=zs.map fun n=>Value.int .i64 n:=by
   apply a9h;intro i;by_cases hi:i<n
   .have hi1:i<cs.length:=(by omega);have Kq:i<csv.length:=by rw[<-k11.len];exact hi1
    have:=k11.at_ i cs[i] csv[i] (by simp[hi1]) (by simp[Kq]);have hc1:cs[i]? = (zs.map fun n=>TV.int .i64 n)[i]?:=(by rw[<-QB]);rw[a0E hi1,a3V,a0E (by omega)]at hc1;simp only[a1z,a01]at hc1;rw[hc1]at this;rw[a0E Kq,a3V,a0E (by omega)];rw[aej this];rfl
   .rw[a3I (by rw[<-k11.len];omega),a3I (by rw[a3Q];omega)]
  have hH:Holds (Value.int .i64) w p.c 0 zs.toArray:=fun j hj=>by
   simp only[List.size_toArray]at hj;refine⟨?_,by simp[World.frozen?,z1]⟩;refine k12 j _ ?_;rw[hcv,a3V,a0E hj];simp[hj]
  have Ul:=Any.slices_Sort_int L p.c 0 cap' zs w hH aQ (by omega);rw[XW]at Ul;refine enters (Ul.mono fun e w' ⟨he,N,os,hw⟩=>?_);subst he;have hsl:(gy zs).length=n:=by unfold gy;rw[aam,XW]
  have hgb:kH h (.h b)=some (.cells k cs):=by simp[St.get,hb]
  have xJ:(k=.own∧k'=.own)∨((k=.grow∨k=.last)∧k'=.last∧p.ext=cs.length):=by
   rcases Jt nU with e|⟨a,b,_⟩
   .exact .inl e
   .exact .inr ⟨a,b,hpe⟩
  have yC:w'.heap[p.c]? = some (.cells (putCells (Value.int .i64) 0 (gy zs).toArray arr) ty (0,0)):=by
   rw[hw,heap_grow_old _ _ (by simp[putRow,mapBlock,Sort.ahead];exact aQ)];simp only[putRow,mapBlock,Sort.ahead,abb,a2D,z1,a1z,onCells];rfl
  have VE:∀c,c<w.heap.size->c≠p.c->w'.heap[c]? = w.heap[c]?:=fun c hc0 iq=>by
   rw[hw,heap_grow_old _ _ (by simp[putRow,mapBlock,Sort.ahead];exact hc0)];simp only[putRow,mapBlock,Sort.ahead,abb];rw[a0S (fun e=>iq e.symm)]
  obtain⟨g1,g2⟩:=aek (w':=w') (cs':=(gy zs).map fun x=>TV.int .i64 x) hV k1 trivial hgb k2 xJ (by rw[a3Q,hsl,pU]) (fun c hc=>by
   obtain⟨y,_,rfl⟩:=a1L.1 hc;rfl) yC (by simp[putCells,z2]) VE (by rw[hw];simp[putRow,mapBlock,Sort.ahead]) (by rw[hw];rfl) (by rw[hw];rfl) (by rw[hw];rfl) (fun i c u hc hu=>by
   rw[a3V]at hc;simp only[a0D]at hc;obtain⟨y,hy,rfl⟩:=hc;have hi:i<(gy zs).length:=(a02.1 hy).1;have hia:i<arr.size:=(by omega);simp only[putCells,Array.getElem?_mapIdx,a3C hia,a1z,a01]at hu;rw[a0V ⟨a4A _,by simp;omega⟩]at hu;subst hu;have:(gy zs).toArray[i-0]! = y:=by
    have h9:=(a02.1 hy).2;simp[hi,h9]
   rw[this];exact .int _ _)
  have yL:=(a02.1 hb).1;have EM:kH (h.set b (.cells k' ((gy zs).map fun x=>TV.int .i64 x)))=l9 (kH h) (.h b) (.cells k' ((gy zs).map fun x=>TV.int .i64 x)):=ji ⟨[],[],h,[]⟩ b _ yL [] [];exact⟨M,by rw[EM];exact g1,yN,by rw[EM];exact g2,.PN .nil⟩
 .cases hc
end
end Tw
namespace Go.Proofs.YtmobpoiejckagaaGreat
open Go Tw Go.Shelf
def a2z:Go.Shelf.Ren:=⟨fun| 189=>137| 125=>180| 257=>179| 128=>216| 129=>217| 294=>207| 295=>208| 296=>209| 297=>210| 298=>211| 299=>212| 216=>213| 300=>214| 301=>215| 328=>229| 329=>230| 330=>231| 331=>232| 332=>233| 215=>219| 343=>235|n=>n,fun| 28=>22| 3=>3| 46=>184| 0=>0| 51=>204| 53=>207| 4=>4| 183=>212| 182=>211| 131=>152| 5=>5| 9=>9| 218=>227| 222=>231| 228=>233| 229=>192|n=>n,fun|n=>n⟩
theorem abv:Lays.n189 Tryz.prog a2z where
 mixed:=by kernel_rfl
 f125:=Tryz.func180.trans (congrArg some (by kernel_rfl))
 f128:=Tryz.func216.trans (congrArg some (by kernel_rfl))
 f129:=Tryz.func217.trans (congrArg some (by kernel_rfl))
 f189:=Tryz.func137.trans (congrArg some (by kernel_rfl))
 f215:=Tryz.func219.trans (congrArg some (by kernel_rfl))
 f216:=Tryz.func213.trans (congrArg some (by kernel_rfl))
 f257:=Tryz.func179.trans (congrArg some (by kernel_rfl))
 f294:=Tryz.func207.trans (congrArg some (by kernel_rfl))
 f295:=Tryz.func208.trans (congrArg some (by kernel_rfl))
 f296:=Tryz.func209.trans (congrArg some (by kernel_rfl))
 f297:=Tryz.func210.trans (congrArg some (by kernel_rfl))
 f298:=Tryz.func211.trans (congrArg some (by kernel_rfl))
 f299:=Tryz.func212.trans (congrArg some (by kernel_rfl))
 f300:=Tryz.func214.trans (congrArg some (by kernel_rfl))
 f301:=Tryz.func215.trans (congrArg some (by kernel_rfl))
 f328:=Tryz.func229.trans (congrArg some (by kernel_rfl))
 f329:=Tryz.func230.trans (congrArg some (by kernel_rfl))
 f330:=Tryz.func231.trans (congrArg some (by kernel_rfl))
 f331:=Tryz.func232.trans (congrArg some (by kernel_rfl))
 f332:=Tryz.func233.trans (congrArg some (by kernel_rfl))
 f343:=Tryz.func235.trans (congrArg some (by kernel_rfl))
 t0:=Tryz.underlying0
 a0:=Tryz.isAgg0
 z0:=Tryz.sizeOf0
 v0:=Tryz.zeroValue0
 t3:=Tryz.underlying3
 a3:=Tryz.isAgg3
 z3:=Tryz.sizeOf3
 v3:=Tryz.zeroValue3
 t4:=Tryz.underlying4
 a4:=Tryz.isAgg4
 z4:=Tryz.sizeOf4
 v4:=Tryz.zeroValue4
 t5:=Tryz.underlying5
 a5:=Tryz.isAgg5
 z5:=Tryz.sizeOf5
 v5:=Tryz.zeroValue5
 t9:=Tryz.underlying9
 a9:=Tryz.isAgg9
 z9:=Tryz.sizeOf9
 v9:=Tryz.zeroValue9
 t28:=Tryz.underlying22
 a28:=Tryz.isAgg22
 z28:=Tryz.sizeOf22
 v28:=Tryz.zeroValue22
 t46:=Tryz.underlying184
 a46:=Tryz.isAgg184
 z46:=Tryz.sizeOf184
 v46:=Tryz.zeroValue184
 t51:=Tryz.underlying204
 a51:=Tryz.isAgg204
 z51:=Tryz.sizeOf204
 v51:=Tryz.zeroValue204
 t53:=Tryz.underlying207
 a53:=Tryz.isAgg207
 z53:=Tryz.sizeOf207
 v53:=Tryz.zeroValue207
 t131:=Tryz.underlying152
 a131:=Tryz.isAgg152
 z131:=Tryz.sizeOf152
 v131:=Tryz.zeroValue152
 t182:=Tryz.underlying211
 a182:=Tryz.isAgg211
 z182:=Tryz.sizeOf211
 v182:=Tryz.zeroValue211
 t183:=Tryz.underlying212
 a183:=Tryz.isAgg212
 z183:=Tryz.sizeOf212
 v183:=Tryz.zeroValue212
 t218:=Tryz.underlying227
 a218:=Tryz.isAgg227
 z218:=Tryz.sizeOf227
 v218:=Tryz.zeroValue227
 t222:=Tryz.underlying231
 a222:=Tryz.isAgg231
 z222:=Tryz.sizeOf231
 v222:=Tryz.zeroValue231
 t228:=Tryz.underlying233
 a228:=Tryz.isAgg233
 z228:=Tryz.sizeOf233
 v228:=Tryz.zeroValue233
 t229:=Tryz.underlying192
 a229:=Tryz.isAgg192
 z229:=Tryz.sizeOf192
 v229:=Tryz.zeroValue192
end Go.Proofs.YtmobpoiejckagaaGreat
namespace Tw
open Go
def Ou(h h':List HB):Prop:=(∀b:Nat,(∀cs,h[b]?≠some (HB.mg cs))->h'[b]? = h[b]?)∧∀(b:Nat) cs,h[b]? = some (HB.mg cs)->∃cs',cs'.Perm cs∧h'[b]? = some (HB.cells .last cs')
def ael(f:Nat)(call:aY)(fv:TV)(args:List TV)(h:List HB)(v:TV):Prop:=(∃k n,v=.int k n)∧fv=.fn f [] []∧∀h',Ou h h'->∃h2,call fv args h'=some (v,h2,[])
open Classical in
def a2A(f:Nat)(call:aY):aY:=fun fv args h=>if hx:∃v,ael f call fv args h v then some (Classical.choose hx,h,[])else none
theorem RJ{h h':List HB}(hu:Ou h h'):∀b:Nat,(h'[b]?).isSome=(h[b]?).isSome:=fun b=>by
 cases e:h[b]? with
 |none=>rw[hu.1 b (fun cs=>by rw[e];nofun),e]
 |some x=>
  by_cases hb:∃cs,x=.mg cs
  .obtain⟨cs,rfl⟩:=hb;obtain⟨cs',_,e2⟩:=hu.2 b cs e;rw[e2];rfl
  .rw[hu.1 b (fun cs=>by rw[e];intro h2;cases h2;exact hb ⟨cs,rfl⟩),e]
theorem WR(h:List HB):∀(g:Nat->List TV),(∀(b:Nat) cs,h[b]? = some (HB.mg cs)->(g b).Perm cs)->Ou h (h.mapIdx fun b x=>match x with|HB.mg _=>HB.cells .last (g b)|x=>x):=fun g hg=>by
 constructor
 .intro b hb;rw[agm];cases e:h[b]? with
  |none=>rfl
  |some x=>
   simp only[a1z];cases x<;>first|rfl|exact absurd e (hb _)
 .intro b cs e;exact⟨g b,hg b cs e,by rw[agm,e];rfl⟩
theorem WS{M:Mp}{h:List HB}{w:World}(hV:Valid M uF (kH h) w):∃h',Ou h h'∧Valid M uF (kH h') w:=by
 have hg:∀b:Nat,∃g:List TV,∀cs,h[b]? = some (HB.mg cs)->g.Perm cs∧∀l,M (.h b)=some l->oV M.h w (.cells .last g) l:=fun b=>by
  by_cases hb:∃cs,h[b]? = some (HB.mg cs)
  .obtain⟨cs,hb⟩:=hb;cases hm:M (.h b)with
   |none=>exact⟨cs,fun VX h2=>⟨by rw[hb]at h2;cases h2;exact .refl _,fun l hl=>by cases hl⟩⟩
   |some l=>
    obtain⟨bb,c1,c2⟩:=hV.ok _ _ hm trivial;have c1:h[b]? = some bb:=c1;rw[hb]at c1;cases c1;cases l with
    |obj r o=>exact c2.elim
    |cells ls=>
     obtain⟨cs',p1,p2⟩:=c2;exact⟨cs',fun VX h2=>⟨by rw[hb]at h2;cases h2;exact p1,fun l hl=>by cases hl;exact p2⟩⟩
  exact⟨[],fun cs h2=>absurd ⟨cs,h2⟩ hb⟩
 let g:Nat->List TV:=fun b=>Classical.choose (hg b)
 have hgs:∀(b:Nat) cs,h[b]? = some (HB.mg cs)->(g b).Perm cs∧∀l,M (.h b)=some l->oV M.h w (.cells .last (g b)) l:=fun b=>a8C (hg b);have hu:=WR h g fun b cs e=>(hgs b cs e).1;generalize hh:(h.mapIdx fun b x=>match x with|HB.mg _=>HB.cells .last (g b)|x=>x)=h' at hu;refine⟨h',hu,?_⟩;have VK:∀(b:Nat) cs,h[b]? = some (HB.mg cs)->h'[b]? = some (HB.cells .last (g b)):=fun b cs e=>by rw[<-hh,agm,e];rfl
 refine⟨fun k l hk _=>?_,fun k k' l l' b iq hk nU _ hc hw=>?_,hV.inb⟩
 .obtain⟨bb,c1,c2⟩:=hV.ok k l hk trivial;cases k with
  |l k=>exact⟨bb,c1,c2⟩
  |h b=>
   have c1:h[b]? = some bb:=c1;by_cases hb:∃cs,bb=.mg cs
   .obtain⟨cs,rfl⟩:=hb;exact⟨_,VK b cs c1,(hgs b cs c1).2 l hk⟩
   refine⟨bb,?_,c2⟩;show h'[b]? = some bb;rw[hu.1 b (fun cs=>by rw[c1];intro h2;cases h2;exact hb ⟨cs,rfl⟩),c1]
 obtain⟨bb,c1,_⟩:=hV.ok k l hk trivial;refine hV.own k k' l l' bb iq hk nU trivial c1 ?_;cases k with
 |l k=>have hc:kH h (.l k)=some b:=hc;rw[c1]at hc;cases hc;exact hw
 |h i=>
  have c1:h[i]? = some bb:=c1;have hc:h'[i]? = some b:=hc;by_cases hb:∃cs,bb=.mg cs
  .obtain⟨cs,rfl⟩:=hb;rfl
  rw[hu.1 i (fun cs=>by rw[c1];intro h2;cases h2;exact hb ⟨cs,rfl⟩),c1]at hc;cases hc;exact hw
theorem Z9{M:Mp}{h h1:List HB}{w w':World}{v:TV}{y:Value}(hu:Ou h h1)(hv:∃k n,v=.int k n)(hR:jB M h1 w v h1 [] y w'):jB M h w v h [] y w':=by
 obtain⟨M',a1,a2,a3,a4⟩:=hR;have hs:∀k,(kH h1 k).isSome=(kH h k).isSome:=fun k=>by
  cases k with
  |l k=>rfl
  |h b=>exact RJ hu b
 have Jv:∀(b:Nat) bb,h1[b]? = some bb->(h[b]? = some bb∧∀cs,bb≠HB.mg cs)∨∃cs cs',bb=HB.cells .last cs'∧cs'.Perm cs∧h[b]? = some (HB.mg cs):=fun b bb e=>by
  by_cases hb:∃cs,h[b]? = some (HB.mg cs)
  .obtain⟨cs,hb⟩:=hb;obtain⟨cs',p,e2⟩:=hu.2 b cs hb;rw[e]at e2;cases e2;exact .inr ⟨cs,cs',rfl,p,hb⟩
  have:=hu.1 b fun cs h2=>hb ⟨cs,h2⟩;rw[e]at this;exact .inl ⟨this.symm,fun cs h2=>hb ⟨cs,by rw[<-this,h2]⟩⟩
 refine⟨M',⟨fun k l hk _=>?_,fun k k' l l' b iq hk nU _ hc hw=>?_,a1.inb⟩,a2,⟨a3.HY,a3.frame,fun _ _ _=>rfl,fun k hk hn=>a3.kP k ?_ hn,a3.fresh,a3.size,fun _ h=>h,fun k hk=>(by cases hk),fun k hk=>(by cases hk),a3.os,a3.output,a3.tape⟩,a4⟩
 .obtain⟨bb,c1,c2⟩:=a1.ok k l hk trivial;cases k with
  |l k=>exact⟨bb,c1,c2⟩
  |h b=>
   rcases Jv b bb c1 with⟨e,_⟩|⟨cs,cs',rfl,p,e⟩
   .exact⟨bb,e,c2⟩
   refine⟨_,e,?_⟩;cases l with
   |obj r o=>exact c2.elim
   |cells ls=>exact⟨cs',p,c2⟩
 .obtain⟨bb,c1,_⟩:=a1.ok k l hk trivial;refine a1.own k k' l l' bb iq hk nU trivial c1 ?_;cases k with
  |l k=>have hc:kH h1 (.l k)=some b:=hc;rw[c1]at hc;cases hc;exact hw
  |h i=>
   have hc:h[i]? = some b:=hc;rcases Jv i bb c1 with⟨e,_⟩|⟨cs,cs',rfl,p,e⟩
   .rw[hc]at e;cases e;exact hw
   rfl
 rcases hk with hk|hk
 .exact .inl (by rw[hs];exact hk)
 refine .inr ?_;have:=hs k;rw[hk]at this;cases e:kH h1 k with
 |none=>rfl
 |some x=>rw[e]at this;cases this
theorem a9u{P:Program}{f:Nat}{call:aY}(hC:iw P call):iw P (a2A f call):=by
 intro fv args h v h' ws hc M w x xs hV yN hx Nc;unfold a2A at hc;split at hc
 rotate_left
 .cases hc
 rename_i hb;have hs:=a8C hb;simp only[a01,a1o]at hc;obtain⟨rfl,rfl,rfl⟩:=hc;obtain⟨hv,hfn,EO⟩:=hs;obtain⟨h1,hu,hV1⟩:=WS hV;obtain⟨h2,xO⟩:=EO h1 hu;obtain⟨d,e1,e2⟩:=hC _ _ _ _ _ _ xO M w x xs hV1 yN hx Nc;refine⟨d,e1,?_⟩;rcases e2 with⟨⟨f',az,q1,q2⟩,r⟩|⟨⟨l,f',tmps,uD,body,q1,q2⟩,r⟩
 .refine .inl ⟨⟨f',az,q1,fun n=>CallsIn.mono (F:=Fence.wide) (q2 n) fun en w3 Vz=>?_⟩,r⟩;cases en with
  |panicked c=>exact Vz.elim
  |outgrown=>exact Vz.elim
  |returned y=>
   refine Z9 hu hv (jB.norm (mg:=false) hV1 yN ?_ Vz);obtain⟨k,n,e⟩:=hv;rw[e];simp[Nw,Bj,vZ,mX,C9,TP,Kw]
 obtain⟨l',e⟩:=r;exact absurd hfn (by rw[e];nofun)
theorem a9v{f:Nat}{call:aY}{args:List TV}{h:List HB}{k:IntKind}{n:Int}(hb:ael f call (.fn f [] []) args h (.int k n))(iq:∃h',Ou h h'):a2A f call (.fn f [] []) args h=some (.int k n,h,[]):=by
 have hx:∃v,ael f call (.fn f [] []) args h v:=⟨_,hb⟩;unfold a2A;rw[dif_pos hx];obtain⟨h',hu⟩:=iq;obtain⟨h2,h1⟩:=(a8C hx).2.2 h' hu;obtain⟨h3,h4⟩:=hb.2.2 h' hu;rw[h4]at h1;have:Classical.choose hx=.int k n:=by
  simp only[a01,a1o]at h1;exact h1.1.symm
 rw[this]
end Tw
namespace Go.Proofs.YtmobpoiejckagaaGreat
def Tb:Tw.qy:={
 live:=[(4,[(0,[2,3]),(1,[2,3,14]),(2,[4]),(3,[2,3,5,6]),(4,[2,3,5,6,7,8]),(5,[2,3,5,6,7,8,9]),(6,[2,3,5,6,7,8,9,38]),(7,[2,3,5,6,7,8,9]),(8,[2,3,5,6,7,8,9,40]),(9,[4]),(10,[2,3,5,6,7,8,10,11]),(11,[7,8,10,11,75]),(12,[4]),(13,[7,8,10,77]),(14,[4]),(15,[4])]),
  (18,[(0,[1]),(1,[1,21]),(2,[2]),(3,[1,3]),(4,[1,3,26]),(5,[1,3]),(6,[1,3,36]),(7,[2]),(8,[2])]),
  (19,[(0,[]),(1,[1,2]),(2,[1,2,3,4]),(3,[1,2,3,4,5,6]),(4,[1,2,3,4,5,6,7,8]),(5,[1,2,3,4,5,6,7,8,9,10]),(6,[1,2,3,4,5,6,7,8,9,10,11,12]),(7,[1,2,3,4,5,6,7,8,9,10,11,12,13,14]),(8,[1,2,3,4,5,6,7,8,9,10,11,12,13,14,15,16]),(9,[1,2,3,4,5,6,7,8,9,10,11,12,13,14,16,17,18]),(10,[1,2,3,4,5,6,7,8,9,10,11,12,13,14,16,17,18,19,20]),(11,[1,3,4,5,6,7,8,9,10,11,12,13,14,16,17,18,20,21,22]),(12,[0])]),
  (20,[(0,[1,2,3,6]),(1,[1,2,3,6,8]),(2,[1,2,3,6,8,14]),(3,[6,7]),(4,[1,2,3,6,34]),(5,[6,7]),(6,[1,2,6,9]),(7,[6,9]),(8,[6,7])]),
  (21,[(0,[1,2]),(1,[1,2,3]),(2,[1,2,3,4]),(3,[1,2,3,4,21]),(4,[1,2,3,4]),(5,[1,2,3,4]),(6,[2])]),
  (22,[(0,[1]),(1,[1,3]),(2,[1,3,7]),(3,[2]),(4,[11]),(5,[2]),(6,[2])]),
  (23,[(0,[0,1,2]),(1,[6])]),
  (25,[(0,[1,3,5]),(1,[6])]),
  (27,[(0,[2,3]),(1,[3,6,7]),(2,[3,6,7,15]),(3,[4,5]),(4,[4,5])]),
  (28,[(0,[2,3]),(1,[3,6,7]),(2,[3,6,7,17]),(3,[4,5]),(4,[3,6,21]),(5,[4,5]),(6,[3,6,29,30,31]),(7,[3,6,29,30,31,32]),(8,[3,6,8,9,29,30,31]),(9,[3,6,8,29,30,31,36,37]),(10,[3,6,8,29,30,31,36,37,38]),(11,[3,6,8,10,29,30,31,36,37]),(12,[3,6,8,29,30,31,36,37]),(13,[3,6,8,29,30,31,36,37,49]),(14,[3,6,8,29,30,31,36,37]),(15,[3,6,29,30,31]),(16,[4,5])]),
  (29,[(0,[1]),(1,[1,5]),(2,[2]),(3,[2])]),
  (30,[(0,[2,3]),(1,[2,3,6]),(2,[2,3,6,7]),(3,[2,3,6,7,13]),(4,[2,3,6,7]),(5,[2,3,6,7,21]),(6,[4,5]),(7,[4,5])]),
  (31,[(0,[2,3]),(1,[2,3,5]),(2,[3,5,6]),(3,[3,5,6,7]),(4,[3,5,6,7,13]),(5,[3,5,6,7]),(6,[3,5,6,7,21]),(7,[3,5,6,7]),(8,[4])]),
  (32,[(0,[0,1]),(1,[0,1,10]),(2,[4]),(3,[0,1,5]),(4,[0,1,5,14]),(5,[0,1,5]),(6,[0,1,5,25]),(7,[4]),(8,[4])]),
  (33,[(0,[0,4,5,6]),(1,[0,4,5,6,8]),(2,[0,4,5,6,8,17]),(3,[6,7]),(4,[0,4,5,6,25]),(5,[6,7]),(6,[0,6,9]),(7,[0,6,9]),(8,[0,6,9,36]),(9,[6]),(10,[6,7]),(11,[0,6,9,10,11]),(12,[6,9,10,11,44]),(13,[6]),(14,[6,9,10,11,44,49]),(15,[6]),(16,[6,9,10,11,44,58]),(17,[6]),(18,[6,9,10,11,44,65]),(19,[6]),(20,[6,10,11,71]),(21,[6,10]),(22,[6,10]),(23,[6,10,81]),(24,[6]),(25,[6,7])]),
  (35,[(0,[2,3]),(1,[2,3,69]),(2,[4]),(3,[2,3,5]),(4,[2,3,5,74]),(5,[2,3,5]),(6,[2,3,5,87]),(7,[4]),(8,[4])]),
  (39,[(0,[0,3,4]),(1,[0,3,4,12]),(2,[4,5]),(3,[0,3,4,5]),(4,[0,3,4,5,20]),(5,[4,5]),(6,[0,3,4,25]),(7,[4,5]),(8,[0,3,4]),(9,[3,4,31,32,33]),(10,[3,4,31,32,33,34]),(11,[3,4,6,7,31,32,33]),(12,[3,4,6,8,31,32,33]),(13,[3,4,6,8,31,32,33,45]),(14,[4]),(15,[4,5]),(16,[3,4,6,9,31,32,33]),(17,[3,4,6,9,31,32,33,59]),(18,[3,4,31,32,33]),(19,[3,4,31,32,33]),(20,[4,5])]),
  (44,[(0,[1]),(1,[1,3]),(2,[1,3,7]),(3,[2]),(4,[1,3,4]),(5,[1,3,4,12]),(6,[1,3,4]),(7,[1,3,4]),(8,[2])]),
  (45,[(0,[0,4,5,6]),(1,[0,4,5,6,11]),(2,[0,4,5,6,11,12]),(3,[6,7]),(4,[0,4,5,6,20]),(5,[6,7]),(6,[4,5,6,8]),(7,[4,5,6,8,38]),(8,[6,7]),(9,[4,5,6,8,9,10]),(10,[4,5,6,8,9,47]),(11,[6,7]),(12,[6,7])]),
  (48,[(0,[0,2]),(1,[2])]),
  (49,[(0,[0]),(1,[2])]),
  (53,[(0,[0,1]),(1,[0,1,5]),(2,[0,1,5,6]),(3,[0,1,5,6,14]),(4,[0,1,5,6]),(5,[0,1,5,6]),(6,[0,1,5,6]),(7,[4])]),
  (54,[(0,[0,1]),(1,[0,1,12]),(2,[4]),(3,[4])]),
  (57,[(0,[0,1,2,3,8]),(1,[0,1,2,3,8,10]),(2,[0,1,2,3,8,10,17]),(3,[8,9]),(4,[0,1,2,3,8,36]),(5,[8,9]),(6,[0,2,3,8,11]),(7,[3,8,11,47,48]),(8,[3,8,11,47,48,49]),(9,[3,8,11,12,47,48]),(10,[3,8,11,12,47,48]),(11,[3,8,11,47,48]),(12,[3,8,11,47,48]),(13,[8,9])]),
  (58,[(0,[0,1]),(1,[0,1,8]),(2,[4]),(3,[0,1,5]),(4,[0,1,5,12]),(5,[0,1,5]),(6,[0,1,5,20]),(7,[4]),(8,[0,1,23]),(9,[4]),(10,[27]),(11,[4]),(12,[4])]),
  (62,[(0,[3,4,5,6]),(1,[3,4,5,6,8]),(2,[3,4,5,6,8,16]),(3,[6,7]),(4,[3,4,5,6,10]),(5,[3,4,5,6,10,27]),(6,[6,7]),(7,[6,7])]),
  (63,[(0,[3,4,5,6]),(1,[3,4,5,6,8]),(2,[3,4,5,6,8,15]),(3,[6,7]),(4,[6,7])]),
  (67,[(0,[1,2]),(1,[1,2,4]),(2,[1,2,4,9]),(3,[2,3]),(4,[2,3])]),
  (72,[(0,[2,3]),(1,[2,3,43]),(2,[4]),(3,[2,3,5]),(4,[2,3,5,48]),(5,[2,3,5]),(6,[2,3,5,79]),(7,[4]),(8,[4])]),
  (73,[(0,[0,1]),(1,[0,1,2]),(2,[0,1,2,3]),(3,[0,1])]),
  (74,[(0,[1,2,3]),(1,[1,2,3,7]),(2,[1,2,3,7,8]),(3,[1,2,3,7,8,12]),(4,[1,2,3,7,8]),(5,[1,2,3,7,8]),(6,[6])]),
  (75,[(0,[0,1]),(1,[0,1,10]),(2,[4]),(3,[0,1,5]),(4,[0,1,5,14]),(5,[0,1,5]),(6,[0,1,5,25]),(7,[4]),(8,[4])]),
  (76,[(0,[0]),(1,[0,6,7,8]),(2,[0,6,7,8,9]),(3,[0,4,6,7,8]),(4,[0,5,6,7,8]),(5,[0,5,6,7,8,15]),(6,[2]),(7,[0,6,7,8]),(8,[30]),(9,[2]),(10,[2])]),
  (77,[(0,[0,1,2]),(1,[6])]),
  (78,[(0,[0,1,4]),(1,[4])]),
  (79,[(0,[0,2]),(1,[2])]),
  (80,[(0,[1,2]),(1,[1,2,3]),(2,[1,2,3,4]),(3,[1,2,3,4,5]),(4,[1,2,3,5]),(5,[2,3]),(6,[2,6]),(7,[2])]),
  (81,[(0,[0]),(1,[2])]),
  (82,[(0,[0]),(1,[2])]),
  (83,[(0,[1]),(1,[1,3]),(2,[1,3,10]),(3,[2]),(4,[1,15]),(5,[2]),(6,[18]),(7,[2]),(8,[2])]),
  (84,[(0,[1]),(1,[1,3]),(2,[1,3,13]),(3,[1,3]),(4,[1,3,4]),(5,[1,3,4,18]),(6,[1,3,4]),(7,[1,3,4,31]),(8,[2]),(9,[1,5]),(10,[1,5,36]),(11,[1,5]),(12,[1,5,44]),(13,[2]),(14,[1,5,6]),(15,[1,5,6,47]),(16,[1,5,6]),(17,[1,5,6,77]),(18,[2]),(19,[1,7,8]),(20,[2])]),
  (86,[(0,[2,3,4]),(1,[2,3,4,6]),(2,[2,3,4,6,11]),(3,[4,5]),(4,[2,4,16]),(5,[4,5]),(6,[4,5])]),
  (87,[(0,[1,2]),(1,[1,2,3]),(2,[2,3,8]),(3,[3,4,10]),(4,[3,4,5]),(5,[3,4,5,15]),(6,[]),(7,[2])]),
  (88,[(0,[0,2,3]),(1,[2,3,6]),(2,[2,3,6,8]),(3,[2,3,4,6]),(4,[2,3,4,6,13]),(5,[2,3,6]),(6,[2,3,6]),(7,[2,3]),(8,[2,3])]),
  (89,[(0,[0]),(1,[0])]),
  (90,[(0,[0,2]),(1,[2,6]),(2,[2,6,8]),(3,[2,4,6]),(4,[2,6]),(5,[2])]),
  (93,[(0,[0]),(1,[2])]),
  (94,[(0,[0]),(1,[0,7]),(2,[0]),(3,[0,3]),(4,[0,3,4]),(5,[0,3,4,15]),(6,[0,3,4]),(7,[0,3,4]),(8,[2])]),
  (95,[(0,[0]),(1,[2])]),
  (96,[(0,[1]),(1,[2])]),
  (98,[(0,[1,2,4]),(1,[1,2,4,5]),(2,[1,2,4,5,9]),(3,[1,2,4,5]),(4,[4])]),
  (99,[(0,[3,4,5,6]),(1,[3,4,5,6,8]),(2,[6,7]),(3,[3,4,5,6,16]),(4,[6,7]),(5,[4,5,6,21]),(6,[6,7]),(7,[6,7])]),
  (100,[(0,[0,2]),(1,[0,2,6]),(2,[2]),(3,[2])]),
  (101,[(0,[0]),(1,[3]),(2,[3,4]),(3,[2]),(4,[3,6]),(5,[2]),(6,[3,8]),(7,[2]),(8,[3,10]),(9,[2]),(10,[3,13]),(11,[2]),(12,[3,16]),(13,[2]),(14,[3,19]),(15,[2]),(16,[22]),(17,[2]),(18,[2])]),
  (102,[(0,[0]),(1,[2])]),
  (103,[(0,[0,2]),(1,[0,2,4]),(2,[0,2,4,8]),(3,[2,3]),(4,[2,3])]),
  (104,[(0,[0,1]),(1,[0,1,5]),(2,[0,5,6]),(3,[0,5,6,11]),(4,[0,5,6]),(5,[0,5,6]),(6,[4])]),
  (105,[(0,[0,1]),(1,[0,1,9]),(2,[4]),(3,[0,1,13]),(4,[4]),(5,[0,1,5]),(6,[0,1,5,17,18,19]),(7,[0,1,5,17,18,19,20]),(8,[0,1,5,7,17,18,19]),(9,[0,1,5,17,18,19]),(10,[0,1,5,17,18,19]),(11,[0,1,28]),(12,[4]),(13,[0,8]),(14,[0,8]),(15,[38]),(16,[4]),(17,[4])]),
  (106,[(0,[1]),(1,[5]),(2,[2]),(3,[2])]),
  (108,[(0,[1,2]),(1,[2,4,5]),(2,[2,4,5,12]),(3,[2,3]),(4,[2,3])]),
  (109,[(0,[0,1]),(1,[0,1,11]),(2,[4]),(3,[0,1,5]),(4,[0,1,5,15]),(5,[0,1,5]),(6,[0,1,5,26]),(7,[4]),(8,[0,1,5,6]),(9,[0,1,5,6,29]),(10,[0,1,5,6]),(11,[0,1,5,6,40]),(12,[4]),(13,[4])]),
  (112,[(0,[0,1,3]),(1,[3,4]),(2,[3])]),
  (113,[(0,[0,2]),(1,[2,3]),(2,[2])]),
  (117,[(0,[0,2]),(1,[2,4]),(2,[2]),(3,[2])]),
  (121,[(0,[1]),(1,[4]),(2,[2])]),
  (122,[(0,[1,2]),(1,[4])]),
  (123,[(0,[2,3]),(1,[4])]),
  (124,[(0,[0,1]),(1,[0,1,10]),(2,[0,1]),(3,[0,5,6]),(4,[0,6,26]),(5,[0,6]),(6,[0,7]),(7,[7,8]),(8,[7,8,37]),(9,[7,8]),(10,[4])]),
  (125,[(0,[0]),(1,[0,4]),(2,[2]),(3,[2])]),
  (126,[(0,[1,2,3,4,5,6]),(1,[1,2,3,4,5,6,32]),(2,[1,2,3,4,5,6]),(3,[1,2,3,4,5,6,40]),(4,[3]),(5,[8]),(6,[1,2,3,4,5,6,9]),(7,[1,2,3,4,5,6,9,10]),(8,[1,2,3,4,5,6,9,10,68]),(9,[8]),(10,[1,2,3,4,5,6,9,11,12]),(11,[1,2,3,4,5,6,9,11,84]),(12,[8]),(13,[1,2,3,4,5,6,9,13]),(14,[1,2,3,4,5,6,9,13,93,94]),(15,[1,2,3,4,5,6,9,13,93,94,95]),(16,[1,2,3,4,5,6,9,13,14,93,94]),(17,[1,2,3,4,5,6,9,13,93,94]),(18,[1,2,3,4,5,6,9,13,93,94]),(19,[3,5,6,13]),(20,[5,6]),(21,[8])]),
  (127,[(0,[2,3,4]),(1,[2,4,10,11,12]),(2,[2,4,10,11,12,13]),(3,[2,4,7,8,10,11,12]),(4,[2,4,10,11,12,32]),(5,[6]),(6,[2,4,10,11,12]),(7,[6])]),
  (128,[(0,[2,3,4]),(1,[3,4,8,9,10]),(2,[3,4,8,9,10,11]),(3,[3,4,5,6,8,9,10]),(4,[3,4,8,9,10]),(5,[3,4,8,9,10]),(6,[4])]),
  (129,[(0,[2,3,4,5,8]),(1,[2,3,5,8,12,13,14]),(2,[2,3,5,8,12,13,14,15]),(3,[2,3,5,8,9,10,12,13,14]),(4,[2,3,5,8,9,10,12,13,14,34]),(5,[2,3,5,8,12,13,14]),(6,[2,3,5,8,12,13,14]),(7,[8])]),
  (130,[(0,[1,2]),(1,[2,6,7,8]),(2,[2,6,7,8,9]),(3,[2,3,4,6,7,8]),(4,[2,6,7,8]),(5,[2,6,7,8]),(6,[2])]),
  (131,[(0,[1]),(1,[1,3]),(2,[1,3,11]),(3,[1,3]),(4,[1,3,20]),(5,[2]),(6,[1,4]),(7,[1,4,25]),(8,[1,4]),(9,[1,4,5]),(10,[1,4,5,52]),(11,[2]),(12,[1,4,5,6]),(13,[1,4,5,6,57]),(14,[1,4,5,6]),(15,[1,4,5,6,81]),(16,[2]),(17,[2])]),
  (132,[(0,[1]),(1,[1,3]),(2,[1,3,8]),(3,[1,3]),(4,[1,3,20]),(5,[2]),(6,[2])]),
  (133,[(0,[1,2,3,4]),(1,[1,2,3,4,13]),(2,[1,2,3,18]),(3,[2,3]),(4,[8,9]),(5,[1,2,3,4,28]),(6,[8,9]),(7,[1,2,3,4,10]),(8,[1,2,3,4,10,11]),(9,[1,2,3,4,10,11,40]),(10,[1,2,3,4,10,11]),(11,[1,2,3,4,10,11]),(12,[8,9])]),
  (134,[(0,[0,1]),(1,[0,1,5]),(2,[0,1,5,9]),(3,[0,1,5]),(4,[0,1,5,17]),(5,[4]),(6,[4])]),
  (136,[(0,[1,2]),(1,[1,2,4]),(2,[1,2,4,21,22,23]),(3,[1,2,4,21,22,23,24]),(4,[1,2,4,6,21,22,23]),(5,[1,2,4,6,7,21,22,23]),(6,[1,2,6,7,21,22,23,29]),(7,[1,2,6,7,21,22,23,29,31]),(8,[1,2,6,7,8,9,21,22,23,29]),(9,[1,2,6,7,8,9,10,21,22,23,29]),(10,[1,2,6,7,8,9,10,11,21,22,23,29]),(11,[1,2,6,7,8,9,10,11,21,22,23,29,46]),(12,[1,2,6,7,21,22,23,29]),(13,[1,2,6,7,8,9,10,21,22,23,29,60]),(14,[1,2,6,7,21,22,23,29]),(15,[1,2,6,7,8,9,21,22,23,29,75,76]),(16,[1,2,6,7,8,9,21,22,23,29,75,76,77]),(17,[1,2,6,7,8,9,12,21,22,23,29,75,76]),(18,[1,2,6,7,8,9,21,22,23,29,75,76]),(19,[1,2,6,7,8,9,21,22,23,29,75,76]),(20,[1,2,4,21,22,23]),(21,[1,2,4,21,22,23]),(22,[1,2,94]),(23,[1,2,94,96]),(24,[1,2,13,14,94]),(25,[1,2,94,106])]),
  (137,[(0,[0,2]),(1,[])]),
  (138,[(0,[1,2,4]),(1,[2,4,6]),(2,[2,5]),(3,[]),(4,[4])]),
  (139,[(0,[0,6]),(1,[0,6,8]),(2,[0,4,6]),(3,[0,6,14])]),
  (140,[(0,[2,3,4]),(1,[6])]),
  (141,[(0,[0,2]),(1,[2])]),
  (142,[(0,[0,1,4]),(1,[4])]),
  (143,[(0,[0,1,4]),(1,[4])]),
  (144,[(0,[0,1,4]),(1,[4])]),
  (145,[(0,[1]),(1,[2])]),
  (146,[(0,[0]),(1,[4])]),
  (147,[(0,[1]),(1,[4])]),
  (148,[(0,[1]),(1,[2])]),
  (149,[(0,[0]),(1,[2])]),
  (150,[(0,[0]),(1,[2])]),
  (151,[(0,[0]),(1,[2])]),
  (152,[(0,[0,1]),(1,[4])]),
  (153,[(0,[1]),(1,[2])]),
  (154,[(0,[1]),(1,[1,5]),(2,[2]),(3,[2])]),
  (155,[(0,[0,1]),(1,[0,1,7,8]),(2,[0,1,7,8,9]),(3,[0,1,5,7,8]),(4,[0,1,5,7,8,16]),(5,[4]),(6,[0,1,7,8]),(7,[4])]),
  (156,[(0,[1]),(1,[2])]),
  (157,[(0,[2,3,4]),(1,[6])]),
  (158,[(0,[0,1]),(1,[0,1,10]),(2,[4]),(3,[0,1,12,13]),(4,[0,1,12,13,14]),(5,[0,1,5,12,13]),(6,[0,1,12,13,24]),(7,[4]),(8,[0,1,12,13]),(9,[4])]),
  (159,[(0,[0]),(1,[0,3]),(2,[3,7,8]),(3,[3,7,8,9]),(4,[3,4,7,8]),(5,[3,7,8]),(6,[3,7,8]),(7,[2])]),
  (160,[(0,[1,2]),(1,[1,2,4]),(2,[1,2,4,11]),(3,[2,3]),(4,[1,2]),(5,[1,2,21]),(6,[2,3]),(7,[1,2,27]),(8,[1,2,27]),(9,[2,27]),(10,[2,3]),(11,[2,3])]),
  (161,[(0,[1,2]),(1,[1,2,3]),(2,[1,2,3,4]),(3,[1,2,3,4,5]),(4,[1,2,3,5]),(5,[2,3]),(6,[2])]),
  (168,[(0,[1,2]),(1,[4])]),
  (169,[(0,[1]),(1,[2])]),
  (172,[(0,[1,2]),(1,[1,2,3]),(2,[2,3,17]),(3,[2,3]),(4,[2,3])]),
  (173,[(0,[0,1]),(1,[4])]),
  (174,[(0,[1,2]),(1,[3])]),
  (175,[(0,[0,1]),(1,[6,7]),(2,[4,5]),(3,[8,9]),(4,[4,5])]),
  (176,[(0,[1,2,3]),(1,[1,2,3,8]),(2,[6]),(3,[6])]),
  (177,[(0,[1,2]),(1,[1,2,5]),(2,[1,2,5,14]),(3,[1,2,5]),(4,[1,2,5,28]),(5,[4]),(6,[4])]),
  (178,[(0,[0,1]),(1,[0,1,5]),(2,[0,1,5,9]),(3,[0,1,5]),(4,[0,1,5,17]),(5,[4]),(6,[4])]),
  (181,[(0,[0,1]),(1,[4])]),
  (182,[(0,[0,1,2]),(1,[4])]),
  (183,[(0,[0,1,2,5]),(1,[0,1,2,5,7]),(2,[5]),(3,[5])]),
  (184,[(0,[0,1]),(1,[1,4,5]),(2,[1,4,5,20]),(3,[4,5]),(4,[4,5])]),
  (185,[(0,[0,1,2,5]),(1,[5])]),
  (186,[(0,[0,2]),(1,[2,3]),(2,[2]),(3,[2])]),
  (187,[(0,[0,1]),(1,[0,1,5]),(2,[0,1,5,6]),(3,[0,1,6,11]),(4,[12]),(5,[4]),(6,[4]),(7,[0,1,13]),(8,[4]),(9,[0,1,16]),(10,[4]),(11,[19]),(12,[4]),(13,[4])]),
  (188,[(0,[0,1,2]),(1,[4])]),
  (189,[(0,[0,3]),(1,[4])]),
  (190,[(0,[1]),(1,[1,5]),(2,[2]),(3,[2])]),
  (191,[(0,[0,3]),(1,[4])]),
  (192,[(0,[2,3]),(1,[2,3,5]),(2,[2,3,5,34]),(3,[4]),(4,[4])]),
  (193,[(0,[1,2,3,4]),(1,[1,2,3,4,10]),(2,[8]),(3,[8])]),
  (194,[(0,[1]),(1,[2])]),
  (195,[(0,[0,1,2,3,4]),(1,[0,1,2,3,4,14]),(2,[6]),(3,[0,1,2,3,4,7,8]),(4,[0,1,2,3,4,7,30]),(5,[6]),(6,[0,1,3,4,9]),(7,[0,1,3,4,9,10]),(8,[0,1,3,4,9,10,43,44,45]),(9,[0,1,3,4,9,10,43,44,45,46]),(10,[0,1,3,4,9,10,11,12,43,44,45]),(11,[0,1,3,4,9,10,43,44,45]),(12,[0,1,3,4,9,10,43,44,45]),(13,[0,3]),(14,[6])]),
  (196,[(0,[0,3]),(1,[0,3,5,6]),(2,[0,3,5,17]),(3,[0,3,5]),(4,[0,3,5]),(5,[5]),(6,[4])]),
  (197,[(0,[0]),(1,[2])]),
  (198,[(0,[0,1,5]),(1,[0,1,5,12]),(2,[6]),(3,[0,1,5,7]),(4,[0,1,5,7]),(5,[0,1,5,7,8,9]),(6,[0,1,5,7,8,32]),(7,[0,1,5,7,8]),(8,[0,1,5,8]),(9,[8]),(10,[6])]),
  (201,[(0,[1,2]),(1,[3])]),
  (203,[(0,[2,3]),(1,[2,3,5]),(2,[4])]),
  (204,[(0,[0,1]),(1,[0,1,7,8]),(2,[0,1,7,8,9]),(3,[0,1,5,7,8]),(4,[0,1,5,7,8,16]),(5,[4]),(6,[0,1,7,8]),(7,[4])]),
  (205,[(0,[0,1]),(1,[6]),(2,[4,5])]),
  (206,[(0,[0,1]),(1,[0,1,6]),(2,[0,1,6,7]),(3,[0,1,6,7,8]),(4,[0,1,6,7,8,9]),(5,[0,1,6,7,8,9,10]),(6,[0,1,6,7,9,11]),(7,[0,1,6,7,9,11,12]),(8,[0,1,6,7,9,12,13]),(9,[0,1,7,9,12,13]),(10,[0,1,4]),(11,[4,5])]),
  (218,[(0,[0,1]),(1,[0,1,7,8]),(2,[0,1,7,8,9]),(3,[0,1,5,7,8]),(4,[0,1,5,7,8,16]),(5,[4]),(6,[0,1,7,8]),(7,[4])]),
  (219,[(0,[0]),(1,[2])]),
  (220,[(0,[1,2]),(1,[3])]),
  (221,[(0,[0,1]),(1,[3])]),
  (222,[(0,[0,1,2,3]),(1,[5])]),
  (223,[(0,[1,2]),(1,[4])]),
  (224,[(0,[0,1]),(1,[3])]),
  (226,[(0,[2,3]),(1,[4])]),
  (227,[(0,[0,1]),(1,[0,1,10]),(2,[4]),(3,[0,1,12,13]),(4,[0,1,12,13,14]),(5,[0,1,5,12,13]),(6,[0,1,12,13,24]),(7,[4]),(8,[0,1,12,13]),(9,[4])]),
  (228,[(0,[0,1,2]),(1,[0,1,2,14]),(2,[6]),(3,[1,2,15,16,17]),(4,[1,2,15,16,17,18]),(5,[1,2,7,8,15,16,17]),(6,[1,2,8,9,15,16,17]),(7,[1,2,15,16,17,30]),(8,[6]),(9,[1,2,15,16,17]),(10,[6])]),
  (234,[(0,[0,1]),(1,[0,1,7,8]),(2,[0,1,7,8,9]),(3,[0,1,5,7,8]),(4,[0,1,5,7,8,16]),(5,[4]),(6,[0,1,7,8]),(7,[4])])],
 head:=[(18,[(4,[1,3])]),
  (21,[(3,[1,2,3,4])]),
  (28,[(7,[3,6,29,30,31]),(10,[3,6,8,29,30,31,36,37])]),
  (30,[(3,[2,3,6,7])]),
  (31,[(4,[3,5,6,7])]),
  (32,[(4,[0,1,5])]),
  (35,[(4,[2,3,5])]),
  (39,[(10,[3,4,31,32,33])]),
  (44,[(5,[1,3,4])]),
  (53,[(3,[0,1,5,6])]),
  (57,[(8,[3,8,11,47,48])]),
  (58,[(4,[0,1,5])]),
  (72,[(4,[2,3,5])]),
  (74,[(3,[1,2,3,7,8])]),
  (75,[(4,[0,1,5])]),
  (76,[(2,[0,6,7,8])]),
  (84,[(2,[1,3]),(5,[1,3,4]),(10,[1,5]),(15,[1,5,6])]),
  (88,[(2,[2,3,6])]),
  (90,[(2,[2,6])]),
  (94,[(5,[0,3,4])]),
  (98,[(2,[1,2,4,5])]),
  (104,[(3,[0,5,6])]),
  (105,[(7,[0,1,5,17,18,19])]),
  (109,[(4,[0,1,5]),(9,[0,1,5,6])]),
  (124,[(8,[7,8])]),
  (126,[(1,[1,2,3,4,5,6]),(15,[1,2,3,4,5,6,9,13,93,94])]),
  (127,[(2,[2,4,10,11,12])]),
  (128,[(2,[3,4,8,9,10])]),
  (129,[(2,[2,3,5,8,12,13,14])]),
  (130,[(2,[2,6,7,8])]),
  (131,[(2,[1,3]),(7,[1,4]),(13,[1,4,5,6])]),
  (132,[(2,[1,3])]),
  (133,[(9,[1,2,3,4,10,11])]),
  (134,[(2,[0,1,5])]),
  (136,[(3,[1,2,4,21,22,23]),(7,[1,2,6,7,21,22,23,29]),(16,[1,2,6,7,8,9,21,22,23,29,75,76]),(23,[1,2,94])]),
  (139,[(1,[0,6])]),
  (155,[(2,[0,1,7,8])]),
  (158,[(4,[0,1,12,13])]),
  (159,[(3,[3,7,8])]),
  (177,[(2,[1,2,5])]),
  (178,[(2,[0,1,5])]),
  (195,[(9,[0,1,3,4,9,10,43,44,45])]),
  (204,[(2,[0,1,7,8])]),
  (218,[(2,[0,1,7,8])]),
  (227,[(4,[0,1,12,13])]),
  (228,[(4,[1,2,15,16,17])]),
  (234,[(2,[0,1,7,8])])],
 site:=[(61,[2]),(62,[3]),(80,[1,3,4,5]),(87,[1,3]),(96,[1]),(122,[2]),(138,[2]),(140,[3,4]),(145,[1]),(148,[1]),(157,[3,4]),(161,[1,3,4,5]),(168,[2]),(189,[3]),(191,[3]),(192,[2,3,5]),(194,[14]),(198,[5,7]),(209,[7]),(210,[9])] }
def Tm:Tw.qy:={ Tb with exts:=[],ext:=fun _ _ _=>none }
open Tw in
def aem:aY:=fun fv xs h=>match fv with
 |.fn f a b=>if f=94 then a2A 94 (kJ Tryz.prog Tm (2^24) 2) (.fn f a b) xs h else Ot 137 (.fn f a b) xs h
 |fv=>Ot 137 fv xs h
def T:Tw.qy:={ Tb with exts:=[94,137],ext:=aem,ZI:=[87,88,90,138],din:=[136,139],a8u:=[138] }
end Go.Proofs.YtmobpoiejckagaaGreat
namespace Tw
open Go Go.ChangeShapes
section
variable {H:Type} {mO:TypeId×Value->H} {P:Program} {w:World}
def Rd(mO:TypeId×Value->H)(P:Program)(w:World)(t:TypeId)(d:DataW H):Prop:=∃cs,Reads mO P w t cs d
theorem aen{t:TypeId}{k:IntKind}{d:DataW H}(ht:P.underlying t=some (.int k))(hd:Rd mO P w t d):∃n,d=.lit (.int k n)∧(Lit.int k n).wf=true:=by
 obtain⟨cs,fuel,ps,hd⟩:=hd;cases fuel with
 |zero=>simp[DataW.trod]at hd
 |succ n=>
  unfold DataW.trod at hd;rw[ht]at hd;split at hd<;>simp_all
  obtain⟨⟨_,h1⟩,rfl,_⟩:=hd;exact⟨_,rfl,h1⟩
theorem a2B{t:TypeId}{fs:Array Field}{d:DataW H}(ht:P.underlying t=some (.struct fs))(hd:Rd mO P w t d) :
  ∃ds,d=.agg ds∧ds.length=fs.size∧∀(i:Nat) f d',fs[i]? = some f->ds[i]? = some d'->Rd mO P w f.type d':=by
 obtain⟨cs,fuel,ps,hd⟩:=hd;obtain⟨zs,n,_,hx,pU,XW,Jv⟩:=DataW.trod_struct ht hd;simp only[a1o]at hx;refine⟨zs.map (·.1),hx.1,by simpa using XW,fun i f d' e1 e2=>?_⟩;simp only[a3V,a0D]at e2;obtain⟨z,hz,rfl⟩:=e2;exact⟨_,n,z.2,by rw[Jv i f e1,hz]⟩
theorem a5V{t e:TypeId}{d:DataW H}(ht:P.underlying t=some (.slice e))(hd:Rd mO P w t d) :
  d=.nil∨∃xs ys,d=.slice xs ys∧∀y∈xs++ys,Rd mO P w e y:=by
 obtain⟨cs,fuel,ps,hd⟩:=hd;rcases Deep.open_slice ht hd with⟨rfl,hx⟩|⟨a,len,cap,m,n,Dt,Pl,rfl,_,hlc,_,hm,hx,Jv⟩
 .left;cases hx;rfl
 .right;simp only[a2D]at hm;subst hm;simp only[a1o]at hx;refine⟨_,_,hx.1,fun y hy=>?_⟩;have:∃i,i<m∧y=Dt i:=by
   rcases a3y.mp hy with hy|hy
   .obtain⟨i,hi,rfl⟩:=a1L.mp hy;exact⟨i,by have:=a3R.mp hi;omega,rfl⟩
   .obtain⟨i,hi,rfl⟩:=a1L.mp hy;exact⟨len+i,by have:=a3R.mp hi;omega,rfl⟩
  obtain⟨i,hi,rfl⟩:=this;obtain⟨cs',_,e2⟩:=Jv i hi;exact⟨cs',n,_,e2⟩
theorem WT{t:TypeId}{fs:Array Field}{g:Nat}{ds:List (DataW H)}{h:List HB}(ht:P.underlying t=some (.struct fs)) :
  E8 P (g+1) t (.agg ds) h=match NH P (E8 P g) 0 fs.toList ds h with
   |some (cs,h1)=>if cs.length=P.cellsOf t then some (cs,h1)else none
   |none=>none:=by
 simp only[E8,ht]<;>rfl
end
end Tw
namespace Go.Proofs.YtmobpoiejckagaaGreat
open Go Tw Pv
structure Rw where
 fr:List Int
 to:List Int
 cell:V
 deriving DecidableEq
structure Br where
 var:Int
 aA:List Int
 deriving DecidableEq
structure Dg where
 ay:List Int
 aG:List Int
 aO:List V
 au:List Br
 root:Int
 deriving DecidableEq
structure Ld where
 s:List Int
 cells:List V
 deriving DecidableEq
structure Fc where
 name:ByteArray
 d:Dg
 deriving DecidableEq
structure Pc where
 facts:Int
 goal:Bool
 deriving DecidableEq
abbrev oH:Dg:=⟨[],[],[],[],0⟩
abbrev Fc0:Fc:=⟨⟨#[]⟩,oH⟩
abbrev Pc0:Pc:=⟨0,false⟩
abbrev Rw0:Rw:=⟨[],[],V0⟩
abbrev mP:Br:=⟨0,[]⟩
abbrev Ld0:Ld:=⟨[],[]⟩
inductive Kd where
 |i64|u8|u16|u64|b|o|k|v|rw|br|tb|vs|ld|dg|is|fc|pc|bl|bs|no
def Kd.T:Kd->Type
 |.i64|.u8|.u16|.u64=>Int
 |.dg=>Dg
 |.is=>List Int
 |.fc=>Fc
 |.pc=>Pc
 |.bl=>Bool
 |.bs=>List Bool
 |.b=>B
 |.o=>O
 |.k=>K
 |.v=>V
 |.rw=>Rw
 |.br=>Br
 |.tb=>List Rw
 |.vs=>List V
 |.ld=>Ld
 |.no=>Unit
def kd(t:Nat):Kd:=match t with
 | 3=>.i64
 | 5=>.u8
 | 900001=>.b
 | 900002=>.o
 | 900003=>.k
 | 900004=>.u16
 | 900005=>.u64
 | 26=>.dg
 | 22=>.is
 | 900006=>.fc
 | 900007=>.pc
 | 4=>.bl
 | 900008=>.bs
 | 39=>.v
 | 900009=>.rw
 | 105=>.br
 | 900010=>.tb
 | 23=>.vs
 | 900011=>.ld
 |_=>.no
def aF(t:Nat):Type:=(kd t).T
def Kd.z:(k:Kd)->k.T
 |.i64|.u8|.u16|.u64=>(0:Int)
 |.dg=>oH
 |.is=>([]:List Int)
 |.fc=>Fc0
 |.pc=>Pc0
 |.bl=>false
 |.bs=>([]:List Bool)
 |.b=>B0
 |.o=>O0
 |.k=>K0
 |.v=>V0
 |.rw=>Rw0
 |.br=>mP
 |.tb=>([]:List Rw)
 |.vs=>([]:List V)
 |.ld=>Ld0
 |.no=>()
abbrev lI(l:List Int):PV aF:=.dn 3 l false
abbrev lV(l:List V):PV aF:=.dn 39 l false
abbrev lRw(l:List Rw):PV aF:=.dn 900009 l false
abbrev lBr(l:List Br):PV aF:=.dn 105 l false
abbrev lDg(l:List Dg):PV aF:=.dn 26 l false
abbrev lB(l:List Bool):PV aF:=.dn 4 l false
def B.ps(b:B):List (PV aF):=[.int .i64 b.lo,.int .i64 b.hi,.int .u8 b.f]
def O.ps(o:O):List (PV aF):=[.int .u8 o.code,.int .i64 o.a,.int .i64 o.b,.int .i64 o.c,.int .i64 o.n]
def K.ps(c:K):List (PV aF):=[.str c.name,.int .i64 c.lo,.int .i64 c.hi]
def V.ps(v:V):List (PV aF):=[.int .u8 v.f,.int .i64 v.n]
def Rw.ps(r:Rw):List (PV aF):=[lI r.fr,lI r.to,.int .u8 r.cell.f,.int .i64 r.cell.n]
def Br.ps(b:Br):List (PV aF):=[.int .i64 b.var,lI b.aA]
def Ld.ps(x:Ld):List (PV aF):=[lI x.s,lV x.cells]
def Dg.ps(d:Dg):List (PV aF):=[lI d.ay,lI d.aG,lV d.aO,lBr d.au,.int .i64 d.root]
def Fc.ps(x:Fc):List (PV aF):=.str x.name::x.d.ps
def Pc.ps(x:Pc):List (PV aF):=[.int .u64 x.facts,.bool x.goal]
def B.un(l:List (PV aF)):Option B:=match l with
 | [.int .i64 a,.int .i64 b,.int .u8 c]=>some ⟨a,b,c⟩
 |_=>none
def O.un(l:List (PV aF)):Option O:=match l with
 | [.int .u8 c,.int .i64 x,.int .i64 y,.int .i64 z,.int .i64 n]=>some ⟨c,x,y,z,n⟩
 |_=>none
def K.un(l:List (PV aF)):Option K:=match l with
 | [.str c,.int .i64 x,.int .i64 y]=>some ⟨c,x,y⟩
 |_=>none
def V.un(l:List (PV aF)):Option V:=match l with
 | [.int .u8 c,.int .i64 x]=>some ⟨c,x⟩
 |_=>none
def I.un(k:IntKind)(l:List (PV aF)):Option Int:=match l with
 | [.int k' x]=>if k'=k then some x else none
 |_=>none
def L.un(t:Nat)(v:PV aF):Option (List (aF t)):=match v with
 |.dn t' l _=>Cb t t' l
 |.nil .slc=>some []
 |_=>none
def Rw.un(l:List (PV aF)):Option Rw:=match l with
 | [a,b,.int .u8 c,.int .i64 x]=>match L.un 3 a,L.un 3 b with
  |some a,some b=>some ⟨a,b,⟨c,x⟩⟩
  |_,_=>none
 |_=>none
def Br.un(l:List (PV aF)):Option Br:=match l with
 | [.int .i64 x,a]=>match L.un 3 a with
  |some a=>some ⟨x,a⟩
  |none=>none
 |_=>none
def Tb.un(l:List (PV aF)):Option (List Rw):=match l with
 | [a]=>L.un 900009 a
 |_=>none
def Vs.un(l:List (PV aF)):Option (List V):=match l with
 | [a]=>L.un 39 a
 |_=>none
def Ld.un(l:List (PV aF)):Option Ld:=match l with
 | [a,b]=>match L.un 3 a,L.un 39 b with
  |some a,some b=>some ⟨a,b⟩
  |_,_=>none
 |_=>none
def Dg.un(l:List (PV aF)):Option Dg:=match l with
 | [a,b,c,d,.int .i64 r]=>match L.un 3 a,L.un 3 b,L.un 39 c,L.un 105 d with
  |some a,some b,some c,some d=>some ⟨a,b,c,d,r⟩
  |_,_,_,_=>none
 |_=>none
def Is.un(l:List (PV aF)):Option (List Int):=match l with
 | [a]=>L.un 3 a
 |_=>none
def Fc.un(l:List (PV aF)):Option Fc:=match l with
 |.str n::r=>(Dg.un r).map (⟨n,·⟩)
 |_=>none
def Pc.un(l:List (PV aF)):Option Pc:=match l with
 | [.int .u64 n,.bool b]=>some ⟨n,b⟩
 |_=>none
def Bl.un(l:List (PV aF)):Option Bool:=match l with
 | [.bool b]=>some b
 |_=>none
def Bs.un(l:List (PV aF)):Option (List Bool):=match l with
 | [a]=>L.un 4 a
 |_=>none
def Kd.enc:(k:Kd)->k.T->List (PV aF)
 |.i64=>fun n=>[.int .i64 n]
 |.u8=>fun n=>[.int .u8 n]
 |.u16=>fun n=>[.int .u16 n]
 |.u64=>fun n=>[.int .u64 n]
 |.dg=>Dg.ps
 |.is=>fun l=>[lI l]
 |.fc=>Fc.ps
 |.pc=>Pc.ps
 |.bl=>fun b=>[.bool b]
 |.bs=>fun l=>[lB l]
 |.b=>B.ps
 |.o=>O.ps
 |.k=>K.ps
 |.v=>V.ps
 |.rw=>Rw.ps
 |.br=>Br.ps
 |.tb=>fun l=>[lRw l]
 |.vs=>fun l=>[lV l]
 |.ld=>Ld.ps
 |.no=>fun _=>[]
def Kd.dec:(k:Kd)->List (PV aF)->Option k.T
 |.i64=>I.un .i64
 |.u8=>I.un .u8
 |.u16=>I.un .u16
 |.u64=>I.un .u64
 |.dg=>Dg.un
 |.is=>Is.un
 |.fc=>Fc.un
 |.pc=>Pc.un
 |.bl=>Bl.un
 |.bs=>Bs.un
 |.b=>B.un
 |.o=>O.un
 |.k=>K.un
 |.v=>V.un
 |.rw=>Rw.un
 |.br=>Br.un
 |.tb=>Tb.un
 |.vs=>Vs.un
 |.ld=>Ld.un
 |.no=>fun _=>none
def X0:kC:=⟨aF,fun t=>(kd t).z,fun t=>(kd t).enc,fun t=>(kd t).dec⟩
theorem B.uT{l:List (PV aF)}{b:B}(h:B.un l=some b):B.ps b=l:=by
 unfold B.un at h;split at h
 .cases h;rfl
 cases h
theorem O.uT{l:List (PV aF)}{b:O}(h:O.un l=some b):O.ps b=l:=by
 unfold O.un at h;split at h
 .cases h;rfl
 cases h
theorem K.uT{l:List (PV aF)}{b:K}(h:K.un l=some b):K.ps b=l:=by
 unfold K.un at h;split at h
 .cases h;rfl
 cases h
theorem V.uT{l:List (PV aF)}{b:V}(h:V.un l=some b):V.ps b=l:=by
 unfold V.un at h;split at h
 .cases h;rfl
 cases h
theorem I.uT{k:IntKind}{l:List (PV aF)}{b:Int}(h:I.un k l=some b):[PV.int k b]=l:=by
 unfold I.un at h;split at h
 .split at h
  .rename_i e;cases h;rw[e]
  cases h
 cases h
section
variable {A:Nat->Prop} {m:List MB} {h:List HB}
theorem L.iM{t:Nat}{v:PV aF}{l:List (aF t)}(hu:L.un t v=some l){x:TV}(hv:VR X0 Tryz.prog A m h v x):VR X0 Tryz.prog A m h (.dn t l false) x:=(a5G (X:=X0) (P:=Tryz.prog) t).ok (a:=l) (v:=v) (by
 cases v with
 |nil k=>cases k<;>first|exact hu|cases hu
 |dn t' l' f=>exact hu
 |_=>cases hu) hv
theorem Rw.iM{l:List (PV aF)}{r:Rw}(hu:Rw.un l=some r){xs:List TV}(hv:bU X0 Tryz.prog A m h l xs):bU X0 Tryz.prog A m h r.ps xs:=by
 unfold Rw.un at hu;split at hu
 .split at hu
  .rename_i e1 e2;cases hu;obtain⟨x1,r1,rfl,h1,hv⟩:=hv.inv;obtain⟨x2,r2,rfl,h2,hv⟩:=hv.inv;exact .cons (L.iM e1 h1) (.cons (L.iM e2 h2) hv)
  cases hu
 cases hu
theorem Br.iM{l:List (PV aF)}{r:Br}(hu:Br.un l=some r){xs:List TV}(hv:bU X0 Tryz.prog A m h l xs):bU X0 Tryz.prog A m h r.ps xs:=by
 unfold Br.un at hu;split at hu
 .split at hu
  .rename_i e1;cases hu;obtain⟨x1,r1,rfl,h1,hv⟩:=hv.inv;obtain⟨x2,r2,rfl,h2,hv⟩:=hv.inv;exact .cons h1 (.cons (L.iM e1 h2) hv)
  cases hu
 cases hu
theorem Ld.iM{l:List (PV aF)}{r:Ld}(hu:Ld.un l=some r){xs:List TV}(hv:bU X0 Tryz.prog A m h l xs):bU X0 Tryz.prog A m h r.ps xs:=by
 unfold Ld.un at hu;split at hu
 .split at hu
  .rename_i e1 e2;cases hu;obtain⟨x1,r1,rfl,h1,hv⟩:=hv.inv;obtain⟨x2,r2,rfl,h2,hv⟩:=hv.inv;exact .cons (L.iM e1 h1) (.cons (L.iM e2 h2) hv)
  cases hu
 cases hu
theorem Tb.iM{l:List (PV aF)}{r:List Rw}(hu:Tb.un l=some r){xs:List TV}(hv:bU X0 Tryz.prog A m h l xs):bU X0 Tryz.prog A m h [lRw r] xs:=by
 rcases l with _|⟨a,_|⟨b,l⟩⟩
 .cases hu
 .obtain⟨x1,r1,rfl,h1,hv⟩:=hv.inv;exact .cons (L.iM hu h1) hv
 cases hu
theorem Vs.iM{l:List (PV aF)}{r:List V}(hu:Vs.un l=some r){xs:List TV}(hv:bU X0 Tryz.prog A m h l xs):bU X0 Tryz.prog A m h [lV r] xs:=by
 rcases l with _|⟨a,_|⟨b,l⟩⟩
 .cases hu
 .obtain⟨x1,r1,rfl,h1,hv⟩:=hv.inv;exact .cons (L.iM hu h1) hv
 cases hu
theorem Dg.iM{l:List (PV aF)}{r:Dg}(hu:Dg.un l=some r){xs:List TV}(hv:bU X0 Tryz.prog A m h l xs):bU X0 Tryz.prog A m h r.ps xs:=by
 unfold Dg.un at hu;split at hu
 .split at hu
  .rename_i e1 e2 e3 e4;cases hu;obtain⟨x1,r1,rfl,h1,hv⟩:=hv.inv;obtain⟨x2,r2,rfl,h2,hv⟩:=hv.inv;obtain⟨x3,r3,rfl,h3,hv⟩:=hv.inv;obtain⟨x4,r4,rfl,h4,hv⟩:=hv.inv;exact .cons (L.iM e1 h1) (.cons (L.iM e2 h2) (.cons (L.iM e3 h3) (.cons (L.iM e4 h4) hv)))
  cases hu
 cases hu
theorem Is.iM{l:List (PV aF)}{r:List Int}(hu:Is.un l=some r){xs:List TV}(hv:bU X0 Tryz.prog A m h l xs):bU X0 Tryz.prog A m h [lI r] xs:=by
 rcases l with _|⟨a,_|⟨b,l⟩⟩
 .cases hu
 .obtain⟨x1,r1,rfl,h1,hv⟩:=hv.inv;exact .cons (L.iM hu h1) hv
 cases hu
theorem Bs.iM{l:List (PV aF)}{r:List Bool}(hu:Bs.un l=some r){xs:List TV}(hv:bU X0 Tryz.prog A m h l xs):bU X0 Tryz.prog A m h [lB r] xs:=by
 rcases l with _|⟨a,_|⟨b,l⟩⟩
 .cases hu
 .obtain⟨x1,r1,rfl,h1,hv⟩:=hv.inv;exact .cons (L.iM hu h1) hv
 cases hu
theorem Bl.uT{l:List (PV aF)}{b:Bool}(h:Bl.un l=some b):[PV.bool b]=l:=by
 unfold Bl.un at h;split at h
 .cases h;rfl
 cases h
theorem Fc.iM{l:List (PV aF)}{r:Fc}(hu:Fc.un l=some r){xs:List TV}(hv:bU X0 Tryz.prog A m h l xs):bU X0 Tryz.prog A m h r.ps xs:=by
 unfold Fc.un at hu;split at hu
 .obtain⟨d,e1,rfl⟩:=a0D.1 hu;obtain⟨x1,r1,rfl,h1,hv⟩:=hv.inv;exact .cons h1 (Dg.iM e1 hv)
 cases hu
theorem Pc.uT{l:List (PV aF)}{b:Pc}(h:Pc.un l=some b):Pc.ps b=l:=by
 unfold Pc.un at h;split at h
 .cases h;rfl
 cases h
theorem a9w:∀(k:Kd) {l:List (PV aF)} {a:k.T},k.dec l=some a->∀{xs:List TV},bU X0 Tryz.prog A m h l xs->bU X0 Tryz.prog A m h (k.enc a) xs
 |.i64,_,_,e,_,hv=>by rw[show Kd.enc .i64 _=_ from I.uT e];exact hv
 |.u8,_,_,e,_,hv=>by rw[show Kd.enc .u8 _=_ from I.uT e];exact hv
 |.u16,_,_,e,_,hv=>by rw[show Kd.enc .u16 _=_ from I.uT e];exact hv
 |.u64,_,_,e,_,hv=>by rw[show Kd.enc .u64 _=_ from I.uT e];exact hv
 |.dg,_,_,e,_,hv=>Dg.iM e hv
 |.is,_,_,e,_,hv=>Is.iM e hv
 |.fc,_,_,e,_,hv=>Fc.iM e hv
 |.pc,_,_,e,_,hv=>by rw[show Kd.enc .pc _=_ from Pc.uT e];exact hv
 |.bl,_,_,e,_,hv=>by rw[show Kd.enc .bl _=_ from Bl.uT e];exact hv
 |.bs,_,_,e,_,hv=>Bs.iM e hv
 |.b,_,_,e,_,hv=>by rw[show Kd.enc .b _=_ from B.uT e];exact hv
 |.o,_,_,e,_,hv=>by rw[show Kd.enc .o _=_ from O.uT e];exact hv
 |.k,_,_,e,_,hv=>by rw[show Kd.enc .k _=_ from K.uT e];exact hv
 |.v,_,_,e,_,hv=>by rw[show Kd.enc .v _=_ from V.uT e];exact hv
 |.rw,_,_,e,_,hv=>Rw.iM e hv
 |.br,_,_,e,_,hv=>Br.iM e hv
 |.tb,_,_,e,_,hv=>Tb.iM e hv
 |.vs,_,_,e,_,hv=>Vs.iM e hv
 |.ld,_,_,e,_,hv=>Ld.iM e hv
 |.no,_,_,e,_,_=>by cases e
end
theorem a2C:∀(k:Kd) (a:k.T),iY.Gm (k.enc a)=true:=by
 intro k a;cases k<;>rfl
theorem hX:bK X0 Tryz.prog:=⟨fun{t} vs a e {A m hh xs} hv=>a9w (kd t) e hv,fun t a=>a2C (kd t) a⟩
abbrev Arg(α:Type):=Ar X0 Tryz.prog α
def iA:Arg Int:=ae5 .i64
def uA:Arg Int:=ae5 .u8
def tA:Arg Bool:=ahL
def vA:Arg V:=ahM hX 39
def brA:Arg Br:=ahM hX 105
def qB:Arg (List Int):=a5G 3
def vsA:Arg (List V):=a5G 39
def a9x:Arg (List Br):=a5G 105
def anK:Arg (List Dg):=a5G 26
def pA:Arg Int:=ae5 .u64
def dA:Arg Dg:=ae7 (a5H (KA qB (a4 qB vsA a9x iA))) (fun p=>⟨p.1,p.2.1,p.2.2.1,p.2.2.2.1,p.2.2.2.2⟩) (fun d=>(d.ay,d.aG,d.aO,d.au,d.root)) fun _=>rfl
abbrev LL:Nat:=2^24
abbrev Gd(fH:eU aF):Prop:=Pv.Good X0 Tryz.prog T LL fH
abbrev bP(n:Nat):aY:=kJ Tryz.prog T LL n
theorem Qb:ah<LL:=by decide
abbrev Lp(n f k:Nat)(s:aS aF)(e:Ex)(s':aS aF):Prop:=dM X0 Tryz.prog T (bP n) LL f false (Bz Tryz.prog f) 0 (.loop (Ry Tryz.prog f k)) s e s'
abbrev Ok(n:Nat)(fH:eU aF):Prop:=jo X0 Tryz.prog (bP n) fH
abbrev xi(n:Int):PE aF:=.val (.int .i64 n)
abbrev xl(b:Bool):PE aF:=.val (.lit b)
abbrev xL(t:Nat)(l:List (aF t)):PE aF:=.val (.dn t l false)
abbrev xo(b:Nat):PE aF:=.val (.own b)
theorem le0:0<=ah:=by decide
theorem le1:1<=ah:=by decide
theorem Y1:2<=ah:=by decide
theorem le3:3<=ah:=by decide
theorem le8:8<=LL:=by decide
theorem fQ{n:Nat}:Ok n (a9p (X:=X0)):=fun f vs v ext ps h=>by cases h
abbrev Ov(n f k B:Nat)(s:aS aF)(e:Ex)(s':aS aF):Prop:=dM X0 Tryz.prog T (bP n) LL f false (Bz Tryz.prog f) B (.loop (Ry Tryz.prog f k)) s e s'
abbrev Qp:Program:=Tryz.prog
theorem aK{β:Type}{n f:Nat}{fH:eU aF}(hO:Ok n fH){vs:List (PV aF)}{an:PT aF}{r:Ar X0 Tryz.prog β}{s:β}{o:OT (Option (PV aF))}(ht:Fp (Is r s) an o)
  (hk:(Ci X0 Tryz.prog T fH (aV X0 Tryz.prog (bP n)) (Bc X0 Tryz.prog T (bP n) LL f 0) LL f vs [] an).map frz=o:=by kernel_rfl):nR X0 Tryz.prog (bP (n+1)) f vs (r.put s) []:=ahO hX hO hk ht
theorem iZ{β:Type}{n f:Nat}{fH:eU aF}(hO:Ok n fH){first xs cap:List (PV aF)}{H H1:List (PB aF)}{an:PT aF}{r:Ar X0 Tryz.prog β}{s:β}{o:OT (PV aF×List (PB aF))}(ht:Fp (IsS r s H1) an o)
  (hk:Ci X0 Tryz.prog T fH (aV X0 Tryz.prog (bP n)) (Bc X0 Tryz.prog T (bP n) LL f H.length) LL f (first++xs++cap) H an=o:=by kernel_rfl):aV X0 Tryz.prog (bP (n+1)) (.fn f first cap) xs H (r.put s) H1:=CO hX hO hk ht
theorem fM{n f:Nat}{fH:eU aF}(hO:Ok n fH){first xs cap:List (PV aF)}{H H1:List (PB aF)}{v:PV aF}{an:PT aF}{o:OT (PV aF×List (PB aF))}(ht:Fp (IsE (X:=X0) v H1) an o)
  (hk:Ci X0 Tryz.prog T fH (aV X0 Tryz.prog (bP n)) (Bc X0 Tryz.prog T (bP n) LL f H.length) LL f (first++xs++cap) H an=o:=by kernel_rfl):aV X0 Tryz.prog (bP (n+1)) (.fn f first cap) xs H v H1:=qU hX hO hk ht
theorem aN{call:aY}{fH:eU aF}{L f:Nat}{gJ:Bool}{nt B:Nat}(hO:jo X0 Tryz.prog call fH){b:Code}{n:Nat}{ps:aS aF}{an:PT aF}{e:Ex}{s:aS aF}{o:OT (Ex×aS aF)}(ht:Fp (Rnd X0 Tryz.prog T call L f gJ nt B b n e s) an o)
  (hk:jD X0 Tryz.prog T fH (aV X0 Tryz.prog call) (dM X0 Tryz.prog T call L f gJ nt B) B L f gJ nt b ps an (ae4 (gq X0 (T.eH f (dR b))) B)=o:=by kernel_rfl):dI X0 Tryz.prog T call L f gJ nt B b (n+1) ps e s:=round hX hO hk ht
abbrev a5W(f:Nat)(a c:List (PV aF))(H:List (PB aF))(l:List Int)(i:Int)(x:List (Nat×PE aF)):aS aF:=⟨[(0,xL 3 l),(1,.val (.fn f a c)),(7,xi l.length),(8,xi i)]++x,[],H⟩
def z218(f:Nat)(a c:List (PV aF))(H:List (PB aF))(l:List Int):Unit⊕(Nat×Int×Unit)->Ex×aS aF
 |.inl _=>(.exit 0,a5W f a c H l l.length [(9,xl false)])
 |.inr r=>(.ret,⟨[(4,xi r.1)],[],H⟩)
theorem anM{n f:Nat}{a c:List (PV aF)}{H:List (PB aF)}{g:Int->Bool}(hf:∀x,aV X0 Qp (bP n) (.fn f a c) [.int .i64 x] H (.bool (g x)) H)(l:List Int)(hl:l.length<=ah):aV X0 Qp (bP (n+1)) (.fn 218 [] []) [.dn 3 l false,.fn f a c] H (iA.put (qW g l)) H:=by
 have lp:Ov n 218 0 H.length (a5W f a c H l 0 []) (z218 f a c H l (lT (oZ g) l 0 ())).1 (z218 f a c H l (lT (oZ g) l 0 ())).2:=
  Wy (st:=fun i _=>a5W f a c H l i []) (0:Int) (fun _ _=>True) (by kernel_rfl) hl Qb trivial (fun k s n hk _ ih=>aN fQ (.b (bC hk) (.o (aH hk) (.k (hf (l.getD k (0:Int))) (.ls (.ou nofun) (.nx (ih _ trivial))))))) (fun s _=>aN fQ (.b (fD l.length) (.ou nofun)))
 exact iZ fQ (first:=[]) (cap:=[]) (.szh (fun h=>.w (jV lp () h) .sr) (fun h=>.w (jW lp (0,0,()) h) .sr))
theorem ahX{n f:Nat}(hn:0<n){a c:List (PV aF)}{H:List (PB aF)}{g:Int->Bool}(hf:∀x,aV X0 Qp (bP (n-1)) (.fn f a c) [.int .i64 x] H (.bool (g x)) H)(l:List Int)(hl:l.length<=ah):aV X0 Qp (bP (n+1)) (.fn 181 [] []) [.dn 3 l false,.fn f a c] H (tA.put (lX g l)) H:=by
 have h1:=anM hf l hl;rw[show n-1+1=n by omega]at h1;exact iZ fQ (first:=[]) (cap:=[]) (.k h1 .sr)
abbrev aeo(f:Nat)(a c:List (PV aF))(H:List (PB aF))(l:List V)(i:Int)(x:List (Nat×PE aF)):aS aF:=⟨[(0,xL 39 l),(1,.val (.fn f a c)),(7,xi l.length),(8,xi i)]++x,[],H⟩
def ahY(f:Nat)(a c:List (PV aF))(H:List (PB aF))(l:List V):Unit⊕(Nat×V×Unit)->Ex×aS aF
 |.inl _=>(.exit 0,aeo f a c H l l.length [(9,xl false)])
 |.inr r=>(.ret,⟨[(4,xi r.1)],[],H⟩)
theorem ahZ{n f:Nat}{a c:List (PV aF)}{H:List (PB aF)}{g:V->Bool}(hf:∀x,aV X0 Qp (bP n) (.fn f a c) [.agg x.ps] H (.bool (g x)) H)(l:List V)(hl:l.length<=ah):aV X0 Qp (bP (n+1)) (.fn 155 [] []) [.dn 39 l false,.fn f a c] H (iA.put (iC g l)) H:=by
 have lp:Ov n 155 0 H.length (aeo f a c H l 0 []) (ahY f a c H l (lT (je g) l 0 ())).1 (ahY f a c H l (lT (je g) l 0 ())).2:=
  Wy (st:=fun i _=>aeo f a c H l i []) V0 (fun _ _=>True) (by kernel_rfl) hl Qb trivial (fun k s n hk _ ih=>aN fQ (.b (bC hk) (.o (aH hk) (.k (hf (l.getD k V0)) (.ls (.ou nofun) (.nx (ih _ trivial))))))) (fun s _=>aN fQ (.b (fD l.length) (.ou nofun)))
 exact iZ fQ (first:=[]) (cap:=[]) (.szh (fun h=>.w (jV lp () h) .sr) (fun h=>.w (jW lp (0,V0,()) h) .sr))
theorem aep{n f:Nat}(hn:0<n){a c:List (PV aF)}{H:List (PB aF)}{g:V->Bool}(hf:∀x,aV X0 Qp (bP (n-1)) (.fn f a c) [.agg x.ps] H (.bool (g x)) H)(l:List V)(hl:l.length<=ah):aV X0 Qp (bP (n+1)) (.fn 152 [] []) [.dn 39 l false,.fn f a c] H (tA.put (pO g l)) H:=by
 have h1:=ahZ hf l hl;rw[show n-1+1=n by omega]at h1;exact iZ fQ (first:=[]) (cap:=[]) (.k h1 .sr)
end Go.Proofs.YtmobpoiejckagaaGreat
