/- Part 4 of a proof: ApplyLeft -/
import Derived.Shelf.Spec.SlicesInsert
import Derived.Shelf.Spec.SlicesInsertGrow
import Derived.Shelf.Sort.Plain
import Derived.Shelf.Slices.In.SortNone
import Derived.Test.YtmobpoiejckagaaGreatP02
set_option linter.constructorNameAsVariable false
set_option linter.unusedVariables false
set_option linter.unusedSimpArgs false
set_option linter.unusedSectionVars false
open Go.IntKind (i64)
noncomputable section
namespace Pv
open Go Tw
section
variable {X:kX} {P:LI1} {A B F:Nat->Prop} {m m':List MB} {h h':List HB} {H H':List (PB X.Γ)}
variable {call:aZ} {fO:eY X.Γ} {site:Nat->Bool} {ρ:Type} {y:ρ}
def a6J(X:kX)(P:LI1)(A:Nat->Prop)(m:List MB)(call:aZ)(site:Nat->Bool)(ts:St)(o:Oper)(k:PE X.Γ->aU X.Γ->PI->PT X.Γ->OT ρ)(y:ρ):Prop:=
 ∃pe ps1 pi Ia,OpR X P A m call site ts o pe ps1 pi∧(k pe ps1 pi Ia).Ends y
theorem wU{ps:aU X.Γ}{ts:St}(hR:vg X P A m ps ts){o:Oper}{k:PE X.Γ->aU X.Γ->PI->PT X.Γ->OT ρ}{r:Option (TV×St×mF)}{v:PV X.Γ}{H1:List (PB X.Γ)}{pi:PI}{an:PT X.Γ}(hm:Xi X P A m ts r v H1 pi)
  (ho:pG P call site ts o=r.map fun(v,s,i)=>(.val v,s,i)) (hk:(k (.val v) { ps with heap:=H1 } pi an).Ends y):a6J X P A m call site ts o k y:=by
 obtain⟨w,h1,ti,m1,rfl,e1,e2,e3,e4,e5,e6⟩:=hm;exact⟨.val v,_,_,_,⟨.val w,_,ti,m1,ho,rfl,rfl,hR.step e1 e3 e4,e2,e3,e4,e5,e6⟩,hk⟩
theorem iT{ps:aU X.Γ}{ts:St}(hR:vg X P A m ps ts){o:Oper}{k:PE X.Γ->aU X.Γ->PI->PT X.Γ->OT ρ}{v:PV X.Γ}{w:TV}{pi:PI}{an:PT X.Γ}(hv:VR X P (AA A m) m ts.heap v w)(ho:pG P call site ts o=some (.val w,ts,cZ))(hk:(k (.val v) ps pi an).Ends y):a6J X P A m call site ts o k y:=
 ⟨.val v,_,_,_,uJ hR ho (o8 hv),hk⟩
theorem af8{op:BinOp}{a b v:PV X.Γ}{ta tb:TV}{ps:List Prop}{t:LI2}{x z:Operand}(ha:VR X P A m h a ta)(hb:VR X P A m h b tb)(hd:aeN op a b=some (v,ps))(hp:∀p∈ps,p) :
  ∃w,sO P op t x z ta tb=some w∧VR X P A m h v w:=by
 unfold aeN at hd;split at hd
 .cases ha with
  |gone hi _ _=>simp[bn]at hi
  |int=>
   cases hb with
   |gone hi _ _=>simp[bn]at hi
   |int=>
    split at hd
    .split at hd
     .rename_i e;subst e;cases hd;exact⟨_,a6k (hp _ (.head _)),.int _ _⟩
     .cases hd
    .split at hd
     .rename_i e;subst e;cases hd;exact⟨_,a6l (hp _ (.head _)),.int _ _⟩
     .cases hd
    .cases hd;exact⟨_,a6i (hp _ (.head _)),.int _ _⟩
    .cases hd;exact⟨_,a6j (hp _ (.head _)),.int _ _⟩
    .cases hd
 .cases hd
theorem af9(hX:bT X P)(hO:jK X P call fO){ps:aU X.Γ}{ts:St}(hR:vg X P A m ps ts){o:Oper}{an:PT X.Γ}{k:PE X.Γ->aU X.Γ->PI->PT X.Γ->OT ρ}(hk:(aeQ X P fO (dG X P call) site ps o an k).Ends y):a6J X P A m call site ts o k y:=by
 have hE:=hR.env;unfold aeQ at hk;split at hk
 .-- move
  rename_i x ho;split at hk
  .rename_i v hv;obtain⟨e,h1,h2⟩:=nD hE hv;exact⟨_,_,_,_,uJ hR (by simp only[pG,ho,h1,a0O]) h2,hk⟩
  exact hk.elim
 .rename_i x ho;split at hk
  .rename_i v hv;obtain⟨e,h1,h2⟩:=nD hE hv;exact⟨_,_,_,_,uJ hR (by simp only[pG,ho,h1,a0O]) h2,hk⟩
  exact hk.elim
 .-- pick
  rename_i c a b ho;split at hk
  .rename_i u hu;obtain⟨tu,h1,h2⟩:=Xe hE hu;obtain⟨t,Ia,rfl,hk⟩:=ZU hk h2;split at hk
   .rename_i v hv;obtain⟨e,g1,g2⟩:=nD hE hv;exact⟨_,_,_,_,uJ (hR.BP h1) (by simp only[pG,ho,h1,g1,a0O]) g2,hk⟩
   exact hk.elim
  exact hk.elim
 .-- alloc
  rename_i e ho;split at hk
  .rename_i z hz;obtain⟨z',g1,g2⟩:=HY (A:=AA A m) (m:=m) (h:=ts.heap) hz;obtain⟨m1,e1,e2,e3,e4,e5,e6⟩:=SL hR (site:=site (o.dst.getD 0)) g2;exact⟨_,_,_,_,⟨_,_,cZ,m1,by simp only[pG,ho,g1,a0O],e1,e2,e3,e4,e5,e6,.none,fun b hb=>by cases hb⟩,hk⟩
  exact hk.elim
 .-- box
  rename_i t x ho;split at hk
  .rename_i v hv;obtain⟨w,g1,g2⟩:=jB hE hv;split at hk
   .rename_i FC;have hc:=Hy g2;obtain⟨m1,e1,e2,e3,e4,e5,e6⟩:=SL hR (site:=site (o.dst.getD 0)) hc;exact⟨_,_,_,_,⟨_,_,cZ,m1,by simp only[pG,ho,g1,Eh hc,FC,a2u],e1,e2,e3,e4,e5,e6,.none,fun b hb=>by cases hb⟩,hk⟩
   exact hk.elim
  exact hk.elim
 .-- build
  rename_i t qs ho;split at hk
  .rename_i vs hvs;obtain⟨ws,g1,g2⟩:=ZO hE hvs;split at hk
   .rename_i v hv;obtain⟨w,g3,g4⟩:=a6v g2 hv;exact iT hR g4 (by simp only[pG,ho,g1,g3,a0O]) hk
   exact hk.elim
  exact hk.elim
 .-- buildSlice
  rename_i t len qs ho;split at hk
  .rename_i vs hvs;obtain⟨ws,g1,g2⟩:=ZO hE hvs;split at hk
   .split at hk
    .rename_i v H1 hv;refine wU hR (um hX hR g2 hv) ?_ hk;simp only[pG,ho,g1,agA];rfl
    exact hk.elim
   split at hk
   .rename_i v H1 hv;refine wU hR (um hX hR g2 hv) ?_ hk;simp only[pG,ho,g1,agA];rfl
   exact hk.elim
  exact hk.elim
 .-- load
  rename_i t a ho;split at hk
  .rename_i pa ha;obtain⟨ea,g1,g2⟩:=nD hE ha;split at hk
   .rename_i v i hv;obtain⟨w,ti,g3,g4,g5,g6⟩:=GK hX hR g2 hv;exact⟨.val v,_,_,_,⟨.val w,ts,ti,m,by simp only[pG,ho,g1,g3,a0O],rfl,rfl,hR,g4,.refl,.refl,g5,fun b hb=>by rw[g6]at hb;cases hb⟩,hk⟩
   exact hk.elim
  exact hk.elim
 .-- store
  rename_i t a x ho;split at hk
  .rename_i pa v ha hv;obtain⟨ea,g1,g2⟩:=nD hE ha;obtain⟨w,g3,g4⟩:=jB hE hv;split at hk
   .rename_i s i hs;obtain⟨iK,ti,m1,e1,e2,e3,e4,e5,e6,e7,e8⟩:=yZ hX hR g2 g4 hs;exact⟨.undef,_,_,_,⟨.undef,iK,ti,m1,by simp only[pG,ho,g1,g3,e1,a0O],e2,e3,e4,trivial,e5,e6,e7,e8⟩,hk⟩
   exact hk.elim
  exact hk.elim
 .-- nilCheck
  rename_i x ho;have go:∀{pe:PE X.Γ} {ev:EV},IV ts.env x=some ev->J3 X P (AA A m) m ts.heap pe ev->(match ev with|.loc _ _=>True|.val (.ptr _ _ _)=>True|.val (.fn _ _ _)=>True|_=>False)->(k pe ps xM an).Ends y->a6J X P A m call site ts o k y:=by
   intro pe ev h1 h2 h3 h4;refine⟨_,_,_,_,uJ hR ?_ h2,h4⟩;cases ev with
   |loc a b=>simp only[pG,ho,h1]
   |val v=>cases v<;>simp at h3<;>simp only[pG,ho,h1]
   |undef|ent|EI=>simp at h3
  split at hk
  .rename_i a b ha;obtain⟨ea,g1,g2⟩:=nD hE ha;have:=Ei g2;subst this;exact go g1 g2 trivial hk
  .rename_i a b c ha;obtain⟨ea,g1,g2⟩:=nD hE ha;obtain⟨w,rfl,g3⟩:=fQ g2;split at hk
   .rename_i cs hb;obtain⟨mb,f1,f2⟩:=hR.heap.at_ a _ hb;cases mb with
    |gq cb=>
     cases g3 with
     |ptr e=>exact go g1 g2 trivial hk
     |gone hi e _=>simp only[bn,a0d]at hi;subst hi;rw[f1]at e;cases e
    |_=>exact f2.elim
   .rename_i cs hb;obtain⟨mb,f1,f2⟩:=hR.heap.at_ a _ hb;cases mb with
    |jA cb=>
     cases g3 with
     |ptr e=>rw[f1]at e;cases e
     |gone hi e _=>
      simp only[bn,a0d]at hi;subst hi;rw[f1]at e;cases e with
      |r _ e=>simp only[roV,a0d]at e;subst e;exact go g1 g2 trivial hk
    |_=>exact f2.elim
   exact hk.elim
  .rename_i a b c ha;obtain⟨ea,g1,g2⟩:=nD hE ha;obtain⟨w,rfl,g3⟩:=fQ g2;split at hk
   .rename_i q1 q2 q3 q4 hb;obtain⟨mb,f1,f2⟩:=hR.heap.at_ a _ hb;cases mb with
    |dF cb=>
     cases g3 with
     |row e=>exact go g1 g2 trivial hk
     |gone hi e _=>simp only[bn,a0d]at hi;subst hi;rw[f1]at e;cases e
    |_=>exact f2.elim
   exact hk.elim
  .rename_i a b c ha;obtain⟨ea,g1,g2⟩:=nD hE ha;obtain⟨w,rfl,g3⟩:=fQ g2;cases g3 with
   |el=>exact go g1 g2 trivial hk
   |gone hi _ _=>simp[bn]at hi
  .rename_i a b c ha;obtain⟨ea,g1,g2⟩:=nD hE ha;obtain⟨w,rfl,g3⟩:=fQ g2;cases g3 with
   |fn=>exact go g1 g2 trivial hk
   |gone hi _ _=>simp[bn]at hi
  exact hk.elim
 .-- binOp
  rename_i op t x z w0 ho;split at hk
  rotate_left
  .exact hk.elim
  rename_i a b ha hb;obtain⟨ta,g1,g2⟩:=jB hE ha;obtain⟨tb,g3,g4⟩:=jB hE hb;split at hk
  .split at hk
   .rename_i v ps hd;obtain⟨hp,hk⟩:=uM hk;obtain⟨w,e1,e2⟩:=af8 (P:=P) (t:=t) (x:=x) (z:=z) g2 g4 hd hp;exact iT hR e2 (by simp only[pG,ho,g1,g3,e1,a0O]) hk
   exact hk.elim
  split at hk
  .rename_i v q hv;obtain⟨w,e1,e2⟩:=a3t (x:=x) (y:=z) hR.heap g2 g4 hv hk.1;exact iT hR e2 (by simp only[pG,ho,g1,g3,e1,a0O]) hk.2
  split at hk
  .split at hk
   .rename_i w r;split at hk
    .rename_i v ua ub e1 e2 e3;obtain⟨QJ,hk⟩:=hk;rw[<-jU g2 e2,<-jU g4 e3]at QJ;exact iT hR (wS e1) (by simp only[pG,ho,g1,g3,QJ,a0O]) hk
    exact hk.elim
   exact hk.elim
  split at hk
  .rename_i v hv;obtain⟨w,e1,e2⟩:=Za g2 g4 hv;exact iT hR e2 (by simp only[pG,ho,g1,g3,e1,a0O]) hk
  exact hk.elim
 .-- unOp
  rename_i op t x ho;split at hk
  .rename_i a ha;obtain⟨ta,g1,g2⟩:=jB hE ha;split at hk
   .rename_i v hv;obtain⟨w,e1,e2⟩:=iV g2 hv;exact iT hR e2 (by simp only[pG,ho,g1,e1,a0O]) hk
   exact hk.elim
  exact hk.elim
 .-- convert
  rename_i s d x ho;split at hk
  .rename_i a ha;obtain⟨ta,g1,g2⟩:=jB hE ha;split at hk
   .split at hk
    .rename_i w r;split at hk
     .rename_i v ua e1 e2;obtain⟨QJ,hk⟩:=hk;rw[<-jU g2 e2]at QJ;exact iT hR (wS e1) (by simp only[pG,ho,g1,QJ,a0O]) hk
     exact hk.elim
    exact hk.elim
   split at hk
   .rename_i v hv;obtain⟨w,e1,e2⟩:=Ul g2 hv;exact iT hR e2 (by simp only[pG,ho,g1,e1,a0O]) hk
   exact hk.elim
  exact hk.elim
 .-- makeFunc
  rename_i f first cap ho
  split at hk
  .rename_i a b ha hb;obtain⟨ta,g1,g2⟩:=V3 hE ha;obtain⟨tb,g3,g4⟩:=V3 hE hb;exact iT hR (.fn g2.1 g2.2 g4.1 g4.2) (by simp only[pG,ho,g1,g3]) hk
  exact hk.elim
 .-- makeMap
  rename_i t r ho;have hp:=hR.heap.push (pb:=.map []) (hb:=.map []) (mb:=.gq ts.heap.length) (.inl rfl) ⟨[],by simp,rfl,fun i a b ha=>by simp at ha⟩;have go:pG P call site ts o=some (.val (.map ts.heap.length),{ ts with heap:=ts.heap++[.map []] },cZ)->∀{an:PT X.Γ},(k (.val (.map ps.heap.length)) { ps with heap:=ps.heap++[.map []] } xM an).Ends y->a6J X P A m call site ts o k y:=fun h1 an h2=>
   ⟨.val (.map ps.heap.length),_,_,_,⟨_,_,cZ,_,h1,rfl,rfl,hR.step hp.1 hp.2.1 hp.2.2,o8 (.map (by rw[<-hR.heap.len];simp)),hp.2.1,hp.2.2,.none,fun b hb=>by cases hb⟩,h2⟩
  split at hk
  .rename_i h1;obtain⟨w,g1,g2⟩:=I4 hE h1;have:=rM g2;subst this;exact go (by simp only[pG,ho,g1]) hk
  .rename_i k0 n0 kt vt h1 hu;obtain⟨w,g1,g2⟩:=I4 hE h1;have:=OQ g2;subst this;exact go (by simp only[pG,ho,g1,hu]) hk
  exact hk.elim
 .-- makeSlice
  rename_i t l c ho;split at hk
  .rename_i vl vc hl hc;obtain⟨tl,g1,g2⟩:=jB hE hl;obtain⟨tc,g3,g4⟩:=jB hE hc;split at hk
   .rename_i v H1 qs hv;obtain⟨hq,hk⟩:=uM hk;refine wU hR (Ah hX hR g2 g4 hv hq) ?_ hk;simp only[pG,ho,g1,g3,agA];rfl
   exact hk.elim
  exact hk.elim
 .-- slice
  rename_i t x lo hi mx ho;split at hk
  rotate_left
  .exact hk.elim
  rename_i px plo xE pmx hx H6 hhi hmx;obtain⟨ex,g1,g2⟩:=nD hE hx;obtain⟨QW,g3,g4⟩:=I4 hE H6;obtain⟨QX,g5,g6⟩:=I4 hE hhi;obtain⟨tmx,g7,g8⟩:=I4 hE hmx;split at hk
  .rename_i n e hu;split at hk
   .split at hk
    .rename_i v hv;refine wU (H1:=ps.heap) hR (V7 hR g2 g4 g6 g8 hv) ?_ hk;simp only[pG,ho,g1,g3,g5,g7,hu,agA];rfl
    exact hk.elim
   split at hk
   .rename_i v H1 qs hv;obtain⟨hq,hk⟩:=uM hk;refine wU hR (CV hX hR g2 g4 g6 g8 hv hq) ?_ hk;simp only[pG,ho,g1,g3,g5,g7,hu,agA];rfl
   exact hk.elim
  rename_i afa;have kW:∀{w:TV},ex=.val w->pG P call site ts o=(qV P t w QW QX tmx).map fun v=>(.val v,ts,cZ):=by intro w e;subst e;simp only[pG,ho,g1,g3,g5,g7]
  split at hk
  .rename_i b;obtain⟨w,rfl,g9⟩:=fQ g2;have:w=.str b:=by
    cases g9 with
    |str=>rfl
    |gone hi _ _=>simp[bn]at hi
   subst this;split at hk
   rotate_left
   .exact hk.elim
   rename_i w r;split at hk
   rotate_left
   .exact hk.elim
   rename_i v tl th e1 e2 e3;split at hk
   rotate_left
   .exact hk.elim
   rename_i aj1;obtain⟨hs,hk⟩:=hk;have h7:tmx=none:=by
    cases pmx with
    |none=>exact rM g8
    |some _=>simp at aj1
   have h5:QW=tl:=by
    cases plo with
    |none=>simp at e2;rw[rM g4,e2]
    |some q=>
     obtain⟨tq,rfl⟩:=MZ g4;simp only[a0l]at e2;obtain⟨q1,q2,rfl⟩:=e2;rw[jU (show VR X P (AA A m) m ts.heap q tq from g4) q2]
   have h6:QX=th:=by
    cases xE with
    |none=>simp at e3;rw[rM g6,e3]
    |some q=>
     obtain⟨tq,rfl⟩:=MZ g6;simp only[a0l]at e3;obtain⟨q1,q2,rfl⟩:=e3;rw[jU (show VR X P (AA A m) m ts.heap q tq from g6) q2]
   subst h5;subst h6;subst h7;exact iT hR (wS e1) (by rw[kW rfl,hs];rfl) hk
  .rename_i px' hns;obtain⟨w,rfl,g9⟩:=fQ g2;split at hk
   .rename_i v qs hv;obtain⟨hq,hk⟩:=uM hk;obtain⟨w',e1,e2⟩:=O5 hR g9 g4 g6 g8 hv hq;exact iT hR e2 (by rw[kW rfl,e1];rfl) hk
   exact hk.elim
  exact hk.elim
 .-- fieldAddr
  rename_i t x f ho;split at hk
  .rename_i pa n ha hn;obtain⟨ea,g1,g2⟩:=nD hE ha;split at hk
   .rename_i v hv;obtain⟨eb,g3,g4⟩:=NZ hR g2 hv;exact⟨_,_,_,_,uJ hR (by simp only[pG,ho,g1,hn,g3,a0O]) g4,hk⟩
   exact hk.elim
  exact hk.elim
 .-- field
  rename_i t x f ho;split at hk
  .rename_i a ha;obtain⟨ta,g1,g2⟩:=jB hE ha;split at hk
   .rename_i v hv;obtain⟨w,e1,e2⟩:=O1 g2 hv;exact iT hR e2 (by simp only[pG,ho,g1,e1,a0O]) hk
   exact hk.elim
  exact hk.elim
 .-- indexAddr
  rename_i t x i ho;split at hk
  .rename_i pa vi ha hi;obtain⟨ea,g1,g2⟩:=nD hE ha;obtain⟨ti,g3,g4⟩:=jB hE hi;split at hk
   .rename_i v qs hv;obtain⟨hq,hk⟩:=uM hk;obtain⟨eb,g5,g6⟩:=Af hR g2 g4 hv hq;exact⟨_,_,_,_,uJ hR (by simp only[pG,ho,g1,g3,g5,a0O]) g6,hk⟩
   exact hk.elim
  exact hk.elim
 .-- index
  rename_i t x i ho;split at hk
  .rename_i a vi ha hi;obtain⟨ta,g1,g2⟩:=jB hE ha;obtain⟨ti,g3,g4⟩:=jB hE hi;split at hk
   .split at hk
    .rename_i w r;split at hk
     .rename_i v ua ui e1 e2 e3;obtain⟨QJ,hk⟩:=hk;rw[<-jU g2 e2,<-jU g4 e3]at QJ;exact iT hR (wS e1) (by simp only[pG,ho,g1,g3,QJ,a0O]) hk
     exact hk.elim
    exact hk.elim
   split at hk
   .rename_i v hv;obtain⟨w,e1,e2⟩:=O4 g2 g4 hv;exact iT hR e2 (by simp only[pG,ho,g1,g3,e1,a0O]) hk
   exact hk.elim
  exact hk.elim
 .-- lookup
  rename_i t mm i ok ho;split at hk
  .rename_i vm vi hm hi;obtain⟨tm,g1,g2⟩:=jB hE hm;obtain⟨ti,g3,g4⟩:=jB hE hi;obtain⟨v,pi,Ia,w,e1,e2,e3,e4⟩:=aaf hR g2 g4 hk;refine⟨.val v,_,_,_,⟨.val w,ts,_,m,?_,rfl,rfl,hR,e2,.refl,.refl,e4,fun b hb=>by cases hb⟩,e3⟩;simp only[pG,ho,g1,g3,e1,a0O];cases tm<;>rfl
  exact hk.elim
 .-- mapUpdate
  rename_i t mm i x ho;split at hk
  .rename_i vm vi vx hm hi hx;obtain⟨tm,g1,g2⟩:=jB hE hm;obtain⟨ti,g3,g4⟩:=jB hE hi;obtain⟨tx,g5,g6⟩:=jB hE hx;obtain⟨ps1,pi,Ia,h1,a01,e1,e2,e3,e4,e5,e6⟩:=a6F hR g2 g4 g6 hk;exact⟨.undef,_,_,_,⟨.undef,{ ts with heap:=h1 },a01,m,by simp only[pG,ho,g1,g3,g5,e1,a0O],rfl,rfl,e2,trivial,e3,.refl,e5,e6⟩,e4⟩
  exact hk.elim
 .-- insert
  rename_i t mm i x ho;split at hk
  .rename_i vm vi vx hm hi hx;obtain⟨tm,g1,g2⟩:=jB hE hm;obtain⟨ti,g3,g4⟩:=jB hE hi;obtain⟨tx,g5,g6⟩:=jB hE hx;obtain⟨ps1,pi,Ia,h1,a01,e1,e2,e3,e4,e5,e6⟩:=a6F hR g2 g4 g6 hk;exact⟨.undef,_,_,_,⟨.undef,{ ts with heap:=h1 },a01,m,by simp only[pG,ho,g1,g3,g5,e1,a0O],rfl,rfl,e2,trivial,e3,.refl,e5,e6⟩,e4⟩
  exact hk.elim
 .-- mapEntry
  rename_i t mm i ho;split at hk
  .rename_i vm vi hm hi;obtain⟨tm,g1,g2⟩:=jB hE hm;obtain⟨ti,g3,g4⟩:=jB hE hi;obtain⟨e,e',ps1,pi,Ia,h1,a01,e1,e0,e2,e3,e4,e5,e6⟩:=aah hR g2 g4 hk;exact⟨e,_,_,_,⟨e',{ ts with heap:=h1 },a01,m,by simp only[pG,ho,g1,g3,e1],rfl,rfl,e2,e0,e3,.refl,e5,e6⟩,e4⟩
  exact hk.elim
 .-- entryStore
  rename_i t mm i x ho;split at hk
  .rename_i vm vi vx hm hi hx;obtain⟨tm,g1,g2⟩:=jB hE hm;obtain⟨ti,g3,g4⟩:=nD hE hi;obtain⟨tx,g5,g6⟩:=jB hE hx;obtain⟨ps1,pi,h1,a01,e1,e2,e3,e4,e5,e6⟩:=aaj hR g2 g4 g6 hk;exact⟨.undef,_,_,_,⟨.undef,{ ts with heap:=h1 },a01,m,by simp only[pG,ho,g1,g3,g5,e1,a0O],rfl,rfl,e2,trivial,e3,.refl,e5,e6⟩,e4⟩
  exact hk.elim
 .-- extract
  rename_i t i ho;split at hk
  .rename_i vs hv;obtain⟨w,g1,g2⟩:=nD hE hv;obtain⟨w,rfl,g2⟩:=fQ g2;split at hk
   .rename_i v hvi;cases g2 with
    |dJ h1 h2=>
     obtain⟨x,e1,e2⟩:=bY.get ⟨h1,h2⟩ hvi;exact iT hR e2 (by simp only[pG,ho,g1,yY,e1,a0O]) hk
    |gone hi _ _=>simp[bn]at hi
   exact hk.elim
  .rename_i r j v hv;obtain⟨w,g1,g2⟩:=nD hE hv;obtain⟨c,y0,rfl,q1,q2⟩:=MW g2;split at hk
   .exact iT hR (o7 q2) (by simp only[pG,ho,g1,yY,a0O]) hk
   .exact⟨_,_,_,_,uJ hR (pe:=.EI r j) (ev:=.EI c j) (by simp only[pG,ho,g1,yY,a0O]) ⟨q1,rfl⟩,hk⟩
   exact hk.elim
  exact hk.elim
 .-- call
  rename_i c ho;split at hk
  rotate_left
  .exact hk.elim
  rename_i az has;obtain⟨tas,g1,g2⟩:=V3 hE has;have yh:∀{b:Builtin},c.callee=.builtin b->∀{r:Option (TV×St×mF)},qW P b c.argTypes o.type ts tas=r->pG P call site ts o=r.map fun(v,s,i)=>(.val v,s,i):=by intro b hb r hr;simp only[pG,ho,NG,hb,g1,hr]
  split at hk
  .rename_i hb;split at hk
   .rename_i x;obtain⟨tx,r,rfl,q1,q2⟩:=g2.inv;have:=q2.inv0;subst this;split at hk
    .rename_i v i hv;obtain⟨w,ti,e1,e2,e3,e4⟩:=Zc hR.heap q1 hv;exact⟨.val v,_,_,_,⟨.val w,ts,ti,m,by rw[yh hb (r:=some (w,ts,ti)) (by simp only[qW,e1,a0O])];rfl,rfl,rfl,hR,o8 e2,.refl,.refl,e3,fun b hb=>by rw[e4]at hb;cases hb⟩,hk⟩
    exact hk.elim
   exact hk.elim
  .rename_i hb;split at hk
   .rename_i d x;obtain⟨td,r,rfl,q1,q2⟩:=g2.inv;obtain⟨tx,r,rfl,q3,q4⟩:=q2.inv;have:=q4.inv0;subst this;split at hk
    .rename_i v H1 i qs hv;obtain⟨hq,hk⟩:=uM hk;exact wU hR (Jd hX hR q1 q3 hv hq) (yh hb rfl) hk
    exact hk.elim
   exact hk.elim
  .rename_i hb;split at hk
   .rename_i d x;obtain⟨td,r,rfl,q1,q2⟩:=g2.inv;obtain⟨tx,r,rfl,q3,q4⟩:=q2.inv;have:=q4.inv0;subst this;split at hk
    .rename_i v H1 i hv;exact wU hR (Ur hX hR q1 q3 hv) (yh hb rfl) hk
    exact hk.elim
   exact hk.elim
  .rename_i hb;split at hk
   .rename_i v hv;obtain⟨w,e1,e2⟩:=zi g2 hv;refine iT hR e2 ?_ hk;rw[yh hb (r:=some (w,ts,cZ)) (by simp only[qW,e1,a0O])];rfl
   exact hk.elim
  .rename_i hb;split at hk
   .rename_i v hv;obtain⟨w,e1,e2⟩:=zi g2 hv;refine iT hR e2 ?_ hk;rw[yh hb (r:=some (w,ts,cZ)) (by simp only[qW,e1,a0O])];rfl
   exact hk.elim
  .rename_i f hb;split at hk
   rotate_left
   .exact hk.elim
   rename_i fv hfv;obtain⟨tf,f1,f2⟩:=jB hE hfv;have kW:∀{w:TV} {h1:List HB} {ws:List Nat},call tf tas ts.heap=some (w,h1,ws)->pG P call site ts o=some (.val w,{ ts with heap:=h1 },⟨true,[],ws.map .h⟩):=by intro w h1 ws hc;simp only[pG,ho,NG,hb,g1,f1,hc]
   unfold a6s at hk;split at hk
   .rename_i v H1 r;obtain⟨hs,hk⟩:=hk;obtain⟨w,h1,ws,m1,c1,c2,c3,c4,c5,c6⟩:=hs A m ts.heap tf tas hR.heap f2 g2;refine⟨.val v,_,_,_,⟨.val w,_,_,m1,kW c1,rfl,rfl,hR.step c2 c4 c5,o8 c3,c4,c5,⟨fun _=>rfl,fun k hk=>(by cases hk),fun k hk=>?_,fun b hb=>?_,fun b hb=>(by cases hb),fun h=>(by cases h)⟩,fun b hb=>?_⟩,hk⟩
    .simp at hk
    .simp at hb;exact .inr ⟨rfl,c6 b hb⟩
    simp at hb;exact c6 b hb
   .split at hk
    .rename_i Hp jH hp;split at hk
     .rename_i Hs fv1 xs1 hHs afb afc;split at hk
      .rename_i v1 QD YR afd;obtain⟨hs,hk⟩:=hk;simp only[a2O,a1z]at jH;obtain⟨w,h1,ws,m1,c1,c2,c3,c4,c5,c6⟩:=Ju hX hs.w jH.1 hp hHs afb afc YR afd jH.2 A m ts.heap tf tas hR.heap f2 g2;refine⟨.val v1,_,_,_,⟨.val w,_,_,m1,kW c1,rfl,rfl,hR.step c2 c4 c5,o8 c3,c4,c5,⟨fun _=>rfl,fun k hk=>(by cases hk),fun k hk=>?_,fun b hb=>?_,fun b hb=>(by cases hb),fun h=>(by cases h)⟩,fun b hb=>?_⟩,hk⟩
       .simp at hk
       .simp at hb;obtain⟨_,k,h8,_,h9⟩:=c6 b hb;exact .inl ⟨k,a0V.2 ⟨k,a4X h8,rfl⟩,h9⟩
       simp at hb;obtain⟨_,k,_,_,mb,h8,h9⟩:=c6 b hb;exact bf h8 h9
      exact hk.elim
     exact hk.elim
    exact hk.elim
   .split at hk
    .rename_i Hp jH hp;split at hk
     .rename_i Hs fv1 xs1 hHs afb afc;split at hk
      .rename_i v1 QD Hs2 H2 YR afd aoN;obtain⟨hs,hk⟩:=hk;simp only[a2O,a1z]at jH;have hsl:Hs.length=_:=(tJ hHs).1.trans (Eo hp).1;obtain⟨w,h1,ws,m1,c1,c2,c3,c4,c5,c6⟩:=Ju hX (ZX aoN (by rw[hsl];exact jH.2) hs.w) jH.1 hp hHs afb afc YR afd jH.2 A m ts.heap tf tas hR.heap f2 g2;refine⟨.val v1,_,_,_,⟨.val w,_,_,m1,kW c1,rfl,rfl,hR.step c2 c4 c5,o8 c3,c4,c5,⟨fun _=>rfl,fun k hk=>(by cases hk),fun k hk=>?_,fun b hb=>?_,fun b hb=>(by cases hb),fun h=>(by cases h)⟩,fun b hb=>?_⟩,hk⟩
       .simp at hk
       .simp at hb;obtain⟨p,k,h8,h7,h9⟩:=c6 b hb;exact .inl ⟨k,a0V.2 ⟨k,Xp h8 (by simpa using h7.2),rfl⟩,h9⟩
       simp at hb;obtain⟨_,k,_,_,mb,h8,h9⟩:=c6 b hb;exact bf h8 h9
      exact hk.elim
     exact hk.elim
    exact hk.elim
   split at hk
   .rename_i g first cap _
    cases f2 with
    |gone hi _ _=>simp[bn]at hi
    |fn p1 p2 p3 p4=>
     split at hk
     .rename_i vs hvs;split at hk
      .rename_i v ext qs aoO;split at hk
       .rename_i ext' FH;obtain⟨hq,hk⟩:=uM hk;obtain⟨w,h1,m1,c1,c2,c3,c4,c5⟩:=I9 hX (hO _ _ _ _ _ aoO hq) hR.heap hvs FH ⟨p1,p2⟩ g2 ⟨p3,p4⟩;refine⟨.val (shift ps.heap.length v),_,_,_,⟨.val w,_,_,m1,kW c1,rfl,rfl,hR.step c2 c4 c5,o8 c3,c4,c5,⟨fun _=>rfl,fun k hk=>(by cases hk),fun k hk=>(by simp at hk),fun b hb=>(by simp at hb),fun b hb=>(by cases hb),fun h=>(by cases h)⟩,fun b hb=>(by simp at hb)⟩,hk⟩
       exact hk.elim
      exact hk.elim
     exact hk.elim
   exact hk.elim
  exact hk.elim
 .-- range
  rename_i t x ho;split at hk
  .rename_i r kt et hx hu;obtain⟨tx,g1,g2⟩:=jB hE hx;split at hk
   .rename_i es Md;obtain⟨c,fZ,q0,q3,q4,q5⟩:=Dh hR.heap Md;have htm:=a1A g2 q0;subst htm;have aT:r<m.length:=by rcases q0 with q1|⟨q1,_⟩<;>exact(a0h.1 q1).1
    have hp:=hR.heap.push (pb:=.dn r es.length []) (hb:=.dn c es.length []) (mb:=.gq ts.heap.length) (.inl rfl) ⟨c,by simp,by rw[a0C aT];rcases q0 with q1|⟨q1,_⟩<;>rw[q1]<;>rfl,fun c' hc=>by rw[a0C aT]at hc;rcases q0 with q1|⟨q1,_⟩<;>rw[q1]at hc<;>simp at hc<;>exact hc.symm⟩
    have go:pG P call site ts o=some (.val (.iter ts.heap.length),{ ts with heap:=ts.heap++[.dn c es.length []] },xG (.h c)):=by simp only[pG,ho,g1,hu,q3,q4]
    exact⟨.val (.iter ps.heap.length),_,_,_,⟨_,_,xG (.h c),_,go,rfl,rfl,hR.step hp.1 hp.2.1 hp.2.2,o8 (.iter (by rw[<-hR.heap.len];simp)),hp.2.1,hp.2.2,IR.reads rfl (fun b hb=>by simp[xG]at hb;subst hb;exact⟨SX q0,(a0h.1 q3).1⟩) (by simp[xG]),fun b hb=>by simp[xG]at hb⟩,hk⟩
   exact hk.elim
  exact hk.elim
 .-- entry
  rename_i x ho;split at hk
  rotate_left
  .exact hk.elim
  rename_i b hx;obtain⟨tx,g1,g2⟩:=jB hE hx;split at hk
  rotate_left
  .exact hk.elim
  rename_i r n i seen hb;split at hk
  rotate_left
  .exact hk.elim
  rename_i es Md;split at hk
  .rename_i kk vv _ rest;obtain⟨⟨hn,he⟩,hk⟩:=hk;obtain⟨e,rfl,rfl⟩:∃e:PV X.Γ×PV X.Γ,e.1=kk∧e.2=vv:=⟨(kk,vv),rfl,rfl⟩;have he:es[i]? = some e:=he;obtain⟨mb,q1,q2⟩:=hR.heap.at_ b _ hb;cases mb with
   |gq cb=>
    obtain⟨c,q3,_,q5⟩:=q2;obtain⟨c',fZ,z1,z3,z4,z5⟩:=Dh hR.heap Md;have:=q5 c' (by rcases z1 with z1|⟨z1,_⟩;exact .inl z1;exact .inr z1);subst this;cases g2 with
    |gone hi e _=>simp only[bn,a0d]at hi;subst hi;rw[q1]at e;cases e
    |iter e1=>
     rw[q1]at e1;cases e1;have hl:i<fZ.length:=by rw[<-z4];exact(a0h.1 he).1
     have he':=a0q hl;have hv:=z5 i _ _ he he';refine⟨.val (.dJ [e.1,e.2]),_,_,_,⟨.val (.dJ [fZ[i].1,fZ[i].2]),ts,fJ [.h cb,.h c'],m,?_,rfl,rfl,hR,o8 (N7 (o7 hv.1) (o7 hv.2)),.refl,.refl,IR.reads rfl (fun b2 yg=>?_) (by simp[fJ]),fun b hb=>by simp[fJ]at hb⟩,hk⟩
     .simp only[pG,ho,g1,q3,z3];rw[a0F (by rw[<-z4];exact hn),he'];rfl
     simp[fJ]at yg;rcases yg with rfl|rfl
     .exact⟨.inl ⟨b,by simp[fJ],iL q1 rfl⟩,(a0h.1 q3).1⟩
     refine⟨?_,(a0h.1 z3).1⟩;rcases z1 with z1|⟨_,z1⟩
     .exact .inl ⟨r,by simp[fJ],iL z1 rfl⟩
     exact .inr z1
   |_=>exact q2.elim
  split at hk
  case isFalse=>exact hk.elim
  rename_i hn;split at hk
  case h_2=>exact hk.elim
  rename_i e he;obtain⟨mb,q1,q2⟩:=hR.heap.at_ b _ hb;cases mb with
  |gq cb=>
   obtain⟨c,q3,_,q5⟩:=q2;obtain⟨c',fZ,z1,z3,z4,z5⟩:=Dh hR.heap Md;have:=q5 c' (by rcases z1 with z1|⟨z1,_⟩;exact .inl z1;exact .inr z1);subst this;cases g2 with
   |gone hi e _=>simp only[bn,a0d]at hi;subst hi;rw[q1]at e;cases e
   |iter e1=>
    rw[q1]at e1;cases e1;have hl:i<fZ.length:=by rw[<-z4];exact(a0h.1 he).1
    have he':=a0q hl;have hv:=z5 i _ _ he he';refine⟨.val (.dJ [e.1,e.2]),_,_,_,⟨.val (.dJ [fZ[i].1,fZ[i].2]),ts,fJ [.h cb,.h c'],m,?_,rfl,rfl,hR,o8 (N7 (o7 hv.1) (o7 hv.2)),.refl,.refl,IR.reads rfl (fun b2 yg=>?_) (by simp[fJ]),fun b hb=>by simp[fJ]at hb⟩,hk⟩
    .simp only[pG,ho,g1,q3,z3];rw[a0F (by rw[<-z4];exact hn),he'];rfl
    simp[fJ]at yg;rcases yg with rfl|rfl
    .exact⟨.inl ⟨b,by simp[fJ],iL q1 rfl⟩,(a0h.1 q3).1⟩
    refine⟨?_,(a0h.1 z3).1⟩;rcases z1 with z1|⟨_,z1⟩
    .exact .inl ⟨r,by simp[fJ],iL z1 rfl⟩
    exact .inr z1
  |_=>exact q2.elim
 exact hk.elim
end
inductive IRs:List MB->List HB->List PI->List mF->Prop where
 |nil {m h}:IRs m h [] []
 |cons {m h p t m1 h1 ps ts}:(bg m).Nodup->(∀b,b∈bg m->b<h.length)->IR m h p t->Fr m h m1 h1->Up m m1->(p.mv=false->∀(i:Nat),i<m.length->m1[i]? = some .gone->m[i]? = some .gone)->IRs m1 h1 ps ts->IRs m h (p::ps) (t::ts)
theorem a6K{fl b c:Nat}{ws:List Nat}(h:c∈EJ fl b ws):c∈ws∨(c=b∧b<fl):=by
 unfold EJ at h;split at h
 .rename_i hl;split at h
  .exact .inl h
  rcases a1Y.1 h with h|h
  .exact .inr ⟨h,hl⟩
  exact .inl h
 exact .inl h
theorem vX{fl c:Nat}:∀{ks:List Key} {ws:List Nat},c∈kD fl ks ws->c∈ws∨(.h c∈ks∧c<fl)
 | [],ws,h=>.inl h
 |.h b::ks,ws,h=>by
  rcases vX (ks:=ks) h with h|⟨h1,h2⟩
  .rcases a6K h with h|⟨rfl,h⟩
   .exact .inl h
   exact .inr ⟨a3x,h⟩
  exact .inr ⟨a3y _ h1,h2⟩
 |.l _::ks,ws,h=>by
  rcases vX (ks:=ks) h with h|⟨h1,h2⟩
  .exact .inl h
  exact .inr ⟨a3y _ h1,h2⟩
theorem Xq{m m1:List MB}(hU:Up m m1)(hg:∀(i:Nat),i<m.length->m1[i]? = some .gone->m[i]? = some .gone){i b:Nat}(h:G9 m i b):G9 m1 i b:=by
 obtain⟨mb,h1,h2⟩:=h;rcases hU i mb h1 with e|e
 .exact⟨mb,e,h2⟩
 have:=hg i (a0h.1 h1).1 e;rw[h1]at this;cases this;cases h2
theorem Di{m:List MB}(hn:(bg m).Nodup){i j b:Nat}(h1:G9 m i b)(h2:G9 m j b):i=j:=by obtain⟨_,a1,a2⟩:=h1;obtain⟨_,b1,b2⟩:=h2;exact jc hn a1 b1 a2 b2
theorem aao{ma mb:List MB}{ha hb:List HB}{pa pb:PI}{ta tb:mF}(na:(bg ma).Nodup)(nb:(bg mb).Nodup)(la:∀b,b∈bg ma->b<ha.length)(hab:Fr ma ha mb hb)(A:IR ma ha pa ta)(B:IR mb hb pb tb)(hc:a1q pa pb=true)
  (QK:(∀i b,G9 ma i b->G9 mb i b)∨pa.hp=false∨pb.hp=false):calm ta tb=true:=by
 simp only[a1q,a2O]at hc;obtain⟨c1,c2⟩:=hc;simp only[ZM,a2O,a4W,a8W,a9w]at c1 c2;obtain⟨c1,c1w⟩:=c1;obtain⟨c2,c2w⟩:=c2;simp only[calm,a2O];constructor
 .simp only[NP,a4W,a2O,a8W,ahs];intro k hk;cases k with
  |l j=>
   have:=c1 _ (A.wl j hk);simp only[a5t,a3b]at this ⊢;exact⟨⟨.inr rfl,fun h=>this.1.1.2 (B.tl j h)⟩,fun h=>this.1.2 (B.wl j h)⟩
  |h c=>
   rcases QK with a6L|QK|QK
   .-- nothing is given up
    have hca:c∈bg ma:=by
     rcases A.wh c hk with⟨i,_,h2⟩|⟨_,h2⟩
     .exact ZP h2
     .exact h2
    obtain⟨i0,hi0⟩:=kL hca;have hi1:=a6L _ _ hi0;have hcb:c∈bg mb:=ZP hi1;rcases A.wh c hk with⟨i,h1,h2⟩|⟨h1,h2⟩
    .have hii:=Di na hi0 h2;subst hii;have O7:=c1 _ h1;simp only[a5t,a3b,Key.isH,ahK]at O7;refine⟨⟨.inl ?_,?_⟩,?_⟩
     .cases hq:tb.all with
      |false=>rfl
      |true=>rw[B.all hq]at O7;simp at O7
     .simp only[a5t,a3b];intro hq;rcases(B.th c hq).1 with⟨j,g1,g2⟩|g1
      .have:=Di nb hi1 g2;subst this;exact O7.1.1.2 g1
      .exact g1 hcb
     .simp only[a5t,a3b];intro hq;rcases B.wh c hq with⟨j,g1,g2⟩|⟨g1,g2⟩
      .have:=Di nb hi1 g2;subst this;exact O7.1.2 g1
      .rw[g1]at O7;simp at O7
    .rw[h1]at c1w;simp only[afk,false_or]at c1w;obtain⟨⟨⟨w1,w2⟩,w3⟩,w4⟩:=c1w;refine⟨⟨.inl ?_,?_⟩,?_⟩
     .cases hq:tb.all with
      |false=>rfl
      |true=>rw[B.all hq]at w1;cases w1
     .simp only[a5t,a3b];intro hq;rcases(B.th c hq).1 with⟨j,g1,g2⟩|g1
      .have:=w3 _ g1;simp[Key.isH]at this
      .exact g1 hcb
     .simp only[a5t,a3b];intro hq;rcases B.wh c hq with⟨j,g1,g2⟩|⟨g1,g2⟩
      .have:=w4 _ g1;simp[Key.isH]at this
      .rw[g1]at w2;cases w2
   .exact absurd hk ((A.hp QK).2.2 c)
   .obtain⟨g1,g2,g3⟩:=B.hp QK;refine⟨⟨.inl g1,?_⟩,?_⟩<;>simp only[a5t,a3b]
    .exact g2 c
    .exact g3 c
 .simp only[NP,a4W,a2O,a8W,ahs];intro k hk;cases k with
  |l j=>
   have:=c2 _ (B.wl j hk);simp only[a5t,a3b]at this ⊢;exact⟨⟨.inr rfl,fun h=>this.1.1.2 (A.tl j h)⟩,fun h=>this.1.2 (A.wl j h)⟩
  |h c=>
   rcases QK with a6L|QK|QK
   .have hcb:c∈bg mb:=by
     rcases B.wh c hk with⟨i,_,h2⟩|⟨_,h2⟩
     .exact ZP h2
     .exact h2
    obtain⟨j0,hj0⟩:=kL hcb;have back:c<ha.length->c∈bg ma:=fun aT=>by
     rcases hab.new c hcb with h1|h1
     .exact h1
     .omega
    have aj6:∀i,G9 ma i c->i=j0:=fun i hi=>Di nb (a6L _ _ hi) hj0;rcases B.wh c hk with⟨j,h1,h2⟩|⟨h1,h2⟩
    .have hii:=Di nb hj0 h2;subst hii;have O7:=c2 _ h1;simp only[a5t,a3b,Key.isH,ahK]at O7;refine⟨⟨.inl ?_,?_⟩,?_⟩
     .cases hq:ta.all with
      |false=>rfl
      |true=>rw[A.all hq]at O7;simp at O7
     .simp only[a5t,a3b];intro hq;obtain⟨g0,glt⟩:=A.th c hq;rcases g0 with⟨i,g1,g2⟩|g1
      .have:=aj6 i g2;subst this;exact O7.1.1.2 g1
      .exact g1 (back glt)
     .simp only[a5t,a3b];intro hq;rcases A.wh c hq with⟨i,g1,g2⟩|⟨g1,g2⟩
      .have:=aj6 i g2;subst this;exact O7.1.2 g1
      .rw[g1]at O7;simp at O7
    .rw[h1]at c2w;simp only[afk,false_or]at c2w;obtain⟨⟨⟨w1,w2⟩,w3⟩,w4⟩:=c2w;refine⟨⟨.inl ?_,?_⟩,?_⟩
     .cases hq:ta.all with
      |false=>rfl
      |true=>rw[A.all hq]at w1;cases w1
     .simp only[a5t,a3b];intro hq;obtain⟨g0,glt⟩:=A.th c hq;rcases g0 with⟨i,g1,g2⟩|g1
      .have:=w3 _ g1;simp[Key.isH]at this
      .exact g1 (back glt)
     .simp only[a5t,a3b];intro hq;rcases A.wh c hq with⟨i,g1,g2⟩|⟨g1,g2⟩
      .have:=w4 _ g1;simp[Key.isH]at this
      .rw[g1]at w2;cases w2
   .obtain⟨g1,g2,g3⟩:=A.hp QK;refine⟨⟨.inl g1,?_⟩,?_⟩<;>simp only[a5t,a3b]
    .exact g2 c
    .exact g3 c
   .exact absurd hk ((B.hp QK).2.2 c)
theorem a6M:∀{ps:List PI} {ts:List mF} {m:List MB} {h:List HB},IRs m h ps ts->∀{j:Nat} {p:PI},ps[j]? = some p->∃t mj hj,ts[j]? = some t∧IR mj hj p t∧(bg mj).Nodup∧(∀b,b∈bg mj->b<hj.length)∧Fr m h mj hj∧((∀(i:Nat) q,i<j->ps[i]? = some q->q.mv=false)->∀i b,G9 m i b->G9 mj i b)
 |_,_,_,_,.nil,j,p,hj=>by simp at hj
 |_,_,m,h,.cons n1 n2 i1 f1 u1 g1 rest,j,p,hj=>by
  cases j with
  |zero=>
   simp only[a2Z,a0d]at hj;subst hj;exact⟨_,m,h,rfl,i1,n1,n2,.refl,fun _ i b hb=>hb⟩
  |succ j=>
   obtain⟨t,mj,Ea,e1,e2,e3,e4,e5,e6⟩:=a6M rest (j:=j) (by simpa using hj);refine⟨t,mj,Ea,by simpa using e1,e2,e3,e4,f1.trans e5,fun hq i b hb=>e6 (fun i q hl hi=>hq (i+1) q (by omega) (by simpa using hi)) i b ?_⟩;exact Xq u1 (g1 (hq 0 _ (by omega) rfl)) hb
theorem a1D:∀{ps:List PI} {ts:List mF} {m:List MB} {h:List HB},IRs m h ps ts->∀{i j:Nat} {p q:PI},i<j->ps[i]? = some p->ps[j]? = some q->a1q p q=true->((∀(k:Nat) q,i<=k->k<j->ps[k]? = some q->q.mv=false)∨p.hp=false∨q.hp=false)->∃a b,ts[i]? = some a∧ts[j]? = some b∧calm a b=true
 |_,_,_,_,.nil,i,j,p,q,_,hi,_,_,_=>by simp at hi
 |_,_,m,h,.cons n1 n2 i1 f1 u1 g1 rest,i,j,p,q,Ai,hi,hj,hc,QK=>by
  cases j with
  |zero=>omega
  |succ j=>
   cases i with
   |zero=>
    simp only[a2Z,a0d]at hi;subst hi;obtain⟨t,mj,Ea,e1,e2,e3,e4,e5,e6⟩:=a6M rest (j:=j) (by simpa using hj);refine⟨_,t,rfl,by simpa using e1,aao n1 e3 n2 (f1.trans e5) i1 e2 hc ?_⟩;refine QK.imp_left fun hq i b hb=>e6 (fun i q hl hi=>hq (i+1) q (by omega) (by omega) (by simpa using hi)) i b (Xq u1 (g1 (hq 0 _ (by omega) (by omega) rfl)) hb)
   |succ i=>
    obtain⟨a,b,e1,e2,e3⟩:=a1D rest (i:=i) (j:=j) (by omega) (by simpa using hi) (by simpa using hj) hc (QK.imp_left fun hq k q h1 h2 hi=>hq (k+1) q (by omega) (by omega) (by simpa using hi));exact⟨a,b,by simpa using e1,by simpa using e2,e3⟩
theorem a6N{ps:List PI}{ts:List mF}{m:List MB}{h:List HB}(hI:IRs m h ps ts):∀{prs:List (Nat×Nat)},(∀q∈prs,q.1<q.2)->UU ps prs=true->BA ts prs=true
 | [],_,_=>rfl
 |(i,j)::r,aT,hd=>by
  simp only[UU,a2O]at hd;obtain⟨h1,h2⟩:=hd;split at h1
  .rename_i a b ha hb;simp only[a2O,a9w,a8W]at h1;obtain⟨x,y,e1,e2,e3⟩:=a1D hI (aT _ a3x) ha hb h1.1 (by
    rcases h1.2 with(h3|h3)|h3
    .exact .inr (.inl h3)
    .exact .inr (.inr h3)
    left;intro k q Rz kQ hk;cases hq:q.mv with
    |false=>rfl
    |true=>
     refine absurd (ahq.2 ⟨q,a4X (i:=k-i) ?_,hq⟩) (by rw[h3];simp);rw[a4R,a0F (by omega),a4O,<-hk];congr 1;omega)
   simp only[BA,e1,e2,e3,ae1];exact a6N hI (fun q hq=>aT q (a3y _ hq)) h2
  cases h1
theorem afe{ops:List Oper}:∀q∈mY ops,q.1<q.2:=by intro q hq;unfold mY at hq;have:=(a7t.1 hq).1;unfold oD at this;simp only[aep,a0V,a7t,a4P]at this;obtain⟨j,_,i,⟨hi,_⟩,rfl⟩:=this;exact hi
theorem Td{ts:List mF}(hw:∀t∈ts,t.ws=[]):∀{prs:List (Nat×Nat)},(∀q∈prs,q.1<ts.length∧q.2<ts.length)->BA ts prs=true
 | [],_=>rfl
 |(i,j)::r,hl=>by obtain⟨h1,h2⟩:=hl _ a3x;simp only[BA,a0q h1,a0q h2,a2O];refine⟨?_,Td hw fun q hq=>hl q (a3y _ hq)⟩;simp[calm,NP,hw _ (a4Z h1),hw _ (a4Z h2)]
theorem aff{ops:List Oper}:∀q∈mY ops,q.1<ops.length∧q.2<ops.length:=by intro q hq;unfold mY at hq;have:=(a7t.1 hq).1;unfold oD at this;simp only[aep,a0V,a7t,a4P]at this;obtain⟨j,hj,i,⟨hi,_⟩,rfl⟩:=this;exact⟨by simp only;omega,hj⟩
section
variable {X:kX} {P:LI1} {A W:Nat->Prop} {m m':List MB} {h:List HB}
structure SR(X:kX)(P:LI1)(A W:Nat->Prop)(fl:Nat)(m:List MB)(ps:aU X.Γ)(ts:St):Prop where
 st:vg X P A m ps ts
 own:∀b,b∈bg m->W b∨fl<=b
 ws:∀b,b∈ts.ws->W b
 fl:fl<=ts.heap.length
def N9(B:Nat)(m m1:List MB):Prop:=∀(i:Nat) mb,i<B->m[i]? = some mb->m1[i]? = some mb∨m1[i]? = some .gone
theorem Up.b{B:Nat}{m m1:List MB}(h:Up m m1):N9 B m m1:=fun i mb _ hi=>h i mb hi
theorem N9.trans{B:Nat}{m m1 m2:List MB}(a:N9 B m m1)(b:N9 B m1 m2):N9 B m m2:=fun i mb hB hi=>by
 rcases a i mb hB hi with h|h
 .exact b i mb hB h
 .rcases b i _ hB h with h|h<;>exact .inr h
theorem N9.refl{B:Nat}{m:List MB}:N9 B m m:=fun _ _ _ h=>.inl h
def Dj(X:kX)(P:LI1)(B:Nat)(ps ps1:aU X.Γ):Prop:=
 ∀(A W:Nat->Prop) (fl:Nat) (m:List MB) (ts:St),SR X P A W fl m ps ts->∃m1,SR X P A W fl m1 ps1 ts∧Fr m ts.heap m1 ts.heap∧N9 B m m1
theorem Dj.refl{B:Nat}{ps:aU X.Γ}:Dj X P B ps ps:=fun _ _ _ m _ hS=>⟨m,hS,.refl,.refl⟩
theorem Dj.trans{B:Nat}{a b c:aU X.Γ}(h1:Dj X P B a b)(h2:Dj X P B b c):Dj X P B a c:=fun A W fl m ts hS=>by obtain⟨m1,g1,g2,g3⟩:=h1 A W fl m ts hS;obtain⟨m2,g4,g5,g6⟩:=h2 A W fl m1 ts g1;exact⟨m2,g4,g2.trans g5,g3.trans g6⟩
theorem aap{env:List (Nat×PE X.Γ)}{env':List (Nat×EV)}(he:ku X P A m h env env'):ku X P A m h (a9Z env) env':=by
 induction he with
 |nil=>exact .nil
 |cons h1 _ ih=>
  rename_i k v x r r' _;cases v with
  |val v=>obtain⟨y,rfl,h2⟩:=fQ h1;exact .cons (o8 (Hw h2)) ih
  |_=>exact .cons h1 ih
theorem aaq{t i:Nat}(hi:m[i]? = some (.dF (.nil .aP))):∀{env:List (Nat×PE X.Γ)} {env':List (Nat×EV)} {r:List (Nat×PE X.Γ)},ku X P A m h env env'->G6 t i env=some r->ku X P A m h r env':=by
 intro env env' r he
 induction he generalizing r with
 |nil=>intro h;cases h
 |cons h1 h2 ih=>
  rename_i k v x q q';intro hn;simp only[G6]at hn;split at hn
  .split at hn
   .cases hn;obtain⟨y,rfl,h3⟩:=fQ h1;have:y=.nil .aP:=by
     cases h3 with
     |nil=>rfl
     |gone hi _ _=>simp[bn]at hi
    subst this;exact .cons (o8 (.own hi rfl)) h2
   cases hn
  simp only[a0l]at hn;obtain⟨q2,h3,rfl⟩:=hn;exact .cons h1 (ih h3)
theorem a1E{i off:Nat}(hi:m[i]? = some (.dF (.nil .aP))){cs r:List (PV X.Γ)}{xs:List TV}(hv:bY X P A m h cs xs)(hn:aa0 off i cs=some r):bY X P A m h r xs:=by
 unfold aa0 at hn;split at hn
 .rename_i hc;cases hn;refine⟨by rw[a4Y,hv.1],fun j a b ha hb=>?_⟩;by_cases e:off=j
  .subst e;rw[a4Q,hc]at ha;cases ha;have:b=.nil .aP:=by
    cases hv.2 _ _ _ hc hb with
    |nil=>rfl
    |gone hi _ _=>simp[bn]at hi
   subst this;exact .own hi rfl
  rw[a1B e]at ha;exact hv.2 j a b ha hb
 cases hn
theorem SR.V8{fl:Nat}{ps:aU X.Γ}{ts:St}(hS:SR X P A W fl m ps ts)(e:Nat):∃m1,HR X P A m1 (ps.heap++[.list false false e []]) ts.heap∧Fr m ts.heap m1 ts.heap∧Up m m1∧m1[ps.heap.length]? = some (.dF (.nil .aP))∧(∀b,b∈bg m1->b∈bg m):=by obtain⟨h1,h2,h3⟩:=hS.st.heap.acG (pb:=.list false false e []) (mb:=.dF (.nil .aP)) rfl LR.nil;refine⟨_,h1,h2,h3,by rw[<-hS.st.heap.len];simp,fun b hb=>?_⟩;rw[jh,a3P,kJ]at hb;simpa[MB.own]using hb
theorem a6O(hX:bT X P){H:List (PB X.Γ)}(hr:HR X P A m H h){i:Nat}{v w:PV X.Γ}{x:TV}(hv:VR X P (AA A m) m h v x)(hw:fzV H i v=some w):VR X P (AA A (bV [i] m)) (bV [i] m) h w x:=by
 unfold fzV at hw;split at hw
 .cases hw;exact hv.step (iw (h:=h) [i] m).1 (iw (h:=h) [i] m).2
 split at hw
 .rename_i ha;refine(V5 (m':=bV [i] m) hX hr hv hw (is:=[i]) fun j hj=>?_).mono fun b hb=>FA.gone hr hb;have:=a4W.1 ha j hj;rw[a9p this];exact a1S.2 rfl
 cases hw
theorem a1F(hX:bT X P){H:List (PB X.Γ)}(hr:HR X P A m H h){i:Nat}:∀{v w:List (PV X.Γ)} {x:List TV},bY X P (AA A m) m h v x->a6m H i v=some w->bY X P (AA A (bV [i] m)) (bV [i] m) h w x
 | [],w,x,hv,hw=>by cases hw;rw[hv.inv0];exact .nil
 |v::vs,w,x,hv,hw=>by
  obtain⟨y,r,rfl,h1,h2⟩:=hv.inv;simp only[a6m]at hw;split at hw
  .rename_i w1 ws e1 e2;cases hw;exact .cons (a6O hX hr h1 e1) (a1F hX hr h2 e2)
  cases hw
theorem afg(hX:bT X P){H:List (PB X.Γ)}(hr:HR X P A m H h){i:Nat}{v:List (Nat×PE X.Γ)}{x:List (Nat×EV)}(hv:ku X P (AA A m) m h v x):∀{w:List (Nat×PE X.Γ)},fzE H i v=some w->ku X P (AA A (bV [i] m)) (bV [i] m) h w x:=by
 induction hv with
 |nil=>intro w hw;cases hw;exact .nil
 |cons h1 h2 ih=>
  rename_i k v x q q';intro w hw;cases v with
  |val v=>
   simp only[fzE]at hw;split at hw
   .rename_i w1 ws e1 e2;cases hw;obtain⟨y,rfl,h3⟩:=fQ h1;exact .cons (o8 (a6O hX hr h3 e1)) (ih e2)
   cases hw
  |loc k o=>
   simp only[fzE,a0l]at hw;obtain⟨ws,e2,rfl⟩:=hw;exact .cons (by cases x<;>exact h1) (ih e2)
  |undef=>
   simp only[fzE,a0l]at hw;obtain⟨ws,e2,rfl⟩:=hw;exact .cons (by cases x<;>exact h1) (ih e2)
  |ent|EI=>simp[fzE]at hw
theorem a1G{Γ:Nat->Type}{H:List (PB Γ)}{i:Nat}:∀{l r:List (List (PV Γ))},fzL H i l=some r->r.length=l.length∧∀(k:Nat) ds,r[k]? = some ds->∃cs,l[k]? = some cs∧a6m H i cs=some ds
 | [],r,h=>by cases h;exact⟨rfl,fun k ds hk=>by simp at hk⟩
 |c::l,r,h=>by
  simp only[fzL]at h;split at h
  .rename_i w ws e1 e2;cases h;obtain⟨q1,q2⟩:=a1G e2;refine⟨by simp[q1],fun k ds hk=>?_⟩;cases k with
   |zero=>simp at hk;subst hk;exact⟨c,rfl,e1⟩
   |succ k=>exact q2 k ds (by simpa using hk)
  cases h
theorem a6P(hX:bT X P){B:Nat}{g:G}{ps ps1:aU X.Γ}(hg:BH B ps g=some ps1):Dj X P B ps ps1:=by
 intro A W fl m ts hS;cases g with
 |lit=>
  simp only[BH,a0d]at hg;subst hg;exact⟨m,⟨⟨hS.st.heap,hS.st.llen,hS.st.loc,aap hS.st.env⟩,hS.own,hS.ws,hS.fl⟩,.refl,.refl⟩
 |G6 t e=>
  simp only[BH,a0l]at hg;obtain⟨env,h1,rfl⟩:=hg;obtain⟨m1,e1,e2,e3,e4,e5⟩:=hS.V8 e;exact⟨m1,⟨⟨e1,hS.st.llen,fun k cs hk=>let ⟨cs',q1,q2⟩:=hS.st.loc k cs hk;⟨cs',q1,q2.step e2 e3⟩,aaq e4 (hS.st.env.step e2 e3) h1⟩,fun b hb=>hS.own b (e5 b hb),hS.ws,hS.fl⟩,e2,e3.b⟩
 |a3o k off e=>
  simp only[BH]at hg;split at hg
  .rename_i cs hk;simp only[a0l]at hg;obtain⟨SQ,h1,rfl⟩:=hg;obtain⟨m1,e1,e2,e3,e4,e5⟩:=hS.V8 e;refine⟨m1,⟨⟨e1,by simp[hS.st.llen],fun j ds hj=>?_,hS.st.env.step e2 e3⟩,fun b hb=>hS.own b (e5 b hb),hS.ws,hS.fl⟩,e2,e3.b⟩;by_cases e0:k=j
   .subst e0;rw[a4Q,hk]at hj;cases hj;obtain⟨cs',q1,q2⟩:=hS.st.loc k cs hk;exact⟨cs',q1,a1E e4 (q2.step e2 e3) h1⟩
   rw[a1B e0]at hj;obtain⟨cs',q1,q2⟩:=hS.st.loc j ds hj;exact⟨cs',q1,q2.step e2 e3⟩
  cases hg
 |UQ i off e=>
  simp only[BH]at hg;split at hg
  rotate_left
  .cases hg
  rename_i cs hi;simp only[a0l]at hg;obtain⟨SQ,h1,rfl⟩:=hg;obtain⟨m1,e1,e2,e3,e4,e5⟩:=hS.V8 e;have aT:i<ps.heap.length:=(a0h.1 hi).1;have wK:HR X P A m1 (ps.heap.set i (.cells SQ)++[.list false false e []]) ts.heap:=by
   refine e1.next .refl .refl (by simp[e1.len]) e1.nodup fun j b hj=>?_;by_cases e0:i=j
   .subst e0;right;rw[a0C (by simpa using aT),a4Q,hi]at hj;cases hj;obtain⟨mb,q1,q2⟩:=e1.at_ i (.cells cs) (by rw[a0C aT];exact hi);refine⟨mb,q1,?_⟩;cases mb with
    |gq c=>obtain⟨xs,q3,q4⟩:=q2;exact⟨xs,q3,a1E e4 q4 h1⟩
    |_=>exact q2.elim
   left;have:(ps.heap++[PB.list false false e []])[j]? = some b:=by
    rw[<-hj];rcases a4N j ps.heap.length with h9|h9
    .rw[a0C h9,a0C (by simpa using h9),a1B e0]
    rw[a0T h9,a0T (by simpa using h9),a4Y]
   obtain⟨mb,q1,_⟩:=e1.at_ j b this;exact⟨mb,this,q1,q1,fun _ _=>rfl⟩
  exact⟨m1,⟨⟨wK,hS.st.llen,fun k cs hk=>let ⟨cs',q1,q2⟩:=hS.st.loc k cs hk;⟨cs',q1,q2.step e2 e3⟩,hS.st.env.step e2 e3⟩,fun b hb=>hS.own b (e5 b hb),hS.ws,hS.fl⟩,e2,e3.b⟩
 |flag i=>
  simp only[BH]at hg;split at hg
  rotate_left
  .cases hg
  rename_i k ex t l hi;cases hg;have hr:=hS.st.heap;refine⟨m,⟨⟨?_,hS.st.llen,hS.st.loc,hS.st.env⟩,hS.own,hS.ws,hS.fl⟩,.refl,.refl⟩;refine hr.next .refl .refl (by simp[hr.len]) hr.nodup fun j b hj=>?_;by_cases e0:i=j
  .subst e0;right;rw[a4Q,hi]at hj;cases hj;obtain⟨mb,q1,q2⟩:=hr.at_ i _ hi;refine⟨mb,q1,?_⟩;cases mb with
   |dF y=>
    cases(q2:LR X P _ _ _ _ _ _ _ y)with
    |nil=>exact LR.nil
    |emp p0 p1 p2 p3 p4=>exact LR.emp p0 p1 p2 p3 p4
    |some p1 p2 p3 p4 p5 p6 p7 p8 p9=>exact LR.some p1 p2 p3 p4 p5 (by simp) (by simp) p8 p9
   |_=>exact q2.elim
  left;rw[a1B e0]at hj;obtain⟨mb,q1,_⟩:=hr.at_ j b hj;exact⟨mb,hj,q1,q1,fun _ _=>rfl⟩
 |gc ks=>
  simp only[BH]at hg;split at hg
  rotate_left
  .cases hg
  rename_i hc;simp only[a2O,a1z,a4W]at hc;obtain⟨⟨EZ,jH⟩,hB⟩:=hc;split at hg
  rotate_left
  .cases hg
  rename_i env loc b1 b2 h1 h2 h3 h4;split at hg
  rotate_left
  .cases hg
  rename_i b3 h5;cases hg;have hr:=hS.st.heap;have hp:=Eo h4;have aoT:∀k∈ks,k<m.length:=fun k hk=>by obtain⟨i,hi⟩:=a8X hk;obtain⟨b,q1,_⟩:=hp.2 hi;rw[hr.len];exact(a0h.1 q1).1
  have hBm:B<=m.length:=by rw[hr.len];exact hB
  let m1:List MB:=m.take B++ks.map fun k=>m.getD k .gone
  have afh:(m.take B).length=B:=by rw[a4C];omega
  have H6:∀i,i<B->m1[i]? = m[i]?:=fun i hi=>by show(m.take B++_)[i]? = _;rw[a0C (by omega),a4R,a0F hi]
  have hhi:∀p k,ks[p]? = some k->m1[p+B]? = m[k]?:=fun p k hp=>by show(m.take B++_)[p+B]? = _;rw[a0T (by omega),afh,Nat.add_sub_cancel,a4T,hp];have:=aoT k (a4X hp);simp[a3s,this]
  have hg:∀i j,(fun i=>if i<B then some i else(wM ks i).map (·+B)) i=some j->m1[j]? = m[i]?:=fun i j Ai=>by
   simp only at Ai;split at Ai
   .rename_i hi;cases Ai;exact H6 i hi
   simp only[a0l]at Ai;obtain⟨p,hp,rfl⟩:=Ai;exact hhi p i (OX hp)
  have hold:∀j mb,m1[j]? = some mb->∃i,m[i]? = some mb∧((j<B∧i=j)∨∃p,j=p+B∧ks[p]? = some i):=fun j mb hj=>by
   rcases a4N j B with aT|EW
   .exact⟨j,by rw[<-H6 j aT];exact hj,.inl ⟨aT,rfl⟩⟩
   have sF:j-B<ks.length:=by
    have:=(a0h.1 hj).1;have h9:m1.length=B+ks.length:=by show(m.take B++_).length=_;rw[a1U,afh,a4S]
    omega
   have hp:=a0q sF;have hh:=hhi (j-B) _ hp;rw[show j-B+B=j by omega,hj]at hh;exact⟨_,hh.symm,.inr ⟨j-B,by omega,hp⟩⟩
  have zk:∀b,b∈bg m1->b∈bg m:=fun b hb=>by obtain⟨j,mb,q1,q2⟩:=kL hb;obtain⟨i,q3,_⟩:=hold j mb q1;exact bf q3 q2
  have hA:∀b,AA A m b->AA A m1 b:=fun b hb=>⟨hb.1,fun hm=>hb.2 (zk b hm)⟩;have afi:(bg m1).Nodup:=jI fun i j c q1 q2=>by
   obtain⟨ma,a1,a2⟩:=q1;obtain⟨mc,c1,c2⟩:=q2;obtain⟨i',a3,a4⟩:=hold i ma a1;obtain⟨j',c3,c4⟩:=hold j mc c1;have e:=jc hr.nodup a3 c3 a2 c2;subst e;rcases a4 with⟨a5,a6⟩|⟨p,a5,a6⟩<;>rcases c4 with⟨c5,c6⟩|⟨q,c5,c6⟩
   .omega
   .have:=EZ _ (a4X c6);omega
   .have:=EZ _ (a4X a6);omega
   have Gt:=(a0h.1 a6).1;have:p=q:=(List.getElem?_inj Gt jH).1 (by rw[a6,c6]);omega
  have hFr:Fr m ts.heap m1 ts.heap:=⟨a0P _,fun _ _ _=>rfl,fun b hb=>.inl (zk b hb),fun b cs hc=>⟨cs,hc,a0P _⟩⟩;have CU:=tJ h3;have hb3:=tJ h5;have RF:=OZ h2;refine⟨m1,⟨⟨⟨?_,fun j b hj=>?_,afi,hr.up,fun b hb=>hr.Df b (zk b hb)⟩,by rw[RF.1];exact hS.st.llen,fun k cs hk=>?_,OY hX hg hA hS.st.env h1⟩,fun b hb=>hS.own b (zk b hb),hS.ws,hS.fl⟩,hFr,fun i mb hi hm=>.inl (by rw[H6 i hi];exact hm)⟩
  .show(m.take B++_).length=_;rw[a1U,a1U,a4S,CU.1,hb3.1,hp.1,afh,a4C];omega
  .have a1a:b1.length=B:=by rw[CU.1,a4C];omega
   rcases a4N j B with aT|EW
   .rw[a0C (by omega)]at hj;obtain⟨b0,q1,q2⟩:=CU.2 hj;rw[a4R,a0F aT]at q1;obtain⟨mb,q3,q4⟩:=hr.at_ j b0 q1;exact⟨mb,by rw[H6 j aT];exact q3,En hX hg hA (fun c _ h9 h8=>h9 (zk c h8)) q4 q2⟩
   rw[a0T (by omega),a1a]at hj;obtain⟨b0,q1,q2⟩:=hb3.2 hj;have sF:j-B<ks.length:=by rw[<-hp.1];exact(a0h.1 q1).1
   obtain⟨b9,q5,q6⟩:=hp.2 (a0q sF);rw[q1]at q6;cases q6;obtain⟨mb,q3,q4⟩:=hr.at_ _ _ q5;refine⟨mb,?_,En hX hg hA (fun c _ h9 h8=>h9 (zk c h8)) q4 q2⟩;have:=hhi (j-B) _ (a0q sF);rw[show j-B+B=j by omega]at this;rw[this];exact q3
  obtain⟨cs0,q1,q2⟩:=RF.2 hk;obtain⟨cs',q3,q4⟩:=hS.st.loc k cs0 q1;exact⟨cs',q3,zG hX hg hA q4 q2⟩
 |fz i=>
  simp only[BH]at hg;split at hg
  .rename_i env loc e1 e2;cases hg;have hr:=hS.st.heap;have hF:=iw (h:=ts.heap) [i] m;obtain⟨q1,q2⟩:=a1G e2;refine⟨bV [i] m,⟨⟨hr.aY [i],by rw[q1];exact hS.st.llen,fun k ds hk=>?_,afg hX hr hS.st.env e1⟩,fun b hb=>?_,hS.ws,hS.fl⟩,hF.1,hF.2.b⟩
   .obtain⟨cs,h1,h2⟩:=q2 k ds hk;obtain⟨cs',h3,h4⟩:=hS.st.loc k cs h1;exact⟨cs',h3,a1F hX hr h4 h2⟩
   obtain⟨j,mb,_,h2,h3⟩:=AB hb;exact hS.own b (bf h2 h3)
  cases hg
 |mv i=>
  simp only[BH]at hg;split at hg
  rotate_left
  .cases hg
  rename_i b0 hi;split at hg
  rotate_left
  .cases hg
  rename_i env loc b1 b2 h1 h2 h3 h4;cases hg;have hr:=hS.st.heap;have aT:i<ps.heap.length:=(a0h.1 hi).1;obtain⟨mi,mi1,mi2⟩:=hr.at_ i b0 hi
  let m1:List MB:=m.set i .gone++[mi]
  have qO:(m.set i .gone).length=ps.heap.length:=by rw[a4Y,hr.len]
  have H6:∀j,j<ps.heap.length->j≠i->m1[j]? = m[j]?:=fun j hj hn=>by show(m.set i .gone++[mi])[j]? = _;rw[a0C (by omega),a1B (fun e=>hn e.symm)]
  have IY:m1[i]? = some .gone:=by show(m.set i .gone++[mi])[i]? = _;rw[a0C (by omega),a4Q,mi1];rfl
  have hhi:m1[ps.heap.length]? = some mi:=by show(m.set i .gone++[mi])[ps.heap.length]? = _;rw[a0T (by omega),qO,ahv];rfl
  have hg:∀a b,(fun j=>if j=i then some ps.heap.length else if j<ps.heap.length then some j else none) a=some b->m1[b]? = m[a]?:=fun a b hab=>by
   simp only at hab;split at hab
   .rename_i e;subst e;cases hab;rw[hhi,mi1]
   split at hab
   .rename_i e1 e2;cases hab;exact H6 a e2 e1
   cases hab
  have hold:∀j mb,m1[j]? = some mb->mb=.gone∨∃k,m[k]? = some mb∧((j<ps.heap.length∧k=j∧j≠i)∨(j=ps.heap.length∧k=i)):=fun j mb hj=>by
   have sF:j<ps.heap.length+1:=by
    have:=(a0h.1 hj).1;have h9:m1.length=ps.heap.length+1:=by show(m.set i .gone++[mi]).length=_;rw[a1U,qO];rfl
    omega
   by_cases e:j=i
   .subst e;rw[IY]at hj;cases hj;exact .inl rfl
   rcases a4N j ps.heap.length with h5|h5
   .exact .inr ⟨j,by rw[<-H6 j h5 e];exact hj,.inl ⟨h5,rfl,e⟩⟩
   have:j=ps.heap.length:=(by omega);subst this;rw[hhi]at hj;cases hj;exact .inr ⟨i,mi1,.inr ⟨rfl,rfl⟩⟩
  have zk:∀b,b∈bg m1->b∈bg m:=fun b hb=>by
   obtain⟨j,mb,q1,q2⟩:=kL hb;rcases hold j mb q1 with rfl|⟨k,q3,_⟩
   .cases q2
   exact bf q3 q2
  have hA:∀b,AA A m b->AA A m1 b:=fun b hb=>⟨hb.1,fun hm=>hb.2 (zk b hm)⟩;have afi:(bg m1).Nodup:=jI fun j k c q1 q2=>by
   obtain⟨ma,a1,a2⟩:=q1;obtain⟨mc,c1,c2⟩:=q2;rcases hold j ma a1 with rfl|⟨j',a3,a4⟩
   .cases a2
   rcases hold k mc c1 with rfl|⟨k',c3,c4⟩
   .cases c2
   have e:=jc hr.nodup a3 c3 a2 c2;subst e;rcases a4 with⟨a5,a6,a7⟩|⟨a5,a6⟩<;>rcases c4 with⟨c5,c6,c7⟩|⟨c5,c6⟩<;>omega
  have hFr:Fr m ts.heap m1 ts.heap:=⟨a0P _,fun _ _ _=>rfl,fun b hb=>.inl (zk b hb),fun b cs hc=>⟨cs,hc,a0P _⟩⟩;have CU:=tJ h3;have RF:=OZ h2;have aj7:b1.length=ps.heap.length:=by rw[CU.1,a4Y]
  refine⟨m1,⟨⟨⟨?_,fun j b hj=>?_,afi,hr.up,fun b hb=>hr.Df b (zk b hb)⟩,by rw[RF.1];exact hS.st.llen,fun k cs hk=>?_,OY hX hg hA hS.st.env h1⟩,fun b hb=>hS.own b (zk b hb),hS.ws,hS.fl⟩,hFr,fun j mb _ hj=>?_⟩
  .show(m.set i .gone++[mi]).length=_;rw[a1U,a1U,qO,aj7];rfl
  .rcases a4N j ps.heap.length with h5|h5
   .rw[a0C (by omega)]at hj;obtain⟨b9,q1,q2⟩:=CU.2 hj;by_cases e:j=i
    .subst e;rw[a4Q,hi]at q1;cases q1;have q2:some (PB.gone (Γ:=X.Γ))=some b:=q2;cases q2;exact⟨.gone,IY,trivial⟩
    rw[a1B (fun e2=>e e2.symm)]at q1;obtain⟨mb,q3,q4⟩:=hr.at_ j b9 q1;exact⟨mb,by rw[H6 j h5 e];exact q3,En hX hg hA (fun c _ h9 h8=>h9 (zk c h8)) q4 q2⟩
   rw[a0T (by omega),aj7]at hj;have:j-ps.heap.length=0:=by have:=(a0h.1 hj).1;simp at this;omega
   rw[this]at hj;cases hj;refine⟨mi,?_,En hX hg hA (fun c _ h9 h8=>h9 (zk c h8)) mi2 h4⟩;rw[show j=ps.heap.length by omega];exact hhi
  .obtain⟨cs0,q1,q2⟩:=RF.2 hk;obtain⟨cs',q3,q4⟩:=hS.st.loc k cs0 q1;exact⟨cs',q3,zG hX hg hA q4 q2⟩
  by_cases e:j=i
  .subst e;exact .inr IY
  have:j<ps.heap.length:=by rw[<-hr.len];exact(a0h.1 hj).1
  exact .inl (by rw[H6 j this e];exact hj)
theorem nC(hX:bT X P){B:Nat}:∀{gs:List G} {ps ps1:aU X.Γ},lJ B gs ps=some ps1->Dj X P B ps ps1
 | [],ps,ps1,h=>by simp only[lJ,a0d]at h;subst h;exact .refl
 |g::gs,ps,ps1,h=>by
  simp only[lJ]at h;split at h
  .rename_i s hs;exact(a6P hX hs).trans (nC hX h)
  cases h
end
section
variable {X:kX} {P:LI1} {T:qM} {A W:Nat->Prop} {m m':List MB}
variable {call:aZ} {fO:eY X.Γ} {ρ:Type} {y:ρ}
theorem SR.BP{fl:Nat}{ps:aU X.Γ}{ts:St}(hS:SR X P A W fl m ps ts){x:Operand}{b:Bool}(hb:qQ ts.env x=some (.bool b)):SR X P A W fl m (ps.BP x b) ts:=⟨hS.st.BP hb,hS.own,hS.ws,hS.fl⟩
theorem vg.put{ps:aU X.Γ}{ts:St}(hR:vg X P A m ps ts){d:Option Nat}{pe:PE X.Γ}{ev:EV}(h:J3 X P (AA A m) m ts.heap pe ev):vg X P A m (ps.put d pe) (ts.put d ev):=by
 cases d with
 |none=>exact hR
 |some d=>exact⟨hR.heap,hR.llen,hR.loc,.cons h hR.env⟩
theorem zH{ts:St}{d:Option Nat}{ev:EV}:(ts.put d ev).heap=ts.heap∧(ts.put d ev).ws=ts.ws:=by cases d<;>exact⟨rfl,rfl⟩
theorem Xr{H:List (PB X.Γ)}{h:List HB}(hr:HR X P A m H h){i:Nat}{b:PB X.Γ}(hb:H[i]? = some b):rH b=true↔m[i]? = some .gone:=by
 obtain⟨mb,h1,h2⟩:=hr.at_ i b hb;cases b with
 |gone=>
  cases mb with
  |gone=>exact⟨fun _=>h1,fun _=>rfl⟩
  |_=>exact h2.elim
 |cells cs=>cases mb with
  |gone=>exact h2.elim
  |_=>simp[rH,h1]
 |aF cs=>cases mb with
  |gone=>exact h2.elim
  |_=>simp[rH,h1]
 |list k ex t l=>cases mb with
  |gone=>exact h2.elim
  |_=>simp[rH,h1]
 |map es=>cases mb with
  |gone=>exact h2.elim
  |_=>simp[rH,h1]
 |mark=>cases mb with
  |gone=>exact h2.elim
  |_=>simp[rH,h1]
 |ny=>cases mb with
  |gone=>exact h2.elim
  |_=>simp[rH,h1]
 |iG=>cases mb with
  |gone=>exact h2.elim
  |_=>simp[rH,h1]
 |dn=>cases mb with
  |gone=>exact h2.elim
  |_=>simp[rH,h1]
 |loop=>cases mb with
  |gone=>exact h2.elim
  |_=>simp[rH,h1]
theorem KX:∀{H H1:List (PB X.Γ)},zF H H1=true->∀{i:Nat} {b:PB X.Γ},H[i]? = some b->∃b1,H1[i]? = some b1∧rH b=rH b1
 | [],H1,_,i,b,hi=>by simp at hi
 |a::H,[],h,i,b,hi=>by simp[zF]at h
 |a::H,a1::H1,h,i,b,hi=>by
  simp only[zF,a2O,a7g]at h;cases i with
  |zero=>simp only[a2Z,a0d]at hi;subst hi;exact⟨a1,rfl,h.1⟩
  |succ i=>obtain⟨b1,e1,e2⟩:=KX h.2 (i:=i) (by simpa using hi);exact⟨b1,by simpa using e1,e2⟩
theorem afj{H H1:List (PB X.Γ)}{h h1:List HB}{m1:List MB}(hr:HR X P A m H h)(hr1:HR X P A m1 H1 h1)(hs:(!zF H H1)=false):∀(i:Nat),i<m.length->m1[i]? = some .gone->m[i]? = some .gone:=by
 intro i hi hg;have xI:i<H.length:=by rw[<-hr.len];exact hi
 have hb:=a0q xI;obtain⟨b1,e1,e2⟩:=KX (by simpa using hs) hb;have:=(Xr hr1 e1).2 hg;rw[<-e2]at this;exact(Xr hr hb).1 this
theorem MF{fl:Nat}{ops:Array Oper}{ps:aU X.Γ}{ts:St}(hS:SR X P A W fl m ps ts){o:Oper}{an:PT X.Γ}{k:Bool->aU X.Γ->PT X.Γ->OT ρ}(hk:(ZL X ops ps o an k).Ends y) :
  ∃w ps1 Ia,CP ops ts.env o=some w∧SR X P A W fl m ps1 ts∧(k w ps1 Ia).Ends y∧ps1.heap=ps.heap:=by
 unfold ZL at hk;unfold CP;split at hk
 .rename_i hg;exact⟨true,ps,an,by simp only[hg],hS,hk,rfl⟩
 .rename_i j want hg;simp only[hg];split at hk
  .rename_i d hd;simp only[hd];split at hk
   .rename_i b hb;obtain⟨ev,h1,h2⟩:=oN hS.st.env hb;obtain⟨tv,rfl,h3⟩:=fQ h2;obtain⟨t,Ia,rfl,hk⟩:=ZU hk h3;exact⟨t==want,_,Ia,by simp only[h1],hS.BP (x:=.tmp d) (by simp only[qQ,IV,h1]),hk,rfl⟩
   .rename_i hb;obtain⟨ev,h1,h2⟩:=oN hS.st.env hb;have:=Jp h2;subst this;exact⟨false,ps,an,by simp only[h1],hS,hk,rfl⟩
   .exact hk.elim
  .exact hk.elim
theorem a02(hX:bT X P)(hO:jK X P call fO){site:Nat->Bool}{fl nt:Nat}{ops:Array Oper}:∀{os:List Oper} {m:List MB} {ps:aU X.Γ} {ts:St} {an:PT X.Γ} {k:aU X.Γ->List PI->PT X.Γ->OT ρ},SR X P A W fl m ps ts->(Xb X P fO (dG X P call) site nt ops os ps an k).Ends y ->
  ∃iK is pis ps1 Ia m1,lD P call site fl nt ops os ts=some (iK,is)∧(k ps1 pis Ia).Ends y∧SR X P A W fl m1 ps1 iK∧Fr m ts.heap m1 iK.heap∧Up m m1∧IRs m ts.heap pis is∧is.length=os.length
 | [],m,ps,ts,an,k,hS,hk=>⟨ts,[],[],ps,an,m,rfl,hk,hS,.refl,.refl,.nil,rfl⟩
 |o::os,m,ps,ts,an,k,hS,hk=>by
  simp only[Xb]at hk;split at hk
  .exact hk.elim
  .rename_i hd;obtain⟨w,ps1,LJ,hw,hS1,hk,hh⟩:=MF hS hk;cases w with
   |true=>
    simp only at hk;obtain⟨pe,CS,pi,an2,⟨ev,ts2,ti,m2,e1,e2,e3,e4,e5,e6,e7,e8,e9⟩,hk⟩:=af9 hX hO hS1.st hk;have hS2:SR X P A W fl m2 (CS.put o.dst pe) (({ ts2 with ws:=kD fl ti.ws ts.ws }).put o.dst ev):=by
     refine⟨vg.put (ts:={ ts2 with ws:=kD fl ti.ws ts.ws }) ⟨e4.heap,e4.llen,e4.loc,e4.env⟩ e5,fun b hb=>?_,fun b hb=>?_,?_⟩
     .rcases e6.new b hb with h1|h1
      .exact hS.own b h1
      .exact .inr (a5x hS.fl h1)
     .rw[zH.2]at hb;rcases vX hb with h1|⟨h1,h2⟩
      .exact hS.ws b h1
      .rcases hS.own b (e9 b h1)with h3|h3
       .exact h3
       .omega
     .rw[zH.1];exact a5x hS.fl e6.len
    obtain⟨ts3,is,pis,ps3,an3,m3,g1,g2,g3,g4,g5,g6,g7⟩:=a02 hX hO (os:=os) hS2 hk;rw[zH.1]at g4 g6;refine⟨ts3,ti::is,_,ps3,an3,m3,?_,g2,g3,e6.trans g4,e7.trans g5,.cons hS.st.heap.nodup (fun b hb=>hS.st.heap.inb hb) ⟨e8.all,e8.tl,e8.wl,e8.wh,e8.th,e8.hp⟩ e6 e7 (afj hS1.st.heap e4.heap) g6,by simp[g7]⟩;simp only[lD,hd,hw,e1,g1];rfl
   |false=>
    simp only at hk;have hS2:SR X P A W fl m (ps1.put o.dst .undef) (ts.put o.dst .undef):=by
     refine⟨hS1.st.put trivial,hS.own,fun b hb=>?_,?_⟩
     .rw[zH.2]at hb;exact hS.ws b hb
     .rw[zH.1];exact hS.fl
    obtain⟨ts3,is,pis,ps3,an3,m3,g1,g2,g3,g4,g5,g6,g7⟩:=a02 hX hO (os:=os) hS2 hk;rw[zH.1]at g4 g6;refine⟨ts3,cZ::is,_,ps3,an3,m3,?_,g2,g3,g4,g5,.cons hS.st.heap.nodup (fun b hb=>hS.st.heap.inb hb) .none .refl .refl (fun _ i _ hg=>hg) g6,by simp[g7]⟩;simp only[lD,hd,hw,g1];rfl
def dR(X:kX)(P:LI1)(T:qM)(call:aZ)(L f:Nat)(gW:Bool)(nt B:Nat)(c:Code)(ps:aU X.Γ)(e:Ex)(ps1:aU X.Γ):Prop:=
 ∀(A W:Nat->Prop) (fl:Nat) (m:List MB) (ts:St),SR X P A W fl m ps ts->∃iK m1,exec P T call L f gW fl nt c ts=some (e,iK)∧SR X P A W fl m1 ps1 iK∧Fr m ts.heap m1 iK.heap∧N9 B m m1
theorem vg.pick{ps:aU X.Γ}{ts:St}(hR:vg X P A m ps ts)(live:List Nat):vg X P A m { ps with env:=jm live ps.env } { ts with env:=Tw.pick live ts.env }:=
 ⟨hR.heap,hR.llen,hR.loc,V4 hR.env live⟩
theorem SR.pick{fl:Nat}{ps:aU X.Γ}{ts:St}(hS:SR X P A W fl m ps ts)(live:List Nat):SR X P A W fl m { ps with env:=jm live ps.env } { ts with env:=Tw.pick live ts.env }:=⟨hS.st.pick live,hS.own,hS.ws,hS.fl⟩
theorem SR.head{fl:Nat}{ps:aU X.Γ}{ts:St}(hS:SR X P A W fl m ps ts)(live:List Nat):SR X P A W fl m (gU X live ps) (kE live ts):=by
 have h1:=hS.pick live;have ht:=aeS h1.st.env;refine⟨⟨h1.st.heap,?_,fun k cs hk=>?_,h1.st.env⟩,h1.own,h1.ws,h1.fl⟩
 .simp only[gU,kE,a4C];have:=h1.st.llen;simp only at this ht;omega
 simp only[gU,kE]at hk ⊢;rw[a4R]at hk;split at hk
 .rename_i aT;obtain⟨cs',g1,g2⟩:=h1.st.loc k cs hk;refine⟨cs',?_,g2⟩;rw[a4R,a0F (by simp only at ht;omega)];exact g1
 cases hk
theorem V9{g:St->Option (Ex×St)}:∀{k j:Nat} {s:St} {r:Ex×St},iter g k s=some r->k<=j->iter g j s=some r
 | 0,_,s,r,h,_=>by simp[iter]at h
 |k+1,j,s,r,h,hj=>by
  obtain⟨j,rfl⟩:∃i,j=i+1:=⟨j-1,by omega⟩;simp only[iter]at h ⊢;split at h
  .rename_i s1 hs;exact V9 h (by omega)
  rename_i hn;exact h
section
variable {L f:Nat} {gW:Bool} {nt B:Nat}
theorem MI(hX:bT X P){c:Code}{A W:Nat->Prop}{fl:Nat}{m:List MB}{ps:aU X.Γ}{ts:St}{k:Ex->aU X.Γ->PT X.Γ->OT ρ}(hS:SR X P A W fl m ps ts):∀{an:PT X.Γ},(yR X (dR X P T call L f gW nt B) B c ps k an).Ends y ->
  ∃e iK ps1 Ia m1,exec P T call L f gW fl nt c ts=some (e,iK)∧(k e ps1 Ia).Ends y∧SR X P A W fl m1 ps1 iK∧Fr m ts.heap m1 iK.heap∧N9 B m m1:=by
 intro an
 induction an with
 |a x r=>
  intro hk;cases x with
  |loop e s'=>
   simp only[yR]at hk;obtain⟨H6,hk⟩:=hk;obtain⟨iK,m1,h1,h2,h3,h4⟩:=H6 A W fl m ts hS;exact⟨_,iK,_,_,m1,h1,hk,h2,h3,h4⟩
  |lg gs e s'=>
   simp only[yR]at hk;split at hk
   .rename_i hgs;obtain⟨H6,hk⟩:=hk;obtain⟨m0,e1,e2,e3⟩:=nC hX hgs A W fl m ts hS;obtain⟨iK,m1,h1,h2,h3,h4⟩:=H6 A W fl m0 ts e1;exact⟨_,iK,_,_,m1,h1,hk,h2,e2.trans h3,e3.trans h4⟩
   .exact hk.elim
  |_=>simp only[yR]at hk;exact hk.elim
 |z c' a b iha ihb=>
  intro hk;simp only[yR]at hk;rcases hk with⟨_,hk⟩|⟨_,hk⟩
  .exact iha hk
  .exact ihb hk
 |_=>intro hk;simp only[yR]at hk;exact hk.elim
theorem vS(hX:bT X P)(hO:jK X P call fO):∀(c:Code) {A W:Nat->Prop} {fl:Nat} {m:List MB} {ps:aU X.Γ} {ts:St} {an:PT X.Γ} {k:Ex->aU X.Γ->PT X.Γ->OT ρ},SR X P A W fl m ps ts->(jT X P T fO (dG X P call) (dR X P T call L f gW nt B) B L f gW nt c ps an k).Ends y ->
  ∃e iK ps1 Ia m1,exec P T call L f gW fl nt c ts=some (e,iK)∧(k e ps1 Ia).Ends y∧SR X P A W fl m1 ps1 iK∧Fr m ts.heap m1 iK.heap∧N9 B m m1:=by
 intro c
 induction c with
 |skip=>intro A W fl m ps ts an k hS hk;exact⟨.norm,ts,ps,an,m,rfl,hk,hS,.refl,.refl⟩
 |label=>intro A W fl m ps ts an k hS hk;exact⟨.norm,ts,ps,an,m,rfl,hk,hS,.refl,.refl⟩
 |exit id=>intro A W fl m ps ts an k hS hk;exact⟨.exit id,ts,ps,an,m,rfl,hk,hS,.refl,.refl⟩
 |ret=>intro A W fl m ps ts an k hS hk;exact⟨.ret,ts,ps,an,m,rfl,hk,hS,.refl,.refl⟩
 |region id ops draw=>
  intro A W fl m ps ts an k hS hk;simp only[jT]at hk;obtain⟨iK,is,pis,ps1,LJ,m1,g1,hk,g3,g4,g5,g6,g7⟩:=a02 hX hO hS hk;have fin:∀{an2:PT X.Γ},(!draw||(nT ops.toList&&BA is (mY ops.toList)))=true->(k .norm { ps1 with env:=jm (T.iy f id) ps1.env } an2).Ends y->∃e iK ps1 Ia m1,exec P T call L f gW fl nt (.region id ops draw) ts=some (e,iK)∧(k e ps1 Ia).Ends y∧SR X P A W fl m1 ps1 iK∧Fr m ts.heap m1 iK.heap∧N9 B m m1:=by intro an2 hc hk;exact⟨.norm,{ iK with env:=Tw.pick (T.iy f id) iK.env },_,an2,m1,by simp only[exec,g1,hc,a2u],hk,g3.pick _,g4,g5.b⟩
  cases draw with
  |false=>exact fin rfl hk
  |true=>
   simp only at hk;split at hk
   .rename_i r;split at hk
    .rename_i FP;obtain⟨uX,hk⟩:=hk;refine fin ?_ hk;rw[uX];simp only[a9t,ah7,ae1];refine Td (fun t ht=>?_) fun q hq=>by rw[g7];exact aff q hq
     have key:∀{ps:List PI} {ts:List mF} {m:List MB} {h:List HB},IRs m h ps ts->(ps.all fun i=>i.i.ws.isEmpty&&!i.wall)=true->∀t∈ts,t.ws=[]:=by
      intro ps ts m h hI
      induction hI with
      |nil=>intro _ t ht;cases ht
      |cons _ _ i1 _ _ _ _ ih=>
       intro ha t ht;simp only[aco,a2O,List.isEmpty_iff,a8W]at ha;rcases a1Y.1 ht with rfl|ht
       .refine a5D.2 fun x hx=>?_;cases x with
        |l j=>have:=i1.wl j hx;rw[ha.1.1]at this;cases this
        |h b=>
         rcases i1.wh b hx with⟨i,h1,_⟩|⟨h1,_⟩
         .rw[ha.1.1]at h1;cases h1
         .rw[ha.1.2]at h1;cases h1
       .exact ih ha.2 t ht
     exact key g6 FP t ht
    .exact hk.elim
   .split at hk
    .rename_i hc;simp only[a2O]at hc;refine fin ?_ hk;rw[hc.1,a6N g6 afe hc.2];rfl
    .exact hk.elim
 |seq a b iha ihb=>
  intro A W fl m ps ts an k hS hk;simp only[jT]at hk;obtain⟨e,iK,ps1,LJ,m1,h1,hk,h3,h4,h5⟩:=iha hS hk;cases e with
  |norm=>
   obtain⟨e2,ts2,CS,an2,m2,g1,g2,g3,g4,g5⟩:=ihb h3 hk;exact⟨e2,ts2,CS,an2,m2,by simp only[exec,h1,g1],g2,g3,h4.trans g4,h5.trans g5⟩
  |exit id=>exact⟨_,iK,ps1,LJ,m1,by simp only[exec,h1],hk,h3,h4,h5⟩
  |ret=>exact⟨_,iK,ps1,LJ,m1,by simp only[exec,h1],hk,h3,h4,h5⟩
 |cond c a b iha ihb=>
  intro A W fl m ps ts an k hS hk;simp only[jT]at hk;split at hk
  .rename_i u hu;obtain⟨tu,h1,h2⟩:=Xe hS.st.env hu;obtain⟨t,Ia,rfl,hk⟩:=ZU hk h2;cases t with
   |true=>
    obtain⟨e,iK,ps1,LJ,m1,g1,g2,g3,g4,g5⟩:=iha (hS.BP h1) hk;exact⟨e,iK,ps1,LJ,m1,by simp only[exec,h1,g1],g2,g3,g4,g5⟩
   |false=>
    obtain⟨e,iK,ps1,LJ,m1,g1,g2,g3,g4,g5⟩:=ihb (hS.BP h1) hk;exact⟨e,iK,ps1,LJ,m1,by simp only[exec,h1,g1],g2,g3,g4,g5⟩
  .exact hk.elim
 |block id b ih=>
  intro A W fl m ps ts an k hS hk;simp only[jT]at hk;obtain⟨e,iK,ps1,LJ,m1,h1,hk,h3,h4,h5⟩:=ih hS hk;cases e with
  |norm=>exact⟨_,iK,ps1,LJ,m1,by simp only[exec,h1],hk,h3,h4,h5⟩
  |ret=>exact⟨_,iK,ps1,LJ,m1,by simp only[exec,h1],hk,h3,h4,h5⟩
  |exit i=>exact⟨_,iK,ps1,LJ,m1,by simp only[exec,h1],hk,h3,h4,h5⟩
 |scope b ih=>
  intro A W fl m ps ts an k hS hk;simp only[jT]at hk;obtain⟨e,iK,ps1,LJ,m1,h1,hk,h3,h4,h5⟩:=ih hS hk;exact⟨e,iK,ps1,LJ,m1,by simp only[exec,h1],hk,h3,h4,h5⟩
 |loop b ih=>
  intro A W fl m ps ts an k hS hk;simp only[jT]at hk;split at hk
  .rename_i j r;obtain⟨hj,hk⟩:=hk;have go:∀(j:Nat) {m:List MB} {ps:aU X.Γ} {ts:St} {an:PT X.Γ},SR X P A W fl m ps ts->(UY X (fun s an k=>jT X P T fO (dG X P call) (dR X P T call L f gW nt B) B L f gW nt b (gU X (T.eX f (dW b)) s) an k) j ps an k).Ends y ->
     ∃e iK ps1 Ia m1,iter (fun s=>exec P T call L f gW fl nt b (kE (T.eX f (dW b)) s)) j ts=some (e,iK)∧(k e ps1 Ia).Ends y∧SR X P A W fl m1 ps1 iK∧Fr m ts.heap m1 iK.heap∧N9 B m m1:=by
    intro j
    induction j with
    |zero=>intro m ps ts an _ hk;exact hk.elim
    |succ j ihj=>
     intro m ps ts an hS hk;simp only[UY]at hk;obtain⟨e,iK,ps1,LJ,m1,h1,hk,h3,h4,h5⟩:=ih (hS.head _) hk;cases e with
     |norm=>
      obtain⟨e2,ts2,CS,an2,m2,g1,g2,g3,g4,g5⟩:=ihj h3 hk;exact⟨e2,ts2,CS,an2,m2,by simp only[iter,h1,g1],g2,g3,h4.trans g4,h5.trans g5⟩
     |exit id=>exact⟨_,iK,ps1,LJ,m1,by simp only[iter,h1],hk,h3,h4,h5⟩
     |ret=>exact⟨_,iK,ps1,LJ,m1,by simp only[iter,h1],hk,h3,h4,h5⟩
   obtain⟨e,iK,ps1,LJ,m1,h1,h2,h3,h4,h5⟩:=go j hS hk;exact⟨e,iK,ps1,LJ,m1,by simp only[exec];exact V9 h1 hj,h2,h3,h4,h5⟩
  .exact MI hX hS hk
 |rangeFunc g qs uT body iha ihb=>
  intro A W fl m ps ts an k hS hk;simp only[jT]at hk;exact MI hX hS hk
 |_=>intro A W fl m ps ts an k hS hk;simp only[jT]at hk;exact hk.elim
end
end
section
variable {X:kX} {P:LI1} {T:qM} {A W:Nat->Prop} {m m':List MB}
variable {call:aZ} {fO:eY X.Γ} {L:Nat}
def Cc(P:LI1)(f:Nat):Nat:=match Uf P f with
 |some t=>t.nt
 |none=>0
abbrev BI(X:kX)(P:LI1)(T:qM)(call:aZ)(L f B:Nat):a1r X.Γ:=dR X P T call L f false (Cc P f) B
theorem Na{A:Nat->Prop}{h:List HB}:∀{k:Nat} {vs:List (PV X.Γ)} {xs:List TV},bY X P A m h vs xs->ku X P A m h (lu X k vs) (nU k xs)
 |k,[],xs,hv=>by rw[hv.inv0];exact .nil
 |k,v::vs,xs,hv=>by obtain⟨x,r,rfl,h1,h2⟩:=hv.inv;exact .cons h1 (Na h2)
theorem Jg(hX:bT X P){ps:aU X.Γ}{ts:St}(hR:vg X P A m ps ts):∀{rs:List ResultVar} {vs:List (PV X.Γ)},Fg X P ps rs=some vs->∃ws,xU P ts rs=some ws∧bY X P (AA A m) m ts.heap vs ws
 | [],vs,h=>by simp only[Fg,a0d]at h;subst h;exact⟨[],rfl,.nil⟩
 |r::rs,vs,h=>by
  simp only[Fg]at h;split at h
  rotate_left
  .cases h
  rename_i v vs' h1 h2;cases h;obtain⟨ws,g1,g2⟩:=Jg hX hR h2;have:∃w,a5g P ts r=some w∧VR X P (AA A m) m ts.heap v w:=by
   unfold aiL at h1;unfold a5g;split at h1
   .rename_i t;split at h1
    .rename_i u hu;cases h1;obtain⟨ev,e1,e2⟩:=oN hR.env hu;obtain⟨w,rfl,e3⟩:=fQ e2;exact⟨w,by simp only[e1],Hw e3⟩
    cases h1
   rename_i a t;split at h1
   .rename_i pa ha;simp only[a0l]at h1;obtain⟨⟨u,i⟩,e1,rfl⟩:=h1;obtain⟨ev,e2,e3⟩:=oN hR.env ha;obtain⟨w,ti,e4,e5,_,_⟩:=GK hX hR e3 e1;exact⟨w,by simp only[e2,e4,a0O],e5⟩
   cases h1
  obtain⟨w,g3,g4⟩:=this;exact⟨w::ws,by simp only[xU,g3,g1],.cons g4 g2⟩
theorem Va{A:Nat->Prop}{h:List HB}{vs:List (PV X.Γ)}{ws:List TV}(hv:bY X P A m h vs ws):VR X P A m h (ZN X vs) (one ws):=by
 match vs,ws,hv with
 | [],ws,hv=>rw[hv.inv0];exact .dJ rfl (by simp)
 | [v],ws,hv=>
  obtain⟨x,r,rfl,h1,h2⟩:=hv.inv;have:=h2.inv0;subst this;exact h1
 |v::u::vs,ws,hv=>
  obtain⟨x,r,rfl,h1,h2⟩:=hv.inv;obtain⟨z,r,rfl,h3,h4⟩:=h2.inv;exact .dJ hv.1 hv.2
theorem a6Q(hX:bT X P)(hO:jK X P call fO){f:Nat}{vs:List (PV X.Γ)}{H:List (PB X.Γ)}{an:PT X.Γ}{v:PV X.Γ}{H1:List (PB X.Γ)}(hk:(D9 X P T fO (dG X P call) (BI X P T call L f H.length) L f vs H an).Ends (v,H1))
  {h:List HB} (hr:HR X P A m H h) {xs:List TV} (hv:bY X P (AA A m) m h vs xs):∃w h1 ws m1,UJ P T call L f xs h=some (w,h1,ws)∧HR X P A m1 H1 h1∧VR X P (AA A m1) m1 h1 v w∧Fr m h m1 h1∧N9 H.length m m1∧(∀b∈ws,b∈bg m)∧¬(T.exts.contains f||T.dem.contains f)=true:=by
 unfold D9 at hk;split at hk
 .rename_i t ht;have hnx:¬(T.exts.contains f||T.dem.contains f)=true:=fun hx=>by rw[a0F hx]at ht;cases ht
  rw[a0E hnx]at ht;have hnt:Cc P f=t.nt:=by unfold Cc;rw[ht]
  have hS:SR X P A (fun b=>b∈bg m) h.length m ⟨lu X 0 vs,[],H⟩ ⟨nU 0 xs,[],h,[]⟩:=
   ⟨⟨hr,rfl,fun k cs hk=>by simp at hk,Na hv⟩,fun b hb=>.inl hb,fun b hb=>(by cases hb),a0P _⟩
  rw[show BI X P T call L f H.length=dR X P T call L f false t.nt H.length by unfold BI;rw[hnt]]at hk;obtain⟨e,iK,ps1,LJ,m1,h1,hk,h3,h4,h5⟩:=vS hX hO t.body hS hk;have fin:∀{e:Ex},exec P T call L f false h.length t.nt t.body ⟨nU 0 xs,[],h,[]⟩=some (e,iK)->(e=.norm∨e=.ret)->∀{us:List (PV X.Γ)},Fg X P ps1 t.results=some us->(ZN X us,ps1.heap)=(v,H1)->∃w h1 ws m1,UJ P T call L f xs h=some (w,h1,ws)∧HR X P A m1 H1 h1∧VR X P (AA A m1) m1 h1 v w∧Fr m h m1 h1∧N9 H.length m m1∧(∀b∈ws,b∈bg m)∧¬(T.exts.contains f||T.dem.contains f)=true:=by intro e he hee us hus hv;cases hv;obtain⟨ws,g1,g2⟩:=Jg hX h3.st hus;refine⟨one ws,iK.heap,iK.ws,m1,?_,h3.st.heap,Va g2,h4,h5,h3.ws,hnx⟩;unfold UJ;rcases hee with rfl|rfl<;>simp only[ht,he,g1]
  cases e with
  |exit id=>exact hk.elim
  |norm=>
   cases LJ with
   |n=>
    simp only at hk;split at hk
    .rename_i us hus;exact fin h1 (.inl rfl) hus hk
    .exact hk.elim
   |_=>exact hk.elim
  |ret=>
   cases LJ with
   |n=>
    simp only at hk;split at hk
    .rename_i us hus;exact fin h1 (.inr rfl) hus hk
    .exact hk.elim
   |_=>exact hk.elim
 .exact hk.elim
theorem a03(hX:bT X P){n f:Nat}(hn:0<n)(hO:jK X P (lq P T L (n-1)) fO){vs:List (PV X.Γ)}{an:PT X.Γ}{v:PV X.Γ}{ext:List (PB X.Γ)}
  (hk:(D9 X P T fO (dG X P (lq P T L (n-1))) (BI X P T (lq P T L (n-1)) L f 0) L f vs [] an).Ends (v,ext)):nS X P (lq P T L n) f vs v ext:=by
 intro A h first args cap IZ hv
 have hr:HR X P A [] [] h:=⟨rfl,fun i b hb=>by simp at hb,by simp[bg],IZ,fun b hb=>by simp[bg]at hb⟩;obtain⟨w,h1,ws,m1,g1,g2,g3,g4,_,g6,g7⟩:=a6Q hX hO (H:=[]) hk hr (hv.mono fun b hb=>⟨hb,by simp[bg]⟩);obtain⟨n,rfl⟩:∃j,n=j+1:=⟨n-1,by omega⟩;have:ws=[]:=a5D.2 fun x hx=>by have:=g6 x hx;simp[bg]at this
 subst this;exact⟨w,h1,m1,by simp only[lq];simp only[a9w,ae6]at g7;rw[a0E g7.1,a0E g7.2];exact g1,g2,g3,g4⟩
theorem a6R(hX:bT X P){n f:Nat}(hn:0<n)(hO:jK X P (lq P T L (n-1)) fO){first xs cap:List (PV X.Γ)}{H H1:List (PB X.Γ)}{an:PT X.Γ}{v:PV X.Γ}
  (hk:(D9 X P T fO (dG X P (lq P T L (n-1))) (BI X P T (lq P T L (n-1)) L f H.length) L f (first++xs++cap) H an).Ends (v,H1)):dG X P (lq P T L n) (.fn f first cap) xs H v H1:=by
 intro A m h tf qP hr hf hx;obtain⟨n,rfl⟩:∃j,n=j+1:=⟨n-1,by omega⟩;cases hf with
 |gone hi _ _=>simp[bn]at hi
 |fn p1 p2 p3 p4=>
  obtain⟨w,h1,ws,m1,g1,g2,g3,g4,g5,g6,g7⟩:=a6Q hX hO hk hr ((bY.app ⟨p1,p2⟩ hx).app ⟨p3,p4⟩);refine⟨w,h1,ws,m1,by simp only[lq];simp only[a9w,ae6]at g7;rw[a0E g7.1,a0E g7.2];exact g1,g2,g3,g4,fun i mb hi=>g5 i mb ?_ hi,g6⟩;rw[<-hr.len];exact(a0h.1 hi).1
def afl:Ex->aU X.Γ->PT X.Γ->OT (Ex×aU X.Γ):=fun e s an=>match an with
 |.n=>.ret (e,s)
 |_=>.bad
section
variable {f nt B:Nat} {gW:Bool}
theorem Xt(hX:bT X P)(hO:jK X P call fO){c:Code}{ps:aU X.Γ}{an:PT X.Γ}{e:Ex}{ps1:aU X.Γ}(hk:(jT X P T fO (dG X P call) (dR X P T call L f gW nt B) B L f gW nt c ps an afl).Ends (e,ps1)):dR X P T call L f gW nt B c ps e ps1:=by
 intro A W fl m ts hS;obtain⟨e1,iK,CS,LJ,m1,h1,h2,h3,h4,h5⟩:=vS hX hO c hS hk;cases LJ with
 |n=>cases h2;exact⟨iK,m1,h1,h3,h4,h5⟩
 |_=>exact h2.elim
end
end
def OT.map{ρ σ:Type}(f:ρ->σ):OT ρ->OT σ
 |.bad=>.bad
 |.ret r=>.ret (f r)
 |.o p r=>.o p (r.map f)
 |.br c t e=>.br c (t.map f) (e.map f)
theorem OT.Ib{ρ σ:Type}{f:ρ->σ}{y:σ}:∀{o:OT ρ},(o.map f).Ends y->∃r,o.Ends r∧f r=y
 |.bad,h=>h.elim
 |.ret r,h=>⟨r,rfl,h⟩
 |.o p r,h=>by obtain⟨x,h1,h2⟩:=OT.Ib h.2;exact⟨x,⟨h.1,h1⟩,h2⟩
 |.br c t e,h=>by
  rcases h with⟨h0,h⟩|⟨h0,h⟩
  .obtain⟨x,h1,h2⟩:=OT.Ib h;exact⟨x,.inl ⟨h0,h1⟩,h2⟩
  obtain⟨x,h1,h2⟩:=OT.Ib h;exact⟨x,.inr ⟨h0,h1⟩,h2⟩
inductive Fp{Γ:Nat->Type}{ρ:Type}(R:ρ->Prop):PT Γ->OT ρ->Prop where
 |r {v:ρ} (h:R v):Fp R .n (.ret v)
 |g {v:ρ} (gs:List G) (h:R v):Fp R (.a (.lg gs .norm ⟨[],[],[]⟩) .n) (.ret v)
 |o {p:Prop} {an:PT Γ} {o:OT ρ} (h:p) (f:Fp R an o):Fp R an (.o p o)
 |s {c:Bool} {a b:PT Γ} {x y:OT ρ} (f:c=true->Fp R a x) (g:c=false->Fp R b y):Fp R (.s a b) (.br c x y)
 |z {c:Bool} {a b:PT Γ} {x y:OT ρ} (f:c=true->Fp R a x) (g:c=false->Fp R b y):Fp R (.z c a b) (.br c x y)
 |b {c t:Bool} {an:PT Γ} {o:OT ρ} (h:c=t) (f:Fp R an o):Fp R (.a (.br t) an) (.o (c=t) o)
 |q {p:Prop} {an:PT Γ} {o:OT ρ} (w:TV) (h:p) (f:Fp R an o):Fp R (.a (.rd w) an) (.o p o)
 |c {p:Prop} {an:PT Γ} {o:OT ρ} (v:PV Γ) (H:List (PB Γ)) (h:p) (f:Fp R an o):Fp R (.a (.call v H) an) (.o p o)
 |kf {p:Prop} {an:PT Γ} {o:OT ρ} (ks:List Nat) (v:PV Γ) (H:List (PB Γ)) (h:p) (f:Fp R an o):Fp R (.a (.fr ks v H) an) (.o p o)
 |kg {p:Prop} {an:PT Γ} {o:OT ρ} (ks rs:List Nat) (v:PV Γ) (H:List (PB Γ)) (h:p) (f:Fp R an o):Fp R (.a (.QU ks rs v H) an) (.o p o)
 |l {p:Prop} {an:PT Γ} {o:OT ρ} (gs:List G) (e:Ex) (s:aU Γ) (h:p) (f:Fp R an o):Fp R (.a (.lg gs e s) an) (.o p o)
 |f {p:Prop} {an:PT Γ} {o:OT ρ} (e:Ex) (s:aU Γ) (h:p) (f:Fp R an o):Fp R (.a (.loop e s) an) (.o p o)
 |m {p:Prop} {an:PT Γ} {o:OT ρ} (k:Nat) (h:p) (f:Fp R an o):Fp R (.l k an) (.o p o)
 |a {an:PT Γ} {o:OT ρ} (x:PA Γ) (f:Fp R an o):Fp R (.a x an) o
theorem Fp.aK{Γ:Nat->Type}{ρ:Type}{R:ρ->Prop}{an:PT Γ}{o:OT ρ}(h:Fp R an o):∃y,o.Ends y∧R y:=by
 induction h with
 |r h=>exact⟨_,rfl,h⟩
 |g _ h=>exact⟨_,rfl,h⟩
 |s _ _ i1 i2=>
  rename_i c _ _ _ _ _ _;cases c with
  |true=>obtain⟨y,h1,h2⟩:=i1 rfl;exact⟨y,.inl ⟨rfl,h1⟩,h2⟩
  |false=>obtain⟨y,h1,h2⟩:=i2 rfl;exact⟨y,.inr ⟨rfl,h1⟩,h2⟩
 |z _ _ i1 i2=>
  rename_i c _ _ _ _ _ _;cases c with
  |true=>obtain⟨y,h1,h2⟩:=i1 rfl;exact⟨y,.inl ⟨rfl,h1⟩,h2⟩
  |false=>obtain⟨y,h1,h2⟩:=i2 rfl;exact⟨y,.inr ⟨rfl,h1⟩,h2⟩
 |a _ _ i=>exact i
 |o h _ i=>obtain⟨y,h1,h2⟩:=i;exact⟨y,⟨h,h1⟩,h2⟩
 |b h _ i=>obtain⟨y,h1,h2⟩:=i;exact⟨y,⟨h,h1⟩,h2⟩
 |q _ h _ i=>obtain⟨y,h1,h2⟩:=i;exact⟨y,⟨h,h1⟩,h2⟩
 |c _ _ h _ i=>obtain⟨y,h1,h2⟩:=i;exact⟨y,⟨h,h1⟩,h2⟩
 |kg _ _ _ _ h _ i=>obtain⟨y,h1,h2⟩:=i;exact⟨y,⟨h,h1⟩,h2⟩
 |kf _ _ _ h _ i=>obtain⟨y,h1,h2⟩:=i;exact⟨y,⟨h,h1⟩,h2⟩
 |l _ _ _ h _ i=>obtain⟨y,h1,h2⟩:=i;exact⟨y,⟨h,h1⟩,h2⟩
 |f _ _ h _ i=>obtain⟨y,h1,h2⟩:=i;exact⟨y,⟨h,h1⟩,h2⟩
 |m _ h _ i=>obtain⟨y,h1,h2⟩:=i;exact⟨y,⟨h,h1⟩,h2⟩
section
variable {X:kX} {P:LI1} {T:qM} {L:Nat}
def frz(r:PV X.Γ×List (PB X.Γ)):Option (PV X.Γ):=view r.2 r.1
theorem Xu(hX:bT X P){call:aZ}{f:FuncId}{vs:List (PV X.Γ)}{v w:PV X.Γ}{ext:List (PB X.Γ)}(hc:nS X P call f vs v ext)(hw:view ext v=some w):nS X P call f vs w []:=by
 intro A h first args cap IZ hv
 obtain⟨x,h',m',c1,c2,c3,c4⟩:=hc A h first args cap IZ hv
 refine⟨x,h',[],c1,⟨rfl,fun i b hb=>by simp at hb,by simp[bg],c2.up,fun b hb=>by simp[bg]at hb⟩,?_,?_⟩
 .refine(V5 (m':=[]) hX c2 c3 hw (is:=l7 v) fun i hi=>hi).mono fun b hb=>⟨?_,by simp[bg]⟩;rcases hb with hb|⟨i,mb,h1,h2,h3⟩
  .exact hb.1
  exact c2.Df b (bf h2 h3)
 exact⟨c4.len,fun b hb hn=>c4.same b hb hn,fun b hb=>by simp[bg]at hb,c4.grow⟩
def afm(hd:aU X.Γ->aU X.Γ)(B:Nat):Ex->aU X.Γ->PT X.Γ->OT (Ex×aU X.Γ):=fun e s an=>match an with
 |.n=>match e with
  |.norm=>.ret (.norm,hd s)
  |e=>.ret (e,s)
 |.a (.lg gs _ _) .n=>match e with
  |.norm=>match lJ B gs (hd s)with
   |some s=>.ret (.norm,s)
   |none=>.bad
  |e=>match lJ B gs s with
   |some s=>.ret (e,s)
   |none=>.bad
 |_=>.bad
section
variable {f nt B:Nat} {gW:Bool} {call:aZ} {fO:eY X.Γ}
def dM(X:kX)(P:LI1)(T:qM)(call:aZ)(L f:Nat)(gW:Bool)(nt B:Nat)(b:Code)(n:Nat)(ps:aU X.Γ)(e:Ex)(ps1:aU X.Γ):Prop:=
 ∀(A W:Nat->Prop) (fl:Nat) (m:List MB) (ts:St),SR X P A W fl m ps (kE (T.eX f (dW b)) ts)->∃iK m1,iter (fun s=>exec P T call L f gW fl nt b (kE (T.eX f (dW b)) s)) n ts=some (e,iK)∧SR X P A W fl m1 ps1 iK∧Fr m ts.heap m1 iK.heap∧N9 B m m1
theorem Vb{b:Code}{n k:Nat}{ps:aU X.Γ}{e:Ex}{ps1:aU X.Γ}(h:dM X P T call L f gW nt B b n ps e ps1)(hk:n<=k):dM X P T call L f gW nt B b k ps e ps1:=fun A W fl m ts hS=>by obtain⟨iK,m1,h1,h2⟩:=h A W fl m ts hS;exact⟨iK,m1,V9 h1 hk,h2⟩
theorem zI{b:Code}{n:Nat}{s0 ps:aU X.Γ}{e:Ex}{ps1:aU X.Γ}(h:dM X P T call L f gW nt B b n ps e ps1)(h0:gU X (T.eX f (dW b)) s0=ps)(hn:n<=L):dR X P T call L f gW nt B (.loop b) s0 e ps1:=fun A W fl m ts hS=>by obtain⟨iK,m1,h1,h2⟩:=Vb h hn A W fl m ts (by rw[<-h0];exact hS.head _);exact⟨iK,m1,by simp only[exec];exact h1,h2⟩
def Rnd(X:kX)(P:LI1)(T:qM)(call:aZ)(L f:Nat)(gW:Bool)(nt B:Nat)(b:Code)(n:Nat)(e:Ex)(s:aU X.Γ):Ex×aU X.Γ->Prop
 |(.norm,s')=>dM X P T call L f gW nt B b n s' e s
 |(e',s')=>e'=e∧s'=s
theorem a1H{b:Code}{n:Nat}{e e':Ex}{s s':aU X.Γ}(hn:e'≠.norm)(h:Rnd X P T call L f gW nt B b n e s (e',s')):e'=e∧s'=s:=by
 cases e' with
 |norm=>exact absurd rfl hn
 |exit id=>exact h
 |ret=>exact h
theorem round(hX:bT X P)(hO:jK X P call fO){b:Code}{n:Nat}{ps:aU X.Γ}{an:PT X.Γ}{e:Ex}{s:aU X.Γ}{o:OT (Ex×aU X.Γ)}
  (hk:jT X P T fO (dG X P call) (dR X P T call L f gW nt B) B L f gW nt b ps an (afm (gU X (T.eX f (dW b))) B)=o) (ht:Fp (Rnd X P T call L f gW nt B b n e s) an o):dM X P T call L f gW nt B b (n+1) ps e s:=by
 obtain⟨⟨e',s'⟩,h1,h2⟩:=ht.aK;rw[<-hk]at h1;intro A W fl m ts hS;obtain⟨e1,iK,CS,LJ,m1,g1,g2,g3,g4,g5⟩:=vS hX hO b hS h1;have out:∀{e1:Ex} {m2:List MB},exec P T call L f gW fl nt b (kE (T.eX f (dW b)) ts)=some (e1,iK)->e1≠.norm->e1=e∧s'=s->SR X P A W fl m2 s' iK->Fr m ts.heap m2 iK.heap->N9 B m m2->∃iK m1,iter (fun s=>exec P T call L f gW fl nt b (kE (T.eX f (dW b)) s)) (n+1) ts=some (e,iK)∧SR X P A W fl m1 s iK∧Fr m ts.heap m1 iK.heap∧N9 B m m1:=by
  intro e1 m2 ge hn hh q1 q2 q3;obtain⟨rfl,rfl⟩:=hh;refine⟨iK,m2,?_,q1,q2,q3⟩;cases e1 with
  |norm=>exact absurd rfl hn
  |exit id=>simp only[iter,ge]
  |ret=>simp only[iter,ge]
 have on:∀{m2:List MB},exec P T call L f gW fl nt b (kE (T.eX f (dW b)) ts)=some (.norm,iK)->SR X P A W fl m2 s' (kE (T.eX f (dW b)) iK)->Fr m ts.heap m2 iK.heap->N9 B m m2->dM X P T call L f gW nt B b n s' e s->∃iK m1,iter (fun s=>exec P T call L f gW fl nt b (kE (T.eX f (dW b)) s)) (n+1) ts=some (e,iK)∧SR X P A W fl m1 s iK∧Fr m ts.heap m1 iK.heap∧N9 B m m1:=by intro m2 ge q1 q2 q3 hr;obtain⟨ts2,m3,r1,r2,r3,r4⟩:=hr A W fl m2 iK q1;exact⟨ts2,m3,by simp only[iter,ge,r1],r2,q2.trans r3,q3.trans r4⟩
 unfold afm at g2;split at g2
 .split at g2
  .cases g2;exact on g1 (g3.head _) g4 g5 h2
  .rename_i e1 iD;cases g2;exact out g1 (fun h=>iD h) (a1H (fun h=>iD h) h2) g3 g4 g5
 .split at g2
  .split at g2
   .rename_i hg;cases g2;obtain⟨m2,q1,q2,q3⟩:=nC hX hg _ _ _ _ _ (g3.head _);exact on g1 q1 (g4.trans q2) (g5.trans q3) h2
   .exact g2.elim
  .rename_i e1 iD;split at g2
   .rename_i hg;cases g2;obtain⟨m2,q1,q2,q3⟩:=nC hX hg _ _ _ _ _ g3;exact out g1 (fun h=>iD h) (a1H (fun h=>iD h) h2) q1 (g4.trans q2) (g5.trans q3)
   .exact g2.elim
 .exact g2.elim
end
structure Ar(X:kX)(P:LI1)(α:Type) where
 put:α->PV X.Γ
 get:PV X.Γ->Option α
 ok:∀{v:PV X.Γ} {a:α},get v=some a->∀{A:Nat->Prop} {m:List MB} {h:List HB} {x:TV},VR X P A m h v x->VR X P A m h (put a) x
structure Vd(X:kX)(P:LI1)(α:Type) where
 put:α->List (PV X.Γ)
 get:List (PV X.Γ)->Option α
 ok:∀{v:List (PV X.Γ)} {a:α},get v=some a->∀{A:Nat->Prop} {m:List MB} {h:List HB} {x:List TV},bY X P A m h v x->bY X P A m h (put a) x
def afn(k:IntKind):Ar X P Int where
 put n:=.int k n
 get v:=match v with
  |.int k' n=>if k'=k then some n else none
  |_=>none
 ok:=by
  intro v a hg A m h x hv;split at hg
  .split at hg
   .rename_i e;subst e;cases hg;exact hv
   .cases hg
  .cases hg
def aj9:Ar X P Bool where
 put n:=.bool n
 get v:=match v with
  |.bool n=>some n
  |.lit n=>some n
  |_=>none
 ok:=by
  intro v a hg A m h x hv;split at hg
  .cases hg;exact hv
  .cases hg;exact Hw hv
  .cases hg
theorem VR.less{A:Nat->Prop}{m:List MB}{h:List HB}{t:Nat}{l:List (X.Γ t)}{fu:Bool}{x:TV}(hv:VR X P A m h (.dF t l fu) x):VR X P A m h (.dF t l false) x:=by
 cases hv with
 |gone hi _ _=>simp[bn]at hi
 |pK=>exact .pK
 |dF a c c2 s z o k f e r=>exact .dF a c c2 s z o k (fun h=>by cases h) e r
def a6S(t:Nat):Ar X P (List (X.Γ t)) where
 put l:=.dF t l false
 get v:=match v with
  |.dF t' l _=>BG t t' l
  |.nil .aP=>some []
  |_=>none
 ok:=by
  intro v a hg A m h x hv;split at hg
  .obtain⟨rfl,rfl⟩:=rJ hg;exact hv.less
  .cases hg;cases hv with
   |nil=>exact .pK
   |gone hi _ _=>simp[bn]at hi
  .cases hg
def aja(hX:bT X P)(t:Nat):Ar X P (X.Γ t) where
 put a:=.agg (X.enc t a)
 get v:=match v with
  |.agg cs=>X.dec t cs
  |_=>none
 ok:=by
  intro v a hg A m h x hv;split at hg
  .cases hv with
   |gone hi _ _=>simp[bn]at hi
   |agg h1 h2=>obtain⟨h3,h4⟩:=hX.dec hg ⟨h1,h2⟩;exact .agg h3 h4
  .cases hg
def fnA(f:FuncId):Ar X P Unit where
 put _:=.fn f [] []
 get v:=match v with
  |.fn g [] []=>if g=f then some ()else none
  |_=>none
 ok:=by
  intro v a hg A m h x hv;split at hg
  .split at hg
   .rename_i e;subst e;exact hv
   .cases hg
  .cases hg
def afo:Vd X P Unit where
 put _:=[]
 get v:=match v with
  | []=>some ()
  |_=>none
 ok:=by
  intro v a hg A m h x hv;split at hg
  .exact hv
  .cases hg
def LK{α β:Type}(a:Ar X P α)(l:Vd X P β):Vd X P (α×β) where
 put x:=a.put x.1::l.put x.2
 get v:=match v with
  |v::vs=>match a.get v,l.get vs with
   |some x,some y=>some (x,y)
   |_,_=>none
  |_=>none
 ok:=by
  intro v x hg A m h xs hv;split at hg
  .split at hg
   .rename_i e1 e2;cases hg;obtain⟨y,r,rfl,h1,h2⟩:=hv.inv;exact .cons (a.ok e1 h1) (l.ok e2 h2)
   .cases hg
  .cases hg
def ajb{α:Type}(a:Ar X P α):Vd X P α where
 put x:=[a.put x]
 get v:=match v with
  | [v]=>a.get v
  |_=>none
 ok:=by
  intro v x hg A m h xs hv;split at hg
  .obtain⟨y,r,rfl,h1,h2⟩:=hv.inv;have:=h2.inv0;subst this;exact .cons (a.ok hg h1) .nil
  .cases hg
def dO{α:Type}(l:Vd X P α):Ar X P α where
 put x:=.dJ (l.put x)
 get v:=match v with
  |.dJ cs=>l.get cs
  |_=>none
 ok:=by
  intro v x hg A m h xs hv;split at hg
  .cases hv with
   |gone hi _ _=>simp[bn]at hi
   |dJ h1 h2=>obtain⟨h3,h4⟩:=l.ok hg ⟨h1,h2⟩;exact .dJ h3 h4
  .cases hg
def a6T{α:Type}(l:Vd X P α):Ar X P α where
 put x:=.agg (l.put x)
 get v:=match v with
  |.agg cs=>l.get cs
  |_=>none
 ok:=by
  intro v x hg A m h xs hv;split at hg
  .cases hv with
   |gone hi _ _=>simp[bn]at hi
   |agg h1 h2=>obtain⟨h3,h4⟩:=l.ok hg ⟨h1,h2⟩;exact .agg h3 h4
  .cases hg
def afp{α β:Type}(a:Ar X P α)(f:α->β)(g:β->α)(hgf:∀x,g (f x)=x):Ar X P β where
 put x:=a.put (g x)
 get v:=match a.get v with
  |some x=>some (f x)
  |none=>none
 ok:=by
  intro v x hg A m h xs hv;split at hg
  .rename_i y hy;cases hg;rw[hgf];exact a.ok hy hv
  .cases hg
def Good(X:kX)(P:LI1)(T:qM)(L:Nat)(fO:eY X.Γ):Prop:=∃N,∀n,N<=n->jK X P (lq P T L n) fO
def aas:eY X.Γ:=fun _ _=>none
def bZ{α β:Type}(f:FuncId)(a:Vd X P α)(r:Ar X P β)(S:α->β)(pre:α->List Prop)(fO:eY X.Γ):eY X.Γ:=fun g vs=>
 match Nat.beq g f with
 |true=>match a.get vs with
  |some x=>some (r.put (S x),[],pre x)
  |none=>fO g vs
 |false=>fO g vs
theorem Good.nil:Good X P T L (aas (X:=X)):=⟨0,fun n _ f vs v ext ps h=>by cases h⟩
theorem Good.add{α β:Type}{f:FuncId}{a:Vd X P α}{r:Ar X P β}{S:α->β}{pre:α->List Prop}{fO:eY X.Γ}(hg:Good X P T L fO)
  (hf:∀n,jK X P (lq P T L n) fO->∀x,(∀p∈pre x,p)->nS X P (lq P T L (n+1)) f (a.put x) (r.put (S x)) []):Good X P T L (bZ f a r S pre fO):=by
 obtain⟨N,hN⟩:=hg;refine⟨N+1,fun n hn=>?_⟩;obtain⟨k,rfl⟩:∃k,n=k+1:=⟨n-1,by omega⟩;intro g vs v ext ps ho hp;unfold bZ at ho;split at ho
 .rename_i e;have e:=a9p e;subst e;split at ho
  .rename_i x hx;cases ho;intro A h first args cap IZ hv
   exact hf k (hN k (by omega)) x hp A h first args cap IZ (a.ok hx hv)
  .exact hN (k+1) (by omega) g vs v ext ps ho hp
 .exact hN (k+1) (by omega) g vs v ext ps ho hp
theorem Good.deep{α β:Type}{f:FuncId}{a:Vd X P α}{r:Ar X P β}{S:α->β}{pre:α->List Prop}{fO:eY X.Γ}(d:Nat)(hg:Good X P T L fO)
  (hf:∀n,d<=n->(∀m,n-d<=m->jK X P (lq P T L m) fO)->∀x,(∀p∈pre x,p)->nS X P (lq P T L (n+1)) f (a.put x) (r.put (S x)) []):Good X P T L (bZ f a r S pre fO):=by
 obtain⟨N,hN⟩:=hg;refine⟨N+d+1,fun n hn=>?_⟩;obtain⟨k,rfl⟩:∃k,n=k+1:=⟨n-1,by omega⟩;intro g vs v ext ps ho hp;unfold bZ at ho;split at ho
 .rename_i e;have e:=a9p e;subst e;split at ho
  .rename_i x hx;cases ho;intro A h first args cap IZ hv
   exact hf k (by omega) (fun m hm=>hN m (by omega)) x hp A h first args cap IZ (a.ok hx hv)
  .exact hN (k+1) (by omega) g vs v ext ps ho hp
 .exact hN (k+1) (by omega) g vs v ext ps ho hp
def Is{β:Type}(r:Ar X P β)(s:β):Option (PV X.Γ)->Prop:=fun v=>v=some (r.put s)∨∃w,v=some w∧r.get w=some s
theorem ajc{β:Type}(hX:bT X P){n f:Nat}{fO:eY X.Γ}(hO:jK X P (lq P T L n) fO){vs:List (PV X.Γ)}{an:PT X.Γ}{r:Ar X P β}{s:β}{o:OT (Option (PV X.Γ))}
  (hk:(D9 X P T fO (dG X P (lq P T L n)) (BI X P T (lq P T L n) L f 0) L f vs [] an).map frz=o) (ht:Fp (Is r s) an o):nS X P (lq P T L (n+1)) f vs (r.put s) []:=
 by
 obtain⟨v,h1,h2⟩:=ht.aK;rw[<-hk]at h1;obtain⟨⟨v,H⟩,h3,rfl⟩:=OT.Ib h1;rcases h2 with h2|⟨w,h2,h4⟩
 .exact Xu hX (a03 hX (n:=n+1) (by omega) hO h3) h2
 .intro A h first args cap IZ hv
  obtain⟨x,h',m',c1,c2,c3,c4⟩:=Xu hX (a03 hX (n:=n+1) (by omega) hO h3) h2 A h first args cap IZ hv
  exact⟨x,h',m',c1,c2,r.ok h4 c3,c4⟩
theorem Fp.rr{β:Type}{r:Ar X P β}{s:β}:Fp (Is r s) (.n:PT X.Γ) (.ret (some (r.put s))):=.r (.inl rfl)
theorem Fp.rn{β:Type}{r:Ar X P β}{s:β}(w:PV X.Γ)(h:r.get w=some s):Fp (Is r s) (.n:PT X.Γ) (.ret (some w)):=.r (.inr ⟨w,rfl,h⟩)
theorem Fp.ss{β:Type}{r:Ar X P β}{c:Bool}{t e:β}{a b:PT X.Γ}{x y:OT (Option (PV X.Γ))}(h1:Fp (Is r t) a x)(h2:Fp (Is r e) b y):Fp (Is r (if c=true then t else e)) (.s a b) (.br c x y):=
 .s (fun h=>by subst h;exact h1) (fun h=>by subst h;exact h2)
theorem Fp.sh{β:Type}{r:Ar X P β}{c:Bool}{t e:β}{a b:PT X.Γ}{x y:OT (Option (PV X.Γ))}(h1:c=true->Fp (Is r t) a x)(h2:c=false->Fp (Is r e) b y):Fp (Is r (if c=true then t else e)) (.s a b) (.br c x y):=
 .s (fun h=>by rw[a0F h];exact h1 h) (fun h=>by rw[a0E (by rw[h];simp)];exact h2 h)
theorem Fp.zh{β:Type}{r:Ar X P β}{c:Bool}{t e:β}{a b:PT X.Γ}{x y:OT (Option (PV X.Γ))}(h1:c=true->Fp (Is r t) a x)(h2:c=false->Fp (Is r e) b y):Fp (Is r (if c=true then t else e)) (.z c a b) (.br c x y):=
 .z (fun h=>by rw[a0F h];exact h1 h) (fun h=>by rw[a0E (by rw[h];simp)];exact h2 h)
theorem Fp.v{β:Type}{r:Ar X P β}{s:β}(u:β)(h:u=s):Fp (Is r s) (.n:PT X.Γ) (.ret (some (r.put u))):=.r (.inl (by rw[h]))
theorem Fp.k{τ:Type}{R:τ->Prop}{call:aZ}{fv v:PV X.Γ}{xs:List (PV X.Γ)}{H H1:List (PB X.Γ)}{an:PT X.Γ}{o:OT τ}(h:dG X P call fv xs H v H1)(t:Fp R an o):Fp R (.a (.call v H1) an) (.o (dG X P call fv xs H v H1) o):=.c v H1 h t
theorem Fp.fr{τ:Type}{R:τ->Prop}{call:aZ}{fv v:PV X.Γ}{xs:List (PV X.Γ)}{H H1:List (PB X.Γ)}{an:PT X.Γ}{o:OT τ}(ks:List Nat)(h:dG X P call fv xs H v H1)(t:Fp R an o):Fp R (.a (.fr ks v H1) an) (.o (dG X P call fv xs H v H1) o):=.kf ks v H1 h t
theorem Fp.QU{τ:Type}{R:τ->Prop}{call:aZ}{fv v:PV X.Γ}{xs:List (PV X.Γ)}{H H1 H2:List (PB X.Γ)}{an:PT X.Γ}{o:OT τ}(ks rs:List Nat)(h:dG X P call fv xs H v H1)(t:Fp R an o):Fp R (.a (.QU ks rs v H2) an) (.o (dG X P call fv xs H v H1) o):=.kg ks rs v H2 h t
def IsS{β:Type}(r:Ar X P β)(s:β)(H:List (PB X.Γ)):PV X.Γ×List (PB X.Γ)->Prop:=fun v=>v=(r.put s,H)
theorem Fp.sr{β:Type}{r:Ar X P β}{s:β}{H:List (PB X.Γ)}:Fp (IsS r s H) (.n:PT X.Γ) (.ret (r.put s,H)):=.r rfl
theorem Fp.szh{β:Type}{r:Ar X P β}{H:List (PB X.Γ)}{c:Bool}{t e:β}{a b:PT X.Γ}{x y:OT (PV X.Γ×List (PB X.Γ))}(h1:c=true->Fp (IsS r t H) a x)(h2:c=false->Fp (IsS r e H) b y):Fp (IsS r (if c=true then t else e) H) (.z c a b) (.br c x y):=
 .z (fun h=>by rw[a0F h];exact h1 h) (fun h=>by rw[a0E (by rw[h];simp)];exact h2 h)
theorem Fp.ssh{β:Type}{r:Ar X P β}{H:List (PB X.Γ)}{c:Bool}{t e:β}{a b:PT X.Γ}{x y:OT (PV X.Γ×List (PB X.Γ))}(h1:c=true->Fp (IsS r t H) a x)(h2:c=false->Fp (IsS r e H) b y):Fp (IsS r (if c=true then t else e) H) (.s a b) (.br c x y):=
 .s (fun h=>by rw[a0F h];exact h1 h) (fun h=>by rw[a0E (by rw[h];simp)];exact h2 h)
theorem Dk{β:Type}(hX:bT X P){n f:Nat}{fO:eY X.Γ}(hO:jK X P (lq P T L n) fO){first xs cap:List (PV X.Γ)}{H H1:List (PB X.Γ)}{an:PT X.Γ}{r:Ar X P β}{s:β}{o:OT (PV X.Γ×List (PB X.Γ))}
  (hk:D9 X P T fO (dG X P (lq P T L n)) (BI X P T (lq P T L n) L f H.length) L f (first++xs++cap) H an=o) (ht:Fp (IsS r s H1) an o):dG X P (lq P T L (n+1)) (.fn f first cap) xs H (r.put s) H1:=by
 obtain⟨y,h1,h2⟩:=ht.aK;cases h2;rw[<-hk]at h1;exact a6R hX (n:=n+1) (by omega) hO h1
theorem Nb(hX:bT X P){call:aZ}{fO:eY X.Γ}(hO:jK X P call fO){f:FuncId}{first xs cap vs:List (PV X.Γ)}{v:PV X.Γ}{ps:List Prop}{H:List (PB X.Γ)}(hv:views H (first++xs++cap)=some vs)(ho:fO f vs=some (v,[],ps))(hp:∀p∈ps,p)(hl:xK v=false) :
  dG X P call (.fn f first cap) xs H (shift H.length v) H:=by
 intro A m h tf qP hr hf hx;cases hf with
 |gone hi _ _=>simp[bn]at hi
 |fn p1 p2 p3 p4=>
  obtain⟨w,h1,m1,e1,e2,e3,e4,e5⟩:=I9 hX (hO f vs v [] ps ho hp) hr hv (ext':=[]) rfl ⟨p1,p2⟩ hx ⟨p3,p4⟩;simp only[hl,List.any_nil,Bool.or_self,a2S,a3T,a6f]at e2;exact⟨w,h1,[],m1,e1,e2,e3,e4,e5,fun b hb=>by cases hb⟩
def a1{α:Type}(a:Ar X P α):Vd X P α:=ajb a
def a2{α β:Type}(a:Ar X P α)(b:Ar X P β):Vd X P (α×β):=LK a (ajb b)
def a3{α β γ:Type}(a:Ar X P α)(b:Ar X P β)(c:Ar X P γ):Vd X P (α×β×γ):=LK a (a2 b c)
def a4{α β γ δ:Type}(a:Ar X P α)(b:Ar X P β)(c:Ar X P γ)(d:Ar X P δ):Vd X P (α×β×γ×δ):=LK a (a3 b c d)
def np{α:Type}:α->List Prop:=fun _=>[]
end
end Pv
namespace Tw
def mX{α σ ρ:Type}(step:Nat->α->σ->σ⊕ρ):List α->Nat->σ->σ⊕ρ
 | [],_,s=>.inl s
 |a::l,i,s=>match step i a s with
  |.inl s'=>mX step l (i+1) s'
  |.inr r=>.inr r
def jZ{σ ρ:Type}:σ⊕ρ->Bool
 |.inl _=>true
 |.inr _=>false
def aje{σ ρ:Type}(d:σ):σ⊕ρ->σ
 |.inl s=>s
 |.inr _=>d
def Dl{σ ρ:Type}(d:ρ):σ⊕ρ->ρ
 |.inl _=>d
 |.inr r=>r
def aoZ{σ:Type}:σ⊕Empty->σ
 |.inl s=>s
end Tw
namespace Pv
open Go Tw
def uq:Code->List Code
 |.seq a b=>uq a++uq b
 |.cond _ a b=>uq a++uq b
 |.block _ b=>uq b
 |.loop b=>b::uq b
 |.scope b=>uq b
 |.rangeFunc _ _ a b=>uq a++uq b
 |_=>[]
def Tf(P:LI1)(f k:Nat):Code:=
 match Uf P f with
 |some t=>(uq t.body).getD k .skip
 |none=>.skip
theorem yA{k:Nat}(h:k<=ah):i64.wrap ((k:Int)+1)=((k+1:Nat):Int):=by simp only[IntKind.wrap,IntKind.bits,IntKind.signed];unfold ah at h;have:((k:Int)+1)%(2^64:Int)=(k:Int)+1:=a8U (by omega) (by omega);simp only[this];rw[a0E (by simp;omega)];omega
theorem aH{k n:Nat}(h:k<n):gu k n:=⟨by omega,by omega⟩
theorem bD{k n:Nat}(h:k<n):decide ((k:Int)<(n:Int))=true:=by simp[h]
theorem fD(n:Nat):decide ((n:Int)<(n:Int))=false:=by simp
section
variable {X:kX} {P:LI1} {T:qM} {L:Nat} {f nt B:Nat} {gW:Bool} {call:aZ} {b:Code} {σ α ρ:Type}
theorem Fp.w{τ:Type}{R:τ->Prop}{c:Code}{e:Ex}{s s':aU X.Γ}{an:PT X.Γ}{o:OT τ}(h:dR X P T call L f gW nt B c s e s')(t:Fp R an o):Fp R (.a (.lg [] e s') an) (.o (dR X P T call L f gW nt B c s e s') o):=.l [] e s' h t
theorem Fp.wG{τ:Type}{R:τ->Prop}(gs:List G){c:Code}{e:Ex}{s s':aU X.Γ}{an:PT X.Γ}{o:OT τ}(h:dR X P T call L f gW nt B c s e s')(t:Fp R an o):Fp R (.a (.lg gs e s') an) (.o (dR X P T call L f gW nt B c s e s') o):=.l gs e s' h t
theorem Fp.go{n:Nat}{e:Ex}{s s':aU X.Γ}(h:dM X P T call L f gW nt B b n s' e s):Fp (Rnd X P T call L f gW nt B b n e s) (.n:PT X.Γ) (.ret (.norm,s')):=Fp.r (v:=(Ex.norm,s')) h
theorem Fp.goG{n:Nat}{e:Ex}{s s':aU X.Γ}(gs:List G)(h:dM X P T call L f gW nt B b n s' e s):Fp (Rnd X P T call L f gW nt B b n e s) (.a (.lg gs .norm ⟨[],[],[]⟩) .n:PT X.Γ) (.ret (.norm,s')):=Fp.g (v:=(Ex.norm,s')) gs h
theorem Fp.ex{n i:Nat}{s:aU X.Γ}:Fp (Rnd X P T call L f gW nt B b n (.exit i) s) (.n:PT X.Γ) (.ret (.exit i,s)):=Fp.r (v:=(Ex.exit i,s)) ⟨rfl,rfl⟩
def cont(out:σ⊕ρ->Ex×aU X.Γ)(g:Nat->α->σ->σ⊕ρ)(l:List α)(i:Nat):σ⊕ρ->Ex×aU X.Γ
 |.inl s=>out (mX g l i s)
 |.inr r=>out (.inr r)
def Rn(X:kX)(P:LI1)(T:qM)(call:aZ)(L f:Nat)(gW:Bool)(nt B:Nat)(b:Code)(n:Nat){τ:Type}(K:τ->Ex×aU X.Γ)(x:τ):Ex×aU X.Γ->Prop:=Rnd X P T call L f gW nt B b n (K x).1 (K x).2
section
variable {τ:Type} {K:τ->Ex×aU X.Γ} {n:Nat}
theorem Fp.ls{c:Bool}{t e:τ}{a d:PT X.Γ}{x y:OT (Ex×aU X.Γ)}(h1:Fp (Rn X P T call L f gW nt B b n K t) a x)(h2:Fp (Rn X P T call L f gW nt B b n K e) d y):Fp (Rn X P T call L f gW nt B b n K (if c=true then t else e)) (.s a d) (.br c x y):=
 .s (fun h=>by subst h;exact h1) (fun h=>by subst h;exact h2)
theorem Fp.nx{x:τ}{s':aU X.Γ}(h:dM X P T call L f gW nt B b n s' (K x).1 (K x).2):Fp (Rn X P T call L f gW nt B b n K x) (.n:PT X.Γ) (.ret (.norm,s')):=Fp.r (v:=(Ex.norm,s')) h
theorem Fp.nxG{x:τ}{s':aU X.Γ}(gs:List G)(h:dM X P T call L f gW nt B b n s' (K x).1 (K x).2):Fp (Rn X P T call L f gW nt B b n K x) (.a (.lg gs .norm ⟨[],[],[]⟩) .n:PT X.Γ) (.ret (.norm,s')):=Fp.g (v:=(Ex.norm,s')) gs h
theorem Fp.ou{x:τ}(h:(K x).1≠.norm):Fp (Rn X P T call L f gW nt B b n K x) (.n:PT X.Γ) (.ret (K x)):=by
 refine Fp.r ?_;unfold Rn Rnd;split
 .rename_i e;rw[e]at h;exact absurd rfl h
 rename_i e;rw[e];exact⟨rfl,rfl⟩
theorem Fp.ouG{x:τ}(gs:List G)(h:(K x).1≠.norm):Fp (Rn X P T call L f gW nt B b n K x) (.a (.lg gs .norm ⟨[],[],[]⟩) .n:PT X.Γ) (.ret (K x)):=by
 refine Fp.g gs ?_;unfold Rn Rnd;split
 .rename_i e;rw[e]at h;exact absurd rfl h
 rename_i e;rw[e];exact⟨rfl,rfl⟩
end
theorem Xv{l:List α}(d:α){st:Int->σ->aU X.Γ}{g:Nat->α->σ->σ⊕ρ}{out:σ⊕ρ->Ex×aU X.Γ}{s0:σ}{w:aU X.Γ}(Inv:Nat->σ->Prop)(h0:gU X (T.eX f (dW b)) w=st 0 s0)(hl:l.length<=ah)(hL:ah<L)(hi:Inv 0 s0)
  (hs:∀(k:Nat) (s:σ) (n:Nat),k<l.length->Inv k s->(∀s1,Inv (k+1) s1->dM X P T call L f gW nt B b n (st (i64.wrap (k+1)) s1) (cont out g (l.drop (k+1)) (k+1) (.inl s1)).1 (cont out g (l.drop (k+1)) (k+1) (.inl s1)).2) ->
   dM X P T call L f gW nt B b (n+1) (st k s) (cont out g (l.drop (k+1)) (k+1) (g k (l.getD k d) s)).1 (cont out g (l.drop (k+1)) (k+1) (g k (l.getD k d) s)).2)
  (ho:∀s,Inv l.length s->dM X P T call L f gW nt B b 1 (st l.length s) (out (.inl s)).1 (out (.inl s)).2) :
  dR X P T call L f gW nt B (.loop b) w (out (mX g l 0 s0)).1 (out (mX g l 0 s0)).2:=by
 have key:∀(m k:Nat) (s:σ),k+m=l.length->Inv k s->dM X P T call L f gW nt B b (m+1) (st k s) (out (mX g (l.drop k) k s)).1 (out (mX g (l.drop k) k s)).2:=by
  intro m
  induction m with
  |zero=>
   intro k s hk hr;have:k=l.length:=(by omega);subst this;rw[List.drop_length];exact ho s hr
  |succ m ih=>
   intro k s hk hr;have aT:k<l.length:=(by omega);have h1:=hs k s (m+1) aT hr fun s1 h=>by have:=ih (k+1) s1 (by omega) h;rw[yA (by omega)];exact this
   have hd:l.getD k d=l[k]:=(by simp[List.getD,a0q aT]);rw[a6G aT];simp only[mX];rw[hd]at h1;cases hg:g k l[k] s with
   |inl s1=>rw[hg]at h1;exact h1
   |inr r=>rw[hg]at h1;exact h1
 exact zI (key l.length 0 s0 (by omega) hi) h0 (by omega)
theorem kM{c:Code}{w:aU X.Γ}{R:σ⊕ρ}{out:σ⊕ρ->Ex×aU X.Γ}(h:dR X P T call L f gW nt B c w (out R).1 (out R).2)(d:σ)(hR:jZ R=true):dR X P T call L f gW nt B c w (out (.inl (aje d R))).1 (out (.inl (aje d R))).2:=by
 cases R with
 |inl s=>exact h
 |inr r=>cases hR
theorem kN{c:Code}{w:aU X.Γ}{R:σ⊕ρ}{out:σ⊕ρ->Ex×aU X.Γ}(h:dR X P T call L f gW nt B c w (out R).1 (out R).2)(d:ρ)(hR:jZ R=false):dR X P T call L f gW nt B c w (out (.inr (Dl d R))).1 (out (.inr (Dl d R))).2:=by
 cases R with
 |inl s=>cases hR
 |inr r=>exact h
end
def a04{Γ:Nat->Type}:PE Γ->Bool
 |.val _=>true
 |_=>false
def uw{Γ:Nat->Type}(env:List (Nat×PE Γ)):List Nat->List (PV Γ)->List (Nat×PE Γ)
 |p::ps,v::vs=>uw ((p,.val v)::env) ps vs
 |_,_=>env
section
variable {X:kX} {P:LI1} {T:qM} {A W:Nat->Prop} {m m':List MB} {h h':List HB} {L f nt B:Nat}
theorem a6U{env:List (Nat×PE X.Γ)}{env':List (Nat×EV)}(he:ku X P A m h env env')(hv:(env.all fun p=>a04 p.2)=true):env'.all isVal=true:=by
 induction he with
 |nil=>rfl
 |cons h1 _ ih=>
  rename_i k v x r r' _;simp only[aco,a2O]at hv ⊢;refine⟨?_,ih hv.2⟩;cases v with
  |val v=>obtain⟨y,rfl,_⟩:=fQ h1;rfl
  |_=>simp[a04]at hv
theorem Ti:∀{ps:List Nat} {vs:List (PV X.Γ)} {xs:List TV} {env:List (Nat×PE X.Γ)} {env':List (Nat×EV)},ku X P A m h env env'->bY X P A m h vs xs->ku X P A m h (uw env ps vs) (sS env' ps xs)
 | [],vs,xs,_,_,he,hv=>by simpa[uw,sS]using he
 |p::ps,[],xs,_,_,he,hv=>by rw[hv.inv0];simpa[uw,sS]using he
 |p::ps,v::vs,xs,_,_,he,hv=>by obtain⟨x,r,rfl,h1,h2⟩:=hv.inv;simp only[uw,sS];exact Ti (ku.cons (v:=.val v) (x:=.val x) h1 he) h2
theorem Ic(hX:bT X P){n l:Nat}{xs:List (PV X.Γ)}{H:List (PB X.Γ)}{env:List (Nat×PE X.Γ)}{ps:List Nat}{uT body:Code}{jQ:Option Code}{s1 s2:aU X.Γ}{e:Ex}
  {f' nt':Nat} {env':List (Nat×PE X.Γ)} {ps':List Nat} {a' b':Code} {acC:Option Code} {f'' afq:Nat} {acM:List (Nat×PE X.Γ)} {afr:List Nat} {a'' b'':Code}
  (hl:H[l]? = some (.loop true f nt env ps uT body jQ)) (hlen:xs.length=ps.length) (hps:(ps.all fun p=>decide (p<nt))=true)
  (h1:dR X P T (lq P T L n) L f true nt H.length uT ⟨uw env ps xs,[],H⟩ .norm s1) (hl1:s1.heap[l]? = some (.loop true f' nt' env' ps' a' b' acC))
  (h2:dR X P T (lq P T L n) L f true nt H.length body { s1 with heap:=s1.heap.set l (.loop false f' nt' env' ps' a' b' none) } e s2)
  (RF:s2.heap[l]? = some (.loop false f'' afq acM afr a'' b'' none)) :
  dG X P (lq P T L (n+1)) (.kU l) xs H (.bool (pI e)) (s2.heap.set l (.loop (pI e) f'' afq acM afr a'' b'' (sU e))):=by
 intro A m h tf qP hr hf hx;have aT:l<H.length:=(a0h.1 hl).1;obtain⟨mb,k1,k2⟩:=hr.at_ l _ hl;cases mb with
 |dF _=>exact k2.elim
 |jA _=>exact k2.elim
 |gone=>exact k2.elim
 |gq c=>
 obtain⟨te,k3,k4⟩:=k2;have Gf:c∈bg m:=bf k1 rfl;cases hf with
 |gone hi KI _=>simp only[bn,a0d]at hi;subst hi;rw[k1]at KI;cases KI
 |kU hy=>
 rw[k1]at hy;cases hy;have hS:SR X P A (fun b=>b∈bg m) h.length m ⟨uw env ps xs,[],H⟩ ⟨sS te ps qP,[],h,[]⟩:=
  ⟨⟨hr,rfl,fun k cs hk=>by simp at hk,Ti (env:=env) (env':=te) k4 hx⟩,fun b hb=>.inl hb,fun b hb=>(by cases hb),a0P _⟩
 obtain⟨t1,m1,x1,x2,x3,x4⟩:=h1 A _ _ m _ hS;have at1:∀{M:List MB} {S:aU X.Γ} {TS:St} {W:Nat->Prop} {rd:Bool} {f0 n0:Nat} {ee:List (Nat×PE X.Γ)} {pp:List Nat} {aa bb:Code} {pe:Option Code},SR X P A W h.length M S TS->N9 H.length m M->S.heap[l]? = some (.loop rd f0 n0 ee pp aa bb pe)->M[l]? = some (.gq c)∧∃te,TS.heap[c]? = some (.loop rd f0 n0 te pp aa bb pe)∧ku X P (AA A M) M TS.heap ee te:=by
  intro M S TS W rd f0 n0 ee pp aa bb pe hS hU hh;obtain⟨mb,j1,j2⟩:=hS.st.heap.at_ l _ hh;rcases hU l _ aT k1 with e|e
  .rw[e]at j1;cases j1;obtain⟨te,j3,j4⟩:=j2;exact⟨e,te,j3,j4⟩
  .rw[e]at j1;cases j1;exact j2.elim
 have ajg:∀{M:List MB} {S:aU X.Γ} {TS:St} {W:Nat->Prop} {rd:Bool} {f0 n0:Nat} {ee:List (Nat×PE X.Γ)} {pp:List Nat} {aa bb:Code} {pe:Option Code} (rd':Bool) (pe':Option Code),SR X P A W h.length M S TS->N9 H.length m M->S.heap[l]? = some (.loop rd f0 n0 ee pp aa bb pe)->∃te,TS.heap[c]? = some (.loop rd f0 n0 te pp aa bb pe)∧HR X P A M (S.heap.set l (.loop rd' f0 n0 ee pp aa bb pe')) (TS.heap.set c (.loop rd' f0 n0 te pp aa bb pe'))∧Fr M TS.heap M (TS.heap.set c (.loop rd' f0 n0 te pp aa bb pe')):=by intro M S TS W rd f0 n0 ee pp aa bb pe rd' pe' hS hU hh;obtain⟨j1,te,j3,j4⟩:=at1 hS hU hh;obtain⟨s1,s2⟩:=hS.st.heap.set (i:=l) (c:=c) (pb:=.loop rd' f0 n0 ee pp aa bb pe') (hb:=.loop rd' f0 n0 te pp aa bb pe') j1 rfl (fun cs hc=>by unfold aW at hc;rw[j3]at hc;cases hc) (fun hF=>⟨te,by rw[a2M (a0h.1 j3).1],j4.step hF .refl⟩);exact⟨te,j3,s1,s2⟩
 obtain⟨te1,y1,y2,y3⟩:=ajg false none x2 x4 hl1;have hS1:SR X P A (fun b=>b∈bg m) h.length m1 { s1 with heap:=s1.heap.set l (.loop false f' nt' env' ps' a' b' none) } { t1 with heap:=t1.heap.set c (.loop false f' nt' te1 ps' a' b' none),ws:=EJ h.length c t1.ws }:=by
  have q:=x2.st.step y2 y3 .refl;refine⟨⟨q.heap,q.llen,q.loc,q.env⟩,x2.own,fun b hb=>?_,a5x x2.fl y3.len⟩;rcases vX (ks:=[.h c]) hb with k|⟨k,_⟩
  .exact x2.ws b k
  .simp at k;subst k;exact Gf
 obtain⟨t2,m2,z1,z2,z3,z4⟩:=h2 A _ _ m1 _ hS1;obtain⟨te2,u1,u2,u3⟩:=ajg (pI e) (sU e) z2 (x4.trans z4) RF;have hF:=(x3.trans y3).trans (z3.trans u3);refine⟨.bool (pI e),t2.heap.set c (.loop (pI e) f'' afq te2 afr a'' b'' (sU e)),EJ h.length c t2.ws,m2,?_,u2,.bool _,hF,fun i mb hi=>(x4.trans z4) i mb ?_ hi,fun b hb=>?_⟩
 .have hl':qP.length=ps.length:=by rw[<-hx.1,hlen]
  simp only[lq,ap,NQ,k3,hl',hps,acL,a2u,x1,y1,z1,u1]
 .rw[<-hr.len];exact(a0h.1 hi).1
 .rcases vX (ks:=[.h c]) hb with k|⟨k,_⟩
  .exact z2.ws b k
  .simp at k;subst k;exact Gf
abbrev gB(B:Nat):Nat->Option Nat:=fun i=>if i<B then some i else(wM [] i).map (·+B)
theorem zJ{g:Nat->Option Nat}:∀{a:List (PV X.Γ)},(∀(i:Nat) x,a[i]? = some x->fE g x=some x)->fE.pz g a=some a
 | [],_=>rfl
 |c::cs,h=>by simp only[fE.pz,h 0 c rfl,zJ (a:=cs) fun i x hi=>h (i+1) x (by simpa using hi)]
theorem Ie{α β:Type}{a:List α}{b:List β}(hl:a.length=b.length){i:Nat}{x:α}(hi:a[i]? = some x):∃y,b[i]? = some y:=by
 have:i<b.length:=by rw[<-hl];exact(a0h.1 hi).1
 exact⟨b[i],a0q this⟩
theorem Ve{v:PV X.Γ}{x:TV}(hv:VR X P A m h v x){B:Nat}(hB:m.length<=B):fE (gB B) v=some v:=by
 have key:∀{b:Nat} {mb:MB},m[b]? = some mb->gB B b=some b:=fun e=>by have:=(a0h.1 e).1;simp only[gB];rw[a0F (by omega)]
 induction hv with
 |bool=>rfl
 |lit=>rfl
 |int=>rfl
 |str=>rfl
 |nil=>rfl
 |ptr e=>simp only[fE,key e,a0O]
 |aP e=>simp only[fE,key e,a0O]
 |own e _=>simp only[fE,key e,a0O]
 |win e _ _=>simp only[fE,key e,a0O]
 |BQ e=>simp only[fE,key e,a0O]
 |Gv e=>simp only[fE,key e,a0O]
 |Jm e=>simp only[fE,key e,a0O]
 |map e=>simp only[fE,key e,a0O]
 |iter e=>simp only[fE,key e,a0O]
 |kU e=>simp only[fE,key e,a0O]
 |row e _ _=>simp only[fE,key e,a0O]
 |pK=>rfl
 |dF=>rfl
 |el=>rfl
 |fn h1 _ h3 _ i2 i4=>
  simp only[fE];rw[zJ fun i x hi=>let ⟨y,hy⟩:=Ie h1 hi;i2 i x y hi hy,zJ fun i x hi=>let ⟨y,hy⟩:=Ie h3 hi;i4 i x y hi hy]
 |agg h1 _ i2=>simp only[fE];rw[zJ fun i x hi=>let ⟨y,hy⟩:=Ie h1 hi;i2 i x y hi hy];rfl
 |dJ h1 _ i2=>simp only[fE];rw[zJ fun i x hi=>let ⟨y,hy⟩:=Ie h1 hi;i2 i x y hi hy];rfl
 | @gone v i x hi e _=>
  have:=key (b:=i) (mb:=(m[i]?).getD .gone) (by cases q:m[i]? with|none=>rw[q]at e;cases e|some y=>rfl);cases v<;>simp only[bn,a0d]at hi<;>first|(subst hi;simp only[fE,this,a0O])|cases hi
theorem a1I{v:List (PV X.Γ)}{x:List TV}(hv:bY X P A m h v x){B:Nat}(hB:m.length<=B):fE.pz (gB B) v=some v:=
 zJ fun i a hi=>let ⟨y,hy⟩:=Ie hv.1 hi;Ve (hv.2 i a y hi hy) hB
theorem a6V{v:List (Nat×PE X.Γ)}{x:List (Nat×EV)}(hv:ku X P A m h v x){B:Nat}(hB:m.length<=B):pq (gB B) v=some v:=by
 induction hv with
 |nil=>rfl
 |cons h1 _ ih=>
  rename_i k v x r r' _;simp only[pq,ih];cases v with
  |val v=>obtain⟨y,rfl,h2⟩:=fQ h1;simp only[OD,Ve h2 hB,a0O]
  |ent r j v=>
   obtain⟨c,y,rfl,h2,_⟩:=MW h1;have:=Ve h2 hB;simp only[fE,a0l,PV.map.injEq,exists_eq_right]at this;simp only[OD,this,a0O]
  |EI r j=>
   obtain⟨c,rfl,h2⟩:=MX h1;have:=Ve h2 hB;simp only[fE,a0l,PV.map.injEq,exists_eq_right]at this;simp only[OD,this,a0O]
  |_=>rfl
theorem aau{b:PB X.Γ}{mb:MB}(hb:BR X P A m h b mb){B:Nat}(hB:m.length<=B):zD (gB B) b=some b:=by
 cases b with
 |cells cs=>
  cases mb with
  |gq c=>obtain⟨_,_,h2⟩:=hb;simp only[zD,a1I h2 hB,a0O]
  |_=>exact hb.elim
 |aF cs=>
  cases mb with
  |jA c=>obtain⟨_,_,_,h2⟩:=hb;simp only[zD,a1I h2 hB,a0O]
  |_=>exact hb.elim
 |map es=>rfl
 |dn r n seen=>
  cases mb with
  |gq c=>
   obtain⟨_,_,h2,_⟩:=hb;obtain⟨mb,h3⟩:=a5r.1 h2;have aT:r<B:=a9E (a0h.1 h3).1 hB;have:gB B r=some r:=(by simp[gB,aT]);simp only[zD,this,a0O]
  |_=>exact hb.elim
 |loop=>
  cases mb with
  |gq c=>obtain⟨_,_,h2⟩:=hb;simp only[zD,a6V h2 hB,a0O]
  |_=>exact hb.elim
 |_=>rfl
theorem Xw{B:Nat}:∀{H:List (PB X.Γ)},(∀(i:Nat) b,H[i]? = some b->zD (gB B) b=some b)->nX (gB B) H=some H
 | [],_=>rfl
 |c::cs,h=>by simp only[nX,h 0 c rfl,Xw (H:=cs) fun i x hi=>h (i+1) x (by simpa using hi)]
theorem dG.drop(hX:bT X P){call:aZ}{fv:PV X.Γ}{xs:List (PV X.Γ)}{H H1:List (PB X.Γ)}{v:PV X.Γ}(hs:dG X P call fv xs H v H1)(h1:H1.take H.length=H)(hv:fE (gB H.length) v=some v):dG X P call fv xs H v H:=by
 intro A m h tf qP hr hf hx;obtain⟨w,h',ws,m1,c1,c2,c3,c4,c5,c6⟩:=hs A m h tf qP hr hf hx;have hg:lJ H.length [.gc []] (⟨[(0,.val v)],[],H1⟩:aU X.Γ)=some ⟨[(0,.val v)],[],H⟩:=by
  have hb:nX (gB H.length) H=some H:=Xw fun i b hi=>let ⟨mb,_,h2⟩:=hr.at_ i b hi;aau h2 (ahu hr.len)
  have hl:H.length<=H1.length:=by have:=congrArg List.length h1;simp at this;omega
  have e:pq (gB H.length) [(0,PE.val v)]=some [(0,.val v)]:=by simp only[pq,OD,hv,a0O]
  have qN:nX (fun i=>if i<H.length then some i else(wM [] i).map (·+H.length)) H=some H:=hb;have e':pq (fun i=>if i<H.length then some i else(wM [] i).map (·+H.length)) [(0,PE.val v)]=some [(0,.val v)]:=e;simp only[lJ,BH,List.all_nil,a6x,decide_true,Bool.and_self,ae1,hl,a2u,e',Xa,h1,qN,D8,nX,a6f]
 obtain⟨m2,q1,q2,q3⟩:=nC hX hg A (fun _=>True) 0 m1 ⟨[(0,.val w)],[],h',[]⟩ ⟨⟨c2,rfl,fun k cs hk=>by simp at hk,.cons c3 .nil⟩,fun b _=>.inl trivial,fun b hb=>(by cases hb),a5i _⟩;obtain⟨w',e1,e2⟩:=oN q1.st.env (t:=0) (v:=.val v) rfl;simp only[dQ,a2u,a0d]at e1;subst e1;refine⟨w,h',ws,m2,c1,q1.st.heap,e2,c4.trans q2,fun i mb hi=>?_,c6⟩;have aT:i<H.length:=by rw[<-hr.len];exact(a0h.1 hi).1
 rcases c5 i mb hi with g|g
 .exact q3 i mb aT g
 rcases q3 i _ aT g with g|g<;>exact .inr g
end
section
variable {X:kX} {P:LI1}
theorem dG.frame(hX:bT X P){call:aZ}{ks:List Nat}{H' Hp H H1 QD:List (PB X.Γ)}{fv fv' v v':PV X.Γ}{xs xs':List (PV X.Γ)}(hs:dG X P call fv xs H v H1)
  (jH:ks.Nodup) (hp:D8 H' ks=some Hp) (hH:nX (wM ks) Hp=some H) (hf:fE (wM ks) fv'=some fv) (hx:fE.pz (wM ks) xs'=some xs)
  (hv:fE (bk ks H'.length) v=some v') (hH1:nX (bk ks H'.length) H1=some QD) (hro:Jk (H1.drop ks.length)=true) :
  dG X P call fv' xs' H' v' (putAt ks QD H'++QD.drop ks.length):=fun A m' h tf qP hr hf' FI=>by
 obtain⟨w,h1,ws,m1,c1,c2,c3,c4,c5,c6⟩:=Ju hX hs.w jH hp hH hf hx hv hH1 hro A m' h tf qP hr hf' FI;exact⟨w,h1,ws,m1,c1,c2,c3,c4,c5,fun b hb=>by obtain⟨_,k,_,_,mb,h8,h9⟩:=c6 b hb;exact bf h8 h9⟩
end
def itF{σ ρ:Type}(g:σ->σ⊕ρ):Nat->σ->Option ρ
 | 0,_=>none
 |k+1,s=>match g s with
  |.inl s1=>itF g k s1
  |.inr r=>some r
section
variable {X:kX} {P:LI1} {T:qM} {L:Nat} {f nt B:Nat} {gW:Bool} {call:aZ} {b:Code} {σ ρ:Type}
def Dn(out:ρ->Ex×aU X.Γ)(r:ρ):σ⊕ρ->Ex×aU X.Γ
 |.inl _=>out r
 |.inr r'=>out r'
theorem a6W{st:σ->aU X.Γ}{g:σ->σ⊕ρ}{out:ρ->Ex×aU X.Γ}(Inv:σ->Prop)(hi:∀s s1,Inv s->g s=.inl s1->Inv s1)
  (hs:∀s n r,Inv s->(∀s1,g s=.inl s1->dM X P T call L f gW nt B b n (st s1) (out r).1 (out r).2)->dM X P T call L f gW nt B b (n+1) (st s) (Dn out r (g s)).1 (Dn out r (g s)).2) :
  ∀{k:Nat} {s:σ} {r:ρ},Inv s->itF g k s=some r->dM X P T call L f gW nt B b k (st s) (out r).1 (out r).2
 | 0,s,r,_,h=>by cases h
 |k+1,s,r,hv,h=>by
  simp only[itF]at h;have h1:=hs s k r hv fun s1 h1=>by rw[h1]at h;exact a6W Inv hi hs (hi s s1 hv h1) h
  cases hg:g s with
  |inl s1=>rw[hg]at h1;exact h1
  |inr r'=>rw[hg]at h1 h;simp only[a0d]at h;subst h;exact h1
theorem afs{st:σ->aU X.Γ}{g:σ->σ⊕ρ}{out:ρ->Ex×aU X.Γ}(Inv:σ->Prop){k:Nat}{s:σ}{r:ρ}{w:aU X.Γ}(hr:itF g k s=some r)(h0:gU X (T.eX f (dW b)) w=st s)(hk:k<=L)(hv:Inv s)(hi:∀s s1,Inv s->g s=.inl s1->Inv s1)
  (hs:∀s n r,Inv s->(∀s1,g s=.inl s1->dM X P T call L f gW nt B b n (st s1) (out r).1 (out r).2)->dM X P T call L f gW nt B b (n+1) (st s) (Dn out r (g s)).1 (Dn out r (g s)).2) :
  dR X P T call L f gW nt B (.loop b) w (out r).1 (out r).2:=zI (a6W Inv hi hs hv hr) h0 hk
end
section
variable {X:kX} {P:LI1} {T:qM} {L:Nat}
def a05{α:Type}(f:FuncId)(a:Vd X P α)(v:α->PV X.Γ)(ext:α->List (PB X.Γ))(pre:α->List Prop)(fO:eY X.Γ):eY X.Γ:=fun g vs=>
 match Nat.beq g f with
 |true=>match a.get vs with
  |some x=>some (v x,ext x,pre x)
  |none=>fO g vs
 |false=>fO g vs
theorem Good.Xx{α:Type}{f:FuncId}{a:Vd X P α}{v:α->PV X.Γ}{ext:α->List (PB X.Γ)}{pre:α->List Prop}{fO:eY X.Γ}(d:Nat)(hg:Good X P T L fO)
  (hf:∀n,d<=n->(∀m,n-d<=m->jK X P (lq P T L m) fO)->∀x,(∀p∈pre x,p)->nS X P (lq P T L (n+1)) f (a.put x) (v x) (ext x)):Good X P T L (a05 f a v ext pre fO):=by
 obtain⟨N,hN⟩:=hg;refine⟨N+d+1,fun n hn=>?_⟩;obtain⟨k,rfl⟩:∃k,n=k+1:=⟨n-1,by omega⟩;intro g vs v ext ps ho hp;unfold a05 at ho;split at ho
 .rename_i e;have e:=a9p e;subst e;split at ho
  .rename_i x hx;cases ho;intro A h first args cap IZ hv
   exact hf k (by omega) (fun m hm=>hN m (by omega)) x hp A h first args cap IZ (a.ok hx hv)
  .exact hN (k+1) (by omega) g vs v ext ps ho hp
 .exact hN (k+1) (by omega) g vs v ext ps ho hp
def IsE(v:PV X.Γ)(H:List (PB X.Γ)):PV X.Γ×List (PB X.Γ)->Prop:=fun y=>y=(v,H)
theorem Fp.er{v:PV X.Γ}{H:List (PB X.Γ)}:Fp (IsE v H) (.n:PT X.Γ) (.ret (v,H)):=.r rfl
theorem BJ(hX:bT X P){n f:Nat}{fO:eY X.Γ}(hO:jK X P (lq P T L n) fO){vs:List (PV X.Γ)}{an:PT X.Γ}{v:PV X.Γ}{H:List (PB X.Γ)}{o:OT (PV X.Γ×List (PB X.Γ))}
  (hk:D9 X P T fO (dG X P (lq P T L n)) (BI X P T (lq P T L n) L f 0) L f vs [] an=o) (ht:Fp (IsE v H) an o):nS X P (lq P T L (n+1)) f vs v H:=by
 obtain⟨y,h1,h2⟩:=ht.aK;cases h2;rw[<-hk]at h1;exact a03 hX (n:=n+1) (by omega) hO h1
end
section
variable {X:kX} {P:LI1} {T:qM} {L:Nat}
theorem nH(hX:bT X P){n f:Nat}{fO:eY X.Γ}(hO:jK X P (lq P T L n) fO){first xs cap:List (PV X.Γ)}{H H1:List (PB X.Γ)}{v:PV X.Γ}{an:PT X.Γ}{o:OT (PV X.Γ×List (PB X.Γ))}
  (hk:D9 X P T fO (dG X P (lq P T L n)) (BI X P T (lq P T L n) L f H.length) L f (first++xs++cap) H an=o) (ht:Fp (IsE v H1) an o):dG X P (lq P T L (n+1)) (.fn f first cap) xs H v H1:=by
 obtain⟨y,h1,h2⟩:=ht.aK;cases h2;rw[<-hk]at h1;exact a6R hX (n:=n+1) (by omega) hO h1
end
theorem Good.Xy{X:kX}{P:LI1}{T:qM}{L:Nat}{α β:Type}{f:FuncId}{a:Vd X P α}{r:Ar X P β}{S:α->β}{pre:α->List Prop}{fO Xz:eY X.Γ}(d:Nat)(hg:Good X P T L fO)(hg2:Good X P T L Xz)
  (hf:∀n,d<=n->(∀m,n-d<=m->jK X P (lq P T L m) fO)->(∀m,n-d<=m->jK X P (lq P T L m) Xz)->∀x,(∀p∈pre x,p)->nS X P (lq P T L (n+1)) f (a.put x) (r.put (S x)) []):Good X P T L (bZ f a r S pre fO):=by
 obtain⟨N2,hN2⟩:=hg2;obtain⟨M,hM⟩:=hg;refine⟨M+N2+d+1,fun n hn=>?_⟩;obtain⟨k,rfl⟩:∃k,n=k+1:=⟨n-1,by omega⟩;intro g vs v ext ps ho hp;unfold bZ at ho;split at ho
 .rename_i e;have e:=a9p e;subst e;split at ho
  .rename_i x hx;cases ho;intro A h first args cap IZ hv
   exact hf k (by omega) (fun m hm=>hM m (by omega)) (fun m hm=>hN2 m (by omega)) x hp A h first args cap IZ (a.ok hx hv)
  .exact hM (k+1) (by omega) g vs v ext ps ho hp
 .exact hM (k+1) (by omega) g vs v ext ps ho hp
section
variable {X:kX} {P:LI1}
theorem dG.gs(hX:bT X P){call:aZ}{fv:PV X.Γ}{xs:List (PV X.Γ)}{H H1 H2:List (PB X.Γ)}{v v':PV X.Γ}(hs:dG X P call fv xs H v H1)(gs:List G)(hg:lJ H.length gs (⟨[(0,.val v)],[],H1⟩:aU X.Γ)=some ⟨[(0,.val v')],[],H2⟩):dG X P call fv xs H v' H2:=by
 intro A m h tf qP hr hf hx;obtain⟨w,h',ws,m1,c1,c2,c3,c4,c5,c6⟩:=hs A m h tf qP hr hf hx;obtain⟨m2,q1,q2,q3⟩:=nC hX hg A (fun _=>True) 0 m1 ⟨[(0,.val w)],[],h',[]⟩ ⟨⟨c2,rfl,fun k cs hk=>by simp at hk,.cons c3 .nil⟩,fun b _=>.inl trivial,fun b hb=>(by cases hb),a5i _⟩;obtain⟨w',e1,e2⟩:=oN q1.st.env (t:=0) (v:=.val v') rfl;simp only[dQ,a2u,a0d]at e1;subst e1;refine⟨w,h',ws,m2,c1,q1.st.heap,e2,c4.trans q2,fun i mb hi=>?_,c6⟩;have aT:i<H.length:=by rw[<-hr.len];exact(a0h.1 hi).1
 rcases c5 i mb hi with g|g
 .exact q3 i mb aT g
 rcases q3 i _ aT g with g|g<;>exact .inr g
theorem dG.cut(hX:bT X P){call:aZ}{fv:PV X.Γ}{xs:List (PV X.Γ)}{H H1 H2:List (PB X.Γ)}{v:PV X.Γ}(hs:dG X P call fv xs H v H1)(h1:H1.take H.length=H2)(hb:nX (gB H.length) H2=some H2)(hl:decide (H.length<=H1.length)=true)(hv:fE (gB H.length) v=some v):dG X P call fv xs H v H2:=by
 intro A m h tf qP hr hf hx;obtain⟨w,h',ws,m1,c1,c2,c3,c4,c5,c6⟩:=hs A m h tf qP hr hf hx;have hl:=a7X hl;have hg:lJ H.length [.gc []] (⟨[(0,.val v)],[],H1⟩:aU X.Γ)=some ⟨[(0,.val v)],[],H2⟩:=by
  have e:pq (gB H.length) [(0,PE.val v)]=some [(0,.val v)]:=by simp only[pq,OD,hv,a0O]
  have qN:nX (fun i=>if i<H.length then some i else(wM [] i).map (·+H.length)) H2=some H2:=hb;have e':pq (fun i=>if i<H.length then some i else(wM [] i).map (·+H.length)) [(0,PE.val v)]=some [(0,.val v)]:=e;simp only[lJ,BH,List.all_nil,a6x,decide_true,Bool.and_self,ae1,hl,a2u,e',Xa,h1,qN,D8,nX,a6f]
 obtain⟨m2,q1,q2,q3⟩:=nC hX hg A (fun _=>True) 0 m1 ⟨[(0,.val w)],[],h',[]⟩ ⟨⟨c2,rfl,fun k cs hk=>by simp at hk,.cons c3 .nil⟩,fun b _=>.inl trivial,fun b hb=>(by cases hb),a5i _⟩;obtain⟨w',e1,e2⟩:=oN q1.st.env (t:=0) (v:=.val v) rfl;simp only[dQ,a2u,a0d]at e1;subst e1;refine⟨w,h',ws,m2,c1,q1.st.heap,e2,c4.trans q2,fun i mb hi=>?_,c6⟩;have aT:i<H.length:=by rw[<-hr.len];exact(a0h.1 hi).1
 rcases c5 i mb hi with g|g
 .exact q3 i mb aT g
 rcases q3 i _ aT g with g|g<;>exact .inr g
end
section
variable {X:kX} {P:LI1} {T:qM} {L f nt B:Nat} {gW:Bool} {call:aZ} {fO:eY X.Γ}
theorem yB(hX:bT X P)(hO:jK X P call fO){c:Code}{ps ps1:aU X.Γ}{an:PT X.Γ}{e:Ex}{o:OT (Ex×aU X.Γ)}
  (hk:jT X P T fO (dG X P call) (dR X P T call L f gW nt B) B L f gW nt c ps an afl=o) (ht:Fp (fun y=>y=(e,ps1)) an o):dR X P T call L f gW nt B c ps e ps1:=by
 obtain⟨y,h1,rfl⟩:=ht.aK;rw[<-hk]at h1;exact Xt hX hO h1
theorem Fp.xx{y:Ex×aU X.Γ}:Fp (fun z=>z=y) (.n:PT X.Γ) (.ret y):=.r rfl
end
theorem dG.forget{X:kX}{P:LI1}{call:aZ}{fv:PV X.Γ}{xs:List (PV X.Γ)}{H H1:List (PB X.Γ)}{v:PV X.Γ}(hs:dG X P call fv xs H v H1)(i:Nat):dG X P call fv xs H v (H1.set i .gone):=by intro A m h tf qP hr hf hx;obtain⟨w,h',ws,m1,c1,c2,c3,c4,c5,c6⟩:=hs A m h tf qP hr hf hx;have hg:=c2.aY [i];have hf2:=iw (h:=h') [i] m1;exact⟨w,h',ws,_,c1,hg,c3.step hf2.1 hf2.2,c4.trans hf2.1,c5.trans hf2.2,c6⟩
theorem rP{X:kX}{P:LI1}(hX:bT X P){call:aZ}{fO:eY X.Γ}(hO:jK X P call fO){f:FuncId}{first xs cap vs:List (PV X.Γ)}{v:PV X.Γ}{ps:List Prop}{H:List (PB X.Γ)}(hv:views H (first++xs++cap)=some vs)(ho:fO f vs=some (v,[],ps))(hp:∀p∈ps,p)(hl:xK v=true) :
  dG X P call (.fn f first cap) xs H (shift H.length v) (aY (l7.kH (first++xs++cap)) H):=by
 intro A m h tf qP hr hf hx;cases hf with
 |gone hi _ _=>simp[bn]at hi
 |fn p1 p2 p3 p4=>
  obtain⟨w,h1,m1,e1,e2,e3,e4,e5⟩:=I9 hX (hO f vs v [] ps ho hp) hr hv (ext':=[]) rfl ⟨p1,p2⟩ hx ⟨p3,p4⟩;simp only[hl,List.any_nil,Bool.true_or,a2u,a6f]at e2;exact⟨w,h1,[],m1,e1,e2,e3,e4,e5,fun b hb=>by cases hb⟩
section
variable {X:kX} {P:LI1} {A:Nat->Prop} {m:List MB} {h:List HB}
theorem VR.a1J{k:IntKind}{n:Int}{y:TV}(hy:VR X P A m h (.int k n) y):y=.int k n:=by
 cases hy with
 |int=>rfl
 |gone hi _ _=>simp[bn]at hi
theorem VR.Vf{f:FuncId}{y:TV}(hy:VR X P A m h (.fn f [] []) y):y=.fn f [] []:=by
 cases hy with
 |gone hi _ _=>simp[bn]at hi
 |fn p1 _ p3 _=>rw[a4I p1.symm,a4I p3.symm]
theorem aft{k ex:Bool}{t:Nat}{l:List (X.Γ t)}{x:TV}(hl:LR X P A m h k ex t l x):(l=[]∧x=.nil .aP)∨(l=[]∧∃b off sz cs,x=.aP b off 0 0 sz true∧A b∧aW h b=some cs∧off<=cs.length∧dH P t=some sz∧0<sz) ∨
  (l≠[]∧∃b sz e kk cs,x=.aP b 0 l.length l.length sz e∧dH P t=some sz∧0<sz∧h[b]? = some (.cells kk cs)∧kk≠.ro∧(k=true->kk=.own)∧(ex=true->e=true)∧cs.length=l.length*sz∧eF X P A m h t l cs 0 sz):=by
 cases hl with
 |nil=>exact .inl ⟨rfl,rfl⟩
 |emp p0 p1 p2 p3 p4=>exact .inr (.inl ⟨rfl,_,_,_,_,rfl,p0,p1,p2,p3,p4⟩)
 |some p1 p2 p3 p4 p5 p6 p7 p8 p9=>exact .inr (.inr ⟨p1,_,_,_,_,_,rfl,p2,p3,p4,p5,p6,p7,p8,p9⟩)
theorem aaw{H:List (PB X.Γ)}{i:Nat}{x:TV}{k ex:Bool}{t:Nat}{l:List (X.Γ t)}(hr:HR X P A m H h)(hi:H[i]? = some (.list k ex t l))(hv:VR X P (AA A m) m h (.own i) x):m[i]? = some (.dF x)∧LR X P (AA A m) m h k ex t l x:=by
 obtain⟨mb,g1,g2⟩:=hr.at_ i _ hi;cases hv with
 |own e _=>
  rw[g1]at e;cases e;exact⟨g1,g2⟩
 |gone KI e _=>
  simp only[bn,a0d]at KI;subst KI;rw[g1]at e;cases e<;>exact g2.elim
end
section
variable {X:kX} {P:LI1}
theorem nS.gs(hX:bT X P){call:aZ}{f:FuncId}{vs:List (PV X.Γ)}{v v':PV X.Γ}{ext ext':List (PB X.Γ)}(hc:nS X P call f vs v ext)(gs:List G)(hg:lJ 0 gs (⟨[(0,.val v)],[],ext⟩:aU X.Γ)=some ⟨[(0,.val v')],[],ext'⟩):nS X P call f vs v' ext':=by
 intro A h first args cap IZ hv
 obtain⟨w,h',m',c1,c2,c3,c4⟩:=hc A h first args cap IZ hv
 obtain⟨m2,q1,q2,q3⟩:=nC hX hg A (fun _=>True) 0 m' ⟨[(0,.val w)],[],h',[]⟩ ⟨⟨c2,rfl,fun k cs hk=>by simp at hk,.cons c3 .nil⟩,fun b _=>.inl trivial,fun b hb=>(by cases hb),a5i _⟩;obtain⟨w',e1,e2⟩:=oN q1.st.env (t:=0) (v:=.val v') rfl;simp only[dQ,a2u,a0d]at e1;subst e1;exact⟨w,h',m2,c1,q1.st.heap,e2,c4.trans q2⟩
theorem a6X{A:Nat->Prop}{m:List MB}{h:List HB}{t:Nat}{fu:Bool}{x:TV}(hv:VR X P A m h (.dF t [] fu) x):x=.nil .aP∨∃b off cap sz ex cs,x=.aP b off 0 cap sz ex∧A b∧aW h b=some cs∧dH P t=some sz∧0<sz∧off<=cs.length:=by
 generalize hl:([]:List (X.Γ t))=l at hv;cases hv with
 |pK=>exact .inl rfl
 |dF a c c2 s z o k f e r=>
  subst hl;exact .inr ⟨_,_,_,_,_,_,rfl,a,c,s,z,by simpa using o⟩
 |gone hi _ _=>simp[bn]at hi
theorem XA{A:Nat->Prop}{h:List HB}{t:Nat}{x:TV}(IZ:∀b,h.length<=b->A b)(hx:LR X P (AA A [.dF x]) [.dF x] h false false t [] x)(ho:(MB.dF x).own=none):HR X P A [.dF x] [.list false false t []] h:=by
 have hb:bg [MB.dF x]=[]:=by simp[bg,ho]
 refine⟨rfl,fun i b hi=>?_,by rw[hb];exact a6x,IZ,fun b qN=>by rw[hb]at qN;cases qN⟩;cases i with
 |zero=>simp only[a2Z,a0d]at hi;subst hi;exact⟨.dF x,rfl,hx⟩
 |succ i=>simp at hi
end
def jq{σ ρ:Type}(g:Nat->σ->σ⊕ρ):Nat->Nat->σ->σ⊕ρ
 | 0,_,s=>.inl s
 |m+1,k,s=>match g k s with
  |.inl s'=>jq g m (k+1) s'
  |.inr r=>.inr r
def aS{σ:Type}(g:Nat->σ->σ):Nat->Nat->σ->σ
 | 0,_,s=>s
 |m+1,k,s=>aS g m (k+1) (g k s)
theorem Tj{σ ρ:Type}{g:Nat->σ->σ}:∀(m k:Nat) (s:σ),jq (ρ:=ρ) (fun k s=>.inl (g k s)) m k s=.inl (aS g m k s)
 | 0,_,_=>rfl
 |m+1,k,s=>Tj m (k+1) (g k s)
theorem tV{σ:Type}{g:Nat->σ->σ}:∀(m k:Nat) (s:σ),aS g (m+1) k s=g (k+m) (aS g m k s)
 | 0,_,_=>rfl
 |m+1,k,s=>by rw[aS,tV m (k+1),show k+1+m=k+(m+1) by omega];rfl
theorem cO{σ:Type}{g:Nat->σ->σ}(Q:Nat->σ->Prop){m k:Nat}{s:σ}(h0:Q k s)(hs:∀j s,k<=j->j<k+m->Q j s->Q (j+1) (g j s)):Q (k+m) (aS g m k s):=by
 induction m with
 |zero=>exact h0
 |succ m ih=>rw[tV];exact hs (k+m) _ (by omega) (by omega) (ih fun j s h1 h2 h3=>hs j s h1 (by omega) h3)
theorem Ig{c:Nat->Bool}{ρ:Type}{r:Nat->ρ}:∀(m k:Nat),jZ (jq (σ:=Unit) (fun k _=>if c k=true then .inr (r k)else .inl ()) m k ())=true↔∀j,k<=j->j<k+m->c j=false
 | 0,k=>by simp[jq,jZ];omega
 |m+1,k=>by
  simp only[jq];by_cases hc:c k=true
  .simp only[hc,a2u,jZ,a2S,false_iff];intro h;have:=h k (a0P _) (by omega);rw[hc]at this;cases this
  simp only[hc,a2S,a3T];rw[Ig m (k+1)];constructor
  .intro h j h1 h2;rcases a4N k j with h3|h3
   .exact h j h3 (by omega)
   rw[show j=k by omega];simpa using hc
  intro h j h1 h2;exact h j (by omega) (by omega)
theorem XB{c:Nat->Bool}{ρ:Type}{r:Nat->ρ}{m k:Nat}(h:jZ (jq (σ:=Unit) (fun k _=>if c k=true then .inr (r k)else .inl ()) m k ())=false):∃j,k<=j∧j<k+m∧c j=true∧(∀i,k<=i->i<j->c i=false)∧jq (σ:=Unit) (fun k _=>if c k=true then .inr (r k)else .inl ()) m k ()=.inr (r j):=by
 induction m generalizing k with
 |zero=>simp[jq,jZ]at h
 |succ m ih=>
  simp only[jq]at h ⊢;by_cases hc:c k=true
  .simp only[hc,a2u];exact⟨k,a0P _,by omega,hc,fun i h1 h2=>by omega,rfl⟩
  simp only[hc,a2S,a3T]at h ⊢;obtain⟨j,h1,h2,h3,h4,h5⟩:=ih h;exact⟨j,by omega,by omega,h3,fun i hi1 KI=>by
   rcases a4N k i with h6|h6
   .exact h4 i h6 KI
   rw[show i=k by omega];simpa using hc,h5⟩
abbrev gS(c:Nat->Bool)(k:Nat)(_:Unit):Unit⊕Nat:=if c k=true then .inr k else .inl ()
abbrev bG(c:Nat->Bool)(N:Nat):Unit⊕Nat:=jq (gS c) N 0 ()
theorem dL{c:Nat->Bool}{N:Nat}:jZ (bG c N)=true↔∀j,j<N->c j=false:=by unfold bG gS;rw[Ig (r:=fun k=>k)];exact⟨fun h j hj=>h j (by omega) (by omega),fun h j _ hj=>h j (by omega)⟩
theorem AQ{c:Nat->Bool}{N:Nat}(h:jZ (bG c N)=false):∃j,j<N∧c j=true∧(∀i,i<j->c i=false)∧bG c N=.inr j:=by obtain⟨j,_,h2,h3,h4,h5⟩:=XB (r:=fun k=>k) h;exact⟨j,by omega,h3,fun i hi=>h4 i (by omega) hi,h5⟩
abbrev Tn(c:Nat->Bool)(a N:Nat):Unit⊕Nat:=jq (gS c) (N-a) a ()
def P6{σ:Type}(g:Nat->σ->σ):Nat->σ->σ
 | 0,s=>s
 |k+1,s=>P6 g k (g k s)
theorem Tq{σ:Type}{g:Nat->σ->σ}(Q:Nat->σ->Prop):∀{k:Nat} {s:σ},Q k s->(∀j s,j<k->Q (j+1) s->Q j (g j s))->Q 0 (P6 g k s)
 | 0,_,h,_=>h
 |k+1,s,h,hs=>Tq Q (k:=k) (hs k s (by omega) h) fun j s h1 h2=>hs j s (by omega) h2
theorem P7{α:Type}{l:List α}{d:α}{p:α->Prop}:(∀j,j<l.length->p (l.getD j d))↔∀a∈l,p a:=by
 constructor
 .intro h a ha;obtain⟨j,hj,rfl⟩:=a5d.1 ha;simpa[List.getD,a0q hj]using h j hj
 intro h j hj;have:l.getD j d=l[j]:=by simp[List.getD,a0q hj]
 rw[this];exact h _ (a4Z hj)
theorem qx{α:Type}{a b:List α}{d:α}(hl:a.length=b.length):a=b↔∀j,j<a.length->a.getD j d=b.getD j d:=by
 constructor
 .rintro rfl j _;rfl
 intro h;apply a9H hl;intro j h1 h2;simpa[List.getD,a0q h1,a0q h2]using h j h1
section
variable {X:kX} {P:LI1} {T:qM} {L:Nat} {f nt B:Nat} {gW:Bool} {call:aZ} {b:Code} {σ ρ:Type}
def vK(out:σ⊕ρ->Ex×aU X.Γ)(g:Nat->σ->σ⊕ρ)(m k:Nat):σ⊕ρ->Ex×aU X.Γ
 |.inl s=>out (jq g m k s)
 |.inr r=>out (.inr r)
theorem P8{N:Nat}{st:Int->σ->aU X.Γ}{g:Nat->σ->σ⊕ρ}{out:σ⊕ρ->Ex×aU X.Γ}{s0:σ}{w:aU X.Γ}(Inv:Nat->σ->Prop)(h0:gU X (T.eX f (dW b)) w=st 0 s0)(hl:N<=ah)(hL:ah<L)(hi:Inv 0 s0)
  (hs:∀(k:Nat) (s:σ) (n:Nat),k<N->Inv k s->(∀s1,Inv (k+1) s1->dM X P T call L f gW nt B b n (st (i64.wrap (k+1)) s1) (vK out g (N-(k+1)) (k+1) (.inl s1)).1 (vK out g (N-(k+1)) (k+1) (.inl s1)).2) ->
   dM X P T call L f gW nt B b (n+1) (st k s) (vK out g (N-(k+1)) (k+1) (g k s)).1 (vK out g (N-(k+1)) (k+1) (g k s)).2)
  (ho:∀s,Inv N s->dM X P T call L f gW nt B b 1 (st N s) (out (.inl s)).1 (out (.inl s)).2) :
  dR X P T call L f gW nt B (.loop b) w (out (jq g N 0 s0)).1 (out (jq g N 0 s0)).2:=by
 have key:∀(m k:Nat) (s:σ),k+m=N->Inv k s->dM X P T call L f gW nt B b (m+1) (st k s) (out (jq g m k s)).1 (out (jq g m k s)).2:=by
  intro m
  induction m with
  |zero=>
   intro k s hk hr;have:k=N:=(by omega);subst this;exact ho s hr
  |succ m ih=>
   intro k s hk hr;have aT:k<N:=(by omega);have h1:=hs k s (m+1) aT hr fun s1 h=>by have:=ih (k+1) s1 (by omega) h;rw[yA (by omega),show N-(k+1)=m by omega];exact this
   rw[show N-(k+1)=m by omega]at h1;simp only[jq];cases hg:g k s with
   |inl s1=>rw[hg]at h1;exact h1
   |inr r=>rw[hg]at h1;exact h1
 exact zI (key N 0 s0 (by omega) hi) h0 (by omega)
theorem afu{a N:Nat}{st:Int->σ->aU X.Γ}{g:Nat->σ->σ⊕ρ}{out:σ⊕ρ->Ex×aU X.Γ}{s0:σ}{w:aU X.Γ}(Inv:Nat->σ->Prop)(h0:gU X (T.eX f (dW b)) w=st a s0)(ha:a<=N)(hl:N<=ah)(hL:ah<L)(hi:Inv a s0)
  (hs:∀(k:Nat) (s:σ) (n:Nat),a<=k->k<N->Inv k s->(∀s1,Inv (k+1) s1->dM X P T call L f gW nt B b n (st (i64.wrap (k+1)) s1) (vK out g (N-(k+1)) (k+1) (.inl s1)).1 (vK out g (N-(k+1)) (k+1) (.inl s1)).2) ->
   dM X P T call L f gW nt B b (n+1) (st k s) (vK out g (N-(k+1)) (k+1) (g k s)).1 (vK out g (N-(k+1)) (k+1) (g k s)).2)
  (ho:∀s,Inv N s->dM X P T call L f gW nt B b 1 (st N s) (out (.inl s)).1 (out (.inl s)).2) :
  dR X P T call L f gW nt B (.loop b) w (out (jq g (N-a) a s0)).1 (out (jq g (N-a) a s0)).2:=by
 have key:∀(m k:Nat) (s:σ),a<=k->k+m=N->Inv k s->dM X P T call L f gW nt B b (m+1) (st k s) (out (jq g m k s)).1 (out (jq g m k s)).2:=by
  intro m
  induction m with
  |zero=>
   intro k s _ hk hr;have:k=N:=(by omega);subst this;exact ho s hr
  |succ m ih=>
   intro k s ak hk hr;have aT:k<N:=(by omega);have h1:=hs k s (m+1) ak aT hr fun s1 h=>by have:=ih (k+1) s1 (by omega) (by omega) h;rw[yA (by omega),show N-(k+1)=m by omega];exact this
   rw[show N-(k+1)=m by omega]at h1;simp only[jq];cases hg:g k s with
   |inl s1=>rw[hg]at h1;exact h1
   |inr r=>rw[hg]at h1;exact h1
 exact zI (key (N-a) a s0 (a0P _) (by omega) hi) h0 (by omega)
theorem P9{N:Nat}{st:Int->σ->aU X.Γ}{g:Nat->σ->σ}{e:Ex}{fin:σ->aU X.Γ}{s0:σ}{w:aU X.Γ}(Inv:Nat->σ->Prop)(h0:gU X (T.eX f (dW b)) w=st 0 s0)(hl:N<=ah)(hL:ah<L)(hi:Inv 0 s0)(hv:∀k s,k<N->Inv k s->Inv (k+1) (g k s))
  (hs:∀(k:Nat) (s:σ),k<N->Inv k s->∀n e1 p,dM X P T call L f gW nt B b n (st (i64.wrap (k+1)) (g k s)) e1 p->dM X P T call L f gW nt B b (n+1) (st k s) e1 p)
  (ho:∀s,Inv N s->dM X P T call L f gW nt B b 1 (st N s) e (fin s)):dR X P T call L f gW nt B (.loop b) w e (fin (aS g N 0 s0)):=by
 have:=P8 (X:=X) (P:=P) (T:=T) (call:=call) (f:=f) (gW:=gW) (nt:=nt) (B:=B) (b:=b) (ρ:=Empty) (N:=N) (st:=st) (g:=fun k s=>.inl (g k s)) (out:=fun x=>(e,fin (aoZ x))) (s0:=s0) (w:=w) Inv h0 hl hL hi
  (fun k s n hk hr h=>hs k s hk hr n _ _ (h _ (hv k s hk hr))) ho
 rw[Tj]at this;exact this
theorem aji{N:Nat}{st:Int->σ->aU X.Γ}{g:Nat->σ->σ}{e:Ex}{fin:σ->aU X.Γ}{s0:σ}{w:aU X.Γ}(Inv:Nat->σ->Prop)(h0:gU X (T.eX f (dW b)) w=st (i64.wrap ((N:Int)-1)) s0)(hl:N<=ah)(hL:ah<L)(hi:Inv N s0)(hv:∀k s,k<N->Inv (k+1) s->Inv k (g k s))
  (hs:∀(k:Nat) (s:σ),k<N->Inv (k+1) s->∀n e1 p,dM X P T call L f gW nt B b n (st (i64.wrap (k-1)) (g k s)) e1 p->dM X P T call L f gW nt B b (n+1) (st k s) e1 p)
  (ho:∀s,Inv 0 s->dM X P T call L f gW nt B b 1 (st (-1) s) e (fin s)):dR X P T call L f gW nt B (.loop b) w e (fin (P6 g N s0)):=by
 have wr:∀k:Nat,k<=ah->i64.wrap ((k:Int)-1)=(k:Int)-1:=by
  intro k hk;cases k with
  |zero=>rfl
  |succ k=>
   have:=yA (k:=k) (by omega);rw[show((k+1:Nat):Int)-1=(k:Int) by omega];unfold ah at hk;simp only[IntKind.wrap,IntKind.bits,IntKind.signed];have:(k:Int)%(2^64:Int)=(k:Int):=a8U (by omega) (by omega);simp only[this];rw[a0E (by simp;omega)]
 have key:∀(k:Nat) (s:σ),k<=N->Inv k s->dM X P T call L f gW nt B b (k+1) (st ((k:Int)-1) s) e (fin (P6 g k s)):=by
  intro k
  induction k with
  |zero=>intro s _ hr;exact ho s hr
  |succ k ih=>
   intro s hk hr;have h1:=ih (g k s) (by omega) (hv k s (by omega) hr);rw[<-wr k (by omega)]at h1;rw[show((k+1:Nat):Int)-1=(k:Int) by omega];exact hs k s (by omega) hr _ _ _ h1
 rw[wr N hl]at h0;exact zI (key N s0 (a0P _) hi) h0 (by omega)
end
end Pv
namespace bP
open Go Tw Pv
def bC:LI0->Int
 | []=>1
 |a::t=>a*bC t
def lQ:LI0->Int->LI0
 | [],_=>[]
 |a::t,n=>(n/bC t)%a::lQ t n
def ji:LI0->LI0->Int
 |a::t,d::p=>d*bC t+ji t p
 |_,_=>0
def kF:LI0->LI0->Bool
 | [],[]=>true
 |a::t,d::p=>decide (0<=d∧d<a)&&kF t p
 |_,_=>false
def nR(s:LI0):Prop:=∀a∈s,1<=a∧a<=12
instance (s:LI0):Decidable (nR s):=inferInstanceAs (Decidable (∀a∈s,1<=a∧a<=12))
structure vk(s:LI0):Prop where
 len:s.length<=6
 sz:nR s
 many:bC s<=2000
def jW(n:Nat)(o:LI0):Bool:=decide (o.length=n∧(∀a∈o,0<=a∧a<n)∧o.Nodup)
theorem fK{z:Int}(h0:-(2^62)<=z)(h1:z<2^62):i64.wrap z=z:=by
 simp only[IntKind.wrap,IntKind.bits,IntKind.signed];rcases Int.lt_or_le z 0 with h|h
 .have:z%(2^64:Int)=z+2^64:=by have:=acp z (2^64) 1;rw[acE]at this;rw[<-this];exact a8U (by omega) (by omega)
  simp only[this];rw[a0F (by simp;omega)];omega
 have:z%(2^64:Int)=z:=a8U h (by omega);simp only[this];rw[a0E (by simp;omega)]
theorem nR.tail{a:Int}{t:LI0}(h:nR (a::t)):nR t:=fun b hb=>h b (a3y _ hb)
theorem jo:∀{s:LI0},nR s->1<=bC s
 | [],_=>a9r _
 |a::t,h=>by have h1:=h a (a3x ..);have h2:=jo h.tail;have:=Int.mul_le_mul h1.1 h2 (by omega) (by omega);simpa[bC]using this
theorem Ep:∀(s t:LI0),bC (s++t)=bC s*bC t
 | [],t=>by simp[bC]
 |a::s,t=>by simp[bC,Ep s t,Int.mul_assoc]
theorem QY{s:LI0}(h:nR s)(k:Nat):bC (s.take k)<=bC s:=by
 have e:bC s=bC (s.take k)*bC (s.drop k):=by rw[<-Ep,List.take_append_drop]
 have h1:1<=bC (s.take k):=jo fun a ha=>h a (a9I ha);have h2:1<=bC (s.drop k):=jo fun a ha=>h a (a5Z ha);have:=a9k h2 (show 0<=bC (s.take k) by omega);omega
theorem XC:∀(s:LI0) (n:Int),(lQ s n).length=s.length
 | [],_=>rfl
 |_::t,n=>by simp[lQ,XC t n]
theorem Tt:∀(s:LI0) (n:Int) (k:Nat),k<s.length->(lQ s n).getD k 0=(n/bC (s.drop (k+1)))%s.getD k 0
 | [],_,k,h=>by simp at h
 |a::t,n,0,_=>by simp[lQ]
 |a::t,n,k+1,h=>by have:=Tt t n k (by simpa using h);simpa[lQ]using this
theorem uN:∀{s p:LI0},kF s p=true->p.length=s.length
 | [],[],_=>rfl
 |a::t,d::p,h=>by simp only[kF,a2O]at h;simp[uN h.2]
 | [],_::_,h=>by cases h
 |_::_,[],h=>by cases h
theorem uO:∀{s p:LI0},kF s p=true↔p.length=s.length∧∀j,j<s.length->0<=p.getD j 0∧p.getD j 0<s.getD j 0
 | [],[]=>by simp[kF]
 |a::t,d::p=>by
  simp only[kF,a2O,a1z,uO (s:=t),a4K];constructor
  .rintro⟨h1,h2,h3⟩;refine⟨by omega,fun j hj=>?_⟩;cases j with
   |zero=>simpa using h1
   |succ j=>simpa using h3 j (by omega)
  rintro⟨h1,h2⟩;exact⟨by simpa using h2 0 (by omega),by omega,fun j hj=>by simpa using h2 (j+1) (by omega)⟩
 | [],_::_=>by simp[kF]
 |_::_,[]=>by simp[kF]
theorem Dq:∀{s p:LI0},kF s p=true->nR s->0<=ji s p∧ji s p<bC s
 | [],[],_,_=>by simp[ji,bC]
 |a::t,d::p,h,hs=>by simp only[kF,a2O,a1z]at h;have ih:=Dq h.2 hs.tail;have hp:=jo hs.tail;simp only[ji,bC];have h1:0<=d*bC t:=agG h.1.1 (by omega);have h2:(d+1)*bC t<=a*bC t:=aaS (by omega) (by omega);rw[ahH,Int.one_mul]at h2;omega
theorem Es:∀{s:LI0} (n:Int),nR s->kF s (lQ s n)=true
 | [],_,_=>rfl
 |a::t,n,hs=>by simp only[lQ,kF,a2O,a1z];have:=hs a (a3x ..);exact⟨⟨ahw _ (by omega),Int.emod_lt_of_pos _ (by omega)⟩,Es n hs.tail⟩
theorem Du:∀{s:LI0} (n:Int),nR s->lQ s (n%bC s)=lQ s n
 | [],_,_=>rfl
 |a::t,n,hs=>by
  have hp:=jo hs.tail;have ha:=hs a (a3x ..);simp only[lQ,bC];have e1:n%(a*bC t)/bC t%a=n/bC t%a:=by rw[Int.emod_def n,show n-a*bC t*(n/(a*bC t))=n+(-(a*(n/(a*bC t))))*bC t by rw[Int.neg_mul,Int.mul_right_comm];rfl,Int.add_mul_ediv_right _ _ (by omega),show n/bC t+-(a*(n/(a*bC t)))=n/bC t+a*(-(n/(a*bC t))) by rw[Int.mul_neg],acp]
  have e2:lQ t (n%(a*bC t))=lQ t n:=by rw[<-Du (n%(a*bC t)) hs.tail,<-Du n hs.tail,Int.emod_emod_of_dvd n (Int.dvd_mul_left a (bC t))]
  rw[e1,e2]
theorem Nc:∀{s:LI0} {n:Int},nR s->0<=n->n<bC s->ji s (lQ s n)=n
 | [],n,_,h0,h1=>by simp[bC]at h1;simp[lQ,ji];omega
 |a::t,n,hs,h0,h1=>by have hp:=jo hs.tail;have ha:=hs a (a3x ..);simp only[lQ,ji];simp only[bC]at h1;have h2:0<=n/bC t:=ahx h0 (by omega);have h3:n/bC t<a:=Int.ediv_lt_of_lt_mul (by omega) h1;rw[a8U h2 h3,<-Du n hs.tail,Nc hs.tail (ahw _ (by omega)) (Int.emod_lt_of_pos _ (by omega))];exact Int.ediv_mul_add_emod n (bC t)
theorem Vg:∀{s p:LI0},kF s p=true->nR s->lQ s (ji s p)=p
 | [],[],_,_=>rfl
 |a::t,d::p,h,hs=>by
  simp only[kF,a2O,a1z]at h;have ih:=Vg h.2 hs.tail;have hr:=Dq h.2 hs.tail;have hp:=jo hs.tail;simp only[lQ,ji];have e1:(d*bC t+ji t p)/bC t=d:=by rw[ahy,Int.add_mul_ediv_right _ _ (by omega),Int.ediv_eq_zero_of_lt hr.1 hr.2];omega
  have e2:lQ t (d*bC t+ji t p)=lQ t (ji t p):=by rw[<-Du _ hs.tail,ahy,Int.add_mul_emod_self_right,Du _ hs.tail]
  rw[e1,e2,ih,a8U h.1.1 h.1.2]
theorem dB{s:LI0}{k:Nat}(h:k<s.length):s.getD k 0∈s:=by
 have:s.getD k 0=s[k]:=by simp[List.getD,a0q h]
 rw[this];exact a4Z h
theorem Pg{s:LI0}{k:Nat}(h:k<s.length):bC (s.drop k)=s.getD k 0*bC (s.drop (k+1)):=by rw[a6G h];simp[bC,List.getD,a0q h]
theorem zy{l:LI0}{i j:Nat}{a:Int}(h:i<l.length):(l.set i a).getD j 0=if i=j then a else l.getD j 0:=by simp only[a3s,aa2];split<;>simp_all
def a3z(s:LI0)(k:Nat)(x:Int×LI0):Int×LI0:=(UO .i64 x.1 (s.getD k 0),x.2.set k (OC .i64 x.1 (s.getD k 0)))
theorem afv{a b:Int}(h0:0<=a)(h1:a<2^62)(hb:0<b):UO .i64 a b=a/b:=by have:a/b<=a:=Int.ediv_le_self b h0;have h2:0<=a/b:=ahx h0 (by omega);rw[UO,Int.tdiv_eq_ediv_of_nonneg h0,fK (by omega) (by omega)]
theorem afw{a b:Int}(h0:0<=a)(h1:a<2^62)(hb:0<b):OC .i64 a b=a%b:=by
 have h2:0<=a%b:=ahw _ (by omega);have h3:a%b<=a:=by have:=Int.emod_def a b;have h4:0<=b*(a/b):=agG (by omega) (ahx h0 (by omega));omega
 rw[OC,Int.tmod_eq_emod_of_nonneg h0]
theorem a6Y{s:LI0}{n:Int}(hs:nR s)(h0:0<=n)(h1:n<2^62){o:LI0}(ho:o.length=s.length):(P6 (a3z s) s.length (n,o)).2=lQ s n:=by
 have:=Tq (g:=a3z s) (k:=s.length) (s:=(n,o)) (fun k x=>x.1=n/bC (s.drop k)∧x.2.length=s.length∧∀j,k<=j->j<s.length->x.2.getD j 0=(lQ s n).getD j 0)
  ⟨by simp[bC],ho,fun j h1 h2=>by omega⟩ (fun k x hk hx=>by
   obtain⟨e1,e2,e3⟩:=hx;have hp:1<=bC (s.drop (k+1)):=jo fun a ha=>hs a (a5Z ha);have ha:=hs _ (dB hk);have hx0:0<=x.1:=by rw[e1];exact ahx h0 (by omega)
   have hx1:x.1<=n:=by rw[e1];exact Int.ediv_le_self _ h0
   simp only[a3z];rw[afv hx0 (by omega) (by omega),afw hx0 (by omega) (by omega)];refine⟨?_,by simp[e2],fun j h2 h3=>?_⟩
   .rw[Pg hk,Int.mul_comm,<-Int.ediv_ediv_of_nonneg (by omega),e1]
   .rw[zy (by omega)];split
    .rename_i e;subst e;rw[Tt s n k hk,e1]
    .exact e3 j (by omega) h3)
 obtain⟨_,e2,e3⟩:=this;rw[qx (d:=0) (by rw[e2,XC])];intro j hj;exact e3 j (a5i _) (by omega)
def Fj(s:LI0):Int:=aS (fun k n=>if i64.wrap (n*s.getD k 0)<3000 then i64.wrap (n*s.getD k 0)else 3000) s.length 0 1
theorem XD{s:LI0}(hs:nR s):Fj s=min 3000 (bC s):=by
 have:=cO (g:=fun k n=>if i64.wrap (n*s.getD k 0)<3000 then i64.wrap (n*s.getD k 0)else 3000) (m:=s.length) (k:=0) (s:=(1:Int)) (fun k n=>n=min 3000 (bC (s.take k))) (by simp[bC];decide) (fun j n h1 h2 h3=>by
  have hj:j<s.length:=by omega
  have ha:=hs _ (dB hj);have hp:1<=bC (s.take j):=jo fun a ha=>hs a (a9I ha);have e:bC (s.take (j+1))=bC (s.take j)*s.getD j 0:=by rw[a8n hj,Ep];simp[bC,List.getD,a0q hj]
  have hn0:1<=n:=by omega
  have hn1:n<=3000:=by omega
  have h4:n*s.getD j 0<=3000*12:=Int.mul_le_mul hn1 ha.2 (by omega) (by omega);have h5:1<=n*s.getD j 0:=by have:=Int.mul_le_mul hn0 ha.1 (by omega) (by omega);omega
  rw[fK (by omega) (by omega),e];by_cases hc:bC (s.take j)<=3000
  .have:n=bC (s.take j):=(by omega);rw[this];split<;>omega
  have:n=3000:=by omega
  subst this;have h6:3000*s.getD j 0<=bC (s.take j)*s.getD j 0:=aaS (by omega) (by omega);have h7:3000<=3000*s.getD j 0:=by omega
  split<;>omega)
 rw[a3W,adC]at this;exact this
theorem vk.acN{s:LI0}(h:vk s):Fj s=bC s:=by rw[XD h.sz];have:=h.many;omega
abbrev Ce(s:LI0):Nat:=(bC s).toNat
theorem vk.a3A{s:LI0}(h:vk s):((Ce s:Nat):Int)=bC s:=by have:=jo h.sz;show((bC s).toNat:Int)=_;omega
theorem vk.Ce{s:LI0}(h:vk s):((Ce s:Nat):Int)=Fj s:=by rw[h.acN,h.a3A]
theorem vk.lt{s:LI0}(h:vk s){k:Nat}(hk:k<bP.Ce s):decide ((k:Int)<Fj s)=true:=by rw[<-h.Ce];exact bD hk
theorem vk.no{s:LI0}(h:vk s):decide (((bP.Ce s:Nat):Int)<Fj s)=false:=by rw[<-h.Ce];exact fD _
theorem vk.ajj{s:LI0}(h:vk s):s.length<=ah:=by have:=h.len;unfold ah;omega
theorem Ph{α:Type}(f:Nat->α)(n:Nat):aS (fun k (s:List α)=>s++[f k]) n 0 []=(List.range n).map f:=by have:=cO (g:=fun k (s:List α)=>s++[f k]) (m:=n) (k:=0) (s:=[]) (fun k s=>s=(List.range k).map f) rfl (fun j s _ _ h=>by rw[h,aci,a4J];rfl);simpa using this
end bP
namespace Tw
open Go Go.Proofs Go.Shelf
section
variable {P:LI1} {ρ:Ren}
theorem a3B{M:Mp}{w:LI4}{h:List HB}(hV:Valid M uU (l9 h) w){b off len cap:Nat}{ex:Bool}{y:LI3}(hx:VR M.h (.aP b off len cap 1 ex) y)(h0:0<len){k:BK}{cs r:List TV}(hb:h[b]? = some (.cells k cs))(hk:k≠.ro)
  (hl:k=.last->off+cap=cs.length) (hr:sub cs off len=some r) :
  ∃ls p cap',M (.h b)=some (.cells ls)∧p∈ls∧y=.slice (some ⟨p.c,off,none⟩) len cap'∧len<=cap'∧cap<=cap'∧off+cap<=p.ext∧off+cap'<=p.tot∧cap'<2^63∧NR M.h w k cs p∧p.base=0∧(∀c∈cs,iY c=true) ∧
   ∃xs:List LI3,bY M.h r xs∧∀(j:Nat) (v:LI3),xs[j]? = some v->w.cell? ⟨p.c,off+j,none⟩=some v:=by
 cases hx with
 |aP hm hp FH hle wF hex ha ap3=>
  rename_i ls p a cap';obtain⟨gq,h1,h2⟩:=hV.ok _ _ hm trivial;have hg:l9 h (.h b)=some (.cells k cs):=by simp[St.get,hb]
  rw[hg]at h1;cases h1;have hp:=hp.resolve_left (by omega);have Gt:=h2.2.1 p hp;have zZ:=Gt.base hk;rcases ha with ha|⟨rfl,ha⟩
  .omega
  obtain⟨xs,g1,g2⟩:=Gt.slice hr (by omega) (fun e=>by have:=hl e;have:=Gt.ext;omega);rw[zZ]at g2 ha ⊢;simp only[a3W,ahI]at g2 ha FH ⊢;exact⟨ls,p,cap',hm,hp,rfl,by omega,wF,FH,ha,ap3,Gt,zZ,h2.1,xs,g1,g2⟩
end
open Go.Sort
theorem afx{N:Np}{k:IntKind}{n:Int}{y:LI3}(h:VR N (.int k n) y):y=.int k n:=by cases h;rfl
section
variable {P:LI1} {M:Mp} {D:Key->Prop} {C:Ct} {w w':LI4}
theorem afy(h:Valid M D C w){k:Key}{ls:List Pl}{p:Pl}{cs cs':List TV}{kk BD:BK}
  (hk:M k=some (.cells ls)) (hd:D k) (hc:C k=some (.cells kk cs)) (hp:p∈ls) (xZ:(kk=.own∧BD=.own)∨((kk=.grow∨kk=.last)∧BD=.last∧p.ext=cs.length))
  (hl:cs'.length=cs.length) (hn:∀c∈cs',iY c=true) {uV:Array LI3} {ty':LI2} (yP:w'.heap[p.c]? = some (.cells uV ty' (0,0))) (hs':uV.size=p.tot)
  (WX:∀c,c<w.heap.size->c≠p.c->w'.heap[c]? = w.heap[c]?) (vC:w.heap.size<=w'.heap.size) (ho:w'.os=w.os) (hou:w'.output=w.output) (ht:w'.tape=w.tape)
  (a6Z:∀(i:Nat) (c:TV) (v:LI3),cs'[i]? = some c->uV[i]? = some v->VR M.h c v) :
  Valid M D (lZ C k (.cells BD cs')) w'∧Ext M C w M (lZ C k (.cells BD cs')) w' [k]:=by
 obtain⟨hb,he,h1,Gt,jH,huq,arr,ty,hr,hs,hle,hv⟩:=h.wrB hk hd hc hp xZ;have iD:kk≠.ro:=by rcases xZ with⟨e,_⟩|⟨e|e,_⟩<;>rw[e]<;>simp
 have YL:∀b0,C k=some b0->wr b0=true:=fun b0 zZ=>by rw[hc]at zZ;cases zZ;cases kk<;>simp_all [wr]
 have qK:dN M k (.cells ls)=M:=J8 hk;have gJ:∀c,c<w.heap.size->c∉aI (.cells ls)->w'.heap[c]? = w.heap[c]?:=fun c hc0 hc=>WX c hc0 (fun e=>hc (by rw[e];exact a0V.2 ⟨p,hp,rfl⟩));have fV:∀c∈aI (.cells ls),(∃l0,M k=some l0∧c∈aI l0)∨w.heap.size<=c:=fun c hc=>.inl ⟨_,hk,hc⟩;have Ja:sK M (dN M k (.cells ls)):=by rw[qK];exact .refl _
 have aT:∀q∈ls,q.c<w.heap.size:=fun q hq=>h.inb _ _ hk q.c (a0V.2 ⟨q,hq,rfl⟩);refine⟨?_,?_⟩
 .have:=h.upd (D':=D) (w':=w') k (.cells BD cs') (.cells ls) (fun j hj=>.inl hj) (fun l0 h0=>by
   rw[hk]at h0;cases h0;exact⟨hd,.refl _,YL⟩) gJ fV vC (by
   rw[qK];refine⟨hn,fun q hq=>?_,fun e=>?_,fun e=>⟨jH,fun q1 IX q2 GH e1 e2=>by rw[huq q1 IX (by omega),huq q2 GH (by omega)]⟩⟩
   .have Z5:=Gt q hq;by_cases YM:q.c=p.c
    .have:=NV jH hp hq YM;subst this;exact⟨⟨uV,ty',(0,0),yP,hs',fun _=>rfl,fun _ i c v _ a b=>a6Z i c v a (by simpa[hb]using b)⟩,by omega,by omega,fun _=>hb⟩
    .obtain⟨ap4,ty2,fz2,t1,t2,t3,t4⟩:=Z5.row;refine⟨⟨ap4,ty2,fz2,(WX q.c (aT q hq) YM).trans t1,t2,fun _=>t3 iD,fun hz i c v hi a b=>?_⟩,Z5.fit,by have:=Z5.ext;omega,fun _=>Z5.base iD⟩;exfalso;apply YM;rcases xZ with⟨e,_⟩|⟨_,e,_⟩
     .obtain⟨b',g1,g2⟩:=h.ok k _ hk hd;rw[hc]at g1;cases g1;obtain⟨q',g3,_⟩:=g2.2.2.1 e;rw[g3]at hq hp;simp at hq hp;rw[hq,hp]
     .rw[huq q hq (by rw[hz e];omega)]
   .rcases xZ with⟨e0,_⟩|⟨_,e1,_⟩
    .obtain⟨b',g1,g2⟩:=h.ok k _ hk hd;rw[hc]at g1;cases g1;obtain⟨q',g3,g4⟩:=g2.2.2.1 e0;exact⟨q',g3,by omega⟩
    .rw[e1]at e;cases e)
  rwa [qK]at this
 .have:=Ext.upd (M:=M) (C:=C) (w:=w) (w':=w') k (.cells BD cs') (.cells ls) [k] (.inl ⟨by simp[hc],rfl,by simp[hk],YL⟩) Ja gJ fV vC ho hou ht
  rwa [qK]at this
end
def KY:List TV->Option LI0
 | []=>some []
 |.int .i64 n::r=>(KY r).map (n::·)
 |_=>none
theorem Pj:∀{cs:List TV} {zs:LI0},KY cs=some zs->cs=zs.map fun n=>TV.int .i64 n
 | [],zs,h=>by simp[KY]at h;subst h;rfl
 |c::r,zs,h=>by
  unfold KY at h;split at h
  .rename_i e;cases e
  .rename_i n r' e;cases e;simp only[a0l]at h;obtain⟨ys,h1,rfl⟩:=h;rw[Pj h1];rfl
  cases h
def gV(l:LI0):LI0:=l.mergeSort fun x y=>decide (x<=y)
def a7a(g:LI0->LI0)(fI:Nat):aZ
 |.fn f [] [],[d],h=>
  if f=fI then
   match d with
   |.nil .aP=>some (.dJ [],h,[])
   |.aP _ _ 0 _ _ _=>some (.dJ [],h,[])
   |.aP b 0 n n' 1 _=>match h[b]? with
    |some (.cells k cs)=>match Ac k true,KY cs with
     |some k',some zs=>if n=n'∧cs.length=n∧0<n∧n<=2^20 then some (.dJ [],h.set b (.cells k' ((g zs).map fun x=>TV.int .i64 x)),[b])else none
     |_,_=>none
    |_=>none
   |_=>none
  else none
 |_,_,_=>none
def Pm:Nat->aZ:=a7a gV
section
variable {P:LI1} {ρ:Ren}
theorem XE(L:Lays.n189 P ρ):iF P (Pm (ρ.f 189)):=by
 intro fv args h v h' ws hc M w x xs hV zn hx Oa;unfold Pm a7a at hc;split at hc
 case h_2=>cases hc
 rename_i f d;split at hc
 case isFalse=>cases hc
 rename_i hf;subst hf;cases hx with
 | @fn _ _ _ ys zs h1 h1a h3 h3a=>
 have:ys=[]:=a4I h1.symm;subst this;have:zs=[]:=a4I h3.symm;subst this;obtain⟨dv,r1,rfl,hdv,Oa⟩:=Oa.iQ;have:=Oa.qp;subst this;have enters:∀{R:LI3->LI4->Prop},Calls P (ρ.f 189) #[dv] w (LD R) ->
   ∃d,(∀w,(Deferred.ofValue (.func (.func (ρ.f 189)) [].toArray [].toArray) [dv].toArray).run P w=.ok d w)∧((Me P d w R∧∃f a b,(TV.fn (ρ.f 189) [] [])=.fn f a b)∨(Uu P d w R∧∃l,(TV.fn (ρ.f 189) [] [])=.kU l)):=by
  intro R Vh;refine⟨{ target:=.fn (.func (ρ.f 189)) #[],args:=#[dv] },fun w=>by simp[Deferred.ofValue],.inl ⟨⟨ρ.f 189,_,?_,fun n=>callsIn_wide.2 Vh⟩,_,_,_,rfl⟩⟩;have e1:=L.f189;have e2 : ¬ (Body.n189 ρ).name = "runtime.NumGoroutine" := by simp [Body.n189]
  obtain⟨c,e3⟩:∃c,(Body.n189 ρ).body=some c:=⟨_,rfl⟩;simp[invoke,callFunc,program,Sem.run,e1,e2,e3]
 split at hc
 .simp only[a0d,a0J]at hc;obtain⟨rfl,rfl,rfl⟩:=hc;cases hdv;refine enters ((Any.slices_Sort_int_none L none 0 w).mono fun e w' ⟨he,hw⟩=>?_);subst he;subst hw;exact⟨M,hV,zn,.refl _ _ _,.QI .nil⟩
 .simp only[a0d,a0J]at hc;obtain⟨rfl,rfl,rfl⟩:=hc;cases hdv;refine enters ((Any.slices_Sort_int_none L _ _ w).mono fun e w' ⟨he,hw⟩=>?_);subst he;subst hw;exact⟨M,hV,zn,.refl _ _ _,.QI .nil⟩
 .rename_i b n n' ex _;split at hc
  case h_2=>cases hc
  rename_i k cs hb;split at hc
  case h_2=>cases hc
  rename_i k' zs oH hzs;split at hc
  case isFalse=>cases hc
  rename_i RP;obtain⟨rfl,pV,hn0,av2⟩:=RP;simp only[a0d,a0J]at hc;obtain⟨rfl,rfl,rfl⟩:=hc;have RU:=Pj hzs;have WG:zs.length=n:=by rw[<-pV,RU,a4S]
  have hk:k≠.ro:=by rintro rfl;cases oH
  have ajk:sub cs 0 n=some cs:=by unfold sub;rw[a0F (by omega)];simp[<-pV]
  obtain⟨ls,p,cap',k1,k2,rfl,k3,k4,k5,k6,k7,k8,k9,k10,csv,k11,k12⟩:=a3B hV hdv hn0 hb hk (fun _=>by omega) ajk;have hpe:p.ext=cs.length:=by have:=k8.ext;omega
  obtain⟨arr,ty,fz,z1,z2,z3,_⟩:=k8.row;have:=z3 hk;subst this;have aT:=(a2R.1 z1).1;have hcv:csv=zs.map fun n=>Value.int .i64 n:=by
   apply aa3;intro i;by_cases hi:i<n
   .have hi1:i<cs.length:=(by omega);have KI:i<csv.length:=by rw[<-k11.len];exact hi1
    have:=k11.at_ i cs[i] csv[i] (by simp[hi1]) (by simp[KI]);have hc1:cs[i]? = (zs.map fun n=>TV.int .i64 n)[i]?:=(by rw[<-RU]);rw[a0q hi1,a4T,a0q (by omega)]at hc1;simp only[a0O,a0d]at hc1;rw[hc1]at this;rw[a0q KI,a4T,a0q (by omega)];rw[afx this];rfl
   .rw[a4L (by rw[<-k11.len];omega),a4L (by rw[a4S];omega)]
  have hH:Holds (Value.int .i64) w p.c 0 zs.toArray:=fun j hj=>by simp only[List.size_toArray]at hj;refine⟨?_,by simp[World.frozen?,z1]⟩;refine k12 j _ ?_;rw[hcv,a4T,a0q hj];simp[hj]
  have Vh:=Any.slices_Sort_int L p.c 0 cap' zs w hH aT (by omega);rw[WG]at Vh;refine enters (Vh.mono fun e w' ⟨he,N,os,hw⟩=>?_);subst he;have hsl:(gV zs).length=n:=by unfold gV;rw[aaR,WG]
  have hgb:l9 h (.h b)=some (.cells k cs):=by simp[St.get,hb]
  have xZ:(k=.own∧k'=.own)∨((k=.grow∨k=.last)∧k'=.last∧p.ext=cs.length):=by
   rcases KH oH with e|⟨a,b,_⟩
   .exact .inl e
   .exact .inr ⟨a,b,hpe⟩
  have yP:w'.heap[p.c]? = some (.cells (putCells (Value.int .i64) 0 (gV zs).toArray arr) ty (0,0)):=by rw[hw,heap_grow_old _ _ (by simp[putRow,mapBlock,Sort.ahead];exact aT)];simp only[putRow,mapBlock,Sort.ahead,ach,a2u,z1,a0O,onCells];rfl
  have WX:∀c,c<w.heap.size->c≠p.c->w'.heap[c]? = w.heap[c]?:=fun c hc0 iD=>by rw[hw,heap_grow_old _ _ (by simp[putRow,mapBlock,Sort.ahead];exact hc0)];simp only[putRow,mapBlock,Sort.ahead,ach];rw[a0E (fun e=>iD e.symm)]
  obtain⟨g1,g2⟩:=afy (w':=w') (cs':=(gV zs).map fun x=>TV.int .i64 x) hV k1 trivial hgb k2 xZ (by rw[a4S,hsl,pV]) (fun c hc=>by
   obtain⟨y,_,rfl⟩:=a0V.1 hc;rfl) yP (by simp[putCells,z2]) WX (by rw[hw];simp[putRow,mapBlock,Sort.ahead]) (by rw[hw];rfl) (by rw[hw];rfl) (by rw[hw];rfl) (fun i c u hc hu=>by
   rw[a4T]at hc;simp only[a0l]at hc;obtain⟨y,hy,rfl⟩:=hc;have hi:i<(gV zs).length:=(a0h.1 hy).1;have hia:i<arr.size:=(by omega);simp only[putCells,Array.getElem?_mapIdx,a4w hia,a0O,a0d]at hu;rw[a0F ⟨a5i _,by simp;omega⟩]at hu;subst hu;have:(gV zs).toArray[i-0]! = y:=by have h9:=(a0h.1 hy).2;simp[hi,h9]
   rw[this];exact .int _ _)
  have zk:=(a0h.1 hb).1;have FN:l9 (h.set b (.cells k' ((gV zs).map fun x=>TV.int .i64 x)))=lZ (l9 h) (.h b) (.cells k' ((gV zs).map fun x=>TV.int .i64 x)):=jG ⟨[],[],h,[]⟩ b _ zk [] [];exact⟨M,by rw[FN];exact g1,zn,by rw[FN];exact g2,.QI .nil⟩
 .cases hc
end
def Pn(h h':List HB):Prop:=(∀b:Nat,(∀cs,h[b]?≠some (HB.ny cs))->h'[b]? = h[b]?)∧∀(b:Nat) cs,h[b]? = some (HB.ny cs)->∃cs',cs'.Perm cs∧h'[b]? = some (HB.cells .last cs')
def afz(f:Nat)(call:aZ)(fv:TV)(args:List TV)(h:List HB)(v:TV):Prop:=(∃k n,v=.int k n)∧fv=.fn f [] []∧∀h',Pn h h'->∃h2,call fv args h'=some (v,h2,[])
open Classical in
def a3C(f:Nat)(call:aZ):aZ:=fun fv args h=>if hx:∃v,afz f call fv args h v then some (Classical.choose hx,h,[])else none
theorem Tv{h h':List HB}(hu:Pn h h'):∀b:Nat,(h'[b]?).isSome=(h[b]?).isSome:=fun b=>by
 cases e:h[b]? with
 |none=>rw[hu.1 b (fun cs=>by rw[e];nofun),e]
 |some x=>
  by_cases hb:∃cs,x=.ny cs
  .obtain⟨cs,rfl⟩:=hb;obtain⟨cs',_,e2⟩:=hu.2 b cs e;rw[e2];rfl
  .rw[hu.1 b (fun cs=>by rw[e];intro h2;cases h2;exact hb ⟨cs,rfl⟩),e]
theorem XF(h:List HB):∀(g:Nat->List TV),(∀(b:Nat) cs,h[b]? = some (HB.ny cs)->(g b).Perm cs)->Pn h (h.mapIdx fun b x=>match x with|HB.ny _=>HB.cells .last (g b)|x=>x):=fun g hg=>by
 constructor
 .intro b hb;rw[ahz];cases e:h[b]? with
  |none=>rfl
  |some x=>
   simp only[a0O];cases x<;>first|rfl|exact absurd e (hb _)
 .intro b cs e;exact⟨g b,hg b cs e,by rw[ahz,e];rfl⟩
theorem XG{M:Mp}{h:List HB}{w:LI4}(hV:Valid M uU (l9 h) w):∃h',Pn h h'∧Valid M uU (l9 h') w:=by
 have hg:∀b:Nat,∃g:List TV,∀cs,h[b]? = some (HB.ny cs)->g.Perm cs∧∀l,M (.h b)=some l->pU M.h w (.cells .last g) l:=fun b=>by
  by_cases hb:∃cs,h[b]? = some (HB.ny cs)
  .obtain⟨cs,hb⟩:=hb;cases hm:M (.h b)with
   |none=>exact⟨cs,fun Xg h2=>⟨by rw[hb]at h2;cases h2;exact .refl _,fun l hl=>by cases hl⟩⟩
   |some l=>
    obtain⟨bb,c1,c2⟩:=hV.ok _ _ hm trivial;have c1:h[b]? = some bb:=c1;rw[hb]at c1;cases c1;cases l with
    |obj r o=>exact c2.elim
    |cells ls=>
     obtain⟨cs',p1,p2⟩:=c2;exact⟨cs',fun Xg h2=>⟨by rw[hb]at h2;cases h2;exact p1,fun l hl=>by cases hl;exact p2⟩⟩
  exact⟨[],fun cs h2=>absurd ⟨cs,h2⟩ hb⟩
 let g:Nat->List TV:=fun b=>Classical.choose (hg b)
 have hgs:∀(b:Nat) cs,h[b]? = some (HB.ny cs)->(g b).Perm cs∧∀l,M (.h b)=some l->pU M.h w (.cells .last (g b)) l:=fun b=>a9y (hg b);have hu:=XF h g fun b cs e=>(hgs b cs e).1;generalize hh:(h.mapIdx fun b x=>match x with|HB.ny _=>HB.cells .last (g b)|x=>x)=h' at hu;refine⟨h',hu,?_⟩;have X6:∀(b:Nat) cs,h[b]? = some (HB.ny cs)->h'[b]? = some (HB.cells .last (g b)):=fun b cs e=>by rw[<-hh,ahz,e];rfl
 refine⟨fun k l hk _=>?_,fun k k' l l' b iD hk oH _ hc hw=>?_,hV.inb⟩
 .obtain⟨bb,c1,c2⟩:=hV.ok k l hk trivial;cases k with
  |l k=>exact⟨bb,c1,c2⟩
  |h b=>
   have c1:h[b]? = some bb:=c1;by_cases hb:∃cs,bb=.ny cs
   .obtain⟨cs,rfl⟩:=hb;exact⟨_,X6 b cs c1,(hgs b cs c1).2 l hk⟩
   refine⟨bb,?_,c2⟩;show h'[b]? = some bb;rw[hu.1 b (fun cs=>by rw[c1];intro h2;cases h2;exact hb ⟨cs,rfl⟩),c1]
 obtain⟨bb,c1,_⟩:=hV.ok k l hk trivial;refine hV.own k k' l l' bb iD hk oH trivial c1 ?_;cases k with
 |l k=>have hc:l9 h (.l k)=some b:=hc;rw[c1]at hc;cases hc;exact hw
 |h i=>
  have c1:h[i]? = some bb:=c1;have hc:h'[i]? = some b:=hc;by_cases hb:∃cs,bb=.ny cs
  .obtain⟨cs,rfl⟩:=hb;rfl
  rw[hu.1 i (fun cs=>by rw[c1];intro h2;cases h2;exact hb ⟨cs,rfl⟩),c1]at hc;cases hc;exact hw
theorem a06{M:Mp}{h h1:List HB}{w w':LI4}{v:TV}{y:LI3}(hu:Pn h h1)(hv:∃k n,v=.int k n)(hR:jR M h1 w v h1 [] y w'):jR M h w v h [] y w':=by
 obtain⟨M',a1,a2,a3,a4⟩:=hR;have hs:∀k,(l9 h1 k).isSome=(l9 h k).isSome:=fun k=>by
  cases k with
  |l k=>rfl
  |h b=>exact Tv hu b
 have IY:∀(b:Nat) bb,h1[b]? = some bb->(h[b]? = some bb∧∀cs,bb≠HB.ny cs)∨∃cs cs',bb=HB.cells .last cs'∧cs'.Perm cs∧h[b]? = some (HB.ny cs):=fun b bb e=>by
  by_cases hb:∃cs,h[b]? = some (HB.ny cs)
  .obtain⟨cs,hb⟩:=hb;obtain⟨cs',p,e2⟩:=hu.2 b cs hb;rw[e]at e2;cases e2;exact .inr ⟨cs,cs',rfl,p,hb⟩
  have:=hu.1 b fun cs h2=>hb ⟨cs,h2⟩;rw[e]at this;exact .inl ⟨this.symm,fun cs h2=>hb ⟨cs,by rw[<-this,h2]⟩⟩
 refine⟨M',⟨fun k l hk _=>?_,fun k k' l l' b iD hk oH _ hc hw=>?_,a1.inb⟩,a2,⟨a3.IW,a3.frame,fun _ _ _=>rfl,fun k hk hn=>a3.lF k ?_ hn,a3.fresh,a3.size,fun _ h=>h,fun k hk=>(by cases hk),fun k hk=>(by cases hk),a3.os,a3.output,a3.tape⟩,a4⟩
 .obtain⟨bb,c1,c2⟩:=a1.ok k l hk trivial;cases k with
  |l k=>exact⟨bb,c1,c2⟩
  |h b=>
   rcases IY b bb c1 with⟨e,_⟩|⟨cs,cs',rfl,p,e⟩
   .exact⟨bb,e,c2⟩
   refine⟨_,e,?_⟩;cases l with
   |obj r o=>exact c2.elim
   |cells ls=>exact⟨cs',p,c2⟩
 .obtain⟨bb,c1,_⟩:=a1.ok k l hk trivial;refine a1.own k k' l l' bb iD hk oH trivial c1 ?_;cases k with
  |l k=>have hc:l9 h1 (.l k)=some b:=hc;rw[c1]at hc;cases hc;exact hw
  |h i=>
   have hc:h[i]? = some b:=hc;rcases IY i bb c1 with⟨e,_⟩|⟨cs,cs',rfl,p,e⟩
   .rw[hc]at e;cases e;exact hw
   rfl
 rcases hk with hk|hk
 .exact .inl (by rw[hs];exact hk)
 refine .inr ?_;have:=hs k;rw[hk]at this;cases e:l9 h1 k with
 |none=>rfl
 |some x=>rw[e]at this;cases this
theorem aax{P:LI1}{f:Nat}{call:aZ}(hC:iF P call):iF P (a3C f call):=by
 intro fv args h v h' ws hc M w x xs hV zn hx Oa;unfold a3C at hc;split at hc
 rotate_left
 .cases hc
 rename_i hb;have hs:=a9y hb;simp only[a0d,a0J]at hc;obtain⟨rfl,rfl,rfl⟩:=hc;obtain⟨hv,hfn,FP⟩:=hs;obtain⟨h1,hu,hV1⟩:=XG hV;obtain⟨h2,yh⟩:=FP h1 hu;obtain⟨d,e1,e2⟩:=hC _ _ _ _ _ _ yh M w x xs hV1 zn hx Oa;refine⟨d,e1,?_⟩;rcases e2 with⟨⟨f',az,q1,q2⟩,r⟩|⟨⟨l,f',tmps,uT,body,q1,q2⟩,r⟩
 .refine .inl ⟨⟨f',az,q1,fun n=>CallsIn.mono (F:=Fence.wide) (q2 n) fun en w3 WT=>?_⟩,r⟩;cases en with
  |panicked c=>exact WT.elim
  |outgrown=>exact WT.elim
  |returned y=>
   refine a06 hu hv (jR.norm (ny:=false) hV1 zn ?_ WT);obtain⟨k,n,e⟩:=hv;rw[e];simp[Oo,BO,wL,nP,D6,UE,LG]
 obtain⟨l',e⟩:=r;exact absurd hfn (by rw[e];nofun)
theorem aay{f:Nat}{call:aZ}{args:List TV}{h:List HB}{k:IntKind}{n:Int}(hb:afz f call (.fn f [] []) args h (.int k n))(iD:∃h',Pn h h'):a3C f call (.fn f [] []) args h=some (.int k n,h,[]):=by
 have hx:∃v,afz f call (.fn f [] []) args h v:=⟨_,hb⟩;unfold a3C;rw[dif_pos hx];obtain⟨h',hu⟩:=iD;obtain⟨h2,h1⟩:=(a9y hx).2.2 h' hu;obtain⟨h3,h4⟩:=hb.2.2 h' hu;rw[h4]at h1;have:Classical.choose hx=.int k n:=by simp only[a0d,a0J]at h1;exact h1.1.symm
 rw[this]
open Go.ChangeShapes
section
variable {H:Type} {nI:LI2×LI3->H} {P:LI1} {w:LI4}
def Rd(nI:LI2×LI3->H)(P:LI1)(w:LI4)(t:LI2)(d:DataW H):Prop:=∃cs,Reads nI P w t cs d
theorem afA{t:LI2}{k:IntKind}{d:DataW H}(ht:P.underlying t=some (.int k))(hd:Rd nI P w t d):∃n,d=.lit (.int k n)∧(Lit.int k n).wf=true:=by
 obtain⟨cs,fuel,ps,hd⟩:=hd;cases fuel with
 |zero=>simp[DataW.trod]at hd
 |succ n=>
  unfold DataW.trod at hd;rw[ht]at hd;split at hd<;>simp_all
  obtain⟨⟨_,h1⟩,rfl,_⟩:=hd;exact⟨_,rfl,h1⟩
theorem a3D{t:LI2}{fs:Array Field}{d:DataW H}(ht:P.underlying t=some (.struct fs))(hd:Rd nI P w t d) :
  ∃ds,d=.agg ds∧ds.length=fs.size∧∀(i:Nat) f d',fs[i]? = some f->ds[i]? = some d'->Rd nI P w f.type d':=by
 obtain⟨cs,fuel,ps,hd⟩:=hd;obtain⟨zs,n,_,hx,pV,WG,IY⟩:=DataW.trod_struct ht hd;simp only[a0J]at hx;refine⟨zs.map (·.1),hx.1,by simpa using WG,fun i f d' e1 e2=>?_⟩;simp only[a4T,a0l]at e2;obtain⟨z,hz,rfl⟩:=e2;exact⟨_,n,z.2,by rw[IY i f e1,hz]⟩
theorem a7b{t e:LI2}{d:DataW H}(ht:P.underlying t=some (.slice e))(hd:Rd nI P w t d) :
  d=.nil∨∃xs ys,d=.slice xs ys∧∀y∈xs++ys,Rd nI P w e y:=by
 obtain⟨cs,fuel,ps,hd⟩:=hd;rcases Deep.open_slice ht hd with⟨rfl,hx⟩|⟨a,len,cap,m,n,Dt,Pl,rfl,_,hlc,_,hm,hx,IY⟩
 .left;cases hx;rfl
 .right;simp only[a2u]at hm;subst hm;simp only[a0J]at hx;refine⟨_,_,hx.1,fun y hy=>?_⟩;have:∃i,i<m∧y=Dt i:=by
   rcases a3P.mp hy with hy|hy
   .obtain⟨i,hi,rfl⟩:=a0V.mp hy;exact⟨i,by have:=a4P.mp hi;omega,rfl⟩
   .obtain⟨i,hi,rfl⟩:=a0V.mp hy;exact⟨len+i,by have:=a4P.mp hi;omega,rfl⟩
  obtain⟨i,hi,rfl⟩:=this;obtain⟨cs',_,e2⟩:=IY i hi;exact⟨cs',n,_,e2⟩
theorem XH{t:LI2}{fs:Array Field}{g:Nat}{ds:List (DataW H)}{h:List HB}(ht:P.underlying t=some (.struct fs)) :
  D7 P (g+1) t (.agg ds) h=match LH P (D7 P g) 0 fs.toList ds h with
   |some (cs,h1)=>if cs.length=P.cellsOf t then some (cs,h1)else none
   |none=>none:=by
 simp only[D7,ht]<;>rfl
end
end Tw
namespace Pv
open Go Tw
structure oO(X:kX)(P:LI1)(kt:LI2)(α:Type)[DecidableEq α] where
 pv:α->PV X.Γ
 tv:α->TV
 v:α->LI3
 hp:∀x,qw (pv x)=some (tv x)
 ht:∀x,(tv x).yI=some (v x)
 hc:∀em x,aC P (Instr.checkKey em 10000 kt (v x))=some ()
 hf:∀(x:α) (l:List α),aC P (Instr.findKey kt (v x) (l.map fun y=>⟨v y,.bool false,0⟩))=some ((l.findIdx? fun y=>decide (x=y)).map fun i=>(i,.bool false))
 hk:∃kind,aC P (underlying kt)=some kind∧((∀x y,Instr.sameNow kind (v x) (v y)=some (decide (x=y)))∨∀x y,Instr.sameNow kind (v x) (v y)=none∧aC P (Op.equal kt (v x) (v y))=some (decide (x=y)))
variable {X:kX} {P:LI1} {kt:LI2} {α:Type} [DecidableEq α] (C:oO X P kt α)
abbrev oO.es(l:List (α×PV X.Γ)):List (PV X.Γ×PV X.Γ):=l.map fun e=>(C.pv e.1,e.2)
theorem oO.tvs:∀l:List α,Tw.BN (l.map C.tv)=some (l.map C.v)
 | []=>rfl
 |a::l=>by show(match(C.tv a).yI,Tw.BN (l.map C.tv)with|some v,some vs=>some (v::vs)|_,_=>none)=_;rw[C.ht,oO.tvs l];rfl
theorem oO.find(x:α)(l:List α)(r:Option Nat)(hr:(l.findIdx? fun y=>decide (x=y))=r)(hs:∀(i:Nat) y,l[i]? = some y->decide (x=y)=(some i==r)):vJ P kt (C.v x) (l.map C.tv)=some r:=by
 unfold vJ;rw[C.tvs];simp only[];rw[bJ,C.hc,a4V,a6B];show(match aC P (Instr.findKey kt (C.v x) (l.map fun y=>⟨C.v y,.bool false,0⟩))with|some r=>if Ws P kt (C.v x) (l.map C.v) (Option.map (fun(q:Nat×LI3)=>q.1) r)then some (Option.map (fun(q:Nat×LI3)=>q.1) r)else none|none=>none)=_;rw[C.hf,hr];have e:Option.map (fun(q:Nat×LI3)=>q.1) (r.map fun i=>(i,Value.bool false))=r:=by cases r<;>rfl
 simp only[e];rw[a0F];obtain⟨kind,h1,h2⟩:=C.hk;simp only[Ws,h1,a2O,a9w,a4W];constructor
 .cases r with
  |none=>rfl
  |some j=>
   have:=(aae.1 hr).1;simpa using this
 have hz:∀p∈(l.map C.v).zipIdx,∃y,p.1=C.v y∧decide (x=y)=(some p.2==r):=fun p hp=>by have:=a9O.1 hp;rw[a4T,a0l]at this;obtain⟨y,hy,e⟩:=this;exact⟨y,e.symm,hs _ _ hy⟩
 rcases h2 with h2|h2
 .left;intro p hp;obtain⟨y,e1,e2⟩:=hz p hp;rw[e1,h2,e2];simp
 right;intro p hp;obtain⟨y,e1,e2⟩:=hz p hp;rw[e1,(h2 x y).1,(h2 x y).2,e2];simp
theorem oO.pk:∀l:List (α×PV X.Γ),vI X (C.es l)=some ((l.map (·.1)).map C.tv)
 | []=>rfl
 |a::l=>by show(match qw (C.pv a.1),vI X (C.es l)with|some v,some vs=>some (v::vs)|_,_=>none)=_;rw[C.hp,oO.pk l];rfl
theorem oO.ck(x:α):∃kv,(C.tv x).yI=some kv∧aC P (Instr.checkKey false 10000 kt kv)=some ():=⟨C.v x,C.ht x,C.hc false x⟩
theorem oO.fresh{l:List (α×PV X.Γ)}{x:α}(h:x∉l.map (·.1)):nY X P kt (C.es l) (C.tv x):=by
 refine⟨C.v x,_,C.ht x,C.pk l,?_⟩;have YN:∀y∈l.map (·.1),decide (x=y)=false:=fun y hy=>by simp only[a3b];intro e;exact h (e▸hy)
 exact C.find x _ none (List.findIdx?_eq_none_iff.2 YN) fun i y hy=>by rw[YN y (a4X hy)];rfl
theorem oO.found{l:List (α×PV X.Γ)}{x:α}{v:PV X.Γ}(hn:(l.map (·.1)).Nodup)(h:(x,v)∈l):qC X P kt (C.es l) (C.tv x) v:=by
 obtain⟨j,hj,e⟩:=a5d.1 h;refine⟨C.v x,_,j,C.pv x,C.ht x,C.pk l,?_,?_⟩
 .have hxj:(l.map (·.1))[j]? = some x:=by simp[a0q hj,e]
  have hu:∀(i:Nat) y,(l.map (·.1))[i]? = some y->decide (x=y)=(some i==some j):=fun i y hy=>by
   rw[a5b];simp only[a1z,a7g,a0d];constructor
   .rintro rfl;have i1:=a0h.1 hy;have i2:=a0h.1 hxj;exact(aar hn (h₀:=i1.1) (h₁:=i2.1)).1 (i1.2.trans i2.2.symm)
   rintro rfl;rw[hxj]at hy;exact a9x hy
  refine C.find x _ (some j) ?_ hu;rw[aae];refine⟨by simpa using hj,by simp[e],fun i hi=>?_⟩;have hil:i<(l.map (·.1)).length:=by simp;omega
  rw[hu i _ (a0q hil)];simp;omega
 simp[oO.es,a0q hj,e]
theorem Jv{t:LI2}{d:TypeDesc}(h:P.underlying t=some d):aC P (underlying t)=some d:=by simp only[underlying,bJ];show Option.bind (some P) _=_;simp[h];rfl
theorem a07{v:α->LI3}(he:∀x y,aC P (Op.equal kt (v x) (v y))=some (decide (x=y)))(x:α):∀(l:List α) (i:Nat),aC P (Instr.findAsking kt (v x) (l.map fun y=>⟨v y,.bool false,0⟩) i)=some ((l.findIdx? fun y=>decide (x=y)).map fun j=>(j+i,.bool false))
 | [],i=>rfl
 |y::l,i=>by
  simp only[a4M,Instr.findAsking];rw[bJ,he,a4V,List.findIdx?_cons];cases decide (x=y)with
  |true=>simp only[a2u,a0O,a3W];rfl
  |false=>
   simp only[a2S,a3T];rw[a07 he x l (i+1)];cases l.findIdx? fun y=>decide (x=y)with
   |none=>rfl
   |some j=>simp;omega
theorem a1K{v:α->LI3}{fs:Array Field}(hu:P.underlying kt=some (.struct fs))(he:∀x y,aC P (Op.equal kt (v x) (v y))=some (decide (x=y)))(x:α)(l:List α):aC P (Instr.findKey kt (v x) (l.map fun y=>⟨v y,.bool false,0⟩))=some ((l.findIdx? fun y=>decide (x=y)).map fun i=>(i,.bool false)):=by
 have h:=a07 he x l 0;unfold Instr.findKey;rw[bJ,Jv hu,a4V];cases l with
 |nil=>rfl
 |cons y l=>
  rw[show Instr.findNow (.struct fs) (v x) ((y::l).map fun y=>⟨v y,.bool false,0⟩) 0=none by simp[Instr.findNow,Instr.sameNow]];exact h
theorem a1L{k:IntKind}(x:Int):∀(l:LI0) (i:Nat),Instr.findNow (.int k) (.int k x) (l.map fun y=>⟨.int k y,.bool false,0⟩) i=some ((l.findIdx? fun y=>decide (x=y)).map fun j=>(j+i,.bool false))
 | [],i=>rfl
 |y::l,i=>by
  simp only[a4M,Instr.findNow,Instr.sameNow,a2u];rw[List.findIdx?_cons];by_cases h:x=y
  .subst h;simp
  rw[show(x==y)=false by simpa using h,aeJ h];simp only[a2S,a3T];rw[a1L x l (i+1)];cases l.findIdx? fun y=>decide (x=y)with
  |none=>rfl
  |some j=>simp;omega
theorem afB{k:IntKind}(hu:P.underlying kt=some (.int k))(x:Int)(l:LI0):aC P (Instr.findKey kt (.int k x) (l.map fun y=>⟨.int k y,.bool false,0⟩))=some ((l.findIdx? fun y=>decide (x=y)).map fun i=>(i,.bool false)):=by unfold Instr.findKey;rw[bJ,Jv hu,a4V,a1L x l 0];cases l.findIdx? fun y=>decide (x=y)<;>rfl
theorem a1M{v:α->LI3}{fs:Array Field}(hu:P.underlying kt=some (.struct fs))(he:∀x y,aC P (Op.equal kt (v x) (v y))=some (decide (x=y))) :
  ∃kind,aC P (underlying kt)=some kind∧((∀x y,Instr.sameNow kind (v x) (v y)=some (decide (x=y)))∨∀x y,Instr.sameNow kind (v x) (v y)=none∧aC P (Op.equal kt (v x) (v y))=some (decide (x=y))):=
 ⟨_,Jv hu,.inr fun x y=>⟨by simp[Instr.sameNow],he x y⟩⟩
theorem afC{k:IntKind}(hu:P.underlying kt=some (.int k)) :
  ∃kind,aC P (underlying kt)=some kind∧((∀x y:Int,Instr.sameNow kind (.int k x) (.int k y)=some (decide (x=y)))∨∀x y:Int,Instr.sameNow kind (.int k x) (.int k y)=none∧aC P (Op.equal kt (.int k x) (.int k y))=some (decide (x=y))):=
 ⟨_,Jv hu,.inl fun x y=>by simp only[Instr.sameNow,a2u];congr 1⟩
theorem afD{v:α->LI3}{n:Nat}{e:LI2}(hu:P.underlying kt=some (.array n e))(he:∀x y,aC P (Op.equal kt (v x) (v y))=some (decide (x=y)))(x:α)(l:List α):aC P (Instr.findKey kt (v x) (l.map fun y=>⟨v y,.bool false,0⟩))=some ((l.findIdx? fun y=>decide (x=y)).map fun i=>(i,.bool false)):=by
 have h:=a07 he x l 0;unfold Instr.findKey;rw[bJ,Jv hu,a4V];cases l with
 |nil=>rfl
 |cons y l=>
  rw[show Instr.findNow (.array n e) (v x) ((y::l).map fun y=>⟨v y,.bool false,0⟩) 0=none by simp[Instr.findNow,Instr.sameNow]];exact h
theorem afE{v:α->LI3}{n:Nat}{e:LI2}(hu:P.underlying kt=some (.array n e))(he:∀x y,aC P (Op.equal kt (v x) (v y))=some (decide (x=y))) :
  ∃kind,aC P (underlying kt)=some kind∧((∀x y,Instr.sameNow kind (v x) (v y)=some (decide (x=y)))∨∀x y,Instr.sameNow kind (v x) (v y)=none∧aC P (Op.equal kt (v x) (v y))=some (decide (x=y))):=
 ⟨_,Jv hu,.inr fun x y=>⟨by simp[Instr.sameNow],he x y⟩⟩
end Pv
namespace Tw
open Go
section
variable {P:LI1}
theorem Dv{e:LI2}(hg:aC P (isAgg e)=some false){xs:Array LI3}{i:Nat}{v:LI3}(h:xs[i]? = some v):aC P (part e xs i)=some v:=by unfold part;rw[bJ,hg,a4V];simp only[a2S,a3T,h];rfl
def a3E(d:Nat)(e:LI2)(c:Nat)(xs ys:Array LI3):List Nat->Sem Bool
 | []=>pure true
 |i::is=>do
  let a <-part e xs (i*c)
  let b <-part e ys (i*c)
  let r <-Op.equalIn d e a b
  if(!r)=true then pure false else a3E d e c xs ys is
theorem Jw(d:Nat){t e:LI2}{n c:Nat}(xs ys:Array LI3)(hu:P.underlying t=some (.array n e))(hs:aC P (sizeOf e)=some c) :
  aC P (Op.equalIn (d+1) t (.agg xs) (.agg ys))=aC P (a3E d e c xs ys (List.range' 0 n)):=by
 have hu':aC P (underlying t)=some (.array n e):=by simp only[underlying,bJ];have:aC P program=some P:=rfl;simp[this,hu,aC];rfl
 simp only[Op.equalIn,bJ,hu',a4V,hs];simp only[Std.Legacy.Range.forIn_eq_forIn_range',Std.Legacy.Range.size,Nat.sub_zero,Nat.add_one_sub_one,Nat.div_one];generalize List.range' 0 n=is;clear hu hu' hs
 induction is with
 |nil=>simp[a3E,aC,bJ];rfl
 |cons j is ih=>
  simp only[List.forIn_cons,a3E,bJ]at ih ⊢;generalize aC P (part e xs (j*c))=r1;cases r1 with
  |none=>simp
  |some a=>
   simp only[a4V];generalize aC P (part e ys (j*c))=r2;cases r2 with
   |none=>simp
   |some b=>
    simp only[a4V];generalize aC P (Op.equalIn d e a b)=r3;cases r3 with
    |none=>simp
    |some r=>
     cases r with
     |false=>simp only[a4V,aaT,a2u];rfl
     |true=>simp only[a4V,a9t,a2S,a3T];exact ih
abbrev Dw(k:IntKind)(l:LI0):Array LI3:=(l.map fun x=>Value.int k x).toArray
theorem Po{k:IntKind}{l:LI0}{i:Nat}(h:i<l.length):(Dw k l)[i]? = some (.int k l[i]):=by simp[Dw,h]
theorem KZ{d:Nat}{e:LI2}{k k':IntKind}(hu:P.underlying e=some (.int k'))(hg:aC P (isAgg e)=some false)(l l':LI0)(hl:l.length=l'.length):∀(m i:Nat),i+m=l.length->aC P (a3E (d+1) e 1 (Dw k l) (Dw k l') (List.range' i m))=some (decide (l.drop i=l'.drop i))
 | 0,i,h=>by rw[ah4 (by omega),ah4 (by omega)];rfl
 |m+1,i,h=>by
  have h1:i<l.length:=by omega
  have h2:i<l'.length:=by omega
  rw[List.range'_succ];simp only[a3E,ahI];rw[bJ,Dv hg (Po h1),a4V,bJ,Dv hg (Po h2),a4V,bJ,rG d e k k' _ _ hu,a4V];rw[a6G h1,a6G h2];by_cases hc:l[i]=l'[i]
  .have:=KZ (d:=d) (k:=k) hu hg l l' hl m (i+1) (by omega);simp only[hc,ahr,a9t,a2S,a3T,this,aeG,true_and]
  have:(l[i]==l'[i])=false:=by simpa using hc
  simp only[this,aaT,a2u,aeG,hc,false_and,decide_false];rfl
theorem BL(d:Nat){t e:LI2}{n:Nat}{k k':IntKind}(ht:P.underlying t=some (.array n e))(hs:aC P (sizeOf e)=some 1)(hu:P.underlying e=some (.int k'))(hg:aC P (isAgg e)=some false){l l':LI0}(hl:l.length=n)(hl':l'.length=n) :
  aC P (Op.equalIn (d+2) t (.agg (Dw k l)) (.agg (Dw k l')))=some (decide (l=l')):=by
 rw[Jw (d+1) _ _ ht hs,KZ hu hg l l' (by omega) n 0 (by omega),aav,aav]
end
end Tw
namespace Pv
open Go Tw
def yC:Code->Option (Code×Code)
 |.seq a b=>match yC a with
  |some r=>some r
  |none=>yC b
 |.cond _ a b=>match yC a with
  |some r=>some r
  |none=>yC b
 |.block _ b=>yC b
 |.loop b=>yC b
 |.rangeFunc _ _ a b=>some (a,b)
 |_=>none
def wV(P:LI1)(f:Nat):Code:=
 match Uf P f with
 |some t=>match yC t.body with
  |some (a,_)=>a
  |none=>.skip
 |none=>.skip
def AU(P:LI1)(f:Nat):Code:=
 match Uf P f with
 |some t=>match yC t.body with
  |some (_,b)=>b
  |none=>.skip
 |none=>.skip
section
variable {X:kX} {P:LI1}
theorem Et{A:Nat->Prop}{m:List MB}{h:List HB}:∀{a b:List (PV X.Γ)} {z:List TV},bY X P A m h (a++b) z->∃x y,z=x++y∧bY X P A m h a x∧bY X P A m h b y
 | [],b,z,hz=>⟨[],z,rfl,.nil,hz⟩
 |v::a,b,z,hz=>by obtain⟨x0,r,rfl,v0,vr⟩:=bY.inv (v:=v) (vs:=a++b) hz;obtain⟨x,y,rfl,h1,h2⟩:=Et vr;exact⟨x0::x,y,rfl,.cons v0 h1,h2⟩
theorem dG.fz(hX:bT X P){call:aZ}{f:FuncId}{cs ws rest xs:List (PV X.Γ)}{H H1:List (PB X.Γ)}{v:PV X.Γ}(is:List Nat)(hs:dG X P call (.fn f [] []) (.agg (ws++rest)::xs) (aY is H) v H1)(hv:views H cs=some ws)(ho:∀i,i∈l7.kH cs->i∈is):dG X P call (.fn f [] []) (.agg (cs++rest)::xs) H v H1:=by
 intro A m h tf qP hr hf hx;obtain⟨x0,r,rfl,v0,vr⟩:=hx.inv;cases v0 with
 |gone hi _ _=>simp[bn]at hi
 |agg a1 a2=>
  rename_i cs';have ha:bY X P (AA A m) m h (cs++rest) cs':=⟨a1,a2⟩;obtain⟨c1,c2,rfl,b1,b2⟩:=Et ha;have hF:=iw (h:=h) is m;have w1:=(lK (m':=bV is m) hX hr b1 hv ho).mono fun b hb=>FA.gone hr hb;have w2:=b2.step hF.1 hF.2;have w3:=w1.app w2;obtain⟨w,h',Uj,m1,k1,k2,k3,k4,k5,k6⟩:=hs A (bV is m) h tf (.agg (c1++c2)::r) (hr.aY is) (hf.step hF.1 hF.2) (.cons (.agg w3.1 w3.2) (vr.step hF.1 hF.2));refine⟨w,h',Uj,m1,k1,k2,k3,hF.1.trans k4,hF.2.trans k5,fun b hb=>?_⟩;rcases hF.1.new b (k6 b hb)with g|g
  .exact g
  have:=(hr.aY is).inb (k6 b hb);omega
end
theorem Good.acO{X:kX}{P:LI1}{T:qM}{L:Nat}{α β:Type}{f:FuncId}{a:Vd X P α}{r:Ar X P β}{S:α->β}{pre:α->List Prop}{fO Xz a7c:eY X.Γ}(d:Nat)(hg:Good X P T L fO)(hg2:Good X P T L Xz)(hg3:Good X P T L a7c)
  (hf:∀n,d<=n->(∀m,n-d<=m->jK X P (lq P T L m) fO)->(∀m,n-d<=m->jK X P (lq P T L m) Xz)->(∀m,n-d<=m->jK X P (lq P T L m) a7c)->∀x,(∀p∈pre x,p)->nS X P (lq P T L (n+1)) f (a.put x) (r.put (S x)) []):Good X P T L (bZ f a r S pre fO):=by
 obtain⟨N2,hN2⟩:=hg2;obtain⟨N3,hN3⟩:=hg3;obtain⟨M,hM⟩:=hg;refine⟨M+N2+N3+d+1,fun n hn=>?_⟩;obtain⟨k,rfl⟩:∃k,n=k+1:=⟨n-1,by omega⟩;intro g vs v ext ps ho hp;unfold bZ at ho;split at ho
 .rename_i e;have e:=a9p e;subst e;split at ho
  .rename_i x hx;cases ho;intro A h first args cap IZ hv
   exact hf k (by omega) (fun m hm=>hM m (by omega)) (fun m hm=>hN2 m (by omega)) (fun m hm=>hN3 m (by omega)) x hp A h first args cap IZ (a.ok hx hv)
  .exact hM (k+1) (by omega) g vs v ext ps ho hp
 .exact hM (k+1) (by omega) g vs v ext ps ho hp
end Pv
namespace bP
open Tw
section
variable {κ:Type} [DecidableEq κ]
def sG(m:List (κ×Int))(k:κ)(n:Int):List (κ×Int):=
 if k∈m.map (·.1)then m.modify ((m.map (·.1)).idxOf k) (fun e=>(e.1,e.2+n))else m++[(k,n)]
def dK(φ:κ->Int):List (κ×Int)->Int
 | []=>0
 |e::m=>e.2*φ e.1+dK φ m
theorem XI(φ:κ->Int):∀a b:List (κ×Int),dK φ (a++b)=dK φ a+dK φ b
 | [],b=>by simp[dK]
 |e::a,b=>by simp only[List.cons_append,dK,XI φ a b];omega
theorem XJ(φ:κ->Int){k:κ}{n:Int}:∀{m:List (κ×Int)},k∈m.map (·.1)->dK φ (m.modify ((m.map (·.1)).idxOf k) fun e=>(e.1,e.2+n))=dK φ m+n*φ k
 | [],h=>by simp at h
 |e::m,h=>by
  by_cases e1:e.1=k
  .have:((e::m).map (·.1)).idxOf k=0:=(by simp[aed,e1]);rw[this];simp only[List.modify_zero_cons,dK,ahH,e1];omega
  have h2:k∈m.map (·.1):=by rw[a4M,a1Y]at h;exact h.resolve_left fun h=>e1 h.symm
  have:((e::m).map (·.1)).idxOf k=(m.map (·.1)).idxOf k+1:=by simp[aed,ahD.2 e1]
  rw[this];simp only[List.modify_succ_cons,dK,XJ φ h2];omega
theorem zK(φ:κ->Int)(m:List (κ×Int))(k:κ)(n:Int):dK φ (sG m k n)=dK φ m+n*φ k:=by
 unfold sG;split
 .exact XJ φ ‹_›
 rw[XI];simp[dK]
theorem XK{f:Int->Int}:∀(m:List (κ×Int)) (j:Nat),(m.modify j fun e=>(e.1,f e.2)).map (·.1)=m.map (·.1)
 | [],j=>by simp
 |e::m,0=>by simp
 |e::m,j+1=>by simp[XK m j]
theorem Tz(m:List (κ×Int))(k:κ)(n:Int):(sG m k n).map (·.1)=if k∈m.map (·.1)then m.map (·.1)else m.map (·.1)++[k]:=by
 unfold sG;split
 .exact XK (f:=fun x=>x+n) m _
 simp
theorem Gg{m:List (κ×Int)}(h:(m.map (·.1)).Nodup)(k:κ)(n:Int):((sG m k n).map (·.1)).Nodup:=by
 rw[Tz];split
 .exact h
 rename_i h2;rw[a9l];exact⟨h,by simp,fun x hx y hy e=>by simp at hy;subst hy;subst e;exact h2 hx⟩
theorem a1N{f:κ×Int->κ×Int}:∀{m:List (κ×Int)} {j:Nat} {e:κ×Int},e∈m.modify j f->e∈m∨∃e'∈m,e=f e'
 | [],j,e,h=>by simp at h
 |x::m,0,e,h=>by
  rw[List.modify_zero_cons,a1Y]at h;rcases h with h|h
  .exact .inr ⟨x,by simp,h⟩
  exact .inl (by simp[h])
 |x::m,j+1,e,h=>by
  rw[List.modify_succ_cons,a1Y]at h;rcases h with h|h
  .exact .inl (by simp[h])
  rcases a1N h with h|⟨e',h1,h2⟩
  .exact .inl (by simp[h])
  exact .inr ⟨e',by simp[h1],h2⟩
theorem Pq{m:List (κ×Int)}{k:κ}{n:Int}(hn:0<n)(h:∀e∈m,0<e.2):∀e∈sG m k n,0<e.2:=fun e he=>by
 unfold sG at he;split at he
 .rcases a1N he with h1|⟨e',h1,rfl⟩
  .exact h e h1
  .have:=h e' h1;show 0<e'.2+n;omega
 .rcases a3P.1 he with h1|h1
  .exact h e h1
  .rw[a1S.1 h1];exact hn
theorem a7d{m:List (κ×Int)}{k:κ}{n:Int}{e:κ×Int}(he:e∈sG m k n):e.1=k∨∃e'∈m,e'.1=e.1:=by
 have:e.1∈(sG m k n).map (·.1):=a0V.2 ⟨e,he,rfl⟩;rw[Tz]at this;split at this
 .obtain⟨e',h1,h2⟩:=a0V.1 this;exact .inr ⟨e',h1,h2⟩
 rcases a3P.1 this with h1|h1
 .obtain⟨e',h1,h2⟩:=a0V.1 h1;exact .inr ⟨e',h1,h2⟩
 exact .inl (by simpa using h1)
def ind(k:κ)(x:κ):Int:=if x=k then 1 else 0
theorem Ih{k:κ}:∀{m:List (κ×Int)},k∉m.map (·.1)->dK (ind k) m=0
 | [],_=>rfl
 |e::m,h=>by rw[a4M,a1Y,ae6]at h;simp only[dK,Ih h.2,ind,a0E (fun e1:e.1=k=>h.1 e1.symm)];omega
theorem yD:∀{m:List (κ×Int)} {e:κ×Int},(m.map (·.1)).Nodup->e∈m->dK (ind e.1) m=e.2
 |x::m,e,hn,h=>by
  rw[a4M,a4U]at hn;rcases a1Y.1 h with rfl|h
  .simp only[dK,Ih hn.1,ind,a2u];omega
  have:¬x.1=e.1:=fun e1=>hn.1 (a0V.2 ⟨e,h,e1.symm⟩);simp only[dK,yD hn.2 h,ind,a0E this];omega
theorem XL{m:List (κ×Int)}(hn:(m.map (·.1)).Nodup)(hp:∀e∈m,0<e.2)(e:κ×Int):e∈m↔0<e.2∧dK (ind e.1) m=e.2:=by
 constructor
 .exact fun h=>⟨hp e h,yD hn h⟩
 rintro⟨h1,h2⟩;by_cases h:e.1∈m.map (·.1)
 .obtain⟨e',h3,h4⟩:=a0V.1 h;have:=yD hn h3;have h4:e'.1=e.1:=h4;rw[h4,h2]at this;have:e'=e:=adu h4 this.symm;rw[<-this];exact h3
 rw[Ih h]at h2;omega
theorem Ii{β:Type}{f:κ×Int->β}{l:List (κ×Int)}(h:(l.map f).Nodup):l.Nodup:=by rw[List.Nodup,agS]at h;exact h.imp fun{a b} h (e:a=b)=>h (congrArg f e)
theorem Vj{m m':List (κ×Int)}(h1:(m.map (·.1)).Nodup)(h2:(m'.map (·.1)).Nodup)(p1:∀e∈m,0<e.2)(p2:∀e∈m',0<e.2)(h:∀φ,dK φ m=dK φ m'):m.Perm m':=
 (a7x (Ii h1) (Ii h2)).2 fun e=>by rw[XL h1 p1,XL h2 p2,h]
theorem a3F(φ:κ->Int){m m':List (κ×Int)}(h:m.Perm m'):dK φ m=dK φ m':=by
 induction h with
 |nil=>rfl
 |cons x _ ih=>simp only[dK,ih]
 |swap x y l=>simp only[dK];omega
 |trans _ _ h1 h2=>exact h1.trans h2
def yS(l:List κ):List (κ×Int):=l.foldl (fun m k=>sG m k 1) []
def dZ(φ:κ->Int):List κ->Int
 | []=>0
 |k::l=>φ k+dZ φ l
theorem XM(φ:κ->Int):∀(l:List κ) (m:List (κ×Int)),dK φ (l.foldl (fun m k=>sG m k 1) m)=dK φ m+dZ φ l
 | [],m=>by simp[dZ]
 |k::l,m=>by rw[ae5,XM φ l,zK,dZ];omega
theorem TA(φ:κ->Int)(l:List κ):dK φ (yS l)=dZ φ l:=by unfold yS;rw[XM];simp[dK]
theorem AV(l:List κ):((yS l).map (·.1)).Nodup∧∀e∈yS l,0<e.2:=by
 have:∀(l:List κ) (m:List (κ×Int)),(m.map (·.1)).Nodup->(∀e∈m,0<e.2)->((l.foldl (fun m k=>sG m k 1) m).map (·.1)).Nodup∧∀e∈l.foldl (fun m k=>sG m k 1) m,0<e.2:=by
  intro l
  induction l with
  |nil=>exact fun m h1 h2=>⟨h1,h2⟩
  |cons k l ih=>exact fun m h1 h2=>ih _ (Gg h1 k 1) (Pq (by omega) h2)
 exact this l [] (by simp) (by simp)
theorem Px(k:κ):∀l:List κ,dZ (ind k) l=(l.count k:Int)
 | []=>rfl
 |x::l=>by
  rw[dZ,Px k l,List.count_cons,ind];by_cases e:x=k
  .simp[e];omega
  simp[e]
theorem Jy(φ:κ->Int){l l':List κ}(h:l.Perm l'):dZ φ l=dZ φ l':=by
 induction h with
 |nil=>rfl
 |cons x _ ih=>simp only[dZ,ih]
 |swap x y l=>simp only[dZ];omega
 |trans _ _ h1 h2=>exact h1.trans h2
theorem Ij(φ:κ->Int):∀a b:List κ,dZ φ (a++b)=dZ φ a+dZ φ b
 | [],b=>by simp[dZ]
 |e::a,b=>by simp only[List.cons_append,dZ,Ij φ a b];omega
end
theorem Jz:∀a b:LI0,lH a b=true∨lH b a=true
 | [],_=>.inl rfl
 |_::_,[]=>.inr rfl
 |a::az,b::bs=>by
  simp only[lH];rcases Int.lt_trichotomy a b with h|h|h
  .simp[h]
  .subst h;simpa using Jz az bs
  simp[h]
theorem Dx:∀a b:LI0,lH a b=true->lH b a=true->a=b
 | [],[],_,_=>rfl
 | [],_::_,_,h=>by cases h
 |_::_,[],h,_=>by cases h
 |a::az,b::bs,h1,h2=>by
  simp only[lH]at h1 h2;rcases Int.lt_trichotomy a b with h|h|h
  .rw[a0E (by omega),a0F h]at h2;cases h2
  .subst h;simp at h1 h2;rw[Dx az bs h1 h2]
  rw[a0E (by omega),a0F h]at h1;cases h1
theorem lex_trans:∀a b c:LI0,lH a b=true->lH b c=true->lH a c=true
 | [],_,_,_,_=>rfl
 |_::_,[],_,h,_=>by cases h
 |_::_,_::_,[],_,h=>by cases h
 |a::az,b::bs,c::cs,h1,h2=>by
  simp only[lH]at h1 h2 ⊢;split at h1
  .split at h2
   .rw[a0F (by omega)]
   split at h2
   .cases h2
   rw[a0F (by omega)]
  split at h1
  .cases h1
  split at h2
  .rw[a0F (by omega)]
  split at h2
  .cases h2
  rw[a0E (by omega),a0E (by omega)];exact lex_trans az bs cs h1 h2
section
variable {α:Type} {key:α->LI0}
theorem TB{a b:α}(h:key a=key b->a=b):∀s:List α,EL key a (EL key b s)=EL key b (EL key a s)
 | []=>by
  by_cases e:a=b
  .rw[e]
  simp only[EL];rcases Jz (key a) (key b)with h1|h1
  .have:lH (key b) (key a)=false:=by
    cases h2:lH (key b) (key a)
    .rfl
    exact absurd (h (Dx _ _ h1 h2)) e
   simp[h1,this]
  have:lH (key a) (key b)=false:=by
   cases h2:lH (key a) (key b)
   .rfl
   exact absurd (h (Dx _ _ h2 h1)) e
  simp[h1,this]
 |c::s=>by
  by_cases e:a=b
  .rw[e]
  have hx:lH (key a) (key b)=!lH (key b) (key a):=by
   rcases Jz (key a) (key b)with h1|h1
   .cases h2:lH (key b) (key a)
    .rw[h1];rfl
    exact absurd (h (Dx _ _ h1 h2)) e
   cases h2:lH (key a) (key b)
   .rw[h1];rfl
   exact absurd (h (Dx _ _ h2 h1)) e
  cases h1:lH (key a) (key c)<;>cases h2:lH (key b) (key c)
  .simp only[EL,h1,h2,a2S,a3T,TB h s]
  .have h3:lH (key a) (key b)=false:=by
    cases h3:lH (key a) (key b)
    .rfl
    rw[lex_trans _ _ _ h3 h2]at h1;cases h1
   simp only[EL,h1,h2,h3,a2S,a3T,a2u]
  .have h3:lH (key b) (key a)=false:=by
    cases h3:lH (key b) (key a)
    .rfl
    rw[lex_trans _ _ _ h3 h1]at h2;cases h2
   simp only[EL,h1,h2,h3,a2S,a3T,a2u]
  cases h3:lH (key b) (key a)<;>rw[h3]at hx<;>simp[EL,h1,h2,h3,hx]
theorem Fq{l l':List α}(h:l.Perm l')(hi:∀a∈l,∀b∈l,key a=key b->a=b):zB key l=zB key l':=by
 induction h with
 |nil=>rfl
 |cons x _ ih=>simp only[zB,ih fun a ha b hb=>hi a (by simp[ha]) b (by simp[hb])]
 |swap x y l=>exact TB (hi y (by simp) x (by simp)) _
 |trans h1 h2 i1 i2=>exact(i1 hi).trans (i2 fun a ha b hb=>hi a (h1.mem_iff.2 ha) b (h1.mem_iff.2 hb))
theorem TD{β:Type}{g:α->β}{a7e:β->LI0}(h:∀a,a7e (g a)=key a):∀l:List α,zB a7e (l.map g)=(zB key l).map g:=by
 have hi:∀(a:α) (s:List α),EL a7e (g a) (s.map g)=(EL key a s).map g:=by
  intro a s
  induction s with
  |nil=>rfl
  |cons c s ih=>
   simp only[a4M,EL,h];split
   .rfl
   rw[a4M,ih]
 intro l
 induction l with
 |nil=>rfl
 |cons a l ih=>simp only[a4M,zB,ih,hi]
end
end bP
namespace Pv
open Go Tw
section
variable {P:LI1} {T:qM} {call:aZ} {cd:vH} {L f:Nat} {fl nt:Nat}
def og:Code->Bool
 |.rangeFunc ..=>false
 |.region _ ops _=>(Am ops).isNone
 |.seq a b=>og a&&og b
 |.cond _ a b=>og a&&og b
 |.block _ b=>og b
 |.scope b=>og b
 |.loop b=>og b
 |_=>true
theorem a7f:∀(c:Code) {s s':St} {e:Ex} {Q:Ex->St->Prop},og c=true->exec P T call L f false fl nt c s=some (e,s')->Q e s'->fF P T call cd L f fl nt c s Q:=by
 intro c
 induction c with
 |region id ops draw=>
  intro s s' e Q hn h hq;simp only[og,Option.isNone_iff_eq_none]at hn;simp only[fF,hn];exact⟨_,_,h,hq⟩
 |seq x y WU ihy=>
  intro s s' e Q hn h hq;simp only[og,a2O]at hn;simp only[fF];simp only[exec]at h;split at h
  .rename_i s1 hx;exact WU hn.1 hx (ihy hn.2 h hq)
  rename_i iD;refine WU hn.1 h ?_;cases e with
  |norm=>exact(iD s' h).elim
  |exit i=>exact hq
  |ret=>exact hq
 |cond c x y WU ihy=>
  intro s s' e Q hn h hq;simp only[og,a2O]at hn;simp only[fF];simp only[exec]at h;split at h
  .rename_i hc;simp only[hc];exact WU hn.1 h hq
  .rename_i hc;simp only[hc];exact ihy hn.2 h hq
  cases h
 |block id b ih=>
  intro s s' e Q hn h hq;simp only[og]at hn;simp only[fF];simp only[exec]at h;split at h
  .rename_i i s1 hb;cases h;exact ih hn hb hq
  rename_i iD;refine ih hn h ?_;cases e with
  |exit i=>exact(iD i s' h).elim
  |norm=>exact hq
  |ret=>exact hq
 |scope b ih=>
  intro s s' e Q hn h hq;simp only[og]at hn;simp only[fF];simp only[exec]at h;exact ih hn h hq
 |loop b ih=>
  intro s s' e Q hn h hq;simp only[og]at hn;simp only[fF];simp only[exec]at h;have:∀(k:Nat) {s:St},iter (fun s=>exec P T call L f false fl nt b (kE (T.eX f (dW b)) s)) k s=some (e,s')->Hf (fun s Q=>fF P T call cd L f fl nt b (kE (T.eX f (dW b)) s) Q) k s Q:=by
   intro k
   induction k with
   |zero=>intro s h;simp[iter]at h
   |succ k ihk=>
    intro s h;simp only[iter]at h;split at h
    .rename_i s1 h1;exact ih hn h1 (ihk h)
    rename_i iD;refine ih hn h ?_;cases e with
    |norm=>exact(iD s' h).elim
    |exit i=>exact hq
    |ret=>exact hq
  exact this L h
 |rangeFunc=>intro s s' e Q hn;cases hn
 |_=>
  intro s s' e Q hn h hq;simp only[fF];exact⟨_,_,h,hq⟩
end
section
variable {X:kX} {P:LI1} {T:qM} {call:aZ} {cd:vH} {L f nt B:Nat}
def aJ(X:kX)(P:LI1)(T:qM)(call:aZ)(cd:vH)(L f nt B:Nat)(c:Code)(ps:aU X.Γ)(Q:Ex->aU X.Γ->Prop):Prop:=
 ∀(A W:Nat->Prop) (fl:Nat) (m:List MB) (ts:St) (R:Ex->St->Prop),SR X P A W fl m ps ts->(∀e iK ps1 m1,Q e ps1->SR X P A W fl m1 ps1 iK->Fr m ts.heap m1 iK.heap->N9 B m m1->R e iK)->fF P T call cd L f fl nt c ts R
theorem aJ.mono{c:Code}{ps:aU X.Γ}{Q Q':Ex->aU X.Γ->Prop}(hq:∀e s,Q e s->Q' e s)(h:aJ X P T call cd L f nt B c ps Q):aJ X P T call cd L f nt B c ps Q':=fun A W fl m ts R hS hR=>
 h A W fl m ts R hS fun e iK ps1 m1 a1=>hR e iK ps1 m1 (hq _ _ a1)
theorem dR.dem{c:Code}{ps ps1:aU X.Γ}{e:Ex}{Q:Ex->aU X.Γ->Prop}(hn:og c=true)(h:dR X P T call L f false nt B c ps e ps1)(hq:Q e ps1):aJ X P T call cd L f nt B c ps Q:=fun A W fl m ts R hS hR=>by obtain⟨iK,m1,h1,h2,h3,h4⟩:=h A W fl m ts hS;exact a7f c hn h1 (hR _ _ ps1 m1 hq h2 h3 h4)
theorem aJ.seq{a b:Code}{ps:aU X.Γ}{Q R:Ex->aU X.Γ->Prop}(ha:aJ X P T call cd L f nt B a ps R)(hb:∀s,R .norm s->aJ X P T call cd L f nt B b s Q)(he:∀i s,R (.exit i) s->Q (.exit i) s)(hr:∀s,R .ret s->Q .ret s):aJ X P T call cd L f nt B (.seq a b) ps Q:=fun A W fl m ts R' hS hR=>by
 simp only[fF];refine ha A W fl m ts _ hS fun e iK ps1 m1 a1 a2 a3 a4=>?_;cases e with
 |norm=>exact hb ps1 a1 A W fl m1 iK R' a2 fun e ts2 CS m2 b1 b2 b3 b4=>hR e ts2 CS m2 b1 b2 (a3.trans b3) (a4.trans b4)
 |exit i=>exact hR _ _ ps1 m1 (he _ _ a1) a2 a3 a4
 |ret=>exact hR _ _ ps1 m1 (hr _ a1) a2 a3 a4
theorem aJ.block{id:Nat}{b:Code}{ps:aU X.Γ}{Q:Ex->aU X.Γ->Prop}(h:aJ X P T call cd L f nt B b ps fun e s=>Q (match e with|.exit i=>if i=id then .norm else .exit i|e=>e) s):aJ X P T call cd L f nt B (.block id b) ps Q:=fun A W fl m ts R hS hR=>by simp only[fF];exact h A W fl m ts _ hS fun e iK ps1 m1 a1 a2 a3 a4=>hR _ iK ps1 m1 a1 a2 a3 a4
theorem aJ.loop{b:Code}{Q:Ex->aU X.Γ->Prop}(I:Nat->aU X.Γ->Prop)
  (h:∀k s,I k s->aJ X P T call cd L f nt B b (gU X (T.eX f (dW b)) s) fun e s=>match e with|.norm=>∃j,j<k∧I j s|e=>Q e s) {k:Nat} {ps:aU X.Γ} (hi:I k ps) (hk:k<L):aJ X P T call cd L f nt B (.loop b) ps Q:=fun A W fl m ts R hS hR=>by
 simp only[fF];have key:∀(n k:Nat) (ps:aU X.Γ) (m1:List MB) (iK:St),k<n->I k ps->SR X P A W fl m1 ps iK->Fr m ts.heap m1 iK.heap->N9 B m m1->Hf (fun s Q=>fF P T call cd L f fl nt b (kE (T.eX f (dW b)) s) Q) n iK R:=by
  intro n
  induction n with
  |zero=>intro k ps m ts hk;omega
  |succ n ih=>
   intro k ps m1 iK hk hi hS hF hU;simp only[Hf];refine h k ps hi A W fl m1 _ _ (hS.head _) fun e ts2 CS m2 a1 a2 a3 a4=>?_;have a3:Fr m1 iK.heap m2 ts2.heap:=a3;cases e with
   |norm=>
    obtain⟨j,hj,Ai⟩:=a1;exact ih j CS m2 ts2 (by omega) Ai a2 (hF.trans a3) (hU.trans a4)
   |exit i=>exact hR _ _ CS m2 a1 a2 (hF.trans a3) (hU.trans a4)
   |ret=>exact hR _ _ CS m2 a1 a2 (hF.trans a3) (hU.trans a4)
 exact key L k ps m ts hk hi hS .refl Up.refl.b
theorem aJ.cond{c:Operand}{a b:Code}{ps:aU X.Γ}{t:Bool}{Q:Ex->aU X.Γ->Prop}(hc:A8 ps.env c=some (.bool t))(h:aJ X P T call cd L f nt B (if t then a else b) ps Q):aJ X P T call cd L f nt B (.cond c a b) ps Q:=fun A W fl m ts R hS=>by
 obtain⟨x,g1,g2⟩:=jB hS.st.env hc;have hx:x=.bool t:=by
  cases g2 with
  |bool=>rfl
  |gone hi _ _=>simp[bn]at hi
 subst hx;simp only[fF,g1];cases t with
 |true=>exact h A W fl m ts R hS
 |false=>exact h A W fl m ts R hS
theorem aJ.next{id it nx mo b r n:Nat}{seen:List Nat}{ops:Array Oper}{draw:Bool}{o1 o2:Oper}{ps:aU X.Γ}{es:List (PV X.Γ×PV X.Γ)}{Q:Ex->aU X.Γ->Prop}(hn:Am ops=some (it,nx,o1,o2))(hd:nx<nt)(ZW:mo<nt)
  (h2:o2.op=.extract (.tmp nx) 0) (h3:o2.dst=some mo) (h4:o2.guard=none)
  (QN:A8 ps.env (.tmp it)=some (.iter b)) (hb:ps.heap[b]? = some (.dn r n seen)) (hr:KQ X ps.heap r=some es) (hl:es.length=n)
  (wo:(∀j,j<n->j∈seen)->Q .norm { ps with env:=jm (T.iy f id) ((mo,.val (.bool false))::(nx,.val (.dJ [.bool false]))::ps.env) })
  (pick:∀j e,j∉seen->es[j]? = some e->Q .norm { ps with env:=jm (T.iy f id) ((mo,.val (.bool true))::(nx,.val (.dJ [.bool true,e.1,e.2]))::ps.env),heap:=ps.heap.set b (.dn r n (j::seen)) }) :
  aJ X P T call cd L f nt B (.region id ops draw) ps Q:=fun A W fl m ts R hS hR0=>by
 obtain⟨x,g1,g2⟩:=jB hS.st.env QN;obtain⟨mb,q1,q2⟩:=hS.st.heap.at_ b _ hb;obtain⟨cr,fZ,q3,z1,z2,z3⟩:=Dh hS.st.heap hr;cases mb with
 |gq cb=>
   obtain⟨c,p1,p2,p3⟩:=q2;have:=p3 cr (by rcases q3 with q|⟨q,_⟩;exact .inl q;exact .inr q);subst this;cases g2 with
   |gone hi e _=>simp only[bn,a0d]at hi;subst hi;rw[q1]at e;cases e
   |iter e1=>
    rw[q1]at e1;cases e1;have apa:dQ it ts.env=some (.val (.iter cb)):=by
     unfold qQ at g1;split at g1
     .rename_i v hv;cases g1;exact hv
     .cases g1
    have run:∀(s:St) (t:Bool) (vs:List TV),lD P call (fun d=>T.Ug f d) fl nt ops [o2] (s.put (some nx) (.val (.dJ (.bool t::vs))))=some ({ s with env:=(mo,.val (.bool t))::(nx,.val (.dJ (.bool t::vs)))::s.env },[cZ]):=by intro s t vs;have e1:NH nt o2=true:=(by simp[NH,h3,ZW]);have e2:∀env,CP ops env o2=some true:=fun env=>(by simp[CP,h4]);simp only[lD,e1,e2,a9t,a2S,a3T,pG,h2];simp[St.put,IV,dQ,h3,kD,cZ,yY]
    simp only[fF,hn];refine⟨hd,cb,cr,n,seen,fZ,apa,p1,z1,by rw[<-z2];exact hl,fun FP=>?_,fun j e hj he=>?_⟩
    .refine⟨_,_,run ts false [],hR0 _ _ { ps with env:=_ } m (wo FP) ?_ .refl Up.refl.b⟩;have hS2:vg X P A m { ps with env:=(mo,.val (.bool false))::(nx,.val (.dJ [.bool false]))::ps.env } { ts with env:=(mo,.val (.bool false))::(nx,.val (.dJ [.bool false]))::ts.env }:=
      ⟨hS.st.heap,hS.st.llen,hS.st.loc,.cons (.bool false) (.cons (bY.cons (.bool false) .nil |> fun h=>.dJ h.1 h.2) hS.st.env)⟩
     exact SR.pick ⟨hS2,hS.own,hS.ws,hS.fl⟩ _
    .have aT:j<es.length:=by rw[z2];exact(a0h.1 he).1
     have hej:=a0q aT;have hv:=z3 j _ _ hej he;have hcb:=(a0h.1 p1).1;obtain⟨u1,u2⟩:=hS.st.heap.set (pb:=.dn r n (j::seen)) (hb:=.dn cr n (j::seen)) q1 (c:=cb) rfl (fun cs hc=>by simp[aW,p1]at hc) fun hF=>⟨cr,by simp[hcb],p2,p3⟩;refine⟨_,_,run _ true [e.1,e.2],hR0 _ _ { ps with env:=_,heap:=_ } m (pick j _ hj hej) ?_ u2 Up.refl.b⟩;have hS1:=hS.st.step u1 u2 .refl;have hS2:vg X P A m { ps with env:=(mo,.val (.bool true))::(nx,.val (.dJ [.bool true,es[j].1,es[j].2]))::ps.env,heap:=ps.heap.set b (.dn r n (j::seen)) } { ts with env:=(mo,.val (.bool true))::(nx,.val (.dJ [.bool true,e.1,e.2]))::ts.env,heap:=ts.heap.set cb (.dn cr n (j::seen)),ws:=kD fl [.h cb] ts.ws }:=
      ⟨hS1.heap,hS1.llen,hS1.loc,.cons (.bool true) (.cons (bY.cons (.bool true) (bY.cons (o7 hv.1) (bY.cons (o7 hv.2) .nil)) |> fun h=>.dJ h.1 h.2) hS1.env)⟩
     refine SR.pick ⟨hS2,hS.own,fun b2 yg=>?_,by simpa using hS.fl⟩ _;rcases oK.1 yg with h5|⟨h5,h6⟩
     .exact hS.ws b2 h5
     .simp at h5;subst h5;exact(hS.own _ (bf q1 rfl)).resolve_right (by omega)
 |_=>exact q2.elim
def aaz(X:kX)(P:LI1)(cd:vH)(fv:PV X.Γ)(xs:List (PV X.Γ))(H:List (PB X.Γ))(K:PV X.Γ->List (PB X.Γ)->Prop):Prop:=
 ∀(A:Nat->Prop) (m:List MB) (h:List HB) (tf:TV) (qP:List TV) (R:TV->List HB->List Nat->Prop),HR X P A m H h->VR X P (AA A m) m h fv tf->bY X P (AA A m) m h xs qP ->
  (∀w h1 ws m1 v H1,K v H1->HR X P A m1 H1 h1->VR X P (AA A m1) m1 h1 v w->Fr m h m1 h1->Up m m1->(∀b∈ws,b∈bg m)->R w h1 ws)->cd tf qP h R
theorem a1O{n:Nat}{t:FnT}{first xs cap:List (PV X.Γ)}{H:List (PB X.Γ)}{K:PV X.Γ->List (PB X.Γ)->Prop}(hX:bT X P)(ht:Uf P f=some t)
  (hE:aJ X P T (lq P T L n) D5 L f t.nt H.length t.body ⟨lu X 0 (first++xs++cap),[],H⟩ fun e s=>(e=.norm∨e=.ret)∧∃us,Fg X P s t.results=some us∧K (ZN X us) s.heap):aaz X P (uY P T (lq P T L n) L) (.fn f first cap) xs H K:=by
 intro A m h tf qP R hr hf Oa hR;cases hf with
 |gone hi _ _=>simp[bn]at hi
 |fn p1 p2 p3 p4=>
  rename_i a' c';have Fa:=(bY.app ⟨p1,p2⟩ Oa).app ⟨p3,p4⟩;refine⟨t,ht,hE A (fun b=>b∈bg m) _ m _ _ ⟨⟨hr,rfl,fun k cs hk=>by simp at hk,Na Fa⟩,fun b h1=>.inl h1,fun b hb=>(by cases hb),a0P _⟩ fun e iK ps1 m1 ⟨he,us,hus,hk⟩ h3 h4 h5=>?_⟩;obtain⟨ws,g1,g2⟩:=Jg hX h3.st hus;refine⟨he,ws,g1,hR _ _ _ m1 _ _ hk h3.st.heap (Va g2) h4 (fun i mb hi=>h5 i mb ?_ hi) h3.ws⟩;rw[<-hr.len];exact(a0h.1 hi).1
theorem aJ.range(hX:bT X P){g:Operand}{qs:Array Nat}{uT body:Code}{ps:aU X.Γ}{f1:FuncId}{a1 b1:List (PV X.Γ)}{K:PV X.Γ->List (PB X.Γ)->Prop}{Q:Ex->aU X.Γ->Prop}
  (hg:A8 ps.env g=some (.fn f1 a1 b1)) (hd:T.din.contains f1=true) (FP:(ps.env.all fun p=>a04 p.2)=true)
  (apb:aaz X P cd (.fn f1 a1 b1) [.kU (ps.heap.length+1)] (ps.heap++[.mark]++[.loop true f nt ps.env qs.toList uT body none]) K)
  (hk:∀v H1,K v H1->∃rd f2 QH e2 CS a2 b2 jQ e,H1[ps.heap.length+1]? = some (.loop rd f2 QH e2 CS a2 b2 jQ)∧Rx rd jQ=some e∧Q e { ps with heap:=H1.set (ps.heap.length+1) (.loop false f2 QH e2 CS a2 b2 (some .skip)) }) :
  aJ X P T call cd L f nt B (.rangeFunc g qs uT body) ps Q:=by
 intro A W fl m ts R hS hR;obtain⟨tg,g1,g2⟩:=jB hS.st.env hg;have hm:=hS.st.heap.len;obtain⟨p1,p2,p3⟩:=hS.st.heap.push (pb:=.mark) (hb:=.mark) (mb:=.gq ts.heap.length) (.inl rfl) (by simp[BR]);obtain⟨q1,q2,q3⟩:=p1.push (pb:=.loop true f nt ps.env qs.toList uT body none) (hb:=.loop true f nt ts.env qs.toList uT body none) (mb:=.gq (ts.heap.length+1)) (.inl (by simp[MB.own])) (by
  refine⟨ts.env,by simp,?_⟩;refine ku.step (m:=m) (h:=ts.heap) (A:=A) ?_ ?_ hS.st.env
  .have r2:Fr (m++[MB.gq ts.heap.length]) (ts.heap++[HB.mark]) (m++[MB.gq ts.heap.length]++[MB.gq (ts.heap.length+1)]) (ts.heap++[HB.mark]++[HB.loop true f nt ts.env qs.toList uT body none]):=by
    refine⟨by simp,fun b hb _=>by rw[a0C hb],fun b hb=>?_,fun b cs hc=>⟨cs,?_,a0P _⟩⟩
    .rw[jh,a3P,kJ]at hb;rcases hb with hb|hb
     .exact .inl hb
     .simp[MB.own]at hb;subst hb;exact .inr (by simp)
    .rw[fP (a0C (fM hc)),hc]
   exact p2.trans r2
  .exact p3.trans (wR _))
 have hF:=p2.trans q2;have hU:=p3.trans q3;have hyl:VR X P (AA A (m++[MB.gq ts.heap.length]++[MB.gq (ts.heap.length+1)])) (m++[MB.gq ts.heap.length]++[MB.gq (ts.heap.length+1)]) (ts.heap++[HB.mark]++[HB.loop true f nt ts.env qs.toList uT body none]) (.kU (ps.heap.length+1)) (.kU (ts.heap.length+1)):=by refine .kU ?_;rw[<-hm,a0T (by simp)];simp
 have hg':∃a1' b1',tg=.fn f1 a1' b1':=by
  cases g2 with
  |gone hi _ _=>simp[bn]at hi
  |fn _ _ _ _=>exact⟨_,_,rfl⟩
 obtain⟨a1',b1',rfl⟩:=hg';have ape:a5T T ts.env g=true:=by unfold a5T;rw[g1];exact hd
 simp only[fF,ape,a2u];refine⟨f1,a1',b1',g1,a6U hS.st.env FP,?_⟩;rw[show ts.heap++[HB.mark,HB.loop true f nt ts.env qs.toList uT body none]=ts.heap++[HB.mark]++[HB.loop true f nt ts.env qs.toList uT body none] by simp];refine apb A _ _ _ [.kU (ts.heap.length+1)] _ q1 (g2.step hF hU) (.cons hyl .nil) fun w h1 ws m1 v H1 OU c2 c3 c4 c5 c6=>?_;obtain⟨rd,f2,QH,e2,CS,a2,b2,jQ,e,hl,hj,hq⟩:=hk v H1 OU;have hm1:m1[ps.heap.length+1]? = some (.gq (ts.heap.length+1)):=by
  rcases c5 (ps.heap.length+1) (.gq (ts.heap.length+1)) (by rw[<-hm,a0T (by simp)];simp)with e|e
  .exact e
  .obtain⟨mb,k1,k2⟩:=c2.at_ _ _ hl;rw[e]at k1;cases k1;exact k2.elim
 obtain⟨mb,k1,k2⟩:=c2.at_ _ _ hl;rw[hm1]at k1;cases k1;obtain⟨e2',k3,k4⟩:=k2;obtain⟨s1,s2⟩:=c2.set (i:=ps.heap.length+1) (c:=ts.heap.length+1) (pb:=.loop false f2 QH e2 CS a2 b2 (some .skip)) (hb:=.loop false f2 QH e2' CS a2 b2 (some .skip)) hm1 rfl (fun cs hc=>by unfold aW at hc;rw[k3]at hc;cases hc) (fun hF=>⟨e2',by rw[a2M (a0h.1 k3).1],k4.step hF .refl⟩);have hF2:=hF.trans (c4.trans s2);have hU2:=hU.trans c5;refine⟨_,_,_,_,_,_,_,_,e,k3,hj,hR _ _ _ m1 hq ⟨?_,fun b hb=>?_,fun b hb=>?_,?_⟩ hF2 hU2.b⟩
 .have q:=hS.st.step s1 hF2 hU2;exact⟨q.heap,q.llen,q.loc,q.env⟩
 .rcases hF2.new b hb with k|k
  .exact hS.own b k
  .exact .inr (a5x hS.fl k)
 .rcases vX hb with k|⟨k,k'⟩
  .exact hS.ws b k
  .obtain⟨b',qN,e⟩:=a0V.1 k;cases e;rcases hF.new b (c6 b qN)with k2|k2
   .rcases hS.own b k2 with k3|k3
    .exact k3
    .omega
   .have:=hS.fl;omega
 .exact a5x hS.fl hF2.len
end
section
variable {X:kX} {P:LI1} {A B:Nat->Prop} {m m' m1:List MB} {h h':List HB} {g:Nat->Option Nat}
def BM:List (PB X.Γ)->Bool
 | []=>true
 |.aF _::H=>BM H
 |.iG _::H=>BM H
 |.gone::H=>BM H
 |_=>false
theorem XO:∀{H:List (PB X.Γ)},BM H=true->∀(i:Nat) b,H[i]? = some b->BM [b]=true
 | [],_,i,b,h=>by simp at h
 |a::H,hn,i,b,h=>by
  cases i with
  |zero=>simp at h;subst h;cases a<;>simp_all [BM]
  |succ i=>
   have Eb:BM H=true:=by cases a<;>simp_all [BM]
   exact XO Eb i b (by simpa using h)
theorem a08{H:List (PB X.Γ)}(hn:BM H=true)(hr:HR X P A m H h):bg m=[]:=by
 refine a5D.2 fun b hb=>?_;obtain⟨i,mb,h1,h2⟩:=kL hb;have hl:i<H.length:=by rw[<-hr.len];exact(a0h.1 h1).1
 obtain⟨MS,g1,g2⟩:=hr.at_ i _ (a0q hl);rw[h1]at g1;cases g1;have h3:=XO hn i _ (a0q hl);generalize H[i]=b9 at g2 h3;cases b9<;>first|(cases h3;done)|skip
 all_goals (cases mb<;>first|exact g2.elim|cases h2)
theorem Py{v:PV X.Γ}{t:TV}(h:ru v=some t):(∀l,BO t l=l)∧(∀g,nP g t=some t)∧∀fl,LG fl t=t:=by cases v<;>simp only[ru,a0d,reduceCtorEq]at h<;>subst h<;>exact⟨fun _=>rfl,fun _=>rfl,fun _=>rfl⟩
theorem yE:∀{vs:List (PV X.Γ)} {ts:List TV},iO vs=some ts->(∀l,BO.F8 ts l=l)∧∀g,nP.zA g ts=some ts
 | [],ts,h=>by simp only[iO,a0d]at h;subst h;exact⟨fun _=>rfl,fun _=>rfl⟩
 |v::vs,ts,h=>by
  simp only[iO]at h;split at h
  .rename_i a b h1 h2;cases h;have e1:=Py h1;have e2:=yE h2;exact⟨fun l=>by simp only[BO.F8,e2.1,e1.1],fun g=>by simp only[nP.zA,e1.2.1,e2.2]⟩
  cases h
theorem Nh{v:PV X.Γ}{t:TV}(h:qw v=some t):(∀l,BO t l=l)∧(∀g,nP g t=some t)∧∀fl,LG fl t=t:=by
 unfold qw at h;split at h
 .simp only[a0l]at h;obtain⟨ts,h1,rfl⟩:=h;have e:=yE h1;exact⟨fun l=>by simp only[BO,e.1],fun g=>by simp only[nP,e.2,a0O],fun _=>rfl⟩
 exact Py h
def a3G(X:kX)(P:LI1)(ny:Bool)(u:PV X.Γ)(Hs:List (PB X.Γ))(tv:Nat->TV)(tN:List HB):Prop:=
 ∀(A:Nat->Prop) (m:List MB) (h h1:List HB) (w:TV),HR X P A m Hs h1->VR X P (AA A m) m h1 u w->(∀b,b∈bg m->h.length<=b)->Oo ny h w h1=some (tv h.length,h++tN)
theorem Dy(hX:bT X P){T:qM}{L n f:Nat}{t:FnT}{first xs cap:List (PV X.Γ)}{H N:List (PB X.Γ)}{v:PV X.Γ}{tv:Nat->TV}{tN:List HB}(hd:T.dem.contains f=true)(hx:T.exts.contains f=false)(ht:Uf P f=some t)(hN:BM H=true)
  (Ou:∀A m h,HR X P A m H h->∃m1,HR X P A m1 (H++N) (h++tN)∧VR X P (AA A m1) m1 (h++tN) v (tv h.length)∧Fr m h m1 (h++tN)∧Up m m1)
  (hE:aJ X P T (lq P T L n) (uY P T (lq P T L n) L) L f t.nt H.length t.body ⟨lu X 0 (first++xs++cap),[],H⟩ fun e s=>(e=.norm∨e=.ret)∧∃us,Fg X P s t.results=some us∧a3G X P (T.a9z.contains f) (ZN X us) s.heap tv tN):dG X P (lq P T L (n+1)) (.fn f first cap) xs H v (H++N):=by
 intro A m h tf qP hr hf Oa;cases hf with
 |gone hi _ _=>simp[bn]at hi
 |fn p1 p2 p3 p4=>
  rename_i a' c';have Fa:=(bY.app ⟨p1,p2⟩ Oa).app ⟨p3,p4⟩;have hb:=a08 hN hr;have hS:SR X P A (fun _=>False) h.length m ⟨lu X 0 (first++xs++cap),[],H⟩ ⟨nU 0 (a'++qP++c'),[],h,[]⟩:=
   ⟨⟨hr,rfl,fun k cs hk=>by simp at hk,Na Fa⟩,fun b h1=>(by rw[hb]at h1;cases h1),fun b hb=>(by cases hb),a0P _⟩
  have hO:X4 P T (lq P T L n) L f t (a'++qP++c') h (tv h.length,h++tN):=by refine hE A _ _ m _ _ hS fun e iK ps1 m1 ⟨he,us,hus,hpv⟩ h3 h4 h5=>?_;obtain⟨ws,g1,g2⟩:=Jg hX h3.st hus;exact⟨he,ws,g1,a5D.2 fun b hb=>h3.ws b hb,hpv A m1 h iK.heap _ h3.st.heap (Va g2) fun b hb=>(h3.own b hb).resolve_left id⟩
  obtain⟨m1,q1,q2,q3,q4⟩:=Ou A m h hr;refine⟨tv h.length,h++tN,[],m1,?_,q1,q2,q3,q4,fun b hb=>by cases hb⟩;simp only[lq,hx,hd,a2S,a3T,a2u];exact a9U ht hO
theorem a09{ny:Bool}{u:PV X.Γ}{Hs:List (PB X.Γ)}{tu:TV}(hu:qw u=some tu)(ht:∀cs,tu≠.dJ cs):a3G X P ny u Hs (fun _=>tu) []:=fun A m h h1 w hr hw _=>by
 have:=jU hw hu;subst this;obtain⟨e1,e2,e3⟩:=Nh hu;have e4:UE h.length w=w:=by
  cases w with
  |dJ cs=>exact absurd rfl (ht cs)
  |_=>exact e3 h.length
 unfold Oo;simp only[e1,wL,e2,D6,e4,abL,a6f]
theorem aaA(hX:bT X P){T:qM}{L n f:Nat}{t:FnT}{first xs cap:List (PV X.Γ)}{H:List (PB X.Γ)}{v:PV X.Γ}{tv:TV}(hd:T.dem.contains f=true)(hx:T.exts.contains f=false)(ht:Uf P f=some t)(hN:BM H=true)(hv:qw v=some tv)
  (hE:aJ X P T (lq P T L n) (uY P T (lq P T L n) L) L f t.nt H.length t.body ⟨lu X 0 (first++xs++cap),[],H⟩ fun e s=>(e=.norm∨e=.ret)∧∃us,Fg X P s t.results=some us∧ZN X us=v):dG X P (lq P T L (n+1)) (.fn f first cap) xs H v H:=by
 have:=Dy (N:=[]) (v:=v) (tv:=fun _=>tv) (tN:=[]) hX hd hx ht hN (fun A m h hr=>⟨m,by simpa using hr,o7 hv,by simpa using Fr.refl,.refl⟩) (hE.mono fun e s ⟨h1,us,h2,h3⟩=>⟨h1,us,h2,by rw[h3];exact a09 hv fun cs hc=>by subst hc;cases v<;>simp[qw,ru]at hv⟩)
 rwa [a6f]at this
def wW:List (PV X.Γ×PV X.Γ)->Option (List (TV×TV))
 | []=>some []
 |(k,v)::r=>match qw k,qw v,wW r with
  |some k,some v,some r=>some ((k,v)::r)
  |_,_,_=>none
theorem XP:∀{es:List (PV X.Γ×PV X.Γ)} {fZ Nj:List (TV×TV)},wW es=some Nj->es.length=fZ.length->(∀(i:Nat) x y,es[i]? = some x->fZ[i]? = some y->qw x.1=some y.1∧qw x.2=some y.2)->fZ=Nj
 | [],fZ,Nj,h,hl,_=>by simp only[wW,a0d]at h;subst h;exact a4I hl.symm
 |(k,v)::r,fZ,Nj,h,hl,he=>by
  cases fZ with
  |nil=>simp at hl
  |cons y fZ=>
   simp only[wW]at h;split at h
   .rename_i a b c h1 h2 h3;cases h;have e0:=he 0 _ _ rfl rfl;have e1:y.1=a:=by have:=e0.1.symm.trans h1;exact a9x this
    have e2:y.2=b:=by have:=e0.2.symm.trans h2;exact a9x this
    have e3:=XP h3 (by simpa using hl) fun i x z hx hz=>he (i+1) x z (by simpa using hx) (by simpa using hz);rw[e3,<-e1,<-e2]
   cases h
theorem Pz:∀{es:List (PV X.Γ×PV X.Γ)} {Nj:List (TV×TV)},wW es=some Nj->es.length=Nj.length∧∀(i:Nat) x y,es[i]? = some x->Nj[i]? = some y->qw x.1=some y.1∧qw x.2=some y.2
 | [],Nj,h=>by simp only[wW,a0d]at h;subst h;exact⟨rfl,by simp⟩
 |(k,v)::r,Nj,h=>by
  simp only[wW]at h;split at h
  .rename_i a b c h1 h2 h3;cases h;obtain⟨i1,i2⟩:=Pz h3;refine⟨by simp[i1],fun i x y hx hy=>?_⟩;cases i with
   |zero=>simp at hx hy;subst hx;subst hy;exact⟨h1,h2⟩
   |succ i=>exact i2 i x y (by simpa using hx) (by simpa using hy)
  cases h
theorem TF:∀{es:List (PV X.Γ×PV X.Γ)} {Nj:List (TV×TV)},wW es=some Nj->(∀l,a9P.a1e Nj l=l)∧∀g,Tw.pq g Nj=some Nj
 | [],Nj,h=>by simp only[wW,a0d]at h;subst h;exact⟨fun _=>rfl,fun _=>rfl⟩
 |(k,v)::r,Nj,h=>by
  simp only[wW]at h;split at h
  .rename_i a b c h1 h2 h3;cases h;have e1:=Nh h1;have e2:=Nh h2;have e3:=TF h3;exact⟨fun l=>by simp only[a9P.a1e,e1.1,e2.1,e3.1],fun g=>by simp only[Tw.pq,e1.2.1,e2.2.1,e3.2]⟩
  cases h
theorem PD{h h1:List HB}{c:Nat}(hc:h.length<=c)(hr:∀l,a9P h1[c]? l=l):wL h1 h.length 5000 [c] []=[c]∧WW h.length [c] c=some h.length:=by
 have e1:Nat.blt c h.length=false:=by
  cases e:Nat.blt c h.length with
  |false=>rfl
  |true=>have:=aht e;omega
 constructor
 .simp only[wL,e1,a6a,Bool.or_false,hr]
 simp only[WW,e1,a5Y,Nat.beq_refl,a0O,a3W]
theorem a7h{ny:Bool}{r:Nat}{Hs:List (PB X.Γ)}{es:List (PV X.Γ×PV X.Γ)}{Nj:List (TV×TV)}(hm:Hs[r]? = some (.map es))(he:wW es=some Nj):a3G X P ny (.map r) Hs (fun n=>.map n) [.map (Sz Nj)]:=fun A m h h1 w hr hw hn=>by
 obtain⟨mb,g1,g2⟩:=hr.at_ r _ hm;cases mb with
 |gq c=>
  obtain⟨fZ,g3,g4,g5⟩:=g2;have:=XP he g4 g5;subst this;have hw:w=.map c:=by
   cases hw with
   |map e=>rw[g1]at e;cases e;rfl
   |gone hi e _=>simp only[bn,a0d]at hi;subst hi;rw[g1]at e;cases e
  subst hw;have hc:=hn c (bf g1 rfl);obtain⟨e1,e2⟩:=TF he;obtain⟨k1,k2⟩:=PD (h:=h) (h1:=h1) hc fun l=>by rw[g3];exact e1 l
  unfold Oo;simp only[BO,k1,nP,k2,a0O,D6,g3,uI,e2,UE,LG,a4M,abL,QO]
 |_=>exact g2.elim
theorem a7i(hX:bT X P){T:qM}{L n f:Nat}{t:FnT}{first xs cap:List (PV X.Γ)}{H:List (PB X.Γ)}{es0:List (PV X.Γ×PV X.Γ)}{a3H:List (TV×TV)}(hd:T.dem.contains f=true)(hx:T.exts.contains f=false)(ht:Uf P f=some t)(hN:BM H=true)(h0:wW es0=some a3H)
  (hE:aJ X P T (lq P T L n) (uY P T (lq P T L n) L) L f t.nt H.length t.body ⟨lu X 0 (first++xs++cap),[],H⟩ fun e s=>(e=.norm∨e=.ret)∧∃us,Fg X P s t.results=some us∧∃r es Nj,ZN X us=.map r∧s.heap[r]? = some (.map es)∧wW es=some Nj∧Sz Nj=a3H):dG X P (lq P T L (n+1)) (.fn f first cap) xs H (.map H.length) (H++[.map es0]):=by
 refine Dy (tv:=fun n=>.map n) (tN:=[.map a3H]) hX hd hx ht hN (fun A m h hr=>?_) (hE.mono fun e s ⟨h1,us,h2,r,es,Nj,h3,h4,h5,h6⟩=>⟨h1,us,h2,by rw[h3,<-h6];exact a7h h4 h5⟩);obtain⟨p1,p2,p3⟩:=hr.push (pb:=.map es0) (hb:=.map a3H) (mb:=.gq h.length) (.inl rfl) ⟨a3H,by simp,(Pz h0).1,(Pz h0).2⟩;exact⟨_,p1,.map (by rw[<-hr.len];simp),p2,p3⟩
theorem XQ(hX:bT X P){A:Nat->Prop}{m:List MB}{Hs:List (PB X.Γ)}{h1:List HB}{i ty:Nat}{k ex:Bool}{l:List (X.Γ ty)}{w:TV}{LM:List TV}(hr:HR X P A m Hs h1)(hi:Hs[i]? = some (.list k ex ty l))(hl:l≠[])(hc:iO (EM X ty l)=some LM)(hw:VR X P (AA A m) m h1 (.own i) w) :
  ∃c sz e kk,w=.aP c 0 l.length l.length sz e∧dH P ty=some sz∧c∈bg m∧h1[c]? = some (.cells kk LM)∧kk≠.ro:=by
 obtain⟨mb,g1,g2⟩:=hr.at_ i _ hi;cases mb with
 |dF x=>
  have hwx:w=x:=by
   cases hw with
   |own e _=>rw[g1]at e;cases e;rfl
   |gone hi e _=>simp only[bn,a0d]at hi;subst hi;rw[g1]at e;cases e
  subst hwx;cases(g2:LR X P (AA A m) m h1 k ex ty l w)with
  |nil=>exact absurd rfl hl
  |emp=>exact absurd rfl hl
  |some _ q2 q3 q4 q5 q6 q7 q8 q9=>
   have hv:=eF.vrs q9 q8;have RU:=G7 hv hc;subst RU;exact⟨_,_,_,_,rfl,q2,bf g1 (by simp only[MB.own];rw[a0E (by simpa using hl)]),q4,q5⟩
 |_=>exact g2.elim
theorem a7j(hX:bT X P){i ty sz:Nat}{k ex:Bool}{l:List (X.Γ ty)}{Hs:List (PB X.Γ)}{LM:List TV}(hi:Hs[i]? = some (.list k ex ty l))(hl:l≠[])(hc:iO (EM X ty l)=some LM)(hs:dH P ty=some sz):a3G X P true (.own i) Hs (fun n=>.aP n 0 l.length l.length sz false) [.ny (SA LM)]:=fun A m h h1 w hr hw hn=>by
 obtain⟨c,sz',e,kk,rfl,g1,g2,g3,g4⟩:=XQ hX hr hi hl hc hw;rw[hs]at g1;cases g1;have pV:=hn c g2;obtain⟨e1,e2⟩:=yE hc;obtain⟨k1,k2⟩:=PD (h:=h) (h1:=h1) pV fun l=>by rw[g3];exact e1 l
 have e3:QO true (.cells kk LM)=.ny (SA LM):=by cases kk<;>first|rfl|exact absurd rfl g4
 unfold Oo;simp only[BO,k1,nP,k2,a0O,D6,g3,uI,e2,UE,LG,a4M,abL,e3,Nat.lt_irrefl,a3T]
theorem a7k(hX:bT X P){i ty sz:Nat}{k ex:Bool}{l:List (X.Γ ty)}{Hs:List (PB X.Γ)}{LM:List TV}{p:PV X.Γ}{tp:TV}(hi:Hs[i]? = some (.list k ex ty l))(hl:l≠[])(hc:iO (EM X ty l)=some LM)(hs:dH P ty=some sz)(hp:qw p=some tp):a3G X P false (.dJ [.own i,p]) Hs (fun n=>.dJ [.aP n 0 l.length l.length sz false,tp]) [.cells .last LM]:=fun A m h h1 w hr hw hn=>by
 cases hw with
 |gone hi _ _=>simp[bn]at hi
 |dJ a1 a2=>
  rename_i cs';obtain⟨x,r,rfl,v0,v1⟩:=bY.inv (⟨a1,a2⟩:bY X P _ _ _ _ _);obtain⟨y,r,rfl,v2,v3⟩:=v1.inv;have:=v3.inv0;subst this;have:=jU v2 hp;subst this;obtain⟨c,sz',e,kk,rfl,g1,g2,g3,g4⟩:=XQ hX hr hi hl hc v0;rw[hs]at g1;cases g1;have pV:=hn c g2;obtain⟨e1,e2⟩:=yE hc;obtain⟨q1,q2,q3⟩:=Nh hp;obtain⟨k1,k2⟩:=PD (h:=h) (h1:=h1) pV fun l=>by rw[g3];exact e1 l
  have e3:QO false (.cells kk LM)=.cells .last LM:=by cases kk<;>first|rfl|exact absurd rfl g4
  unfold Oo;have q4:LG h.length (.aP h.length 0 l.length l.length sz e)=.aP h.length 0 l.length l.length sz false:=by simp only[LG,Nat.lt_irrefl,a3T]
  simp only[BO,BO.F8,q1,k1,nP,nP.zA,q2,k2,a0O,D6,g3,uI,e2,UE,q3,q4,a4M,abL,e3]
theorem aaB{H:List (PB X.Γ)}{n sz:Nat}{cs:List (PV X.Γ)}{ts:List TV}(h0:UK cs=some ts){A m h}(hr:HR X P A m H h):∃m1,HR X P A m1 (H++[.ny cs]) (h++[.ny ts])∧VR X P (AA A m1) m1 (h++[.ny ts]) (.aP H.length 0 n n sz false) (.aP h.length 0 n n sz false)∧Fr m h m1 (h++[.ny ts])∧Up m m1:=by obtain⟨p1,p2,p3⟩:=hr.push (pb:=.ny cs) (hb:=.ny ts) (mb:=.gq h.length) (.inl rfl) ⟨ts,by simp,h0⟩;exact⟨_,p1,.aP (by rw[<-hr.len];simp),p2,p3⟩
theorem XR{ty sz:Nat}:∀{l:List (X.Γ ty)},(∀(j:Nat) a,l[j]? = some a->(X.enc ty a).length=sz)->(EM X ty l).length=l.length*sz∧∀(j:Nat) a (i:Nat) c,l[j]? = some a->(X.enc ty a)[i]? = some c->(EM X ty l)[j*sz+i]? = some c
 | [],_=>⟨by simp[EM],by simp⟩
 |a::l,he=>by
  obtain⟨h1,h2⟩:=XR (l:=l) fun j b hb=>he (j+1) b (by simpa using hb);have h0:=he 0 a rfl;refine⟨by simp only[EM,a1U,h0,h1,a4K,a3U,abp];omega,fun j b i c hb hc=>?_⟩;cases j with
  |zero=>
   simp at hb;subst hb;simp only[EM,acF,a3W];rw[a0C (a0h.1 hc).1];exact hc
  |succ j=>
   simp only[EM];rw[a0T (by rw[h0,a3U];omega),h0,show(j+1)*sz+i-sz=j*sz+i by rw[a3U];omega];exact h2 j b i c (by simpa using hb) hc
theorem a3I{ty sz:Nat}{l:List (X.Γ ty)}{LM:List TV}{A m h}(he:∀(j:Nat) a,l[j]? = some a->(X.enc ty a).length=sz)(hc:iO (EM X ty l)=some LM):LM.length=l.length*sz∧eF X P A m h ty l LM 0 sz:=by
 have hv:=G8 (X:=X) (P:=P) (A:=A) (m:=m) (h:=h) hc;obtain⟨h1,h2⟩:=XR he;have hl:LM.length=l.length*sz:=by rw[<-hv.1,h1]
 exact⟨hl,he,by rw[hl];omega,fun j a i c v a1 a2 a3=>hv.2 (j*sz+i) c v (h2 j a i c a1 a2) (by rw[a3W]at a3;exact a3)⟩
theorem aaC(hX:bT X P){H:List (PB X.Γ)}{ty sz:Nat}{l:List (X.Γ ty)}{LM:List TV}{p:PV X.Γ}{tp:TV}(hl:l≠[])(hc:iO (EM X ty l)=some LM)(hs:dH P ty=some sz)(h0:0<sz)(he:∀(j:Nat) a,l[j]? = some a->(X.enc ty a).length=sz)(hp:qw p=some tp){A m h}(hr:HR X P A m H h) :
  ∃m1,HR X P A m1 (H++[.list false false ty l]) (h++[.cells .last LM])∧VR X P (AA A m1) m1 (h++[.cells .last LM]) (.dJ [.own H.length,p]) (.dJ [.aP h.length 0 l.length l.length sz false,tp])∧Fr m h m1 (h++[.cells .last LM])∧Up m m1:=by
 obtain⟨p1,p2,p3⟩:=hr.push (pb:=.list false false ty l) (hb:=.cells .last LM) (mb:=.dF (.aP h.length 0 l.length l.length sz false)) (.inl (by simp only[MB.own];rw[a0E (by simpa using hl)])) (by obtain⟨r1,r2⟩:=a3I (A:=AA A (m++[MB.dF (.aP h.length 0 l.length l.length sz false)])) (m:=m++[MB.dF (.aP h.length 0 l.length l.length sz false)]) (h:=h++[.cells .last LM]) (P:=P) he hc;exact LR.some (kk:=.last) (cs:=LM) hl hs h0 (by simp) (by simp) (by simp) (by simp) r1 r2)
 exact⟨_,p1,bY.cons (.own (by rw[<-hr.len];simp) rfl) (.cons (o7 hp) .nil) |> fun h=>.dJ h.1 h.2,p2,p3⟩
end
def eP:Code->Code
 |.seq a _=>a
 |.block _ b=>b
 |.loop b=>b
 |.scope b=>b
 |.cond _ a _=>a
 |c=>c
def eU:Code->Code
 |.seq _ b=>b
 |.cond _ _ b=>b
 |c=>c
def a7l:Code->Array Oper
 |.region _ o _=>o
 |_=>#[]
def TG(P:LI1)(f:Nat):FnT:=match Uf P f with
 |some t=>t
 |none=>⟨0,.skip,[]⟩
def Vk(ops:Array Oper)(it nx mo:Nat):Bool:=match Am ops with
 |some (a,b,_,o2)=>a==it&&b==nx&&(match o2.op,o2.dst,o2.guard with
  |.extract (.tmp k) 0,some d,none=>k==nx&&d==mo
  |_,_,_=>false)
 |none=>false
theorem a3J{ops:Array Oper}{it nx mo:Nat}(h:Vk ops it nx mo=true):∃o1 o2,Am ops=some (it,nx,o1,o2)∧o2.op=.extract (.tmp nx) 0∧o2.dst=some mo∧o2.guard=none:=by
 unfold Vk at h;split at h
 .rename_i a b o1 o2 e;simp only[a2O,a7g]at h;obtain⟨⟨rfl,rfl⟩,h⟩:=h;split at h
  .rename_i k d e1 e2 e3;simp only[a2O,a7g]at h;obtain⟨rfl,rfl⟩:=h;exact⟨o1,o2,e,e1,e2,e3⟩
  cases h
 cases h
section
variable {X:kX} {P:LI1} {T:qM} {call:aZ} {cd:vH} {fO:eY X.Γ} {L f nt B:Nat}
theorem zL(hX:bT X P)(hO:jK X P call fO){c:Code}{ps ps1:aU X.Γ}{an:PT X.Γ}{o:OT (Ex×aU X.Γ)}{e:Ex}(hk:jT X P T fO (dG X P call) (dR X P T call L f false nt B) B L f false nt c ps an afl=o)(ht:Fp (fun r=>r=(e,ps1)) an o):dR X P T call L f false nt B c ps e ps1:=by obtain⟨y,h1,h2⟩:=ht.aK;subst h2;rw[<-hk]at h1;exact Xt hX hO h1
theorem a1P{n j:Nat}{seen:List Nat}(hj:j<n)(hn:j∉seen):((List.range n).filter fun i=>!(j::seen).contains i).length<((List.range n).filter fun i=>!seen.contains i).length:=by
 have e:((List.range n).filter fun i=>!(j::seen).contains i)=((List.range n).filter fun i=>!seen.contains i).filter fun i=>!(i==j):=by rw[List.filter_filter];refine List.filter_congr fun i _=>?_;rw[ahJ];cases i==j<;>simp
 rw[e];refine List.length_filter_lt_length_iff_exists.2 ⟨j,a7t.2 ⟨a4P.2 hj,by simpa using hn⟩,by simp⟩
end
section
variable {X:kX} {P:LI1} {T:qM} {call:aZ} {cd:vH} {L f nt B:Nat}
theorem aJ.ghost(hX:bT X P){gs:List G}{c:Code}{ps ps1:aU X.Γ}{Q:Ex->aU X.Γ->Prop}(hg:lJ B gs ps=some ps1)(h:aJ X P T call cd L f nt B c ps1 Q):aJ X P T call cd L f nt B c ps Q:=fun A W fl m ts R hS hR=>by obtain⟨m2,q1,q2,q3⟩:=nC hX hg A W fl m ts hS;exact h A W fl m2 ts R q1 fun e iK ps1 m1 a1 a2 a3 a4=>hR e iK ps1 m1 a1 a2 (q2.trans a3) (q3.trans a4)
theorem PG(hX:bT X P){x:Code}{i0 i1 id it nx mo b r n:Nat}{ops:Array Oper}{draw:Bool}{s0:aU X.Γ}{es:List (PV X.Γ×PV X.Γ)}{Q:aU X.Γ->Prop}(I:List Nat->aU X.Γ->Prop)
  (hnx:Vk ops it nx mo=true) (hd:nx<nt) (ZW:mo<nt) (hl:es.length=n) (hL:n<L) (hI:I [] s0)
  (hinv:∀seen s,I seen s->∃gs s',lJ B gs (gU X (T.eX f (dW (.seq (.region id ops draw) (.seq (.cond (.tmp mo) .skip (.exit i0)) (.block i1 x))))) s)=some s'∧A8 s'.env (.tmp it)=some (.iter b)∧s'.heap[b]? = some (.dn r n seen)∧KQ X s'.heap r=some es ∧
   ((∀j,j<n->j∈seen)->A8 (jm (T.iy f id) ((mo,.val (.bool false))::(nx,.val (.dJ [.bool false]))::s'.env)) (.tmp mo)=some (.bool false)∧Q { s' with env:=jm (T.iy f id) ((mo,.val (.bool false))::(nx,.val (.dJ [.bool false]))::s'.env) }) ∧
   ∀j e,j∉seen->es[j]? = some e->A8 (jm (T.iy f id) ((mo,.val (.bool true))::(nx,.val (.dJ [.bool true,e.1,e.2]))::s'.env)) (.tmp mo)=some (.bool true) ∧
    aJ X P T call cd L f nt B x { s' with env:=jm (T.iy f id) ((mo,.val (.bool true))::(nx,.val (.dJ [.bool true,e.1,e.2]))::s'.env),heap:=s'.heap.set b (.dn r n (j::seen)) } fun e s=>(e=.norm∨e=.exit i1)∧I (j::seen) s) :
  aJ X P T call cd L f nt B (.block i0 (.loop (.seq (.region id ops draw) (.seq (.cond (.tmp mo) .skip (.exit i0)) (.block i1 x))))) s0 fun e s=>e=.norm∧Q s:=by
 obtain⟨o1,o2,hn,h2,h3,h4⟩:=a3J hnx;have skp:∀{s:aU X.Γ} {Q':Ex->aU X.Γ->Prop},Q' .norm s->aJ X P T call cd L f nt B .skip s Q':=fun{s Q'} hq=>by intro A W fl m ts R hS hR;simp only[fF];exact⟨_,_,rfl,hR _ _ s m hq hS .refl Up.refl.b⟩
 have ext:∀{i:Nat} {s:aU X.Γ} {Q':Ex->aU X.Γ->Prop},Q' (.exit i) s->aJ X P T call cd L f nt B (.exit i) s Q':=fun{i s Q'} hq=>by intro A W fl m ts R hS hR;simp only[fF];exact⟨_,_,rfl,hR _ _ s m hq hS .refl Up.refl.b⟩
 refine aJ.block ?_;refine aJ.loop (fun k s=>∃seen,I seen s∧k=((List.range n).filter fun i=>!seen.contains i).length) (fun k s hi=>?_) (k:=n) ⟨[],hI,by rw[show((List.range n).filter fun i=>!([]:List Nat).contains i)=List.range n from adO.2 fun a _=>rfl,a9m]⟩ hL;obtain⟨seen,hi,rfl⟩:=hi;obtain⟨gs,s',e1,e2,e3,e4,e5,e6⟩:=hinv seen s hi;refine aJ.ghost hX e1 ?_;refine aJ.seq (R:=fun e s=>e=.norm∧(((∀j,j<n->j∈seen)∧s={ s' with env:=jm (T.iy f id) ((mo,.val (.bool false))::(nx,.val (.dJ [.bool false]))::s'.env) })∨∃j e,j∉seen∧es[j]? = some e∧s={ s' with env:=jm (T.iy f id) ((mo,.val (.bool true))::(nx,.val (.dJ [.bool true,e.1,e.2]))::s'.env),heap:=s'.heap.set b (.dn r n (j::seen)) })) ?_ (fun s hs=>?_) (fun i s h=>by cases h.1) (fun s h=>by cases h.1)
 .exact aJ.next hn hd ZW h2 h3 h4 e2 e3 e4 hl (fun ho=>⟨rfl,.inl ⟨ho,rfl⟩⟩) (fun j e hj he=>⟨rfl,.inr ⟨j,e,hj,he,rfl⟩⟩)
 .obtain⟨_,⟨h5,rfl⟩|⟨j,e,hj,he,rfl⟩⟩:=hs
  .obtain⟨m1,q1⟩:=e5 h5;refine aJ.seq (R:=fun e s=>e=.exit i0∧s={ s' with env:=jm (T.iy f id) ((mo,.val (.bool false))::(nx,.val (.dJ [.bool false]))::s'.env) }) (aJ.cond (t:=false) m1 (ext ⟨rfl,rfl⟩)) (fun s h=>by cases h.1) (fun i s h=>?_) (fun s h=>by cases h.1);obtain⟨h7,rfl⟩:=h;cases h7;dsimp only;rw[a0F rfl];exact⟨rfl,q1⟩
  .obtain⟨m2,hx⟩:=e6 j e hj he;have hjn:j<n:=by rw[<-hl];exact(a0h.1 he).1
   refine aJ.seq (R:=fun e1 s=>e1=.norm∧s={ s' with env:=jm (T.iy f id) ((mo,.val (.bool true))::(nx,.val (.dJ [.bool true,e.1,e.2]))::s'.env),heap:=s'.heap.set b (.dn r n (j::seen)) }) (aJ.cond (t:=true) m2 (skp ⟨rfl,rfl⟩)) (fun s h=>?_) (fun i s h=>by cases h.1) (fun s h=>by cases h.1);obtain⟨_,rfl⟩:=h;refine aJ.block ?_;refine hx.mono fun e s h=>?_;obtain⟨h1|h1,h2⟩:=h
   .subst h1;exact⟨_,a1P hjn hj,j::seen,h2,rfl⟩
   .subst h1;dsimp only;rw[a0F rfl];exact⟨_,a1P hjn hj,j::seen,h2,rfl⟩
theorem Vl(hX:bT X P){x:Code}{i0 i1 id it nx mo b r n:Nat}{ops:Array Oper}{draw:Bool}{s0:aU X.Γ}{es:List (PV X.Γ×PV X.Γ)}{Q:aU X.Γ->Prop}(I:List Nat->aU X.Γ->Prop)
  (hnx:Vk ops it nx mo=true) (hd:nx<nt) (ZW:mo<nt) (hl:es.length=n) (hL:n<L) (hI:I [] s0)
  (hinv:∀seen s,I seen s->∃s',gU X (T.eX f (dW (.seq (.region id ops draw) (.seq (.cond (.tmp mo) .skip (.exit i0)) (.block i1 x))))) s=s'∧A8 s'.env (.tmp it)=some (.iter b)∧s'.heap[b]? = some (.dn r n seen)∧KQ X s'.heap r=some es ∧
   ((∀j,j<n->j∈seen)->A8 (jm (T.iy f id) ((mo,.val (.bool false))::(nx,.val (.dJ [.bool false]))::s'.env)) (.tmp mo)=some (.bool false)∧Q { s' with env:=jm (T.iy f id) ((mo,.val (.bool false))::(nx,.val (.dJ [.bool false]))::s'.env) }) ∧
   ∀j e,j∉seen->es[j]? = some e->A8 (jm (T.iy f id) ((mo,.val (.bool true))::(nx,.val (.dJ [.bool true,e.1,e.2]))::s'.env)) (.tmp mo)=some (.bool true) ∧
    aJ X P T call cd L f nt B x { s' with env:=jm (T.iy f id) ((mo,.val (.bool true))::(nx,.val (.dJ [.bool true,e.1,e.2]))::s'.env),heap:=s'.heap.set b (.dn r n (j::seen)) } fun e s=>(e=.norm∨e=.exit i1)∧I (j::seen) s) :
  aJ X P T call cd L f nt B (.block i0 (.loop (.seq (.region id ops draw) (.seq (.cond (.tmp mo) .skip (.exit i0)) (.block i1 x))))) s0 fun e s=>e=.norm∧Q s:=
 PG hX I hnx hd ZW hl hL hI fun seen s hi=>let ⟨s',e1,h⟩:=hinv seen s hi;⟨[],s',congrArg some e1,h⟩
end
theorem Good.a1Q{X:kX}{P:LI1}{T:qM}{L:Nat}{α β:Type}{f:FuncId}{a:Vd X P α}{r:Ar X P β}{S:α->β}{pre:α->List Prop}{fO Xz a7c ajp:eY X.Γ}(d:Nat)(hg:Good X P T L fO)(hg2:Good X P T L Xz)(hg3:Good X P T L a7c)(hg4:Good X P T L ajp)
  (hf:∀n,d<=n->(∀m,n-d<=m->jK X P (lq P T L m) fO)->(∀m,n-d<=m->jK X P (lq P T L m) Xz)->(∀m,n-d<=m->jK X P (lq P T L m) a7c)->(∀m,n-d<=m->jK X P (lq P T L m) ajp)->∀x,(∀p∈pre x,p)->nS X P (lq P T L (n+1)) f (a.put x) (r.put (S x)) []):Good X P T L (bZ f a r S pre fO):=by
 obtain⟨N2,hN2⟩:=hg2;obtain⟨N3,hN3⟩:=hg3;obtain⟨N4,hN4⟩:=hg4;obtain⟨M,hM⟩:=hg;refine⟨M+N2+N3+N4+d+1,fun n hn=>?_⟩;obtain⟨k,rfl⟩:∃k,n=k+1:=⟨n-1,by omega⟩;intro g vs v ext ps ho hp;unfold bZ at ho;split at ho
 .rename_i e;have e:=a9p e;subst e;split at ho
  .rename_i x hx;cases ho;intro A h first args cap IZ hv
   exact hf k (by omega) (fun m hm=>hM m (by omega)) (fun m hm=>hN2 m (by omega)) (fun m hm=>hN3 m (by omega)) (fun m hm=>hN4 m (by omega)) x hp A h first args cap IZ (a.ok hx hv)
  .exact hM (k+1) (by omega) g vs v ext ps ho hp
 .exact hM (k+1) (by omega) g vs v ext ps ho hp
section
variable {X:kX} {P:LI1}
theorem dG.lend(hX:bT X P){call:aZ}{f:FuncId}{cs ws rest xs:List (PV X.Γ)}{H:List (PB X.Γ)}{es:List (PV X.Γ×PV X.Γ)}(is:List Nat)(hs:dG X P call (.fn f [] []) (.agg (ws++rest)::xs) (aY is H) (.map H.length) (aY is H++[.map es]))
  (hv:views H cs=some ws) (ho:∀i,i∈l7.kH cs->i∈is) (hg:aY is H=List.replicate H.length .gone):dG X P call (.fn f [] []) (.agg (cs++rest)::xs) H (.map H.length) (H++[.map es]):=by
 intro A m h tf qP hr hf hx;obtain⟨x0,r,rfl,v0,vr⟩:=hx.inv;cases v0 with
 |gone hi _ _=>simp[bn]at hi
 |agg a1 a2=>
  rename_i cs';have ha:bY X P (AA A m) m h (cs++rest) cs':=⟨a1,a2⟩;obtain⟨c1,c2,rfl,b1,b2⟩:=Et ha;have hF:=iw (h:=h) is m;have w1:=(lK (m':=bV is m) hX hr b1 hv ho).mono fun b hb=>FA.gone hr hb;have w2:=b2.step hF.1 hF.2;have w3:=w1.app w2;have ZT:=hr.aY is;obtain⟨w,h',Uj,m1,k1,k2,k3,k4,k5,k6⟩:=hs A (bV is m) h tf (.agg (c1++c2)::r) ZT (hf.step hF.1 hF.2) (.cons (.agg w3.1 w3.2) (vr.step hF.1 hF.2));have e0:∀b,b∉bg (bV is m):=fun b hb=>by
   unfold bg at hb;obtain⟨mb,h1,h2⟩:=a6C.1 hb;obtain⟨i,hi,e⟩:=a8B h1;have KI:i<H.length:=by have:=ZT.len;rw[nZ]at this;omega
   obtain⟨mb2,g1,g2⟩:=ZT.at_ i .gone (by rw[hg,adT,a0F KI]);rw[a0q hi,e]at g1;cases g1;cases mb with
   |gone=>cases h2
   |_=>exact g2.elim
  obtain⟨mb,g1,g2⟩:=k2.at_ H.length (.map es) (by rw[a0T (by rw[nZ];exact a0P _),nZ];simp);cases mb with
  |gq c=>
   have hc:c∈bg m1:=a6C.2 ⟨_,a4X g1,rfl⟩;have Gu:h.length<=c:=(k4.new c hc).resolve_left (e0 c);have yg:bg (m++[.gq c])=bg m++[c]:=by unfold bg;rw[List.filterMap_append];rfl
   have hF2:Fr m h (m++[.gq c]) h':=⟨k4.len,fun b hb _=>k4.same b hb (e0 b),fun b hb=>by
    rw[yg]at hb;rcases a3P.1 hb with hb|hb
    .exact .inl hb
    .rw[a1S.1 hb];exact .inr Gu,k4.grow⟩
   have hU2:Up m (m++[.gq c]):=fun i mb hi=>.inl (by rw[a0C (a0h.1 hi).1];exact hi);have hm:(m++[MB.gq c])[H.length]? = some (.gq c):=by rw[<-hr.len];simp
   refine⟨w,h',Uj,m++[.gq c],k1,⟨by simp[hr.len],fun i b hi=>?_,?_,k2.up,fun b hb=>?_⟩,?_,hF2,hU2,fun b hb=>absurd (k6 b hb) (e0 b)⟩
   .by_cases aT:i<H.length
    .rw[a0C aT]at hi;obtain⟨mb,q1,q2⟩:=hr.at_ i b hi;exact⟨mb,by rw[a0C (by rw[hr.len];exact aT)];exact q1,q2.step hF2 hU2 fun d hd=>k4.same d (BR.has q2 hd) (e0 d)⟩
    .have KI:i=H.length:=by have:=(a0h.1 hi).1;rw[a1U,a4H]at this;omega
     subst KI;rw[a0T (a0P _)]at hi;simp at hi;subst hi;exact⟨_,hm,g2⟩
   .rw[yg];refine a9l.2 ⟨hr.nodup,by simp,fun a ha b hb=>?_⟩;rw[a1S.1 hb];have:=hr.inb ha;omega
   .rw[yg]at hb;rcases a3P.1 hb with hb|hb
    .exact hr.Df b hb
    .rw[a1S.1 hb];exact k2.Df c hc
   .cases k3 with
    |map e=>rw[g1]at e;cases e;exact .map hm
    |gone hi e o=>simp only[bn,a0d]at hi;subst hi;rw[g1]at e;cases e
  |_=>exact g2.elim
variable {A:Nat->Prop} {m m':List MB} {H:List (PB X.Γ)} {h:List HB}
end
section
variable {X:kX} {P:LI1}
theorem dG.cell1(hX:bT X P){call:aZ}{fv v:PV X.Γ}{SQ ws1 cs Xg ws2:List (PV X.Γ)}{H H1:List (PB X.Γ)}{i e sz:Nat}{row:X.Γ e}(is:List Nat)(hi:H[i]? = some (.cells cs))(hz:dH P e=some sz)(h0:0<sz)(hl:cs.length=sz)(ZT:(X.enc e row).length=sz)
  (hs:dG X P call fv [.agg (ws1++(.dF e [row] false::ws2))] (aY (i::is) H) v H1) (v1:views H SQ=some ws1) (v2:views H cs=some (X.enc e row)) (v3:views H Xg=some ws2)
  (o1:∀j,j∈l7.kH SQ->j∈i::is) (o2:∀j,j∈l7.kH cs->j∈i::is) (o3:∀j,j∈l7.kH Xg->j∈i::is):dG X P call fv [.agg (SQ++(.aP i 0 1 1 sz true::Xg))] H v H1:=by
 intro A m h tf qP hr hf hx;obtain⟨x0,r,rfl,v0,vr⟩:=hx.inv;cases v0 with
 |gone hi _ _=>simp[bn]at hi
 |agg a1 a2=>
  rename_i cs';have ha:bY X P (AA A m) m h (SQ++(.aP i 0 1 1 sz true::Xg)) cs':=⟨a1,a2⟩;obtain⟨c1,c2,rfl,b1,b2⟩:=Et ha;obtain⟨y,c3,rfl,b3,b4⟩:=b2.inv;obtain⟨mb,g1,g2⟩:=hr.at_ i _ hi;cases mb with
  |gq b=>
   obtain⟨ts,g3,g4⟩:=g2;have hy:y=.aP b 0 1 1 sz true:=by
    cases b3 with
    |aP q=>rw[g1]at q;cases q;rfl
    |gone hi q _=>simp only[bn,a0d]at hi;subst hi;rw[g1]at q;cases q
   subst hy;have hF:=iw (h:=h) (i::is) m;have w1:=(lK (m':=bV (i::is) m) hX hr b1 v1 o1).mono fun b hb=>FA.gone hr hb;have w3:=(lK (m':=bV (i::is) m) hX hr b4 v3 o3).mono fun b hb=>FA.gone hr hb;have w2:=lK (m':=bV (i::is) m) hX hr g4 v2 o2;have hb:FA A m (i::is) b:=.inr ⟨i,_,a3x,g1,rfl⟩;have q2:VR X P (FA A m (i::is)) (bV (i::is) m) h (.dF e [row] false) (.aP b 0 [row].length 1 sz true):=.dF (cs:=ts) hb (by unfold aW;rw[g3]) (fun _=>wQ g3 (by simp)) hz h0 (by rw[<-g4.1,hl];simp) (a0P _) (fun e=>by cases e)
    (fun j a hj=>by
     cases j with
     |zero=>simp only[a2Z,a0d]at hj;subst hj;exact ZT
     |succ j=>simp at hj) (fun j a q c w hj hq hw=>by
     cases j with
     |zero=>simp only[a2Z,a0d]at hj;subst hj;exact w2.2 q c w hq (by simpa using hw)
     |succ j=>simp at hj)
   have w4:=w1.app (.cons (q2.mono fun b hb=>FA.gone hr hb) w3);obtain⟨w,h',Uj,m1,k1,k2,k3,k4,k5,k6⟩:=hs A (bV (i::is) m) h tf (.agg (c1++(.aP b 0 1 1 sz true::c3))::r) (hr.aY (i::is)) (hf.step hF.1 hF.2) (.cons (.agg w4.1 w4.2) (vr.step hF.1 hF.2));refine⟨w,h',Uj,m1,k1,k2,k3,hF.1.trans k4,hF.2.trans k5,fun b hb=>?_⟩;rcases hF.1.new b (k6 b hb)with g|g
   .exact g
   .have:=(hr.aY (i::is)).inb (k6 b hb);omega
  |_=>exact g2.elim
end
end Pv
