/- Part 4 of a proof: ApplyLeaf -/
import Derived.Shelf.Spec.SlicesInsert
import Derived.Shelf.Spec.SlicesInsertGrow
import Derived.Shelf.Sort.Plain
import Derived.Shelf.Slices.In.SortNone
import Derived.Test.YtmobpoiejckagaaGreatP02
set_option linter.constructorNameAsVariable false
set_option linter.unusedVariables false
set_option linter.unusedSimpArgs false
set_option linter.unusedSectionVars false
open Go.IntKind (i64)
noncomputable section
namespace Pv
open Go Tw
section
variable {X:kP} {P:LI1} {A B F:Nat->Prop} {m m':List MB} {h h':List HB} {H H':List (PB X.Γ)}
variable {call:aY} {fV:fB X.Γ} {site:Nat->Bool} {ρ:Type} {y:ρ}
def a6p(X:kP)(P:LI1)(A:Nat->Prop)(m:List MB)(call:aY)(site:Nat->Bool)(ts:St)(o:Oper)(k:PE X.Γ->aT X.Γ->PI->PT X.Γ->OT ρ)(y:ρ):Prop:=
 ∃pe ps1 pi I5,OpR X P A m call site ts o pe ps1 pi∧(k pe ps1 pi I5).Ends y
theorem wY{ps:aT X.Γ}{ts:St}(hR:uY X P A m ps ts){o:Oper}{k:PE X.Γ->aT X.Γ->PI->PT X.Γ->OT ρ}{r:Option (TV×St×mJ)}{v:PV X.Γ}{H1:List (PB X.Γ)}{pi:PI}{an:PT X.Γ}(hm:X5 X P A m ts r v H1 pi)
  (ho:pG P call site ts o=r.map fun(v,s,i)=>(.val v,s,i)) (hk:(k (.val v) { ps with heap:=H1 } pi an).Ends y):a6p X P A m call site ts o k y:=by
 obtain⟨w,h1,ti,m1,rfl,e1,e2,e3,e4,e5,e6⟩:=hm;exact⟨.val v,_,_,_,⟨.val w,_,ti,m1,ho,rfl,rfl,hR.step e1 e3 e4,e2,e3,e4,e5,e6⟩,hk⟩
theorem iV{ps:aT X.Γ}{ts:St}(hR:uY X P A m ps ts){o:Oper}{k:PE X.Γ->aT X.Γ->PI->PT X.Γ->OT ρ}{v:PV X.Γ}{w:TV}{pi:PI}{an:PT X.Γ}(hv:VR X P (AA A m) m ts.heap v w)(ho:pG P call site ts o=some (.val w,ts,cZ))(hk:(k (.val v) ps pi an).Ends y):a6p X P A m call site ts o k y:=
 ⟨.val v,_,_,_,uI hR ho (nZ hv),hk⟩
theorem aeH{op:BinOp}{a b v:PV X.Γ}{ta tb:TV}{ps:List Prop}{t:LI2}{x z:Operand}(ha:VR X P A m h a ta)(hb:VR X P A m h b tb)(hd:aem op a b=some (v,ps))(hp:∀p∈ps,p) :
  ∃w,sO P op t x z ta tb=some w∧VR X P A m h v w:=by
 unfold aem at hd;split at hd
 .cases ha with
  |gone hi _ _=>simp[bD]at hi
  |int=>
   cases hb with
   |gone hi _ _=>simp[bD]at hi
   |int=>
    split at hd
    .split at hd
     .rename_i e;subst e;cases hd;exact⟨_,a5Q (hp _ (.head _)),.int _ _⟩
     .cases hd
    .split at hd
     .rename_i e;subst e;cases hd;exact⟨_,a5R (hp _ (.head _)),.int _ _⟩
     .cases hd
    .cases hd;exact⟨_,a5O (hp _ (.head _)),.int _ _⟩
    .cases hd;exact⟨_,a5P (hp _ (.head _)),.int _ _⟩
    .cases hd
 .cases hd
theorem aeI(hX:bP X P)(hO:jJ X P call fV){ps:aT X.Γ}{ts:St}(hR:uY X P A m ps ts){o:Oper}{an:PT X.Γ}{k:PE X.Γ->aT X.Γ->PI->PT X.Γ->OT ρ}(hk:(aep X P fV (bZ X P call) site ps o an k).Ends y):a6p X P A m call site ts o k y:=by
 have hE:=hR.env;unfold aep at hk;split at hk
 .-- move
  rename_i x ho;split at hk
  .rename_i v hv;obtain⟨e,h1,h2⟩:=nI hE hv;exact⟨_,_,_,_,uI hR (by simp only[pG,ho,h1,a0A]) h2,hk⟩
  exact hk.elim
 .rename_i x ho;split at hk
  .rename_i v hv;obtain⟨e,h1,h2⟩:=nI hE hv;exact⟨_,_,_,_,uI hR (by simp only[pG,ho,h1,a0A]) h2,hk⟩
  exact hk.elim
 .-- pick
  rename_i c a b ho;split at hk
  .rename_i u hu;obtain⟨tu,h1,h2⟩:=WY hE hu;obtain⟨t,I5,rfl,hk⟩:=ZE hk h2;split at hk
   .rename_i v hv;obtain⟨e,g1,g2⟩:=nI hE hv;exact⟨_,_,_,_,uI (hR.C9 h1) (by simp only[pG,ho,h1,g1,a0A]) g2,hk⟩
   exact hk.elim
  exact hk.elim
 .-- alloc
  rename_i e ho;split at hk
  .rename_i z hz;obtain⟨z',g1,g2⟩:=Hu (A:=AA A m) (m:=m) (h:=ts.heap) hz;obtain⟨m1,e1,e2,e3,e4,e5,e6⟩:=Sj hR (site:=site (o.dst.getD 0)) g2;exact⟨_,_,_,_,⟨_,_,cZ,m1,by simp only[pG,ho,g1,a0A],e1,e2,e3,e4,e5,e6,.none,fun b hb=>by cases hb⟩,hk⟩
  exact hk.elim
 .-- box
  rename_i t x ho;split at hk
  .rename_i v hv;obtain⟨w,g1,g2⟩:=jA hE hv;split at hk
   .rename_i Fz;have hc:=Hq g2;obtain⟨m1,e1,e2,e3,e4,e5,e6⟩:=Sj hR (site:=site (o.dst.getD 0)) hc;exact⟨_,_,_,_,⟨_,_,cZ,m1,by simp only[pG,ho,g1,Ef hc,Fz,a1I],e1,e2,e3,e4,e5,e6,.none,fun b hb=>by cases hb⟩,hk⟩
   exact hk.elim
  exact hk.elim
 .-- build
  rename_i t qs ho;split at hk
  .rename_i vs hvs;obtain⟨ws,g1,g2⟩:=Zy hE hvs;split at hk
   .rename_i v hv;obtain⟨w,g3,g4⟩:=a6b g2 hv;exact iV hR g4 (by simp only[pG,ho,g1,g3,a0A]) hk
   exact hk.elim
  exact hk.elim
 .-- buildSlice
  rename_i t len qs ho;split at hk
  .rename_i vs hvs;obtain⟨ws,g1,g2⟩:=Zy hE hvs;split at hk
   .split at hk
    .rename_i v H1 hv;refine wY hR (uj hX hR g2 hv) ?_ hk;simp only[pG,ho,g1,afw];rfl
    exact hk.elim
   split at hk
   .rename_i v H1 hv;refine wY hR (uj hX hR g2 hv) ?_ hk;simp only[pG,ho,g1,afw];rfl
   exact hk.elim
  exact hk.elim
 .-- load
  rename_i t a ho;split at hk
  .rename_i pa ha;obtain⟨ea,g1,g2⟩:=nI hE ha;split at hk
   .rename_i v i hv;obtain⟨w,ti,g3,g4,g5,g6⟩:=Gy hX hR g2 hv;exact⟨.val v,_,_,_,⟨.val w,ts,ti,m,by simp only[pG,ho,g1,g3,a0A],rfl,rfl,hR,g4,.refl,.refl,g5,fun b hb=>by rw[g6]at hb;cases hb⟩,hk⟩
   exact hk.elim
  exact hk.elim
 .-- store
  rename_i t a x ho;split at hk
  .rename_i pa v ha hv;obtain⟨ea,g1,g2⟩:=nI hE ha;obtain⟨w,g3,g4⟩:=jA hE hv;split at hk
   .rename_i s i hs;obtain⟨iO,ti,m1,e1,e2,e3,e4,e5,e6,e7,e8⟩:=zf hX hR g2 g4 hs;exact⟨.undef,_,_,_,⟨.undef,iO,ti,m1,by simp only[pG,ho,g1,g3,e1,a0A],e2,e3,e4,trivial,e5,e6,e7,e8⟩,hk⟩
   exact hk.elim
  exact hk.elim
 .-- nilCheck
  rename_i x ho;have go:∀{pe:PE X.Γ} {ev:EV},IJ ts.env x=some ev->IU X P (AA A m) m ts.heap pe ev->(match ev with|.loc _ _=>True|.val (.ptr _ _ _)=>True|.val (.fn _ _ _)=>True|_=>False)->(k pe ps xX an).Ends y->a6p X P A m call site ts o k y:=by
   intro pe ev h1 h2 h3 h4;refine⟨_,_,_,_,uI hR ?_ h2,h4⟩;cases ev with
   |loc a b=>simp only[pG,ho,h1]
   |val v=>cases v<;>simp at h3<;>simp only[pG,ho,h1]
   |undef|ent|EG=>simp at h3
  split at hk
  .rename_i a b ha;obtain⟨ea,g1,g2⟩:=nI hE ha;have:=Eh g2;subst this;exact go g1 g2 trivial hk
  .rename_i a b c ha;obtain⟨ea,g1,g2⟩:=nI hE ha;obtain⟨w,rfl,g3⟩:=gu g2;split at hk
   .rename_i cs hb;obtain⟨mb,f1,f2⟩:=hR.heap.at_ a _ hb;cases mb with
    |gJ cb=>
     cases g3 with
     |ptr e=>exact go g1 g2 trivial hk
     |gone hi e _=>simp only[bD,a01]at hi;subst hi;rw[f1]at e;cases e
    |_=>exact f2.elim
   .rename_i cs hb;obtain⟨mb,f1,f2⟩:=hR.heap.at_ a _ hb;cases mb with
    |jy cb=>
     cases g3 with
     |ptr e=>rw[f1]at e;cases e
     |gone hi e _=>
      simp only[bD,a01]at hi;subst hi;rw[f1]at e;cases e with
      |r _ e=>simp only[roV,a01]at e;subst e;exact go g1 g2 trivial hk
    |_=>exact f2.elim
   exact hk.elim
  .rename_i a b c ha;obtain⟨ea,g1,g2⟩:=nI hE ha;obtain⟨w,rfl,g3⟩:=gu g2;split at hk
   .rename_i q1 q2 q3 q4 hb;obtain⟨mb,f1,f2⟩:=hR.heap.at_ a _ hb;cases mb with
    |dJ cb=>
     cases g3 with
     |row e=>exact go g1 g2 trivial hk
     |gone hi e _=>simp only[bD,a01]at hi;subst hi;rw[f1]at e;cases e
    |_=>exact f2.elim
   exact hk.elim
  .rename_i a b c ha;obtain⟨ea,g1,g2⟩:=nI hE ha;obtain⟨w,rfl,g3⟩:=gu g2;cases g3 with
   |el=>exact go g1 g2 trivial hk
   |gone hi _ _=>simp[bD]at hi
  .rename_i a b c ha;obtain⟨ea,g1,g2⟩:=nI hE ha;obtain⟨w,rfl,g3⟩:=gu g2;cases g3 with
   |fn=>exact go g1 g2 trivial hk
   |gone hi _ _=>simp[bD]at hi
  exact hk.elim
 .-- binOp
  rename_i op t x z w0 ho;split at hk
  rotate_left
  .exact hk.elim
  rename_i a b ha hb;obtain⟨ta,g1,g2⟩:=jA hE ha;obtain⟨tb,g3,g4⟩:=jA hE hb;split at hk
  .split at hk
   .rename_i v ps hd;obtain⟨hp,hk⟩:=uK hk;obtain⟨w,e1,e2⟩:=aeH (P:=P) (t:=t) (x:=x) (z:=z) g2 g4 hd hp;exact iV hR e2 (by simp only[pG,ho,g1,g3,e1,a0A]) hk
   exact hk.elim
  split at hk
  .rename_i v q hv;obtain⟨w,e1,e2⟩:=a3d (x:=x) (y:=z) hR.heap g2 g4 hv hk.1;exact iV hR e2 (by simp only[pG,ho,g1,g3,e1,a0A]) hk.2
  split at hk
  .split at hk
   .rename_i w r;split at hk
    .rename_i v ua ub e1 e2 e3;obtain⟨Qv,hk⟩:=hk;rw[<-jT g2 e2,<-jT g4 e3]at Qv;exact iV hR (wX e1) (by simp only[pG,ho,g1,g3,Qv,a0A]) hk
    exact hk.elim
   exact hk.elim
  split at hk
  .rename_i v hv;obtain⟨w,e1,e2⟩:=YP g2 g4 hv;exact iV hR e2 (by simp only[pG,ho,g1,g3,e1,a0A]) hk
  exact hk.elim
 .-- unOp
  rename_i op t x ho;split at hk
  .rename_i a ha;obtain⟨ta,g1,g2⟩:=jA hE ha;split at hk
   .rename_i v hv;obtain⟨w,e1,e2⟩:=iZ g2 hv;exact iV hR e2 (by simp only[pG,ho,g1,e1,a0A]) hk
   exact hk.elim
  exact hk.elim
 .-- convert
  rename_i s d x ho;split at hk
  .rename_i a ha;obtain⟨ta,g1,g2⟩:=jA hE ha;split at hk
   .split at hk
    .rename_i w r;split at hk
     .rename_i v ua e1 e2;obtain⟨Qv,hk⟩:=hk;rw[<-jT g2 e2]at Qv;exact iV hR (wX e1) (by simp only[pG,ho,g1,Qv,a0A]) hk
     exact hk.elim
    exact hk.elim
   split at hk
   .rename_i v hv;obtain⟨w,e1,e2⟩:=U4 g2 hv;exact iV hR e2 (by simp only[pG,ho,g1,e1,a0A]) hk
   exact hk.elim
  exact hk.elim
 .-- makeFunc
  rename_i f first cap ho
  split at hk
  .rename_i a b ha hb;obtain⟨ta,g1,g2⟩:=UD hE ha;obtain⟨tb,g3,g4⟩:=UD hE hb;exact iV hR (.fn g2.1 g2.2 g4.1 g4.2) (by simp only[pG,ho,g1,g3]) hk
  exact hk.elim
 .-- makeMap
  rename_i t r ho;have hp:=hR.heap.push (pb:=.map []) (hb:=.map []) (mb:=.gJ ts.heap.length) (.inl rfl) ⟨[],by simp,rfl,fun i a b ha=>by simp at ha⟩;have go:pG P call site ts o=some (.val (.map ts.heap.length),{ ts with heap:=ts.heap++[.map []] },cZ)->∀{an:PT X.Γ},(k (.val (.map ps.heap.length)) { ps with heap:=ps.heap++[.map []] } xX an).Ends y->a6p X P A m call site ts o k y:=fun h1 an h2=>
   ⟨.val (.map ps.heap.length),_,_,_,⟨_,_,cZ,_,h1,rfl,rfl,hR.step hp.1 hp.2.1 hp.2.2,nZ (.map (by rw[<-hR.heap.len];simp)),hp.2.1,hp.2.2,.none,fun b hb=>by cases hb⟩,h2⟩
  split at hk
  .rename_i h1;obtain⟨w,g1,g2⟩:=Hw hE h1;have:=rH g2;subst this;exact go (by simp only[pG,ho,g1]) hk
  .rename_i k0 n0 kt vt h1 hu;obtain⟨w,g1,g2⟩:=Hw hE h1;have:=OG g2;subst this;exact go (by simp only[pG,ho,g1,hu]) hk
  exact hk.elim
 .-- makeSlice
  rename_i t l c ho;split at hk
  .rename_i vl vc hl hc;obtain⟨tl,g1,g2⟩:=jA hE hl;obtain⟨tc,g3,g4⟩:=jA hE hc;split at hk
   .rename_i v H1 qs hv;obtain⟨hq,hk⟩:=uK hk;refine wY hR (Am hX hR g2 g4 hv hq) ?_ hk;simp only[pG,ho,g1,g3,afw];rfl
   exact hk.elim
  exact hk.elim
 .-- slice
  rename_i t x lo hi mx ho;split at hk
  rotate_left
  .exact hk.elim
  rename_i px plo xO pmx hx GV hhi hmx;obtain⟨ex,g1,g2⟩:=nI hE hx;obtain⟨QE,g3,g4⟩:=Hw hE GV;obtain⟨QF,g5,g6⟩:=Hw hE hhi;obtain⟨tmx,g7,g8⟩:=Hw hE hmx;split at hk
  .rename_i n e hu;split at hk
   .split at hk
    .rename_i v hv;refine wY (H1:=ps.heap) hR (UH hR g2 g4 g6 g8 hv) ?_ hk;simp only[pG,ho,g1,g3,g5,g7,hu,afw];rfl
    exact hk.elim
   split at hk
   .rename_i v H1 qs hv;obtain⟨hq,hk⟩:=uK hk;refine wY hR (CX hX hR g2 g4 g6 g8 hv hq) ?_ hk;simp only[pG,ho,g1,g3,g5,g7,hu,afw];rfl
   exact hk.elim
  rename_i aeJ;have kY:∀{w:TV},ex=.val w->pG P call site ts o=(qR P t w QE QF tmx).map fun v=>(.val v,ts,cZ):=by intro w e;subst e;simp only[pG,ho,g1,g3,g5,g7]
  split at hk
  .rename_i b;obtain⟨w,rfl,g9⟩:=gu g2;have:w=.str b:=by
    cases g9 with
    |str=>rfl
    |gone hi _ _=>simp[bD]at hi
   subst this;split at hk
   rotate_left
   .exact hk.elim
   rename_i w r;split at hk
   rotate_left
   .exact hk.elim
   rename_i v tl th e1 e2 e3;split at hk
   rotate_left
   .exact hk.elim
   rename_i aiw;obtain⟨hs,hk⟩:=hk;have h7:tmx=none:=by
    cases pmx with
    |none=>exact rH g8
    |some _=>simp at aiw
   have h5:QE=tl:=by
    cases plo with
    |none=>simp at e2;rw[rH g4,e2]
    |some q=>
     obtain⟨tq,rfl⟩:=MQ g4;simp only[a0i]at e2;obtain⟨q1,q2,rfl⟩:=e2;rw[jT (show VR X P (AA A m) m ts.heap q tq from g4) q2]
   have h6:QF=th:=by
    cases xO with
    |none=>simp at e3;rw[rH g6,e3]
    |some q=>
     obtain⟨tq,rfl⟩:=MQ g6;simp only[a0i]at e3;obtain⟨q1,q2,rfl⟩:=e3;rw[jT (show VR X P (AA A m) m ts.heap q tq from g6) q2]
   subst h5;subst h6;subst h7;exact iV hR (wX e1) (by rw[kY rfl,hs];rfl) hk
  .rename_i px' hns;obtain⟨w,rfl,g9⟩:=gu g2;split at hk
   .rename_i v qs hv;obtain⟨hq,hk⟩:=uK hk;obtain⟨w',e1,e2⟩:=NU hR g9 g4 g6 g8 hv hq;exact iV hR e2 (by rw[kY rfl,e1];rfl) hk
   exact hk.elim
  exact hk.elim
 .-- fieldAddr
  rename_i t x f ho;split at hk
  .rename_i pa n ha hn;obtain⟨ea,g1,g2⟩:=nI hE ha;split at hk
   .rename_i v hv;obtain⟨eb,g3,g4⟩:=NR hR g2 hv;exact⟨_,_,_,_,uI hR (by simp only[pG,ho,g1,hn,g3,a0A]) g4,hk⟩
   exact hk.elim
  exact hk.elim
 .-- field
  rename_i t x f ho;split at hk
  .rename_i a ha;obtain⟨ta,g1,g2⟩:=jA hE ha;split at hk
   .rename_i v hv;obtain⟨w,e1,e2⟩:=NS g2 hv;exact iV hR e2 (by simp only[pG,ho,g1,e1,a0A]) hk
   exact hk.elim
  exact hk.elim
 .-- indexAddr
  rename_i t x i ho;split at hk
  .rename_i pa vi ha hi;obtain⟨ea,g1,g2⟩:=nI hE ha;obtain⟨ti,g3,g4⟩:=jA hE hi;split at hk
   .rename_i v qs hv;obtain⟨hq,hk⟩:=uK hk;obtain⟨eb,g5,g6⟩:=Aj hR g2 g4 hv hq;exact⟨_,_,_,_,uI hR (by simp only[pG,ho,g1,g3,g5,a0A]) g6,hk⟩
   exact hk.elim
  exact hk.elim
 .-- index
  rename_i t x i ho;split at hk
  .rename_i a vi ha hi;obtain⟨ta,g1,g2⟩:=jA hE ha;obtain⟨ti,g3,g4⟩:=jA hE hi;split at hk
   .split at hk
    .rename_i w r;split at hk
     .rename_i v ua ui e1 e2 e3;obtain⟨Qv,hk⟩:=hk;rw[<-jT g2 e2,<-jT g4 e3]at Qv;exact iV hR (wX e1) (by simp only[pG,ho,g1,g3,Qv,a0A]) hk
     exact hk.elim
    exact hk.elim
   split at hk
   .rename_i v hv;obtain⟨w,e1,e2⟩:=NT g2 g4 hv;exact iV hR e2 (by simp only[pG,ho,g1,g3,e1,a0A]) hk
   exact hk.elim
  exact hk.elim
 .-- lookup
  rename_i t mm i ok ho;split at hk
  .rename_i vm vi hm hi;obtain⟨tm,g1,g2⟩:=jA hE hm;obtain⟨ti,g3,g4⟩:=jA hE hi;obtain⟨v,pi,I5,w,e1,e2,e3,e4⟩:=a9S hR g2 g4 hk;refine⟨.val v,_,_,_,⟨.val w,ts,_,m,?_,rfl,rfl,hR,e2,.refl,.refl,e4,fun b hb=>by cases hb⟩,e3⟩;simp only[pG,ho,g1,g3,e1,a0A];cases tm<;>rfl
  exact hk.elim
 .-- mapUpdate
  rename_i t mm i x ho;split at hk
  .rename_i vm vi vx hm hi hx;obtain⟨tm,g1,g2⟩:=jA hE hm;obtain⟨ti,g3,g4⟩:=jA hE hi;obtain⟨tx,g5,g6⟩:=jA hE hx;obtain⟨ps1,pi,I5,h1,ZJ,e1,e2,e3,e4,e5,e6⟩:=a6l hR g2 g4 g6 hk;exact⟨.undef,_,_,_,⟨.undef,{ ts with heap:=h1 },ZJ,m,by simp only[pG,ho,g1,g3,g5,e1,a0A],rfl,rfl,e2,trivial,e3,.refl,e5,e6⟩,e4⟩
  exact hk.elim
 .-- insert
  rename_i t mm i x ho;split at hk
  .rename_i vm vi vx hm hi hx;obtain⟨tm,g1,g2⟩:=jA hE hm;obtain⟨ti,g3,g4⟩:=jA hE hi;obtain⟨tx,g5,g6⟩:=jA hE hx;obtain⟨ps1,pi,I5,h1,ZJ,e1,e2,e3,e4,e5,e6⟩:=a6l hR g2 g4 g6 hk;exact⟨.undef,_,_,_,⟨.undef,{ ts with heap:=h1 },ZJ,m,by simp only[pG,ho,g1,g3,g5,e1,a0A],rfl,rfl,e2,trivial,e3,.refl,e5,e6⟩,e4⟩
  exact hk.elim
 .-- mapEntry
  rename_i t mm i ho;split at hk
  .rename_i vm vi hm hi;obtain⟨tm,g1,g2⟩:=jA hE hm;obtain⟨ti,g3,g4⟩:=jA hE hi;obtain⟨e,e',ps1,pi,I5,h1,ZJ,e1,e0,e2,e3,e4,e5,e6⟩:=a9U hR g2 g4 hk;exact⟨e,_,_,_,⟨e',{ ts with heap:=h1 },ZJ,m,by simp only[pG,ho,g1,g3,e1],rfl,rfl,e2,e0,e3,.refl,e5,e6⟩,e4⟩
  exact hk.elim
 .-- entryStore
  rename_i t mm i x ho;split at hk
  .rename_i vm vi vx hm hi hx;obtain⟨tm,g1,g2⟩:=jA hE hm;obtain⟨ti,g3,g4⟩:=nI hE hi;obtain⟨tx,g5,g6⟩:=jA hE hx;obtain⟨ps1,pi,h1,ZJ,e1,e2,e3,e4,e5,e6⟩:=a9W hR g2 g4 g6 hk;exact⟨.undef,_,_,_,⟨.undef,{ ts with heap:=h1 },ZJ,m,by simp only[pG,ho,g1,g3,g5,e1,a0A],rfl,rfl,e2,trivial,e3,.refl,e5,e6⟩,e4⟩
  exact hk.elim
 .-- extract
  rename_i t i ho;split at hk
  .rename_i vs hv;obtain⟨w,g1,g2⟩:=nI hE hv;obtain⟨w,rfl,g2⟩:=gu g2;split at hk
   .rename_i v hvi;cases g2 with
    |cO h1 h2=>
     obtain⟨x,e1,e2⟩:=bY.get ⟨h1,h2⟩ hvi;exact iV hR e2 (by simp only[pG,ho,g1,yZ,e1,a0A]) hk
    |gone hi _ _=>simp[bD]at hi
   exact hk.elim
  .rename_i r j v hv;obtain⟨w,g1,g2⟩:=nI hE hv;obtain⟨c,y0,rfl,q1,q2⟩:=ML g2;split at hk
   .exact iV hR (nY q2) (by simp only[pG,ho,g1,yZ,a0A]) hk
   .exact⟨_,_,_,_,uI hR (pe:=.EG r j) (ev:=.EG c j) (by simp only[pG,ho,g1,yZ,a0A]) ⟨q1,rfl⟩,hk⟩
   exact hk.elim
  exact hk.elim
 .-- call
  rename_i c ho;split at hk
  rotate_left
  .exact hk.elim
  rename_i az has;obtain⟨tas,g1,g2⟩:=UD hE has;have yw:∀{b:Builtin},c.callee=.builtin b->∀{r:Option (TV×St×mJ)},qU P b c.argTypes o.type ts tas=r->pG P call site ts o=r.map fun(v,s,i)=>(.val v,s,i):=by intro b hb r hr;simp only[pG,ho,Nu,hb,g1,hr]
  split at hk
  .rename_i hb;split at hk
   .rename_i x;obtain⟨tx,r,rfl,q1,q2⟩:=g2.inv;have:=q2.inv0;subst this;split at hk
    .rename_i v i hv;obtain⟨w,ti,e1,e2,e3,e4⟩:=YR hR.heap q1 hv;exact⟨.val v,_,_,_,⟨.val w,ts,ti,m,by rw[yw hb (r:=some (w,ts,ti)) (by simp only[qU,e1,a0A])];rfl,rfl,rfl,hR,nZ e2,.refl,.refl,e3,fun b hb=>by rw[e4]at hb;cases hb⟩,hk⟩
    exact hk.elim
   exact hk.elim
  .rename_i hb;split at hk
   .rename_i d x;obtain⟨td,r,rfl,q1,q2⟩:=g2.inv;obtain⟨tx,r,rfl,q3,q4⟩:=q2.inv;have:=q4.inv0;subst this;split at hk
    .rename_i v H1 i qs hv;obtain⟨hq,hk⟩:=uK hk;exact wY hR (J6 hX hR q1 q3 hv hq) (yw hb rfl) hk
    exact hk.elim
   exact hk.elim
  .rename_i hb;split at hk
   .rename_i d x;obtain⟨td,r,rfl,q1,q2⟩:=g2.inv;obtain⟨tx,r,rfl,q3,q4⟩:=q2.inv;have:=q4.inv0;subst this;split at hk
    .rename_i v H1 i hv;exact wY hR (U9 hX hR q1 q3 hv) (yw hb rfl) hk
    exact hk.elim
   exact hk.elim
  .rename_i hb;split at hk
   .rename_i v hv;obtain⟨w,e1,e2⟩:=zk g2 hv;refine iV hR e2 ?_ hk;rw[yw hb (r:=some (w,ts,cZ)) (by simp only[qU,e1,a0A])];rfl
   exact hk.elim
  .rename_i hb;split at hk
   .rename_i v hv;obtain⟨w,e1,e2⟩:=zk g2 hv;refine iV hR e2 ?_ hk;rw[yw hb (r:=some (w,ts,cZ)) (by simp only[qU,e1,a0A])];rfl
   exact hk.elim
  .rename_i f hb;split at hk
   rotate_left
   .exact hk.elim
   rename_i fv hfv;obtain⟨tf,f1,f2⟩:=jA hE hfv;have kY:∀{w:TV} {h1:List HB} {ws:List Nat},call tf tas ts.heap=some (w,h1,ws)->pG P call site ts o=some (.val w,{ ts with heap:=h1 },⟨true,[],ws.map .h⟩):=by intro w h1 ws hc;simp only[pG,ho,Nu,hb,g1,f1,hc]
   unfold a5Y at hk;split at hk
   .rename_i v H1 r;obtain⟨hs,hk⟩:=hk;obtain⟨w,h1,ws,m1,c1,c2,c3,c4,c5,c6⟩:=hs A m ts.heap tf tas hR.heap f2 g2;refine⟨.val v,_,_,_,⟨.val w,_,_,m1,kY c1,rfl,rfl,hR.step c2 c4 c5,nZ c3,c4,c5,⟨fun _=>rfl,fun k hk=>(by cases hk),fun k hk=>?_,fun b hb=>?_,fun b hb=>(by cases hb),fun h=>(by cases h)⟩,fun b hb=>?_⟩,hk⟩
    .simp at hk
    .simp at hb;exact .inr ⟨rfl,c6 b hb⟩
    simp at hb;exact c6 b hb
   .split at hk
    .rename_i Hp jG hp;split at hk
     .rename_i Hs fv1 xs1 hHs aeK aeL;split at hk
      .rename_i v1 Qo hv1 aeM;obtain⟨hs,hk⟩:=hk;simp only[a2f,a1n]at jG;obtain⟨w,h1,ws,m1,c1,c2,c3,c4,c5,c6⟩:=Jo hX hs.w jG.1 hp hHs aeK aeL hv1 aeM jG.2 A m ts.heap tf tas hR.heap f2 g2;refine⟨.val v1,_,_,_,⟨.val w,_,_,m1,kY c1,rfl,rfl,hR.step c2 c4 c5,nZ c3,c4,c5,⟨fun _=>rfl,fun k hk=>(by cases hk),fun k hk=>?_,fun b hb=>?_,fun b hb=>(by cases hb),fun h=>(by cases h)⟩,fun b hb=>?_⟩,hk⟩
       .simp at hk
       .simp at hb;obtain⟨_,k,h8,_,h9⟩:=c6 b hb;exact .inl ⟨k,a1k.2 ⟨k,a4E h8,rfl⟩,h9⟩
       simp at hb;obtain⟨_,k,_,_,mb,h8,h9⟩:=c6 b hb;exact bf h8 h9
      exact hk.elim
     exact hk.elim
    exact hk.elim
   .split at hk
    .rename_i Hp jG hp;split at hk
     .rename_i Hs fv1 xs1 hHs aeK aeL;split at hk
      .rename_i v1 Qo Hs2 H2 hv1 aeM aoq;obtain⟨hs,hk⟩:=hk;simp only[a2f,a1n]at jG;have hsl:Hs.length=_:=(tJ hHs).1.trans (En hp).1;obtain⟨w,h1,ws,m1,c1,c2,c3,c4,c5,c6⟩:=Jo hX (ZG aoq (by rw[hsl];exact jG.2) hs.w) jG.1 hp hHs aeK aeL hv1 aeM jG.2 A m ts.heap tf tas hR.heap f2 g2;refine⟨.val v1,_,_,_,⟨.val w,_,_,m1,kY c1,rfl,rfl,hR.step c2 c4 c5,nZ c3,c4,c5,⟨fun _=>rfl,fun k hk=>(by cases hk),fun k hk=>?_,fun b hb=>?_,fun b hb=>(by cases hb),fun h=>(by cases h)⟩,fun b hb=>?_⟩,hk⟩
       .simp at hk
       .simp at hb;obtain⟨p,k,h8,h7,h9⟩:=c6 b hb;exact .inl ⟨k,a1k.2 ⟨k,Xc h8 (by simpa using h7.2),rfl⟩,h9⟩
       simp at hb;obtain⟨_,k,_,_,mb,h8,h9⟩:=c6 b hb;exact bf h8 h9
      exact hk.elim
     exact hk.elim
    exact hk.elim
   split at hk
   .rename_i g first cap _
    cases f2 with
    |gone hi _ _=>simp[bD]at hi
    |fn p1 p2 p3 p4=>
     split at hk
     .rename_i vs hvs;split at hk
      .rename_i v ext qs aor;split at hk
       .rename_i ext' FC;obtain⟨hq,hk⟩:=uK hk;obtain⟨w,h1,m1,c1,c2,c3,c4,c5⟩:=I4 hX (hO _ _ _ _ _ aor hq) hR.heap hvs FC ⟨p1,p2⟩ g2 ⟨p3,p4⟩;refine⟨.val (shift ps.heap.length v),_,_,_,⟨.val w,_,_,m1,kY c1,rfl,rfl,hR.step c2 c4 c5,nZ c3,c4,c5,⟨fun _=>rfl,fun k hk=>(by cases hk),fun k hk=>(by simp at hk),fun b hb=>(by simp at hb),fun b hb=>(by cases hb),fun h=>(by cases h)⟩,fun b hb=>(by simp at hb)⟩,hk⟩
       exact hk.elim
      exact hk.elim
     exact hk.elim
   exact hk.elim
  exact hk.elim
 .-- range
  rename_i t x ho;split at hk
  .rename_i r kt et hx hu;obtain⟨tx,g1,g2⟩:=jA hE hx;split at hk
   .rename_i es LU;obtain⟨c,gG,q0,q3,q4,q5⟩:=Dj hR.heap LU;have htm:=a1m g2 q0;subst htm;have aQ:r<m.length:=by rcases q0 with q1|⟨q1,_⟩<;>exact(a0a.1 q1).1
    have hp:=hR.heap.push (pb:=.dD r es.length []) (hb:=.dD c es.length []) (mb:=.gJ ts.heap.length) (.inl rfl) ⟨c,by simp,by rw[a0p aQ];rcases q0 with q1|⟨q1,_⟩<;>rw[q1]<;>rfl,fun c' hc=>by rw[a0p aQ]at hc;rcases q0 with q1|⟨q1,_⟩<;>rw[q1]at hc<;>simp at hc<;>exact hc.symm⟩
    have go:pG P call site ts o=some (.val (.iter ts.heap.length),{ ts with heap:=ts.heap++[.dD c es.length []] },xP (.h c)):=by simp only[pG,ho,g1,hu,q3,q4]
    exact⟨.val (.iter ps.heap.length),_,_,_,⟨_,_,xP (.h c),_,go,rfl,rfl,hR.step hp.1 hp.2.1 hp.2.2,nZ (.iter (by rw[<-hR.heap.len];simp)),hp.2.1,hp.2.2,IR.reads rfl (fun b hb=>by simp[xP]at hb;subst hb;exact⟨Sv q0,(a0a.1 q3).1⟩) (by simp[xP]),fun b hb=>by simp[xP]at hb⟩,hk⟩
   exact hk.elim
  exact hk.elim
 .-- entry
  rename_i x ho;split at hk
  rotate_left
  .exact hk.elim
  rename_i b hx;obtain⟨tx,g1,g2⟩:=jA hE hx;split at hk
  rotate_left
  .exact hk.elim
  rename_i r n i seen hb;split at hk
  rotate_left
  .exact hk.elim
  rename_i es LU;split at hk
  .rename_i kk vv _ rest;obtain⟨⟨hn,he⟩,hk⟩:=hk;obtain⟨e,rfl,rfl⟩:∃e:PV X.Γ×PV X.Γ,e.1=kk∧e.2=vv:=⟨(kk,vv),rfl,rfl⟩;have he:es[i]? = some e:=he;obtain⟨mb,q1,q2⟩:=hR.heap.at_ b _ hb;cases mb with
   |gJ cb=>
    obtain⟨c,q3,_,q5⟩:=q2;obtain⟨c',gG,z1,z3,z4,z5⟩:=Dj hR.heap LU;have:=q5 c' (by rcases z1 with z1|⟨z1,_⟩;exact .inl z1;exact .inr z1);subst this;cases g2 with
    |gone hi e _=>simp only[bD,a01]at hi;subst hi;rw[q1]at e;cases e
    |iter e1=>
     rw[q1]at e1;cases e1;have hl:i<gG.length:=by rw[<-z4];exact(a0a.1 he).1
     have he':=a0n hl;have hv:=z5 i _ _ he he';refine⟨.val (.cO [e.1,e.2]),_,_,_,⟨.val (.cO [gG[i].1,gG[i].2]),ts,fQ [.h cb,.h c'],m,?_,rfl,rfl,hR,nZ (MR (nY hv.1) (nY hv.2)),.refl,.refl,IR.reads rfl (fun b2 yu=>?_) (by simp[fQ]),fun b hb=>by simp[fQ]at hb⟩,hk⟩
     .simp only[pG,ho,g1,q3,z3];rw[a0u (by rw[<-z4];exact hn),he'];rfl
     simp[fQ]at yu;rcases yu with rfl|rfl
     .exact⟨.inl ⟨b,by simp[fQ],iP q1 rfl⟩,(a0a.1 q3).1⟩
     refine⟨?_,(a0a.1 z3).1⟩;rcases z1 with z1|⟨_,z1⟩
     .exact .inl ⟨r,by simp[fQ],iP z1 rfl⟩
     exact .inr z1
   |_=>exact q2.elim
  split at hk
  case isFalse=>exact hk.elim
  rename_i hn;split at hk
  case h_2=>exact hk.elim
  rename_i e he;obtain⟨mb,q1,q2⟩:=hR.heap.at_ b _ hb;cases mb with
  |gJ cb=>
   obtain⟨c,q3,_,q5⟩:=q2;obtain⟨c',gG,z1,z3,z4,z5⟩:=Dj hR.heap LU;have:=q5 c' (by rcases z1 with z1|⟨z1,_⟩;exact .inl z1;exact .inr z1);subst this;cases g2 with
   |gone hi e _=>simp only[bD,a01]at hi;subst hi;rw[q1]at e;cases e
   |iter e1=>
    rw[q1]at e1;cases e1;have hl:i<gG.length:=by rw[<-z4];exact(a0a.1 he).1
    have he':=a0n hl;have hv:=z5 i _ _ he he';refine⟨.val (.cO [e.1,e.2]),_,_,_,⟨.val (.cO [gG[i].1,gG[i].2]),ts,fQ [.h cb,.h c'],m,?_,rfl,rfl,hR,nZ (MR (nY hv.1) (nY hv.2)),.refl,.refl,IR.reads rfl (fun b2 yu=>?_) (by simp[fQ]),fun b hb=>by simp[fQ]at hb⟩,hk⟩
    .simp only[pG,ho,g1,q3,z3];rw[a0u (by rw[<-z4];exact hn),he'];rfl
    simp[fQ]at yu;rcases yu with rfl|rfl
    .exact⟨.inl ⟨b,by simp[fQ],iP q1 rfl⟩,(a0a.1 q3).1⟩
    refine⟨?_,(a0a.1 z3).1⟩;rcases z1 with z1|⟨_,z1⟩
    .exact .inl ⟨r,by simp[fQ],iP z1 rfl⟩
    exact .inr z1
  |_=>exact q2.elim
 exact hk.elim
end
inductive IRs:List MB->List HB->List PI->List mJ->Prop where
 |nil {m h}:IRs m h [] []
 |cons {m h p t m1 h1 ps ts}:(bC m).Nodup->(∀b,b∈bC m->b<h.length)->IR m h p t->Fr m h m1 h1->Up m m1->(p.mv=false->∀(i:Nat),i<m.length->m1[i]? = some .gone->m[i]? = some .gone)->IRs m1 h1 ps ts->IRs m h (p::ps) (t::ts)
theorem a6q{fl b c:Nat}{ws:List Nat}(h:c∈EH fl b ws):c∈ws∨(c=b∧b<fl):=by
 unfold EH at h;split at h
 .rename_i hl;split at h
  .exact .inl h
  rcases a1F.1 h with h|h
  .exact .inr ⟨h,hl⟩
  exact .inl h
 exact .inl h
theorem wo{fl c:Nat}:∀{ks:List Key} {ws:List Nat},c∈jZ fl ks ws->c∈ws∨(.h c∈ks∧c<fl)
 | [],ws,h=>.inl h
 |.h b::ks,ws,h=>by
  rcases wo (ks:=ks) h with h|⟨h1,h2⟩
  .rcases a6q h with h|⟨rfl,h⟩
   .exact .inl h
   exact .inr ⟨a2M,h⟩
  exact .inr ⟨a3h _ h1,h2⟩
 |.l _::ks,ws,h=>by
  rcases wo (ks:=ks) h with h|⟨h1,h2⟩
  .exact .inl h
  exact .inr ⟨a3h _ h1,h2⟩
theorem Xd{m m1:List MB}(hU:Up m m1)(hg:∀(i:Nat),i<m.length->m1[i]? = some .gone->m[i]? = some .gone){i b:Nat}(h:G7 m i b):G7 m1 i b:=by
 obtain⟨mb,h1,h2⟩:=h;rcases hU i mb h1 with e|e
 .exact⟨mb,e,h2⟩
 have:=hg i (a0a.1 h1).1 e;rw[h1]at this;cases this;cases h2
theorem Dk{m:List MB}(hn:(bC m).Nodup){i j b:Nat}(h1:G7 m i b)(h2:G7 m j b):i=j:=by obtain⟨_,a1,a2⟩:=h1;obtain⟨_,b1,b2⟩:=h2;exact je hn a1 b1 a2 b2
theorem aa1{ma mb:List MB}{ha hb:List HB}{pa pb:PI}{ta tb:mJ}(na:(bC ma).Nodup)(nb:(bC mb).Nodup)(la:∀b,b∈bC ma->b<ha.length)(hab:Fr ma ha mb hb)(A:IR ma ha pa ta)(B:IR mb hb pb tb)(hc:a1b pa pb=true)
  (Qw:(∀i b,G7 ma i b->G7 mb i b)∨pa.hp=false∨pb.hp=false):calm ta tb=true:=by
 simp only[a1b,a2f]at hc;obtain⟨c1,c2⟩:=hc;simp only[Zw,a2f,a4I,a97,a9n]at c1 c2;obtain⟨c1,c1w⟩:=c1;obtain⟨c2,c2w⟩:=c2;simp only[calm,a2f];constructor
 .simp only[Nz,a4I,a2f,a97,agW];intro k hk;cases k with
  |l j=>
   have:=c1 _ (A.wl j hk);simp only[a4Y,a2K]at this ⊢;exact⟨⟨.inr rfl,fun h=>this.1.1.2 (B.tl j h)⟩,fun h=>this.1.2 (B.wl j h)⟩
  |h c=>
   rcases Qw with a6r|Qw|Qw
   .-- nothing is given up
    have hca:c∈bC ma:=by
     rcases A.wh c hk with⟨i,_,h2⟩|⟨_,h2⟩
     .exact Zz h2
     .exact h2
    obtain⟨i0,hi0⟩:=kJ hca;have hi1:=a6r _ _ hi0;have hcb:c∈bC mb:=Zz hi1;rcases A.wh c hk with⟨i,h1,h2⟩|⟨h1,h2⟩
    .have hii:=Dk na hi0 h2;subst hii;have NW:=c1 _ h1;simp only[a4Y,a2K,Key.isH,ahe]at NW;refine⟨⟨.inl ?_,?_⟩,?_⟩
     .cases hq:tb.all with
      |false=>rfl
      |true=>rw[B.all hq]at NW;simp at NW
     .simp only[a4Y,a2K];intro hq;rcases(B.th c hq).1 with⟨j,g1,g2⟩|g1
      .have:=Dk nb hi1 g2;subst this;exact NW.1.1.2 g1
      .exact g1 hcb
     .simp only[a4Y,a2K];intro hq;rcases B.wh c hq with⟨j,g1,g2⟩|⟨g1,g2⟩
      .have:=Dk nb hi1 g2;subst this;exact NW.1.2 g1
      .rw[g1]at NW;simp at NW
    .rw[h1]at c1w;simp only[aew,false_or]at c1w;obtain⟨⟨⟨w1,w2⟩,w3⟩,w4⟩:=c1w;refine⟨⟨.inl ?_,?_⟩,?_⟩
     .cases hq:tb.all with
      |false=>rfl
      |true=>rw[B.all hq]at w1;cases w1
     .simp only[a4Y,a2K];intro hq;rcases(B.th c hq).1 with⟨j,g1,g2⟩|g1
      .have:=w3 _ g1;simp[Key.isH]at this
      .exact g1 hcb
     .simp only[a4Y,a2K];intro hq;rcases B.wh c hq with⟨j,g1,g2⟩|⟨g1,g2⟩
      .have:=w4 _ g1;simp[Key.isH]at this
      .rw[g1]at w2;cases w2
   .exact absurd hk ((A.hp Qw).2.2 c)
   .obtain⟨g1,g2,g3⟩:=B.hp Qw;refine⟨⟨.inl g1,?_⟩,?_⟩<;>simp only[a4Y,a2K]
    .exact g2 c
    .exact g3 c
 .simp only[Nz,a4I,a2f,a97,agW];intro k hk;cases k with
  |l j=>
   have:=c2 _ (B.wl j hk);simp only[a4Y,a2K]at this ⊢;exact⟨⟨.inr rfl,fun h=>this.1.1.2 (A.tl j h)⟩,fun h=>this.1.2 (A.wl j h)⟩
  |h c=>
   rcases Qw with a6r|Qw|Qw
   .have hcb:c∈bC mb:=by
     rcases B.wh c hk with⟨i,_,h2⟩|⟨_,h2⟩
     .exact Zz h2
     .exact h2
    obtain⟨j0,hj0⟩:=kJ hcb;have back:c<ha.length->c∈bC ma:=fun aQ=>by
     rcases hab.new c hcb with h1|h1
     .exact h1
     .omega
    have aiz:∀i,G7 ma i c->i=j0:=fun i hi=>Dk nb (a6r _ _ hi) hj0;rcases B.wh c hk with⟨j,h1,h2⟩|⟨h1,h2⟩
    .have hii:=Dk nb hj0 h2;subst hii;have NW:=c2 _ h1;simp only[a4Y,a2K,Key.isH,ahe]at NW;refine⟨⟨.inl ?_,?_⟩,?_⟩
     .cases hq:ta.all with
      |false=>rfl
      |true=>rw[A.all hq]at NW;simp at NW
     .simp only[a4Y,a2K];intro hq;obtain⟨g0,glt⟩:=A.th c hq;rcases g0 with⟨i,g1,g2⟩|g1
      .have:=aiz i g2;subst this;exact NW.1.1.2 g1
      .exact g1 (back glt)
     .simp only[a4Y,a2K];intro hq;rcases A.wh c hq with⟨i,g1,g2⟩|⟨g1,g2⟩
      .have:=aiz i g2;subst this;exact NW.1.2 g1
      .rw[g1]at NW;simp at NW
    .rw[h1]at c2w;simp only[aew,false_or]at c2w;obtain⟨⟨⟨w1,w2⟩,w3⟩,w4⟩:=c2w;refine⟨⟨.inl ?_,?_⟩,?_⟩
     .cases hq:ta.all with
      |false=>rfl
      |true=>rw[A.all hq]at w1;cases w1
     .simp only[a4Y,a2K];intro hq;obtain⟨g0,glt⟩:=A.th c hq;rcases g0 with⟨i,g1,g2⟩|g1
      .have:=w3 _ g1;simp[Key.isH]at this
      .exact g1 (back glt)
     .simp only[a4Y,a2K];intro hq;rcases A.wh c hq with⟨i,g1,g2⟩|⟨g1,g2⟩
      .have:=w4 _ g1;simp[Key.isH]at this
      .rw[g1]at w2;cases w2
   .obtain⟨g1,g2,g3⟩:=A.hp Qw;refine⟨⟨.inl g1,?_⟩,?_⟩<;>simp only[a4Y,a2K]
    .exact g2 c
    .exact g3 c
   .exact absurd hk ((B.hp Qw).2.2 c)
theorem a6s:∀{ps:List PI} {ts:List mJ} {m:List MB} {h:List HB},IRs m h ps ts->∀{j:Nat} {p:PI},ps[j]? = some p->∃t mj hj,ts[j]? = some t∧IR mj hj p t∧(bC mj).Nodup∧(∀b,b∈bC mj->b<hj.length)∧Fr m h mj hj∧((∀(i:Nat) q,i<j->ps[i]? = some q->q.mv=false)->∀i b,G7 m i b->G7 mj i b)
 |_,_,_,_,.nil,j,p,hj=>by simp at hj
 |_,_,m,h,.cons n1 n2 i1 f1 u1 g1 rest,j,p,hj=>by
  cases j with
  |zero=>
   simp only[a2C,a01]at hj;subst hj;exact⟨_,m,h,rfl,i1,n1,n2,.refl,fun _ i b hb=>hb⟩
  |succ j=>
   obtain⟨t,mj,E5,e1,e2,e3,e4,e5,e6⟩:=a6s rest (j:=j) (by simpa using hj);refine⟨t,mj,E5,by simpa using e1,e2,e3,e4,f1.trans e5,fun hq i b hb=>e6 (fun i q hl hi=>hq (i+1) q (by omega) (by simpa using hi)) i b ?_⟩;exact Xd u1 (g1 (hq 0 _ (by omega) rfl)) hb
theorem a1q:∀{ps:List PI} {ts:List mJ} {m:List MB} {h:List HB},IRs m h ps ts->∀{i j:Nat} {p q:PI},i<j->ps[i]? = some p->ps[j]? = some q->a1b p q=true->((∀(k:Nat) q,i<=k->k<j->ps[k]? = some q->q.mv=false)∨p.hp=false∨q.hp=false)->∃a b,ts[i]? = some a∧ts[j]? = some b∧calm a b=true
 |_,_,_,_,.nil,i,j,p,q,_,hi,_,_,_=>by simp at hi
 |_,_,m,h,.cons n1 n2 i1 f1 u1 g1 rest,i,j,p,q,Ap,hi,hj,hc,Qw=>by
  cases j with
  |zero=>omega
  |succ j=>
   cases i with
   |zero=>
    simp only[a2C,a01]at hi;subst hi;obtain⟨t,mj,E5,e1,e2,e3,e4,e5,e6⟩:=a6s rest (j:=j) (by simpa using hj);refine⟨_,t,rfl,by simpa using e1,aa1 n1 e3 n2 (f1.trans e5) i1 e2 hc ?_⟩;refine Qw.imp_left fun hq i b hb=>e6 (fun i q hl hi=>hq (i+1) q (by omega) (by omega) (by simpa using hi)) i b (Xd u1 (g1 (hq 0 _ (by omega) (by omega) rfl)) hb)
   |succ i=>
    obtain⟨a,b,e1,e2,e3⟩:=a1q rest (i:=i) (j:=j) (by omega) (by simpa using hi) (by simpa using hj) hc (Qw.imp_left fun hq k q h1 h2 hi=>hq (k+1) q (by omega) (by omega) (by simpa using hi));exact⟨a,b,by simpa using e1,by simpa using e2,e3⟩
theorem a6t{ps:List PI}{ts:List mJ}{m:List MB}{h:List HB}(hI:IRs m h ps ts):∀{prs:List (Nat×Nat)},(∀q∈prs,q.1<q.2)->Uy ps prs=true->BI ts prs=true
 | [],_,_=>rfl
 |(i,j)::r,aQ,hd=>by
  simp only[Uy,a2f]at hd;obtain⟨h1,h2⟩:=hd;split at h1
  .rename_i a b ha hb;simp only[a2f,a9n,a97]at h1;obtain⟨x,y,e1,e2,e3⟩:=a1q hI (aQ _ a2M) ha hb h1.1 (by
    rcases h1.2 with(h3|h3)|h3
    .exact .inr (.inl h3)
    .exact .inr (.inr h3)
    left;intro k q QX kN hk;cases hq:q.mv with
    |false=>rfl
    |true=>
     refine absurd (agD.2 ⟨q,a4E (i:=k-i) ?_,hq⟩) (by rw[h3];simp);rw[a4v,a0u (by omega),a4w,<-hk];congr 1;omega)
   simp only[BI,e1,e2,e3,adx];exact a6t hI (fun q hq=>aQ q (a3h _ hq)) h2
  cases h1
theorem aeN{ops:List Oper}:∀q∈ni ops,q.1<q.2:=by intro q hq;unfold ni at hq;have:=(a8G.1 hq).1;unfold oC at this;simp only[adY,a1k,a8G,a4B]at this;obtain⟨j,_,i,⟨hi,_⟩,rfl⟩:=this;exact hi
theorem SB{ts:List mJ}(hw:∀t∈ts,t.ws=[]):∀{prs:List (Nat×Nat)},(∀q∈prs,q.1<ts.length∧q.2<ts.length)->BI ts prs=true
 | [],_=>rfl
 |(i,j)::r,hl=>by obtain⟨h1,h2⟩:=hl _ a2M;simp only[BI,a0n h1,a0n h2,a2f];refine⟨?_,SB hw fun q hq=>hl q (a3h _ hq)⟩;simp[calm,Nz,hw _ (a4D h1),hw _ (a4D h2)]
theorem aeO{ops:List Oper}:∀q∈ni ops,q.1<ops.length∧q.2<ops.length:=by intro q hq;unfold ni at hq;have:=(a8G.1 hq).1;unfold oC at this;simp only[adY,a1k,a8G,a4B]at this;obtain⟨j,hj,i,⟨hi,_⟩,rfl⟩:=this;exact⟨by simp only;omega,hj⟩
section
variable {X:kP} {P:LI1} {A W:Nat->Prop} {m m':List MB} {h:List HB}
structure SR(X:kP)(P:LI1)(A W:Nat->Prop)(fl:Nat)(m:List MB)(ps:aT X.Γ)(ts:St):Prop where
 st:uY X P A m ps ts
 own:∀b,b∈bC m->W b∨fl<=b
 ws:∀b,b∈ts.ws->W b
 fl:fl<=ts.heap.length
def MV(B:Nat)(m m1:List MB):Prop:=∀(i:Nat) mb,i<B->m[i]? = some mb->m1[i]? = some mb∨m1[i]? = some .gone
theorem Up.b{B:Nat}{m m1:List MB}(h:Up m m1):MV B m m1:=fun i mb _ hi=>h i mb hi
theorem MV.trans{B:Nat}{m m1 m2:List MB}(a:MV B m m1)(b:MV B m1 m2):MV B m m2:=fun i mb hB hi=>by
 rcases a i mb hB hi with h|h
 .exact b i mb hB h
 .rcases b i _ hB h with h|h<;>exact .inr h
theorem MV.refl{B:Nat}{m:List MB}:MV B m m:=fun _ _ _ h=>.inl h
def Dl(X:kP)(P:LI1)(B:Nat)(ps ps1:aT X.Γ):Prop:=
 ∀(A W:Nat->Prop) (fl:Nat) (m:List MB) (ts:St),SR X P A W fl m ps ts->∃m1,SR X P A W fl m1 ps1 ts∧Fr m ts.heap m1 ts.heap∧MV B m m1
theorem Dl.refl{B:Nat}{ps:aT X.Γ}:Dl X P B ps ps:=fun _ _ _ m _ hS=>⟨m,hS,.refl,.refl⟩
theorem Dl.trans{B:Nat}{a b c:aT X.Γ}(h1:Dl X P B a b)(h2:Dl X P B b c):Dl X P B a c:=fun A W fl m ts hS=>by obtain⟨m1,g1,g2,g3⟩:=h1 A W fl m ts hS;obtain⟨m2,g4,g5,g6⟩:=h2 A W fl m1 ts g1;exact⟨m2,g4,g2.trans g5,g3.trans g6⟩
theorem aa2{env:List (Nat×PE X.Γ)}{env':List (Nat×EV)}(he:jY X P A m h env env'):jY X P A m h (a9F env) env':=by
 induction he with
 |nil=>exact .nil
 |cons h1 _ ih=>
  rename_i k v x r r' _;cases v with
  |val v=>obtain⟨y,rfl,h2⟩:=gu h1;exact .cons (nZ (Ho h2)) ih
  |_=>exact .cons h1 ih
theorem aa3{t i:Nat}(hi:m[i]? = some (.dJ (.nil .aP))):∀{env:List (Nat×PE X.Γ)} {env':List (Nat×EV)} {r:List (Nat×PE X.Γ)},jY X P A m h env env'->FZ t i env=some r->jY X P A m h r env':=by
 intro env env' r he
 induction he generalizing r with
 |nil=>intro h;cases h
 |cons h1 h2 ih=>
  rename_i k v x q q';intro hn;simp only[FZ]at hn;split at hn
  .split at hn
   .cases hn;obtain⟨y,rfl,h3⟩:=gu h1;have:y=.nil .aP:=by
     cases h3 with
     |nil=>rfl
     |gone hi _ _=>simp[bD]at hi
    subst this;exact .cons (nZ (.own hi rfl)) h2
   cases hn
  simp only[a0i]at hn;obtain⟨q2,h3,rfl⟩:=hn;exact .cons h1 (ih h3)
theorem a1r{i off:Nat}(hi:m[i]? = some (.dJ (.nil .aP))){cs r:List (PV X.Γ)}{xs:List TV}(hv:bY X P A m h cs xs)(hn:a9G off i cs=some r):bY X P A m h r xs:=by
 unfold a9G at hn;split at hn
 .rename_i hc;cases hn;refine⟨by rw[a4F,hv.1],fun j a b ha hb=>?_⟩;by_cases e:off=j
  .subst e;rw[a4x,hc]at ha;cases ha;have:b=.nil .aP:=by
    cases hv.2 _ _ _ hc hb with
    |nil=>rfl
    |gone hi _ _=>simp[bD]at hi
   subst this;exact .own hi rfl
  rw[a1l e]at ha;exact hv.2 j a b ha hb
 cases hn
theorem SR.UJ{fl:Nat}{ps:aT X.Γ}{ts:St}(hS:SR X P A W fl m ps ts)(e:Nat):∃m1,HR X P A m1 (ps.heap++[.list false false e []]) ts.heap∧Fr m ts.heap m1 ts.heap∧Up m m1∧m1[ps.heap.length]? = some (.dJ (.nil .aP))∧(∀b,b∈bC m1->b∈bC m):=by obtain⟨h1,h2,h3⟩:=hS.st.heap.ac5 (pb:=.list false false e []) (mb:=.dJ (.nil .aP)) rfl LR.nil;refine⟨_,h1,h2,h3,by rw[<-hS.st.heap.len];simp,fun b hb=>?_⟩;rw[jl,a3c,kH]at hb;simpa[MB.own]using hb
theorem a6u(hX:bP X P){H:List (PB X.Γ)}(hr:HR X P A m H h){i:Nat}{v w:PV X.Γ}{x:TV}(hv:VR X P (AA A m) m h v x)(hw:fzV H i v=some w):VR X P (AA A (dw [i] m)) (dw [i] m) h w x:=by
 unfold fzV at hw;split at hw
 .cases hw;exact hv.step (iJ (h:=h) [i] m).1 (iJ (h:=h) [i] m).2
 split at hw
 .rename_i ha;refine(UF (m':=dw [i] m) hX hr hv hw (is:=[i]) fun j hj=>?_).mono fun b hb=>FA.gone hr hb;have:=a4I.1 ha j hj;rw[a9b this];exact a2D.2 rfl
 cases hw
theorem a1s(hX:bP X P){H:List (PB X.Γ)}(hr:HR X P A m H h){i:Nat}:∀{v w:List (PV X.Γ)} {x:List TV},bY X P (AA A m) m h v x->a5S H i v=some w->bY X P (AA A (dw [i] m)) (dw [i] m) h w x
 | [],w,x,hv,hw=>by cases hw;rw[hv.inv0];exact .nil
 |v::vs,w,x,hv,hw=>by
  obtain⟨y,r,rfl,h1,h2⟩:=hv.inv;simp only[a5S]at hw;split at hw
  .rename_i w1 ws e1 e2;cases hw;exact .cons (a6u hX hr h1 e1) (a1s hX hr h2 e2)
  cases hw
theorem aeP(hX:bP X P){H:List (PB X.Γ)}(hr:HR X P A m H h){i:Nat}{v:List (Nat×PE X.Γ)}{x:List (Nat×EV)}(hv:jY X P (AA A m) m h v x):∀{w:List (Nat×PE X.Γ)},fzE H i v=some w->jY X P (AA A (dw [i] m)) (dw [i] m) h w x:=by
 induction hv with
 |nil=>intro w hw;cases hw;exact .nil
 |cons h1 h2 ih=>
  rename_i k v x q q';intro w hw;cases v with
  |val v=>
   simp only[fzE]at hw;split at hw
   .rename_i w1 ws e1 e2;cases hw;obtain⟨y,rfl,h3⟩:=gu h1;exact .cons (nZ (a6u hX hr h3 e1)) (ih e2)
   cases hw
  |loc k o=>
   simp only[fzE,a0i]at hw;obtain⟨ws,e2,rfl⟩:=hw;exact .cons (by cases x<;>exact h1) (ih e2)
  |undef=>
   simp only[fzE,a0i]at hw;obtain⟨ws,e2,rfl⟩:=hw;exact .cons (by cases x<;>exact h1) (ih e2)
  |ent|EG=>simp[fzE]at hw
theorem a1t{Γ:Nat->Type}{H:List (PB Γ)}{i:Nat}:∀{l r:List (List (PV Γ))},fzL H i l=some r->r.length=l.length∧∀(k:Nat) ds,r[k]? = some ds->∃cs,l[k]? = some cs∧a5S H i cs=some ds
 | [],r,h=>by cases h;exact⟨rfl,fun k ds hk=>by simp at hk⟩
 |c::l,r,h=>by
  simp only[fzL]at h;split at h
  .rename_i w ws e1 e2;cases h;obtain⟨q1,q2⟩:=a1t e2;refine⟨by simp[q1],fun k ds hk=>?_⟩;cases k with
   |zero=>simp at hk;subst hk;exact⟨c,rfl,e1⟩
   |succ k=>exact q2 k ds (by simpa using hk)
  cases h
theorem a6v(hX:bP X P){B:Nat}{g:G}{ps ps1:aT X.Γ}(hg:BN B ps g=some ps1):Dl X P B ps ps1:=by
 intro A W fl m ts hS;cases g with
 |lit=>
  simp only[BN,a01]at hg;subst hg;exact⟨m,⟨⟨hS.st.heap,hS.st.llen,hS.st.loc,aa2 hS.st.env⟩,hS.own,hS.ws,hS.fl⟩,.refl,.refl⟩
 |FZ t e=>
  simp only[BN,a0i]at hg;obtain⟨env,h1,rfl⟩:=hg;obtain⟨m1,e1,e2,e3,e4,e5⟩:=hS.UJ e;exact⟨m1,⟨⟨e1,hS.st.llen,fun k cs hk=>let ⟨cs',q1,q2⟩:=hS.st.loc k cs hk;⟨cs',q1,q2.step e2 e3⟩,aa3 e4 (hS.st.env.step e2 e3) h1⟩,fun b hb=>hS.own b (e5 b hb),hS.ws,hS.fl⟩,e2,e3.b⟩
 |QB k off e=>
  simp only[BN]at hg;split at hg
  .rename_i cs hk;simp only[a0i]at hg;obtain⟨MP,h1,rfl⟩:=hg;obtain⟨m1,e1,e2,e3,e4,e5⟩:=hS.UJ e;refine⟨m1,⟨⟨e1,by simp[hS.st.llen],fun j ds hj=>?_,hS.st.env.step e2 e3⟩,fun b hb=>hS.own b (e5 b hb),hS.ws,hS.fl⟩,e2,e3.b⟩;by_cases e0:k=j
   .subst e0;rw[a4x,hk]at hj;cases hj;obtain⟨cs',q1,q2⟩:=hS.st.loc k cs hk;exact⟨cs',q1,a1r e4 (q2.step e2 e3) h1⟩
   rw[a1l e0]at hj;obtain⟨cs',q1,q2⟩:=hS.st.loc j ds hj;exact⟨cs',q1,q2.step e2 e3⟩
  cases hg
 |Uw i off e=>
  simp only[BN]at hg;split at hg
  rotate_left
  .cases hg
  rename_i cs hi;simp only[a0i]at hg;obtain⟨MP,h1,rfl⟩:=hg;obtain⟨m1,e1,e2,e3,e4,e5⟩:=hS.UJ e;have aQ:i<ps.heap.length:=(a0a.1 hi).1;have vC:HR X P A m1 (ps.heap.set i (.cells MP)++[.list false false e []]) ts.heap:=by
   refine e1.next .refl .refl (by simp[e1.len]) e1.nodup fun j b hj=>?_;by_cases e0:i=j
   .subst e0;right;rw[a0p (by simpa using aQ),a4x,hi]at hj;cases hj;obtain⟨mb,q1,q2⟩:=e1.at_ i (.cells cs) (by rw[a0p aQ];exact hi);refine⟨mb,q1,?_⟩;cases mb with
    |gJ c=>obtain⟨xs,q3,q4⟩:=q2;exact⟨xs,q3,a1r e4 q4 h1⟩
    |_=>exact q2.elim
   left;have:(ps.heap++[PB.list false false e []])[j]? = some b:=by
    rw[<-hj];rcases a4u j ps.heap.length with h9|h9
    .rw[a0p h9,a0p (by simpa using h9),a1l e0]
    rw[a0G h9,a0G (by simpa using h9),a4F]
   obtain⟨mb,q1,_⟩:=e1.at_ j b this;exact⟨mb,this,q1,q1,fun _ _=>rfl⟩
  exact⟨m1,⟨⟨vC,hS.st.llen,fun k cs hk=>let ⟨cs',q1,q2⟩:=hS.st.loc k cs hk;⟨cs',q1,q2.step e2 e3⟩,hS.st.env.step e2 e3⟩,fun b hb=>hS.own b (e5 b hb),hS.ws,hS.fl⟩,e2,e3.b⟩
 |flag i=>
  simp only[BN]at hg;split at hg
  rotate_left
  .cases hg
  rename_i k ex t l hi;cases hg;have hr:=hS.st.heap;refine⟨m,⟨⟨?_,hS.st.llen,hS.st.loc,hS.st.env⟩,hS.own,hS.ws,hS.fl⟩,.refl,.refl⟩;refine hr.next .refl .refl (by simp[hr.len]) hr.nodup fun j b hj=>?_;by_cases e0:i=j
  .subst e0;right;rw[a4x,hi]at hj;cases hj;obtain⟨mb,q1,q2⟩:=hr.at_ i _ hi;refine⟨mb,q1,?_⟩;cases mb with
   |dJ y=>
    cases(q2:LR X P _ _ _ _ _ _ _ y)with
    |nil=>exact LR.nil
    |emp p0 p1 p2 p3 p4=>exact LR.emp p0 p1 p2 p3 p4
    |some p1 p2 p3 p4 p5 p6 p7 p8 p9=>exact LR.some p1 p2 p3 p4 p5 (by simp) (by simp) p8 p9
   |_=>exact q2.elim
  left;rw[a1l e0]at hj;obtain⟨mb,q1,_⟩:=hr.at_ j b hj;exact⟨mb,hj,q1,q1,fun _ _=>rfl⟩
 |gc ks=>
  simp only[BN]at hg;split at hg
  rotate_left
  .cases hg
  rename_i hc;simp only[a2f,a1n,a4I]at hc;obtain⟨⟨EX,jG⟩,hB⟩:=hc;split at hg
  rotate_left
  .cases hg
  rename_i env loc b1 b2 h1 h2 h3 h4;split at hg
  rotate_left
  .cases hg
  rename_i b3 h5;cases hg;have hr:=hS.st.heap;have hp:=En h4;have aow:∀k∈ks,k<m.length:=fun k hk=>by obtain⟨i,hi⟩:=a8Y hk;obtain⟨b,q1,_⟩:=hp.2 hi;rw[hr.len];exact(a0a.1 q1).1
  have hBm:B<=m.length:=by rw[hr.len];exact hB
  let m1:List MB:=m.take B++ks.map fun k=>m.getD k .gone
  have aeQ:(m.take B).length=B:=by rw[a3K];omega
  have GV:∀i,i<B->m1[i]? = m[i]?:=fun i hi=>by show(m.take B++_)[i]? = _;rw[a0p (by omega),a4v,a0u hi]
  have hhi:∀p k,ks[p]? = some k->m1[p+B]? = m[k]?:=fun p k hp=>by show(m.take B++_)[p+B]? = _;rw[a0G (by omega),aeQ,Nat.add_sub_cancel,a4y,hp];have:=aow k (a4E hp);simp[a4p,this]
  have hg:∀i j,(fun i=>if i<B then some i else(wS ks i).map (·+B)) i=some j->m1[j]? = m[i]?:=fun i j Ap=>by
   simp only at Ap;split at Ap
   .rename_i hi;cases Ap;exact GV i hi
   simp only[a0i]at Ap;obtain⟨p,hp,rfl⟩:=Ap;exact hhi p i (OL hp)
  have hold:∀j mb,m1[j]? = some mb->∃i,m[i]? = some mb∧((j<B∧i=j)∨∃p,j=p+B∧ks[p]? = some i):=fun j mb hj=>by
   rcases a4u j B with aQ|ET
   .exact⟨j,by rw[<-GV j aQ];exact hj,.inl ⟨aQ,rfl⟩⟩
   have sD:j-B<ks.length:=by
    have:=(a0a.1 hj).1;have h9:m1.length=B+ks.length:=by show(m.take B++_).length=_;rw[a1o,aeQ,a4A]
    omega
   have hp:=a0n sD;have hh:=hhi (j-B) _ hp;rw[show j-B+B=j by omega,hj]at hh;exact⟨_,hh.symm,.inr ⟨j-B,by omega,hp⟩⟩
  have zl:∀b,b∈bC m1->b∈bC m:=fun b hb=>by obtain⟨j,mb,q1,q2⟩:=kJ hb;obtain⟨i,q3,_⟩:=hold j mb q1;exact bf q3 q2
  have hA:∀b,AA A m b->AA A m1 b:=fun b hb=>⟨hb.1,fun hm=>hb.2 (zl b hm)⟩;have aeR:(bC m1).Nodup:=jH fun i j c q1 q2=>by
   obtain⟨ma,a1,a2⟩:=q1;obtain⟨mc,c1,c2⟩:=q2;obtain⟨i',a3,a4⟩:=hold i ma a1;obtain⟨j',c3,c4⟩:=hold j mc c1;have e:=je hr.nodup a3 c3 a2 c2;subst e;rcases a4 with⟨a5,a6⟩|⟨p,a5,a6⟩<;>rcases c4 with⟨c5,c6⟩|⟨q,c5,c6⟩
   .omega
   .have:=EX _ (a4E c6);omega
   .have:=EX _ (a4E a6);omega
   have Eb:=(a0a.1 a6).1;have:p=q:=(List.getElem?_inj Eb jG).1 (by rw[a6,c6]);omega
  have hFr:Fr m ts.heap m1 ts.heap:=⟨a0E _,fun _ _ _=>rfl,fun b hb=>.inl (zl b hb),fun b cs hc=>⟨cs,hc,a0E _⟩⟩;have CW:=tJ h3;have hb3:=tJ h5;have QZ:=OO h2;refine⟨m1,⟨⟨⟨?_,fun j b hj=>?_,aeR,hr.up,fun b hb=>hr.Di b (zl b hb)⟩,by rw[QZ.1];exact hS.st.llen,fun k cs hk=>?_,OM hX hg hA hS.st.env h1⟩,fun b hb=>hS.own b (zl b hb),hS.ws,hS.fl⟩,hFr,fun i mb hi hm=>.inl (by rw[GV i hi];exact hm)⟩
  .show(m.take B++_).length=_;rw[a1o,a1o,a4A,CW.1,hb3.1,hp.1,aeQ,a3K];omega
  .have a0Q:b1.length=B:=by rw[CW.1,a3K];omega
   rcases a4u j B with aQ|ET
   .rw[a0p (by omega)]at hj;obtain⟨b0,q1,q2⟩:=CW.2 hj;rw[a4v,a0u aQ]at q1;obtain⟨mb,q3,q4⟩:=hr.at_ j b0 q1;exact⟨mb,by rw[GV j aQ];exact q3,Em hX hg hA (fun c _ h9 h8=>h9 (zl c h8)) q4 q2⟩
   rw[a0G (by omega),a0Q]at hj;obtain⟨b0,q1,q2⟩:=hb3.2 hj;have sD:j-B<ks.length:=by rw[<-hp.1];exact(a0a.1 q1).1
   obtain⟨b9,q5,q6⟩:=hp.2 (a0n sD);rw[q1]at q6;cases q6;obtain⟨mb,q3,q4⟩:=hr.at_ _ _ q5;refine⟨mb,?_,Em hX hg hA (fun c _ h9 h8=>h9 (zl c h8)) q4 q2⟩;have:=hhi (j-B) _ (a0n sD);rw[show j-B+B=j by omega]at this;rw[this];exact q3
  obtain⟨cs0,q1,q2⟩:=QZ.2 hk;obtain⟨cs',q3,q4⟩:=hS.st.loc k cs0 q1;exact⟨cs',q3,zI hX hg hA q4 q2⟩
 |fz i=>
  simp only[BN]at hg;split at hg
  .rename_i env loc e1 e2;cases hg;have hr:=hS.st.heap;have hF:=iJ (h:=ts.heap) [i] m;obtain⟨q1,q2⟩:=a1t e2;refine⟨dw [i] m,⟨⟨hr.bn [i],by rw[q1];exact hS.st.llen,fun k ds hk=>?_,aeP hX hr hS.st.env e1⟩,fun b hb=>?_,hS.ws,hS.fl⟩,hF.1,hF.2.b⟩
   .obtain⟨cs,h1,h2⟩:=q2 k ds hk;obtain⟨cs',h3,h4⟩:=hS.st.loc k cs h1;exact⟨cs',h3,a1s hX hr h4 h2⟩
   obtain⟨j,mb,_,h2,h3⟩:=AQ hb;exact hS.own b (bf h2 h3)
  cases hg
 |mv i=>
  simp only[BN]at hg;split at hg
  rotate_left
  .cases hg
  rename_i b0 hi;split at hg
  rotate_left
  .cases hg
  rename_i env loc b1 b2 h1 h2 h3 h4;cases hg;have hr:=hS.st.heap;have aQ:i<ps.heap.length:=(a0a.1 hi).1;obtain⟨mi,mi1,mi2⟩:=hr.at_ i b0 hi
  let m1:List MB:=m.set i .gone++[mi]
  have qM:(m.set i .gone).length=ps.heap.length:=by rw[a4F,hr.len]
  have GV:∀j,j<ps.heap.length->j≠i->m1[j]? = m[j]?:=fun j hj hn=>by show(m.set i .gone++[mi])[j]? = _;rw[a0p (by omega),a1l (fun e=>hn e.symm)]
  have EU:m1[i]? = some .gone:=by show(m.set i .gone++[mi])[i]? = _;rw[a0p (by omega),a4x,mi1];rfl
  have hhi:m1[ps.heap.length]? = some mi:=by show(m.set i .gone++[mi])[ps.heap.length]? = _;rw[a0G (by omega),qM,agZ];rfl
  have hg:∀a b,(fun j=>if j=i then some ps.heap.length else if j<ps.heap.length then some j else none) a=some b->m1[b]? = m[a]?:=fun a b hab=>by
   simp only at hab;split at hab
   .rename_i e;subst e;cases hab;rw[hhi,mi1]
   split at hab
   .rename_i e1 e2;cases hab;exact GV a e2 e1
   cases hab
  have hold:∀j mb,m1[j]? = some mb->mb=.gone∨∃k,m[k]? = some mb∧((j<ps.heap.length∧k=j∧j≠i)∨(j=ps.heap.length∧k=i)):=fun j mb hj=>by
   have sD:j<ps.heap.length+1:=by
    have:=(a0a.1 hj).1;have h9:m1.length=ps.heap.length+1:=by show(m.set i .gone++[mi]).length=_;rw[a1o,qM];rfl
    omega
   by_cases e:j=i
   .subst e;rw[EU]at hj;cases hj;exact .inl rfl
   rcases a4u j ps.heap.length with h5|h5
   .exact .inr ⟨j,by rw[<-GV j h5 e];exact hj,.inl ⟨h5,rfl,e⟩⟩
   have:j=ps.heap.length:=(by omega);subst this;rw[hhi]at hj;cases hj;exact .inr ⟨i,mi1,.inr ⟨rfl,rfl⟩⟩
  have zl:∀b,b∈bC m1->b∈bC m:=fun b hb=>by
   obtain⟨j,mb,q1,q2⟩:=kJ hb;rcases hold j mb q1 with rfl|⟨k,q3,_⟩
   .cases q2
   exact bf q3 q2
  have hA:∀b,AA A m b->AA A m1 b:=fun b hb=>⟨hb.1,fun hm=>hb.2 (zl b hm)⟩;have aeR:(bC m1).Nodup:=jH fun j k c q1 q2=>by
   obtain⟨ma,a1,a2⟩:=q1;obtain⟨mc,c1,c2⟩:=q2;rcases hold j ma a1 with rfl|⟨j',a3,a4⟩
   .cases a2
   rcases hold k mc c1 with rfl|⟨k',c3,c4⟩
   .cases c2
   have e:=je hr.nodup a3 c3 a2 c2;subst e;rcases a4 with⟨a5,a6,a7⟩|⟨a5,a6⟩<;>rcases c4 with⟨c5,c6,c7⟩|⟨c5,c6⟩<;>omega
  have hFr:Fr m ts.heap m1 ts.heap:=⟨a0E _,fun _ _ _=>rfl,fun b hb=>.inl (zl b hb),fun b cs hc=>⟨cs,hc,a0E _⟩⟩;have CW:=tJ h3;have QZ:=OO h2;have aiA:b1.length=ps.heap.length:=by rw[CW.1,a4F]
  refine⟨m1,⟨⟨⟨?_,fun j b hj=>?_,aeR,hr.up,fun b hb=>hr.Di b (zl b hb)⟩,by rw[QZ.1];exact hS.st.llen,fun k cs hk=>?_,OM hX hg hA hS.st.env h1⟩,fun b hb=>hS.own b (zl b hb),hS.ws,hS.fl⟩,hFr,fun j mb _ hj=>?_⟩
  .show(m.set i .gone++[mi]).length=_;rw[a1o,a1o,qM,aiA];rfl
  .rcases a4u j ps.heap.length with h5|h5
   .rw[a0p (by omega)]at hj;obtain⟨b9,q1,q2⟩:=CW.2 hj;by_cases e:j=i
    .subst e;rw[a4x,hi]at q1;cases q1;have q2:some (PB.gone (Γ:=X.Γ))=some b:=q2;cases q2;exact⟨.gone,EU,trivial⟩
    rw[a1l (fun e2=>e e2.symm)]at q1;obtain⟨mb,q3,q4⟩:=hr.at_ j b9 q1;exact⟨mb,by rw[GV j h5 e];exact q3,Em hX hg hA (fun c _ h9 h8=>h9 (zl c h8)) q4 q2⟩
   rw[a0G (by omega),aiA]at hj;have:j-ps.heap.length=0:=by have:=(a0a.1 hj).1;simp at this;omega
   rw[this]at hj;cases hj;refine⟨mi,?_,Em hX hg hA (fun c _ h9 h8=>h9 (zl c h8)) mi2 h4⟩;rw[show j=ps.heap.length by omega];exact hhi
  .obtain⟨cs0,q1,q2⟩:=QZ.2 hk;obtain⟨cs',q3,q4⟩:=hS.st.loc k cs0 q1;exact⟨cs',q3,zI hX hg hA q4 q2⟩
  by_cases e:j=i
  .subst e;exact .inr EU
  have:j<ps.heap.length:=by rw[<-hr.len];exact(a0a.1 hj).1
  exact .inl (by rw[GV j this e];exact hj)
theorem lS(hX:bP X P){B:Nat}:∀{gs:List G} {ps ps1:aT X.Γ},kT B gs ps=some ps1->Dl X P B ps ps1
 | [],ps,ps1,h=>by simp only[kT,a01]at h;subst h;exact .refl
 |g::gs,ps,ps1,h=>by
  simp only[kT]at h;split at h
  .rename_i s hs;exact(a6v hX hs).trans (lS hX h)
  cases h
end
section
variable {X:kP} {P:LI1} {T:qK} {A W:Nat->Prop} {m m':List MB}
variable {call:aY} {fV:fB X.Γ} {ρ:Type} {y:ρ}
theorem SR.C9{fl:Nat}{ps:aT X.Γ}{ts:St}(hS:SR X P A W fl m ps ts){x:Operand}{b:Bool}(hb:qO ts.env x=some (.bool b)):SR X P A W fl m (ps.C9 x b) ts:=⟨hS.st.C9 hb,hS.own,hS.ws,hS.fl⟩
theorem uY.put{ps:aT X.Γ}{ts:St}(hR:uY X P A m ps ts){d:Option Nat}{pe:PE X.Γ}{ev:EV}(h:IU X P (AA A m) m ts.heap pe ev):uY X P A m (ps.put d pe) (ts.put d ev):=by
 cases d with
 |none=>exact hR
 |some d=>exact⟨hR.heap,hR.llen,hR.loc,.cons h hR.env⟩
theorem zJ{ts:St}{d:Option Nat}{ev:EV}:(ts.put d ev).heap=ts.heap∧(ts.put d ev).ws=ts.ws:=by cases d<;>exact⟨rfl,rfl⟩
theorem Xe{H:List (PB X.Γ)}{h:List HB}(hr:HR X P A m H h){i:Nat}{b:PB X.Γ}(hb:H[i]? = some b):rC b=true↔m[i]? = some .gone:=by
 obtain⟨mb,h1,h2⟩:=hr.at_ i b hb;cases b with
 |gone=>
  cases mb with
  |gone=>exact⟨fun _=>h1,fun _=>rfl⟩
  |_=>exact h2.elim
 |cells cs=>cases mb with
  |gone=>exact h2.elim
  |_=>simp[rC,h1]
 |aF cs=>cases mb with
  |gone=>exact h2.elim
  |_=>simp[rC,h1]
 |list k ex t l=>cases mb with
  |gone=>exact h2.elim
  |_=>simp[rC,h1]
 |map es=>cases mb with
  |gone=>exact h2.elim
  |_=>simp[rC,h1]
 |mark=>cases mb with
  |gone=>exact h2.elim
  |_=>simp[rC,h1]
 |nH=>cases mb with
  |gone=>exact h2.elim
  |_=>simp[rC,h1]
 |iI=>cases mb with
  |gone=>exact h2.elim
  |_=>simp[rC,h1]
 |dD=>cases mb with
  |gone=>exact h2.elim
  |_=>simp[rC,h1]
 |loop=>cases mb with
  |gone=>exact h2.elim
  |_=>simp[rC,h1]
theorem KN:∀{H H1:List (PB X.Γ)},zH H H1=true->∀{i:Nat} {b:PB X.Γ},H[i]? = some b->∃b1,H1[i]? = some b1∧rC b=rC b1
 | [],H1,_,i,b,hi=>by simp at hi
 |a::H,[],h,i,b,hi=>by simp[zH]at h
 |a::H,a1::H1,h,i,b,hi=>by
  simp only[zH,a2f,a6P]at h;cases i with
  |zero=>simp only[a2C,a01]at hi;subst hi;exact⟨a1,rfl,h.1⟩
  |succ i=>obtain⟨b1,e1,e2⟩:=KN h.2 (i:=i) (by simpa using hi);exact⟨b1,by simpa using e1,e2⟩
theorem aeS{H H1:List (PB X.Γ)}{h h1:List HB}{m1:List MB}(hr:HR X P A m H h)(hr1:HR X P A m1 H1 h1)(hs:(!zH H H1)=false):∀(i:Nat),i<m.length->m1[i]? = some .gone->m[i]? = some .gone:=by
 intro i hi hg;have wF:i<H.length:=by rw[<-hr.len];exact hi
 have hb:=a0n wF;obtain⟨b1,e1,e2⟩:=KN (by simpa using hs) hb;have:=(Xe hr1 e1).2 hg;rw[<-e2]at this;exact(Xe hr hb).1 this
theorem LX{fl:Nat}{ops:Array Oper}{ps:aT X.Γ}{ts:St}(hS:SR X P A W fl m ps ts){o:Oper}{an:PT X.Γ}{k:Bool->aT X.Γ->PT X.Γ->OT ρ}(hk:(Zv X ops ps o an k).Ends y) :
  ∃w ps1 I5,CS ops ts.env o=some w∧SR X P A W fl m ps1 ts∧(k w ps1 I5).Ends y∧ps1.heap=ps.heap:=by
 unfold Zv at hk;unfold CS;split at hk
 .rename_i hg;exact⟨true,ps,an,by simp only[hg],hS,hk,rfl⟩
 .rename_i j want hg;simp only[hg];split at hk
  .rename_i d hd;simp only[hd];split at hk
   .rename_i b hb;obtain⟨ev,h1,h2⟩:=oM hS.st.env hb;obtain⟨tv,rfl,h3⟩:=gu h2;obtain⟨t,I5,rfl,hk⟩:=ZE hk h3;exact⟨t==want,_,I5,by simp only[h1],hS.C9 (x:=.tmp d) (by simp only[qO,IJ,h1]),hk,rfl⟩
   .rename_i hb;obtain⟨ev,h1,h2⟩:=oM hS.st.env hb;have:=Jj h2;subst this;exact⟨false,ps,an,by simp only[h1],hS,hk,rfl⟩
   .exact hk.elim
  .exact hk.elim
theorem ZK(hX:bP X P)(hO:jJ X P call fV){site:Nat->Bool}{fl nt:Nat}{ops:Array Oper}:∀{os:List Oper} {m:List MB} {ps:aT X.Γ} {ts:St} {an:PT X.Γ} {k:aT X.Γ->List PI->PT X.Γ->OT ρ},SR X P A W fl m ps ts->(WV X P fV (bZ X P call) site nt ops os ps an k).Ends y ->
  ∃iO is pis ps1 I5 m1,lG P call site fl nt ops os ts=some (iO,is)∧(k ps1 pis I5).Ends y∧SR X P A W fl m1 ps1 iO∧Fr m ts.heap m1 iO.heap∧Up m m1∧IRs m ts.heap pis is∧is.length=os.length
 | [],m,ps,ts,an,k,hS,hk=>⟨ts,[],[],ps,an,m,rfl,hk,hS,.refl,.refl,.nil,rfl⟩
 |o::os,m,ps,ts,an,k,hS,hk=>by
  simp only[WV]at hk;split at hk
  .exact hk.elim
  .rename_i hd;obtain⟨w,ps1,Lr,hw,hS1,hk,hh⟩:=LX hS hk;cases w with
   |true=>
    simp only at hk;obtain⟨pe,CV,pi,an2,⟨ev,ts2,ti,m2,e1,e2,e3,e4,e5,e6,e7,e8,e9⟩,hk⟩:=aeI hX hO hS1.st hk;have hS2:SR X P A W fl m2 (CV.put o.dst pe) (({ ts2 with ws:=jZ fl ti.ws ts.ws }).put o.dst ev):=by
     refine⟨uY.put (ts:={ ts2 with ws:=jZ fl ti.ws ts.ws }) ⟨e4.heap,e4.llen,e4.loc,e4.env⟩ e5,fun b hb=>?_,fun b hb=>?_,?_⟩
     .rcases e6.new b hb with h1|h1
      .exact hS.own b h1
      .exact .inr (a4Z hS.fl h1)
     .rw[zJ.2]at hb;rcases wo hb with h1|⟨h1,h2⟩
      .exact hS.ws b h1
      .rcases hS.own b (e9 b h1)with h3|h3
       .exact h3
       .omega
     .rw[zJ.1];exact a4Z hS.fl e6.len
    obtain⟨ts3,is,pis,ps3,an3,m3,g1,g2,g3,g4,g5,g6,g7⟩:=ZK hX hO (os:=os) hS2 hk;rw[zJ.1]at g4 g6;refine⟨ts3,ti::is,_,ps3,an3,m3,?_,g2,g3,e6.trans g4,e7.trans g5,.cons hS.st.heap.nodup (fun b hb=>hS.st.heap.inb hb) ⟨e8.all,e8.tl,e8.wl,e8.wh,e8.th,e8.hp⟩ e6 e7 (aeS hS1.st.heap e4.heap) g6,by simp[g7]⟩;simp only[lG,hd,hw,e1,g1];rfl
   |false=>
    simp only at hk;have hS2:SR X P A W fl m (ps1.put o.dst .undef) (ts.put o.dst .undef):=by
     refine⟨hS1.st.put trivial,hS.own,fun b hb=>?_,?_⟩
     .rw[zJ.2]at hb;exact hS.ws b hb
     .rw[zJ.1];exact hS.fl
    obtain⟨ts3,is,pis,ps3,an3,m3,g1,g2,g3,g4,g5,g6,g7⟩:=ZK hX hO (os:=os) hS2 hk;rw[zJ.1]at g4 g6;refine⟨ts3,cZ::is,_,ps3,an3,m3,?_,g2,g3,g4,g5,.cons hS.st.heap.nodup (fun b hb=>hS.st.heap.inb hb) .none .refl .refl (fun _ i _ hg=>hg) g6,by simp[g7]⟩;simp only[lG,hd,hw,g1];rfl
def dN(X:kP)(P:LI1)(T:qK)(call:aY)(L f:Nat)(gZ:Bool)(nt B:Nat)(c:Code)(ps:aT X.Γ)(e:Ex)(ps1:aT X.Γ):Prop:=
 ∀(A W:Nat->Prop) (fl:Nat) (m:List MB) (ts:St),SR X P A W fl m ps ts->∃iO m1,exec P T call L f gZ fl nt c ts=some (e,iO)∧SR X P A W fl m1 ps1 iO∧Fr m ts.heap m1 iO.heap∧MV B m m1
theorem uY.pick{ps:aT X.Γ}{ts:St}(hR:uY X P A m ps ts)(live:List Nat):uY X P A m { ps with env:=jo live ps.env } { ts with env:=Tw.pick live ts.env }:=
 ⟨hR.heap,hR.llen,hR.loc,UE hR.env live⟩
theorem SR.pick{fl:Nat}{ps:aT X.Γ}{ts:St}(hS:SR X P A W fl m ps ts)(live:List Nat):SR X P A W fl m { ps with env:=jo live ps.env } { ts with env:=Tw.pick live ts.env }:=⟨hS.st.pick live,hS.own,hS.ws,hS.fl⟩
theorem SR.head{fl:Nat}{ps:aT X.Γ}{ts:St}(hS:SR X P A W fl m ps ts)(live:List Nat):SR X P A W fl m (gW X live ps) (kC live ts):=by
 have h1:=hS.pick live;have ht:=aes h1.st.env;refine⟨⟨h1.st.heap,?_,fun k cs hk=>?_,h1.st.env⟩,h1.own,h1.ws,h1.fl⟩
 .simp only[gW,kC,a3K];have:=h1.st.llen;simp only at this ht;omega
 simp only[gW,kC]at hk ⊢;rw[a4v]at hk;split at hk
 .rename_i aQ;obtain⟨cs',g1,g2⟩:=h1.st.loc k cs hk;refine⟨cs',?_,g2⟩;rw[a4v,a0u (by simp only at ht;omega)];exact g1
 cases hk
theorem UK{g:St->Option (Ex×St)}:∀{k j:Nat} {s:St} {r:Ex×St},iter g k s=some r->k<=j->iter g j s=some r
 | 0,_,s,r,h,_=>by simp[iter]at h
 |k+1,j,s,r,h,hj=>by
  obtain⟨j,rfl⟩:∃i,j=i+1:=⟨j-1,by omega⟩;simp only[iter]at h ⊢;split at h
  .rename_i s1 hs;exact UK h (by omega)
  rename_i hn;exact h
section
variable {L f:Nat} {gZ:Bool} {nt B:Nat}
theorem Mc(hX:bP X P){c:Code}{A W:Nat->Prop}{fl:Nat}{m:List MB}{ps:aT X.Γ}{ts:St}{k:Ex->aT X.Γ->PT X.Γ->OT ρ}(hS:SR X P A W fl m ps ts):∀{an:PT X.Γ},(yV X (dN X P T call L f gZ nt B) B c ps k an).Ends y ->
  ∃e iO ps1 I5 m1,exec P T call L f gZ fl nt c ts=some (e,iO)∧(k e ps1 I5).Ends y∧SR X P A W fl m1 ps1 iO∧Fr m ts.heap m1 iO.heap∧MV B m m1:=by
 intro an
 induction an with
 |a x r=>
  intro hk;cases x with
  |loop e s'=>
   simp only[yV]at hk;obtain⟨GV,hk⟩:=hk;obtain⟨iO,m1,h1,h2,h3,h4⟩:=GV A W fl m ts hS;exact⟨_,iO,_,_,m1,h1,hk,h2,h3,h4⟩
  |lg gs e s'=>
   simp only[yV]at hk;split at hk
   .rename_i hgs;obtain⟨GV,hk⟩:=hk;obtain⟨m0,e1,e2,e3⟩:=lS hX hgs A W fl m ts hS;obtain⟨iO,m1,h1,h2,h3,h4⟩:=GV A W fl m0 ts e1;exact⟨_,iO,_,_,m1,h1,hk,h2,e2.trans h3,e3.trans h4⟩
   .exact hk.elim
  |_=>simp only[yV]at hk;exact hk.elim
 |z c' a b iha ihb=>
  intro hk;simp only[yV]at hk;rcases hk with⟨_,hk⟩|⟨_,hk⟩
  .exact iha hk
  .exact ihb hk
 |_=>intro hk;simp only[yV]at hk;exact hk.elim
theorem vV(hX:bP X P)(hO:jJ X P call fV):∀(c:Code) {A W:Nat->Prop} {fl:Nat} {m:List MB} {ps:aT X.Γ} {ts:St} {an:PT X.Γ} {k:Ex->aT X.Γ->PT X.Γ->OT ρ},SR X P A W fl m ps ts->(jS X P T fV (bZ X P call) (dN X P T call L f gZ nt B) B L f gZ nt c ps an k).Ends y ->
  ∃e iO ps1 I5 m1,exec P T call L f gZ fl nt c ts=some (e,iO)∧(k e ps1 I5).Ends y∧SR X P A W fl m1 ps1 iO∧Fr m ts.heap m1 iO.heap∧MV B m m1:=by
 intro c
 induction c with
 |skip=>intro A W fl m ps ts an k hS hk;exact⟨.norm,ts,ps,an,m,rfl,hk,hS,.refl,.refl⟩
 |label=>intro A W fl m ps ts an k hS hk;exact⟨.norm,ts,ps,an,m,rfl,hk,hS,.refl,.refl⟩
 |exit id=>intro A W fl m ps ts an k hS hk;exact⟨.exit id,ts,ps,an,m,rfl,hk,hS,.refl,.refl⟩
 |ret=>intro A W fl m ps ts an k hS hk;exact⟨.ret,ts,ps,an,m,rfl,hk,hS,.refl,.refl⟩
 |region id ops draw=>
  intro A W fl m ps ts an k hS hk;simp only[jS]at hk;obtain⟨iO,is,pis,ps1,Lr,m1,g1,hk,g3,g4,g5,g6,g7⟩:=ZK hX hO hS hk;have fin:∀{an2:PT X.Γ},(!draw||(nR ops.toList&&BI is (ni ops.toList)))=true->(k .norm { ps1 with env:=jo (T.iE f id) ps1.env } an2).Ends y->∃e iO ps1 I5 m1,exec P T call L f gZ fl nt (.region id ops draw) ts=some (e,iO)∧(k e ps1 I5).Ends y∧SR X P A W fl m1 ps1 iO∧Fr m ts.heap m1 iO.heap∧MV B m m1:=by intro an2 hc hk;exact⟨.norm,{ iO with env:=Tw.pick (T.iE f id) iO.env },_,an2,m1,by simp only[exec,g1,hc,a1I],hk,g3.pick _,g4,g5.b⟩
  cases draw with
  |false=>exact fin rfl hk
  |true=>
   simp only at hk;split at hk
   .rename_i r;split at hk
    .rename_i FM;obtain⟨uU,hk⟩:=hk;refine fin ?_ hk;rw[uU];simp only[a9k,agf,adx];refine SB (fun t ht=>?_) fun q hq=>by rw[g7];exact aeO q hq
     have key:∀{ps:List PI} {ts:List mJ} {m:List MB} {h:List HB},IRs m h ps ts->(ps.all fun i=>i.i.ws.isEmpty&&!i.wall)=true->∀t∈ts,t.ws=[]:=by
      intro ps ts m h hI
      induction hI with
      |nil=>intro _ t ht;cases ht
      |cons _ _ i1 _ _ _ _ ih=>
       intro ha t ht;simp only[ac3,a2f,List.isEmpty_iff,a97]at ha;rcases a1F.1 ht with rfl|ht
       .refine a7d.2 fun x hx=>?_;cases x with
        |l j=>have:=i1.wl j hx;rw[ha.1.1]at this;cases this
        |h b=>
         rcases i1.wh b hx with⟨i,h1,_⟩|⟨h1,_⟩
         .rw[ha.1.1]at h1;cases h1
         .rw[ha.1.2]at h1;cases h1
       .exact ih ha.2 t ht
     exact key g6 FM t ht
    .exact hk.elim
   .split at hk
    .rename_i hc;simp only[a2f]at hc;refine fin ?_ hk;rw[hc.1,a6t g6 aeN hc.2];rfl
    .exact hk.elim
 |seq a b iha ihb=>
  intro A W fl m ps ts an k hS hk;simp only[jS]at hk;obtain⟨e,iO,ps1,Lr,m1,h1,hk,h3,h4,h5⟩:=iha hS hk;cases e with
  |norm=>
   obtain⟨e2,ts2,CV,an2,m2,g1,g2,g3,g4,g5⟩:=ihb h3 hk;exact⟨e2,ts2,CV,an2,m2,by simp only[exec,h1,g1],g2,g3,h4.trans g4,h5.trans g5⟩
  |exit id=>exact⟨_,iO,ps1,Lr,m1,by simp only[exec,h1],hk,h3,h4,h5⟩
  |ret=>exact⟨_,iO,ps1,Lr,m1,by simp only[exec,h1],hk,h3,h4,h5⟩
 |cond c a b iha ihb=>
  intro A W fl m ps ts an k hS hk;simp only[jS]at hk;split at hk
  .rename_i u hu;obtain⟨tu,h1,h2⟩:=WY hS.st.env hu;obtain⟨t,I5,rfl,hk⟩:=ZE hk h2;cases t with
   |true=>
    obtain⟨e,iO,ps1,Lr,m1,g1,g2,g3,g4,g5⟩:=iha (hS.C9 h1) hk;exact⟨e,iO,ps1,Lr,m1,by simp only[exec,h1,g1],g2,g3,g4,g5⟩
   |false=>
    obtain⟨e,iO,ps1,Lr,m1,g1,g2,g3,g4,g5⟩:=ihb (hS.C9 h1) hk;exact⟨e,iO,ps1,Lr,m1,by simp only[exec,h1,g1],g2,g3,g4,g5⟩
  .exact hk.elim
 |block id b ih=>
  intro A W fl m ps ts an k hS hk;simp only[jS]at hk;obtain⟨e,iO,ps1,Lr,m1,h1,hk,h3,h4,h5⟩:=ih hS hk;cases e with
  |norm=>exact⟨_,iO,ps1,Lr,m1,by simp only[exec,h1],hk,h3,h4,h5⟩
  |ret=>exact⟨_,iO,ps1,Lr,m1,by simp only[exec,h1],hk,h3,h4,h5⟩
  |exit i=>exact⟨_,iO,ps1,Lr,m1,by simp only[exec,h1],hk,h3,h4,h5⟩
 |scope b ih=>
  intro A W fl m ps ts an k hS hk;simp only[jS]at hk;obtain⟨e,iO,ps1,Lr,m1,h1,hk,h3,h4,h5⟩:=ih hS hk;exact⟨e,iO,ps1,Lr,m1,by simp only[exec,h1],hk,h3,h4,h5⟩
 |loop b ih=>
  intro A W fl m ps ts an k hS hk;simp only[jS]at hk;split at hk
  .rename_i j r;obtain⟨hj,hk⟩:=hk;have go:∀(j:Nat) {m:List MB} {ps:aT X.Γ} {ts:St} {an:PT X.Γ},SR X P A W fl m ps ts->(UA X (fun s an k=>jS X P T fV (bZ X P call) (dN X P T call L f gZ nt B) B L f gZ nt b (gW X (T.eY f (dU b)) s) an k) j ps an k).Ends y ->
     ∃e iO ps1 I5 m1,iter (fun s=>exec P T call L f gZ fl nt b (kC (T.eY f (dU b)) s)) j ts=some (e,iO)∧(k e ps1 I5).Ends y∧SR X P A W fl m1 ps1 iO∧Fr m ts.heap m1 iO.heap∧MV B m m1:=by
    intro j
    induction j with
    |zero=>intro m ps ts an _ hk;exact hk.elim
    |succ j ihj=>
     intro m ps ts an hS hk;simp only[UA]at hk;obtain⟨e,iO,ps1,Lr,m1,h1,hk,h3,h4,h5⟩:=ih (hS.head _) hk;cases e with
     |norm=>
      obtain⟨e2,ts2,CV,an2,m2,g1,g2,g3,g4,g5⟩:=ihj h3 hk;exact⟨e2,ts2,CV,an2,m2,by simp only[iter,h1,g1],g2,g3,h4.trans g4,h5.trans g5⟩
     |exit id=>exact⟨_,iO,ps1,Lr,m1,by simp only[iter,h1],hk,h3,h4,h5⟩
     |ret=>exact⟨_,iO,ps1,Lr,m1,by simp only[iter,h1],hk,h3,h4,h5⟩
   obtain⟨e,iO,ps1,Lr,m1,h1,h2,h3,h4,h5⟩:=go j hS hk;exact⟨e,iO,ps1,Lr,m1,by simp only[exec];exact UK h1 hj,h2,h3,h4,h5⟩
  .exact Mc hX hS hk
 |rangeFunc g qs uQ body iha ihb=>
  intro A W fl m ps ts an k hS hk;simp only[jS]at hk;exact Mc hX hS hk
 |_=>intro A W fl m ps ts an k hS hk;simp only[jS]at hk;exact hk.elim
end
end
section
variable {X:kP} {P:LI1} {T:qK} {A W:Nat->Prop} {m m':List MB}
variable {call:aY} {fV:fB X.Γ} {L:Nat}
def Cm(P:LI1)(f:Nat):Nat:=match TY P f with
 |some t=>t.nt
 |none=>0
abbrev BO(X:kP)(P:LI1)(T:qK)(call:aY)(L f B:Nat):a1c X.Γ:=dN X P T call L f false (Cm P f) B
theorem MW{A:Nat->Prop}{h:List HB}:∀{k:Nat} {vs:List (PV X.Γ)} {xs:List TV},bY X P A m h vs xs->jY X P A m h (lD X k vs) (nS k xs)
 |k,[],xs,hv=>by rw[hv.inv0];exact .nil
 |k,v::vs,xs,hv=>by obtain⟨x,r,rfl,h1,h2⟩:=hv.inv;exact .cons h1 (MW h2)
theorem J9(hX:bP X P){ps:aT X.Γ}{ts:St}(hR:uY X P A m ps ts):∀{rs:List ResultVar} {vs:List (PV X.Γ)},Fb X P ps rs=some vs->∃ws,yc P ts rs=some ws∧bY X P (AA A m) m ts.heap vs ws
 | [],vs,h=>by simp only[Fb,a01]at h;subst h;exact⟨[],rfl,.nil⟩
 |r::rs,vs,h=>by
  simp only[Fb]at h;split at h
  rotate_left
  .cases h
  rename_i v vs' h1 h2;cases h;obtain⟨ws,g1,g2⟩:=J9 hX hR h2;have:∃w,a4M P ts r=some w∧VR X P (AA A m) m ts.heap v w:=by
   unfold aie at h1;unfold a4M;split at h1
   .rename_i t;split at h1
    .rename_i u hu;cases h1;obtain⟨ev,e1,e2⟩:=oM hR.env hu;obtain⟨w,rfl,e3⟩:=gu e2;exact⟨w,by simp only[e1],Ho e3⟩
    cases h1
   rename_i a t;split at h1
   .rename_i pa ha;simp only[a0i]at h1;obtain⟨⟨u,i⟩,e1,rfl⟩:=h1;obtain⟨ev,e2,e3⟩:=oM hR.env ha;obtain⟨w,ti,e4,e5,_,_⟩:=Gy hX hR e3 e1;exact⟨w,by simp only[e2,e4,a0A],e5⟩
   cases h1
  obtain⟨w,g3,g4⟩:=this;exact⟨w::ws,by simp only[yc,g3,g1],.cons g4 g2⟩
theorem UL{A:Nat->Prop}{h:List HB}{vs:List (PV X.Γ)}{ws:List TV}(hv:bY X P A m h vs ws):VR X P A m h (Zx X vs) (one ws):=by
 match vs,ws,hv with
 | [],ws,hv=>rw[hv.inv0];exact .cO rfl (by simp)
 | [v],ws,hv=>
  obtain⟨x,r,rfl,h1,h2⟩:=hv.inv;have:=h2.inv0;subst this;exact h1
 |v::u::vs,ws,hv=>
  obtain⟨x,r,rfl,h1,h2⟩:=hv.inv;obtain⟨z,r,rfl,h3,h4⟩:=h2.inv;exact .cO hv.1 hv.2
theorem a6w(hX:bP X P)(hO:jJ X P call fV){f:Nat}{vs:List (PV X.Γ)}{H:List (PB X.Γ)}{an:PT X.Γ}{v:PV X.Γ}{H1:List (PB X.Γ)}(hk:(Df X P T fV (bZ X P call) (BO X P T call L f H.length) L f vs H an).Ends (v,H1))
  {h:List HB} (hr:HR X P A m H h) {xs:List TV} (hv:bY X P (AA A m) m h vs xs):∃w h1 ws m1,Un P T call L f xs h=some (w,h1,ws)∧HR X P A m1 H1 h1∧VR X P (AA A m1) m1 h1 v w∧Fr m h m1 h1∧MV H.length m m1∧(∀b∈ws,b∈bC m)∧¬(T.exts.contains f||T.dem.contains f)=true:=by
 unfold Df at hk;split at hk
 .rename_i t ht;have hnx:¬(T.exts.contains f||T.dem.contains f)=true:=fun hx=>by rw[a0u hx]at ht;cases ht
  rw[a0q hnx]at ht;have hnt:Cm P f=t.nt:=by unfold Cm;rw[ht]
  have hS:SR X P A (fun b=>b∈bC m) h.length m ⟨lD X 0 vs,[],H⟩ ⟨nS 0 xs,[],h,[]⟩:=
   ⟨⟨hr,rfl,fun k cs hk=>by simp at hk,MW hv⟩,fun b hb=>.inl hb,fun b hb=>(by cases hb),a0E _⟩
  rw[show BO X P T call L f H.length=dN X P T call L f false t.nt H.length by unfold BO;rw[hnt]]at hk;obtain⟨e,iO,ps1,Lr,m1,h1,hk,h3,h4,h5⟩:=vV hX hO t.body hS hk;have fin:∀{e:Ex},exec P T call L f false h.length t.nt t.body ⟨nS 0 xs,[],h,[]⟩=some (e,iO)->(e=.norm∨e=.ret)->∀{us:List (PV X.Γ)},Fb X P ps1 t.results=some us->(Zx X us,ps1.heap)=(v,H1)->∃w h1 ws m1,Un P T call L f xs h=some (w,h1,ws)∧HR X P A m1 H1 h1∧VR X P (AA A m1) m1 h1 v w∧Fr m h m1 h1∧MV H.length m m1∧(∀b∈ws,b∈bC m)∧¬(T.exts.contains f||T.dem.contains f)=true:=by intro e he hee us hus hv;cases hv;obtain⟨ws,g1,g2⟩:=J9 hX h3.st hus;refine⟨one ws,iO.heap,iO.ws,m1,?_,h3.st.heap,UL g2,h4,h5,h3.ws,hnx⟩;unfold Un;rcases hee with rfl|rfl<;>simp only[ht,he,g1]
  cases e with
  |exit id=>exact hk.elim
  |norm=>
   cases Lr with
   |n=>
    simp only at hk;split at hk
    .rename_i us hus;exact fin h1 (.inl rfl) hus hk
    .exact hk.elim
   |_=>exact hk.elim
  |ret=>
   cases Lr with
   |n=>
    simp only at hk;split at hk
    .rename_i us hus;exact fin h1 (.inr rfl) hus hk
    .exact hk.elim
   |_=>exact hk.elim
 .exact hk.elim
theorem ZL(hX:bP X P){n f:Nat}(hn:0<n)(hO:jJ X P (lC P T L (n-1)) fV){vs:List (PV X.Γ)}{an:PT X.Γ}{v:PV X.Γ}{ext:List (PB X.Γ)}
  (hk:(Df X P T fV (bZ X P (lC P T L (n-1))) (BO X P T (lC P T L (n-1)) L f 0) L f vs [] an).Ends (v,ext)):pO X P (lC P T L n) f vs v ext:=by
 intro A h first args cap IQ hv
 have hr:HR X P A [] [] h:=⟨rfl,fun i b hb=>by simp at hb,by simp[bC],IQ,fun b hb=>by simp[bC]at hb⟩;obtain⟨w,h1,ws,m1,g1,g2,g3,g4,_,g6,g7⟩:=a6w hX hO (H:=[]) hk hr (hv.mono fun b hb=>⟨hb,by simp[bC]⟩);obtain⟨n,rfl⟩:∃j,n=j+1:=⟨n-1,by omega⟩;have:ws=[]:=a7d.2 fun x hx=>by have:=g6 x hx;simp[bC]at this
 subst this;exact⟨w,h1,m1,by simp only[lC];simp only[a9n,adE]at g7;rw[a0q g7.1,a0q g7.2];exact g1,g2,g3,g4⟩
theorem a6x(hX:bP X P){n f:Nat}(hn:0<n)(hO:jJ X P (lC P T L (n-1)) fV){first xs cap:List (PV X.Γ)}{H H1:List (PB X.Γ)}{an:PT X.Γ}{v:PV X.Γ}
  (hk:(Df X P T fV (bZ X P (lC P T L (n-1))) (BO X P T (lC P T L (n-1)) L f H.length) L f (first++xs++cap) H an).Ends (v,H1)):bZ X P (lC P T L n) (.fn f first cap) xs H v H1:=by
 intro A m h tf qN hr hf hx;obtain⟨n,rfl⟩:∃j,n=j+1:=⟨n-1,by omega⟩;cases hf with
 |gone hi _ _=>simp[bD]at hi
 |fn p1 p2 p3 p4=>
  obtain⟨w,h1,ws,m1,g1,g2,g3,g4,g5,g6,g7⟩:=a6w hX hO hk hr ((bY.app ⟨p1,p2⟩ hx).app ⟨p3,p4⟩);refine⟨w,h1,ws,m1,by simp only[lC];simp only[a9n,adE]at g7;rw[a0q g7.1,a0q g7.2];exact g1,g2,g3,g4,fun i mb hi=>g5 i mb ?_ hi,g6⟩;rw[<-hr.len];exact(a0a.1 hi).1
def aeU:Ex->aT X.Γ->PT X.Γ->OT (Ex×aT X.Γ):=fun e s an=>match an with
 |.n=>.ret (e,s)
 |_=>.bad
section
variable {f nt B:Nat} {gZ:Bool}
theorem Xf(hX:bP X P)(hO:jJ X P call fV){c:Code}{ps:aT X.Γ}{an:PT X.Γ}{e:Ex}{ps1:aT X.Γ}(hk:(jS X P T fV (bZ X P call) (dN X P T call L f gZ nt B) B L f gZ nt c ps an aeU).Ends (e,ps1)):dN X P T call L f gZ nt B c ps e ps1:=by
 intro A W fl m ts hS;obtain⟨e1,iO,CV,Lr,m1,h1,h2,h3,h4,h5⟩:=vV hX hO c hS hk;cases Lr with
 |n=>cases h2;exact⟨iO,m1,h1,h3,h4,h5⟩
 |_=>exact h2.elim
end
end
def OT.map{ρ σ:Type}(f:ρ->σ):OT ρ->OT σ
 |.bad=>.bad
 |.ret r=>.ret (f r)
 |.o p r=>.o p (r.map f)
 |.br c t e=>.br c (t.map f) (e.map f)
theorem OT.I7{ρ σ:Type}{f:ρ->σ}{y:σ}:∀{o:OT ρ},(o.map f).Ends y->∃r,o.Ends r∧f r=y
 |.bad,h=>h.elim
 |.ret r,h=>⟨r,rfl,h⟩
 |.o p r,h=>by obtain⟨x,h1,h2⟩:=OT.I7 h.2;exact⟨x,⟨h.1,h1⟩,h2⟩
 |.br c t e,h=>by
  rcases h with⟨h0,h⟩|⟨h0,h⟩
  .obtain⟨x,h1,h2⟩:=OT.I7 h;exact⟨x,.inl ⟨h0,h1⟩,h2⟩
  obtain⟨x,h1,h2⟩:=OT.I7 h;exact⟨x,.inr ⟨h0,h1⟩,h2⟩
inductive Fp{Γ:Nat->Type}{ρ:Type}(R:ρ->Prop):PT Γ->OT ρ->Prop where
 |r {v:ρ} (h:R v):Fp R .n (.ret v)
 |g {v:ρ} (gs:List G) (h:R v):Fp R (.a (.lg gs .norm ⟨[],[],[]⟩) .n) (.ret v)
 |o {p:Prop} {an:PT Γ} {o:OT ρ} (h:p) (f:Fp R an o):Fp R an (.o p o)
 |s {c:Bool} {a b:PT Γ} {x y:OT ρ} (f:c=true->Fp R a x) (g:c=false->Fp R b y):Fp R (.s a b) (.br c x y)
 |z {c:Bool} {a b:PT Γ} {x y:OT ρ} (f:c=true->Fp R a x) (g:c=false->Fp R b y):Fp R (.z c a b) (.br c x y)
 |b {c t:Bool} {an:PT Γ} {o:OT ρ} (h:c=t) (f:Fp R an o):Fp R (.a (.br t) an) (.o (c=t) o)
 |q {p:Prop} {an:PT Γ} {o:OT ρ} (w:TV) (h:p) (f:Fp R an o):Fp R (.a (.rd w) an) (.o p o)
 |c {p:Prop} {an:PT Γ} {o:OT ρ} (v:PV Γ) (H:List (PB Γ)) (h:p) (f:Fp R an o):Fp R (.a (.call v H) an) (.o p o)
 |kf {p:Prop} {an:PT Γ} {o:OT ρ} (ks:List Nat) (v:PV Γ) (H:List (PB Γ)) (h:p) (f:Fp R an o):Fp R (.a (.fr ks v H) an) (.o p o)
 |kg {p:Prop} {an:PT Γ} {o:OT ρ} (ks rs:List Nat) (v:PV Γ) (H:List (PB Γ)) (h:p) (f:Fp R an o):Fp R (.a (.QC ks rs v H) an) (.o p o)
 |l {p:Prop} {an:PT Γ} {o:OT ρ} (gs:List G) (e:Ex) (s:aT Γ) (h:p) (f:Fp R an o):Fp R (.a (.lg gs e s) an) (.o p o)
 |f {p:Prop} {an:PT Γ} {o:OT ρ} (e:Ex) (s:aT Γ) (h:p) (f:Fp R an o):Fp R (.a (.loop e s) an) (.o p o)
 |m {p:Prop} {an:PT Γ} {o:OT ρ} (k:Nat) (h:p) (f:Fp R an o):Fp R (.l k an) (.o p o)
 |a {an:PT Γ} {o:OT ρ} (x:PA Γ) (f:Fp R an o):Fp R (.a x an) o
theorem Fp.aK{Γ:Nat->Type}{ρ:Type}{R:ρ->Prop}{an:PT Γ}{o:OT ρ}(h:Fp R an o):∃y,o.Ends y∧R y:=by
 induction h with
 |r h=>exact⟨_,rfl,h⟩
 |g _ h=>exact⟨_,rfl,h⟩
 |s _ _ i1 i2=>
  rename_i c _ _ _ _ _ _;cases c with
  |true=>obtain⟨y,h1,h2⟩:=i1 rfl;exact⟨y,.inl ⟨rfl,h1⟩,h2⟩
  |false=>obtain⟨y,h1,h2⟩:=i2 rfl;exact⟨y,.inr ⟨rfl,h1⟩,h2⟩
 |z _ _ i1 i2=>
  rename_i c _ _ _ _ _ _;cases c with
  |true=>obtain⟨y,h1,h2⟩:=i1 rfl;exact⟨y,.inl ⟨rfl,h1⟩,h2⟩
  |false=>obtain⟨y,h1,h2⟩:=i2 rfl;exact⟨y,.inr ⟨rfl,h1⟩,h2⟩
 |a _ _ i=>exact i
 |o h _ i=>obtain⟨y,h1,h2⟩:=i;exact⟨y,⟨h,h1⟩,h2⟩
 |b h _ i=>obtain⟨y,h1,h2⟩:=i;exact⟨y,⟨h,h1⟩,h2⟩
 |q _ h _ i=>obtain⟨y,h1,h2⟩:=i;exact⟨y,⟨h,h1⟩,h2⟩
 |c _ _ h _ i=>obtain⟨y,h1,h2⟩:=i;exact⟨y,⟨h,h1⟩,h2⟩
 |kg _ _ _ _ h _ i=>obtain⟨y,h1,h2⟩:=i;exact⟨y,⟨h,h1⟩,h2⟩
 |kf _ _ _ h _ i=>obtain⟨y,h1,h2⟩:=i;exact⟨y,⟨h,h1⟩,h2⟩
 |l _ _ _ h _ i=>obtain⟨y,h1,h2⟩:=i;exact⟨y,⟨h,h1⟩,h2⟩
 |f _ _ h _ i=>obtain⟨y,h1,h2⟩:=i;exact⟨y,⟨h,h1⟩,h2⟩
 |m _ h _ i=>obtain⟨y,h1,h2⟩:=i;exact⟨y,⟨h,h1⟩,h2⟩
section
variable {X:kP} {P:LI1} {T:qK} {L:Nat}
def frz(r:PV X.Γ×List (PB X.Γ)):Option (PV X.Γ):=view r.2 r.1
theorem Xg(hX:bP X P){call:aY}{f:FuncId}{vs:List (PV X.Γ)}{v w:PV X.Γ}{ext:List (PB X.Γ)}(hc:pO X P call f vs v ext)(hw:view ext v=some w):pO X P call f vs w []:=by
 intro A h first args cap IQ hv
 obtain⟨x,h',m',c1,c2,c3,c4⟩:=hc A h first args cap IQ hv
 refine⟨x,h',[],c1,⟨rfl,fun i b hb=>by simp at hb,by simp[bC],c2.up,fun b hb=>by simp[bC]at hb⟩,?_,?_⟩
 .refine(UF (m':=[]) hX c2 c3 hw (is:=kG v) fun i hi=>hi).mono fun b hb=>⟨?_,by simp[bC]⟩;rcases hb with hb|⟨i,mb,h1,h2,h3⟩
  .exact hb.1
  exact c2.Di b (bf h2 h3)
 exact⟨c4.len,fun b hb hn=>c4.same b hb hn,fun b hb=>by simp[bC]at hb,c4.grow⟩
def aeV(hd:aT X.Γ->aT X.Γ)(B:Nat):Ex->aT X.Γ->PT X.Γ->OT (Ex×aT X.Γ):=fun e s an=>match an with
 |.n=>match e with
  |.norm=>.ret (.norm,hd s)
  |e=>.ret (e,s)
 |.a (.lg gs _ _) .n=>match e with
  |.norm=>match kT B gs (hd s)with
   |some s=>.ret (.norm,s)
   |none=>.bad
  |e=>match kT B gs s with
   |some s=>.ret (e,s)
   |none=>.bad
 |_=>.bad
section
variable {f nt B:Nat} {gZ:Bool} {call:aY} {fV:fB X.Γ}
def dK(X:kP)(P:LI1)(T:qK)(call:aY)(L f:Nat)(gZ:Bool)(nt B:Nat)(b:Code)(n:Nat)(ps:aT X.Γ)(e:Ex)(ps1:aT X.Γ):Prop:=
 ∀(A W:Nat->Prop) (fl:Nat) (m:List MB) (ts:St),SR X P A W fl m ps (kC (T.eY f (dU b)) ts)->∃iO m1,iter (fun s=>exec P T call L f gZ fl nt b (kC (T.eY f (dU b)) s)) n ts=some (e,iO)∧SR X P A W fl m1 ps1 iO∧Fr m ts.heap m1 iO.heap∧MV B m m1
theorem UM{b:Code}{n k:Nat}{ps:aT X.Γ}{e:Ex}{ps1:aT X.Γ}(h:dK X P T call L f gZ nt B b n ps e ps1)(hk:n<=k):dK X P T call L f gZ nt B b k ps e ps1:=fun A W fl m ts hS=>by obtain⟨iO,m1,h1,h2⟩:=h A W fl m ts hS;exact⟨iO,m1,UK h1 hk,h2⟩
theorem zK{b:Code}{n:Nat}{s0 ps:aT X.Γ}{e:Ex}{ps1:aT X.Γ}(h:dK X P T call L f gZ nt B b n ps e ps1)(h0:gW X (T.eY f (dU b)) s0=ps)(hn:n<=L):dN X P T call L f gZ nt B (.loop b) s0 e ps1:=fun A W fl m ts hS=>by obtain⟨iO,m1,h1,h2⟩:=UM h hn A W fl m ts (by rw[<-h0];exact hS.head _);exact⟨iO,m1,by simp only[exec];exact h1,h2⟩
def Rnd(X:kP)(P:LI1)(T:qK)(call:aY)(L f:Nat)(gZ:Bool)(nt B:Nat)(b:Code)(n:Nat)(e:Ex)(s:aT X.Γ):Ex×aT X.Γ->Prop
 |(.norm,s')=>dK X P T call L f gZ nt B b n s' e s
 |(e',s')=>e'=e∧s'=s
theorem a1u{b:Code}{n:Nat}{e e':Ex}{s s':aT X.Γ}(hn:e'≠.norm)(h:Rnd X P T call L f gZ nt B b n e s (e',s')):e'=e∧s'=s:=by
 cases e' with
 |norm=>exact absurd rfl hn
 |exit id=>exact h
 |ret=>exact h
theorem round(hX:bP X P)(hO:jJ X P call fV){b:Code}{n:Nat}{ps:aT X.Γ}{an:PT X.Γ}{e:Ex}{s:aT X.Γ}{o:OT (Ex×aT X.Γ)}
  (hk:jS X P T fV (bZ X P call) (dN X P T call L f gZ nt B) B L f gZ nt b ps an (aeV (gW X (T.eY f (dU b))) B)=o) (ht:Fp (Rnd X P T call L f gZ nt B b n e s) an o):dK X P T call L f gZ nt B b (n+1) ps e s:=by
 obtain⟨⟨e',s'⟩,h1,h2⟩:=ht.aK;rw[<-hk]at h1;intro A W fl m ts hS;obtain⟨e1,iO,CV,Lr,m1,g1,g2,g3,g4,g5⟩:=vV hX hO b hS h1;have out:∀{e1:Ex} {m2:List MB},exec P T call L f gZ fl nt b (kC (T.eY f (dU b)) ts)=some (e1,iO)->e1≠.norm->e1=e∧s'=s->SR X P A W fl m2 s' iO->Fr m ts.heap m2 iO.heap->MV B m m2->∃iO m1,iter (fun s=>exec P T call L f gZ fl nt b (kC (T.eY f (dU b)) s)) (n+1) ts=some (e,iO)∧SR X P A W fl m1 s iO∧Fr m ts.heap m1 iO.heap∧MV B m m1:=by
  intro e1 m2 ge hn hh q1 q2 q3;obtain⟨rfl,rfl⟩:=hh;refine⟨iO,m2,?_,q1,q2,q3⟩;cases e1 with
  |norm=>exact absurd rfl hn
  |exit id=>simp only[iter,ge]
  |ret=>simp only[iter,ge]
 have on:∀{m2:List MB},exec P T call L f gZ fl nt b (kC (T.eY f (dU b)) ts)=some (.norm,iO)->SR X P A W fl m2 s' (kC (T.eY f (dU b)) iO)->Fr m ts.heap m2 iO.heap->MV B m m2->dK X P T call L f gZ nt B b n s' e s->∃iO m1,iter (fun s=>exec P T call L f gZ fl nt b (kC (T.eY f (dU b)) s)) (n+1) ts=some (e,iO)∧SR X P A W fl m1 s iO∧Fr m ts.heap m1 iO.heap∧MV B m m1:=by intro m2 ge q1 q2 q3 hr;obtain⟨ts2,m3,r1,r2,r3,r4⟩:=hr A W fl m2 iO q1;exact⟨ts2,m3,by simp only[iter,ge,r1],r2,q2.trans r3,q3.trans r4⟩
 unfold aeV at g2;split at g2
 .split at g2
  .cases g2;exact on g1 (g3.head _) g4 g5 h2
  .rename_i e1 iF;cases g2;exact out g1 (fun h=>iF h) (a1u (fun h=>iF h) h2) g3 g4 g5
 .split at g2
  .split at g2
   .rename_i hg;cases g2;obtain⟨m2,q1,q2,q3⟩:=lS hX hg _ _ _ _ _ (g3.head _);exact on g1 q1 (g4.trans q2) (g5.trans q3) h2
   .exact g2.elim
  .rename_i e1 iF;split at g2
   .rename_i hg;cases g2;obtain⟨m2,q1,q2,q3⟩:=lS hX hg _ _ _ _ _ g3;exact out g1 (fun h=>iF h) (a1u (fun h=>iF h) h2) q1 (g4.trans q2) (g5.trans q3)
   .exact g2.elim
 .exact g2.elim
end
structure Ar(X:kP)(P:LI1)(α:Type) where
 put:α->PV X.Γ
 get:PV X.Γ->Option α
 ok:∀{v:PV X.Γ} {a:α},get v=some a->∀{A:Nat->Prop} {m:List MB} {h:List HB} {x:TV},VR X P A m h v x->VR X P A m h (put a) x
structure UN(X:kP)(P:LI1)(α:Type) where
 put:α->List (PV X.Γ)
 get:List (PV X.Γ)->Option α
 ok:∀{v:List (PV X.Γ)} {a:α},get v=some a->∀{A:Nat->Prop} {m:List MB} {h:List HB} {x:List TV},bY X P A m h v x->bY X P A m h (put a) x
def aeW(k:IntKind):Ar X P Int where
 put n:=.int k n
 get v:=match v with
  |.int k' n=>if k'=k then some n else none
  |_=>none
 ok:=by
  intro v a hg A m h x hv;split at hg
  .split at hg
   .rename_i e;subst e;cases hg;exact hv
   .cases hg
  .cases hg
def aiC:Ar X P Bool where
 put n:=.bool n
 get v:=match v with
  |.bool n=>some n
  |.lit n=>some n
  |_=>none
 ok:=by
  intro v a hg A m h x hv;split at hg
  .cases hg;exact hv
  .cases hg;exact Ho hv
  .cases hg
theorem VR.less{A:Nat->Prop}{m:List MB}{h:List HB}{t:Nat}{l:List (X.Γ t)}{fu:Bool}{x:TV}(hv:VR X P A m h (.dJ t l fu) x):VR X P A m h (.dJ t l false) x:=by
 cases hv with
 |gone hi _ _=>simp[bD]at hi
 |pK=>exact .pK
 |dJ a c c2 s z o k f e r=>exact .dJ a c c2 s z o k (fun h=>by cases h) e r
def a6y(t:Nat):Ar X P (List (X.Γ t)) where
 put l:=.dJ t l false
 get v:=match v with
  |.dJ t' l _=>BM t t' l
  |.nil .aP=>some []
  |_=>none
 ok:=by
  intro v a hg A m h x hv;split at hg
  .obtain⟨rfl,rfl⟩:=rG hg;exact hv.less
  .cases hg;cases hv with
   |nil=>exact .pK
   |gone hi _ _=>simp[bD]at hi
  .cases hg
def aiD(hX:bP X P)(t:Nat):Ar X P (X.Γ t) where
 put a:=.agg (X.enc t a)
 get v:=match v with
  |.agg cs=>X.dec t cs
  |_=>none
 ok:=by
  intro v a hg A m h x hv;split at hg
  .cases hv with
   |gone hi _ _=>simp[bD]at hi
   |agg h1 h2=>obtain⟨h3,h4⟩:=hX.dec hg ⟨h1,h2⟩;exact .agg h3 h4
  .cases hg
def fnA(f:FuncId):Ar X P Unit where
 put _:=.fn f [] []
 get v:=match v with
  |.fn g [] []=>if g=f then some ()else none
  |_=>none
 ok:=by
  intro v a hg A m h x hv;split at hg
  .split at hg
   .rename_i e;subst e;exact hv
   .cases hg
  .cases hg
def aeX:UN X P Unit where
 put _:=[]
 get v:=match v with
  | []=>some ()
  |_=>none
 ok:=by
  intro v a hg A m h x hv;split at hg
  .exact hv
  .cases hg
def Ls{α β:Type}(a:Ar X P α)(l:UN X P β):UN X P (α×β) where
 put x:=a.put x.1::l.put x.2
 get v:=match v with
  |v::vs=>match a.get v,l.get vs with
   |some x,some y=>some (x,y)
   |_,_=>none
  |_=>none
 ok:=by
  intro v x hg A m h xs hv;split at hg
  .split at hg
   .rename_i e1 e2;cases hg;obtain⟨y,r,rfl,h1,h2⟩:=hv.inv;exact .cons (a.ok e1 h1) (l.ok e2 h2)
   .cases hg
  .cases hg
def aiE{α:Type}(a:Ar X P α):UN X P α where
 put x:=[a.put x]
 get v:=match v with
  | [v]=>a.get v
  |_=>none
 ok:=by
  intro v x hg A m h xs hv;split at hg
  .obtain⟨y,r,rfl,h1,h2⟩:=hv.inv;have:=h2.inv0;subst this;exact .cons (a.ok hg h1) .nil
  .cases hg
def dS{α:Type}(l:UN X P α):Ar X P α where
 put x:=.cO (l.put x)
 get v:=match v with
  |.cO cs=>l.get cs
  |_=>none
 ok:=by
  intro v x hg A m h xs hv;split at hg
  .cases hv with
   |gone hi _ _=>simp[bD]at hi
   |cO h1 h2=>obtain⟨h3,h4⟩:=l.ok hg ⟨h1,h2⟩;exact .cO h3 h4
  .cases hg
def a3k{α:Type}(l:UN X P α):Ar X P α where
 put x:=.agg (l.put x)
 get v:=match v with
  |.agg cs=>l.get cs
  |_=>none
 ok:=by
  intro v x hg A m h xs hv;split at hg
  .cases hv with
   |gone hi _ _=>simp[bD]at hi
   |agg h1 h2=>obtain⟨h3,h4⟩:=l.ok hg ⟨h1,h2⟩;exact .agg h3 h4
  .cases hg
def aeY{α β:Type}(a:Ar X P α)(f:α->β)(g:β->α)(hgf:∀x,g (f x)=x):Ar X P β where
 put x:=a.put (g x)
 get v:=match a.get v with
  |some x=>some (f x)
  |none=>none
 ok:=by
  intro v x hg A m h xs hv;split at hg
  .rename_i y hy;cases hg;rw[hgf];exact a.ok hy hv
  .cases hg
def Good(X:kP)(P:LI1)(T:qK)(L:Nat)(fV:fB X.Γ):Prop:=∃N,∀n,N<=n->jJ X P (lC P T L n) fV
def aa5:fB X.Γ:=fun _ _=>none
def cu{α β:Type}(f:FuncId)(a:UN X P α)(r:Ar X P β)(S:α->β)(pre:α->List Prop)(fV:fB X.Γ):fB X.Γ:=fun g vs=>
 match Nat.beq g f with
 |true=>match a.get vs with
  |some x=>some (r.put (S x),[],pre x)
  |none=>fV g vs
 |false=>fV g vs
theorem Good.nil:Good X P T L (aa5 (X:=X)):=⟨0,fun n _ f vs v ext ps h=>by cases h⟩
theorem Good.add{α β:Type}{f:FuncId}{a:UN X P α}{r:Ar X P β}{S:α->β}{pre:α->List Prop}{fV:fB X.Γ}(hg:Good X P T L fV)
  (hf:∀n,jJ X P (lC P T L n) fV->∀x,(∀p∈pre x,p)->pO X P (lC P T L (n+1)) f (a.put x) (r.put (S x)) []):Good X P T L (cu f a r S pre fV):=by
 obtain⟨N,hN⟩:=hg;refine⟨N+1,fun n hn=>?_⟩;obtain⟨k,rfl⟩:∃k,n=k+1:=⟨n-1,by omega⟩;intro g vs v ext ps ho hp;unfold cu at ho;split at ho
 .rename_i e;have e:=a9b e;subst e;split at ho
  .rename_i x hx;cases ho;intro A h first args cap IQ hv
   exact hf k (hN k (by omega)) x hp A h first args cap IQ (a.ok hx hv)
  .exact hN (k+1) (by omega) g vs v ext ps ho hp
 .exact hN (k+1) (by omega) g vs v ext ps ho hp
theorem Good.deep{α β:Type}{f:FuncId}{a:UN X P α}{r:Ar X P β}{S:α->β}{pre:α->List Prop}{fV:fB X.Γ}(d:Nat)(hg:Good X P T L fV)
  (hf:∀n,d<=n->(∀m,n-d<=m->jJ X P (lC P T L m) fV)->∀x,(∀p∈pre x,p)->pO X P (lC P T L (n+1)) f (a.put x) (r.put (S x)) []):Good X P T L (cu f a r S pre fV):=by
 obtain⟨N,hN⟩:=hg;refine⟨N+d+1,fun n hn=>?_⟩;obtain⟨k,rfl⟩:∃k,n=k+1:=⟨n-1,by omega⟩;intro g vs v ext ps ho hp;unfold cu at ho;split at ho
 .rename_i e;have e:=a9b e;subst e;split at ho
  .rename_i x hx;cases ho;intro A h first args cap IQ hv
   exact hf k (by omega) (fun m hm=>hN m (by omega)) x hp A h first args cap IQ (a.ok hx hv)
  .exact hN (k+1) (by omega) g vs v ext ps ho hp
 .exact hN (k+1) (by omega) g vs v ext ps ho hp
def Is{β:Type}(r:Ar X P β)(s:β):Option (PV X.Γ)->Prop:=fun v=>v=some (r.put s)∨∃w,v=some w∧r.get w=some s
theorem aiF{β:Type}(hX:bP X P){n f:Nat}{fV:fB X.Γ}(hO:jJ X P (lC P T L n) fV){vs:List (PV X.Γ)}{an:PT X.Γ}{r:Ar X P β}{s:β}{o:OT (Option (PV X.Γ))}
  (hk:(Df X P T fV (bZ X P (lC P T L n)) (BO X P T (lC P T L n) L f 0) L f vs [] an).map frz=o) (ht:Fp (Is r s) an o):pO X P (lC P T L (n+1)) f vs (r.put s) []:=
 by
 obtain⟨v,h1,h2⟩:=ht.aK;rw[<-hk]at h1;obtain⟨⟨v,H⟩,h3,rfl⟩:=OT.I7 h1;rcases h2 with h2|⟨w,h2,h4⟩
 .exact Xg hX (ZL hX (n:=n+1) (by omega) hO h3) h2
 .intro A h first args cap IQ hv
  obtain⟨x,h',m',c1,c2,c3,c4⟩:=Xg hX (ZL hX (n:=n+1) (by omega) hO h3) h2 A h first args cap IQ hv
  exact⟨x,h',m',c1,c2,r.ok h4 c3,c4⟩
theorem Fp.rr{β:Type}{r:Ar X P β}{s:β}:Fp (Is r s) (.n:PT X.Γ) (.ret (some (r.put s))):=.r (.inl rfl)
theorem Fp.rn{β:Type}{r:Ar X P β}{s:β}(w:PV X.Γ)(h:r.get w=some s):Fp (Is r s) (.n:PT X.Γ) (.ret (some w)):=.r (.inr ⟨w,rfl,h⟩)
theorem Fp.ss{β:Type}{r:Ar X P β}{c:Bool}{t e:β}{a b:PT X.Γ}{x y:OT (Option (PV X.Γ))}(h1:Fp (Is r t) a x)(h2:Fp (Is r e) b y):Fp (Is r (if c=true then t else e)) (.s a b) (.br c x y):=
 .s (fun h=>by subst h;exact h1) (fun h=>by subst h;exact h2)
theorem Fp.sh{β:Type}{r:Ar X P β}{c:Bool}{t e:β}{a b:PT X.Γ}{x y:OT (Option (PV X.Γ))}(h1:c=true->Fp (Is r t) a x)(h2:c=false->Fp (Is r e) b y):Fp (Is r (if c=true then t else e)) (.s a b) (.br c x y):=
 .s (fun h=>by rw[a0u h];exact h1 h) (fun h=>by rw[a0q (by rw[h];simp)];exact h2 h)
theorem Fp.zh{β:Type}{r:Ar X P β}{c:Bool}{t e:β}{a b:PT X.Γ}{x y:OT (Option (PV X.Γ))}(h1:c=true->Fp (Is r t) a x)(h2:c=false->Fp (Is r e) b y):Fp (Is r (if c=true then t else e)) (.z c a b) (.br c x y):=
 .z (fun h=>by rw[a0u h];exact h1 h) (fun h=>by rw[a0q (by rw[h];simp)];exact h2 h)
theorem Fp.v{β:Type}{r:Ar X P β}{s:β}(u:β)(h:u=s):Fp (Is r s) (.n:PT X.Γ) (.ret (some (r.put u))):=.r (.inl (by rw[h]))
theorem Fp.k{τ:Type}{R:τ->Prop}{call:aY}{fv v:PV X.Γ}{xs:List (PV X.Γ)}{H H1:List (PB X.Γ)}{an:PT X.Γ}{o:OT τ}(h:bZ X P call fv xs H v H1)(t:Fp R an o):Fp R (.a (.call v H1) an) (.o (bZ X P call fv xs H v H1) o):=.c v H1 h t
theorem Fp.fr{τ:Type}{R:τ->Prop}{call:aY}{fv v:PV X.Γ}{xs:List (PV X.Γ)}{H H1:List (PB X.Γ)}{an:PT X.Γ}{o:OT τ}(ks:List Nat)(h:bZ X P call fv xs H v H1)(t:Fp R an o):Fp R (.a (.fr ks v H1) an) (.o (bZ X P call fv xs H v H1) o):=.kf ks v H1 h t
theorem Fp.QC{τ:Type}{R:τ->Prop}{call:aY}{fv v:PV X.Γ}{xs:List (PV X.Γ)}{H H1 H2:List (PB X.Γ)}{an:PT X.Γ}{o:OT τ}(ks rs:List Nat)(h:bZ X P call fv xs H v H1)(t:Fp R an o):Fp R (.a (.QC ks rs v H2) an) (.o (bZ X P call fv xs H v H1) o):=.kg ks rs v H2 h t
def IsS{β:Type}(r:Ar X P β)(s:β)(H:List (PB X.Γ)):PV X.Γ×List (PB X.Γ)->Prop:=fun v=>v=(r.put s,H)
theorem Fp.sr{β:Type}{r:Ar X P β}{s:β}{H:List (PB X.Γ)}:Fp (IsS r s H) (.n:PT X.Γ) (.ret (r.put s,H)):=.r rfl
theorem Fp.szh{β:Type}{r:Ar X P β}{H:List (PB X.Γ)}{c:Bool}{t e:β}{a b:PT X.Γ}{x y:OT (PV X.Γ×List (PB X.Γ))}(h1:c=true->Fp (IsS r t H) a x)(h2:c=false->Fp (IsS r e H) b y):Fp (IsS r (if c=true then t else e) H) (.z c a b) (.br c x y):=
 .z (fun h=>by rw[a0u h];exact h1 h) (fun h=>by rw[a0q (by rw[h];simp)];exact h2 h)
theorem Fp.ssh{β:Type}{r:Ar X P β}{H:List (PB X.Γ)}{c:Bool}{t e:β}{a b:PT X.Γ}{x y:OT (PV X.Γ×List (PB X.Γ))}(h1:c=true->Fp (IsS r t H) a x)(h2:c=false->Fp (IsS r e H) b y):Fp (IsS r (if c=true then t else e) H) (.s a b) (.br c x y):=
 .s (fun h=>by rw[a0u h];exact h1 h) (fun h=>by rw[a0q (by rw[h];simp)];exact h2 h)
theorem Dn{β:Type}(hX:bP X P){n f:Nat}{fV:fB X.Γ}(hO:jJ X P (lC P T L n) fV){first xs cap:List (PV X.Γ)}{H H1:List (PB X.Γ)}{an:PT X.Γ}{r:Ar X P β}{s:β}{o:OT (PV X.Γ×List (PB X.Γ))}
  (hk:Df X P T fV (bZ X P (lC P T L n)) (BO X P T (lC P T L n) L f H.length) L f (first++xs++cap) H an=o) (ht:Fp (IsS r s H1) an o):bZ X P (lC P T L (n+1)) (.fn f first cap) xs H (r.put s) H1:=by
 obtain⟨y,h1,h2⟩:=ht.aK;cases h2;rw[<-hk]at h1;exact a6x hX (n:=n+1) (by omega) hO h1
theorem MX(hX:bP X P){call:aY}{fV:fB X.Γ}(hO:jJ X P call fV){f:FuncId}{first xs cap vs:List (PV X.Γ)}{v:PV X.Γ}{ps:List Prop}{H:List (PB X.Γ)}(hv:views H (first++xs++cap)=some vs)(ho:fV f vs=some (v,[],ps))(hp:∀p∈ps,p)(hl:xU v=false) :
  bZ X P call (.fn f first cap) xs H (shift H.length v) H:=by
 intro A m h tf qN hr hf hx;cases hf with
 |gone hi _ _=>simp[bD]at hi
 |fn p1 p2 p3 p4=>
  obtain⟨w,h1,m1,e1,e2,e3,e4,e5⟩:=I4 hX (hO f vs v [] ps ho hp) hr hv (ext':=[]) rfl ⟨p1,p2⟩ hx ⟨p3,p4⟩;simp only[hl,List.any_nil,Bool.or_self,a2z,a3l,a5F]at e2;exact⟨w,h1,[],m1,e1,e2,e3,e4,e5,fun b hb=>by cases hb⟩
def a1{α:Type}(a:Ar X P α):UN X P α:=aiE a
def a2{α β:Type}(a:Ar X P α)(b:Ar X P β):UN X P (α×β):=Ls a (aiE b)
def a3{α β γ:Type}(a:Ar X P α)(b:Ar X P β)(c:Ar X P γ):UN X P (α×β×γ):=Ls a (a2 b c)
def a4{α β γ δ:Type}(a:Ar X P α)(b:Ar X P β)(c:Ar X P γ)(d:Ar X P δ):UN X P (α×β×γ×δ):=Ls a (a3 b c d)
def np{α:Type}:α->List Prop:=fun _=>[]
end
end Pv
namespace Tw
def mY{α σ ρ:Type}(step:Nat->α->σ->σ⊕ρ):List α->Nat->σ->σ⊕ρ
 | [],_,s=>.inl s
 |a::l,i,s=>match step i a s with
  |.inl s'=>mY step l (i+1) s'
  |.inr r=>.inr r
def kU{σ ρ:Type}:σ⊕ρ->Bool
 |.inl _=>true
 |.inr _=>false
def aiH{σ ρ:Type}(d:σ):σ⊕ρ->σ
 |.inl s=>s
 |.inr _=>d
def Dq{σ ρ:Type}(d:ρ):σ⊕ρ->ρ
 |.inl _=>d
 |.inr r=>r
def aoC{σ:Type}:σ⊕Empty->σ
 |.inl s=>s
end Tw
namespace Pv
open Go Tw
def uo:Code->List Code
 |.seq a b=>uo a++uo b
 |.cond _ a b=>uo a++uo b
 |.block _ b=>uo b
 |.loop b=>b::uo b
 |.scope b=>uo b
 |.rangeFunc _ _ a b=>uo a++uo b
 |_=>[]
def SC(P:LI1)(f k:Nat):Code:=
 match TY P f with
 |some t=>(uo t.body).getD k .skip
 |none=>.skip
theorem yE{k:Nat}(h:k<=ah):i64.wrap ((k:Int)+1)=((k+1:Nat):Int):=by simp only[IntKind.wrap,IntKind.bits,IntKind.signed];unfold ah at h;have:((k:Int)+1)%(2^64:Int)=(k:Int)+1:=a8F (by omega) (by omega);simp only[this];rw[a0q (by simp;omega)];omega
theorem aG{k n:Nat}(h:k<n):fF k n:=⟨by omega,by omega⟩
theorem bF{k n:Nat}(h:k<n):decide ((k:Int)<(n:Int))=true:=by simp[h]
theorem fH(n:Nat):decide ((n:Int)<(n:Int))=false:=by simp
section
variable {X:kP} {P:LI1} {T:qK} {L:Nat} {f nt B:Nat} {gZ:Bool} {call:aY} {b:Code} {σ α ρ:Type}
theorem Fp.w{τ:Type}{R:τ->Prop}{c:Code}{e:Ex}{s s':aT X.Γ}{an:PT X.Γ}{o:OT τ}(h:dN X P T call L f gZ nt B c s e s')(t:Fp R an o):Fp R (.a (.lg [] e s') an) (.o (dN X P T call L f gZ nt B c s e s') o):=.l [] e s' h t
theorem Fp.wG{τ:Type}{R:τ->Prop}(gs:List G){c:Code}{e:Ex}{s s':aT X.Γ}{an:PT X.Γ}{o:OT τ}(h:dN X P T call L f gZ nt B c s e s')(t:Fp R an o):Fp R (.a (.lg gs e s') an) (.o (dN X P T call L f gZ nt B c s e s') o):=.l gs e s' h t
theorem Fp.go{n:Nat}{e:Ex}{s s':aT X.Γ}(h:dK X P T call L f gZ nt B b n s' e s):Fp (Rnd X P T call L f gZ nt B b n e s) (.n:PT X.Γ) (.ret (.norm,s')):=Fp.r (v:=(Ex.norm,s')) h
theorem Fp.goG{n:Nat}{e:Ex}{s s':aT X.Γ}(gs:List G)(h:dK X P T call L f gZ nt B b n s' e s):Fp (Rnd X P T call L f gZ nt B b n e s) (.a (.lg gs .norm ⟨[],[],[]⟩) .n:PT X.Γ) (.ret (.norm,s')):=Fp.g (v:=(Ex.norm,s')) gs h
theorem Fp.ex{n i:Nat}{s:aT X.Γ}:Fp (Rnd X P T call L f gZ nt B b n (.exit i) s) (.n:PT X.Γ) (.ret (.exit i,s)):=Fp.r (v:=(Ex.exit i,s)) ⟨rfl,rfl⟩
def cont(out:σ⊕ρ->Ex×aT X.Γ)(g:Nat->α->σ->σ⊕ρ)(l:List α)(i:Nat):σ⊕ρ->Ex×aT X.Γ
 |.inl s=>out (mY g l i s)
 |.inr r=>out (.inr r)
def Rn(X:kP)(P:LI1)(T:qK)(call:aY)(L f:Nat)(gZ:Bool)(nt B:Nat)(b:Code)(n:Nat){τ:Type}(K:τ->Ex×aT X.Γ)(x:τ):Ex×aT X.Γ->Prop:=Rnd X P T call L f gZ nt B b n (K x).1 (K x).2
section
variable {τ:Type} {K:τ->Ex×aT X.Γ} {n:Nat}
theorem Fp.ls{c:Bool}{t e:τ}{a d:PT X.Γ}{x y:OT (Ex×aT X.Γ)}(h1:Fp (Rn X P T call L f gZ nt B b n K t) a x)(h2:Fp (Rn X P T call L f gZ nt B b n K e) d y):Fp (Rn X P T call L f gZ nt B b n K (if c=true then t else e)) (.s a d) (.br c x y):=
 .s (fun h=>by subst h;exact h1) (fun h=>by subst h;exact h2)
theorem Fp.nx{x:τ}{s':aT X.Γ}(h:dK X P T call L f gZ nt B b n s' (K x).1 (K x).2):Fp (Rn X P T call L f gZ nt B b n K x) (.n:PT X.Γ) (.ret (.norm,s')):=Fp.r (v:=(Ex.norm,s')) h
theorem Fp.nxG{x:τ}{s':aT X.Γ}(gs:List G)(h:dK X P T call L f gZ nt B b n s' (K x).1 (K x).2):Fp (Rn X P T call L f gZ nt B b n K x) (.a (.lg gs .norm ⟨[],[],[]⟩) .n:PT X.Γ) (.ret (.norm,s')):=Fp.g (v:=(Ex.norm,s')) gs h
theorem Fp.ou{x:τ}(h:(K x).1≠.norm):Fp (Rn X P T call L f gZ nt B b n K x) (.n:PT X.Γ) (.ret (K x)):=by
 refine Fp.r ?_;unfold Rn Rnd;split
 .rename_i e;rw[e]at h;exact absurd rfl h
 rename_i e;rw[e];exact⟨rfl,rfl⟩
theorem Fp.ouG{x:τ}(gs:List G)(h:(K x).1≠.norm):Fp (Rn X P T call L f gZ nt B b n K x) (.a (.lg gs .norm ⟨[],[],[]⟩) .n:PT X.Γ) (.ret (K x)):=by
 refine Fp.g gs ?_;unfold Rn Rnd;split
 .rename_i e;rw[e]at h;exact absurd rfl h
 rename_i e;rw[e];exact⟨rfl,rfl⟩
end
theorem Xh{l:List α}(d:α){st:Int->σ->aT X.Γ}{g:Nat->α->σ->σ⊕ρ}{out:σ⊕ρ->Ex×aT X.Γ}{s0:σ}{w:aT X.Γ}(Inv:Nat->σ->Prop)(h0:gW X (T.eY f (dU b)) w=st 0 s0)(hl:l.length<=ah)(hL:ah<L)(hi:Inv 0 s0)
  (hs:∀(k:Nat) (s:σ) (n:Nat),k<l.length->Inv k s->(∀s1,Inv (k+1) s1->dK X P T call L f gZ nt B b n (st (i64.wrap (k+1)) s1) (cont out g (l.drop (k+1)) (k+1) (.inl s1)).1 (cont out g (l.drop (k+1)) (k+1) (.inl s1)).2) ->
   dK X P T call L f gZ nt B b (n+1) (st k s) (cont out g (l.drop (k+1)) (k+1) (g k (l.getD k d) s)).1 (cont out g (l.drop (k+1)) (k+1) (g k (l.getD k d) s)).2)
  (ho:∀s,Inv l.length s->dK X P T call L f gZ nt B b 1 (st l.length s) (out (.inl s)).1 (out (.inl s)).2) :
  dN X P T call L f gZ nt B (.loop b) w (out (mY g l 0 s0)).1 (out (mY g l 0 s0)).2:=by
 have key:∀(m k:Nat) (s:σ),k+m=l.length->Inv k s->dK X P T call L f gZ nt B b (m+1) (st k s) (out (mY g (l.drop k) k s)).1 (out (mY g (l.drop k) k s)).2:=by
  intro m
  induction m with
  |zero=>
   intro k s hk hr;have:k=l.length:=(by omega);subst this;rw[List.drop_length];exact ho s hr
  |succ m ih=>
   intro k s hk hr;have aQ:k<l.length:=(by omega);have h1:=hs k s (m+1) aQ hr fun s1 h=>by have:=ih (k+1) s1 (by omega) h;rw[yE (by omega)];exact this
   have hd:l.getD k d=l[k]:=(by simp[List.getD,a0n aQ]);rw[a6d aQ];simp only[mY];rw[hd]at h1;cases hg:g k l[k] s with
   |inl s1=>rw[hg]at h1;exact h1
   |inr r=>rw[hg]at h1;exact h1
 exact zK (key l.length 0 s0 (by omega) hi) h0 (by omega)
theorem kZ{c:Code}{w:aT X.Γ}{R:σ⊕ρ}{out:σ⊕ρ->Ex×aT X.Γ}(h:dN X P T call L f gZ nt B c w (out R).1 (out R).2)(d:σ)(hR:kU R=true):dN X P T call L f gZ nt B c w (out (.inl (aiH d R))).1 (out (.inl (aiH d R))).2:=by
 cases R with
 |inl s=>exact h
 |inr r=>cases hR
theorem l7{c:Code}{w:aT X.Γ}{R:σ⊕ρ}{out:σ⊕ρ->Ex×aT X.Γ}(h:dN X P T call L f gZ nt B c w (out R).1 (out R).2)(d:ρ)(hR:kU R=false):dN X P T call L f gZ nt B c w (out (.inr (Dq d R))).1 (out (.inr (Dq d R))).2:=by
 cases R with
 |inl s=>cases hR
 |inr r=>exact h
end
def ZM{Γ:Nat->Type}:PE Γ->Bool
 |.val _=>true
 |_=>false
def uq{Γ:Nat->Type}(env:List (Nat×PE Γ)):List Nat->List (PV Γ)->List (Nat×PE Γ)
 |p::ps,v::vs=>uq ((p,.val v)::env) ps vs
 |_,_=>env
section
variable {X:kP} {P:LI1} {T:qK} {A W:Nat->Prop} {m m':List MB} {h h':List HB} {L f nt B:Nat}
theorem a6z{env:List (Nat×PE X.Γ)}{env':List (Nat×EV)}(he:jY X P A m h env env')(hv:(env.all fun p=>ZM p.2)=true):env'.all isVal=true:=by
 induction he with
 |nil=>rfl
 |cons h1 _ ih=>
  rename_i k v x r r' _;simp only[ac3,a2f]at hv ⊢;refine⟨?_,ih hv.2⟩;cases v with
  |val v=>obtain⟨y,rfl,_⟩:=gu h1;rfl
  |_=>simp[ZM]at hv
theorem SE:∀{ps:List Nat} {vs:List (PV X.Γ)} {xs:List TV} {env:List (Nat×PE X.Γ)} {env':List (Nat×EV)},jY X P A m h env env'->bY X P A m h vs xs->jY X P A m h (uq env ps vs) (sS env' ps xs)
 | [],vs,xs,_,_,he,hv=>by simpa[uq,sS]using he
 |p::ps,[],xs,_,_,he,hv=>by rw[hv.inv0];simpa[uq,sS]using he
 |p::ps,v::vs,xs,_,_,he,hv=>by obtain⟨x,r,rfl,h1,h2⟩:=hv.inv;simp only[uq,sS];exact SE (jY.cons (v:=.val v) (x:=.val x) h1 he) h2
theorem I8(hX:bP X P){n l:Nat}{xs:List (PV X.Γ)}{H:List (PB X.Γ)}{env:List (Nat×PE X.Γ)}{ps:List Nat}{uQ body:Code}{jP:Option Code}{s1 s2:aT X.Γ}{e:Ex}
  {f' nt':Nat} {env':List (Nat×PE X.Γ)} {ps':List Nat} {a' b':Code} {ac1:Option Code} {f'' aeZ:Nat} {acg:List (Nat×PE X.Γ)} {af0:List Nat} {a'' b'':Code}
  (hl:H[l]? = some (.loop true f nt env ps uQ body jP)) (hlen:xs.length=ps.length) (hps:(ps.all fun p=>decide (p<nt))=true)
  (h1:dN X P T (lC P T L n) L f true nt H.length uQ ⟨uq env ps xs,[],H⟩ .norm s1) (hl1:s1.heap[l]? = some (.loop true f' nt' env' ps' a' b' ac1))
  (h2:dN X P T (lC P T L n) L f true nt H.length body { s1 with heap:=s1.heap.set l (.loop false f' nt' env' ps' a' b' none) } e s2)
  (QZ:s2.heap[l]? = some (.loop false f'' aeZ acg af0 a'' b'' none)) :
  bZ X P (lC P T L (n+1)) (.kX l) xs H (.bool (pI e)) (s2.heap.set l (.loop (pI e) f'' aeZ acg af0 a'' b'' (sU e))):=by
 intro A m h tf qN hr hf hx;have aQ:l<H.length:=(a0a.1 hl).1;obtain⟨mb,k1,k2⟩:=hr.at_ l _ hl;cases mb with
 |dJ _=>exact k2.elim
 |jy _=>exact k2.elim
 |gone=>exact k2.elim
 |gJ c=>
 obtain⟨te,k3,k4⟩:=k2;have EL:c∈bC m:=bf k1 rfl;cases hf with
 |gone hi Le _=>simp only[bD,a01]at hi;subst hi;rw[k1]at Le;cases Le
 |kX hy=>
 rw[k1]at hy;cases hy;have hS:SR X P A (fun b=>b∈bC m) h.length m ⟨uq env ps xs,[],H⟩ ⟨sS te ps qN,[],h,[]⟩:=
  ⟨⟨hr,rfl,fun k cs hk=>by simp at hk,SE (env:=env) (env':=te) k4 hx⟩,fun b hb=>.inl hb,fun b hb=>(by cases hb),a0E _⟩
 obtain⟨t1,m1,x1,x2,x3,x4⟩:=h1 A _ _ m _ hS;have at1:∀{M:List MB} {S:aT X.Γ} {TS:St} {W:Nat->Prop} {rd:Bool} {f0 n0:Nat} {ee:List (Nat×PE X.Γ)} {pp:List Nat} {aa bb:Code} {pe:Option Code},SR X P A W h.length M S TS->MV H.length m M->S.heap[l]? = some (.loop rd f0 n0 ee pp aa bb pe)->M[l]? = some (.gJ c)∧∃te,TS.heap[c]? = some (.loop rd f0 n0 te pp aa bb pe)∧jY X P (AA A M) M TS.heap ee te:=by
  intro M S TS W rd f0 n0 ee pp aa bb pe hS hU hh;obtain⟨mb,j1,j2⟩:=hS.st.heap.at_ l _ hh;rcases hU l _ aQ k1 with e|e
  .rw[e]at j1;cases j1;obtain⟨te,j3,j4⟩:=j2;exact⟨e,te,j3,j4⟩
  .rw[e]at j1;cases j1;exact j2.elim
 have aiJ:∀{M:List MB} {S:aT X.Γ} {TS:St} {W:Nat->Prop} {rd:Bool} {f0 n0:Nat} {ee:List (Nat×PE X.Γ)} {pp:List Nat} {aa bb:Code} {pe:Option Code} (rd':Bool) (pe':Option Code),SR X P A W h.length M S TS->MV H.length m M->S.heap[l]? = some (.loop rd f0 n0 ee pp aa bb pe)->∃te,TS.heap[c]? = some (.loop rd f0 n0 te pp aa bb pe)∧HR X P A M (S.heap.set l (.loop rd' f0 n0 ee pp aa bb pe')) (TS.heap.set c (.loop rd' f0 n0 te pp aa bb pe'))∧Fr M TS.heap M (TS.heap.set c (.loop rd' f0 n0 te pp aa bb pe')):=by intro M S TS W rd f0 n0 ee pp aa bb pe rd' pe' hS hU hh;obtain⟨j1,te,j3,j4⟩:=at1 hS hU hh;obtain⟨s1,s2⟩:=hS.st.heap.set (i:=l) (c:=c) (pb:=.loop rd' f0 n0 ee pp aa bb pe') (hb:=.loop rd' f0 n0 te pp aa bb pe') j1 rfl (fun cs hc=>by unfold aX at hc;rw[j3]at hc;cases hc) (fun hF=>⟨te,by rw[a1E (a0a.1 j3).1],j4.step hF .refl⟩);exact⟨te,j3,s1,s2⟩
 obtain⟨te1,y1,y2,y3⟩:=aiJ false none x2 x4 hl1;have hS1:SR X P A (fun b=>b∈bC m) h.length m1 { s1 with heap:=s1.heap.set l (.loop false f' nt' env' ps' a' b' none) } { t1 with heap:=t1.heap.set c (.loop false f' nt' te1 ps' a' b' none),ws:=EH h.length c t1.ws }:=by
  have q:=x2.st.step y2 y3 .refl;refine⟨⟨q.heap,q.llen,q.loc,q.env⟩,x2.own,fun b hb=>?_,a4Z x2.fl y3.len⟩;rcases wo (ks:=[.h c]) hb with k|⟨k,_⟩
  .exact x2.ws b k
  .simp at k;subst k;exact EL
 obtain⟨t2,m2,z1,z2,z3,z4⟩:=h2 A _ _ m1 _ hS1;obtain⟨te2,u1,u2,u3⟩:=aiJ (pI e) (sU e) z2 (x4.trans z4) QZ;have hF:=(x3.trans y3).trans (z3.trans u3);refine⟨.bool (pI e),t2.heap.set c (.loop (pI e) f'' aeZ te2 af0 a'' b'' (sU e)),EH h.length c t2.ws,m2,?_,u2,.bool _,hF,fun i mb hi=>(x4.trans z4) i mb ?_ hi,fun b hb=>?_⟩
 .have hl':qN.length=ps.length:=by rw[<-hx.1,hlen]
  simp only[lC,ap,NC,k3,hl',hps,adg,a1I,x1,y1,z1,u1]
 .rw[<-hr.len];exact(a0a.1 hi).1
 .rcases wo (ks:=[.h c]) hb with k|⟨k,_⟩
  .exact z2.ws b k
  .simp at k;subst k;exact EL
abbrev gB(B:Nat):Nat->Option Nat:=fun i=>if i<B then some i else(wS [] i).map (·+B)
theorem zL{g:Nat->Option Nat}:∀{a:List (PV X.Γ)},(∀(i:Nat) x,a[i]? = some x->fJ g x=some x)->fJ.pz g a=some a
 | [],_=>rfl
 |c::cs,h=>by simp only[fJ.pz,h 0 c rfl,zL (a:=cs) fun i x hi=>h (i+1) x (by simpa using hi)]
theorem I9{α β:Type}{a:List α}{b:List β}(hl:a.length=b.length){i:Nat}{x:α}(hi:a[i]? = some x):∃y,b[i]? = some y:=by
 have:i<b.length:=by rw[<-hl];exact(a0a.1 hi).1
 exact⟨b[i],a0n this⟩
theorem UO{v:PV X.Γ}{x:TV}(hv:VR X P A m h v x){B:Nat}(hB:m.length<=B):fJ (gB B) v=some v:=by
 have key:∀{b:Nat} {mb:MB},m[b]? = some mb->gB B b=some b:=fun e=>by have:=(a0a.1 e).1;simp only[gB];rw[a0u (by omega)]
 induction hv with
 |bool=>rfl
 |lit=>rfl
 |int=>rfl
 |str=>rfl
 |nil=>rfl
 |ptr e=>simp only[fJ,key e,a0A]
 |aP e=>simp only[fJ,key e,a0A]
 |own e _=>simp only[fJ,key e,a0A]
 |win e _ _=>simp only[fJ,key e,a0A]
 |Cb e=>simp only[fJ,key e,a0A]
 |Gq e=>simp only[fJ,key e,a0A]
 |Jh e=>simp only[fJ,key e,a0A]
 |map e=>simp only[fJ,key e,a0A]
 |iter e=>simp only[fJ,key e,a0A]
 |kX e=>simp only[fJ,key e,a0A]
 |row e _ _=>simp only[fJ,key e,a0A]
 |pK=>rfl
 |dJ=>rfl
 |el=>rfl
 |fn h1 _ h3 _ i2 i4=>
  simp only[fJ];rw[zL fun i x hi=>let ⟨y,hy⟩:=I9 h1 hi;i2 i x y hi hy,zL fun i x hi=>let ⟨y,hy⟩:=I9 h3 hi;i4 i x y hi hy]
 |agg h1 _ i2=>simp only[fJ];rw[zL fun i x hi=>let ⟨y,hy⟩:=I9 h1 hi;i2 i x y hi hy];rfl
 |cO h1 _ i2=>simp only[fJ];rw[zL fun i x hi=>let ⟨y,hy⟩:=I9 h1 hi;i2 i x y hi hy];rfl
 | @gone v i x hi e _=>
  have:=key (b:=i) (mb:=(m[i]?).getD .gone) (by cases q:m[i]? with|none=>rw[q]at e;cases e|some y=>rfl);cases v<;>simp only[bD,a01]at hi<;>first|(subst hi;simp only[fJ,this,a0A])|cases hi
theorem a1v{v:List (PV X.Γ)}{x:List TV}(hv:bY X P A m h v x){B:Nat}(hB:m.length<=B):fJ.pz (gB B) v=some v:=
 zL fun i a hi=>let ⟨y,hy⟩:=I9 hv.1 hi;UO (hv.2 i a y hi hy) hB
theorem a6A{v:List (Nat×PE X.Γ)}{x:List (Nat×EV)}(hv:jY X P A m h v x){B:Nat}(hB:m.length<=B):pq (gB B) v=some v:=by
 induction hv with
 |nil=>rfl
 |cons h1 _ ih=>
  rename_i k v x r r' _;simp only[pq,ih];cases v with
  |val v=>obtain⟨y,rfl,h2⟩:=gu h1;simp only[Ov,UO h2 hB,a0A]
  |ent r j v=>
   obtain⟨c,y,rfl,h2,_⟩:=ML h1;have:=UO h2 hB;simp only[fJ,a0i,PV.map.injEq,exists_eq_right]at this;simp only[Ov,this,a0A]
  |EG r j=>
   obtain⟨c,rfl,h2⟩:=MO h1;have:=UO h2 hB;simp only[fJ,a0i,PV.map.injEq,exists_eq_right]at this;simp only[Ov,this,a0A]
  |_=>rfl
theorem aa7{b:PB X.Γ}{mb:MB}(hb:BR X P A m h b mb){B:Nat}(hB:m.length<=B):zG (gB B) b=some b:=by
 cases b with
 |cells cs=>
  cases mb with
  |gJ c=>obtain⟨_,_,h2⟩:=hb;simp only[zG,a1v h2 hB,a0A]
  |_=>exact hb.elim
 |aF cs=>
  cases mb with
  |jy c=>obtain⟨_,_,_,h2⟩:=hb;simp only[zG,a1v h2 hB,a0A]
  |_=>exact hb.elim
 |map es=>rfl
 |dD r n seen=>
  cases mb with
  |gJ c=>
   obtain⟨_,_,h2,_⟩:=hb;obtain⟨mb,h3⟩:=a5h.1 h2;have aQ:r<B:=a9H (a0a.1 h3).1 hB;have:gB B r=some r:=(by simp[gB,aQ]);simp only[zG,this,a0A]
  |_=>exact hb.elim
 |loop=>
  cases mb with
  |gJ c=>obtain⟨_,_,h2⟩:=hb;simp only[zG,a6A h2 hB,a0A]
  |_=>exact hb.elim
 |_=>rfl
theorem Xi{B:Nat}:∀{H:List (PB X.Γ)},(∀(i:Nat) b,H[i]? = some b->zG (gB B) b=some b)->nU (gB B) H=some H
 | [],_=>rfl
 |c::cs,h=>by simp only[nU,h 0 c rfl,Xi (H:=cs) fun i x hi=>h (i+1) x (by simpa using hi)]
theorem bZ.drop(hX:bP X P){call:aY}{fv:PV X.Γ}{xs:List (PV X.Γ)}{H H1:List (PB X.Γ)}{v:PV X.Γ}(hs:bZ X P call fv xs H v H1)(h1:H1.take H.length=H)(hv:fJ (gB H.length) v=some v):bZ X P call fv xs H v H:=by
 intro A m h tf qN hr hf hx;obtain⟨w,h',ws,m1,c1,c2,c3,c4,c5,c6⟩:=hs A m h tf qN hr hf hx;have hg:kT H.length [.gc []] (⟨[(0,.val v)],[],H1⟩:aT X.Γ)=some ⟨[(0,.val v)],[],H⟩:=by
  have hb:nU (gB H.length) H=some H:=Xi fun i b hi=>let ⟨mb,_,h2⟩:=hr.at_ i b hi;aa7 h2 (agY hr.len)
  have hl:H.length<=H1.length:=by have:=congrArg List.length h1;simp at this;omega
  have e:pq (gB H.length) [(0,PE.val v)]=some [(0,.val v)]:=by simp only[pq,Ov,hv,a0A]
  have qL:nU (fun i=>if i<H.length then some i else(wS [] i).map (·+H.length)) H=some H:=hb;have e':pq (fun i=>if i<H.length then some i else(wS [] i).map (·+H.length)) [(0,PE.val v)]=some [(0,.val v)]:=e;simp only[kT,BN,List.all_nil,a5L,decide_true,Bool.and_self,adx,hl,a1I,e',WU,h1,qL,Dc,nU,a5F]
 obtain⟨m2,q1,q2,q3⟩:=lS hX hg A (fun _=>True) 0 m1 ⟨[(0,.val w)],[],h',[]⟩ ⟨⟨c2,rfl,fun k cs hk=>by simp at hk,.cons c3 .nil⟩,fun b _=>.inl trivial,fun b hb=>(by cases hb),a4G _⟩;obtain⟨w',e1,e2⟩:=oM q1.st.env (t:=0) (v:=.val v) rfl;simp only[dM,a1I,a01]at e1;subst e1;refine⟨w,h',ws,m2,c1,q1.st.heap,e2,c4.trans q2,fun i mb hi=>?_,c6⟩;have aQ:i<H.length:=by rw[<-hr.len];exact(a0a.1 hi).1
 rcases c5 i mb hi with g|g
 .exact q3 i mb aQ g
 rcases q3 i _ aQ g with g|g<;>exact .inr g
end
section
variable {X:kP} {P:LI1}
theorem bZ.frame(hX:bP X P){call:aY}{ks:List Nat}{H' Hp H H1 Qo:List (PB X.Γ)}{fv fv' v v':PV X.Γ}{xs xs':List (PV X.Γ)}(hs:bZ X P call fv xs H v H1)
  (jG:ks.Nodup) (hp:Dc H' ks=some Hp) (hH:nU (wS ks) Hp=some H) (hf:fJ (wS ks) fv'=some fv) (hx:fJ.pz (wS ks) xs'=some xs)
  (hv:fJ (bk ks H'.length) v=some v') (hH1:nU (bk ks H'.length) H1=some Qo) (hro:Jf (H1.drop ks.length)=true) :
  bZ X P call fv' xs' H' v' (putAt ks Qo H'++Qo.drop ks.length):=fun A m' h tf qN hr hf' FD=>by
 obtain⟨w,h1,ws,m1,c1,c2,c3,c4,c5,c6⟩:=Jo hX hs.w jG hp hH hf hx hv hH1 hro A m' h tf qN hr hf' FD;exact⟨w,h1,ws,m1,c1,c2,c3,c4,c5,fun b hb=>by obtain⟨_,k,_,_,mb,h8,h9⟩:=c6 b hb;exact bf h8 h9⟩
end
def itF{σ ρ:Type}(g:σ->σ⊕ρ):Nat->σ->Option ρ
 | 0,_=>none
 |k+1,s=>match g s with
  |.inl s1=>itF g k s1
  |.inr r=>some r
section
variable {X:kP} {P:LI1} {T:qK} {L:Nat} {f nt B:Nat} {gZ:Bool} {call:aY} {b:Code} {σ ρ:Type}
def Du(out:ρ->Ex×aT X.Γ)(r:ρ):σ⊕ρ->Ex×aT X.Γ
 |.inl _=>out r
 |.inr r'=>out r'
theorem a6B{st:σ->aT X.Γ}{g:σ->σ⊕ρ}{out:ρ->Ex×aT X.Γ}(Inv:σ->Prop)(hi:∀s s1,Inv s->g s=.inl s1->Inv s1)
  (hs:∀s n r,Inv s->(∀s1,g s=.inl s1->dK X P T call L f gZ nt B b n (st s1) (out r).1 (out r).2)->dK X P T call L f gZ nt B b (n+1) (st s) (Du out r (g s)).1 (Du out r (g s)).2) :
  ∀{k:Nat} {s:σ} {r:ρ},Inv s->itF g k s=some r->dK X P T call L f gZ nt B b k (st s) (out r).1 (out r).2
 | 0,s,r,_,h=>by cases h
 |k+1,s,r,hv,h=>by
  simp only[itF]at h;have h1:=hs s k r hv fun s1 h1=>by rw[h1]at h;exact a6B Inv hi hs (hi s s1 hv h1) h
  cases hg:g s with
  |inl s1=>rw[hg]at h1;exact h1
  |inr r'=>rw[hg]at h1 h;simp only[a01]at h;subst h;exact h1
theorem af2{st:σ->aT X.Γ}{g:σ->σ⊕ρ}{out:ρ->Ex×aT X.Γ}(Inv:σ->Prop){k:Nat}{s:σ}{r:ρ}{w:aT X.Γ}(hr:itF g k s=some r)(h0:gW X (T.eY f (dU b)) w=st s)(hk:k<=L)(hv:Inv s)(hi:∀s s1,Inv s->g s=.inl s1->Inv s1)
  (hs:∀s n r,Inv s->(∀s1,g s=.inl s1->dK X P T call L f gZ nt B b n (st s1) (out r).1 (out r).2)->dK X P T call L f gZ nt B b (n+1) (st s) (Du out r (g s)).1 (Du out r (g s)).2) :
  dN X P T call L f gZ nt B (.loop b) w (out r).1 (out r).2:=zK (a6B Inv hi hs hv hr) h0 hk
end
section
variable {X:kP} {P:LI1} {T:qK} {L:Nat}
def ZN{α:Type}(f:FuncId)(a:UN X P α)(v:α->PV X.Γ)(ext:α->List (PB X.Γ))(pre:α->List Prop)(fV:fB X.Γ):fB X.Γ:=fun g vs=>
 match Nat.beq g f with
 |true=>match a.get vs with
  |some x=>some (v x,ext x,pre x)
  |none=>fV g vs
 |false=>fV g vs
theorem Good.Xj{α:Type}{f:FuncId}{a:UN X P α}{v:α->PV X.Γ}{ext:α->List (PB X.Γ)}{pre:α->List Prop}{fV:fB X.Γ}(d:Nat)(hg:Good X P T L fV)
  (hf:∀n,d<=n->(∀m,n-d<=m->jJ X P (lC P T L m) fV)->∀x,(∀p∈pre x,p)->pO X P (lC P T L (n+1)) f (a.put x) (v x) (ext x)):Good X P T L (ZN f a v ext pre fV):=by
 obtain⟨N,hN⟩:=hg;refine⟨N+d+1,fun n hn=>?_⟩;obtain⟨k,rfl⟩:∃k,n=k+1:=⟨n-1,by omega⟩;intro g vs v ext ps ho hp;unfold ZN at ho;split at ho
 .rename_i e;have e:=a9b e;subst e;split at ho
  .rename_i x hx;cases ho;intro A h first args cap IQ hv
   exact hf k (by omega) (fun m hm=>hN m (by omega)) x hp A h first args cap IQ (a.ok hx hv)
  .exact hN (k+1) (by omega) g vs v ext ps ho hp
 .exact hN (k+1) (by omega) g vs v ext ps ho hp
def IsE(v:PV X.Γ)(H:List (PB X.Γ)):PV X.Γ×List (PB X.Γ)->Prop:=fun y=>y=(v,H)
theorem Fp.er{v:PV X.Γ}{H:List (PB X.Γ)}:Fp (IsE v H) (.n:PT X.Γ) (.ret (v,H)):=.r rfl
theorem BP(hX:bP X P){n f:Nat}{fV:fB X.Γ}(hO:jJ X P (lC P T L n) fV){vs:List (PV X.Γ)}{an:PT X.Γ}{v:PV X.Γ}{H:List (PB X.Γ)}{o:OT (PV X.Γ×List (PB X.Γ))}
  (hk:Df X P T fV (bZ X P (lC P T L n)) (BO X P T (lC P T L n) L f 0) L f vs [] an=o) (ht:Fp (IsE v H) an o):pO X P (lC P T L (n+1)) f vs v H:=by
 obtain⟨y,h1,h2⟩:=ht.aK;cases h2;rw[<-hk]at h1;exact ZL hX (n:=n+1) (by omega) hO h1
end
section
variable {X:kP} {P:LI1} {T:qK} {L:Nat}
theorem jV(hX:bP X P){n f:Nat}{fV:fB X.Γ}(hO:jJ X P (lC P T L n) fV){first xs cap:List (PV X.Γ)}{H H1:List (PB X.Γ)}{v:PV X.Γ}{an:PT X.Γ}{o:OT (PV X.Γ×List (PB X.Γ))}
  (hk:Df X P T fV (bZ X P (lC P T L n)) (BO X P T (lC P T L n) L f H.length) L f (first++xs++cap) H an=o) (ht:Fp (IsE v H1) an o):bZ X P (lC P T L (n+1)) (.fn f first cap) xs H v H1:=by
 obtain⟨y,h1,h2⟩:=ht.aK;cases h2;rw[<-hk]at h1;exact a6x hX (n:=n+1) (by omega) hO h1
end
theorem Good.Xk{X:kP}{P:LI1}{T:qK}{L:Nat}{α β:Type}{f:FuncId}{a:UN X P α}{r:Ar X P β}{S:α->β}{pre:α->List Prop}{fV Xl:fB X.Γ}(d:Nat)(hg:Good X P T L fV)(hg2:Good X P T L Xl)
  (hf:∀n,d<=n->(∀m,n-d<=m->jJ X P (lC P T L m) fV)->(∀m,n-d<=m->jJ X P (lC P T L m) Xl)->∀x,(∀p∈pre x,p)->pO X P (lC P T L (n+1)) f (a.put x) (r.put (S x)) []):Good X P T L (cu f a r S pre fV):=by
 obtain⟨N2,hN2⟩:=hg2;obtain⟨M,hM⟩:=hg;refine⟨M+N2+d+1,fun n hn=>?_⟩;obtain⟨k,rfl⟩:∃k,n=k+1:=⟨n-1,by omega⟩;intro g vs v ext ps ho hp;unfold cu at ho;split at ho
 .rename_i e;have e:=a9b e;subst e;split at ho
  .rename_i x hx;cases ho;intro A h first args cap IQ hv
   exact hf k (by omega) (fun m hm=>hM m (by omega)) (fun m hm=>hN2 m (by omega)) x hp A h first args cap IQ (a.ok hx hv)
  .exact hM (k+1) (by omega) g vs v ext ps ho hp
 .exact hM (k+1) (by omega) g vs v ext ps ho hp
section
variable {X:kP} {P:LI1}
theorem bZ.gs(hX:bP X P){call:aY}{fv:PV X.Γ}{xs:List (PV X.Γ)}{H H1 H2:List (PB X.Γ)}{v v':PV X.Γ}(hs:bZ X P call fv xs H v H1)(gs:List G)(hg:kT H.length gs (⟨[(0,.val v)],[],H1⟩:aT X.Γ)=some ⟨[(0,.val v')],[],H2⟩):bZ X P call fv xs H v' H2:=by
 intro A m h tf qN hr hf hx;obtain⟨w,h',ws,m1,c1,c2,c3,c4,c5,c6⟩:=hs A m h tf qN hr hf hx;obtain⟨m2,q1,q2,q3⟩:=lS hX hg A (fun _=>True) 0 m1 ⟨[(0,.val w)],[],h',[]⟩ ⟨⟨c2,rfl,fun k cs hk=>by simp at hk,.cons c3 .nil⟩,fun b _=>.inl trivial,fun b hb=>(by cases hb),a4G _⟩;obtain⟨w',e1,e2⟩:=oM q1.st.env (t:=0) (v:=.val v') rfl;simp only[dM,a1I,a01]at e1;subst e1;refine⟨w,h',ws,m2,c1,q1.st.heap,e2,c4.trans q2,fun i mb hi=>?_,c6⟩;have aQ:i<H.length:=by rw[<-hr.len];exact(a0a.1 hi).1
 rcases c5 i mb hi with g|g
 .exact q3 i mb aQ g
 rcases q3 i _ aQ g with g|g<;>exact .inr g
theorem bZ.cut(hX:bP X P){call:aY}{fv:PV X.Γ}{xs:List (PV X.Γ)}{H H1 H2:List (PB X.Γ)}{v:PV X.Γ}(hs:bZ X P call fv xs H v H1)(h1:H1.take H.length=H2)(hb:nU (gB H.length) H2=some H2)(hl:decide (H.length<=H1.length)=true)(hv:fJ (gB H.length) v=some v):bZ X P call fv xs H v H2:=by
 intro A m h tf qN hr hf hx;obtain⟨w,h',ws,m1,c1,c2,c3,c4,c5,c6⟩:=hs A m h tf qN hr hf hx;have hl:=a81 hl;have hg:kT H.length [.gc []] (⟨[(0,.val v)],[],H1⟩:aT X.Γ)=some ⟨[(0,.val v)],[],H2⟩:=by
  have e:pq (gB H.length) [(0,PE.val v)]=some [(0,.val v)]:=by simp only[pq,Ov,hv,a0A]
  have qL:nU (fun i=>if i<H.length then some i else(wS [] i).map (·+H.length)) H2=some H2:=hb;have e':pq (fun i=>if i<H.length then some i else(wS [] i).map (·+H.length)) [(0,PE.val v)]=some [(0,.val v)]:=e;simp only[kT,BN,List.all_nil,a5L,decide_true,Bool.and_self,adx,hl,a1I,e',WU,h1,qL,Dc,nU,a5F]
 obtain⟨m2,q1,q2,q3⟩:=lS hX hg A (fun _=>True) 0 m1 ⟨[(0,.val w)],[],h',[]⟩ ⟨⟨c2,rfl,fun k cs hk=>by simp at hk,.cons c3 .nil⟩,fun b _=>.inl trivial,fun b hb=>(by cases hb),a4G _⟩;obtain⟨w',e1,e2⟩:=oM q1.st.env (t:=0) (v:=.val v) rfl;simp only[dM,a1I,a01]at e1;subst e1;refine⟨w,h',ws,m2,c1,q1.st.heap,e2,c4.trans q2,fun i mb hi=>?_,c6⟩;have aQ:i<H.length:=by rw[<-hr.len];exact(a0a.1 hi).1
 rcases c5 i mb hi with g|g
 .exact q3 i mb aQ g
 rcases q3 i _ aQ g with g|g<;>exact .inr g
end
section
variable {X:kP} {P:LI1} {T:qK} {L f nt B:Nat} {gZ:Bool} {call:aY} {fV:fB X.Γ}
theorem yF(hX:bP X P)(hO:jJ X P call fV){c:Code}{ps ps1:aT X.Γ}{an:PT X.Γ}{e:Ex}{o:OT (Ex×aT X.Γ)}
  (hk:jS X P T fV (bZ X P call) (dN X P T call L f gZ nt B) B L f gZ nt c ps an aeU=o) (ht:Fp (fun y=>y=(e,ps1)) an o):dN X P T call L f gZ nt B c ps e ps1:=by
 obtain⟨y,h1,rfl⟩:=ht.aK;rw[<-hk]at h1;exact Xf hX hO h1
theorem Fp.xx{y:Ex×aT X.Γ}:Fp (fun z=>z=y) (.n:PT X.Γ) (.ret y):=.r rfl
end
theorem bZ.forget{X:kP}{P:LI1}{call:aY}{fv:PV X.Γ}{xs:List (PV X.Γ)}{H H1:List (PB X.Γ)}{v:PV X.Γ}(hs:bZ X P call fv xs H v H1)(i:Nat):bZ X P call fv xs H v (H1.set i .gone):=by intro A m h tf qN hr hf hx;obtain⟨w,h',ws,m1,c1,c2,c3,c4,c5,c6⟩:=hs A m h tf qN hr hf hx;have hg:=c2.bn [i];have Xm:=iJ (h:=h') [i] m1;exact⟨w,h',ws,_,c1,hg,c3.step Xm.1 Xm.2,c4.trans Xm.1,c5.trans Xm.2,c6⟩
theorem rM{X:kP}{P:LI1}(hX:bP X P){call:aY}{fV:fB X.Γ}(hO:jJ X P call fV){f:FuncId}{first xs cap vs:List (PV X.Γ)}{v:PV X.Γ}{ps:List Prop}{H:List (PB X.Γ)}(hv:views H (first++xs++cap)=some vs)(ho:fV f vs=some (v,[],ps))(hp:∀p∈ps,p)(hl:xU v=true) :
  bZ X P call (.fn f first cap) xs H (shift H.length v) (bn (kG.ku (first++xs++cap)) H):=by
 intro A m h tf qN hr hf hx;cases hf with
 |gone hi _ _=>simp[bD]at hi
 |fn p1 p2 p3 p4=>
  obtain⟨w,h1,m1,e1,e2,e3,e4,e5⟩:=I4 hX (hO f vs v [] ps ho hp) hr hv (ext':=[]) rfl ⟨p1,p2⟩ hx ⟨p3,p4⟩;simp only[hl,List.any_nil,Bool.true_or,a1I,a5F]at e2;exact⟨w,h1,[],m1,e1,e2,e3,e4,e5,fun b hb=>by cases hb⟩
section
variable {X:kP} {P:LI1} {A:Nat->Prop} {m:List MB} {h:List HB}
theorem VR.a1w{k:IntKind}{n:Int}{y:TV}(hy:VR X P A m h (.int k n) y):y=.int k n:=by
 cases hy with
 |int=>rfl
 |gone hi _ _=>simp[bD]at hi
theorem VR.UQ{f:FuncId}{y:TV}(hy:VR X P A m h (.fn f [] []) y):y=.fn f [] []:=by
 cases hy with
 |gone hi _ _=>simp[bD]at hi
 |fn p1 _ p3 _=>rw[a4a p1.symm,a4a p3.symm]
theorem af4{k ex:Bool}{t:Nat}{l:List (X.Γ t)}{x:TV}(hl:LR X P A m h k ex t l x):(l=[]∧x=.nil .aP)∨(l=[]∧∃b off sz cs,x=.aP b off 0 0 sz true∧A b∧aX h b=some cs∧off<=cs.length∧dH P t=some sz∧0<sz) ∨
  (l≠[]∧∃b sz e kk cs,x=.aP b 0 l.length l.length sz e∧dH P t=some sz∧0<sz∧h[b]? = some (.cells kk cs)∧kk≠.ro∧(k=true->kk=.own)∧(ex=true->e=true)∧cs.length=l.length*sz∧eF X P A m h t l cs 0 sz):=by
 cases hl with
 |nil=>exact .inl ⟨rfl,rfl⟩
 |emp p0 p1 p2 p3 p4=>exact .inr (.inl ⟨rfl,_,_,_,_,rfl,p0,p1,p2,p3,p4⟩)
 |some p1 p2 p3 p4 p5 p6 p7 p8 p9=>exact .inr (.inr ⟨p1,_,_,_,_,_,rfl,p2,p3,p4,p5,p6,p7,p8,p9⟩)
theorem aa9{H:List (PB X.Γ)}{i:Nat}{x:TV}{k ex:Bool}{t:Nat}{l:List (X.Γ t)}(hr:HR X P A m H h)(hi:H[i]? = some (.list k ex t l))(hv:VR X P (AA A m) m h (.own i) x):m[i]? = some (.dJ x)∧LR X P (AA A m) m h k ex t l x:=by
 obtain⟨mb,g1,g2⟩:=hr.at_ i _ hi;cases hv with
 |own e _=>
  rw[g1]at e;cases e;exact⟨g1,g2⟩
 |gone Le e _=>
  simp only[bD,a01]at Le;subst Le;rw[g1]at e;cases e<;>exact g2.elim
end
section
variable {X:kP} {P:LI1}
theorem pO.gs(hX:bP X P){call:aY}{f:FuncId}{vs:List (PV X.Γ)}{v v':PV X.Γ}{ext ext':List (PB X.Γ)}(hc:pO X P call f vs v ext)(gs:List G)(hg:kT 0 gs (⟨[(0,.val v)],[],ext⟩:aT X.Γ)=some ⟨[(0,.val v')],[],ext'⟩):pO X P call f vs v' ext':=by
 intro A h first args cap IQ hv
 obtain⟨w,h',m',c1,c2,c3,c4⟩:=hc A h first args cap IQ hv
 obtain⟨m2,q1,q2,q3⟩:=lS hX hg A (fun _=>True) 0 m' ⟨[(0,.val w)],[],h',[]⟩ ⟨⟨c2,rfl,fun k cs hk=>by simp at hk,.cons c3 .nil⟩,fun b _=>.inl trivial,fun b hb=>(by cases hb),a4G _⟩;obtain⟨w',e1,e2⟩:=oM q1.st.env (t:=0) (v:=.val v') rfl;simp only[dM,a1I,a01]at e1;subst e1;exact⟨w,h',m2,c1,q1.st.heap,e2,c4.trans q2⟩
theorem a6C{A:Nat->Prop}{m:List MB}{h:List HB}{t:Nat}{fu:Bool}{x:TV}(hv:VR X P A m h (.dJ t [] fu) x):x=.nil .aP∨∃b off cap sz ex cs,x=.aP b off 0 cap sz ex∧A b∧aX h b=some cs∧dH P t=some sz∧0<sz∧off<=cs.length:=by
 generalize hl:([]:List (X.Γ t))=l at hv;cases hv with
 |pK=>exact .inl rfl
 |dJ a c c2 s z o k f e r=>
  subst hl;exact .inr ⟨_,_,_,_,_,_,rfl,a,c,s,z,by simpa using o⟩
 |gone hi _ _=>simp[bD]at hi
theorem Xn{A:Nat->Prop}{h:List HB}{t:Nat}{x:TV}(IQ:∀b,h.length<=b->A b)(hx:LR X P (AA A [.dJ x]) [.dJ x] h false false t [] x)(ho:(MB.dJ x).own=none):HR X P A [.dJ x] [.list false false t []] h:=by
 have hb:bC [MB.dJ x]=[]:=by simp[bC,ho]
 refine⟨rfl,fun i b hi=>?_,by rw[hb];exact a5L,IQ,fun b qL=>by rw[hb]at qL;cases qL⟩;cases i with
 |zero=>simp only[a2C,a01]at hi;subst hi;exact⟨.dJ x,rfl,hx⟩
 |succ i=>simp at hi
end
def nJ{σ ρ:Type}(g:Nat->σ->σ⊕ρ):Nat->Nat->σ->σ⊕ρ
 | 0,_,s=>.inl s
 |m+1,k,s=>match g k s with
  |.inl s'=>nJ g m (k+1) s'
  |.inr r=>.inr r
def aU{σ:Type}(g:Nat->σ->σ):Nat->Nat->σ->σ
 | 0,_,s=>s
 |m+1,k,s=>aU g m (k+1) (g k s)
theorem SG{σ ρ:Type}{g:Nat->σ->σ}:∀(m k:Nat) (s:σ),nJ (ρ:=ρ) (fun k s=>.inl (g k s)) m k s=.inl (aU g m k s)
 | 0,_,_=>rfl
 |m+1,k,s=>SG m (k+1) (g k s)
theorem qE{σ:Type}{g:Nat->σ->σ}:∀(m k:Nat) (s:σ),aU g (m+1) k s=g (k+m) (aU g m k s)
 | 0,_,_=>rfl
 |m+1,k,s=>by rw[aU,qE m (k+1),show k+1+m=k+(m+1) by omega];rfl
theorem bU{σ:Type}{g:Nat->σ->σ}(Q:Nat->σ->Prop){m k:Nat}{s:σ}(h0:Q k s)(hs:∀j s,k<=j->j<k+m->Q j s->Q (j+1) (g j s)):Q (k+m) (aU g m k s):=by
 induction m with
 |zero=>exact h0
 |succ m ih=>rw[qE];exact hs (k+m) _ (by omega) (by omega) (ih fun j s h1 h2 h3=>hs j s h1 (by omega) h3)
theorem OU{c:Nat->Bool}{ρ:Type}{r:Nat->ρ}:∀(m k:Nat),kU (nJ (σ:=Unit) (fun k _=>if c k=true then .inr (r k)else .inl ()) m k ())=true↔∀j,k<=j->j<k+m->c j=false
 | 0,k=>by simp[nJ,kU];omega
 |m+1,k=>by
  simp only[nJ];by_cases hc:c k=true
  .simp only[hc,a1I,kU,a2z,false_iff];intro h;have:=h k (a0E _) (by omega);rw[hc]at this;cases this
  simp only[hc,a2z,a3l];rw[OU m (k+1)];constructor
  .intro h j h1 h2;rcases a4u k j with h3|h3
   .exact h j h3 (by omega)
   rw[show j=k by omega];simpa using hc
  intro h j h1 h2;exact h j (by omega) (by omega)
theorem a6D{c:Nat->Bool}{ρ:Type}{r:Nat->ρ}{m k:Nat}(h:kU (nJ (σ:=Unit) (fun k _=>if c k=true then .inr (r k)else .inl ()) m k ())=false):∃j,k<=j∧j<k+m∧c j=true∧(∀i,k<=i->i<j->c i=false)∧nJ (σ:=Unit) (fun k _=>if c k=true then .inr (r k)else .inl ()) m k ()=.inr (r j):=by
 induction m generalizing k with
 |zero=>simp[nJ,kU]at h
 |succ m ih=>
  simp only[nJ]at h ⊢;by_cases hc:c k=true
  .simp only[hc,a1I];exact⟨k,a0E _,by omega,hc,fun i h1 h2=>by omega,rfl⟩
  simp only[hc,a2z,a3l]at h ⊢;obtain⟨j,h1,h2,h3,h4,h5⟩:=ih h;exact⟨j,by omega,by omega,h3,fun i hi1 Le=>by
   rcases a4u k i with h6|h6
   .exact h4 i h6 Le
   rw[show i=k by omega];simpa using hc,h5⟩
abbrev gS(c:Nat->Bool)(k:Nat)(_:Unit):Unit⊕Nat:=if c k=true then .inr k else .inl ()
abbrev bK(c:Nat->Bool)(N:Nat):Unit⊕Nat:=nJ (gS c) N 0 ()
theorem eG{c:Nat->Bool}{N:Nat}:kU (bK c N)=true↔∀j,j<N->c j=false:=by unfold bK gS;rw[OU (r:=fun k=>k)];exact⟨fun h j hj=>h j (by omega) (by omega),fun h j _ hj=>h j (by omega)⟩
theorem UR{c:Nat->Bool}{N:Nat}(h:kU (bK c N)=false):∃j,j<N∧c j=true∧(∀i,i<j->c i=false)∧bK c N=.inr j:=by obtain⟨j,_,h2,h3,h4,h5⟩:=a6D (r:=fun k=>k) h;exact⟨j,by omega,h3,fun i hi=>h4 i (by omega) hi,h5⟩
abbrev SH(c:Nat->Bool)(a N:Nat):Unit⊕Nat:=nJ (gS c) (N-a) a ()
def OV{σ:Type}(g:Nat->σ->σ):Nat->σ->σ
 | 0,s=>s
 |k+1,s=>OV g k (g k s)
theorem SI{σ:Type}{g:Nat->σ->σ}(Q:Nat->σ->Prop):∀{k:Nat} {s:σ},Q k s->(∀j s,j<k->Q (j+1) s->Q j (g j s))->Q 0 (OV g k s)
 | 0,_,h,_=>h
 |k+1,s,h,hs=>SI Q (k:=k) (hs k s (by omega) h) fun j s h1 h2=>hs j s (by omega) h2
theorem Ia{α:Type}{l:List α}{d:α}{p:α->Prop}:(∀j,j<l.length->p (l.getD j d))↔∀a∈l,p a:=by
 constructor
 .intro h a ha;obtain⟨j,hj,rfl⟩:=a4N.1 ha;simpa[List.getD,a0n hj]using h j hj
 intro h j hj;have:l.getD j d=l[j]:=by simp[List.getD,a0n hj]
 rw[this];exact h _ (a4D hj)
theorem rO{α:Type}{a b:List α}{d:α}(hl:a.length=b.length):a=b↔∀j,j<a.length->a.getD j d=b.getD j d:=by
 constructor
 .rintro rfl j _;rfl
 intro h;apply a9J hl;intro j h1 h2;simpa[List.getD,a0n h1,a0n h2]using h j h1
section
variable {X:kP} {P:LI1} {T:qK} {L:Nat} {f nt B:Nat} {gZ:Bool} {call:aY} {b:Code} {σ ρ:Type}
def vJ(out:σ⊕ρ->Ex×aT X.Γ)(g:Nat->σ->σ⊕ρ)(m k:Nat):σ⊕ρ->Ex×aT X.Γ
 |.inl s=>out (nJ g m k s)
 |.inr r=>out (.inr r)
theorem OW{N:Nat}{st:Int->σ->aT X.Γ}{g:Nat->σ->σ⊕ρ}{out:σ⊕ρ->Ex×aT X.Γ}{s0:σ}{w:aT X.Γ}(Inv:Nat->σ->Prop)(h0:gW X (T.eY f (dU b)) w=st 0 s0)(hl:N<=ah)(hL:ah<L)(hi:Inv 0 s0)
  (hs:∀(k:Nat) (s:σ) (n:Nat),k<N->Inv k s->(∀s1,Inv (k+1) s1->dK X P T call L f gZ nt B b n (st (i64.wrap (k+1)) s1) (vJ out g (N-(k+1)) (k+1) (.inl s1)).1 (vJ out g (N-(k+1)) (k+1) (.inl s1)).2) ->
   dK X P T call L f gZ nt B b (n+1) (st k s) (vJ out g (N-(k+1)) (k+1) (g k s)).1 (vJ out g (N-(k+1)) (k+1) (g k s)).2)
  (ho:∀s,Inv N s->dK X P T call L f gZ nt B b 1 (st N s) (out (.inl s)).1 (out (.inl s)).2) :
  dN X P T call L f gZ nt B (.loop b) w (out (nJ g N 0 s0)).1 (out (nJ g N 0 s0)).2:=by
 have key:∀(m k:Nat) (s:σ),k+m=N->Inv k s->dK X P T call L f gZ nt B b (m+1) (st k s) (out (nJ g m k s)).1 (out (nJ g m k s)).2:=by
  intro m
  induction m with
  |zero=>
   intro k s hk hr;have:k=N:=(by omega);subst this;exact ho s hr
  |succ m ih=>
   intro k s hk hr;have aQ:k<N:=(by omega);have h1:=hs k s (m+1) aQ hr fun s1 h=>by have:=ih (k+1) s1 (by omega) h;rw[yE (by omega),show N-(k+1)=m by omega];exact this
   rw[show N-(k+1)=m by omega]at h1;simp only[nJ];cases hg:g k s with
   |inl s1=>rw[hg]at h1;exact h1
   |inr r=>rw[hg]at h1;exact h1
 exact zK (key N 0 s0 (by omega) hi) h0 (by omega)
theorem af5{a N:Nat}{st:Int->σ->aT X.Γ}{g:Nat->σ->σ⊕ρ}{out:σ⊕ρ->Ex×aT X.Γ}{s0:σ}{w:aT X.Γ}(Inv:Nat->σ->Prop)(h0:gW X (T.eY f (dU b)) w=st a s0)(ha:a<=N)(hl:N<=ah)(hL:ah<L)(hi:Inv a s0)
  (hs:∀(k:Nat) (s:σ) (n:Nat),a<=k->k<N->Inv k s->(∀s1,Inv (k+1) s1->dK X P T call L f gZ nt B b n (st (i64.wrap (k+1)) s1) (vJ out g (N-(k+1)) (k+1) (.inl s1)).1 (vJ out g (N-(k+1)) (k+1) (.inl s1)).2) ->
   dK X P T call L f gZ nt B b (n+1) (st k s) (vJ out g (N-(k+1)) (k+1) (g k s)).1 (vJ out g (N-(k+1)) (k+1) (g k s)).2)
  (ho:∀s,Inv N s->dK X P T call L f gZ nt B b 1 (st N s) (out (.inl s)).1 (out (.inl s)).2) :
  dN X P T call L f gZ nt B (.loop b) w (out (nJ g (N-a) a s0)).1 (out (nJ g (N-a) a s0)).2:=by
 have key:∀(m k:Nat) (s:σ),a<=k->k+m=N->Inv k s->dK X P T call L f gZ nt B b (m+1) (st k s) (out (nJ g m k s)).1 (out (nJ g m k s)).2:=by
  intro m
  induction m with
  |zero=>
   intro k s _ hk hr;have:k=N:=(by omega);subst this;exact ho s hr
  |succ m ih=>
   intro k s ak hk hr;have aQ:k<N:=(by omega);have h1:=hs k s (m+1) ak aQ hr fun s1 h=>by have:=ih (k+1) s1 (by omega) (by omega) h;rw[yE (by omega),show N-(k+1)=m by omega];exact this
   rw[show N-(k+1)=m by omega]at h1;simp only[nJ];cases hg:g k s with
   |inl s1=>rw[hg]at h1;exact h1
   |inr r=>rw[hg]at h1;exact h1
 exact zK (key (N-a) a s0 (a0E _) (by omega) hi) h0 (by omega)
theorem KO{N:Nat}{st:Int->σ->aT X.Γ}{g:Nat->σ->σ}{e:Ex}{fin:σ->aT X.Γ}{s0:σ}{w:aT X.Γ}(Inv:Nat->σ->Prop)(h0:gW X (T.eY f (dU b)) w=st 0 s0)(hl:N<=ah)(hL:ah<L)(hi:Inv 0 s0)(hv:∀k s,k<N->Inv k s->Inv (k+1) (g k s))
  (hs:∀(k:Nat) (s:σ),k<N->Inv k s->∀n e1 p,dK X P T call L f gZ nt B b n (st (i64.wrap (k+1)) (g k s)) e1 p->dK X P T call L f gZ nt B b (n+1) (st k s) e1 p)
  (ho:∀s,Inv N s->dK X P T call L f gZ nt B b 1 (st N s) e (fin s)):dN X P T call L f gZ nt B (.loop b) w e (fin (aU g N 0 s0)):=by
 have:=OW (X:=X) (P:=P) (T:=T) (call:=call) (f:=f) (gZ:=gZ) (nt:=nt) (B:=B) (b:=b) (ρ:=Empty) (N:=N) (st:=st) (g:=fun k s=>.inl (g k s)) (out:=fun x=>(e,fin (aoC x))) (s0:=s0) (w:=w) Inv h0 hl hL hi
  (fun k s n hk hr h=>hs k s hk hr n _ _ (h _ (hv k s hk hr))) ho
 rw[SG]at this;exact this
theorem aiL{N:Nat}{st:Int->σ->aT X.Γ}{g:Nat->σ->σ}{e:Ex}{fin:σ->aT X.Γ}{s0:σ}{w:aT X.Γ}(Inv:Nat->σ->Prop)(h0:gW X (T.eY f (dU b)) w=st (i64.wrap ((N:Int)-1)) s0)(hl:N<=ah)(hL:ah<L)(hi:Inv N s0)(hv:∀k s,k<N->Inv (k+1) s->Inv k (g k s))
  (hs:∀(k:Nat) (s:σ),k<N->Inv (k+1) s->∀n e1 p,dK X P T call L f gZ nt B b n (st (i64.wrap (k-1)) (g k s)) e1 p->dK X P T call L f gZ nt B b (n+1) (st k s) e1 p)
  (ho:∀s,Inv 0 s->dK X P T call L f gZ nt B b 1 (st (-1) s) e (fin s)):dN X P T call L f gZ nt B (.loop b) w e (fin (OV g N s0)):=by
 have wr:∀k:Nat,k<=ah->i64.wrap ((k:Int)-1)=(k:Int)-1:=by
  intro k hk;cases k with
  |zero=>rfl
  |succ k=>
   have:=yE (k:=k) (by omega);rw[show((k+1:Nat):Int)-1=(k:Int) by omega];unfold ah at hk;simp only[IntKind.wrap,IntKind.bits,IntKind.signed];have:(k:Int)%(2^64:Int)=(k:Int):=a8F (by omega) (by omega);simp only[this];rw[a0q (by simp;omega)]
 have key:∀(k:Nat) (s:σ),k<=N->Inv k s->dK X P T call L f gZ nt B b (k+1) (st ((k:Int)-1) s) e (fin (OV g k s)):=by
  intro k
  induction k with
  |zero=>intro s _ hr;exact ho s hr
  |succ k ih=>
   intro s hk hr;have h1:=ih (g k s) (by omega) (hv k s (by omega) hr);rw[<-wr k (by omega)]at h1;rw[show((k+1:Nat):Int)-1=(k:Int) by omega];exact hs k s (by omega) hr _ _ _ h1
 rw[wr N hl]at h0;exact zK (key N s0 (a0E _) hi) h0 (by omega)
end
end Pv
namespace dB
open Go Tw Pv
def bg:LI0->Int
 | []=>1
 |a::t=>a*bg t
def mg:LI0->Int->LI0
 | [],_=>[]
 |a::t,n=>(n/bg t)%a::mg t n
def dV:LI0->LI0->Int
 |a::t,d::p=>d*bg t+dV t p
 |_,_=>0
def jf:LI0->LI0->Bool
 | [],[]=>true
 |a::t,d::p=>decide (0<=d∧d<a)&&jf t p
 |_,_=>false
def mZ(s:LI0):Prop:=∀a∈s,1<=a∧a<=12
instance (s:LI0):Decidable (mZ s):=inferInstanceAs (Decidable (∀a∈s,1<=a∧a<=12))
structure ng(s:LI0):Prop where
 len:s.length<=6
 sz:mZ s
 many:bg s<=2000
def iG(n:Nat)(o:LI0):Bool:=decide (o.length=n∧(∀a∈o,0<=a∧a<n)∧o.Nodup)
theorem eP{z:Int}(h0:-(2^62)<=z)(h1:z<2^62):i64.wrap z=z:=by
 simp only[IntKind.wrap,IntKind.bits,IntKind.signed];rcases Int.lt_or_le z 0 with h|h
 .have:z%(2^64:Int)=z+2^64:=by have:=ac4 z (2^64) 1;rw[acf]at this;rw[<-this];exact a8F (by omega) (by omega)
  simp only[this];rw[a0u (by simp;omega)];omega
 have:z%(2^64:Int)=z:=a8F h (by omega);simp only[this];rw[a0q (by simp;omega)]
theorem mZ.tail{a:Int}{t:LI0}(h:mZ (a::t)):mZ t:=fun b hb=>h b (a3h _ hb)
theorem iY:∀{s:LI0},mZ s->1<=bg s
 | [],_=>a9d _
 |a::t,h=>by have h1:=h a (a2M ..);have h2:=iY h.tail;have:=aha h1.1 h2 (by omega) (by omega);simpa[bg]using this
theorem zM:∀(s t:LI0),bg (s++t)=bg s*bg t
 | [],t=>by simp[bg]
 |a::s,t=>by simp[bg,zM s t,ahf]
theorem Fg{s:LI0}(h:mZ s)(k:Nat):bg (s.take k)<=bg s:=by
 have e:bg s=bg (s.take k)*bg (s.drop k):=by rw[<-zM,List.take_append_drop]
 have h1:1<=bg (s.take k):=iY fun a ha=>h a (a9e ha);have h2:1<=bg (s.drop k):=iY fun a ha=>h a (a4X ha);have:=a95 h2 (show 0<=bg (s.take k) by omega);omega
theorem OX:∀(s:LI0) (n:Int),(mg s n).length=s.length
 | [],_=>rfl
 |_::t,n=>by simp[mg,OX t n]
theorem SK:∀(s:LI0) (n:Int) (k:Nat),k<s.length->(mg s n).getD k 0=(n/bg (s.drop (k+1)))%s.getD k 0
 | [],_,k,h=>by simp at h
 |a::t,n,0,_=>by simp[mg]
 |a::t,n,k+1,h=>by have:=SK t n k (by simpa using h);simpa[mg]using this
theorem qh:∀{s p:LI0},jf s p=true->p.length=s.length
 | [],[],_=>rfl
 |a::t,d::p,h=>by simp only[jf,a2f]at h;simp[qh h.2]
 | [],_::_,h=>by cases h
 |_::_,[],h=>by cases h
theorem ny:∀{s p:LI0},jf s p=true↔p.length=s.length∧∀j,j<s.length->0<=p.getD j 0∧p.getD j 0<s.getD j 0
 | [],[]=>by simp[jf]
 |a::t,d::p=>by
  simp only[jf,a2f,a1n,ny (s:=t),a4q];constructor
  .rintro⟨h1,h2,h3⟩;refine⟨by omega,fun j hj=>?_⟩;cases j with
   |zero=>simpa using h1
   |succ j=>simpa using h3 j (by omega)
  rintro⟨h1,h2⟩;exact⟨by simpa using h2 0 (by omega),by omega,fun j hj=>by simpa using h2 (j+1) (by omega)⟩
 | [],_::_=>by simp[jf]
 |_::_,[]=>by simp[jf]
theorem wZ:∀{s p:LI0},jf s p=true->mZ s->0<=dV s p∧dV s p<bg s
 | [],[],_,_=>by simp[dV,bg]
 |a::t,d::p,h,hs=>by simp only[jf,a2f,a1n]at h;have ih:=wZ h.2 hs.tail;have hp:=iY hs.tail;simp only[dV,bg];have h1:0<=d*bg t:=adW h.1.1 (by omega);have h2:(d+1)*bg t<=a*bg t:=abI (by omega) (by omega);rw[afW,Int.one_mul]at h2;omega
theorem wu:∀{s:LI0} (n:Int),mZ s->jf s (mg s n)=true
 | [],_,_=>rfl
 |a::t,n,hs=>by simp only[mg,jf,a2f,a1n];have:=hs a (a2M ..);exact⟨⟨ah0 _ (by omega),Int.emod_lt_of_pos _ (by omega)⟩,wu n hs.tail⟩
theorem Dv:∀{s:LI0} (n:Int),mZ s->mg s (n%bg s)=mg s n
 | [],_,_=>rfl
 |a::t,n,hs=>by
  have hp:=iY hs.tail;have ha:=hs a (a2M ..);simp only[mg,bg];have e1:n%(a*bg t)/bg t%a=n/bg t%a:=by rw[Int.emod_def n,show n-a*bg t*(n/(a*bg t))=n+(-(a*(n/(a*bg t))))*bg t by rw[Int.neg_mul,Int.mul_right_comm];rfl,Int.add_mul_ediv_right _ _ (by omega),show n/bg t+-(a*(n/(a*bg t)))=n/bg t+a*(-(n/(a*bg t))) by rw[Int.mul_neg],ac4]
  have e2:mg t (n%(a*bg t))=mg t n:=by rw[<-Dv (n%(a*bg t)) hs.tail,<-Dv n hs.tail,Int.emod_emod_of_dvd n (Int.dvd_mul_left a (bg t))]
  rw[e1,e2]
theorem MZ:∀{s:LI0} {n:Int},mZ s->0<=n->n<bg s->dV s (mg s n)=n
 | [],n,_,h0,h1=>by simp[bg]at h1;simp[mg,dV];omega
 |a::t,n,hs,h0,h1=>by have hp:=iY hs.tail;have ha:=hs a (a2M ..);simp only[mg,dV];simp only[bg]at h1;have h2:0<=n/bg t:=ah1 h0 (by omega);have h3:n/bg t<a:=Int.ediv_lt_of_lt_mul (by omega) h1;rw[a8F h2 h3,<-Dv n hs.tail,MZ hs.tail (ah0 _ (by omega)) (Int.emod_lt_of_pos _ (by omega))];exact Int.ediv_mul_add_emod n (bg t)
theorem UU:∀{s p:LI0},jf s p=true->mZ s->mg s (dV s p)=p
 | [],[],_,_=>rfl
 |a::t,d::p,h,hs=>by
  simp only[jf,a2f,a1n]at h;have ih:=UU h.2 hs.tail;have hr:=wZ h.2 hs.tail;have hp:=iY hs.tail;simp only[mg,dV];have e1:(d*bg t+dV t p)/bg t=d:=by rw[ah2,Int.add_mul_ediv_right _ _ (by omega),Int.ediv_eq_zero_of_lt hr.1 hr.2];omega
  have e2:mg t (d*bg t+dV t p)=mg t (dV t p):=by rw[<-Dv _ hs.tail,ah2,Int.add_mul_emod_self_right,Dv _ hs.tail]
  rw[e1,e2,ih,a8F h.1.1 h.1.2]
theorem bT{s:LI0}{k:Nat}(h:k<s.length):s.getD k 0∈s:=by
 have:s.getD k 0=s[k]:=by simp[List.getD,a0n h]
 rw[this];exact a4D h
theorem OY{s:LI0}{k:Nat}(h:k<s.length):bg (s.drop k)=s.getD k 0*bg (s.drop (k+1)):=by rw[a6d h];simp[bg,List.getD,a0n h]
theorem zA{l:LI0}{i j:Nat}{a:Int}(h:i<l.length):(l.set i a).getD j 0=if i=j then a else l.getD j 0:=by simp only[a4p,a9V];split<;>simp_all
def a3m(s:LI0)(k:Nat)(x:Int×LI0):Int×LI0:=(Uu .i64 x.1 (s.getD k 0),x.2.set k (Ou .i64 x.1 (s.getD k 0)))
theorem af6{a b:Int}(h0:0<=a)(h1:a<2^62)(hb:0<b):Uu .i64 a b=a/b:=by have:a/b<=a:=Int.ediv_le_self b h0;have h2:0<=a/b:=ah1 h0 (by omega);rw[Uu,Int.tdiv_eq_ediv_of_nonneg h0,eP (by omega) (by omega)]
theorem af7{a b:Int}(h0:0<=a)(h1:a<2^62)(hb:0<b):Ou .i64 a b=a%b:=by
 have h2:0<=a%b:=ah0 _ (by omega);have h3:a%b<=a:=by have:=Int.emod_def a b;have h4:0<=b*(a/b):=adW (by omega) (ah1 h0 (by omega));omega
 rw[Ou,Int.tmod_eq_emod_of_nonneg h0]
theorem a6E{s:LI0}{n:Int}(hs:mZ s)(h0:0<=n)(h1:n<2^62){o:LI0}(ho:o.length=s.length):(OV (a3m s) s.length (n,o)).2=mg s n:=by
 have:=SI (g:=a3m s) (k:=s.length) (s:=(n,o)) (fun k x=>x.1=n/bg (s.drop k)∧x.2.length=s.length∧∀j,k<=j->j<s.length->x.2.getD j 0=(mg s n).getD j 0)
  ⟨by simp[bg],ho,fun j h1 h2=>by omega⟩ (fun k x hk hx=>by
   obtain⟨e1,e2,e3⟩:=hx;have hp:1<=bg (s.drop (k+1)):=iY fun a ha=>hs a (a4X ha);have ha:=hs _ (bT hk);have hx0:0<=x.1:=by rw[e1];exact ah1 h0 (by omega)
   have hx1:x.1<=n:=by rw[e1];exact Int.ediv_le_self _ h0
   simp only[a3m];rw[af6 hx0 (by omega) (by omega),af7 hx0 (by omega) (by omega)];refine⟨?_,by simp[e2],fun j h2 h3=>?_⟩
   .rw[OY hk,Int.mul_comm,<-Int.ediv_ediv_of_nonneg (by omega),e1]
   .rw[zA (by omega)];split
    .rename_i e;subst e;rw[SK s n k hk,e1]
    .exact e3 j (by omega) h3)
 obtain⟨_,e2,e3⟩:=this;rw[rO (d:=0) (by rw[e2,OX])];intro j hj;exact e3 j (a4G _) (by omega)
def xg(s:LI0):Int:=aU (fun k n=>if i64.wrap (n*s.getD k 0)<3000 then i64.wrap (n*s.getD k 0)else 3000) s.length 0 1
theorem OZ{s:LI0}(hs:mZ s):xg s=min 3000 (bg s):=by
 have:=bU (g:=fun k n=>if i64.wrap (n*s.getD k 0)<3000 then i64.wrap (n*s.getD k 0)else 3000) (m:=s.length) (k:=0) (s:=(1:Int)) (fun k n=>n=min 3000 (bg (s.take k))) (by simp[bg];decide) (fun j n h1 h2 h3=>by
  have hj:j<s.length:=by omega
  have ha:=hs _ (bT hj);have hp:1<=bg (s.take j):=iY fun a ha=>hs a (a9e ha);have e:bg (s.take (j+1))=bg (s.take j)*s.getD j 0:=by rw[a5r hj,zM];simp[bg,List.getD,a0n hj]
  have hn0:1<=n:=by omega
  have hn1:n<=3000:=by omega
  have h4:n*s.getD j 0<=3000*12:=aha hn1 ha.2 (by omega) (by omega);have h5:1<=n*s.getD j 0:=by have:=aha hn0 ha.1 (by omega) (by omega);omega
  rw[eP (by omega) (by omega),e];by_cases hc:bg (s.take j)<=3000
  .have:n=bg (s.take j):=(by omega);rw[this];split<;>omega
  have:n=3000:=by omega
  subst this;have h6:3000*s.getD j 0<=bg (s.take j)*s.getD j 0:=abI (by omega) (by omega);have h7:3000<=3000*s.getD j 0:=by omega
  split<;>omega)
 rw[a3I,abN]at this;exact this
def aiM(s p:LI0):Int:=aU (fun k n=>i64.wrap (i64.wrap (n*s.getD k 0)+p.getD k 0)) s.length 0 0
theorem Xo:∀{s p:LI0} (s' p':LI0),s.length=p.length->dV (s++s') (p++p')=dV s p*bg s'+dV s' p'
 | [],[],_,_,_=>by simp[dV]
 |a::s,d::p,s',p',h=>by simp only[List.cons_append,dV,Xo s' p' (by simpa using h),zM,afW,ahf];omega
theorem aac{s p:LI0}(hp:jf s p=true)(hs:mZ s)(hm:bg s<=2000):aiM s p=dV s p:=by
 have hl:=qh hp;have:=bU (g:=fun k n=>i64.wrap (i64.wrap (n*s.getD k 0)+p.getD k 0)) (m:=s.length) (k:=0) (s:=(0:Int)) (fun k n=>n=dV (s.take k) (p.take k)) (by simp[dV]) (fun j n h1 h2 h3=>by
  have hj:j<s.length:=by omega
  have ha:=hs _ (bT hj);have hd:=(ny.1 hp).2 j hj;have e:dV (s.take (j+1)) (p.take (j+1))=dV (s.take j) (p.take j)*s.getD j 0+p.getD j 0:=by rw[a5r hj,a5r (show j<p.length by omega),Xo _ _ (by simp;omega)];simp[dV,bg,List.getD,a0n hj,a0n (show j<p.length by omega)]
  have Eb:jf (s.take j) (p.take j)=true:=ny.2 ⟨by simp[hl],fun i hi=>by
   have wF:i<j:=by have:=hi;simp at this;omega
   have:=(ny.1 hp).2 i (by omega);simpa[a4p,a4v,wF]using this⟩
  have hr:=wZ Eb fun a ha=>hs a (a9e ha);have hle:=Fg hs j;rw[<-h3]at hr e;have h4:n*s.getD j 0<=2000*12:=aha (by omega) ha.2 (by omega) (by omega);have h5:0<=n*s.getD j 0:=adW hr.1 (by omega);rw[e,eP (z:=n*_) (by omega) (by omega),eP (by omega) (by omega)])
 rw[a3I,abN,a94 (show p.length<=s.length by omega)]at this;exact this
theorem ng.ach{s:LI0}(h:ng s):xg s=bg s:=by rw[OZ h.sz];have:=h.many;omega
abbrev uM(s:LI0):Nat:=(bg s).toNat
theorem ng.a6F{s:LI0}(h:ng s):((uM s:Nat):Int)=bg s:=by have:=iY h.sz;show((bg s).toNat:Int)=_;omega
theorem ng.uM{s:LI0}(h:ng s):((uM s:Nat):Int)=xg s:=by rw[h.ach,h.a6F]
theorem ng.lt{s:LI0}(h:ng s){k:Nat}(hk:k<dB.uM s):decide ((k:Int)<xg s)=true:=by rw[<-h.uM];exact bF hk
theorem ng.no{s:LI0}(h:ng s):decide (((dB.uM s:Nat):Int)<xg s)=false:=by rw[<-h.uM];exact fH _
theorem ng.UW{s:LI0}(h:ng s):s.length<=ah:=by have:=h.len;unfold ah;omega
theorem a6G{α:Type}(f:Nat->α)(n:Nat):aU (fun k (s:List α)=>s++[f k]) n 0 []=(List.range n).map f:=by have:=bU (g:=fun k (s:List α)=>s++[f k]) (m:=n) (k:=0) (s:=[]) (fun k s=>s=(List.range k).map f) rfl (fun j s _ _ h=>by rw[h,abX,a4s];rfl);simpa using this
end dB
namespace Tw
open Go Go.Proofs Go.Shelf
section
variable {P:LI1} {ρ:Ren}
theorem a3n{M:Mp}{w:LI4}{h:List HB}(hV:Valid M uS (lu h) w){b off len cap:Nat}{ex:Bool}{y:LI3}(hx:VR M.h (.aP b off len cap 1 ex) y)(h0:0<len){k:BK}{cs r:List TV}(hb:h[b]? = some (.cells k cs))(hk:k≠.ro)
  (hl:k=.last->off+cap=cs.length) (hr:sub cs off len=some r) :
  ∃ls p cap',M (.h b)=some (.cells ls)∧p∈ls∧y=.slice (some ⟨p.c,off,none⟩) len cap'∧len<=cap'∧cap<=cap'∧off+cap<=p.ext∧off+cap'<=p.tot∧cap'<2^63∧ND M.h w k cs p∧p.base=0∧(∀c∈cs,jc c=true) ∧
   ∃xs:List LI3,bY M.h r xs∧∀(j:Nat) (v:LI3),xs[j]? = some v->w.cell? ⟨p.c,off+j,none⟩=some v:=by
 cases hx with
 |aP hm hp FC hle wL hex ha aoG=>
  rename_i ls p a cap';obtain⟨gJ,h1,h2⟩:=hV.ok _ _ hm trivial;have hg:lu h (.h b)=some (.cells k cs):=by simp[St.get,hb]
  rw[hg]at h1;cases h1;have hp:=hp.resolve_left (by omega);have Eb:=h2.2.1 p hp;have Ad:=Eb.base hk;rcases ha with ha|⟨rfl,ha⟩
  .omega
  obtain⟨xs,g1,g2⟩:=Eb.slice hr (by omega) (fun e=>by have:=hl e;have:=Eb.ext;omega);rw[Ad]at g2 ha ⊢;simp only[a3I,ahc]at g2 ha FC ⊢;exact⟨ls,p,cap',hm,hp,rfl,by omega,wL,FC,ha,aoG,Eb,Ad,h2.1,xs,g1,g2⟩
end
open Go.Sort
theorem af8{N:Np}{k:IntKind}{n:Int}{y:LI3}(h:VR N (.int k n) y):y=.int k n:=by cases h;rfl
section
variable {P:LI1} {M:Mp} {D:Key->Prop} {C:Ct} {w w':LI4}
theorem af9(h:Valid M D C w){k:Key}{ls:List Pl}{p:Pl}{cs cs':List TV}{kk BJ:BK}
  (hk:M k=some (.cells ls)) (hd:D k) (hc:C k=some (.cells kk cs)) (hp:p∈ls) (yj:(kk=.own∧BJ=.own)∨((kk=.grow∨kk=.last)∧BJ=.last∧p.ext=cs.length))
  (hl:cs'.length=cs.length) (hn:∀c∈cs',jc c=true) {uT:Array LI3} {ty':LI2} (yS:w'.heap[p.c]? = some (.cells uT ty' (0,0))) (hs':uT.size=p.tot)
  (WG:∀c,c<w.heap.size->c≠p.c->w'.heap[c]? = w.heap[c]?) (vk:w.heap.size<=w'.heap.size) (ho:w'.os=w.os) (hou:w'.output=w.output) (ht:w'.tape=w.tape)
  (a6H:∀(i:Nat) (c:TV) (v:LI3),cs'[i]? = some c->uT[i]? = some v->VR M.h c v) :
  Valid M D (lZ C k (.cells BJ cs')) w'∧Ext M C w M (lZ C k (.cells BJ cs')) w' [k]:=by
 obtain⟨hb,he,h1,Eb,jG,huq,arr,ty,hr,hs,hle,hv⟩:=h.wrB hk hd hc hp yj;have iF:kk≠.ro:=by rcases yj with⟨e,_⟩|⟨e|e,_⟩<;>rw[e]<;>simp
 have Yw:∀b0,C k=some b0->wr b0=true:=fun b0 Ad=>by rw[hc]at Ad;cases Ad;cases kk<;>simp_all [wr]
 have qI:dL M k (.cells ls)=M:=IZ hk;have gQ:∀c,c<w.heap.size->c∉aI (.cells ls)->w'.heap[c]? = w.heap[c]?:=fun c hc0 hc=>WG c hc0 (fun e=>hc (by rw[e];exact a1k.2 ⟨p,hp,rfl⟩));have gy:∀c∈aI (.cells ls),(∃l0,M k=some l0∧c∈aI l0)∨w.heap.size<=c:=fun c hc=>.inl ⟨_,hk,hc⟩;have J4:sK M (dL M k (.cells ls)):=by rw[qI];exact .refl _
 have aQ:∀q∈ls,q.c<w.heap.size:=fun q hq=>h.inb _ _ hk q.c (a1k.2 ⟨q,hq,rfl⟩);refine⟨?_,?_⟩
 .have:=h.upd (D':=D) (w':=w') k (.cells BJ cs') (.cells ls) (fun j hj=>.inl hj) (fun l0 h0=>by
   rw[hk]at h0;cases h0;exact⟨hd,.refl _,Yw⟩) gQ gy vk (by
   rw[qI];refine⟨hn,fun q hq=>?_,fun e=>?_,fun e=>⟨jG,fun q1 IL q2 Gw e1 e2=>by rw[huq q1 IL (by omega),huq q2 Gw (by omega)]⟩⟩
   .have YL:=Eb q hq;by_cases Yx:q.c=p.c
    .have:=NM jG hp hq Yx;subst this;exact⟨⟨uT,ty',(0,0),yS,hs',fun _=>rfl,fun _ i c v _ a b=>a6H i c v a (by simpa[hb]using b)⟩,by omega,by omega,fun _=>hb⟩
    .obtain⟨aoH,ty2,fz2,t1,t2,t3,t4⟩:=YL.row;refine⟨⟨aoH,ty2,fz2,(WG q.c (aQ q hq) Yx).trans t1,t2,fun _=>t3 iF,fun hz i c v hi a b=>?_⟩,YL.fit,by have:=YL.ext;omega,fun _=>YL.base iF⟩;exfalso;apply Yx;rcases yj with⟨e,_⟩|⟨_,e,_⟩
     .obtain⟨b',g1,g2⟩:=h.ok k _ hk hd;rw[hc]at g1;cases g1;obtain⟨q',g3,_⟩:=g2.2.2.1 e;rw[g3]at hq hp;simp at hq hp;rw[hq,hp]
     .rw[huq q hq (by rw[hz e];omega)]
   .rcases yj with⟨e0,_⟩|⟨_,e1,_⟩
    .obtain⟨b',g1,g2⟩:=h.ok k _ hk hd;rw[hc]at g1;cases g1;obtain⟨q',g3,g4⟩:=g2.2.2.1 e0;exact⟨q',g3,by omega⟩
    .rw[e1]at e;cases e)
  rwa [qI]at this
 .have:=Ext.upd (M:=M) (C:=C) (w:=w) (w':=w') k (.cells BJ cs') (.cells ls) [k] (.inl ⟨by simp[hc],rfl,by simp[hk],Yw⟩) J4 gQ gy vk ho hou ht
  rwa [qI]at this
end
def KP:List TV->Option LI0
 | []=>some []
 |.int .i64 n::r=>(KP r).map (n::·)
 |_=>none
theorem P5:∀{cs:List TV} {zs:LI0},KP cs=some zs->cs=zs.map fun n=>TV.int .i64 n
 | [],zs,h=>by simp[KP]at h;subst h;rfl
 |c::r,zs,h=>by
  unfold KP at h;split at h
  .rename_i e;cases e
  .rename_i n r' e;cases e;simp only[a0i]at h;obtain⟨ys,h1,rfl⟩:=h;rw[P5 h1];rfl
  cases h
def gX(l:LI0):LI0:=l.mergeSort fun x y=>decide (x<=y)
def a6I(g:LI0->LI0)(fI:Nat):aY
 |.fn f [] [],[d],h=>
  if f=fI then
   match d with
   |.nil .aP=>some (.cO [],h,[])
   |.aP _ _ 0 _ _ _=>some (.cO [],h,[])
   |.aP b 0 n n' 1 _=>match h[b]? with
    |some (.cells k cs)=>match Ag k true,KP cs with
     |some k',some zs=>if n=n'∧cs.length=n∧0<n∧n<=2^20 then some (.cO [],h.set b (.cells k' ((g zs).map fun x=>TV.int .i64 x)),[b])else none
     |_,_=>none
    |_=>none
   |_=>none
  else none
 |_,_,_=>none
def P6:Nat->aY:=a6I gX
section
variable {P:LI1} {ρ:Ren}
theorem Xp(L:Lays.n189 P ρ):iH P (P6 (ρ.f 189)):=by
 intro fv args h v h' ws hc M w x xs hV zo hx O1;unfold P6 a6I at hc;split at hc
 case h_2=>cases hc
 rename_i f d;split at hc
 case isFalse=>cases hc
 rename_i hf;subst hf;cases hx with
 | @fn _ _ _ ys zs h1 h1a h3 h3a=>
 have:ys=[]:=a4a h1.symm;subst this;have:zs=[]:=a4a h3.symm;subst this;obtain⟨dv,r1,rfl,hdv,O1⟩:=O1.iT;have:=O1.qo;subst this;have enters:∀{R:LI3->LI4->Prop},Calls P (ρ.f 189) #[dv] w (Ll R) ->
   ∃d,(∀w,(Deferred.ofValue (.func (.func (ρ.f 189)) [].toArray [].toArray) [dv].toArray).run P w=.ok d w)∧((LV P d w R∧∃f a b,(TV.fn (ρ.f 189) [] [])=.fn f a b)∨(Uc P d w R∧∃l,(TV.fn (ρ.f 189) [] [])=.kX l)):=by
  intro R UY;refine⟨{ target:=.fn (.func (ρ.f 189)) #[],args:=#[dv] },fun w=>by simp[Deferred.ofValue],.inl ⟨⟨ρ.f 189,_,?_,fun n=>callsIn_wide.2 UY⟩,_,_,_,rfl⟩⟩;have e1:=L.f189;have e2 : ¬ (Body.n189 ρ).name = "runtime.NumGoroutine" := by simp [Body.n189]
  obtain⟨c,e3⟩:∃c,(Body.n189 ρ).body=some c:=⟨_,rfl⟩;simp[invoke,callFunc,program,Sem.run,e1,e2,e3]
 split at hc
 .simp only[a01,a0z]at hc;obtain⟨rfl,rfl,rfl⟩:=hc;cases hdv;refine enters ((Any.slices_Sort_int_none L none 0 w).mono fun e w' ⟨he,hw⟩=>?_);subst he;subst hw;exact⟨M,hV,zo,.refl _ _ _,.Qs .nil⟩
 .simp only[a01,a0z]at hc;obtain⟨rfl,rfl,rfl⟩:=hc;cases hdv;refine enters ((Any.slices_Sort_int_none L _ _ w).mono fun e w' ⟨he,hw⟩=>?_);subst he;subst hw;exact⟨M,hV,zo,.refl _ _ _,.Qs .nil⟩
 .rename_i b n n' ex _;split at hc
  case h_2=>cases hc
  rename_i k cs hb;split at hc
  case h_2=>cases hc
  rename_i k' zs oG hzs;split at hc
  case isFalse=>cases hc
  rename_i Rl;obtain⟨rfl,pV,hn0,auy⟩:=Rl;simp only[a01,a0z]at hc;obtain⟨rfl,rfl,rfl⟩:=hc;have Rt:=P5 hzs;have U5:zs.length=n:=by rw[<-pV,Rt,a4A]
  have hk:k≠.ro:=by rintro rfl;cases oG
  have aiN:sub cs 0 n=some cs:=by unfold sub;rw[a0u (by omega)];simp[<-pV]
  obtain⟨ls,p,cap',k1,k2,rfl,k3,k4,k5,k6,k7,k8,k9,k10,csv,k11,k12⟩:=a3n hV hdv hn0 hb hk (fun _=>by omega) aiN;have hpe:p.ext=cs.length:=by have:=k8.ext;omega
  obtain⟨arr,ty,fz,z1,z2,z3,_⟩:=k8.row;have:=z3 hk;subst this;have aQ:=(a2q.1 z1).1;have hcv:csv=zs.map fun n=>Value.int .i64 n:=by
   apply a9X;intro i;by_cases hi:i<n
   .have hi1:i<cs.length:=(by omega);have Le:i<csv.length:=by rw[<-k11.len];exact hi1
    have:=k11.at_ i cs[i] csv[i] (by simp[hi1]) (by simp[Le]);have hc1:cs[i]? = (zs.map fun n=>TV.int .i64 n)[i]?:=(by rw[<-Rt]);rw[a0n hi1,a4y,a0n (by omega)]at hc1;simp only[a0A,a01]at hc1;rw[hc1]at this;rw[a0n Le,a4y,a0n (by omega)];rw[af8 this];rfl
   .rw[a4r (by rw[<-k11.len];omega),a4r (by rw[a4A];omega)]
  have hH:Holds (Value.int .i64) w p.c 0 zs.toArray:=fun j hj=>by simp only[List.size_toArray]at hj;refine⟨?_,by simp[World.frozen?,z1]⟩;refine k12 j _ ?_;rw[hcv,a4y,a0n hj];simp[hj]
  have UY:=Any.slices_Sort_int L p.c 0 cap' zs w hH aQ (by omega);rw[U5]at UY;refine enters (UY.mono fun e w' ⟨he,N,os,hw⟩=>?_);subst he;have hsl:(gX zs).length=n:=by unfold gX;rw[ab7,U5]
  have hgb:lu h (.h b)=some (.cells k cs):=by simp[St.get,hb]
  have yj:(k=.own∧k'=.own)∨((k=.grow∨k=.last)∧k'=.last∧p.ext=cs.length):=by
   rcases Kw oG with e|⟨a,b,_⟩
   .exact .inl e
   .exact .inr ⟨a,b,hpe⟩
  have yS:w'.heap[p.c]? = some (.cells (putCells (Value.int .i64) 0 (gX zs).toArray arr) ty (0,0)):=by rw[hw,heap_grow_old _ _ (by simp[putRow,mapBlock,Sort.ahead];exact aQ)];simp only[putRow,mapBlock,Sort.ahead,abU,a1I,z1,a0A,onCells];rfl
  have WG:∀c,c<w.heap.size->c≠p.c->w'.heap[c]? = w.heap[c]?:=fun c hc0 iF=>by rw[hw,heap_grow_old _ _ (by simp[putRow,mapBlock,Sort.ahead];exact hc0)];simp only[putRow,mapBlock,Sort.ahead,abU];rw[a0q (fun e=>iF e.symm)]
  obtain⟨g1,g2⟩:=af9 (w':=w') (cs':=(gX zs).map fun x=>TV.int .i64 x) hV k1 trivial hgb k2 yj (by rw[a4A,hsl,pV]) (fun c hc=>by
   obtain⟨y,_,rfl⟩:=a1k.1 hc;rfl) yS (by simp[putCells,z2]) WG (by rw[hw];simp[putRow,mapBlock,Sort.ahead]) (by rw[hw];rfl) (by rw[hw];rfl) (by rw[hw];rfl) (fun i c u hc hu=>by
   rw[a4y]at hc;simp only[a0i]at hc;obtain⟨y,hy,rfl⟩:=hc;have hi:i<(gX zs).length:=(a0a.1 hy).1;have hia:i<arr.size:=(by omega);simp only[putCells,Array.getElem?_mapIdx,a3J hia,a0A,a01]at hu;rw[a0u ⟨a4G _,by simp;omega⟩]at hu;subst hu;have:(gX zs).toArray[i-0]! = y:=by have h9:=(a0a.1 hy).2;simp[hi,h9]
   rw[this];exact .int _ _)
  have zl:=(a0a.1 hb).1;have FK:lu (h.set b (.cells k' ((gX zs).map fun x=>TV.int .i64 x)))=lZ (lu h) (.h b) (.cells k' ((gX zs).map fun x=>TV.int .i64 x)):=jF ⟨[],[],h,[]⟩ b _ zl [] [];exact⟨M,by rw[FK];exact g1,zo,by rw[FK];exact g2,.Qs .nil⟩
 .cases hc
end
def P7(h h':List HB):Prop:=(∀b:Nat,(∀cs,h[b]?≠some (HB.nH cs))->h'[b]? = h[b]?)∧∀(b:Nat) cs,h[b]? = some (HB.nH cs)->∃cs',cs'.Perm cs∧h'[b]? = some (HB.cells .last cs')
def afa(f:Nat)(call:aY)(fv:TV)(args:List TV)(h:List HB)(v:TV):Prop:=(∃k n,v=.int k n)∧fv=.fn f [] []∧∀h',P7 h h'->∃h2,call fv args h'=some (v,h2,[])
open Classical in
def a3o(f:Nat)(call:aY):aY:=fun fv args h=>if hx:∃v,afa f call fv args h v then some (Classical.choose hx,h,[])else none
theorem SL{h h':List HB}(hu:P7 h h'):∀b:Nat,(h'[b]?).isSome=(h[b]?).isSome:=fun b=>by
 cases e:h[b]? with
 |none=>rw[hu.1 b (fun cs=>by rw[e];nofun),e]
 |some x=>
  by_cases hb:∃cs,x=.nH cs
  .obtain⟨cs,rfl⟩:=hb;obtain⟨cs',_,e2⟩:=hu.2 b cs e;rw[e2];rfl
  .rw[hu.1 b (fun cs=>by rw[e];intro h2;cases h2;exact hb ⟨cs,rfl⟩),e]
theorem Xq(h:List HB):∀(g:Nat->List TV),(∀(b:Nat) cs,h[b]? = some (HB.nH cs)->(g b).Perm cs)->P7 h (h.mapIdx fun b x=>match x with|HB.nH _=>HB.cells .last (g b)|x=>x):=fun g hg=>by
 constructor
 .intro b hb;rw[ah3];cases e:h[b]? with
  |none=>rfl
  |some x=>
   simp only[a0A];cases x<;>first|rfl|exact absurd e (hb _)
 .intro b cs e;exact⟨g b,hg b cs e,by rw[ah3,e];rfl⟩
theorem Xr{M:Mp}{h:List HB}{w:LI4}(hV:Valid M uS (lu h) w):∃h',P7 h h'∧Valid M uS (lu h') w:=by
 have hg:∀b:Nat,∃g:List TV,∀cs,h[b]? = some (HB.nH cs)->g.Perm cs∧∀l,M (.h b)=some l->pW M.h w (.cells .last g) l:=fun b=>by
  by_cases hb:∃cs,h[b]? = some (HB.nH cs)
  .obtain⟨cs,hb⟩:=hb;cases hm:M (.h b)with
   |none=>exact⟨cs,fun X3 h2=>⟨by rw[hb]at h2;cases h2;exact .refl _,fun l hl=>by cases hl⟩⟩
   |some l=>
    obtain⟨bb,c1,c2⟩:=hV.ok _ _ hm trivial;have c1:h[b]? = some bb:=c1;rw[hb]at c1;cases c1;cases l with
    |obj r o=>exact c2.elim
    |cells ls=>
     obtain⟨cs',p1,p2⟩:=c2;exact⟨cs',fun X3 h2=>⟨by rw[hb]at h2;cases h2;exact p1,fun l hl=>by cases hl;exact p2⟩⟩
  exact⟨[],fun cs h2=>absurd ⟨cs,h2⟩ hb⟩
 let g:Nat->List TV:=fun b=>Classical.choose (hg b)
 have hgs:∀(b:Nat) cs,h[b]? = some (HB.nH cs)->(g b).Perm cs∧∀l,M (.h b)=some l->pW M.h w (.cells .last (g b)) l:=fun b=>a9u (hg b);have hu:=Xq h g fun b cs e=>(hgs b cs e).1;generalize hh:(h.mapIdx fun b x=>match x with|HB.nH _=>HB.cells .last (g b)|x=>x)=h' at hu;refine⟨h',hu,?_⟩;have WQ:∀(b:Nat) cs,h[b]? = some (HB.nH cs)->h'[b]? = some (HB.cells .last (g b)):=fun b cs e=>by rw[<-hh,ah3,e];rfl
 refine⟨fun k l hk _=>?_,fun k k' l l' b iF hk oG _ hc hw=>?_,hV.inb⟩
 .obtain⟨bb,c1,c2⟩:=hV.ok k l hk trivial;cases k with
  |l k=>exact⟨bb,c1,c2⟩
  |h b=>
   have c1:h[b]? = some bb:=c1;by_cases hb:∃cs,bb=.nH cs
   .obtain⟨cs,rfl⟩:=hb;exact⟨_,WQ b cs c1,(hgs b cs c1).2 l hk⟩
   refine⟨bb,?_,c2⟩;show h'[b]? = some bb;rw[hu.1 b (fun cs=>by rw[c1];intro h2;cases h2;exact hb ⟨cs,rfl⟩),c1]
 obtain⟨bb,c1,_⟩:=hV.ok k l hk trivial;refine hV.own k k' l l' bb iF hk oG trivial c1 ?_;cases k with
 |l k=>have hc:lu h (.l k)=some b:=hc;rw[c1]at hc;cases hc;exact hw
 |h i=>
  have c1:h[i]? = some bb:=c1;have hc:h'[i]? = some b:=hc;by_cases hb:∃cs,bb=.nH cs
  .obtain⟨cs,rfl⟩:=hb;rfl
  rw[hu.1 i (fun cs=>by rw[c1];intro h2;cases h2;exact hb ⟨cs,rfl⟩),c1]at hc;cases hc;exact hw
theorem ZO{M:Mp}{h h1:List HB}{w w':LI4}{v:TV}{y:LI3}(hu:P7 h h1)(hv:∃k n,v=.int k n)(hR:jQ M h1 w v h1 [] y w'):jQ M h w v h [] y w':=by
 obtain⟨M',a1,a2,a3,a4⟩:=hR;have hs:∀k,(lu h1 k).isSome=(lu h k).isSome:=fun k=>by
  cases k with
  |l k=>rfl
  |h b=>exact SL hu b
 have EU:∀(b:Nat) bb,h1[b]? = some bb->(h[b]? = some bb∧∀cs,bb≠HB.nH cs)∨∃cs cs',bb=HB.cells .last cs'∧cs'.Perm cs∧h[b]? = some (HB.nH cs):=fun b bb e=>by
  by_cases hb:∃cs,h[b]? = some (HB.nH cs)
  .obtain⟨cs,hb⟩:=hb;obtain⟨cs',p,e2⟩:=hu.2 b cs hb;rw[e]at e2;cases e2;exact .inr ⟨cs,cs',rfl,p,hb⟩
  have:=hu.1 b fun cs h2=>hb ⟨cs,h2⟩;rw[e]at this;exact .inl ⟨this.symm,fun cs h2=>hb ⟨cs,by rw[<-this,h2]⟩⟩
 refine⟨M',⟨fun k l hk _=>?_,fun k k' l l' b iF hk oG _ hc hw=>?_,a1.inb⟩,a2,⟨a3.IK,a3.frame,fun _ _ _=>rfl,fun k hk hn=>a3.lH k ?_ hn,a3.fresh,a3.size,fun _ h=>h,fun k hk=>(by cases hk),fun k hk=>(by cases hk),a3.os,a3.output,a3.tape⟩,a4⟩
 .obtain⟨bb,c1,c2⟩:=a1.ok k l hk trivial;cases k with
  |l k=>exact⟨bb,c1,c2⟩
  |h b=>
   rcases EU b bb c1 with⟨e,_⟩|⟨cs,cs',rfl,p,e⟩
   .exact⟨bb,e,c2⟩
   refine⟨_,e,?_⟩;cases l with
   |obj r o=>exact c2.elim
   |cells ls=>exact⟨cs',p,c2⟩
 .obtain⟨bb,c1,_⟩:=a1.ok k l hk trivial;refine a1.own k k' l l' bb iF hk oG trivial c1 ?_;cases k with
  |l k=>have hc:lu h1 (.l k)=some b:=hc;rw[c1]at hc;cases hc;exact hw
  |h i=>
   have hc:h[i]? = some b:=hc;rcases EU i bb c1 with⟨e,_⟩|⟨cs,cs',rfl,p,e⟩
   .rw[hc]at e;cases e;exact hw
   rfl
 rcases hk with hk|hk
 .exact .inl (by rw[hs];exact hk)
 refine .inr ?_;have:=hs k;rw[hk]at this;cases e:lu h1 k with
 |none=>rfl
 |some x=>rw[e]at this;cases this
theorem aad{P:LI1}{f:Nat}{call:aY}(hC:iH P call):iH P (a3o f call):=by
 intro fv args h v h' ws hc M w x xs hV zo hx O1;unfold a3o at hc;split at hc
 rotate_left
 .cases hc
 rename_i hb;have hs:=a9u hb;simp only[a01,a0z]at hc;obtain⟨rfl,rfl,rfl⟩:=hc;obtain⟨hv,hfn,FM⟩:=hs;obtain⟨h1,hu,hV1⟩:=Xr hV;obtain⟨h2,yw⟩:=FM h1 hu;obtain⟨d,e1,e2⟩:=hC _ _ _ _ _ _ yw M w x xs hV1 zo hx O1;refine⟨d,e1,?_⟩;rcases e2 with⟨⟨f',az,q1,q2⟩,r⟩|⟨⟨l,f',tmps,uQ,body,q1,q2⟩,r⟩
 .refine .inl ⟨⟨f',az,q1,fun n=>CallsIn.mono (F:=Fence.wide) (q2 n) fun en w3 WA=>?_⟩,r⟩;cases en with
  |panicked c=>exact WA.elim
  |outgrown=>exact WA.elim
  |returned y=>
   refine ZO hu hv (jQ.norm (nH:=false) hV1 zo ?_ WA);obtain⟨k,n,e⟩:=hv;rw[e];simp[Oe,BZ,wR,nO,D9,Uj,Lm]
 obtain⟨l',e⟩:=r;exact absurd hfn (by rw[e];nofun)
theorem aae{f:Nat}{call:aY}{args:List TV}{h:List HB}{k:IntKind}{n:Int}(hb:afa f call (.fn f [] []) args h (.int k n))(iF:∃h',P7 h h'):a3o f call (.fn f [] []) args h=some (.int k n,h,[]):=by
 have hx:∃v,afa f call (.fn f [] []) args h v:=⟨_,hb⟩;unfold a3o;rw[dif_pos hx];obtain⟨h',hu⟩:=iF;obtain⟨h2,h1⟩:=(a9u hx).2.2 h' hu;obtain⟨h3,h4⟩:=hb.2.2 h' hu;rw[h4]at h1;have:Classical.choose hx=.int k n:=by simp only[a01,a0z]at h1;exact h1.1.symm
 rw[this]
open Go.ChangeShapes
section
variable {H:Type} {kD:LI2×LI3->H} {P:LI1} {w:LI4}
def Rd(kD:LI2×LI3->H)(P:LI1)(w:LI4)(t:LI2)(d:DataW H):Prop:=∃cs,Reads kD P w t cs d
theorem afb{t:LI2}{k:IntKind}{d:DataW H}(ht:P.underlying t=some (.int k))(hd:Rd kD P w t d):∃n,d=.lit (.int k n)∧(Lit.int k n).wf=true:=by
 obtain⟨cs,fuel,ps,hd⟩:=hd;cases fuel with
 |zero=>simp[DataW.trod]at hd
 |succ n=>
  unfold DataW.trod at hd;rw[ht]at hd;split at hd<;>simp_all
  obtain⟨⟨_,h1⟩,rfl,_⟩:=hd;exact⟨_,rfl,h1⟩
theorem a3p{t:LI2}{fs:Array Field}{d:DataW H}(ht:P.underlying t=some (.struct fs))(hd:Rd kD P w t d) :
  ∃ds,d=.agg ds∧ds.length=fs.size∧∀(i:Nat) f d',fs[i]? = some f->ds[i]? = some d'->Rd kD P w f.type d':=by
 obtain⟨cs,fuel,ps,hd⟩:=hd;obtain⟨zs,n,_,hx,pV,U5,EU⟩:=DataW.trod_struct ht hd;simp only[a0z]at hx;refine⟨zs.map (·.1),hx.1,by simpa using U5,fun i f d' e1 e2=>?_⟩;simp only[a4y,a0i]at e2;obtain⟨z,hz,rfl⟩:=e2;exact⟨_,n,z.2,by rw[EU i f e1,hz]⟩
theorem a6J{t e:LI2}{k:Nat}{d:DataW H}(ht:P.underlying t=some (.array k e))(hd:Rd kD P w t d) :
  ∃ds,d=.agg ds∧ds.length=k∧∀(i:Nat) d',ds[i]? = some d'->Rd kD P w e d':=by
 obtain⟨cs,fuel,ps,hd⟩:=hd;obtain⟨zs,n,_,hx,pV,U5,EU⟩:=DataW.trod_array ht hd;simp only[a0z]at hx;refine⟨zs.map (·.1),hx.1,by simpa using U5,fun i d' e2=>?_⟩;simp only[a4y,a0i]at e2;obtain⟨z,hz,rfl⟩:=e2;exact⟨_,n,z.2,by rw[EU i (by have:=(a0a.1 hz).1;omega),hz]⟩
theorem a6K{t e:LI2}{d:DataW H}(ht:P.underlying t=some (.slice e))(hd:Rd kD P w t d) :
  d=.nil∨∃xs ys,d=.slice xs ys∧∀y∈xs++ys,Rd kD P w e y:=by
 obtain⟨cs,fuel,ps,hd⟩:=hd;rcases Deep.open_slice ht hd with⟨rfl,hx⟩|⟨a,len,cap,m,n,Dt,Pl,rfl,_,hlc,_,hm,hx,EU⟩
 .left;cases hx;rfl
 .right;simp only[a1I]at hm;subst hm;simp only[a0z]at hx;refine⟨_,_,hx.1,fun y hy=>?_⟩;have:∃i,i<m∧y=Dt i:=by
   rcases a3c.mp hy with hy|hy
   .obtain⟨i,hi,rfl⟩:=a1k.mp hy;exact⟨i,by have:=a4B.mp hi;omega,rfl⟩
   .obtain⟨i,hi,rfl⟩:=a1k.mp hy;exact⟨len+i,by have:=a4B.mp hi;omega,rfl⟩
  obtain⟨i,hi,rfl⟩:=this;obtain⟨cs',_,e2⟩:=EU i hi;exact⟨cs',n,_,e2⟩
theorem Xt{t:LI2}{fs:Array Field}{g:Nat}{ds:List (DataW H)}{h:List HB}(ht:P.underlying t=some (.struct fs)) :
  zD P (g+1) t (.agg ds) h=match Jd P (zD P g) 0 fs.toList ds h with
   |some (cs,h1)=>if cs.length=P.cellsOf t then some (cs,h1)else none
   |none=>none:=by
 simp only[zD,ht]<;>rfl
theorem ZP{t e:LI2}{k g:Nat}{ds:List (DataW H)}{h:List HB}(ht:P.underlying t=some (.array k e)) :
  zD P (g+1) t (.agg ds) h=match Jd P (zD P g) 0 (WO P k e) ds h with
   |some (cs,h1)=>if cs.length=P.cellsOf t then some (cs,h1)else none
   |none=>none:=by
 simp only[zD,ht]<;>rfl
end
end Tw
namespace Pv
open Go Tw
structure oN(X:kP)(P:LI1)(kt:LI2)(α:Type)[DecidableEq α] where
 pv:α->PV X.Γ
 tv:α->TV
 v:α->LI3
 hp:∀x,qp (pv x)=some (tv x)
 ht:∀x,(tv x).yL=some (v x)
 hc:∀em x,aB P (Instr.checkKey em 10000 kt (v x))=some ()
 hf:∀(x:α) (l:List α),aB P (Instr.findKey kt (v x) (l.map fun y=>⟨v y,.bool false,0⟩))=some ((l.findIdx? fun y=>decide (x=y)).map fun i=>(i,.bool false))
 hk:∃kind,aB P (underlying kt)=some kind∧((∀x y,Instr.sameNow kind (v x) (v y)=some (decide (x=y)))∨∀x y,Instr.sameNow kind (v x) (v y)=none∧aB P (Op.equal kt (v x) (v y))=some (decide (x=y)))
variable {X:kP} {P:LI1} {kt:LI2} {α:Type} [DecidableEq α] (C:oN X P kt α)
abbrev oN.es(l:List (α×PV X.Γ)):List (PV X.Γ×PV X.Γ):=l.map fun e=>(C.pv e.1,e.2)
theorem oN.tvs:∀l:List α,Tw.BX (l.map C.tv)=some (l.map C.v)
 | []=>rfl
 |a::l=>by show(match(C.tv a).yL,Tw.BX (l.map C.tv)with|some v,some vs=>some (v::vs)|_,_=>none)=_;rw[C.ht,oN.tvs l];rfl
theorem oN.find(x:α)(l:List α)(r:Option Nat)(hr:(l.findIdx? fun y=>decide (x=y))=r)(hs:∀(i:Nat) y,l[i]? = some y->decide (x=y)=(some i==r)):vI P kt (C.v x) (l.map C.tv)=some r:=by
 unfold vI;rw[C.tvs];simp only[];rw[bJ,C.hc,a4C,a8m];show(match aB P (Instr.findKey kt (C.v x) (l.map fun y=>⟨C.v y,.bool false,0⟩))with|some r=>if VP P kt (C.v x) (l.map C.v) (Option.map (fun(q:Nat×LI3)=>q.1) r)then some (Option.map (fun(q:Nat×LI3)=>q.1) r)else none|none=>none)=_;rw[C.hf,hr];have e:Option.map (fun(q:Nat×LI3)=>q.1) (r.map fun i=>(i,Value.bool false))=r:=by cases r<;>rfl
 simp only[e];rw[a0u];obtain⟨kind,h1,h2⟩:=C.hk;simp only[VP,h1,a2f,a9n,a4I];constructor
 .cases r with
  |none=>rfl
  |some j=>
   have:=(aay.1 hr).1;simpa using this
 have hz:∀p∈(l.map C.v).zipIdx,∃y,p.1=C.v y∧decide (x=y)=(some p.2==r):=fun p hp=>by have:=a9M.1 hp;rw[a4y,a0i]at this;obtain⟨y,hy,e⟩:=this;exact⟨y,e.symm,hs _ _ hy⟩
 rcases h2 with h2|h2
 .left;intro p hp;obtain⟨y,e1,e2⟩:=hz p hp;rw[e1,h2,e2];simp
 right;intro p hp;obtain⟨y,e1,e2⟩:=hz p hp;rw[e1,(h2 x y).1,(h2 x y).2,e2];simp
theorem oN.pk:∀l:List (α×PV X.Γ),vH X (C.es l)=some ((l.map (·.1)).map C.tv)
 | []=>rfl
 |a::l=>by show(match qp (C.pv a.1),vH X (C.es l)with|some v,some vs=>some (v::vs)|_,_=>none)=_;rw[C.hp,oN.pk l];rfl
theorem oN.ck(x:α):∃kv,(C.tv x).yL=some kv∧aB P (Instr.checkKey false 10000 kt kv)=some ():=⟨C.v x,C.ht x,C.hc false x⟩
theorem oN.fresh{l:List (α×PV X.Γ)}{x:α}(h:x∉l.map (·.1)):nV X P kt (C.es l) (C.tv x):=by
 refine⟨C.v x,_,C.ht x,C.pk l,?_⟩;have Yy:∀y∈l.map (·.1),decide (x=y)=false:=fun y hy=>by simp only[a2K];intro e;exact h (e▸hy)
 exact C.find x _ none (List.findIdx?_eq_none_iff.2 Yy) fun i y hy=>by rw[Yy y (a4E hy)];rfl
theorem oN.found{l:List (α×PV X.Γ)}{x:α}{v:PV X.Γ}(hn:(l.map (·.1)).Nodup)(h:(x,v)∈l):qB X P kt (C.es l) (C.tv x) v:=by
 obtain⟨j,hj,e⟩:=a4N.1 h;refine⟨C.v x,_,j,C.pv x,C.ht x,C.pk l,?_,?_⟩
 .have hxj:(l.map (·.1))[j]? = some x:=by simp[a0n hj,e]
  have hu:∀(i:Nat) y,(l.map (·.1))[i]? = some y->decide (x=y)=(some i==some j):=fun i y hy=>by
   rw[a4J];simp only[a1n,a6P,a01];constructor
   .rintro rfl;have i1:=a0a.1 hy;have i2:=a0a.1 hxj;exact(aaP hn (h₀:=i1.1) (h₁:=i2.1)).1 (i1.2.trans i2.2.symm)
   rintro rfl;rw[hxj]at hy;exact a9o hy
  refine C.find x _ (some j) ?_ hu;rw[aay];refine⟨by simpa using hj,by simp[e],fun i hi=>?_⟩;have hil:i<(l.map (·.1)).length:=by simp;omega
  rw[hu i _ (a0n hil)];simp;omega
 simp[oN.es,a0n hj,e]
theorem Jp{t:LI2}{d:TypeDesc}(h:P.underlying t=some d):aB P (underlying t)=some d:=by simp only[underlying,bJ];show Option.bind (some P) _=_;simp[h];rfl
theorem ZQ{v:α->LI3}(he:∀x y,aB P (Op.equal kt (v x) (v y))=some (decide (x=y)))(x:α):∀(l:List α) (i:Nat),aB P (Instr.findAsking kt (v x) (l.map fun y=>⟨v y,.bool false,0⟩) i)=some ((l.findIdx? fun y=>decide (x=y)).map fun j=>(j+i,.bool false))
 | [],i=>rfl
 |y::l,i=>by
  simp only[a4t,Instr.findAsking];rw[bJ,he,a4C,List.findIdx?_cons];cases decide (x=y)with
  |true=>simp only[a1I,a0A,a3I];rfl
  |false=>
   simp only[a2z,a3l];rw[ZQ he x l (i+1)];cases l.findIdx? fun y=>decide (x=y)with
   |none=>rfl
   |some j=>simp;omega
theorem a1x{v:α->LI3}{fs:Array Field}(hu:P.underlying kt=some (.struct fs))(he:∀x y,aB P (Op.equal kt (v x) (v y))=some (decide (x=y)))(x:α)(l:List α):aB P (Instr.findKey kt (v x) (l.map fun y=>⟨v y,.bool false,0⟩))=some ((l.findIdx? fun y=>decide (x=y)).map fun i=>(i,.bool false)):=by
 have h:=ZQ he x l 0;unfold Instr.findKey;rw[bJ,Jp hu,a4C];cases l with
 |nil=>rfl
 |cons y l=>
  rw[show Instr.findNow (.struct fs) (v x) ((y::l).map fun y=>⟨v y,.bool false,0⟩) 0=none by simp[Instr.findNow,Instr.sameNow]];exact h
theorem a1y{k:IntKind}(x:Int):∀(l:LI0) (i:Nat),Instr.findNow (.int k) (.int k x) (l.map fun y=>⟨.int k y,.bool false,0⟩) i=some ((l.findIdx? fun y=>decide (x=y)).map fun j=>(j+i,.bool false))
 | [],i=>rfl
 |y::l,i=>by
  simp only[a4t,Instr.findNow,Instr.sameNow,a1I];rw[List.findIdx?_cons];by_cases h:x=y
  .subst h;simp
  rw[show(x==y)=false by simpa using h,aeg h];simp only[a2z,a3l];rw[a1y x l (i+1)];cases l.findIdx? fun y=>decide (x=y)with
  |none=>rfl
  |some j=>simp;omega
theorem afc{k:IntKind}(hu:P.underlying kt=some (.int k))(x:Int)(l:LI0):aB P (Instr.findKey kt (.int k x) (l.map fun y=>⟨.int k y,.bool false,0⟩))=some ((l.findIdx? fun y=>decide (x=y)).map fun i=>(i,.bool false)):=by unfold Instr.findKey;rw[bJ,Jp hu,a4C,a1y x l 0];cases l.findIdx? fun y=>decide (x=y)<;>rfl
theorem a1z{v:α->LI3}{fs:Array Field}(hu:P.underlying kt=some (.struct fs))(he:∀x y,aB P (Op.equal kt (v x) (v y))=some (decide (x=y))) :
  ∃kind,aB P (underlying kt)=some kind∧((∀x y,Instr.sameNow kind (v x) (v y)=some (decide (x=y)))∨∀x y,Instr.sameNow kind (v x) (v y)=none∧aB P (Op.equal kt (v x) (v y))=some (decide (x=y))):=
 ⟨_,Jp hu,.inr fun x y=>⟨by simp[Instr.sameNow],he x y⟩⟩
theorem afd{k:IntKind}(hu:P.underlying kt=some (.int k)) :
  ∃kind,aB P (underlying kt)=some kind∧((∀x y:Int,Instr.sameNow kind (.int k x) (.int k y)=some (decide (x=y)))∨∀x y:Int,Instr.sameNow kind (.int k x) (.int k y)=none∧aB P (Op.equal kt (.int k x) (.int k y))=some (decide (x=y))):=
 ⟨_,Jp hu,.inl fun x y=>by simp only[Instr.sameNow,a1I];congr 1⟩
theorem afe{v:α->LI3}{n:Nat}{e:LI2}(hu:P.underlying kt=some (.array n e))(he:∀x y,aB P (Op.equal kt (v x) (v y))=some (decide (x=y)))(x:α)(l:List α):aB P (Instr.findKey kt (v x) (l.map fun y=>⟨v y,.bool false,0⟩))=some ((l.findIdx? fun y=>decide (x=y)).map fun i=>(i,.bool false)):=by
 have h:=ZQ he x l 0;unfold Instr.findKey;rw[bJ,Jp hu,a4C];cases l with
 |nil=>rfl
 |cons y l=>
  rw[show Instr.findNow (.array n e) (v x) ((y::l).map fun y=>⟨v y,.bool false,0⟩) 0=none by simp[Instr.findNow,Instr.sameNow]];exact h
theorem aff{v:α->LI3}{n:Nat}{e:LI2}(hu:P.underlying kt=some (.array n e))(he:∀x y,aB P (Op.equal kt (v x) (v y))=some (decide (x=y))) :
  ∃kind,aB P (underlying kt)=some kind∧((∀x y,Instr.sameNow kind (v x) (v y)=some (decide (x=y)))∨∀x y,Instr.sameNow kind (v x) (v y)=none∧aB P (Op.equal kt (v x) (v y))=some (decide (x=y))):=
 ⟨_,Jp hu,.inr fun x y=>⟨by simp[Instr.sameNow],he x y⟩⟩
end Pv
namespace Tw
open Go
section
variable {P:LI1}
theorem Dw{e:LI2}(hg:aB P (isAgg e)=some false){xs:Array LI3}{i:Nat}{v:LI3}(h:xs[i]? = some v):aB P (part e xs i)=some v:=by unfold part;rw[bJ,hg,a4C];simp only[a2z,a3l,h];rfl
def a3q(d:Nat)(e:LI2)(c:Nat)(xs ys:Array LI3):List Nat->Sem Bool
 | []=>pure true
 |i::is=>do
  let a <-part e xs (i*c)
  let b <-part e ys (i*c)
  let r <-Op.equalIn d e a b
  if(!r)=true then pure false else a3q d e c xs ys is
theorem Jq(d:Nat){t e:LI2}{n c:Nat}(xs ys:Array LI3)(hu:P.underlying t=some (.array n e))(hs:aB P (sizeOf e)=some c) :
  aB P (Op.equalIn (d+1) t (.agg xs) (.agg ys))=aB P (a3q d e c xs ys (List.range' 0 n)):=by
 have hu':aB P (underlying t)=some (.array n e):=by simp only[underlying,bJ];have:aB P program=some P:=rfl;simp[this,hu,aB];rfl
 simp only[Op.equalIn,bJ,hu',a4C,hs];simp only[Std.Legacy.Range.forIn_eq_forIn_range',Std.Legacy.Range.size,Nat.sub_zero,Nat.add_one_sub_one,Nat.div_one];generalize List.range' 0 n=is;clear hu hu' hs
 induction is with
 |nil=>simp[a3q,aB,bJ];rfl
 |cons j is ih=>
  simp only[List.forIn_cons,a3q,bJ]at ih ⊢;generalize aB P (part e xs (j*c))=r1;cases r1 with
  |none=>simp
  |some a=>
   simp only[a4C];generalize aB P (part e ys (j*c))=r2;cases r2 with
   |none=>simp
   |some b=>
    simp only[a4C];generalize aB P (Op.equalIn d e a b)=r3;cases r3 with
    |none=>simp
    |some r=>
     cases r with
     |false=>simp only[a4C,abM,a1I];rfl
     |true=>simp only[a4C,a9k,a2z,a3l];exact ih
abbrev Dx(k:IntKind)(l:LI0):Array LI3:=(l.map fun x=>Value.int k x).toArray
theorem P8{k:IntKind}{l:LI0}{i:Nat}(h:i<l.length):(Dx k l)[i]? = some (.int k l[i]):=by simp[Dx,h]
theorem KQ{d:Nat}{e:LI2}{k k':IntKind}(hu:P.underlying e=some (.int k'))(hg:aB P (isAgg e)=some false)(l l':LI0)(hl:l.length=l'.length):∀(m i:Nat),i+m=l.length->aB P (a3q (d+1) e 1 (Dx k l) (Dx k l') (List.range' i m))=some (decide (l.drop i=l'.drop i))
 | 0,i,h=>by rw[ag8 (by omega),ag8 (by omega)];rfl
 |m+1,i,h=>by
  have h1:i<l.length:=by omega
  have h2:i<l'.length:=by omega
  rw[List.range'_succ];simp only[a3q,ahc];rw[bJ,Dw hg (P8 h1),a4C,bJ,Dw hg (P8 h2),a4C,bJ,ru d e k k' _ _ hu,a4C];rw[a6d h1,a6d h2];by_cases hc:l[i]=l'[i]
  .have:=KQ (d:=d) (k:=k) hu hg l l' hl m (i+1) (by omega);simp only[hc,beq_self_eq_true,a9k,a2z,a3l,this,aed,true_and]
  have:(l[i]==l'[i])=false:=by simpa using hc
  simp only[this,abM,a1I,aed,hc,false_and,decide_false];rfl
theorem BQ(d:Nat){t e:LI2}{n:Nat}{k k':IntKind}(ht:P.underlying t=some (.array n e))(hs:aB P (sizeOf e)=some 1)(hu:P.underlying e=some (.int k'))(hg:aB P (isAgg e)=some false){l l':LI0}(hl:l.length=n)(hl':l'.length=n) :
  aB P (Op.equalIn (d+2) t (.agg (Dx k l)) (.agg (Dx k l')))=some (decide (l=l')):=by
 rw[Jq (d+1) _ _ ht hs,KQ hu hg l l' (by omega) n 0 (by omega),ab3,ab3]
end
end Tw
namespace Pv
open Go Tw
def yG:Code->Option (Code×Code)
 |.seq a b=>match yG a with
  |some r=>some r
  |none=>yG b
 |.cond _ a b=>match yG a with
  |some r=>some r
  |none=>yG b
 |.block _ b=>yG b
 |.loop b=>yG b
 |.rangeFunc _ _ a b=>some (a,b)
 |_=>none
def xk(P:LI1)(f:Nat):Code:=
 match TY P f with
 |some t=>match yG t.body with
  |some (a,_)=>a
  |none=>.skip
 |none=>.skip
def AY(P:LI1)(f:Nat):Code:=
 match TY P f with
 |some t=>match yG t.body with
  |some (_,b)=>b
  |none=>.skip
 |none=>.skip
section
variable {X:kP} {P:LI1}
theorem bZ.pre(hX:bP X P){call:aY}{f:FuncId}{cs MP xs:List (PV X.Γ)}{H H0 H1:List (PB X.Γ)}{v:PV X.Γ}(gs:List G)(hs:bZ X P call (.fn f [] []) (.agg MP::xs) H0 v H1)(hg:kT H.length gs (⟨[],[cs],H⟩:aT X.Γ)=some ⟨[],[MP],H0⟩):bZ X P call (.fn f [] []) (.agg cs::xs) H v H1:=by
 intro A m h tf qN hr hf hx;obtain⟨x0,r,rfl,v0,vr⟩:=hx.inv;cases v0 with
 |gone hi _ _=>simp[bD]at hi
 |agg a1 a2=>
  rename_i cs';obtain⟨m2,q1,q2,q3⟩:=lS hX hg A (fun b=>b∈bC m) h.length m ⟨[],[cs'],h,[]⟩ ⟨⟨hr,rfl,fun k c hk=>by
   cases k with
   |zero=>simp only[a2C,a01]at hk;subst hk;exact⟨cs',rfl,a1,a2⟩
   |succ k=>simp at hk,.nil⟩,fun b hb=>.inl hb,fun b hb=>(by cases hb),a0E _⟩
  have up:Up m m2:=fun i mb hi=>q3 i mb (by rw[<-hr.len];exact(a0a.1 hi).1) hi;obtain⟨c2,e1,w1⟩:=q1.st.loc 0 MP rfl;simp only[a2C,a01]at e1;subst e1;obtain⟨w,h',ws,m1,k1,k2,k3,k4,k5,k6⟩:=hs A m2 h tf (.agg cs'::r) q1.st.heap (hf.step q2 up) (.cons (.agg w1.1 w1.2) (vr.step q2 up));refine⟨w,h',ws,m1,k1,k2,k3,q2.trans k4,fun i mb hi=>?_,fun b hb=>?_⟩
  .rcases up i mb hi with g|g
   .exact k5 i mb g
   rcases k5 i _ g with g|g<;>exact .inr g
  have hb:=k6 b hb;rcases q1.own b hb with g|g
  .exact g
  have:=q1.st.heap.inb hb;have:b<h.length:=this;omega
end
section
variable {X:kP} {P:LI1}
theorem Eo{A:Nat->Prop}{m:List MB}{h:List HB}:∀{a b:List (PV X.Γ)} {z:List TV},bY X P A m h (a++b) z->∃x y,z=x++y∧bY X P A m h a x∧bY X P A m h b y
 | [],b,z,hz=>⟨[],z,rfl,.nil,hz⟩
 |v::a,b,z,hz=>by obtain⟨x0,r,rfl,v0,vr⟩:=bY.inv (v:=v) (vs:=a++b) hz;obtain⟨x,y,rfl,h1,h2⟩:=Eo vr;exact⟨x0::x,y,rfl,.cons v0 h1,h2⟩
theorem bZ.fz(hX:bP X P){call:aY}{f:FuncId}{cs ws rest xs:List (PV X.Γ)}{H H1:List (PB X.Γ)}{v:PV X.Γ}(is:List Nat)(hs:bZ X P call (.fn f [] []) (.agg (ws++rest)::xs) (bn is H) v H1)(hv:views H cs=some ws)(ho:∀i,i∈kG.ku cs->i∈is):bZ X P call (.fn f [] []) (.agg (cs++rest)::xs) H v H1:=by
 intro A m h tf qN hr hf hx;obtain⟨x0,r,rfl,v0,vr⟩:=hx.inv;cases v0 with
 |gone hi _ _=>simp[bD]at hi
 |agg a1 a2=>
  rename_i cs';have ha:bY X P (AA A m) m h (cs++rest) cs':=⟨a1,a2⟩;obtain⟨c1,c2,rfl,b1,b2⟩:=Eo ha;have hF:=iJ (h:=h) is m;have w1:=(lM (m':=dw is m) hX hr b1 hv ho).mono fun b hb=>FA.gone hr hb;have w2:=b2.step hF.1 hF.2;have w3:=w1.app w2;obtain⟨w,h',VT,m1,k1,k2,k3,k4,k5,k6⟩:=hs A (dw is m) h tf (.agg (c1++c2)::r) (hr.bn is) (hf.step hF.1 hF.2) (.cons (.agg w3.1 w3.2) (vr.step hF.1 hF.2));refine⟨w,h',VT,m1,k1,k2,k3,hF.1.trans k4,hF.2.trans k5,fun b hb=>?_⟩;rcases hF.1.new b (k6 b hb)with g|g
  .exact g
  have:=(hr.bn is).inb (k6 b hb);omega
end
theorem Good.aci{X:kP}{P:LI1}{T:qK}{L:Nat}{α β:Type}{f:FuncId}{a:UN X P α}{r:Ar X P β}{S:α->β}{pre:α->List Prop}{fV Xl a6L:fB X.Γ}(d:Nat)(hg:Good X P T L fV)(hg2:Good X P T L Xl)(hg3:Good X P T L a6L)
  (hf:∀n,d<=n->(∀m,n-d<=m->jJ X P (lC P T L m) fV)->(∀m,n-d<=m->jJ X P (lC P T L m) Xl)->(∀m,n-d<=m->jJ X P (lC P T L m) a6L)->∀x,(∀p∈pre x,p)->pO X P (lC P T L (n+1)) f (a.put x) (r.put (S x)) []):Good X P T L (cu f a r S pre fV):=by
 obtain⟨N2,hN2⟩:=hg2;obtain⟨N3,hN3⟩:=hg3;obtain⟨M,hM⟩:=hg;refine⟨M+N2+N3+d+1,fun n hn=>?_⟩;obtain⟨k,rfl⟩:∃k,n=k+1:=⟨n-1,by omega⟩;intro g vs v ext ps ho hp;unfold cu at ho;split at ho
 .rename_i e;have e:=a9b e;subst e;split at ho
  .rename_i x hx;cases ho;intro A h first args cap IQ hv
   exact hf k (by omega) (fun m hm=>hM m (by omega)) (fun m hm=>hN2 m (by omega)) (fun m hm=>hN3 m (by omega)) x hp A h first args cap IQ (a.ok hx hv)
  .exact hM (k+1) (by omega) g vs v ext ps ho hp
 .exact hM (k+1) (by omega) g vs v ext ps ho hp
end Pv
namespace dB
open Tw
section
variable {κ:Type} [DecidableEq κ]
def sG(m:List (κ×Int))(k:κ)(n:Int):List (κ×Int):=
 if k∈m.map (·.1)then m.modify ((m.map (·.1)).idxOf k) (fun e=>(e.1,e.2+n))else m++[(k,n)]
def dI(φ:κ->Int):List (κ×Int)->Int
 | []=>0
 |e::m=>e.2*φ e.1+dI φ m
theorem Xu(φ:κ->Int):∀a b:List (κ×Int),dI φ (a++b)=dI φ a+dI φ b
 | [],b=>by simp[dI]
 |e::a,b=>by simp only[List.cons_append,dI,Xu φ a b];omega
theorem Xv(φ:κ->Int){k:κ}{n:Int}:∀{m:List (κ×Int)},k∈m.map (·.1)->dI φ (m.modify ((m.map (·.1)).idxOf k) fun e=>(e.1,e.2+n))=dI φ m+n*φ k
 | [],h=>by simp at h
 |e::m,h=>by
  by_cases e1:e.1=k
  .have:((e::m).map (·.1)).idxOf k=0:=(by simp[adF,e1]);rw[this];simp only[List.modify_zero_cons,dI,afW,e1];omega
  have h2:k∈m.map (·.1):=by rw[a4t,a1F]at h;exact h.resolve_left fun h=>e1 h.symm
  have:((e::m).map (·.1)).idxOf k=(m.map (·.1)).idxOf k+1:=by simp[adF,ah8.2 e1]
  rw[this];simp only[List.modify_succ_cons,dI,Xv φ h2];omega
theorem zN(φ:κ->Int)(m:List (κ×Int))(k:κ)(n:Int):dI φ (sG m k n)=dI φ m+n*φ k:=by
 unfold sG;split
 .exact Xv φ ‹_›
 rw[Xu];simp[dI]
theorem Xw{f:Int->Int}:∀(m:List (κ×Int)) (j:Nat),(m.modify j fun e=>(e.1,f e.2)).map (·.1)=m.map (·.1)
 | [],j=>by simp
 |e::m,0=>by simp
 |e::m,j+1=>by simp[Xw m j]
theorem SN(m:List (κ×Int))(k:κ)(n:Int):(sG m k n).map (·.1)=if k∈m.map (·.1)then m.map (·.1)else m.map (·.1)++[k]:=by
 unfold sG;split
 .exact Xw (f:=fun x=>x+n) m _
 simp
theorem G8{m:List (κ×Int)}(h:(m.map (·.1)).Nodup)(k:κ)(n:Int):((sG m k n).map (·.1)).Nodup:=by
 rw[SN];split
 .exact h
 rename_i h2;rw[a96];exact⟨h,by simp,fun x hx y hy e=>by simp at hy;subst hy;subst e;exact h2 hx⟩
theorem a1A{f:κ×Int->κ×Int}:∀{m:List (κ×Int)} {j:Nat} {e:κ×Int},e∈m.modify j f->e∈m∨∃e'∈m,e=f e'
 | [],j,e,h=>by simp at h
 |x::m,0,e,h=>by
  rw[List.modify_zero_cons,a1F]at h;rcases h with h|h
  .exact .inr ⟨x,by simp,h⟩
  exact .inl (by simp[h])
 |x::m,j+1,e,h=>by
  rw[List.modify_succ_cons,a1F]at h;rcases h with h|h
  .exact .inl (by simp[h])
  rcases a1A h with h|⟨e',h1,h2⟩
  .exact .inl (by simp[h])
  exact .inr ⟨e',by simp[h1],h2⟩
theorem P9{m:List (κ×Int)}{k:κ}{n:Int}(hn:0<n)(h:∀e∈m,0<e.2):∀e∈sG m k n,0<e.2:=fun e he=>by
 unfold sG at he;split at he
 .rcases a1A he with h1|⟨e',h1,rfl⟩
  .exact h e h1
  .have:=h e' h1;show 0<e'.2+n;omega
 .rcases a3c.1 he with h1|h1
  .exact h e h1
  .rw[a2D.1 h1];exact hn
theorem a6M{m:List (κ×Int)}{k:κ}{n:Int}{e:κ×Int}(he:e∈sG m k n):e.1=k∨∃e'∈m,e'.1=e.1:=by
 have:e.1∈(sG m k n).map (·.1):=a1k.2 ⟨e,he,rfl⟩;rw[SN]at this;split at this
 .obtain⟨e',h1,h2⟩:=a1k.1 this;exact .inr ⟨e',h1,h2⟩
 rcases a3c.1 this with h1|h1
 .obtain⟨e',h1,h2⟩:=a1k.1 h1;exact .inr ⟨e',h1,h2⟩
 exact .inl (by simpa using h1)
def ind(k:κ)(x:κ):Int:=if x=k then 1 else 0
theorem UZ{k:κ}:∀{m:List (κ×Int)},k∉m.map (·.1)->dI (ind k) m=0
 | [],_=>rfl
 |e::m,h=>by rw[a4t,a1F,adE]at h;simp only[dI,UZ h.2,ind,a0q (fun e1:e.1=k=>h.1 e1.symm)];omega
theorem Ib:∀{m:List (κ×Int)} {e:κ×Int},(m.map (·.1)).Nodup->e∈m->dI (ind e.1) m=e.2
 |x::m,e,hn,h=>by
  rw[a4t,a4z]at hn;rcases a1F.1 h with rfl|h
  .simp only[dI,UZ hn.1,ind,a1I];omega
  have:¬x.1=e.1:=fun e1=>hn.1 (a1k.2 ⟨e,h,e1.symm⟩);simp only[dI,Ib hn.2 h,ind,a0q this];omega
theorem Xx{m:List (κ×Int)}(hn:(m.map (·.1)).Nodup)(hp:∀e∈m,0<e.2)(e:κ×Int):e∈m↔0<e.2∧dI (ind e.1) m=e.2:=by
 constructor
 .exact fun h=>⟨hp e h,Ib hn h⟩
 rintro⟨h1,h2⟩;by_cases h:e.1∈m.map (·.1)
 .obtain⟨e',h3,h4⟩:=a1k.1 h;have:=Ib hn h3;have h4:e'.1=e.1:=h4;rw[h4,h2]at this;have:e'=e:=ado h4 this.symm;rw[<-this];exact h3
 rw[UZ h]at h2;omega
theorem Ic{β:Type}{f:κ×Int->β}{l:List (κ×Int)}(h:(l.map f).Nodup):l.Nodup:=by rw[List.Nodup,afK]at h;exact h.imp fun{a b} h (e:a=b)=>h (congrArg f e)
theorem V3{m m':List (κ×Int)}(h1:(m.map (·.1)).Nodup)(h2:(m'.map (·.1)).Nodup)(p1:∀e∈m,0<e.2)(p2:∀e∈m',0<e.2)(h:∀φ,dI φ m=dI φ m'):m.Perm m':=
 (a7H (Ic h1) (Ic h2)).2 fun e=>by rw[Xx h1 p1,Xx h2 p2,h]
theorem a3r(φ:κ->Int){m m':List (κ×Int)}(h:m.Perm m'):dI φ m=dI φ m':=by
 induction h with
 |nil=>rfl
 |cons x _ ih=>simp only[dI,ih]
 |swap x y l=>simp only[dI];omega
 |trans _ _ h1 h2=>exact h1.trans h2
def AZ(l:List κ):List (κ×Int):=l.foldl (fun m k=>sG m k 1) []
def eu(φ:κ->Int):List κ->Int
 | []=>0
 |k::l=>φ k+eu φ l
theorem Xy(φ:κ->Int):∀(l:List κ) (m:List (κ×Int)),dI φ (l.foldl (fun m k=>sG m k 1) m)=dI φ m+eu φ l
 | [],m=>by simp[eu]
 |k::l,m=>by rw[adB,Xy φ l,zN,eu];omega
theorem SQ(φ:κ->Int)(l:List κ):dI φ (AZ l)=eu φ l:=by unfold AZ;rw[Xy];simp[dI]
theorem G9(l:List κ):((AZ l).map (·.1)).Nodup∧∀e∈AZ l,0<e.2:=by
 have:∀(l:List κ) (m:List (κ×Int)),(m.map (·.1)).Nodup->(∀e∈m,0<e.2)->((l.foldl (fun m k=>sG m k 1) m).map (·.1)).Nodup∧∀e∈l.foldl (fun m k=>sG m k 1) m,0<e.2:=by
  intro l
  induction l with
  |nil=>exact fun m h1 h2=>⟨h1,h2⟩
  |cons k l ih=>exact fun m h1 h2=>ih _ (G8 h1 k 1) (P9 (by omega) h2)
 exact this l [] (by simp) (by simp)
theorem Jr(φ:κ->Int){l l':List κ}(h:l.Perm l'):eu φ l=eu φ l':=by
 induction h with
 |nil=>rfl
 |cons x _ ih=>simp only[eu,ih]
 |swap x y l=>simp only[eu];omega
 |trans _ _ h1 h2=>exact h1.trans h2
theorem Ie(φ:κ->Int):∀a b:List κ,eu φ (a++b)=eu φ a+eu φ b
 | [],b=>by simp[eu]
 |e::a,b=>by simp only[List.cons_append,eu,Ie φ a b];omega
end
theorem Js:∀a b:LI0,lK a b=true∨lK b a=true
 | [],_=>.inl rfl
 |_::_,[]=>.inr rfl
 |a::az,b::bs=>by
  simp only[lK];rcases Int.lt_trichotomy a b with h|h|h
  .simp[h]
  .subst h;simpa using Js az bs
  simp[h]
theorem Dy:∀a b:LI0,lK a b=true->lK b a=true->a=b
 | [],[],_,_=>rfl
 | [],_::_,_,h=>by cases h
 |_::_,[],h,_=>by cases h
 |a::az,b::bs,h1,h2=>by
  simp only[lK]at h1 h2;rcases Int.lt_trichotomy a b with h|h|h
  .rw[a0q (by omega),a0u h]at h2;cases h2
  .subst h;simp at h1 h2;rw[Dy az bs h1 h2]
  rw[a0q (by omega),a0u h]at h1;cases h1
theorem lex_trans:∀a b c:LI0,lK a b=true->lK b c=true->lK a c=true
 | [],_,_,_,_=>rfl
 |_::_,[],_,h,_=>by cases h
 |_::_,_::_,[],_,h=>by cases h
 |a::az,b::bs,c::cs,h1,h2=>by
  simp only[lK]at h1 h2 ⊢;split at h1
  .split at h2
   .rw[a0u (by omega)]
   split at h2
   .cases h2
   rw[a0u (by omega)]
  split at h1
  .cases h1
  split at h2
  .rw[a0u (by omega)]
  split at h2
  .cases h2
  rw[a0q (by omega),a0q (by omega)];exact lex_trans az bs cs h1 h2
section
variable {α:Type} {key:α->LI0}
theorem SS{a b:α}(h:key a=key b->a=b):∀s:List α,EJ key a (EJ key b s)=EJ key b (EJ key a s)
 | []=>by
  by_cases e:a=b
  .rw[e]
  simp only[EJ];rcases Js (key a) (key b)with h1|h1
  .have:lK (key b) (key a)=false:=by
    cases h2:lK (key b) (key a)
    .rfl
    exact absurd (h (Dy _ _ h1 h2)) e
   simp[h1,this]
  have:lK (key a) (key b)=false:=by
   cases h2:lK (key a) (key b)
   .rfl
   exact absurd (h (Dy _ _ h2 h1)) e
  simp[h1,this]
 |c::s=>by
  by_cases e:a=b
  .rw[e]
  have hx:lK (key a) (key b)=!lK (key b) (key a):=by
   rcases Js (key a) (key b)with h1|h1
   .cases h2:lK (key b) (key a)
    .rw[h1];rfl
    exact absurd (h (Dy _ _ h1 h2)) e
   cases h2:lK (key a) (key b)
   .rw[h1];rfl
   exact absurd (h (Dy _ _ h2 h1)) e
  cases h1:lK (key a) (key c)<;>cases h2:lK (key b) (key c)
  .simp only[EJ,h1,h2,a2z,a3l,SS h s]
  .have h3:lK (key a) (key b)=false:=by
    cases h3:lK (key a) (key b)
    .rfl
    rw[lex_trans _ _ _ h3 h2]at h1;cases h1
   simp only[EJ,h1,h2,h3,a2z,a3l,a1I]
  .have h3:lK (key b) (key a)=false:=by
    cases h3:lK (key b) (key a)
    .rfl
    rw[lex_trans _ _ _ h3 h1]at h2;cases h2
   simp only[EJ,h1,h2,h3,a2z,a3l,a1I]
  cases h3:lK (key b) (key a)<;>rw[h3]at hx<;>simp[EJ,h1,h2,h3,hx]
theorem Fh{l l':List α}(h:l.Perm l')(hi:∀a∈l,∀b∈l,key a=key b->a=b):zC key l=zC key l':=by
 induction h with
 |nil=>rfl
 |cons x _ ih=>simp only[zC,ih fun a ha b hb=>hi a (by simp[ha]) b (by simp[hb])]
 |swap x y l=>exact SS (hi y (by simp) x (by simp)) _
 |trans h1 h2 i1 i2=>exact(i1 hi).trans (i2 fun a ha b hb=>hi a (h1.mem_iff.2 ha) b (h1.mem_iff.2 hb))
theorem SV{β:Type}{g:α->β}{a6N:β->LI0}(h:∀a,a6N (g a)=key a):∀l:List α,zC a6N (l.map g)=(zC key l).map g:=by
 have hi:∀(a:α) (s:List α),EJ a6N (g a) (s.map g)=(EJ key a s).map g:=by
  intro a s
  induction s with
  |nil=>rfl
  |cons c s ih=>
   simp only[a4t,EJ,h];split
   .rfl
   rw[a4t,ih]
 intro l
 induction l with
 |nil=>rfl
 |cons a l ih=>simp only[a4t,zC,ih,hi]
end
end dB
namespace Pv
open Go Tw
section
variable {P:LI1} {T:qK} {call:aY} {cd:vG} {L f:Nat} {fl nt:Nat}
def o8:Code->Bool
 |.rangeFunc ..=>false
 |.region _ ops _=>(Aw ops).isNone
 |.seq a b=>o8 a&&o8 b
 |.cond _ a b=>o8 a&&o8 b
 |.block _ b=>o8 b
 |.scope b=>o8 b
 |.loop b=>o8 b
 |_=>true
theorem a6O:∀(c:Code) {s s':St} {e:Ex} {Q:Ex->St->Prop},o8 c=true->exec P T call L f false fl nt c s=some (e,s')->Q e s'->fM P T call cd L f fl nt c s Q:=by
 intro c
 induction c with
 |region id ops draw=>
  intro s s' e Q hn h hq;simp only[o8,Option.isNone_iff_eq_none]at hn;simp only[fM,hn];exact⟨_,_,h,hq⟩
 |seq x y WB ihy=>
  intro s s' e Q hn h hq;simp only[o8,a2f]at hn;simp only[fM];simp only[exec]at h;split at h
  .rename_i s1 hx;exact WB hn.1 hx (ihy hn.2 h hq)
  rename_i iF;refine WB hn.1 h ?_;cases e with
  |norm=>exact(iF s' h).elim
  |exit i=>exact hq
  |ret=>exact hq
 |cond c x y WB ihy=>
  intro s s' e Q hn h hq;simp only[o8,a2f]at hn;simp only[fM];simp only[exec]at h;split at h
  .rename_i hc;simp only[hc];exact WB hn.1 h hq
  .rename_i hc;simp only[hc];exact ihy hn.2 h hq
  cases h
 |block id b ih=>
  intro s s' e Q hn h hq;simp only[o8]at hn;simp only[fM];simp only[exec]at h;split at h
  .rename_i i s1 hb;cases h;exact ih hn hb hq
  rename_i iF;refine ih hn h ?_;cases e with
  |exit i=>exact(iF i s' h).elim
  |norm=>exact hq
  |ret=>exact hq
 |scope b ih=>
  intro s s' e Q hn h hq;simp only[o8]at hn;simp only[fM];simp only[exec]at h;exact ih hn h hq
 |loop b ih=>
  intro s s' e Q hn h hq;simp only[o8]at hn;simp only[fM];simp only[exec]at h;have:∀(k:Nat) {s:St},iter (fun s=>exec P T call L f false fl nt b (kC (T.eY f (dU b)) s)) k s=some (e,s')->H7 (fun s Q=>fM P T call cd L f fl nt b (kC (T.eY f (dU b)) s) Q) k s Q:=by
   intro k
   induction k with
   |zero=>intro s h;simp[iter]at h
   |succ k ihk=>
    intro s h;simp only[iter]at h;split at h
    .rename_i s1 h1;exact ih hn h1 (ihk h)
    rename_i iF;refine ih hn h ?_;cases e with
    |norm=>exact(iF s' h).elim
    |exit i=>exact hq
    |ret=>exact hq
  exact this L h
 |rangeFunc=>intro s s' e Q hn;cases hn
 |_=>
  intro s s' e Q hn h hq;simp only[fM];exact⟨_,_,h,hq⟩
end
section
variable {X:kP} {P:LI1} {T:qK} {call:aY} {cd:vG} {L f nt B:Nat}
def aJ(X:kP)(P:LI1)(T:qK)(call:aY)(cd:vG)(L f nt B:Nat)(c:Code)(ps:aT X.Γ)(Q:Ex->aT X.Γ->Prop):Prop:=
 ∀(A W:Nat->Prop) (fl:Nat) (m:List MB) (ts:St) (R:Ex->St->Prop),SR X P A W fl m ps ts->(∀e iO ps1 m1,Q e ps1->SR X P A W fl m1 ps1 iO->Fr m ts.heap m1 iO.heap->MV B m m1->R e iO)->fM P T call cd L f fl nt c ts R
theorem aJ.mono{c:Code}{ps:aT X.Γ}{Q Q':Ex->aT X.Γ->Prop}(hq:∀e s,Q e s->Q' e s)(h:aJ X P T call cd L f nt B c ps Q):aJ X P T call cd L f nt B c ps Q':=fun A W fl m ts R hS hR=>
 h A W fl m ts R hS fun e iO ps1 m1 a1=>hR e iO ps1 m1 (hq _ _ a1)
theorem dN.dem{c:Code}{ps ps1:aT X.Γ}{e:Ex}{Q:Ex->aT X.Γ->Prop}(hn:o8 c=true)(h:dN X P T call L f false nt B c ps e ps1)(hq:Q e ps1):aJ X P T call cd L f nt B c ps Q:=fun A W fl m ts R hS hR=>by obtain⟨iO,m1,h1,h2,h3,h4⟩:=h A W fl m ts hS;exact a6O c hn h1 (hR _ _ ps1 m1 hq h2 h3 h4)
theorem aJ.seq{a b:Code}{ps:aT X.Γ}{Q R:Ex->aT X.Γ->Prop}(ha:aJ X P T call cd L f nt B a ps R)(hb:∀s,R .norm s->aJ X P T call cd L f nt B b s Q)(he:∀i s,R (.exit i) s->Q (.exit i) s)(hr:∀s,R .ret s->Q .ret s):aJ X P T call cd L f nt B (.seq a b) ps Q:=fun A W fl m ts R' hS hR=>by
 simp only[fM];refine ha A W fl m ts _ hS fun e iO ps1 m1 a1 a2 a3 a4=>?_;cases e with
 |norm=>exact hb ps1 a1 A W fl m1 iO R' a2 fun e ts2 CV m2 b1 b2 b3 b4=>hR e ts2 CV m2 b1 b2 (a3.trans b3) (a4.trans b4)
 |exit i=>exact hR _ _ ps1 m1 (he _ _ a1) a2 a3 a4
 |ret=>exact hR _ _ ps1 m1 (hr _ a1) a2 a3 a4
theorem aJ.block{id:Nat}{b:Code}{ps:aT X.Γ}{Q:Ex->aT X.Γ->Prop}(h:aJ X P T call cd L f nt B b ps fun e s=>Q (match e with|.exit i=>if i=id then .norm else .exit i|e=>e) s):aJ X P T call cd L f nt B (.block id b) ps Q:=fun A W fl m ts R hS hR=>by simp only[fM];exact h A W fl m ts _ hS fun e iO ps1 m1 a1 a2 a3 a4=>hR _ iO ps1 m1 a1 a2 a3 a4
theorem aJ.loop{b:Code}{Q:Ex->aT X.Γ->Prop}(I:Nat->aT X.Γ->Prop)
  (h:∀k s,I k s->aJ X P T call cd L f nt B b (gW X (T.eY f (dU b)) s) fun e s=>match e with|.norm=>∃j,j<k∧I j s|e=>Q e s) {k:Nat} {ps:aT X.Γ} (hi:I k ps) (hk:k<L):aJ X P T call cd L f nt B (.loop b) ps Q:=fun A W fl m ts R hS hR=>by
 simp only[fM];have key:∀(n k:Nat) (ps:aT X.Γ) (m1:List MB) (iO:St),k<n->I k ps->SR X P A W fl m1 ps iO->Fr m ts.heap m1 iO.heap->MV B m m1->H7 (fun s Q=>fM P T call cd L f fl nt b (kC (T.eY f (dU b)) s) Q) n iO R:=by
  intro n
  induction n with
  |zero=>intro k ps m ts hk;omega
  |succ n ih=>
   intro k ps m1 iO hk hi hS hF hU;simp only[H7];refine h k ps hi A W fl m1 _ _ (hS.head _) fun e ts2 CV m2 a1 a2 a3 a4=>?_;have a3:Fr m1 iO.heap m2 ts2.heap:=a3;cases e with
   |norm=>
    obtain⟨j,hj,Ap⟩:=a1;exact ih j CV m2 ts2 (by omega) Ap a2 (hF.trans a3) (hU.trans a4)
   |exit i=>exact hR _ _ CV m2 a1 a2 (hF.trans a3) (hU.trans a4)
   |ret=>exact hR _ _ CV m2 a1 a2 (hF.trans a3) (hU.trans a4)
 exact key L k ps m ts hk hi hS .refl Up.refl.b
theorem aJ.cond{c:Operand}{a b:Code}{ps:aT X.Γ}{t:Bool}{Q:Ex->aT X.Γ->Prop}(hc:Ae ps.env c=some (.bool t))(h:aJ X P T call cd L f nt B (if t then a else b) ps Q):aJ X P T call cd L f nt B (.cond c a b) ps Q:=fun A W fl m ts R hS=>by
 obtain⟨x,g1,g2⟩:=jA hS.st.env hc;have hx:x=.bool t:=by
  cases g2 with
  |bool=>rfl
  |gone hi _ _=>simp[bD]at hi
 subst hx;simp only[fM,g1];cases t with
 |true=>exact h A W fl m ts R hS
 |false=>exact h A W fl m ts R hS
theorem aJ.next{id it nx mo b r n:Nat}{seen:List Nat}{ops:Array Oper}{draw:Bool}{o1 o2:Oper}{ps:aT X.Γ}{es:List (PV X.Γ×PV X.Γ)}{Q:Ex->aT X.Γ->Prop}(hn:Aw ops=some (it,nx,o1,o2))(hd:nx<nt)(hd2:mo<nt)
  (h2:o2.op=.extract (.tmp nx) 0) (h3:o2.dst=some mo) (h4:o2.guard=none)
  (Qy:Ae ps.env (.tmp it)=some (.iter b)) (hb:ps.heap[b]? = some (.dD r n seen)) (hr:KG X ps.heap r=some es) (hl:es.length=n)
  (wC:(∀j,j<n->j∈seen)->Q .norm { ps with env:=jo (T.iE f id) ((mo,.val (.bool false))::(nx,.val (.cO [.bool false]))::ps.env) })
  (pick:∀j e,j∉seen->es[j]? = some e->Q .norm { ps with env:=jo (T.iE f id) ((mo,.val (.bool true))::(nx,.val (.cO [.bool true,e.1,e.2]))::ps.env),heap:=ps.heap.set b (.dD r n (j::seen)) }) :
  aJ X P T call cd L f nt B (.region id ops draw) ps Q:=fun A W fl m ts R hS hR0=>by
 obtain⟨x,g1,g2⟩:=jA hS.st.env Qy;obtain⟨mb,q1,q2⟩:=hS.st.heap.at_ b _ hb;obtain⟨cr,gG,q3,z1,z2,z3⟩:=Dj hS.st.heap hr;cases mb with
 |gJ cb=>
   obtain⟨c,p1,p2,p3⟩:=q2;have:=p3 cr (by rcases q3 with q|⟨q,_⟩;exact .inl q;exact .inr q);subst this;cases g2 with
   |gone hi e _=>simp only[bD,a01]at hi;subst hi;rw[q1]at e;cases e
   |iter e1=>
    rw[q1]at e1;cases e1;have aoN:dM it ts.env=some (.val (.iter cb)):=by
     unfold qO at g1;split at g1
     .rename_i v hv;cases g1;exact hv
     .cases g1
    have run:∀(s:St) (t:Bool) (vs:List TV),lG P call (fun d=>T.U0 f d) fl nt ops [o2] (s.put (some nx) (.val (.cO (.bool t::vs))))=some ({ s with env:=(mo,.val (.bool t))::(nx,.val (.cO (.bool t::vs)))::s.env },[cZ]):=by intro s t vs;have e1:Nv nt o2=true:=(by simp[Nv,h3,hd2]);have e2:∀env,CS ops env o2=some true:=fun env=>(by simp[CS,h4]);simp only[lG,e1,e2,a9k,a2z,a3l,pG,h2];simp[St.put,IJ,dM,h3,jZ,cZ,yZ]
    simp only[fM,hn];refine⟨hd,cb,cr,n,seen,gG,aoN,p1,z1,by rw[<-z2];exact hl,fun FM=>?_,fun j e hj he=>?_⟩
    .refine⟨_,_,run ts false [],hR0 _ _ { ps with env:=_ } m (wC FM) ?_ .refl Up.refl.b⟩;have hS2:uY X P A m { ps with env:=(mo,.val (.bool false))::(nx,.val (.cO [.bool false]))::ps.env } { ts with env:=(mo,.val (.bool false))::(nx,.val (.cO [.bool false]))::ts.env }:=
      ⟨hS.st.heap,hS.st.llen,hS.st.loc,.cons (.bool false) (.cons (bY.cons (.bool false) .nil |> fun h=>.cO h.1 h.2) hS.st.env)⟩
     exact SR.pick ⟨hS2,hS.own,hS.ws,hS.fl⟩ _
    .have aQ:j<es.length:=by rw[z2];exact(a0a.1 he).1
     have hej:=a0n aQ;have hv:=z3 j _ _ hej he;have hcb:=(a0a.1 p1).1;obtain⟨u1,u2⟩:=hS.st.heap.set (pb:=.dD r n (j::seen)) (hb:=.dD cr n (j::seen)) q1 (c:=cb) rfl (fun cs hc=>by simp[aX,p1]at hc) fun hF=>⟨cr,by simp[hcb],p2,p3⟩;refine⟨_,_,run _ true [e.1,e.2],hR0 _ _ { ps with env:=_,heap:=_ } m (pick j _ hj hej) ?_ u2 Up.refl.b⟩;have hS1:=hS.st.step u1 u2 .refl;have hS2:uY X P A m { ps with env:=(mo,.val (.bool true))::(nx,.val (.cO [.bool true,es[j].1,es[j].2]))::ps.env,heap:=ps.heap.set b (.dD r n (j::seen)) } { ts with env:=(mo,.val (.bool true))::(nx,.val (.cO [.bool true,e.1,e.2]))::ts.env,heap:=ts.heap.set cb (.dD cr n (j::seen)),ws:=jZ fl [.h cb] ts.ws }:=
      ⟨hS1.heap,hS1.llen,hS1.loc,.cons (.bool true) (.cons (bY.cons (.bool true) (bY.cons (nY hv.1) (bY.cons (nY hv.2) .nil)) |> fun h=>.cO h.1 h.2) hS1.env)⟩
     refine SR.pick ⟨hS2,hS.own,fun b2 yu=>?_,by simpa using hS.fl⟩ _;rcases oJ.1 yu with h5|⟨h5,h6⟩
     .exact hS.ws b2 h5
     .simp at h5;subst h5;exact(hS.own _ (bf q1 rfl)).resolve_right (by omega)
 |_=>exact q2.elim
def aaf(X:kP)(P:LI1)(cd:vG)(fv:PV X.Γ)(xs:List (PV X.Γ))(H:List (PB X.Γ))(K:PV X.Γ->List (PB X.Γ)->Prop):Prop:=
 ∀(A:Nat->Prop) (m:List MB) (h:List HB) (tf:TV) (qN:List TV) (R:TV->List HB->List Nat->Prop),HR X P A m H h->VR X P (AA A m) m h fv tf->bY X P (AA A m) m h xs qN ->
  (∀w h1 ws m1 v H1,K v H1->HR X P A m1 H1 h1->VR X P (AA A m1) m1 h1 v w->Fr m h m1 h1->Up m m1->(∀b∈ws,b∈bC m)->R w h1 ws)->cd tf qN h R
theorem a1B{n:Nat}{t:FnT}{first xs cap:List (PV X.Γ)}{H:List (PB X.Γ)}{K:PV X.Γ->List (PB X.Γ)->Prop}(hX:bP X P)(ht:TY P f=some t)
  (hE:aJ X P T (lC P T L n) D8 L f t.nt H.length t.body ⟨lD X 0 (first++xs++cap),[],H⟩ fun e s=>(e=.norm∨e=.ret)∧∃us,Fb X P s t.results=some us∧K (Zx X us) s.heap):aaf X P (uV P T (lC P T L n) L) (.fn f first cap) xs H K:=by
 intro A m h tf qN R hr hf O1 hR;cases hf with
 |gone hi _ _=>simp[bD]at hi
 |fn p1 p2 p3 p4=>
  rename_i a' c';have F8:=(bY.app ⟨p1,p2⟩ O1).app ⟨p3,p4⟩;refine⟨t,ht,hE A (fun b=>b∈bC m) _ m _ _ ⟨⟨hr,rfl,fun k cs hk=>by simp at hk,MW F8⟩,fun b h1=>.inl h1,fun b hb=>(by cases hb),a0E _⟩ fun e iO ps1 m1 ⟨he,us,hus,hk⟩ h3 h4 h5=>?_⟩;obtain⟨ws,g1,g2⟩:=J9 hX h3.st hus;refine⟨he,ws,g1,hR _ _ _ m1 _ _ hk h3.st.heap (UL g2) h4 (fun i mb hi=>h5 i mb ?_ hi) h3.ws⟩;rw[<-hr.len];exact(a0a.1 hi).1
theorem aJ.range(hX:bP X P){g:Operand}{qs:Array Nat}{uQ body:Code}{ps:aT X.Γ}{f1:FuncId}{a1 b1:List (PV X.Γ)}{K:PV X.Γ->List (PB X.Γ)->Prop}{Q:Ex->aT X.Γ->Prop}
  (hg:Ae ps.env g=some (.fn f1 a1 b1)) (hd:T.din.contains f1=true) (FM:(ps.env.all fun p=>ZM p.2)=true)
  (aag:aaf X P cd (.fn f1 a1 b1) [.kX (ps.heap.length+1)] (ps.heap++[.mark]++[.loop true f nt ps.env qs.toList uQ body none]) K)
  (hk:∀v H1,K v H1->∃rd f2 Qr e2 CV a2 b2 jP e,H1[ps.heap.length+1]? = some (.loop rd f2 Qr e2 CV a2 b2 jP)∧QV rd jP=some e∧Q e { ps with heap:=H1.set (ps.heap.length+1) (.loop false f2 Qr e2 CV a2 b2 (some .skip)) }) :
  aJ X P T call cd L f nt B (.rangeFunc g qs uQ body) ps Q:=by
 intro A W fl m ts R hS hR;obtain⟨tg,g1,g2⟩:=jA hS.st.env hg;have hm:=hS.st.heap.len;obtain⟨p1,p2,p3⟩:=hS.st.heap.push (pb:=.mark) (hb:=.mark) (mb:=.gJ ts.heap.length) (.inl rfl) (by simp[BR]);obtain⟨q1,q2,q3⟩:=p1.push (pb:=.loop true f nt ps.env qs.toList uQ body none) (hb:=.loop true f nt ts.env qs.toList uQ body none) (mb:=.gJ (ts.heap.length+1)) (.inl (by simp[MB.own])) (by
  refine⟨ts.env,by simp,?_⟩;refine jY.step (m:=m) (h:=ts.heap) (A:=A) ?_ ?_ hS.st.env
  .have r2:Fr (m++[MB.gJ ts.heap.length]) (ts.heap++[HB.mark]) (m++[MB.gJ ts.heap.length]++[MB.gJ (ts.heap.length+1)]) (ts.heap++[HB.mark]++[HB.loop true f nt ts.env qs.toList uQ body none]):=by
    refine⟨by simp,fun b hb _=>by rw[a0p hb],fun b hb=>?_,fun b cs hc=>⟨cs,?_,a0E _⟩⟩
    .rw[jl,a3c,kH]at hb;rcases hb with hb|hb
     .exact .inl hb
     .simp[MB.own]at hb;subst hb;exact .inr (by simp)
    .rw[gq (a0p (fZ hc)),hc]
   exact p2.trans r2
  .exact p3.trans (wW _))
 have hF:=p2.trans q2;have hU:=p3.trans q3;have hyl:VR X P (AA A (m++[MB.gJ ts.heap.length]++[MB.gJ (ts.heap.length+1)])) (m++[MB.gJ ts.heap.length]++[MB.gJ (ts.heap.length+1)]) (ts.heap++[HB.mark]++[HB.loop true f nt ts.env qs.toList uQ body none]) (.kX (ps.heap.length+1)) (.kX (ts.heap.length+1)):=by refine .kX ?_;rw[<-hm,a0G (by simp)];simp
 have hg':∃a1' b1',tg=.fn f1 a1' b1':=by
  cases g2 with
  |gone hi _ _=>simp[bD]at hi
  |fn _ _ _ _=>exact⟨_,_,rfl⟩
 obtain⟨a1',b1',rfl⟩:=hg';have aoQ:a5z T ts.env g=true:=by unfold a5z;rw[g1];exact hd
 simp only[fM,aoQ,a1I];refine⟨f1,a1',b1',g1,a6z hS.st.env FM,?_⟩;rw[show ts.heap++[HB.mark,HB.loop true f nt ts.env qs.toList uQ body none]=ts.heap++[HB.mark]++[HB.loop true f nt ts.env qs.toList uQ body none] by simp];refine aag A _ _ _ [.kX (ts.heap.length+1)] _ q1 (g2.step hF hU) (.cons hyl .nil) fun w h1 ws m1 v H1 OH c2 c3 c4 c5 c6=>?_;obtain⟨rd,f2,Qr,e2,CV,a2,b2,jP,e,hl,hj,hq⟩:=hk v H1 OH;have hm1:m1[ps.heap.length+1]? = some (.gJ (ts.heap.length+1)):=by
  rcases c5 (ps.heap.length+1) (.gJ (ts.heap.length+1)) (by rw[<-hm,a0G (by simp)];simp)with e|e
  .exact e
  .obtain⟨mb,k1,k2⟩:=c2.at_ _ _ hl;rw[e]at k1;cases k1;exact k2.elim
 obtain⟨mb,k1,k2⟩:=c2.at_ _ _ hl;rw[hm1]at k1;cases k1;obtain⟨e2',k3,k4⟩:=k2;obtain⟨s1,s2⟩:=c2.set (i:=ps.heap.length+1) (c:=ts.heap.length+1) (pb:=.loop false f2 Qr e2 CV a2 b2 (some .skip)) (hb:=.loop false f2 Qr e2' CV a2 b2 (some .skip)) hm1 rfl (fun cs hc=>by unfold aX at hc;rw[k3]at hc;cases hc) (fun hF=>⟨e2',by rw[a1E (a0a.1 k3).1],k4.step hF .refl⟩);have hF2:=hF.trans (c4.trans s2);have hU2:=hU.trans c5;refine⟨_,_,_,_,_,_,_,_,e,k3,hj,hR _ _ _ m1 hq ⟨?_,fun b hb=>?_,fun b hb=>?_,?_⟩ hF2 hU2.b⟩
 .have q:=hS.st.step s1 hF2 hU2;exact⟨q.heap,q.llen,q.loc,q.env⟩
 .rcases hF2.new b hb with k|k
  .exact hS.own b k
  .exact .inr (a4Z hS.fl k)
 .rcases wo hb with k|⟨k,k'⟩
  .exact hS.ws b k
  .obtain⟨b',qL,e⟩:=a1k.1 k;cases e;rcases hF.new b (c6 b qL)with k2|k2
   .rcases hS.own b k2 with k3|k3
    .exact k3
    .omega
   .have:=hS.fl;omega
 .exact a4Z hS.fl hF2.len
end
section
variable {X:kP} {P:LI1} {A B:Nat->Prop} {m m' m1:List MB} {h h':List HB} {g:Nat->Option Nat}
def BU:List (PB X.Γ)->Bool
 | []=>true
 |.aF _::H=>BU H
 |.iI _::H=>BU H
 |.gone::H=>BU H
 |_=>false
theorem Xz:∀{H:List (PB X.Γ)},BU H=true->∀(i:Nat) b,H[i]? = some b->BU [b]=true
 | [],_,i,b,h=>by simp at h
 |a::H,hn,i,b,h=>by
  cases i with
  |zero=>simp at h;subst h;cases a<;>simp_all [BU]
  |succ i=>
   have E8:BU H=true:=by cases a<;>simp_all [BU]
   exact Xz E8 i b (by simpa using h)
theorem ZR{H:List (PB X.Γ)}(hn:BU H=true)(hr:HR X P A m H h):bC m=[]:=by
 refine a7d.2 fun b hb=>?_;obtain⟨i,mb,h1,h2⟩:=kJ hb;have hl:i<H.length:=by rw[<-hr.len];exact(a0a.1 h1).1
 obtain⟨MI,g1,g2⟩:=hr.at_ i _ (a0n hl);rw[h1]at g1;cases g1;have h3:=Xz hn i _ (a0n hl);generalize H[i]=b9 at g2 h3;cases b9<;>first|(cases h3;done)|skip
 all_goals (cases mb<;>first|exact g2.elim|cases h2)
theorem Pg{v:PV X.Γ}{t:TV}(h:qY v=some t):(∀l,BZ t l=l)∧(∀g,nO g t=some t)∧∀fl,Lm fl t=t:=by cases v<;>simp only[qY,a01,reduceCtorEq]at h<;>subst h<;>exact⟨fun _=>rfl,fun _=>rfl,fun _=>rfl⟩
theorem yH:∀{vs:List (PV X.Γ)} {ts:List TV},iQ vs=some ts->(∀l,BZ.EY ts l=l)∧∀g,nO.zB g ts=some ts
 | [],ts,h=>by simp only[iQ,a01]at h;subst h;exact⟨fun _=>rfl,fun _=>rfl⟩
 |v::vs,ts,h=>by
  simp only[iQ]at h;split at h
  .rename_i a b h1 h2;cases h;have e1:=Pg h1;have e2:=yH h2;exact⟨fun l=>by simp only[BZ.EY,e2.1,e1.1],fun g=>by simp only[nO.zB,e1.2.1,e2.2]⟩
  cases h
theorem N7{v:PV X.Γ}{t:TV}(h:qp v=some t):(∀l,BZ t l=l)∧(∀g,nO g t=some t)∧∀fl,Lm fl t=t:=by
 unfold qp at h;split at h
 .simp only[a0i]at h;obtain⟨ts,h1,rfl⟩:=h;have e:=yH h1;exact⟨fun l=>by simp only[BZ,e.1],fun g=>by simp only[nO,e.2,a0A],fun _=>rfl⟩
 exact Pg h
def a3s(X:kP)(P:LI1)(nH:Bool)(u:PV X.Γ)(Hs:List (PB X.Γ))(tv:Nat->TV)(tN:List HB):Prop:=
 ∀(A:Nat->Prop) (m:List MB) (h h1:List HB) (w:TV),HR X P A m Hs h1->VR X P (AA A m) m h1 u w->(∀b,b∈bC m->h.length<=b)->Oe nH h w h1=some (tv h.length,h++tN)
theorem Dz(hX:bP X P){T:qK}{L n f:Nat}{t:FnT}{first xs cap:List (PV X.Γ)}{H N:List (PB X.Γ)}{v:PV X.Γ}{tv:Nat->TV}{tN:List HB}(hd:T.dem.contains f=true)(hx:T.exts.contains f=false)(ht:TY P f=some t)(hN:BU H=true)
  (Oi:∀A m h,HR X P A m H h->∃m1,HR X P A m1 (H++N) (h++tN)∧VR X P (AA A m1) m1 (h++tN) v (tv h.length)∧Fr m h m1 (h++tN)∧Up m m1)
  (hE:aJ X P T (lC P T L n) (uV P T (lC P T L n) L) L f t.nt H.length t.body ⟨lD X 0 (first++xs++cap),[],H⟩ fun e s=>(e=.norm∨e=.ret)∧∃us,Fb X P s t.results=some us∧a3s X P (T.a9f.contains f) (Zx X us) s.heap tv tN):bZ X P (lC P T L (n+1)) (.fn f first cap) xs H v (H++N):=by
 intro A m h tf qN hr hf O1;cases hf with
 |gone hi _ _=>simp[bD]at hi
 |fn p1 p2 p3 p4=>
  rename_i a' c';have F8:=(bY.app ⟨p1,p2⟩ O1).app ⟨p3,p4⟩;have hb:=ZR hN hr;have hS:SR X P A (fun _=>False) h.length m ⟨lD X 0 (first++xs++cap),[],H⟩ ⟨nS 0 (a'++qN++c'),[],h,[]⟩:=
   ⟨⟨hr,rfl,fun k cs hk=>by simp at hk,MW F8⟩,fun b h1=>(by rw[hb]at h1;cases h1),fun b hb=>(by cases hb),a0E _⟩
  have hO:WL P T (lC P T L n) L f t (a'++qN++c') h (tv h.length,h++tN):=by refine hE A _ _ m _ _ hS fun e iO ps1 m1 ⟨he,us,hus,hpv⟩ h3 h4 h5=>?_;obtain⟨ws,g1,g2⟩:=J9 hX h3.st hus;exact⟨he,ws,g1,a7d.2 fun b hb=>h3.ws b hb,hpv A m1 h iO.heap _ h3.st.heap (UL g2) fun b hb=>(h3.own b hb).resolve_left id⟩
  obtain⟨m1,q1,q2,q3,q4⟩:=Oi A m h hr;refine⟨tv h.length,h++tN,[],m1,?_,q1,q2,q3,q4,fun b hb=>by cases hb⟩;simp only[lC,hx,hd,a2z,a3l,a1I];exact a9A ht hO
theorem ZT{nH:Bool}{u:PV X.Γ}{Hs:List (PB X.Γ)}{tu:TV}(hu:qp u=some tu)(ht:∀cs,tu≠.cO cs):a3s X P nH u Hs (fun _=>tu) []:=fun A m h h1 w hr hw _=>by
 have:=jT hw hu;subst this;obtain⟨e1,e2,e3⟩:=N7 hu;have e4:Uj h.length w=w:=by
  cases w with
  |cO cs=>exact absurd rfl (ht cs)
  |_=>exact e3 h.length
 unfold Oe;simp only[e1,wR,e2,D9,e4,abS,a5F]
theorem aah(hX:bP X P){T:qK}{L n f:Nat}{t:FnT}{first xs cap:List (PV X.Γ)}{H:List (PB X.Γ)}{v:PV X.Γ}{tv:TV}(hd:T.dem.contains f=true)(hx:T.exts.contains f=false)(ht:TY P f=some t)(hN:BU H=true)(hv:qp v=some tv)
  (hE:aJ X P T (lC P T L n) (uV P T (lC P T L n) L) L f t.nt H.length t.body ⟨lD X 0 (first++xs++cap),[],H⟩ fun e s=>(e=.norm∨e=.ret)∧∃us,Fb X P s t.results=some us∧Zx X us=v):bZ X P (lC P T L (n+1)) (.fn f first cap) xs H v H:=by
 have:=Dz (N:=[]) (v:=v) (tv:=fun _=>tv) (tN:=[]) hX hd hx ht hN (fun A m h hr=>⟨m,by simpa using hr,nY hv,by simpa using Fr.refl,.refl⟩) (hE.mono fun e s ⟨h1,us,h2,h3⟩=>⟨h1,us,h2,by rw[h3];exact ZT hv fun cs hc=>by subst hc;cases v<;>simp[qp,qY]at hv⟩)
 rwa [a5F]at this
def xq:List (PV X.Γ×PV X.Γ)->Option (List (TV×TV))
 | []=>some []
 |(k,v)::r=>match qp k,qp v,xq r with
  |some k,some v,some r=>some ((k,v)::r)
  |_,_,_=>none
theorem XA:∀{es:List (PV X.Γ×PV X.Γ)} {gG N8:List (TV×TV)},xq es=some N8->es.length=gG.length->(∀(i:Nat) x y,es[i]? = some x->gG[i]? = some y->qp x.1=some y.1∧qp x.2=some y.2)->gG=N8
 | [],gG,N8,h,hl,_=>by simp only[xq,a01]at h;subst h;exact a4a hl.symm
 |(k,v)::r,gG,N8,h,hl,he=>by
  cases gG with
  |nil=>simp at hl
  |cons y gG=>
   simp only[xq]at h;split at h
   .rename_i a b c h1 h2 h3;cases h;have e0:=he 0 _ _ rfl rfl;have e1:y.1=a:=by have:=e0.1.symm.trans h1;exact a9o this
    have e2:y.2=b:=by have:=e0.2.symm.trans h2;exact a9o this
    have e3:=XA h3 (by simpa using hl) fun i x z hx hz=>he (i+1) x z (by simpa using hx) (by simpa using hz);rw[e3,<-e1,<-e2]
   cases h
theorem Ph:∀{es:List (PV X.Γ×PV X.Γ)} {N8:List (TV×TV)},xq es=some N8->es.length=N8.length∧∀(i:Nat) x y,es[i]? = some x->N8[i]? = some y->qp x.1=some y.1∧qp x.2=some y.2
 | [],N8,h=>by simp only[xq,a01]at h;subst h;exact⟨rfl,by simp⟩
 |(k,v)::r,N8,h=>by
  simp only[xq]at h;split at h
  .rename_i a b c h1 h2 h3;cases h;obtain⟨i1,i2⟩:=Ph h3;refine⟨by simp[i1],fun i x y hx hy=>?_⟩;cases i with
   |zero=>simp at hx hy;subst hx;subst hy;exact⟨h1,h2⟩
   |succ i=>exact i2 i x y (by simpa using hx) (by simpa using hy)
  cases h
theorem SX:∀{es:List (PV X.Γ×PV X.Γ)} {N8:List (TV×TV)},xq es=some N8->(∀l,a9v.a0U N8 l=l)∧∀g,Tw.pq g N8=some N8
 | [],N8,h=>by simp only[xq,a01]at h;subst h;exact⟨fun _=>rfl,fun _=>rfl⟩
 |(k,v)::r,N8,h=>by
  simp only[xq]at h;split at h
  .rename_i a b c h1 h2 h3;cases h;have e1:=N7 h1;have e2:=N7 h2;have e3:=SX h3;exact⟨fun l=>by simp only[a9v.a0U,e1.1,e2.1,e3.1],fun g=>by simp only[Tw.pq,e1.2.1,e2.2.1,e3.2]⟩
  cases h
theorem Pj{h h1:List HB}{c:Nat}(hc:h.length<=c)(hr:∀l,a9v h1[c]? l=l):wR h1 h.length 5000 [c] []=[c]∧WE h.length [c] c=some h.length:=by
 have e1:Nat.blt c h.length=false:=by
  cases e:Nat.blt c h.length with
  |false=>rfl
  |true=>have:=agX e;omega
 constructor
 .simp only[wR,e1,a5G,Bool.or_false,hr]
 simp only[WE,e1,a5E,Nat.beq_refl,a0A,a3I]
theorem a6Q{nH:Bool}{r:Nat}{Hs:List (PB X.Γ)}{es:List (PV X.Γ×PV X.Γ)}{N8:List (TV×TV)}(hm:Hs[r]? = some (.map es))(he:xq es=some N8):a3s X P nH (.map r) Hs (fun n=>.map n) [.map (RP N8)]:=fun A m h h1 w hr hw hn=>by
 obtain⟨mb,g1,g2⟩:=hr.at_ r _ hm;cases mb with
 |gJ c=>
  obtain⟨gG,g3,g4,g5⟩:=g2;have:=XA he g4 g5;subst this;have hw:w=.map c:=by
   cases hw with
   |map e=>rw[g1]at e;cases e;rfl
   |gone hi e _=>simp only[bD,a01]at hi;subst hi;rw[g1]at e;cases e
  subst hw;have hc:=hn c (bf g1 rfl);obtain⟨e1,e2⟩:=SX he;obtain⟨k1,k2⟩:=Pj (h:=h) (h1:=h1) hc fun l=>by rw[g3];exact e1 l
  unfold Oe;simp only[BZ,k1,nO,k2,a0A,D9,g3,uH,e2,Uj,Lm,a4t,abS,Qz]
 |_=>exact g2.elim
theorem a6R(hX:bP X P){T:qK}{L n f:Nat}{t:FnT}{first xs cap:List (PV X.Γ)}{H:List (PB X.Γ)}{es0:List (PV X.Γ×PV X.Γ)}{a3t:List (TV×TV)}(hd:T.dem.contains f=true)(hx:T.exts.contains f=false)(ht:TY P f=some t)(hN:BU H=true)(h0:xq es0=some a3t)
  (hE:aJ X P T (lC P T L n) (uV P T (lC P T L n) L) L f t.nt H.length t.body ⟨lD X 0 (first++xs++cap),[],H⟩ fun e s=>(e=.norm∨e=.ret)∧∃us,Fb X P s t.results=some us∧∃r es N8,Zx X us=.map r∧s.heap[r]? = some (.map es)∧xq es=some N8∧RP N8=a3t):bZ X P (lC P T L (n+1)) (.fn f first cap) xs H (.map H.length) (H++[.map es0]):=by
 refine Dz (tv:=fun n=>.map n) (tN:=[.map a3t]) hX hd hx ht hN (fun A m h hr=>?_) (hE.mono fun e s ⟨h1,us,h2,r,es,N8,h3,h4,h5,h6⟩=>⟨h1,us,h2,by rw[h3,<-h6];exact a6Q h4 h5⟩);obtain⟨p1,p2,p3⟩:=hr.push (pb:=.map es0) (hb:=.map a3t) (mb:=.gJ h.length) (.inl rfl) ⟨a3t,by simp,(Ph h0).1,(Ph h0).2⟩;exact⟨_,p1,.map (by rw[<-hr.len];simp),p2,p3⟩
theorem XB(hX:bP X P){A:Nat->Prop}{m:List MB}{Hs:List (PB X.Γ)}{h1:List HB}{i ty:Nat}{k ex:Bool}{l:List (X.Γ ty)}{w:TV}{Lu:List TV}(hr:HR X P A m Hs h1)(hi:Hs[i]? = some (.list k ex ty l))(hl:l≠[])(hc:iQ (EK X ty l)=some Lu)(hw:VR X P (AA A m) m h1 (.own i) w) :
  ∃c sz e kk,w=.aP c 0 l.length l.length sz e∧dH P ty=some sz∧c∈bC m∧h1[c]? = some (.cells kk Lu)∧kk≠.ro:=by
 obtain⟨mb,g1,g2⟩:=hr.at_ i _ hi;cases mb with
 |dJ x=>
  have hwx:w=x:=by
   cases hw with
   |own e _=>rw[g1]at e;cases e;rfl
   |gone hi e _=>simp only[bD,a01]at hi;subst hi;rw[g1]at e;cases e
  subst hwx;cases(g2:LR X P (AA A m) m h1 k ex ty l w)with
  |nil=>exact absurd rfl hl
  |emp=>exact absurd rfl hl
  |some _ q2 q3 q4 q5 q6 q7 q8 q9=>
   have hv:=eF.vrs q9 q8;have Rt:=G5 hv hc;subst Rt;exact⟨_,_,_,_,rfl,q2,bf g1 (by simp only[MB.own];rw[a0q (by simpa using hl)]),q4,q5⟩
 |_=>exact g2.elim
theorem a6S(hX:bP X P){i ty sz:Nat}{k ex:Bool}{l:List (X.Γ ty)}{Hs:List (PB X.Γ)}{Lu:List TV}(hi:Hs[i]? = some (.list k ex ty l))(hl:l≠[])(hc:iQ (EK X ty l)=some Lu)(hs:dH P ty=some sz):a3s X P true (.own i) Hs (fun n=>.aP n 0 l.length l.length sz false) [.nH (RQ Lu)]:=fun A m h h1 w hr hw hn=>by
 obtain⟨c,sz',e,kk,rfl,g1,g2,g3,g4⟩:=XB hX hr hi hl hc hw;rw[hs]at g1;cases g1;have pV:=hn c g2;obtain⟨e1,e2⟩:=yH hc;obtain⟨k1,k2⟩:=Pj (h:=h) (h1:=h1) pV fun l=>by rw[g3];exact e1 l
 have e3:Qz true (.cells kk Lu)=.nH (RQ Lu):=by cases kk<;>first|rfl|exact absurd rfl g4
 unfold Oe;simp only[BZ,k1,nO,k2,a0A,D9,g3,uH,e2,Uj,Lm,a4t,abS,e3,Nat.lt_irrefl,a3l]
theorem a6T(hX:bP X P){i ty sz:Nat}{k ex:Bool}{l:List (X.Γ ty)}{Hs:List (PB X.Γ)}{Lu:List TV}{p:PV X.Γ}{tp:TV}(hi:Hs[i]? = some (.list k ex ty l))(hl:l≠[])(hc:iQ (EK X ty l)=some Lu)(hs:dH P ty=some sz)(hp:qp p=some tp):a3s X P false (.cO [.own i,p]) Hs (fun n=>.cO [.aP n 0 l.length l.length sz false,tp]) [.cells .last Lu]:=fun A m h h1 w hr hw hn=>by
 cases hw with
 |gone hi _ _=>simp[bD]at hi
 |cO a1 a2=>
  rename_i cs';obtain⟨x,r,rfl,v0,v1⟩:=bY.inv (⟨a1,a2⟩:bY X P _ _ _ _ _);obtain⟨y,r,rfl,v2,v3⟩:=v1.inv;have:=v3.inv0;subst this;have:=jT v2 hp;subst this;obtain⟨c,sz',e,kk,rfl,g1,g2,g3,g4⟩:=XB hX hr hi hl hc v0;rw[hs]at g1;cases g1;have pV:=hn c g2;obtain⟨e1,e2⟩:=yH hc;obtain⟨q1,q2,q3⟩:=N7 hp;obtain⟨k1,k2⟩:=Pj (h:=h) (h1:=h1) pV fun l=>by rw[g3];exact e1 l
  have e3:Qz false (.cells kk Lu)=.cells .last Lu:=by cases kk<;>first|rfl|exact absurd rfl g4
  unfold Oe;have q4:Lm h.length (.aP h.length 0 l.length l.length sz e)=.aP h.length 0 l.length l.length sz false:=by simp only[Lm,Nat.lt_irrefl,a3l]
  simp only[BZ,BZ.EY,q1,k1,nO,nO.zB,q2,k2,a0A,D9,g3,uH,e2,Uj,q3,q4,a4t,abS,e3]
theorem aai{H:List (PB X.Γ)}{n sz:Nat}{cs:List (PV X.Γ)}{ts:List TV}(h0:Uo cs=some ts){A m h}(hr:HR X P A m H h):∃m1,HR X P A m1 (H++[.nH cs]) (h++[.nH ts])∧VR X P (AA A m1) m1 (h++[.nH ts]) (.aP H.length 0 n n sz false) (.aP h.length 0 n n sz false)∧Fr m h m1 (h++[.nH ts])∧Up m m1:=by obtain⟨p1,p2,p3⟩:=hr.push (pb:=.nH cs) (hb:=.nH ts) (mb:=.gJ h.length) (.inl rfl) ⟨ts,by simp,h0⟩;exact⟨_,p1,.aP (by rw[<-hr.len];simp),p2,p3⟩
theorem XC{ty sz:Nat}:∀{l:List (X.Γ ty)},(∀(j:Nat) a,l[j]? = some a->(X.enc ty a).length=sz)->(EK X ty l).length=l.length*sz∧∀(j:Nat) a (i:Nat) c,l[j]? = some a->(X.enc ty a)[i]? = some c->(EK X ty l)[j*sz+i]? = some c
 | [],_=>⟨by simp[EK],by simp⟩
 |a::l,he=>by
  obtain⟨h1,h2⟩:=XC (l:=l) fun j b hb=>he (j+1) b (by simpa using hb);have h0:=he 0 a rfl;refine⟨by simp only[EK,a1o,h0,h1,a4q,a3i,aa8];omega,fun j b i c hb hc=>?_⟩;cases j with
  |zero=>
   simp at hb;subst hb;simp only[EK,abR,a3I];rw[a0p (a0a.1 hc).1];exact hc
  |succ j=>
   simp only[EK];rw[a0G (by rw[h0,a3i];omega),h0,show(j+1)*sz+i-sz=j*sz+i by rw[a3i];omega];exact h2 j b i c (by simpa using hb) hc
theorem a3u{ty sz:Nat}{l:List (X.Γ ty)}{Lu:List TV}{A m h}(he:∀(j:Nat) a,l[j]? = some a->(X.enc ty a).length=sz)(hc:iQ (EK X ty l)=some Lu):Lu.length=l.length*sz∧eF X P A m h ty l Lu 0 sz:=by
 have hv:=G6 (X:=X) (P:=P) (A:=A) (m:=m) (h:=h) hc;obtain⟨h1,h2⟩:=XC he;have hl:Lu.length=l.length*sz:=by rw[<-hv.1,h1]
 exact⟨hl,he,by rw[hl];omega,fun j a i c v a1 a2 a3=>hv.2 (j*sz+i) c v (h2 j a i c a1 a2) (by rw[a3I]at a3;exact a3)⟩
theorem aaj(hX:bP X P){H:List (PB X.Γ)}{ty sz:Nat}{l:List (X.Γ ty)}{Lu:List TV}{p:PV X.Γ}{tp:TV}(hl:l≠[])(hc:iQ (EK X ty l)=some Lu)(hs:dH P ty=some sz)(h0:0<sz)(he:∀(j:Nat) a,l[j]? = some a->(X.enc ty a).length=sz)(hp:qp p=some tp){A m h}(hr:HR X P A m H h) :
  ∃m1,HR X P A m1 (H++[.list false false ty l]) (h++[.cells .last Lu])∧VR X P (AA A m1) m1 (h++[.cells .last Lu]) (.cO [.own H.length,p]) (.cO [.aP h.length 0 l.length l.length sz false,tp])∧Fr m h m1 (h++[.cells .last Lu])∧Up m m1:=by
 obtain⟨p1,p2,p3⟩:=hr.push (pb:=.list false false ty l) (hb:=.cells .last Lu) (mb:=.dJ (.aP h.length 0 l.length l.length sz false)) (.inl (by simp only[MB.own];rw[a0q (by simpa using hl)])) (by obtain⟨r1,r2⟩:=a3u (A:=AA A (m++[MB.dJ (.aP h.length 0 l.length l.length sz false)])) (m:=m++[MB.dJ (.aP h.length 0 l.length l.length sz false)]) (h:=h++[.cells .last Lu]) (P:=P) he hc;exact LR.some (kk:=.last) (cs:=Lu) hl hs h0 (by simp) (by simp) (by simp) (by simp) r1 r2)
 exact⟨_,p1,bY.cons (.own (by rw[<-hr.len];simp) rfl) (.cons (nY hp) .nil) |> fun h=>.cO h.1 h.2,p2,p3⟩
end
def eU:Code->Code
 |.seq a _=>a
 |.block _ b=>b
 |.loop b=>b
 |.scope b=>b
 |.cond _ a _=>a
 |c=>c
def eX:Code->Code
 |.seq _ b=>b
 |.cond _ _ b=>b
 |c=>c
def a6U:Code->Array Oper
 |.region _ o _=>o
 |_=>#[]
def SY(P:LI1)(f:Nat):FnT:=match TY P f with
 |some t=>t
 |none=>⟨0,.skip,[]⟩
def V4(ops:Array Oper)(it nx mo:Nat):Bool:=match Aw ops with
 |some (a,b,_,o2)=>a==it&&b==nx&&(match o2.op,o2.dst,o2.guard with
  |.extract (.tmp k) 0,some d,none=>k==nx&&d==mo
  |_,_,_=>false)
 |none=>false
theorem a3v{ops:Array Oper}{it nx mo:Nat}(h:V4 ops it nx mo=true):∃o1 o2,Aw ops=some (it,nx,o1,o2)∧o2.op=.extract (.tmp nx) 0∧o2.dst=some mo∧o2.guard=none:=by
 unfold V4 at h;split at h
 .rename_i a b o1 o2 e;simp only[a2f,a6P]at h;obtain⟨⟨rfl,rfl⟩,h⟩:=h;split at h
  .rename_i k d e1 e2 e3;simp only[a2f,a6P]at h;obtain⟨rfl,rfl⟩:=h;exact⟨o1,o2,e,e1,e2,e3⟩
  cases h
 cases h
section
variable {X:kP} {P:LI1} {T:qK} {call:aY} {cd:vG} {fV:fB X.Γ} {L f nt B:Nat}
theorem zO(hX:bP X P)(hO:jJ X P call fV){c:Code}{ps ps1:aT X.Γ}{an:PT X.Γ}{o:OT (Ex×aT X.Γ)}{e:Ex}(hk:jS X P T fV (bZ X P call) (dN X P T call L f false nt B) B L f false nt c ps an aeU=o)(ht:Fp (fun r=>r=(e,ps1)) an o):dN X P T call L f false nt B c ps e ps1:=by obtain⟨y,h1,h2⟩:=ht.aK;subst h2;rw[<-hk]at h1;exact Xf hX hO h1
theorem a1C{n j:Nat}{seen:List Nat}(hj:j<n)(hn:j∉seen):((List.range n).filter fun i=>!(j::seen).contains i).length<((List.range n).filter fun i=>!seen.contains i).length:=by
 have e:((List.range n).filter fun i=>!(j::seen).contains i)=((List.range n).filter fun i=>!seen.contains i).filter fun i=>!(i==j):=by rw[List.filter_filter];refine List.filter_congr fun i _=>?_;rw[ahd];cases i==j<;>simp
 rw[e];refine List.length_filter_lt_length_iff_exists.2 ⟨j,a8G.2 ⟨a4B.2 hj,by simpa using hn⟩,by simp⟩
end
section
variable {X:kP} {P:LI1} {T:qK} {call:aY} {cd:vG} {L f nt B:Nat}
theorem aJ.ghost(hX:bP X P){gs:List G}{c:Code}{ps ps1:aT X.Γ}{Q:Ex->aT X.Γ->Prop}(hg:kT B gs ps=some ps1)(h:aJ X P T call cd L f nt B c ps1 Q):aJ X P T call cd L f nt B c ps Q:=fun A W fl m ts R hS hR=>by obtain⟨m2,q1,q2,q3⟩:=lS hX hg A W fl m ts hS;exact h A W fl m2 ts R q1 fun e iO ps1 m1 a1 a2 a3 a4=>hR e iO ps1 m1 a1 a2 (q2.trans a3) (q3.trans a4)
theorem Pm(hX:bP X P){x:Code}{i0 i1 id it nx mo b r n:Nat}{ops:Array Oper}{draw:Bool}{s0:aT X.Γ}{es:List (PV X.Γ×PV X.Γ)}{Q:aT X.Γ->Prop}(I:List Nat->aT X.Γ->Prop)
  (hnx:V4 ops it nx mo=true) (hd:nx<nt) (hd2:mo<nt) (hl:es.length=n) (hL:n<L) (hI:I [] s0)
  (hinv:∀seen s,I seen s->∃gs s',kT B gs (gW X (T.eY f (dU (.seq (.region id ops draw) (.seq (.cond (.tmp mo) .skip (.exit i0)) (.block i1 x))))) s)=some s'∧Ae s'.env (.tmp it)=some (.iter b)∧s'.heap[b]? = some (.dD r n seen)∧KG X s'.heap r=some es ∧
   ((∀j,j<n->j∈seen)->Ae (jo (T.iE f id) ((mo,.val (.bool false))::(nx,.val (.cO [.bool false]))::s'.env)) (.tmp mo)=some (.bool false)∧Q { s' with env:=jo (T.iE f id) ((mo,.val (.bool false))::(nx,.val (.cO [.bool false]))::s'.env) }) ∧
   ∀j e,j∉seen->es[j]? = some e->Ae (jo (T.iE f id) ((mo,.val (.bool true))::(nx,.val (.cO [.bool true,e.1,e.2]))::s'.env)) (.tmp mo)=some (.bool true) ∧
    aJ X P T call cd L f nt B x { s' with env:=jo (T.iE f id) ((mo,.val (.bool true))::(nx,.val (.cO [.bool true,e.1,e.2]))::s'.env),heap:=s'.heap.set b (.dD r n (j::seen)) } fun e s=>(e=.norm∨e=.exit i1)∧I (j::seen) s) :
  aJ X P T call cd L f nt B (.block i0 (.loop (.seq (.region id ops draw) (.seq (.cond (.tmp mo) .skip (.exit i0)) (.block i1 x))))) s0 fun e s=>e=.norm∧Q s:=by
 obtain⟨o1,o2,hn,h2,h3,h4⟩:=a3v hnx;have skp:∀{s:aT X.Γ} {Q':Ex->aT X.Γ->Prop},Q' .norm s->aJ X P T call cd L f nt B .skip s Q':=fun{s Q'} hq=>by intro A W fl m ts R hS hR;simp only[fM];exact⟨_,_,rfl,hR _ _ s m hq hS .refl Up.refl.b⟩
 have ext:∀{i:Nat} {s:aT X.Γ} {Q':Ex->aT X.Γ->Prop},Q' (.exit i) s->aJ X P T call cd L f nt B (.exit i) s Q':=fun{i s Q'} hq=>by intro A W fl m ts R hS hR;simp only[fM];exact⟨_,_,rfl,hR _ _ s m hq hS .refl Up.refl.b⟩
 refine aJ.block ?_;refine aJ.loop (fun k s=>∃seen,I seen s∧k=((List.range n).filter fun i=>!seen.contains i).length) (fun k s hi=>?_) (k:=n) ⟨[],hI,by rw[show((List.range n).filter fun i=>!([]:List Nat).contains i)=List.range n from List.filter_eq_self.2 fun a _=>rfl,a98]⟩ hL;obtain⟨seen,hi,rfl⟩:=hi;obtain⟨gs,s',e1,e2,e3,e4,e5,e6⟩:=hinv seen s hi;refine aJ.ghost hX e1 ?_;refine aJ.seq (R:=fun e s=>e=.norm∧(((∀j,j<n->j∈seen)∧s={ s' with env:=jo (T.iE f id) ((mo,.val (.bool false))::(nx,.val (.cO [.bool false]))::s'.env) })∨∃j e,j∉seen∧es[j]? = some e∧s={ s' with env:=jo (T.iE f id) ((mo,.val (.bool true))::(nx,.val (.cO [.bool true,e.1,e.2]))::s'.env),heap:=s'.heap.set b (.dD r n (j::seen)) })) ?_ (fun s hs=>?_) (fun i s h=>by cases h.1) (fun s h=>by cases h.1)
 .exact aJ.next hn hd hd2 h2 h3 h4 e2 e3 e4 hl (fun ho=>⟨rfl,.inl ⟨ho,rfl⟩⟩) (fun j e hj he=>⟨rfl,.inr ⟨j,e,hj,he,rfl⟩⟩)
 .obtain⟨_,⟨h5,rfl⟩|⟨j,e,hj,he,rfl⟩⟩:=hs
  .obtain⟨m1,q1⟩:=e5 h5;refine aJ.seq (R:=fun e s=>e=.exit i0∧s={ s' with env:=jo (T.iE f id) ((mo,.val (.bool false))::(nx,.val (.cO [.bool false]))::s'.env) }) (aJ.cond (t:=false) m1 (ext ⟨rfl,rfl⟩)) (fun s h=>by cases h.1) (fun i s h=>?_) (fun s h=>by cases h.1);obtain⟨h7,rfl⟩:=h;cases h7;dsimp only;rw[a0u rfl];exact⟨rfl,q1⟩
  .obtain⟨m2,hx⟩:=e6 j e hj he;have hjn:j<n:=by rw[<-hl];exact(a0a.1 he).1
   refine aJ.seq (R:=fun e1 s=>e1=.norm∧s={ s' with env:=jo (T.iE f id) ((mo,.val (.bool true))::(nx,.val (.cO [.bool true,e.1,e.2]))::s'.env),heap:=s'.heap.set b (.dD r n (j::seen)) }) (aJ.cond (t:=true) m2 (skp ⟨rfl,rfl⟩)) (fun s h=>?_) (fun i s h=>by cases h.1) (fun s h=>by cases h.1);obtain⟨_,rfl⟩:=h;refine aJ.block ?_;refine hx.mono fun e s h=>?_;obtain⟨h1|h1,h2⟩:=h
   .subst h1;exact⟨_,a1C hjn hj,j::seen,h2,rfl⟩
   .subst h1;dsimp only;rw[a0u rfl];exact⟨_,a1C hjn hj,j::seen,h2,rfl⟩
theorem V5(hX:bP X P){x:Code}{i0 i1 id it nx mo b r n:Nat}{ops:Array Oper}{draw:Bool}{s0:aT X.Γ}{es:List (PV X.Γ×PV X.Γ)}{Q:aT X.Γ->Prop}(I:List Nat->aT X.Γ->Prop)
  (hnx:V4 ops it nx mo=true) (hd:nx<nt) (hd2:mo<nt) (hl:es.length=n) (hL:n<L) (hI:I [] s0)
  (hinv:∀seen s,I seen s->∃s',gW X (T.eY f (dU (.seq (.region id ops draw) (.seq (.cond (.tmp mo) .skip (.exit i0)) (.block i1 x))))) s=s'∧Ae s'.env (.tmp it)=some (.iter b)∧s'.heap[b]? = some (.dD r n seen)∧KG X s'.heap r=some es ∧
   ((∀j,j<n->j∈seen)->Ae (jo (T.iE f id) ((mo,.val (.bool false))::(nx,.val (.cO [.bool false]))::s'.env)) (.tmp mo)=some (.bool false)∧Q { s' with env:=jo (T.iE f id) ((mo,.val (.bool false))::(nx,.val (.cO [.bool false]))::s'.env) }) ∧
   ∀j e,j∉seen->es[j]? = some e->Ae (jo (T.iE f id) ((mo,.val (.bool true))::(nx,.val (.cO [.bool true,e.1,e.2]))::s'.env)) (.tmp mo)=some (.bool true) ∧
    aJ X P T call cd L f nt B x { s' with env:=jo (T.iE f id) ((mo,.val (.bool true))::(nx,.val (.cO [.bool true,e.1,e.2]))::s'.env),heap:=s'.heap.set b (.dD r n (j::seen)) } fun e s=>(e=.norm∨e=.exit i1)∧I (j::seen) s) :
  aJ X P T call cd L f nt B (.block i0 (.loop (.seq (.region id ops draw) (.seq (.cond (.tmp mo) .skip (.exit i0)) (.block i1 x))))) s0 fun e s=>e=.norm∧Q s:=
 Pm hX I hnx hd hd2 hl hL hI fun seen s hi=>let ⟨s',e1,h⟩:=hinv seen s hi;⟨[],s',congrArg some e1,h⟩
end
theorem Good.a6V{X:kP}{P:LI1}{T:qK}{L:Nat}{α β:Type}{f:FuncId}{a:UN X P α}{r:Ar X P β}{S:α->β}{pre:α->List Prop}{fV Xl a6L aiS:fB X.Γ}(d:Nat)(hg:Good X P T L fV)(hg2:Good X P T L Xl)(hg3:Good X P T L a6L)(hg4:Good X P T L aiS)
  (hf:∀n,d<=n->(∀m,n-d<=m->jJ X P (lC P T L m) fV)->(∀m,n-d<=m->jJ X P (lC P T L m) Xl)->(∀m,n-d<=m->jJ X P (lC P T L m) a6L)->(∀m,n-d<=m->jJ X P (lC P T L m) aiS)->∀x,(∀p∈pre x,p)->pO X P (lC P T L (n+1)) f (a.put x) (r.put (S x)) []):Good X P T L (cu f a r S pre fV):=by
 obtain⟨N2,hN2⟩:=hg2;obtain⟨N3,hN3⟩:=hg3;obtain⟨N4,hN4⟩:=hg4;obtain⟨M,hM⟩:=hg;refine⟨M+N2+N3+N4+d+1,fun n hn=>?_⟩;obtain⟨k,rfl⟩:∃k,n=k+1:=⟨n-1,by omega⟩;intro g vs v ext ps ho hp;unfold cu at ho;split at ho
 .rename_i e;have e:=a9b e;subst e;split at ho
  .rename_i x hx;cases ho;intro A h first args cap IQ hv
   exact hf k (by omega) (fun m hm=>hM m (by omega)) (fun m hm=>hN2 m (by omega)) (fun m hm=>hN3 m (by omega)) (fun m hm=>hN4 m (by omega)) x hp A h first args cap IQ (a.ok hx hv)
  .exact hM (k+1) (by omega) g vs v ext ps ho hp
 .exact hM (k+1) (by omega) g vs v ext ps ho hp
section
variable {X:kP} {P:LI1}
theorem bZ.lend(hX:bP X P){call:aY}{f:FuncId}{cs ws rest xs:List (PV X.Γ)}{H:List (PB X.Γ)}{es:List (PV X.Γ×PV X.Γ)}(is:List Nat)(hs:bZ X P call (.fn f [] []) (.agg (ws++rest)::xs) (bn is H) (.map H.length) (bn is H++[.map es]))
  (hv:views H cs=some ws) (ho:∀i,i∈kG.ku cs->i∈is) (hg:bn is H=List.replicate H.length .gone):bZ X P call (.fn f [] []) (.agg (cs++rest)::xs) H (.map H.length) (H++[.map es]):=by
 intro A m h tf qN hr hf hx;obtain⟨x0,r,rfl,v0,vr⟩:=hx.inv;cases v0 with
 |gone hi _ _=>simp[bD]at hi
 |agg a1 a2=>
  rename_i cs';have ha:bY X P (AA A m) m h (cs++rest) cs':=⟨a1,a2⟩;obtain⟨c1,c2,rfl,b1,b2⟩:=Eo ha;have hF:=iJ (h:=h) is m;have w1:=(lM (m':=dw is m) hX hr b1 hv ho).mono fun b hb=>FA.gone hr hb;have w2:=b2.step hF.1 hF.2;have w3:=w1.app w2;have ZC:=hr.bn is;obtain⟨w,h',VT,m1,k1,k2,k3,k4,k5,k6⟩:=hs A (dw is m) h tf (.agg (c1++c2)::r) ZC (hf.step hF.1 hF.2) (.cons (.agg w3.1 w3.2) (vr.step hF.1 hF.2));have e0:∀b,b∉bC (dw is m):=fun b hb=>by
   unfold bC at hb;obtain⟨mb,h1,h2⟩:=a6h.1 hb;obtain⟨i,hi,e⟩:=ads h1;have Le:i<H.length:=by have:=ZC.len;rw[nX]at this;omega
   obtain⟨mb2,g1,g2⟩:=ZC.at_ i .gone (by rw[hg,List.getElem?_replicate,a0u Le]);rw[a0n hi,e]at g1;cases g1;cases mb with
   |gone=>cases h2
   |_=>exact g2.elim
  obtain⟨mb,g1,g2⟩:=k2.at_ H.length (.map es) (by rw[a0G (by rw[nX];exact a0E _),nX];simp);cases mb with
  |gJ c=>
   have hc:c∈bC m1:=a6h.2 ⟨_,a4E g1,rfl⟩;have KA:h.length<=c:=(k4.new c hc).resolve_left (e0 c);have yu:bC (m++[.gJ c])=bC m++[c]:=by unfold bC;rw[List.filterMap_append];rfl
   have hF2:Fr m h (m++[.gJ c]) h':=⟨k4.len,fun b hb _=>k4.same b hb (e0 b),fun b hb=>by
    rw[yu]at hb;rcases a3c.1 hb with hb|hb
    .exact .inl hb
    .rw[a2D.1 hb];exact .inr KA,k4.grow⟩
   have hU2:Up m (m++[.gJ c]):=fun i mb hi=>.inl (by rw[a0p (a0a.1 hi).1];exact hi);have hm:(m++[MB.gJ c])[H.length]? = some (.gJ c):=by rw[<-hr.len];simp
   refine⟨w,h',VT,m++[.gJ c],k1,⟨by simp[hr.len],fun i b hi=>?_,?_,k2.up,fun b hb=>?_⟩,?_,hF2,hU2,fun b hb=>absurd (k6 b hb) (e0 b)⟩
   .by_cases aQ:i<H.length
    .rw[a0p aQ]at hi;obtain⟨mb,q1,q2⟩:=hr.at_ i b hi;exact⟨mb,by rw[a0p (by rw[hr.len];exact aQ)];exact q1,q2.step hF2 hU2 fun d hd=>k4.same d (BR.has q2 hd) (e0 d)⟩
    .have Le:i=H.length:=by have:=(a0a.1 hi).1;rw[a1o,a3j]at this;omega
     subst Le;rw[a0G (a0E _)]at hi;simp at hi;subst hi;exact⟨_,hm,g2⟩
   .rw[yu];refine a96.2 ⟨hr.nodup,by simp,fun a ha b hb=>?_⟩;rw[a2D.1 hb];have:=hr.inb ha;omega
   .rw[yu]at hb;rcases a3c.1 hb with hb|hb
    .exact hr.Di b hb
    .rw[a2D.1 hb];exact k2.Di c hc
   .cases k3 with
    |map e=>rw[g1]at e;cases e;exact .map hm
    |gone hi e o=>simp only[bD,a01]at hi;subst hi;rw[g1]at e;cases e
  |_=>exact g2.elim
variable {A:Nat->Prop} {m m':List MB} {H:List (PB X.Γ)} {h:List HB}
end
section
variable {X:kP} {P:LI1}
theorem bZ.cell1(hX:bP X P){call:aY}{fv v:PV X.Γ}{MP ws1 cs X3 ws2:List (PV X.Γ)}{H H1:List (PB X.Γ)}{i e sz:Nat}{row:X.Γ e}(is:List Nat)(hi:H[i]? = some (.cells cs))(hz:dH P e=some sz)(h0:0<sz)(hl:cs.length=sz)(ZC:(X.enc e row).length=sz)
  (hs:bZ X P call fv [.agg (ws1++(.dJ e [row] false::ws2))] (bn (i::is) H) v H1) (v1:views H MP=some ws1) (v2:views H cs=some (X.enc e row)) (v3:views H X3=some ws2)
  (o1:∀j,j∈kG.ku MP->j∈i::is) (o2:∀j,j∈kG.ku cs->j∈i::is) (o3:∀j,j∈kG.ku X3->j∈i::is):bZ X P call fv [.agg (MP++(.aP i 0 1 1 sz true::X3))] H v H1:=by
 intro A m h tf qN hr hf hx;obtain⟨x0,r,rfl,v0,vr⟩:=hx.inv;cases v0 with
 |gone hi _ _=>simp[bD]at hi
 |agg a1 a2=>
  rename_i cs';have ha:bY X P (AA A m) m h (MP++(.aP i 0 1 1 sz true::X3)) cs':=⟨a1,a2⟩;obtain⟨c1,c2,rfl,b1,b2⟩:=Eo ha;obtain⟨y,c3,rfl,b3,b4⟩:=b2.inv;obtain⟨mb,g1,g2⟩:=hr.at_ i _ hi;cases mb with
  |gJ b=>
   obtain⟨ts,g3,g4⟩:=g2;have hy:y=.aP b 0 1 1 sz true:=by
    cases b3 with
    |aP q=>rw[g1]at q;cases q;rfl
    |gone hi q _=>simp only[bD,a01]at hi;subst hi;rw[g1]at q;cases q
   subst hy;have hF:=iJ (h:=h) (i::is) m;have w1:=(lM (m':=dw (i::is) m) hX hr b1 v1 o1).mono fun b hb=>FA.gone hr hb;have w3:=(lM (m':=dw (i::is) m) hX hr b4 v3 o3).mono fun b hb=>FA.gone hr hb;have w2:=lM (m':=dw (i::is) m) hX hr g4 v2 o2;have hb:FA A m (i::is) b:=.inr ⟨i,_,a2M,g1,rfl⟩;have q2:VR X P (FA A m (i::is)) (dw (i::is) m) h (.dJ e [row] false) (.aP b 0 [row].length 1 sz true):=.dJ (cs:=ts) hb (by unfold aX;rw[g3]) (fun _=>wV g3 (by simp)) hz h0 (by rw[<-g4.1,hl];simp) (a0E _) (fun e=>by cases e)
    (fun j a hj=>by
     cases j with
     |zero=>simp only[a2C,a01]at hj;subst hj;exact ZC
     |succ j=>simp at hj) (fun j a q c w hj hq hw=>by
     cases j with
     |zero=>simp only[a2C,a01]at hj;subst hj;exact w2.2 q c w hq (by simpa using hw)
     |succ j=>simp at hj)
   have w4:=w1.app (.cons (q2.mono fun b hb=>FA.gone hr hb) w3);obtain⟨w,h',VT,m1,k1,k2,k3,k4,k5,k6⟩:=hs A (dw (i::is) m) h tf (.agg (c1++(.aP b 0 1 1 sz true::c3))::r) (hr.bn (i::is)) (hf.step hF.1 hF.2) (.cons (.agg w4.1 w4.2) (vr.step hF.1 hF.2));refine⟨w,h',VT,m1,k1,k2,k3,hF.1.trans k4,hF.2.trans k5,fun b hb=>?_⟩;rcases hF.1.new b (k6 b hb)with g|g
   .exact g
   .have:=(hr.bn (i::is)).inb (k6 b hb);omega
  |_=>exact g2.elim
end
end Pv
