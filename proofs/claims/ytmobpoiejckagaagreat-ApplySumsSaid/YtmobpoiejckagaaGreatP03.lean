/- Part 4 of a proof: Many of all cells of a diagram together is the number of places; the answer to AskCount is Many of 1 of OpAnd of the condition's Where and the diagram's Where; for two diagrams that fit. -/
import Derived.Shelf.Spec.SlicesInsert
import Derived.Shelf.Spec.SlicesInsertGrow
import Derived.Shelf.Sort.Plain
import Derived.Shelf.Slices.In.SortNone
import Derived.Test.YtmobpoiejckagaaGreatProg
import Derived.KernelRfl
import Derived.Test.YtmobpoiejckagaaGreatP02
set_option linter.constructorNameAsVariable false
set_option linter.unusedVariables false
set_option linter.unusedSimpArgs false
set_option linter.unusedSectionVars false
open Go.IntKind (i64)
noncomputable section
namespace Pv
open Go Tw
section
variable {X:l7} {P:Program} {A B F:Nat->Prop} {m m':List MB} {h h':List HB} {H H':List (PB X.Γ)}
variable {call:bf} {fM:fA X.Γ} {site:Nat->Bool} {ρ:Type} {y:ρ}
def a6A(X:l7)(P:Program)(A:Nat->Prop)(m:List MB)(call:bf)(site:Nat->Bool)(ts:St)(o:Oper)(k:PE X.Γ->aS X.Γ->PI->PT X.Γ->OT ρ)(y:ρ):Prop:=
 ∃pe ps1 pi I4,OpR X P A m call site ts o pe ps1 pi∧(k pe ps1 pi I4).Ends y
theorem xk{ps:aS X.Γ}{ts:St}(hR:vw X P A m ps ts){o:Oper}{k:PE X.Γ->aS X.Γ->PI->PT X.Γ->OT ρ}{r:Option (TV×St×mP)}{v:PV X.Γ}{H1:List (PB X.Γ)}{pi:PI}{an:PT X.Γ}(hm:Xe X P A m ts r v H1 pi)
  (ho:pV P call site ts o=r.map fun(v,s,i)=>(.val v,s,i)) (hk:(k (.val v) { ps with heap:=H1 } pi an).Ends y):a6A X P A m call site ts o k y:=by
 obtain⟨w,h1,ti,m1,rfl,e1,e2,e3,e4,e5,e6⟩:=hm;exact⟨.val v,_,_,_,⟨.val w,_,ti,m1,ho,rfl,rfl,hR.step e1 e3 e4,e2,e3,e4,e5,e6⟩,hk⟩
theorem iV{ps:aS X.Γ}{ts:St}(hR:vw X P A m ps ts){o:Oper}{k:PE X.Γ->aS X.Γ->PI->PT X.Γ->OT ρ}{v:PV X.Γ}{w:TV}{pi:PI}{an:PT X.Γ}(hv:VR X P (AA A m) m ts.heap v w)(ho:pV P call site ts o=some (.val w,ts,cZ))(hk:(k (.val v) ps pi an).Ends y):a6A X P A m call site ts o k y:=
 ⟨.val v,_,_,_,uP hR ho (oq hv),hk⟩
theorem aeI{op:BinOp}{a b v:PV X.Γ}{ta tb:TV}{ps:List Prop}{t:TypeId}{x z:Operand}(ha:VR X P A m h a ta)(hb:VR X P A m h b tb)(hd:aeo op a b=some (v,ps))(hp:∀p∈ps,p) :
  ∃w,sS P op t x z ta tb=some w∧VR X P A m h v w:=by
 unfold aeo at hd;split at hd
 .cases ha with
  |gone hi _ _=>simp[bn]at hi
  |int=>
   cases hb with
   |gone hi _ _=>simp[bn]at hi
   |int=>
    split at hd
    .split at hd
     .rename_i e;subst e;cases hd;exact⟨_,a6c (hp _ (.head _)),.int _ _⟩
     .cases hd
    .split at hd
     .rename_i e;subst e;cases hd;exact⟨_,a6d (hp _ (.head _)),.int _ _⟩
     .cases hd
    .cases hd;exact⟨_,a6a (hp _ (.head _)),.int _ _⟩
    .cases hd;exact⟨_,a6b (hp _ (.head _)),.int _ _⟩
    .cases hd
 .cases hd
theorem aeJ(hX:bP X P)(hO:jM X P call fM){ps:aS X.Γ}{ts:St}(hR:vw X P A m ps ts){o:Oper}{an:PT X.Γ}{k:PE X.Γ->aS X.Γ->PI->PT X.Γ->OT ρ}(hk:(aes X P fM (aW X P call) site ps o an k).Ends y):a6A X P A m call site ts o k y:=by
 have hE:=hR.env;unfold aes at hk;split at hk
 .-- move
  rename_i x ho;split at hk
  .rename_i v hv;obtain⟨e,h1,h2⟩:=nN hE hv;exact⟨_,_,_,_,uP hR (by simp only[pV,ho,h1,a0B]) h2,hk⟩
  exact hk.elim
 .rename_i x ho;split at hk
  .rename_i v hv;obtain⟨e,h1,h2⟩:=nN hE hv;exact⟨_,_,_,_,uP hR (by simp only[pV,ho,h1,a0B]) h2,hk⟩
  exact hk.elim
 .-- pick
  rename_i c a b ho;split at hk
  .rename_i u hu;obtain⟨tu,h1,h2⟩:=Xa hE hu;obtain⟨t,I4,rfl,hk⟩:=ZN hk h2;split at hk
   .rename_i v hv;obtain⟨e,g1,g2⟩:=nN hE hv;exact⟨_,_,_,_,uP (hR.BZ h1) (by simp only[pV,ho,h1,g1,a0B]) g2,hk⟩
   exact hk.elim
  exact hk.elim
 .-- alloc
  rename_i e ho;split at hk
  .rename_i z hz;obtain⟨z',g1,g2⟩:=Ht (A:=AA A m) (m:=m) (h:=ts.heap) hz;obtain⟨m1,e1,e2,e3,e4,e5,e6⟩:=SG hR (site:=site (o.dst.getD 0)) g2;exact⟨_,_,_,_,⟨_,_,cZ,m1,by simp only[pV,ho,g1,a0B],e1,e2,e3,e4,e5,e6,.none,fun b hb=>by cases hb⟩,hk⟩
  exact hk.elim
 .-- box
  rename_i t x ho;split at hk
  .rename_i v hv;obtain⟨w,g1,g2⟩:=jB hE hv;split at hk
   .rename_i FB;have hc:=Ho g2;obtain⟨m1,e1,e2,e3,e4,e5,e6⟩:=SG hR (site:=site (o.dst.getD 0)) hc;exact⟨_,_,_,_,⟨_,_,cZ,m1,by simp only[pV,ho,g1,Eh hc,FB,a2k],e1,e2,e3,e4,e5,e6,.none,fun b hb=>by cases hb⟩,hk⟩
   exact hk.elim
  exact hk.elim
 .-- build
  rename_i t qs ho;split at hk
  .rename_i vs hvs;obtain⟨ws,g1,g2⟩:=ZI hE hvs;split at hk
   .rename_i v hv;obtain⟨w,g3,g4⟩:=a6n g2 hv;exact iV hR g4 (by simp only[pV,ho,g1,g3,a0B]) hk
   exact hk.elim
  exact hk.elim
 .-- buildSlice
  rename_i t len qs ho;split at hk
  .rename_i vs hvs;obtain⟨ws,g1,g2⟩:=ZI hE hvs;split at hk
   .split at hk
    .rename_i v H1 hv;refine xk hR (uz hX hR g2 hv) ?_ hk;simp only[pV,ho,g1,afV];rfl
    exact hk.elim
   split at hk
   .rename_i v H1 hv;refine xk hR (uz hX hR g2 hv) ?_ hk;simp only[pV,ho,g1,afV];rfl
   exact hk.elim
  exact hk.elim
 .-- load
  rename_i t a ho;split at hk
  .rename_i pa ha;obtain⟨ea,g1,g2⟩:=nN hE ha;split at hk
   .rename_i v i hv;obtain⟨w,ti,g3,g4,g5,g6⟩:=Gy hX hR g2 hv;exact⟨.val v,_,_,_,⟨.val w,ts,ti,m,by simp only[pV,ho,g1,g3,a0B],rfl,rfl,hR,g4,.refl,.refl,g5,fun b hb=>by rw[g6]at hb;cases hb⟩,hk⟩
   exact hk.elim
  exact hk.elim
 .-- store
  rename_i t a x ho;split at hk
  .rename_i pa v ha hv;obtain⟨ea,g1,g2⟩:=nN hE ha;obtain⟨w,g3,g4⟩:=jB hE hv;split at hk
   .rename_i s i hs;obtain⟨iP,ti,m1,e1,e2,e3,e4,e5,e6,e7,e8⟩:=zf hX hR g2 g4 hs;exact⟨.undef,_,_,_,⟨.undef,iP,ti,m1,by simp only[pV,ho,g1,g3,e1,a0B],e2,e3,e4,trivial,e5,e6,e7,e8⟩,hk⟩
   exact hk.elim
  exact hk.elim
 .-- nilCheck
  rename_i x ho;have go:∀{pe:PE X.Γ} {ev:EV},IJ ts.env x=some ev->IQ X P (AA A m) m ts.heap pe ev->(match ev with|.loc _ _=>True|.val (.ptr _ _ _)=>True|.val (.fn _ _ _)=>True|_=>False)->(k pe ps xX an).Ends y->a6A X P A m call site ts o k y:=by
   intro pe ev h1 h2 h3 h4;refine⟨_,_,_,_,uP hR ?_ h2,h4⟩;cases ev with
   |loc a b=>simp only[pV,ho,h1]
   |val v=>cases v<;>simp at h3<;>simp only[pV,ho,h1]
   |undef|ent|EI=>simp at h3
  split at hk
  .rename_i a b ha;obtain⟨ea,g1,g2⟩:=nN hE ha;have:=Ei g2;subst this;exact go g1 g2 trivial hk
  .rename_i a b c ha;obtain⟨ea,g1,g2⟩:=nN hE ha;obtain⟨w,rfl,g3⟩:=fU g2;split at hk
   .rename_i cs hb;obtain⟨mb,f1,f2⟩:=hR.heap.at_ a _ hb;cases mb with
    |gu cb=>
     cases g3 with
     |ptr e=>exact go g1 g2 trivial hk
     |gone hi e _=>simp only[bn,a04]at hi;subst hi;rw[f1]at e;cases e
    |_=>exact f2.elim
   .rename_i cs hb;obtain⟨mb,f1,f2⟩:=hR.heap.at_ a _ hb;cases mb with
    |jA cb=>
     cases g3 with
     |ptr e=>rw[f1]at e;cases e
     |gone hi e _=>
      simp only[bn,a04]at hi;subst hi;rw[f1]at e;cases e with
      |r _ e=>simp only[roV,a04]at e;subst e;exact go g1 g2 trivial hk
    |_=>exact f2.elim
   exact hk.elim
  .rename_i a b c ha;obtain⟨ea,g1,g2⟩:=nN hE ha;obtain⟨w,rfl,g3⟩:=fU g2;split at hk
   .rename_i q1 q2 q3 q4 hb;obtain⟨mb,f1,f2⟩:=hR.heap.at_ a _ hb;cases mb with
    |dF cb=>
     cases g3 with
     |row e=>exact go g1 g2 trivial hk
     |gone hi e _=>simp only[bn,a04]at hi;subst hi;rw[f1]at e;cases e
    |_=>exact f2.elim
   exact hk.elim
  .rename_i a b c ha;obtain⟨ea,g1,g2⟩:=nN hE ha;obtain⟨w,rfl,g3⟩:=fU g2;cases g3 with
   |el=>exact go g1 g2 trivial hk
   |gone hi _ _=>simp[bn]at hi
  .rename_i a b c ha;obtain⟨ea,g1,g2⟩:=nN hE ha;obtain⟨w,rfl,g3⟩:=fU g2;cases g3 with
   |fn=>exact go g1 g2 trivial hk
   |gone hi _ _=>simp[bn]at hi
  exact hk.elim
 .-- binOp
  rename_i op t x z w0 ho;split at hk
  rotate_left
  .exact hk.elim
  rename_i a b ha hb;obtain⟨ta,g1,g2⟩:=jB hE ha;obtain⟨tb,g3,g4⟩:=jB hE hb;split at hk
  .split at hk
   .rename_i v ps hd;obtain⟨hp,hk⟩:=uQ hk;obtain⟨w,e1,e2⟩:=aeI (P:=P) (t:=t) (x:=x) (z:=z) g2 g4 hd hp;exact iV hR e2 (by simp only[pV,ho,g1,g3,e1,a0B]) hk
   exact hk.elim
  split at hk
  .rename_i v q hv;obtain⟨w,e1,e2⟩:=a3m (x:=x) (y:=z) hR.heap g2 g4 hv hk.1;exact iV hR e2 (by simp only[pV,ho,g1,g3,e1,a0B]) hk.2
  split at hk
  .split at hk
   .rename_i w r;split at hk
    .rename_i v ua ub e1 e2 e3;obtain⟨QE,hk⟩:=hk;rw[<-jT g2 e2,<-jT g4 e3]at QE;exact iV hR (xg e1) (by simp only[pV,ho,g1,g3,QE,a0B]) hk
    exact hk.elim
   exact hk.elim
  split at hk
  .rename_i v hv;obtain⟨w,e1,e2⟩:=YX g2 g4 hv;exact iV hR e2 (by simp only[pV,ho,g1,g3,e1,a0B]) hk
  exact hk.elim
 .-- unOp
  rename_i op t x ho;split at hk
  .rename_i a ha;obtain⟨ta,g1,g2⟩:=jB hE ha;split at hk
   .rename_i v hv;obtain⟨w,e1,e2⟩:=iZ g2 hv;exact iV hR e2 (by simp only[pV,ho,g1,e1,a0B]) hk
   exact hk.elim
  exact hk.elim
 .-- convert
  rename_i s d x ho;split at hk
  .rename_i a ha;obtain⟨ta,g1,g2⟩:=jB hE ha;split at hk
   .split at hk
    .rename_i w r;split at hk
     .rename_i v ua e1 e2;obtain⟨QE,hk⟩:=hk;rw[<-jT g2 e2]at QE;exact iV hR (xg e1) (by simp only[pV,ho,g1,QE,a0B]) hk
     exact hk.elim
    exact hk.elim
   split at hk
   .rename_i v hv;obtain⟨w,e1,e2⟩:=Uj g2 hv;exact iV hR e2 (by simp only[pV,ho,g1,e1,a0B]) hk
   exact hk.elim
  exact hk.elim
 .-- makeFunc
  rename_i f first cap ho
  split at hk
  .rename_i a b ha hb;obtain⟨ta,g1,g2⟩:=UU hE ha;obtain⟨tb,g3,g4⟩:=UU hE hb;exact iV hR (.fn g2.1 g2.2 g4.1 g4.2) (by simp only[pV,ho,g1,g3]) hk
  exact hk.elim
 .-- makeMap
  rename_i t r ho;have hp:=hR.heap.push (pb:=.map []) (hb:=.map []) (mb:=.gu ts.heap.length) (.inl rfl) ⟨[],by simp,rfl,fun i a b ha=>by simp at ha⟩;have go:pV P call site ts o=some (.val (.map ts.heap.length),{ ts with heap:=ts.heap++[.map []] },cZ)->∀{an:PT X.Γ},(k (.val (.map ps.heap.length)) { ps with heap:=ps.heap++[.map []] } xX an).Ends y->a6A X P A m call site ts o k y:=fun h1 an h2=>
   ⟨.val (.map ps.heap.length),_,_,_,⟨_,_,cZ,_,h1,rfl,rfl,hR.step hp.1 hp.2.1 hp.2.2,oq (.map (by rw[<-hR.heap.len];simp)),hp.2.1,hp.2.2,.none,fun b hb=>by cases hb⟩,h2⟩
  split at hk
  .rename_i h1;obtain⟨w,g1,g2⟩:=Hu hE h1;have:=rP g2;subst this;exact go (by simp only[pV,ho,g1]) hk
  .rename_i k0 n0 kt vt h1 hu;obtain⟨w,g1,g2⟩:=Hu hE h1;have:=OU g2;subst this;exact go (by simp only[pV,ho,g1,hu]) hk
  exact hk.elim
 .-- makeSlice
  rename_i t l c ho;split at hk
  .rename_i vl vc hl hc;obtain⟨tl,g1,g2⟩:=jB hE hl;obtain⟨tc,g3,g4⟩:=jB hE hc;split at hk
   .rename_i v H1 qs hv;obtain⟨hq,hk⟩:=uQ hk;refine xk hR (Ak hX hR g2 g4 hv hq) ?_ hk;simp only[pV,ho,g1,g3,afV];rfl
   exact hk.elim
  exact hk.elim
 .-- slice
  rename_i t x lo hi mx ho;split at hk
  rotate_left
  .exact hk.elim
  rename_i px plo xM pmx hx GU hhi hmx;obtain⟨ex,g1,g2⟩:=nN hE hx;obtain⟨QM,g3,g4⟩:=Hu hE GU;obtain⟨QN,g5,g6⟩:=Hu hE hhi;obtain⟨tmx,g7,g8⟩:=Hu hE hmx;split at hk
  .rename_i n e hu;split at hk
   .split at hk
    .rename_i v hv;refine xk (H1:=ps.heap) hR (V3 hR g2 g4 g6 g8 hv) ?_ hk;simp only[pV,ho,g1,g3,g5,g7,hu,afV];rfl
    exact hk.elim
   split at hk
   .rename_i v H1 qs hv;obtain⟨hq,hk⟩:=uQ hk;refine xk hR (CW hX hR g2 g4 g6 g8 hv hq) ?_ hk;simp only[pV,ho,g1,g3,g5,g7,hu,afV];rfl
   exact hk.elim
  rename_i aeK;have jr:∀{w:TV},ex=.val w->pV P call site ts o=(qY P t w QM QN tmx).map fun v=>(.val v,ts,cZ):=by
   intro w e;subst e;simp only[pV,ho,g1,g3,g5,g7]
  split at hk
  .rename_i b;obtain⟨w,rfl,g9⟩:=fU g2;have:w=.str b:=by
    cases g9 with
    |str=>rfl
    |gone hi _ _=>simp[bn]at hi
   subst this;split at hk
   rotate_left
   .exact hk.elim
   rename_i w r;split at hk
   rotate_left
   .exact hk.elim
   rename_i v tl th e1 e2 e3;split at hk
   rotate_left
   .exact hk.elim
   rename_i aiz;obtain⟨hs,hk⟩:=hk;have h7:tmx=none:=by
    cases pmx with
    |none=>exact rP g8
    |some _=>simp at aiz
   have h5:QM=tl:=by
    cases plo with
    |none=>simp at e2;rw[rP g4,e2]
    |some q=>
     obtain⟨tq,rfl⟩:=MV g4;simp only[a07]at e2;obtain⟨q1,q2,rfl⟩:=e2;rw[jT (show VR X P (AA A m) m ts.heap q tq from g4) q2]
   have h6:QN=th:=by
    cases xM with
    |none=>simp at e3;rw[rP g6,e3]
    |some q=>
     obtain⟨tq,rfl⟩:=MV g6;simp only[a07]at e3;obtain⟨q1,q2,rfl⟩:=e3;rw[jT (show VR X P (AA A m) m ts.heap q tq from g6) q2]
   subst h5;subst h6;subst h7;exact iV hR (xg e1) (by rw[jr rfl,hs];rfl) hk
  .rename_i px' hns;obtain⟨w,rfl,g9⟩:=fU g2;split at hk
   .rename_i v qs hv;obtain⟨hq,hk⟩:=uQ hk;obtain⟨w',e1,e2⟩:=O4 hR g9 g4 g6 g8 hv hq;exact iV hR e2 (by rw[jr rfl,e1];rfl) hk
   exact hk.elim
  exact hk.elim
 .-- fieldAddr
  rename_i t x f ho;split at hk
  .rename_i pa n ha hn;obtain⟨ea,g1,g2⟩:=nN hE ha;split at hk
   .rename_i v hv;obtain⟨eb,g3,g4⟩:=NY hR g2 hv;exact⟨_,_,_,_,uP hR (by simp only[pV,ho,g1,hn,g3,a0B]) g4,hk⟩
   exact hk.elim
  exact hk.elim
 .-- field
  rename_i t x f ho;split at hk
  .rename_i a ha;obtain⟨ta,g1,g2⟩:=jB hE ha;split at hk
   .rename_i v hv;obtain⟨w,e1,e2⟩:=NZ g2 hv;exact iV hR e2 (by simp only[pV,ho,g1,e1,a0B]) hk
   exact hk.elim
  exact hk.elim
 .-- indexAddr
  rename_i t x i ho;split at hk
  .rename_i pa vi ha hi;obtain⟨ea,g1,g2⟩:=nN hE ha;obtain⟨ti,g3,g4⟩:=jB hE hi;split at hk
   .rename_i v qs hv;obtain⟨hq,hk⟩:=uQ hk;obtain⟨eb,g5,g6⟩:=Ai hR g2 g4 hv hq;exact⟨_,_,_,_,uP hR (by simp only[pV,ho,g1,g3,g5,a0B]) g6,hk⟩
   exact hk.elim
  exact hk.elim
 .-- index
  rename_i t x i ho;split at hk
  .rename_i a vi ha hi;obtain⟨ta,g1,g2⟩:=jB hE ha;obtain⟨ti,g3,g4⟩:=jB hE hi;split at hk
   .split at hk
    .rename_i w r;split at hk
     .rename_i v ua ui e1 e2 e3;obtain⟨QE,hk⟩:=hk;rw[<-jT g2 e2,<-jT g4 e3]at QE;exact iV hR (xg e1) (by simp only[pV,ho,g1,g3,QE,a0B]) hk
     exact hk.elim
    exact hk.elim
   split at hk
   .rename_i v hv;obtain⟨w,e1,e2⟩:=O1 g2 g4 hv;exact iV hR e2 (by simp only[pV,ho,g1,g3,e1,a0B]) hk
   exact hk.elim
  exact hk.elim
 .-- lookup
  rename_i t mm i ok ho;split at hk
  .rename_i vm vi hm hi;obtain⟨tm,g1,g2⟩:=jB hE hm;obtain⟨ti,g3,g4⟩:=jB hE hi;obtain⟨v,pi,I4,w,e1,e2,e3,e4⟩:=aa3 hR g2 g4 hk;refine⟨.val v,_,_,_,⟨.val w,ts,_,m,?_,rfl,rfl,hR,e2,.refl,.refl,e4,fun b hb=>by cases hb⟩,e3⟩;simp only[pV,ho,g1,g3,e1,a0B];cases tm<;>rfl
  exact hk.elim
 .-- mapUpdate
  rename_i t mm i x ho;split at hk
  .rename_i vm vi vx hm hi hx;obtain⟨tm,g1,g2⟩:=jB hE hm;obtain⟨ti,g3,g4⟩:=jB hE hi;obtain⟨tx,g5,g6⟩:=jB hE hx;obtain⟨ps1,pi,I4,h1,ZU,e1,e2,e3,e4,e5,e6⟩:=a6w hR g2 g4 g6 hk;exact⟨.undef,_,_,_,⟨.undef,{ ts with heap:=h1 },ZU,m,by simp only[pV,ho,g1,g3,g5,e1,a0B],rfl,rfl,e2,trivial,e3,.refl,e5,e6⟩,e4⟩
  exact hk.elim
 .-- insert
  rename_i t mm i x ho;split at hk
  .rename_i vm vi vx hm hi hx;obtain⟨tm,g1,g2⟩:=jB hE hm;obtain⟨ti,g3,g4⟩:=jB hE hi;obtain⟨tx,g5,g6⟩:=jB hE hx;obtain⟨ps1,pi,I4,h1,ZU,e1,e2,e3,e4,e5,e6⟩:=a6w hR g2 g4 g6 hk;exact⟨.undef,_,_,_,⟨.undef,{ ts with heap:=h1 },ZU,m,by simp only[pV,ho,g1,g3,g5,e1,a0B],rfl,rfl,e2,trivial,e3,.refl,e5,e6⟩,e4⟩
  exact hk.elim
 .-- mapEntry
  rename_i t mm i ho;split at hk
  .rename_i vm vi hm hi;obtain⟨tm,g1,g2⟩:=jB hE hm;obtain⟨ti,g3,g4⟩:=jB hE hi;obtain⟨e,e',ps1,pi,I4,h1,ZU,e1,e0,e2,e3,e4,e5,e6⟩:=aa5 hR g2 g4 hk;exact⟨e,_,_,_,⟨e',{ ts with heap:=h1 },ZU,m,by simp only[pV,ho,g1,g3,e1],rfl,rfl,e2,e0,e3,.refl,e5,e6⟩,e4⟩
  exact hk.elim
 .-- entryStore
  rename_i t mm i x ho;split at hk
  .rename_i vm vi vx hm hi hx;obtain⟨tm,g1,g2⟩:=jB hE hm;obtain⟨ti,g3,g4⟩:=nN hE hi;obtain⟨tx,g5,g6⟩:=jB hE hx;obtain⟨ps1,pi,h1,ZU,e1,e2,e3,e4,e5,e6⟩:=aa7 hR g2 g4 g6 hk;exact⟨.undef,_,_,_,⟨.undef,{ ts with heap:=h1 },ZU,m,by simp only[pV,ho,g1,g3,g5,e1,a0B],rfl,rfl,e2,trivial,e3,.refl,e5,e6⟩,e4⟩
  exact hk.elim
 .-- extract
  rename_i t i ho;split at hk
  .rename_i vs hv;obtain⟨w,g1,g2⟩:=nN hE hv;obtain⟨w,rfl,g2⟩:=fU g2;split at hk
   .rename_i v hvi;cases g2 with
    |dM h1 h2=>
     obtain⟨x,e1,e2⟩:=bY.get ⟨h1,h2⟩ hvi;exact iV hR e2 (by simp only[pV,ho,g1,yZ,e1,a0B]) hk
    |gone hi _ _=>simp[bn]at hi
   exact hk.elim
  .rename_i r j v hv;obtain⟨w,g1,g2⟩:=nN hE hv;obtain⟨c,y0,rfl,q1,q2⟩:=MR g2;split at hk
   .exact iV hR (oh q2) (by simp only[pV,ho,g1,yZ,a0B]) hk
   .exact⟨_,_,_,_,uP hR (pe:=.EI r j) (ev:=.EI c j) (by simp only[pV,ho,g1,yZ,a0B]) ⟨q1,rfl⟩,hk⟩
   exact hk.elim
  exact hk.elim
 .-- call
  rename_i c ho;split at hk
  rotate_left
  .exact hk.elim
  rename_i az has;obtain⟨tas,g1,g2⟩:=UU hE has;have yx:∀{b:Builtin},c.callee=.builtin b->∀{r:Option (TV×St×mP)},qZ P b c.argTypes o.type ts tas=r->pV P call site ts o=r.map fun(v,s,i)=>(.val v,s,i):=by
   intro b hb r hr;simp only[pV,ho,ND,hb,g1,hr]
  split at hk
  .rename_i hb;split at hk
   .rename_i x;obtain⟨tx,r,rfl,q1,q2⟩:=g2.inv;have:=q2.inv0;subst this;split at hk
    .rename_i v i hv;obtain⟨w,ti,e1,e2,e3,e4⟩:=Z4 hR.heap q1 hv;exact⟨.val v,_,_,_,⟨.val w,ts,ti,m,by rw[yx hb (r:=some (w,ts,ti)) (by simp only[qZ,e1,a0B])];rfl,rfl,rfl,hR,oq e2,.refl,.refl,e3,fun b hb=>by rw[e4]at hb;cases hb⟩,hk⟩
    exact hk.elim
   exact hk.elim
  .rename_i hb;split at hk
   .rename_i d x;obtain⟨td,r,rfl,q1,q2⟩:=g2.inv;obtain⟨tx,r,rfl,q3,q4⟩:=q2.inv;have:=q4.inv0;subst this;split at hk
    .rename_i v H1 i qs hv;obtain⟨hq,hk⟩:=uQ hk;exact xk hR (J4 hX hR q1 q3 hv hq) (yx hb rfl) hk
    exact hk.elim
   exact hk.elim
  .rename_i hb;split at hk
   .rename_i d x;obtain⟨td,r,rfl,q1,q2⟩:=g2.inv;obtain⟨tx,r,rfl,q3,q4⟩:=q2.inv;have:=q4.inv0;subst this;split at hk
    .rename_i v H1 i hv;exact xk hR (Un hX hR q1 q3 hv) (yx hb rfl) hk
    exact hk.elim
   exact hk.elim
  .rename_i hb;split at hk
   .rename_i v hv;obtain⟨w,e1,e2⟩:=zk g2 hv;refine iV hR e2 ?_ hk;rw[yx hb (r:=some (w,ts,cZ)) (by simp only[qZ,e1,a0B])];rfl
   exact hk.elim
  .rename_i hb;split at hk
   .rename_i v hv;obtain⟨w,e1,e2⟩:=zk g2 hv;refine iV hR e2 ?_ hk;rw[yx hb (r:=some (w,ts,cZ)) (by simp only[qZ,e1,a0B])];rfl
   exact hk.elim
  .rename_i f hb;split at hk
   rotate_left
   .exact hk.elim
   rename_i fv hfv;obtain⟨tf,f1,f2⟩:=jB hE hfv;have jr:∀{w:TV} {h1:List HB} {ws:List Nat},call tf tas ts.heap=some (w,h1,ws)->pV P call site ts o=some (.val w,{ ts with heap:=h1 },⟨true,[],ws.map .h⟩):=by
    intro w h1 ws hc;simp only[pV,ho,ND,hb,g1,f1,hc]
   unfold a6k at hk;split at hk
   .rename_i v H1 r;obtain⟨hs,hk⟩:=hk;obtain⟨w,h1,ws,m1,c1,c2,c3,c4,c5,c6⟩:=hs A m ts.heap tf tas hR.heap f2 g2;refine⟨.val v,_,_,_,⟨.val w,_,_,m1,jr c1,rfl,rfl,hR.step c2 c4 c5,oq c3,c4,c5,⟨fun _=>rfl,fun k hk=>(by cases hk),fun k hk=>?_,fun b hb=>?_,fun b hb=>(by cases hb),fun h=>(by cases h)⟩,fun b hb=>?_⟩,hk⟩
    .simp at hk
    .simp at hb;exact .inr ⟨rfl,c6 b hb⟩
    simp at hb;exact c6 b hb
   .split at hk
    .rename_i Hp jH hp;split at hk
     .rename_i Hs fv1 xs1 hHs aeL aeM;split at hk
      .rename_i v1 Qy hv1 aeN;obtain⟨hs,hk⟩:=hk;simp only[a1D,a0N]at jH;obtain⟨w,h1,ws,m1,c1,c2,c3,c4,c5,c6⟩:=Jk hX hs.w jH.1 hp hHs aeL aeM hv1 aeN jH.2 A m ts.heap tf tas hR.heap f2 g2;refine⟨.val v1,_,_,_,⟨.val w,_,_,m1,jr c1,rfl,rfl,hR.step c2 c4 c5,oq c3,c4,c5,⟨fun _=>rfl,fun k hk=>(by cases hk),fun k hk=>?_,fun b hb=>?_,fun b hb=>(by cases hb),fun h=>(by cases h)⟩,fun b hb=>?_⟩,hk⟩
       .simp at hk
       .simp at hb;obtain⟨_,k,h8,_,h9⟩:=c6 b hb;exact .inl ⟨k,a0H.2 ⟨k,a4N h8,rfl⟩,h9⟩
       simp at hb;obtain⟨_,k,_,_,mb,h8,h9⟩:=c6 b hb;exact bg h8 h9
      exact hk.elim
     exact hk.elim
    exact hk.elim
   .split at hk
    .rename_i Hp jH hp;split at hk
     .rename_i Hs fv1 xs1 hHs aeL aeM;split at hk
      .rename_i v1 Qy Hs2 H2 hv1 aeN aoo;obtain⟨hs,hk⟩:=hk;simp only[a1D,a0N]at jH;have hsl:Hs.length=_:=(tV hHs).1.trans (Eo hp).1;obtain⟨w,h1,ws,m1,c1,c2,c3,c4,c5,c6⟩:=Jk hX (ZQ aoo (by rw[hsl];exact jH.2) hs.w) jH.1 hp hHs aeL aeM hv1 aeN jH.2 A m ts.heap tf tas hR.heap f2 g2;refine⟨.val v1,_,_,_,⟨.val w,_,_,m1,jr c1,rfl,rfl,hR.step c2 c4 c5,oq c3,c4,c5,⟨fun _=>rfl,fun k hk=>(by cases hk),fun k hk=>?_,fun b hb=>?_,fun b hb=>(by cases hb),fun h=>(by cases h)⟩,fun b hb=>?_⟩,hk⟩
       .simp at hk
       .simp at hb;obtain⟨p,k,h8,h7,h9⟩:=c6 b hb;exact .inl ⟨k,a0H.2 ⟨k,Xl h8 (by simpa using h7.2),rfl⟩,h9⟩
       simp at hb;obtain⟨_,k,_,_,mb,h8,h9⟩:=c6 b hb;exact bg h8 h9
      exact hk.elim
     exact hk.elim
    exact hk.elim
   split at hk
   .rename_i g first cap _
    cases f2 with
    |gone hi _ _=>simp[bn]at hi
    |fn p1 p2 p3 p4=>
     split at hk
     .rename_i vs hvs;split at hk
      .rename_i v ext qs aop;split at hk
       .rename_i ext' FD;obtain⟨hq,hk⟩:=uQ hk;obtain⟨w,h1,m1,c1,c2,c3,c4,c5⟩:=HY hX (hO _ _ _ _ _ aop hq) hR.heap hvs FD ⟨p1,p2⟩ g2 ⟨p3,p4⟩;refine⟨.val (shift ps.heap.length v),_,_,_,⟨.val w,_,_,m1,jr c1,rfl,rfl,hR.step c2 c4 c5,oq c3,c4,c5,⟨fun _=>rfl,fun k hk=>(by cases hk),fun k hk=>(by simp at hk),fun b hb=>(by simp at hb),fun b hb=>(by cases hb),fun h=>(by cases h)⟩,fun b hb=>(by simp at hb)⟩,hk⟩
       exact hk.elim
      exact hk.elim
     exact hk.elim
   exact hk.elim
  exact hk.elim
 .-- range
  rename_i t x ho;split at hk
  .rename_i r kt et hx hu;obtain⟨tx,g1,g2⟩:=jB hE hx;split at hk
   .rename_i es LY;obtain⟨c,gq,q0,q3,q4,q5⟩:=Dj hR.heap LY;have htm:=a1s g2 q0;subst htm;have aQ:r<m.length:=by rcases q0 with q1|⟨q1,_⟩<;>exact(a05.1 q1).1
    have hp:=hR.heap.push (pb:=.dn r es.length []) (hb:=.dn c es.length []) (mb:=.gu ts.heap.length) (.inl rfl) ⟨c,by simp,by rw[a0g aQ];rcases q0 with q1|⟨q1,_⟩<;>rw[q1]<;>rfl,fun c' hc=>by
     rw[a0g aQ]at hc;rcases q0 with q1|⟨q1,_⟩<;>rw[q1]at hc<;>simp at hc<;>exact hc.symm⟩
    have go:pV P call site ts o=some (.val (.iter ts.heap.length),{ ts with heap:=ts.heap++[.dn c es.length []] },xO (.h c)):=by
     simp only[pV,ho,g1,hu,q3,q4]
    exact⟨.val (.iter ps.heap.length),_,_,_,⟨_,_,xO (.h c),_,go,rfl,rfl,hR.step hp.1 hp.2.1 hp.2.2,oq (.iter (by rw[<-hR.heap.len];simp)),hp.2.1,hp.2.2,IR.reads rfl (fun b hb=>by simp[xO]at hb;subst hb;exact⟨SN q0,(a05.1 q3).1⟩) (by simp[xO]),fun b hb=>by simp[xO]at hb⟩,hk⟩
   exact hk.elim
  exact hk.elim
 .-- entry
  rename_i x ho;split at hk
  rotate_left
  .exact hk.elim
  rename_i b hx;obtain⟨tx,g1,g2⟩:=jB hE hx;split at hk
  rotate_left
  .exact hk.elim
  rename_i r n i seen hb;split at hk
  rotate_left
  .exact hk.elim
  rename_i es LY;split at hk
  .rename_i kk vv _ rest;obtain⟨⟨hn,he⟩,hk⟩:=hk;obtain⟨e,rfl,rfl⟩:∃e:PV X.Γ×PV X.Γ,e.1=kk∧e.2=vv:=⟨(kk,vv),rfl,rfl⟩;have he:es[i]? = some e:=he;obtain⟨mb,q1,q2⟩:=hR.heap.at_ b _ hb;cases mb with
   |gu cb=>
    obtain⟨c,q3,_,q5⟩:=q2;obtain⟨c',gq,z1,z3,z4,z5⟩:=Dj hR.heap LY;have:=q5 c' (by rcases z1 with z1|⟨z1,_⟩;exact .inl z1;exact .inr z1);subst this;cases g2 with
    |gone hi e _=>simp only[bn,a04]at hi;subst hi;rw[q1]at e;cases e
    |iter e1=>
     rw[q1]at e1;cases e1;have hl:i<gq.length:=by rw[<-z4];exact(a05.1 he).1
     have he':=a0b hl;have hv:=z5 i _ _ he he';refine⟨.val (.dM [e.1,e.2]),_,_,_,⟨.val (.dM [gq[i].1,gq[i].2]),ts,iy [.h cb,.h c'],m,?_,rfl,rfl,hR,oq (MW (oh hv.1) (oh hv.2)),.refl,.refl,IR.reads rfl (fun b2 yw=>?_) (by simp[iy]),fun b hb=>by simp[iy]at hb⟩,hk⟩
     .simp only[pV,ho,g1,q3,z3];rw[a0u (by rw[<-z4];exact hn),he'];rfl
     simp[iy]at yw;rcases yw with rfl|rfl
     .exact⟨.inl ⟨b,by simp[iy],iY q1 rfl⟩,(a05.1 q3).1⟩
     refine⟨?_,(a05.1 z3).1⟩;rcases z1 with z1|⟨_,z1⟩
     .exact .inl ⟨r,by simp[iy],iY z1 rfl⟩
     exact .inr z1
   |_=>exact q2.elim
  split at hk
  case isFalse=>exact hk.elim
  rename_i hn;split at hk
  case h_2=>exact hk.elim
  rename_i e he;obtain⟨mb,q1,q2⟩:=hR.heap.at_ b _ hb;cases mb with
  |gu cb=>
   obtain⟨c,q3,_,q5⟩:=q2;obtain⟨c',gq,z1,z3,z4,z5⟩:=Dj hR.heap LY;have:=q5 c' (by rcases z1 with z1|⟨z1,_⟩;exact .inl z1;exact .inr z1);subst this;cases g2 with
   |gone hi e _=>simp only[bn,a04]at hi;subst hi;rw[q1]at e;cases e
   |iter e1=>
    rw[q1]at e1;cases e1;have hl:i<gq.length:=by rw[<-z4];exact(a05.1 he).1
    have he':=a0b hl;have hv:=z5 i _ _ he he';refine⟨.val (.dM [e.1,e.2]),_,_,_,⟨.val (.dM [gq[i].1,gq[i].2]),ts,iy [.h cb,.h c'],m,?_,rfl,rfl,hR,oq (MW (oh hv.1) (oh hv.2)),.refl,.refl,IR.reads rfl (fun b2 yw=>?_) (by simp[iy]),fun b hb=>by simp[iy]at hb⟩,hk⟩
    .simp only[pV,ho,g1,q3,z3];rw[a0u (by rw[<-z4];exact hn),he'];rfl
    simp[iy]at yw;rcases yw with rfl|rfl
    .exact⟨.inl ⟨b,by simp[iy],iY q1 rfl⟩,(a05.1 q3).1⟩
    refine⟨?_,(a05.1 z3).1⟩;rcases z1 with z1|⟨_,z1⟩
    .exact .inl ⟨r,by simp[iy],iY z1 rfl⟩
    exact .inr z1
  |_=>exact q2.elim
 exact hk.elim
end
inductive IRs:List MB->List HB->List PI->List mP->Prop where
 |nil {m h}:IRs m h [] []
 |cons {m h p t m1 h1 ps ts}:(bD m).Nodup->(∀b,b∈bD m->b<h.length)->IR m h p t->Fr m h m1 h1->Up m m1->(p.mv=false->∀(i:Nat),i<m.length->m1[i]? = some .gone->m[i]? = some .gone)->IRs m1 h1 ps ts->IRs m h (p::ps) (t::ts)
theorem a6B{fl b c:Nat}{ws:List Nat}(h:c∈EJ fl b ws):c∈ws∨(c=b∧b<fl):=by
 unfold EJ at h;split at h
 .rename_i hl;split at h
  .exact .inl h
  rcases a1J.1 h with h|h
  .exact .inr ⟨h,hl⟩
  exact .inl h
 exact .inl h
theorem wz{fl c:Nat}:∀{ks:List Key} {ws:List Nat},c∈kC fl ks ws->c∈ws∨(.h c∈ks∧c<fl)
 | [],ws,h=>.inl h
 |.h b::ks,ws,h=>by
  rcases wz (ks:=ks) h with h|⟨h1,h2⟩
  .rcases a6B h with h|⟨rfl,h⟩
   .exact .inl h
   exact .inr ⟨a2S,h⟩
  exact .inr ⟨a2U _ h1,h2⟩
 |.l _::ks,ws,h=>by
  rcases wz (ks:=ks) h with h|⟨h1,h2⟩
  .exact .inl h
  exact .inr ⟨a2U _ h1,h2⟩
theorem Xm{m m1:List MB}(hU:Up m m1)(hg:∀(i:Nat),i<m.length->m1[i]? = some .gone->m[i]? = some .gone){i b:Nat}(h:Hw m i b):Hw m1 i b:=by
 obtain⟨mb,h1,h2⟩:=h;rcases hU i mb h1 with e|e
 .exact⟨mb,e,h2⟩
 have:=hg i (a05.1 h1).1 e;rw[h1]at this;cases this;cases h2
theorem Dk{m:List MB}(hn:(bD m).Nodup){i j b:Nat}(h1:Hw m i b)(h2:Hw m j b):i=j:=by
 obtain⟨_,a1,a2⟩:=h1;obtain⟨_,b1,b2⟩:=h2;exact jf hn a1 b1 a2 b2
theorem aae{ma mb:List MB}{ha hb:List HB}{pa pb:PI}{ta tb:mP}(na:(bD ma).Nodup)(nb:(bD mb).Nodup)(la:∀b,b∈bD ma->b<ha.length)(hab:Fr ma ha mb hb)(A:IR ma ha pa ta)(B:IR mb hb pb tb)(hc:a1j pa pb=true)
  (QF:(∀i b,Hw ma i b->Hw mb i b)∨pa.hp=false∨pb.hp=false):calm ta tb=true:=by
 simp only[a1j,a1D]at hc;obtain⟨c1,c2⟩:=hc;simp only[ZG,a1D,a4R,a8r,a9i]at c1 c2;obtain⟨c1,c1w⟩:=c1;obtain⟨c2,c2w⟩:=c2;simp only[calm,a1D];constructor
 .simp only[NM,a4R,a1D,a8r,agX];intro k hk;cases k with
  |l j=>
   have:=c1 _ (A.wl j hk);simp only[a5k,a2H]at this ⊢;exact⟨⟨.inr rfl,fun h=>this.1.1.2 (B.tl j h)⟩,fun h=>this.1.2 (B.wl j h)⟩
  |h c=>
   rcases QF with a6C|QF|QF
   .-- nothing is given up
    have hca:c∈bD ma:=by
     rcases A.wh c hk with⟨i,_,h2⟩|⟨_,h2⟩
     .exact ZJ h2
     .exact h2
    obtain⟨i0,hi0⟩:=kL hca;have hi1:=a6C _ _ hi0;have hcb:c∈bD mb:=ZJ hi1;rcases A.wh c hk with⟨i,h1,h2⟩|⟨h1,h2⟩
    .have hii:=Dk na hi0 h2;subst hii;have O6:=c1 _ h1;simp only[a5k,a2H,Key.isH,ahf]at O6;refine⟨⟨.inl ?_,?_⟩,?_⟩
     .cases hq:tb.all with
      |false=>rfl
      |true=>rw[B.all hq]at O6;simp at O6
     .simp only[a5k,a2H];intro hq;rcases(B.th c hq).1 with⟨j,g1,g2⟩|g1
      .have:=Dk nb hi1 g2;subst this;exact O6.1.1.2 g1
      .exact g1 hcb
     .simp only[a5k,a2H];intro hq;rcases B.wh c hq with⟨j,g1,g2⟩|⟨g1,g2⟩
      .have:=Dk nb hi1 g2;subst this;exact O6.1.2 g1
      .rw[g1]at O6;simp at O6
    .rw[h1]at c1w;simp only[aeU,false_or]at c1w;obtain⟨⟨⟨w1,w2⟩,w3⟩,w4⟩:=c1w;refine⟨⟨.inl ?_,?_⟩,?_⟩
     .cases hq:tb.all with
      |false=>rfl
      |true=>rw[B.all hq]at w1;cases w1
     .simp only[a5k,a2H];intro hq;rcases(B.th c hq).1 with⟨j,g1,g2⟩|g1
      .have:=w3 _ g1;simp[Key.isH]at this
      .exact g1 hcb
     .simp only[a5k,a2H];intro hq;rcases B.wh c hq with⟨j,g1,g2⟩|⟨g1,g2⟩
      .have:=w4 _ g1;simp[Key.isH]at this
      .rw[g1]at w2;cases w2
   .exact absurd hk ((A.hp QF).2.2 c)
   .obtain⟨g1,g2,g3⟩:=B.hp QF;refine⟨⟨.inl g1,?_⟩,?_⟩<;>simp only[a5k,a2H]
    .exact g2 c
    .exact g3 c
 .simp only[NM,a4R,a1D,a8r,agX];intro k hk;cases k with
  |l j=>
   have:=c2 _ (B.wl j hk);simp only[a5k,a2H]at this ⊢;exact⟨⟨.inr rfl,fun h=>this.1.1.2 (A.tl j h)⟩,fun h=>this.1.2 (A.wl j h)⟩
  |h c=>
   rcases QF with a6C|QF|QF
   .have hcb:c∈bD mb:=by
     rcases B.wh c hk with⟨i,_,h2⟩|⟨_,h2⟩
     .exact ZJ h2
     .exact h2
    obtain⟨j0,hj0⟩:=kL hcb;have back:c<ha.length->c∈bD ma:=fun aQ=>by
     rcases hab.new c hcb with h1|h1
     .exact h1
     .omega
    have aiC:∀i,Hw ma i c->i=j0:=fun i hi=>Dk nb (a6C _ _ hi) hj0;rcases B.wh c hk with⟨j,h1,h2⟩|⟨h1,h2⟩
    .have hii:=Dk nb hj0 h2;subst hii;have O6:=c2 _ h1;simp only[a5k,a2H,Key.isH,ahf]at O6;refine⟨⟨.inl ?_,?_⟩,?_⟩
     .cases hq:ta.all with
      |false=>rfl
      |true=>rw[A.all hq]at O6;simp at O6
     .simp only[a5k,a2H];intro hq;obtain⟨g0,glt⟩:=A.th c hq;rcases g0 with⟨i,g1,g2⟩|g1
      .have:=aiC i g2;subst this;exact O6.1.1.2 g1
      .exact g1 (back glt)
     .simp only[a5k,a2H];intro hq;rcases A.wh c hq with⟨i,g1,g2⟩|⟨g1,g2⟩
      .have:=aiC i g2;subst this;exact O6.1.2 g1
      .rw[g1]at O6;simp at O6
    .rw[h1]at c2w;simp only[aeU,false_or]at c2w;obtain⟨⟨⟨w1,w2⟩,w3⟩,w4⟩:=c2w;refine⟨⟨.inl ?_,?_⟩,?_⟩
     .cases hq:ta.all with
      |false=>rfl
      |true=>rw[A.all hq]at w1;cases w1
     .simp only[a5k,a2H];intro hq;obtain⟨g0,glt⟩:=A.th c hq;rcases g0 with⟨i,g1,g2⟩|g1
      .have:=w3 _ g1;simp[Key.isH]at this
      .exact g1 (back glt)
     .simp only[a5k,a2H];intro hq;rcases A.wh c hq with⟨i,g1,g2⟩|⟨g1,g2⟩
      .have:=w4 _ g1;simp[Key.isH]at this
      .rw[g1]at w2;cases w2
   .obtain⟨g1,g2,g3⟩:=A.hp QF;refine⟨⟨.inl g1,?_⟩,?_⟩<;>simp only[a5k,a2H]
    .exact g2 c
    .exact g3 c
   .exact absurd hk ((B.hp QF).2.2 c)
theorem a6D:∀{ps:List PI} {ts:List mP} {m:List MB} {h:List HB},IRs m h ps ts->∀{j:Nat} {p:PI},ps[j]? = some p->∃t mj hj,ts[j]? = some t∧IR mj hj p t∧(bD mj).Nodup∧(∀b,b∈bD mj->b<hj.length)∧Fr m h mj hj∧((∀(i:Nat) q,i<j->ps[i]? = some q->q.mv=false)->∀i b,Hw m i b->Hw mj i b)
 |_,_,_,_,.nil,j,p,hj=>by simp at hj
 |_,_,m,h,.cons n1 n2 i1 f1 u1 g1 rest,j,p,hj=>by
  cases j with
  |zero=>
   simp only[a2F,a04]at hj;subst hj;exact⟨_,m,h,rfl,i1,n1,n2,.refl,fun _ i b hb=>hb⟩
  |succ j=>
   obtain⟨t,mj,Ea,e1,e2,e3,e4,e5,e6⟩:=a6D rest (j:=j) (by simpa using hj);refine⟨t,mj,Ea,by simpa using e1,e2,e3,e4,f1.trans e5,fun hq i b hb=>e6 (fun i q hl hi=>hq (i+1) q (by omega) (by simpa using hi)) i b ?_⟩;exact Xm u1 (g1 (hq 0 _ (by omega) rfl)) hb
theorem a1w:∀{ps:List PI} {ts:List mP} {m:List MB} {h:List HB},IRs m h ps ts->∀{i j:Nat} {p q:PI},i<j->ps[i]? = some p->ps[j]? = some q->a1j p q=true->((∀(k:Nat) q,i<=k->k<j->ps[k]? = some q->q.mv=false)∨p.hp=false∨q.hp=false)->∃a b,ts[i]? = some a∧ts[j]? = some b∧calm a b=true
 |_,_,_,_,.nil,i,j,p,q,_,hi,_,_,_=>by simp at hi
 |_,_,m,h,.cons n1 n2 i1 f1 u1 g1 rest,i,j,p,q,Am,hi,hj,hc,QF=>by
  cases j with
  |zero=>omega
  |succ j=>
   cases i with
   |zero=>
    simp only[a2F,a04]at hi;subst hi;obtain⟨t,mj,Ea,e1,e2,e3,e4,e5,e6⟩:=a6D rest (j:=j) (by simpa using hj);refine⟨_,t,rfl,by simpa using e1,aae n1 e3 n2 (f1.trans e5) i1 e2 hc ?_⟩;refine QF.imp_left fun hq i b hb=>e6 (fun i q hl hi=>hq (i+1) q (by omega) (by omega) (by simpa using hi)) i b (Xm u1 (g1 (hq 0 _ (by omega) (by omega) rfl)) hb)
   |succ i=>
    obtain⟨a,b,e1,e2,e3⟩:=a1w rest (i:=i) (j:=j) (by omega) (by simpa using hi) (by simpa using hj) hc (QF.imp_left fun hq k q h1 h2 hi=>hq (k+1) q (by omega) (by omega) (by simpa using hi));exact⟨a,b,by simpa using e1,by simpa using e2,e3⟩
theorem a6E{ps:List PI}{ts:List mP}{m:List MB}{h:List HB}(hI:IRs m h ps ts):∀{prs:List (Nat×Nat)},(∀q∈prs,q.1<q.2)->UN ps prs=true->BI ts prs=true
 | [],_,_=>rfl
 |(i,j)::r,aQ,hd=>by
  simp only[UN,a1D]at hd;obtain⟨h1,h2⟩:=hd;split at h1
  .rename_i a b ha hb;simp only[a1D,a9i,a8r]at h1;obtain⟨x,y,e1,e2,e3⟩:=a1w hI (aQ _ a2S) ha hb h1.1 (by
    rcases h1.2 with(h3|h3)|h3
    .exact .inr (.inl h3)
    .exact .inr (.inr h3)
    left;intro k q Wp kT hk;cases hq:q.mv with
    |false=>rfl
    |true=>
     refine absurd (agW.2 ⟨q,a4N (i:=k-i) ?_,hq⟩) (by rw[h3];simp);rw[a4I,a0u (by omega),a4F,<-hk];congr 1;omega)
   simp only[BI,e1,e2,e3,adB];exact a6E hI (fun q hq=>aQ q (a2U _ hq)) h2
  cases h1
theorem aeO{ops:List Oper}:∀q∈nD ops,q.1<q.2:=by
 intro q hq;unfold nD at hq;have:=(a8D.1 hq).1;unfold oO at this;simp only[ae2,a0H,a8D,a4L]at this;obtain⟨j,_,i,⟨hi,_⟩,rfl⟩:=this;exact hi
theorem SV{ts:List mP}(hw:∀t∈ts,t.ws=[]):∀{prs:List (Nat×Nat)},(∀q∈prs,q.1<ts.length∧q.2<ts.length)->BI ts prs=true
 | [],_=>rfl
 |(i,j)::r,hl=>by
  obtain⟨h1,h2⟩:=hl _ a2S;simp only[BI,a0b h1,a0b h2,a1D];refine⟨?_,SV hw fun q hq=>hl q (a2U _ hq)⟩;simp[calm,NM,hw _ (a4Q h1),hw _ (a4Q h2)]
theorem aeP{ops:List Oper}:∀q∈nD ops,q.1<ops.length∧q.2<ops.length:=by
 intro q hq;unfold nD at hq;have:=(a8D.1 hq).1;unfold oO at this;simp only[ae2,a0H,a8D,a4L]at this;obtain⟨j,hj,i,⟨hi,_⟩,rfl⟩:=this;exact⟨by simp only;omega,hj⟩
section
variable {X:l7} {P:Program} {A W:Nat->Prop} {m m':List MB} {h:List HB}
structure SR(X:l7)(P:Program)(A W:Nat->Prop)(fl:Nat)(m:List MB)(ps:aS X.Γ)(ts:St):Prop where
 st:vw X P A m ps ts
 own:∀b,b∈bD m->W b∨fl<=b
 ws:∀b,b∈ts.ws->W b
 fl:fl<=ts.heap.length
def MZ(B:Nat)(m m1:List MB):Prop:=∀(i:Nat) mb,i<B->m[i]? = some mb->m1[i]? = some mb∨m1[i]? = some .gone
theorem Up.b{B:Nat}{m m1:List MB}(h:Up m m1):MZ B m m1:=fun i mb _ hi=>h i mb hi
theorem MZ.trans{B:Nat}{m m1 m2:List MB}(a:MZ B m m1)(b:MZ B m1 m2):MZ B m m2:=fun i mb hB hi=>by
 rcases a i mb hB hi with h|h
 .exact b i mb hB h
 .rcases b i _ hB h with h|h<;>exact .inr h
theorem MZ.refl{B:Nat}{m:List MB}:MZ B m m:=fun _ _ _ h=>.inl h
def Dl(X:l7)(P:Program)(B:Nat)(ps ps1:aS X.Γ):Prop:=
 ∀(A W:Nat->Prop) (fl:Nat) (m:List MB) (ts:St),SR X P A W fl m ps ts->∃m1,SR X P A W fl m1 ps1 ts∧Fr m ts.heap m1 ts.heap∧MZ B m m1
theorem Dl.refl{B:Nat}{ps:aS X.Γ}:Dl X P B ps ps:=fun _ _ _ m _ hS=>⟨m,hS,.refl,.refl⟩
theorem Dl.trans{B:Nat}{a b c:aS X.Γ}(h1:Dl X P B a b)(h2:Dl X P B b c):Dl X P B a c:=fun A W fl m ts hS=>by
 obtain⟨m1,g1,g2,g3⟩:=h1 A W fl m ts hS;obtain⟨m2,g4,g5,g6⟩:=h2 A W fl m1 ts g1;exact⟨m2,g4,g2.trans g5,g3.trans g6⟩
theorem aaf{env:List (Nat×PE X.Γ)}{env':List (Nat×EV)}(he:ku X P A m h env env'):ku X P A m h (a9O env) env':=by
 induction he with
 |nil=>exact .nil
 |cons h1 _ ih=>
  rename_i k v x r r' _;cases v with
  |val v=>obtain⟨y,rfl,h2⟩:=fU h1;exact .cons (oq (Hl h2)) ih
  |_=>exact .cons h1 ih
theorem aag{t i:Nat}(hi:m[i]? = some (.dF (.nil .slc))):∀{env:List (Nat×PE X.Γ)} {env':List (Nat×EV)} {r:List (Nat×PE X.Γ)},ku X P A m h env env'->Jc t i env=some r->ku X P A m h r env':=by
 intro env env' r he
 induction he generalizing r with
 |nil=>intro h;cases h
 |cons h1 h2 ih=>
  rename_i k v x q q';intro hn;simp only[Jc]at hn;split at hn
  .split at hn
   .cases hn;obtain⟨y,rfl,h3⟩:=fU h1;have:y=.nil .slc:=by
     cases h3 with
     |nil=>rfl
     |gone hi _ _=>simp[bn]at hi
    subst this;exact .cons (oq (.own hi rfl)) h2
   cases hn
  simp only[a07]at hn;obtain⟨q2,h3,rfl⟩:=hn;exact .cons h1 (ih h3)
theorem a1x{i off:Nat}(hi:m[i]? = some (.dF (.nil .slc))){cs r:List (PV X.Γ)}{xs:List TV}(hv:bY X P A m h cs xs)(hn:a9P off i cs=some r):bY X P A m h r xs:=by
 unfold a9P at hn;split at hn
 .rename_i hc;cases hn;refine⟨by rw[a4O,hv.1],fun j a b ha hb=>?_⟩;by_cases e:off=j
  .subst e;rw[a4G,hc]at ha;cases ha;have:b=.nil .slc:=by
    cases hv.2 _ _ _ hc hb with
    |nil=>rfl
    |gone hi _ _=>simp[bn]at hi
   subst this;exact .own hi rfl
  rw[a0L e]at ha;exact hv.2 j a b ha hb
 cases hn
theorem SR.V4{fl:Nat}{ps:aS X.Γ}{ts:St}(hS:SR X P A W fl m ps ts)(e:Nat):∃m1,HR X P A m1 (ps.heap++[.list false false e []]) ts.heap∧Fr m ts.heap m1 ts.heap∧Up m m1∧m1[ps.heap.length]? = some (.dF (.nil .slc))∧(∀b,b∈bD m1->b∈bD m):=by
 obtain⟨h1,h2,h3⟩:=hS.st.heap.ach (pb:=.list false false e []) (mb:=.dF (.nil .slc)) rfl LR.nil;refine⟨_,h1,h2,h3,by rw[<-hS.st.heap.len];simp,fun b hb=>?_⟩;rw[jk,a2L,kJ]at hb;simpa[MB.own]using hb
theorem a6F(hX:bP X P){H:List (PB X.Γ)}(hr:HR X P A m H h){i:Nat}{v w:PV X.Γ}{x:TV}(hv:VR X P (AA A m) m h v x)(hw:fzV H i v=some w):VR X P (AA A (bW [i] m)) (bW [i] m) h w x:=by
 unfold fzV at hw;split at hw
 .cases hw;exact hv.step (iE (h:=h) [i] m).1 (iE (h:=h) [i] m).2
 split at hw
 .rename_i ha;refine(UY (m':=bW [i] m) hX hr hv hw (is:=[i]) fun j hj=>?_).mono fun b hb=>FA.gone hr hb;have:=a4R.1 ha j hj;rw[a9d this];exact a2D.2 rfl
 cases hw
theorem a1y(hX:bP X P){H:List (PB X.Γ)}(hr:HR X P A m H h){i:Nat}:∀{v w:List (PV X.Γ)} {x:List TV},bY X P (AA A m) m h v x->a6e H i v=some w->bY X P (AA A (bW [i] m)) (bW [i] m) h w x
 | [],w,x,hv,hw=>by
  cases hw;rw[hv.inv0];exact .nil
 |v::vs,w,x,hv,hw=>by
  obtain⟨y,r,rfl,h1,h2⟩:=hv.inv;simp only[a6e]at hw;split at hw
  .rename_i w1 ws e1 e2;cases hw;exact .cons (a6F hX hr h1 e1) (a1y hX hr h2 e2)
  cases hw
theorem aeQ(hX:bP X P){H:List (PB X.Γ)}(hr:HR X P A m H h){i:Nat}{v:List (Nat×PE X.Γ)}{x:List (Nat×EV)}(hv:ku X P (AA A m) m h v x):∀{w:List (Nat×PE X.Γ)},fzE H i v=some w->ku X P (AA A (bW [i] m)) (bW [i] m) h w x:=by
 induction hv with
 |nil=>intro w hw;cases hw;exact .nil
 |cons h1 h2 ih=>
  rename_i k v x q q';intro w hw;cases v with
  |val v=>
   simp only[fzE]at hw;split at hw
   .rename_i w1 ws e1 e2;cases hw;obtain⟨y,rfl,h3⟩:=fU h1;exact .cons (oq (a6F hX hr h3 e1)) (ih e2)
   cases hw
  |loc k o=>
   simp only[fzE,a07]at hw;obtain⟨ws,e2,rfl⟩:=hw;exact .cons (by cases x<;>exact h1) (ih e2)
  |undef=>
   simp only[fzE,a07]at hw;obtain⟨ws,e2,rfl⟩:=hw;exact .cons (by cases x<;>exact h1) (ih e2)
  |ent|EI=>simp[fzE]at hw
theorem a1z{Γ:Nat->Type}{H:List (PB Γ)}{i:Nat}:∀{l r:List (List (PV Γ))},fzL H i l=some r->r.length=l.length∧∀(k:Nat) ds,r[k]? = some ds->∃cs,l[k]? = some cs∧a6e H i cs=some ds
 | [],r,h=>by cases h;exact⟨rfl,fun k ds hk=>by simp at hk⟩
 |c::l,r,h=>by
  simp only[fzL]at h;split at h
  .rename_i w ws e1 e2;cases h;obtain⟨q1,q2⟩:=a1z e2;refine⟨by simp[q1],fun k ds hk=>?_⟩;cases k with
   |zero=>simp at hk;subst hk;exact⟨c,rfl,e1⟩
   |succ k=>exact q2 k ds (by simpa using hk)
  cases h
theorem a6G(hX:bP X P){B:Nat}{g:G}{ps ps1:aS X.Γ}(hg:BM B ps g=some ps1):Dl X P B ps ps1:=by
 intro A W fl m ts hS;cases g with
 |lit=>
  simp only[BM,a04]at hg;subst hg;exact⟨m,⟨⟨hS.st.heap,hS.st.llen,hS.st.loc,aaf hS.st.env⟩,hS.own,hS.ws,hS.fl⟩,.refl,.refl⟩
 |Jc t e=>
  simp only[BM,a07]at hg;obtain⟨env,h1,rfl⟩:=hg;obtain⟨m1,e1,e2,e3,e4,e5⟩:=hS.V4 e;exact⟨m1,⟨⟨e1,hS.st.llen,fun k cs hk=>let ⟨cs',q1,q2⟩:=hS.st.loc k cs hk;⟨cs',q1,q2.step e2 e3⟩,aag e4 (hS.st.env.step e2 e3) h1⟩,fun b hb=>hS.own b (e5 b hb),hS.ws,hS.fl⟩,e2,e3.b⟩
 |a3h k off e=>
  simp only[BM]at hg;split at hg
  .rename_i cs hk;simp only[a07]at hg;obtain⟨SI,h1,rfl⟩:=hg;obtain⟨m1,e1,e2,e3,e4,e5⟩:=hS.V4 e;refine⟨m1,⟨⟨e1,by simp[hS.st.llen],fun j ds hj=>?_,hS.st.env.step e2 e3⟩,fun b hb=>hS.own b (e5 b hb),hS.ws,hS.fl⟩,e2,e3.b⟩;by_cases e0:k=j
   .subst e0;rw[a4G,hk]at hj;cases hj;obtain⟨cs',q1,q2⟩:=hS.st.loc k cs hk;exact⟨cs',q1,a1x e4 (q2.step e2 e3) h1⟩
   rw[a0L e0]at hj;obtain⟨cs',q1,q2⟩:=hS.st.loc j ds hj;exact⟨cs',q1,q2.step e2 e3⟩
  cases hg
 |UL i off e=>
  simp only[BM]at hg;split at hg
  rotate_left
  .cases hg
  rename_i cs hi;simp only[a07]at hg;obtain⟨SI,h1,rfl⟩:=hg;obtain⟨m1,e1,e2,e3,e4,e5⟩:=hS.V4 e;have aQ:i<ps.heap.length:=(a05.1 hi).1;have wU:HR X P A m1 (ps.heap.set i (.cells SI)++[.list false false e []]) ts.heap:=by
   refine e1.next .refl .refl (by simp[e1.len]) e1.nodup fun j b hj=>?_;by_cases e0:i=j
   .subst e0;right;rw[a0g (by simpa using aQ),a4G,hi]at hj;cases hj;obtain⟨mb,q1,q2⟩:=e1.at_ i (.cells cs) (by rw[a0g aQ];exact hi);refine⟨mb,q1,?_⟩;cases mb with
    |gu c=>obtain⟨xs,q3,q4⟩:=q2;exact⟨xs,q3,a1x e4 q4 h1⟩
    |_=>exact q2.elim
   left;have:(ps.heap++[PB.list false false e []])[j]? = some b:=by
    rw[<-hj];rcases a4E j ps.heap.length with h9|h9
    .rw[a0g h9,a0g (by simpa using h9),a0L e0]
    rw[a0G h9,a0G (by simpa using h9),a4O]
   obtain⟨mb,q1,_⟩:=e1.at_ j b this;exact⟨mb,this,q1,q1,fun _ _=>rfl⟩
  exact⟨m1,⟨⟨wU,hS.st.llen,fun k cs hk=>let ⟨cs',q1,q2⟩:=hS.st.loc k cs hk;⟨cs',q1,q2.step e2 e3⟩,hS.st.env.step e2 e3⟩,fun b hb=>hS.own b (e5 b hb),hS.ws,hS.fl⟩,e2,e3.b⟩
 |flag i=>
  simp only[BM]at hg;split at hg
  rotate_left
  .cases hg
  rename_i k ex t l hi;cases hg;have hr:=hS.st.heap;refine⟨m,⟨⟨?_,hS.st.llen,hS.st.loc,hS.st.env⟩,hS.own,hS.ws,hS.fl⟩,.refl,.refl⟩;refine hr.next .refl .refl (by simp[hr.len]) hr.nodup fun j b hj=>?_;by_cases e0:i=j
  .subst e0;right;rw[a4G,hi]at hj;cases hj;obtain⟨mb,q1,q2⟩:=hr.at_ i _ hi;refine⟨mb,q1,?_⟩;cases mb with
   |dF y=>
    cases(q2:LR X P _ _ _ _ _ _ _ y)with
    |nil=>exact LR.nil
    |emp p0 p1 p2 p3 p4=>exact LR.emp p0 p1 p2 p3 p4
    |some p1 p2 p3 p4 p5 p6 p7 p8 p9=>exact LR.some p1 p2 p3 p4 p5 (by simp) (by simp) p8 p9
   |_=>exact q2.elim
  left;rw[a0L e0]at hj;obtain⟨mb,q1,_⟩:=hr.at_ j b hj;exact⟨mb,hj,q1,q1,fun _ _=>rfl⟩
 |gc ks=>
  simp only[BM]at hg;split at hg
  rotate_left
  .cases hg
  rename_i hc;simp only[a1D,a0N,a4R]at hc;obtain⟨⟨F8,jH⟩,hB⟩:=hc;split at hg
  rotate_left
  .cases hg
  rename_i env loc b1 b2 h1 h2 h3 h4;split at hg
  rotate_left
  .cases hg
  rename_i b3 h5;cases hg;have hr:=hS.st.heap;have hp:=Eo h4;have aou:∀k∈ks,k<m.length:=fun k hk=>by
   obtain⟨i,hi⟩:=a8K hk;obtain⟨b,q1,_⟩:=hp.2 hi;rw[hr.len];exact(a05.1 q1).1
  have hBm:B<=m.length:=by rw[hr.len];exact hB
  let m1:List MB:=m.take B++ks.map fun k=>m.getD k .gone
  have aeR:(m.take B).length=B:=by rw[a3I];omega
  have GU:∀i,i<B->m1[i]? = m[i]?:=fun i hi=>by
   show(m.take B++_)[i]? = _;rw[a0g (by omega),a4I,a0u hi]
  have hhi:∀p k,ks[p]? = some k->m1[p+B]? = m[k]?:=fun p k hp=>by
   show(m.take B++_)[p+B]? = _;rw[a0G (by omega),aeR,Nat.add_sub_cancel,a4H,hp];have:=aou k (a4N hp);simp[a2K,this]
  have hg:∀i j,(fun i=>if i<B then some i else(wW ks i).map (·+B)) i=some j->m1[j]? = m[i]?:=fun i j Am=>by
   simp only at Am;split at Am
   .rename_i hi;cases Am;exact GU i hi
   simp only[a07]at Am;obtain⟨p,hp,rfl⟩:=Am;exact hhi p i (OY hp)
  have hold:∀j mb,m1[j]? = some mb->∃i,m[i]? = some mb∧((j<B∧i=j)∨∃p,j=p+B∧ks[p]? = some i):=fun j mb hj=>by
   rcases a4E j B with aQ|EX
   .exact⟨j,by rw[<-GU j aQ];exact hj,.inl ⟨aQ,rfl⟩⟩
   have sG:j-B<ks.length:=by
    have:=(a05.1 hj).1;have h9:m1.length=B+ks.length:=by show(m.take B++_).length=_;rw[a1t,aeR,a4K]
    omega
   have hp:=a0b sG;have hh:=hhi (j-B) _ hp;rw[show j-B+B=j by omega,hj]at hh;exact⟨_,hh.symm,.inr ⟨j-B,by omega,hp⟩⟩
  have zl:∀b,b∈bD m1->b∈bD m:=fun b hb=>by
   obtain⟨j,mb,q1,q2⟩:=kL hb;obtain⟨i,q3,_⟩:=hold j mb q1;exact bg q3 q2
  have hA:∀b,AA A m b->AA A m1 b:=fun b hb=>⟨hb.1,fun hm=>hb.2 (zl b hm)⟩;have aeS:(bD m1).Nodup:=jI fun i j c q1 q2=>by
   obtain⟨ma,a1,a2⟩:=q1;obtain⟨mc,c1,c2⟩:=q2;obtain⟨i',a3,a4⟩:=hold i ma a1;obtain⟨j',c3,c4⟩:=hold j mc c1;have e:=jf hr.nodup a3 c3 a2 c2;subst e;rcases a4 with⟨a5,a6⟩|⟨p,a5,a6⟩<;>rcases c4 with⟨c5,c6⟩|⟨q,c5,c6⟩
   .omega
   .have:=F8 _ (a4N c6);omega
   .have:=F8 _ (a4N a6);omega
   have Gp:=(a05.1 a6).1;have:p=q:=(List.getElem?_inj Gp jH).1 (by rw[a6,c6]);omega
  have hFr:Fr m ts.heap m1 ts.heap:=⟨a0x _,fun _ _ _=>rfl,fun b hb=>.inl (zl b hb),fun b cs hc=>⟨cs,hc,a0x _⟩⟩;have CV:=tV h3;have hb3:=tV h5;have Rq:=P5 h2;refine⟨m1,⟨⟨⟨?_,fun j b hj=>?_,aeS,hr.up,fun b hb=>hr.Di b (zl b hb)⟩,by rw[Rq.1];exact hS.st.llen,fun k cs hk=>?_,OZ hX hg hA hS.st.env h1⟩,fun b hb=>hS.own b (zl b hb),hS.ws,hS.fl⟩,hFr,fun i mb hi hm=>.inl (by rw[GU i hi];exact hm)⟩
  .show(m.take B++_).length=_;rw[a1t,a1t,a4K,CV.1,hb3.1,hp.1,aeR,a3I];omega
  .have a0X:b1.length=B:=by rw[CV.1,a3I];omega
   rcases a4E j B with aQ|EX
   .rw[a0g (by omega)]at hj;obtain⟨b0,q1,q2⟩:=CV.2 hj;rw[a4I,a0u aQ]at q1;obtain⟨mb,q3,q4⟩:=hr.at_ j b0 q1;exact⟨mb,by rw[GU j aQ];exact q3,En hX hg hA (fun c _ h9 h8=>h9 (zl c h8)) q4 q2⟩
   rw[a0G (by omega),a0X]at hj;obtain⟨b0,q1,q2⟩:=hb3.2 hj;have sG:j-B<ks.length:=by rw[<-hp.1];exact(a05.1 q1).1
   obtain⟨b9,q5,q6⟩:=hp.2 (a0b sG);rw[q1]at q6;cases q6;obtain⟨mb,q3,q4⟩:=hr.at_ _ _ q5;refine⟨mb,?_,En hX hg hA (fun c _ h9 h8=>h9 (zl c h8)) q4 q2⟩;have:=hhi (j-B) _ (a0b sG);rw[show j-B+B=j by omega]at this;rw[this];exact q3
  obtain⟨cs0,q1,q2⟩:=Rq.2 hk;obtain⟨cs',q3,q4⟩:=hS.st.loc k cs0 q1;exact⟨cs',q3,zH hX hg hA q4 q2⟩
 |fz i=>
  simp only[BM]at hg;split at hg
  .rename_i env loc e1 e2;cases hg;have hr:=hS.st.heap;have hF:=iE (h:=ts.heap) [i] m;obtain⟨q1,q2⟩:=a1z e2;refine⟨bW [i] m,⟨⟨hr.aZ [i],by rw[q1];exact hS.st.llen,fun k ds hk=>?_,aeQ hX hr hS.st.env e1⟩,fun b hb=>?_,hS.ws,hS.fl⟩,hF.1,hF.2.b⟩
   .obtain⟨cs,h1,h2⟩:=q2 k ds hk;obtain⟨cs',h3,h4⟩:=hS.st.loc k cs h1;exact⟨cs',h3,a1y hX hr h4 h2⟩
   obtain⟨j,mb,_,h2,h3⟩:=AQ hb;exact hS.own b (bg h2 h3)
  cases hg
 |mv i=>
  simp only[BM]at hg;split at hg
  rotate_left
  .cases hg
  rename_i b0 hi;split at hg
  rotate_left
  .cases hg
  rename_i env loc b1 b2 h1 h2 h3 h4;cases hg;have hr:=hS.st.heap;have aQ:i<ps.heap.length:=(a05.1 hi).1;obtain⟨mi,mi1,mi2⟩:=hr.at_ i b0 hi
  let m1:List MB:=m.set i .gone++[mi]
  have qU:(m.set i .gone).length=ps.heap.length:=by rw[a4O,hr.len]
  have GU:∀j,j<ps.heap.length->j≠i->m1[j]? = m[j]?:=fun j hj hn=>by
   show(m.set i .gone++[mi])[j]? = _;rw[a0g (by omega),a0L (fun e=>hn e.symm)]
  have Kz:m1[i]? = some .gone:=by
   show(m.set i .gone++[mi])[i]? = _;rw[a0g (by omega),a4G,mi1];rfl
  have hhi:m1[ps.heap.length]? = some mi:=by
   show(m.set i .gone++[mi])[ps.heap.length]? = _;rw[a0G (by omega),qU,ah0];rfl
  have hg:∀a b,(fun j=>if j=i then some ps.heap.length else if j<ps.heap.length then some j else none) a=some b->m1[b]? = m[a]?:=fun a b hab=>by
   simp only at hab;split at hab
   .rename_i e;subst e;cases hab;rw[hhi,mi1]
   split at hab
   .rename_i e1 e2;cases hab;exact GU a e2 e1
   cases hab
  have hold:∀j mb,m1[j]? = some mb->mb=.gone∨∃k,m[k]? = some mb∧((j<ps.heap.length∧k=j∧j≠i)∨(j=ps.heap.length∧k=i)):=fun j mb hj=>by
   have sG:j<ps.heap.length+1:=by
    have:=(a05.1 hj).1;have h9:m1.length=ps.heap.length+1:=by show(m.set i .gone++[mi]).length=_;rw[a1t,qU];rfl
    omega
   by_cases e:j=i
   .subst e;rw[Kz]at hj;cases hj;exact .inl rfl
   rcases a4E j ps.heap.length with h5|h5
   .exact .inr ⟨j,by rw[<-GU j h5 e];exact hj,.inl ⟨h5,rfl,e⟩⟩
   have:j=ps.heap.length:=(by omega);subst this;rw[hhi]at hj;cases hj;exact .inr ⟨i,mi1,.inr ⟨rfl,rfl⟩⟩
  have zl:∀b,b∈bD m1->b∈bD m:=fun b hb=>by
   obtain⟨j,mb,q1,q2⟩:=kL hb;rcases hold j mb q1 with rfl|⟨k,q3,_⟩
   .cases q2
   exact bg q3 q2
  have hA:∀b,AA A m b->AA A m1 b:=fun b hb=>⟨hb.1,fun hm=>hb.2 (zl b hm)⟩;have aeS:(bD m1).Nodup:=jI fun j k c q1 q2=>by
   obtain⟨ma,a1,a2⟩:=q1;obtain⟨mc,c1,c2⟩:=q2;rcases hold j ma a1 with rfl|⟨j',a3,a4⟩
   .cases a2
   rcases hold k mc c1 with rfl|⟨k',c3,c4⟩
   .cases c2
   have e:=jf hr.nodup a3 c3 a2 c2;subst e;rcases a4 with⟨a5,a6,a7⟩|⟨a5,a6⟩<;>rcases c4 with⟨c5,c6,c7⟩|⟨c5,c6⟩<;>omega
  have hFr:Fr m ts.heap m1 ts.heap:=⟨a0x _,fun _ _ _=>rfl,fun b hb=>.inl (zl b hb),fun b cs hc=>⟨cs,hc,a0x _⟩⟩;have CV:=tV h3;have Rq:=P5 h2;have aiD:b1.length=ps.heap.length:=by rw[CV.1,a4O]
  refine⟨m1,⟨⟨⟨?_,fun j b hj=>?_,aeS,hr.up,fun b hb=>hr.Di b (zl b hb)⟩,by rw[Rq.1];exact hS.st.llen,fun k cs hk=>?_,OZ hX hg hA hS.st.env h1⟩,fun b hb=>hS.own b (zl b hb),hS.ws,hS.fl⟩,hFr,fun j mb _ hj=>?_⟩
  .show(m.set i .gone++[mi]).length=_;rw[a1t,a1t,qU,aiD];rfl
  .rcases a4E j ps.heap.length with h5|h5
   .rw[a0g (by omega)]at hj;obtain⟨b9,q1,q2⟩:=CV.2 hj;by_cases e:j=i
    .subst e;rw[a4G,hi]at q1;cases q1;have q2:some (PB.gone (Γ:=X.Γ))=some b:=q2;cases q2;exact⟨.gone,Kz,trivial⟩
    rw[a0L (fun e2=>e e2.symm)]at q1;obtain⟨mb,q3,q4⟩:=hr.at_ j b9 q1;exact⟨mb,by rw[GU j h5 e];exact q3,En hX hg hA (fun c _ h9 h8=>h9 (zl c h8)) q4 q2⟩
   rw[a0G (by omega),aiD]at hj;have:j-ps.heap.length=0:=by
    have:=(a05.1 hj).1;simp at this;omega
   rw[this]at hj;cases hj;refine⟨mi,?_,En hX hg hA (fun c _ h9 h8=>h9 (zl c h8)) mi2 h4⟩;rw[show j=ps.heap.length by omega];exact hhi
  .obtain⟨cs0,q1,q2⟩:=Rq.2 hk;obtain⟨cs',q3,q4⟩:=hS.st.loc k cs0 q1;exact⟨cs',q3,zH hX hg hA q4 q2⟩
  by_cases e:j=i
  .subst e;exact .inr Kz
  have:j<ps.heap.length:=by rw[<-hr.len];exact(a05.1 hj).1
  exact .inl (by rw[GU j this e];exact hj)
theorem nM(hX:bP X P){B:Nat}:∀{gs:List G} {ps ps1:aS X.Γ},lN B gs ps=some ps1->Dl X P B ps ps1
 | [],ps,ps1,h=>by simp only[lN,a04]at h;subst h;exact .refl
 |g::gs,ps,ps1,h=>by
  simp only[lN]at h;split at h
  .rename_i s hs;exact(a6G hX hs).trans (nM hX h)
  cases h
end
section
variable {X:l7} {P:Program} {T:qQ} {A W:Nat->Prop} {m m':List MB}
variable {call:bf} {fM:fA X.Γ} {ρ:Type} {y:ρ}
theorem SR.BZ{fl:Nat}{ps:aS X.Γ}{ts:St}(hS:SR X P A W fl m ps ts){x:Operand}{b:Bool}(hb:qV ts.env x=some (.bool b)):SR X P A W fl m (ps.BZ x b) ts:=⟨hS.st.BZ hb,hS.own,hS.ws,hS.fl⟩
theorem vw.put{ps:aS X.Γ}{ts:St}(hR:vw X P A m ps ts){d:Option Nat}{pe:PE X.Γ}{ev:EV}(h:IQ X P (AA A m) m ts.heap pe ev):vw X P A m (ps.put d pe) (ts.put d ev):=by
 cases d with
 |none=>exact hR
 |some d=>exact⟨hR.heap,hR.llen,hR.loc,.cons h hR.env⟩
theorem zI{ts:St}{d:Option Nat}{ev:EV}:(ts.put d ev).heap=ts.heap∧(ts.put d ev).ws=ts.ws:=by cases d<;>exact⟨rfl,rfl⟩
theorem Xn{H:List (PB X.Γ)}{h:List HB}(hr:HR X P A m H h){i:Nat}{b:PB X.Γ}(hb:H[i]? = some b):rO b=true↔m[i]? = some .gone:=by
 obtain⟨mb,h1,h2⟩:=hr.at_ i b hb;cases b with
 |gone=>
  cases mb with
  |gone=>exact⟨fun _=>h1,fun _=>rfl⟩
  |_=>exact h2.elim
 |cells cs=>cases mb with
  |gone=>exact h2.elim
  |_=>simp[rO,h1]
 |aF cs=>cases mb with
  |gone=>exact h2.elim
  |_=>simp[rO,h1]
 |list k ex t l=>cases mb with
  |gone=>exact h2.elim
  |_=>simp[rO,h1]
 |map es=>cases mb with
  |gone=>exact h2.elim
  |_=>simp[rO,h1]
 |mark=>cases mb with
  |gone=>exact h2.elim
  |_=>simp[rO,h1]
 |nK=>cases mb with
  |gone=>exact h2.elim
  |_=>simp[rO,h1]
 |iL=>cases mb with
  |gone=>exact h2.elim
  |_=>simp[rO,h1]
 |dn=>cases mb with
  |gone=>exact h2.elim
  |_=>simp[rO,h1]
 |loop=>cases mb with
  |gone=>exact h2.elim
  |_=>simp[rO,h1]
theorem KP:∀{H H1:List (PB X.Γ)},zG H H1=true->∀{i:Nat} {b:PB X.Γ},H[i]? = some b->∃b1,H1[i]? = some b1∧rO b=rO b1
 | [],H1,_,i,b,hi=>by simp at hi
 |a::H,[],h,i,b,hi=>by simp[zG]at h
 |a::H,a1::H1,h,i,b,hi=>by
  simp only[zG,a1D,a6v]at h;cases i with
  |zero=>simp only[a2F,a04]at hi;subst hi;exact⟨a1,rfl,h.1⟩
  |succ i=>obtain⟨b1,e1,e2⟩:=KP h.2 (i:=i) (by simpa using hi);exact⟨b1,by simpa using e1,e2⟩
theorem aeT{H H1:List (PB X.Γ)}{h h1:List HB}{m1:List MB}(hr:HR X P A m H h)(hr1:HR X P A m1 H1 h1)(hs:(!zG H H1)=false):∀(i:Nat),i<m.length->m1[i]? = some .gone->m[i]? = some .gone:=by
 intro i hi hg;have xQ:i<H.length:=by rw[<-hr.len];exact hi
 have hb:=a0b xQ;obtain⟨b1,e1,e2⟩:=KP (by simpa using hs) hb;have:=(Xn hr1 e1).2 hg;rw[<-e2]at this;exact(Xn hr hb).1 this
theorem Md{fl:Nat}{ops:Array Oper}{ps:aS X.Γ}{ts:St}(hS:SR X P A W fl m ps ts){o:Oper}{an:PT X.Γ}{k:Bool->aS X.Γ->PT X.Γ->OT ρ}(hk:(ZF X ops ps o an k).Ends y) :
  ∃w ps1 I4,CQ ops ts.env o=some w∧SR X P A W fl m ps1 ts∧(k w ps1 I4).Ends y∧ps1.heap=ps.heap:=by
 unfold ZF at hk;unfold CQ;split at hk
 .rename_i hg;exact⟨true,ps,an,by simp only[hg],hS,hk,rfl⟩
 .rename_i j want hg;simp only[hg];split at hk
  .rename_i d hd;simp only[hd];split at hk
   .rename_i b hb;obtain⟨ev,h1,h2⟩:=pF hS.st.env hb;obtain⟨tv,rfl,h3⟩:=fU h2;obtain⟨t,I4,rfl,hk⟩:=ZN hk h3;exact⟨t==want,_,I4,by simp only[h1],hS.BZ (x:=.tmp d) (by simp only[qV,IJ,h1]),hk,rfl⟩
   .rename_i hb;obtain⟨ev,h1,h2⟩:=pF hS.st.env hb;have:=Jg h2;subst this;exact⟨false,ps,an,by simp only[h1],hS,hk,rfl⟩
   .exact hk.elim
  .exact hk.elim
theorem ZV(hX:bP X P)(hO:jM X P call fM){site:Nat->Bool}{fl nt:Nat}{ops:Array Oper}:∀{os:List Oper} {m:List MB} {ps:aS X.Γ} {ts:St} {an:PT X.Γ} {k:aS X.Γ->List PI->PT X.Γ->OT ρ},SR X P A W fl m ps ts->(X7 X P fM (aW X P call) site nt ops os ps an k).Ends y ->
  ∃iP is pis ps1 I4 m1,lH P call site fl nt ops os ts=some (iP,is)∧(k ps1 pis I4).Ends y∧SR X P A W fl m1 ps1 iP∧Fr m ts.heap m1 iP.heap∧Up m m1∧IRs m ts.heap pis is∧is.length=os.length
 | [],m,ps,ts,an,k,hS,hk=>⟨ts,[],[],ps,an,m,rfl,hk,hS,.refl,.refl,.nil,rfl⟩
 |o::os,m,ps,ts,an,k,hS,hk=>by
  simp only[X7]at hk;split at hk
  .exact hk.elim
  .rename_i hd;obtain⟨w,ps1,LH,hw,hS1,hk,hh⟩:=Md hS hk;cases w with
   |true=>
    simp only at hk;obtain⟨pe,CU,pi,an2,⟨ev,ts2,ti,m2,e1,e2,e3,e4,e5,e6,e7,e8,e9⟩,hk⟩:=aeJ hX hO hS1.st hk;have hS2:SR X P A W fl m2 (CU.put o.dst pe) (({ ts2 with ws:=kC fl ti.ws ts.ws }).put o.dst ev):=by
     refine⟨vw.put (ts:={ ts2 with ws:=kC fl ti.ws ts.ws }) ⟨e4.heap,e4.llen,e4.loc,e4.env⟩ e5,fun b hb=>?_,fun b hb=>?_,?_⟩
     .rcases e6.new b hb with h1|h1
      .exact hS.own b h1
      .exact .inr (a5e hS.fl h1)
     .rw[zI.2]at hb;rcases wz hb with h1|⟨h1,h2⟩
      .exact hS.ws b h1
      .rcases hS.own b (e9 b h1)with h3|h3
       .exact h3
       .omega
     .rw[zI.1];exact a5e hS.fl e6.len
    obtain⟨ts3,is,pis,ps3,an3,m3,g1,g2,g3,g4,g5,g6,g7⟩:=ZV hX hO (os:=os) hS2 hk;rw[zI.1]at g4 g6;refine⟨ts3,ti::is,_,ps3,an3,m3,?_,g2,g3,e6.trans g4,e7.trans g5,.cons hS.st.heap.nodup (fun b hb=>hS.st.heap.inb hb) ⟨e8.all,e8.tl,e8.wl,e8.wh,e8.th,e8.hp⟩ e6 e7 (aeT hS1.st.heap e4.heap) g6,by simp[g7]⟩;simp only[lH,hd,hw,e1,g1];rfl
   |false=>
    simp only at hk;have hS2:SR X P A W fl m (ps1.put o.dst .undef) (ts.put o.dst .undef):=by
     refine⟨hS1.st.put trivial,hS.own,fun b hb=>?_,?_⟩
     .rw[zI.2]at hb;exact hS.ws b hb
     .rw[zI.1];exact hS.fl
    obtain⟨ts3,is,pis,ps3,an3,m3,g1,g2,g3,g4,g5,g6,g7⟩:=ZV hX hO (os:=os) hS2 hk;rw[zI.1]at g4 g6;refine⟨ts3,cZ::is,_,ps3,an3,m3,?_,g2,g3,g4,g5,.cons hS.st.heap.nodup (fun b hb=>hS.st.heap.inb hb) .none .refl .refl (fun _ i _ hg=>hg) g6,by simp[g7]⟩;simp only[lH,hd,hw,g1];rfl
def dS(X:l7)(P:Program)(T:qQ)(call:bf)(L f:Nat)(gZ:Bool)(nt B:Nat)(c:Code)(ps:aS X.Γ)(e:Ex)(ps1:aS X.Γ):Prop:=
 ∀(A W:Nat->Prop) (fl:Nat) (m:List MB) (ts:St),SR X P A W fl m ps ts->∃iP m1,exec P T call L f gZ fl nt c ts=some (e,iP)∧SR X P A W fl m1 ps1 iP∧Fr m ts.heap m1 iP.heap∧MZ B m m1
theorem vw.pick{ps:aS X.Γ}{ts:St}(hR:vw X P A m ps ts)(live:List Nat):vw X P A m { ps with env:=jm live ps.env } { ts with env:=Tw.pick live ts.env }:=
 ⟨hR.heap,hR.llen,hR.loc,UW hR.env live⟩
theorem SR.pick{fl:Nat}{ps:aS X.Γ}{ts:St}(hS:SR X P A W fl m ps ts)(live:List Nat):SR X P A W fl m { ps with env:=jm live ps.env } { ts with env:=Tw.pick live ts.env }:=⟨hS.st.pick live,hS.own,hS.ws,hS.fl⟩
theorem SR.head{fl:Nat}{ps:aS X.Γ}{ts:St}(hS:SR X P A W fl m ps ts)(live:List Nat):SR X P A W fl m (gW X live ps) (kE live ts):=by
 have h1:=hS.pick live;have ht:=aev h1.st.env;refine⟨⟨h1.st.heap,?_,fun k cs hk=>?_,h1.st.env⟩,h1.own,h1.ws,h1.fl⟩
 .simp only[gW,kE,a3I];have:=h1.st.llen;simp only at this ht;omega
 simp only[gW,kE]at hk ⊢;rw[a4I]at hk;split at hk
 .rename_i aQ;obtain⟨cs',g1,g2⟩:=h1.st.loc k cs hk;refine⟨cs',?_,g2⟩;rw[a4I,a0u (by simp only at ht;omega)];exact g1
 cases hk
theorem V5{g:St->Option (Ex×St)}:∀{k j:Nat} {s:St} {r:Ex×St},iter g k s=some r->k<=j->iter g j s=some r
 | 0,_,s,r,h,_=>by simp[iter]at h
 |k+1,j,s,r,h,hj=>by
  obtain⟨j,rfl⟩:∃i,j=i+1:=⟨j-1,by omega⟩;simp only[iter]at h ⊢;split at h
  .rename_i s1 hs;exact V5 h (by omega)
  rename_i hn;exact h
section
variable {L f:Nat} {gZ:Bool} {nt B:Nat}
theorem MF(hX:bP X P){c:Code}{A W:Nat->Prop}{fl:Nat}{m:List MB}{ps:aS X.Γ}{ts:St}{k:Ex->aS X.Γ->PT X.Γ->OT ρ}(hS:SR X P A W fl m ps ts):∀{an:PT X.Γ},(yU X (dS X P T call L f gZ nt B) B c ps k an).Ends y ->
  ∃e iP ps1 I4 m1,exec P T call L f gZ fl nt c ts=some (e,iP)∧(k e ps1 I4).Ends y∧SR X P A W fl m1 ps1 iP∧Fr m ts.heap m1 iP.heap∧MZ B m m1:=by
 intro an
 induction an with
 |a x r=>
  intro hk;cases x with
  |loop e s'=>
   simp only[yU]at hk;obtain⟨GU,hk⟩:=hk;obtain⟨iP,m1,h1,h2,h3,h4⟩:=GU A W fl m ts hS;exact⟨_,iP,_,_,m1,h1,hk,h2,h3,h4⟩
  |lg gs e s'=>
   simp only[yU]at hk;split at hk
   .rename_i hgs;obtain⟨GU,hk⟩:=hk;obtain⟨m0,e1,e2,e3⟩:=nM hX hgs A W fl m ts hS;obtain⟨iP,m1,h1,h2,h3,h4⟩:=GU A W fl m0 ts e1;exact⟨_,iP,_,_,m1,h1,hk,h2,e2.trans h3,e3.trans h4⟩
   .exact hk.elim
  |_=>simp only[yU]at hk;exact hk.elim
 |z c' a b iha ihb=>
  intro hk;simp only[yU]at hk;rcases hk with⟨_,hk⟩|⟨_,hk⟩
  .exact iha hk
  .exact ihb hk
 |_=>intro hk;simp only[yU]at hk;exact hk.elim
theorem vU(hX:bP X P)(hO:jM X P call fM):∀(c:Code) {A W:Nat->Prop} {fl:Nat} {m:List MB} {ps:aS X.Γ} {ts:St} {an:PT X.Γ} {k:Ex->aS X.Γ->PT X.Γ->OT ρ},SR X P A W fl m ps ts->(jS X P T fM (aW X P call) (dS X P T call L f gZ nt B) B L f gZ nt c ps an k).Ends y ->
  ∃e iP ps1 I4 m1,exec P T call L f gZ fl nt c ts=some (e,iP)∧(k e ps1 I4).Ends y∧SR X P A W fl m1 ps1 iP∧Fr m ts.heap m1 iP.heap∧MZ B m m1:=by
 intro c
 induction c with
 |skip=>intro A W fl m ps ts an k hS hk;exact⟨.norm,ts,ps,an,m,rfl,hk,hS,.refl,.refl⟩
 |label=>intro A W fl m ps ts an k hS hk;exact⟨.norm,ts,ps,an,m,rfl,hk,hS,.refl,.refl⟩
 |exit id=>intro A W fl m ps ts an k hS hk;exact⟨.exit id,ts,ps,an,m,rfl,hk,hS,.refl,.refl⟩
 |ret=>intro A W fl m ps ts an k hS hk;exact⟨.ret,ts,ps,an,m,rfl,hk,hS,.refl,.refl⟩
 |region id ops draw=>
  intro A W fl m ps ts an k hS hk;simp only[jS]at hk;obtain⟨iP,is,pis,ps1,LH,m1,g1,hk,g3,g4,g5,g6,g7⟩:=ZV hX hO hS hk;have fin:∀{an2:PT X.Γ},(!draw||(nY ops.toList&&BI is (nD ops.toList)))=true->(k .norm { ps1 with env:=jm (T.iG f id) ps1.env } an2).Ends y->∃e iP ps1 I4 m1,exec P T call L f gZ fl nt (.region id ops draw) ts=some (e,iP)∧(k e ps1 I4).Ends y∧SR X P A W fl m1 ps1 iP∧Fr m ts.heap m1 iP.heap∧MZ B m m1:=by
   intro an2 hc hk;exact⟨.norm,{ iP with env:=Tw.pick (T.iG f id) iP.env },_,an2,m1,by simp only[exec,g1,hc,a2k],hk,g3.pick _,g4,g5.b⟩
  cases draw with
  |false=>exact fin rfl hk
  |true=>
   simp only at hk;split at hk
   .rename_i r;split at hk
    .rename_i FM;obtain⟨wo,hk⟩:=hk;refine fin ?_ hk;rw[wo];simp only[a9f,agC,adB];refine SV (fun t ht=>?_) fun q hq=>by rw[g7];exact aeP q hq
     have key:∀{ps:List PI} {ts:List mP} {m:List MB} {h:List HB},IRs m h ps ts->(ps.all fun i=>i.i.ws.isEmpty&&!i.wall)=true->∀t∈ts,t.ws=[]:=by
      intro ps ts m h hI
      induction hI with
      |nil=>intro _ t ht;cases ht
      |cons _ _ i1 _ _ _ _ ih=>
       intro ha t ht;simp only[ac1,a1D,List.isEmpty_iff,a8r]at ha;rcases a1J.1 ht with rfl|ht
       .refine a6x.2 fun x hx=>?_;cases x with
        |l j=>have:=i1.wl j hx;rw[ha.1.1]at this;cases this
        |h b=>
         rcases i1.wh b hx with⟨i,h1,_⟩|⟨h1,_⟩
         .rw[ha.1.1]at h1;cases h1
         .rw[ha.1.2]at h1;cases h1
       .exact ih ha.2 t ht
     exact key g6 FM t ht
    .exact hk.elim
   .split at hk
    .rename_i hc;simp only[a1D]at hc;refine fin ?_ hk;rw[hc.1,a6E g6 aeO hc.2];rfl
    .exact hk.elim
 |seq a b iha ihb=>
  intro A W fl m ps ts an k hS hk;simp only[jS]at hk;obtain⟨e,iP,ps1,LH,m1,h1,hk,h3,h4,h5⟩:=iha hS hk;cases e with
  |norm=>
   obtain⟨e2,ts2,CU,an2,m2,g1,g2,g3,g4,g5⟩:=ihb h3 hk;exact⟨e2,ts2,CU,an2,m2,by simp only[exec,h1,g1],g2,g3,h4.trans g4,h5.trans g5⟩
  |exit id=>exact⟨_,iP,ps1,LH,m1,by simp only[exec,h1],hk,h3,h4,h5⟩
  |ret=>exact⟨_,iP,ps1,LH,m1,by simp only[exec,h1],hk,h3,h4,h5⟩
 |cond c a b iha ihb=>
  intro A W fl m ps ts an k hS hk;simp only[jS]at hk;split at hk
  .rename_i u hu;obtain⟨tu,h1,h2⟩:=Xa hS.st.env hu;obtain⟨t,I4,rfl,hk⟩:=ZN hk h2;cases t with
   |true=>
    obtain⟨e,iP,ps1,LH,m1,g1,g2,g3,g4,g5⟩:=iha (hS.BZ h1) hk;exact⟨e,iP,ps1,LH,m1,by simp only[exec,h1,g1],g2,g3,g4,g5⟩
   |false=>
    obtain⟨e,iP,ps1,LH,m1,g1,g2,g3,g4,g5⟩:=ihb (hS.BZ h1) hk;exact⟨e,iP,ps1,LH,m1,by simp only[exec,h1,g1],g2,g3,g4,g5⟩
  .exact hk.elim
 |block id b ih=>
  intro A W fl m ps ts an k hS hk;simp only[jS]at hk;obtain⟨e,iP,ps1,LH,m1,h1,hk,h3,h4,h5⟩:=ih hS hk;cases e with
  |norm=>exact⟨_,iP,ps1,LH,m1,by simp only[exec,h1],hk,h3,h4,h5⟩
  |ret=>exact⟨_,iP,ps1,LH,m1,by simp only[exec,h1],hk,h3,h4,h5⟩
  |exit i=>exact⟨_,iP,ps1,LH,m1,by simp only[exec,h1],hk,h3,h4,h5⟩
 |scope b ih=>
  intro A W fl m ps ts an k hS hk;simp only[jS]at hk;obtain⟨e,iP,ps1,LH,m1,h1,hk,h3,h4,h5⟩:=ih hS hk;exact⟨e,iP,ps1,LH,m1,by simp only[exec,h1],hk,h3,h4,h5⟩
 |loop b ih=>
  intro A W fl m ps ts an k hS hk;simp only[jS]at hk;split at hk
  .rename_i j r;obtain⟨hj,hk⟩:=hk;have go:∀(j:Nat) {m:List MB} {ps:aS X.Γ} {ts:St} {an:PT X.Γ},SR X P A W fl m ps ts->(UQ X (fun s an k=>jS X P T fM (aW X P call) (dS X P T call L f gZ nt B) B L f gZ nt b (gW X (T.eU f (dZ b)) s) an k) j ps an k).Ends y ->
     ∃e iP ps1 I4 m1,iter (fun s=>exec P T call L f gZ fl nt b (kE (T.eU f (dZ b)) s)) j ts=some (e,iP)∧(k e ps1 I4).Ends y∧SR X P A W fl m1 ps1 iP∧Fr m ts.heap m1 iP.heap∧MZ B m m1:=by
    intro j
    induction j with
    |zero=>intro m ps ts an _ hk;exact hk.elim
    |succ j ihj=>
     intro m ps ts an hS hk;simp only[UQ]at hk;obtain⟨e,iP,ps1,LH,m1,h1,hk,h3,h4,h5⟩:=ih (hS.head _) hk;cases e with
     |norm=>
      obtain⟨e2,ts2,CU,an2,m2,g1,g2,g3,g4,g5⟩:=ihj h3 hk;exact⟨e2,ts2,CU,an2,m2,by simp only[iter,h1,g1],g2,g3,h4.trans g4,h5.trans g5⟩
     |exit id=>exact⟨_,iP,ps1,LH,m1,by simp only[iter,h1],hk,h3,h4,h5⟩
     |ret=>exact⟨_,iP,ps1,LH,m1,by simp only[iter,h1],hk,h3,h4,h5⟩
   obtain⟨e,iP,ps1,LH,m1,h1,h2,h3,h4,h5⟩:=go j hS hk;exact⟨e,iP,ps1,LH,m1,by simp only[exec];exact V5 h1 hj,h2,h3,h4,h5⟩
  .exact MF hX hS hk
 |rangeFunc g qs uX body iha ihb=>
  intro A W fl m ps ts an k hS hk;simp only[jS]at hk;exact MF hX hS hk
 |_=>intro A W fl m ps ts an k hS hk;simp only[jS]at hk;exact hk.elim
end
end
section
variable {X:l7} {P:Program} {T:qQ} {A W:Nat->Prop} {m m':List MB}
variable {call:bf} {fM:fA X.Γ} {L:Nat}
def Cj(P:Program)(f:Nat):Nat:=match Ud P f with
 |some t=>t.nt
 |none=>0
abbrev BN(X:l7)(P:Program)(T:qQ)(call:bf)(L f B:Nat):a1k X.Γ:=dS X P T call L f false (Cj P f) B
theorem N7{A:Nat->Prop}{h:List HB}:∀{k:Nat} {vs:List (PV X.Γ)} {xs:List TV},bY X P A m h vs xs->ku X P A m h (lG X k vs) (nZ k xs)
 |k,[],xs,hv=>by rw[hv.inv0];exact .nil
 |k,v::vs,xs,hv=>by
  obtain⟨x,r,rfl,h1,h2⟩:=hv.inv;exact .cons h1 (N7 h2)
theorem J7(hX:bP X P){ps:aS X.Γ}{ts:St}(hR:vw X P A m ps ts):∀{rs:List ResultVar} {vs:List (PV X.Γ)},Fh X P ps rs=some vs->∃ws,yg P ts rs=some ws∧bY X P (AA A m) m ts.heap vs ws
 | [],vs,h=>by simp only[Fh,a04]at h;subst h;exact⟨[],rfl,.nil⟩
 |r::rs,vs,h=>by
  simp only[Fh]at h;split at h
  rotate_left
  .cases h
  rename_i v vs' h1 h2;cases h;obtain⟨ws,g1,g2⟩:=J7 hX hR h2;have:∃w,a4X P ts r=some w∧VR X P (AA A m) m ts.heap v w:=by
   unfold aij at h1;unfold a4X;split at h1
   .rename_i t;split at h1
    .rename_i u hu;cases h1;obtain⟨ev,e1,e2⟩:=pF hR.env hu;obtain⟨w,rfl,e3⟩:=fU e2;exact⟨w,by simp only[e1],Hl e3⟩
    cases h1
   rename_i a t;split at h1
   .rename_i pa ha;simp only[a07]at h1;obtain⟨⟨u,i⟩,e1,rfl⟩:=h1;obtain⟨ev,e2,e3⟩:=pF hR.env ha;obtain⟨w,ti,e4,e5,_,_⟩:=Gy hX hR e3 e1;exact⟨w,by simp only[e2,e4,a0B],e5⟩
   cases h1
  obtain⟨w,g3,g4⟩:=this;exact⟨w::ws,by simp only[yg,g3,g1],.cons g4 g2⟩
theorem V6{A:Nat->Prop}{h:List HB}{vs:List (PV X.Γ)}{ws:List TV}(hv:bY X P A m h vs ws):VR X P A m h (ZH X vs) (one ws):=by
 match vs,ws,hv with
 | [],ws,hv=>rw[hv.inv0];exact .dM rfl (by simp)
 | [v],ws,hv=>
  obtain⟨x,r,rfl,h1,h2⟩:=hv.inv;have:=h2.inv0;subst this;exact h1
 |v::u::vs,ws,hv=>
  obtain⟨x,r,rfl,h1,h2⟩:=hv.inv;obtain⟨z,r,rfl,h3,h4⟩:=h2.inv;exact .dM hv.1 hv.2
theorem a6H(hX:bP X P)(hO:jM X P call fM){f:Nat}{vs:List (PV X.Γ)}{H:List (PB X.Γ)}{an:PT X.Γ}{v:PV X.Γ}{H1:List (PB X.Γ)}(hk:(Df X P T fM (aW X P call) (BN X P T call L f H.length) L f vs H an).Ends (v,H1))
  {h:List HB} (hr:HR X P A m H h) {xs:List TV} (hv:bY X P (AA A m) m h vs xs):∃w h1 ws m1,UE P T call L f xs h=some (w,h1,ws)∧HR X P A m1 H1 h1∧VR X P (AA A m1) m1 h1 v w∧Fr m h m1 h1∧MZ H.length m m1∧(∀b∈ws,b∈bD m)∧¬(T.exts.contains f||T.dem.contains f)=true:=by
 unfold Df at hk;split at hk
 .rename_i t ht;have hnx:¬(T.exts.contains f||T.dem.contains f)=true:=fun hx=>by rw[a0u hx]at ht;cases ht
  rw[a0o hnx]at ht;have hnt:Cj P f=t.nt:=by unfold Cj;rw[ht]
  have hS:SR X P A (fun b=>b∈bD m) h.length m ⟨lG X 0 vs,[],H⟩ ⟨nZ 0 xs,[],h,[]⟩:=
   ⟨⟨hr,rfl,fun k cs hk=>by simp at hk,N7 hv⟩,fun b hb=>.inl hb,fun b hb=>(by cases hb),a0x _⟩
  rw[show BN X P T call L f H.length=dS X P T call L f false t.nt H.length by unfold BN;rw[hnt]]at hk;obtain⟨e,iP,ps1,LH,m1,h1,hk,h3,h4,h5⟩:=vU hX hO t.body hS hk;have fin:∀{e:Ex},exec P T call L f false h.length t.nt t.body ⟨nZ 0 xs,[],h,[]⟩=some (e,iP)->(e=.norm∨e=.ret)->∀{us:List (PV X.Γ)},Fh X P ps1 t.results=some us->(ZH X us,ps1.heap)=(v,H1)->∃w h1 ws m1,UE P T call L f xs h=some (w,h1,ws)∧HR X P A m1 H1 h1∧VR X P (AA A m1) m1 h1 v w∧Fr m h m1 h1∧MZ H.length m m1∧(∀b∈ws,b∈bD m)∧¬(T.exts.contains f||T.dem.contains f)=true:=by
   intro e he hee us hus hv;cases hv;obtain⟨ws,g1,g2⟩:=J7 hX h3.st hus;refine⟨one ws,iP.heap,iP.ws,m1,?_,h3.st.heap,V6 g2,h4,h5,h3.ws,hnx⟩;unfold UE;rcases hee with rfl|rfl<;>simp only[ht,he,g1]
  cases e with
  |exit id=>exact hk.elim
  |norm=>
   cases LH with
   |n=>
    simp only at hk;split at hk
    .rename_i us hus;exact fin h1 (.inl rfl) hus hk
    .exact hk.elim
   |_=>exact hk.elim
  |ret=>
   cases LH with
   |n=>
    simp only at hk;split at hk
    .rename_i us hus;exact fin h1 (.inr rfl) hus hk
    .exact hk.elim
   |_=>exact hk.elim
 .exact hk.elim
theorem ZW(hX:bP X P){n f:Nat}(hn:0<n)(hO:jM X P (lF P T L (n-1)) fM){vs:List (PV X.Γ)}{an:PT X.Γ}{v:PV X.Γ}{ext:List (PB X.Γ)}
  (hk:(Df X P T fM (aW X P (lF P T L (n-1))) (BN X P T (lF P T L (n-1)) L f 0) L f vs [] an).Ends (v,ext)):oN X P (lF P T L n) f vs v ext:=by
 intro A h first args cap IL hv
 have hr:HR X P A [] [] h:=⟨rfl,fun i b hb=>by simp at hb,by simp[bD],IL,fun b hb=>by simp[bD]at hb⟩;obtain⟨w,h1,ws,m1,g1,g2,g3,g4,_,g6,g7⟩:=a6H hX hO (H:=[]) hk hr (hv.mono fun b hb=>⟨hb,by simp[bD]⟩);obtain⟨n,rfl⟩:∃j,n=j+1:=⟨n-1,by omega⟩;have:ws=[]:=a6x.2 fun x hx=>by have:=g6 x hx;simp[bD]at this
 subst this;exact⟨w,h1,m1,by simp only[lF];simp only[a9i,adJ]at g7;rw[a0o g7.1,a0o g7.2];exact g1,g2,g3,g4⟩
theorem a6I(hX:bP X P){n f:Nat}(hn:0<n)(hO:jM X P (lF P T L (n-1)) fM){first xs cap:List (PV X.Γ)}{H H1:List (PB X.Γ)}{an:PT X.Γ}{v:PV X.Γ}
  (hk:(Df X P T fM (aW X P (lF P T L (n-1))) (BN X P T (lF P T L (n-1)) L f H.length) L f (first++xs++cap) H an).Ends (v,H1)):aW X P (lF P T L n) (.fn f first cap) xs H v H1:=by
 intro A m h tf sJ hr hf hx;obtain⟨n,rfl⟩:∃j,n=j+1:=⟨n-1,by omega⟩;cases hf with
 |gone hi _ _=>simp[bn]at hi
 |fn p1 p2 p3 p4=>
  obtain⟨w,h1,ws,m1,g1,g2,g3,g4,g5,g6,g7⟩:=a6H hX hO hk hr ((bY.app ⟨p1,p2⟩ hx).app ⟨p3,p4⟩);refine⟨w,h1,ws,m1,by simp only[lF];simp only[a9i,adJ]at g7;rw[a0o g7.1,a0o g7.2];exact g1,g2,g3,g4,fun i mb hi=>g5 i mb ?_ hi,g6⟩;rw[<-hr.len];exact(a05.1 hi).1
def aeV:Ex->aS X.Γ->PT X.Γ->OT (Ex×aS X.Γ):=fun e s an=>match an with
 |.n=>.ret (e,s)
 |_=>.bad
section
variable {f nt B:Nat} {gZ:Bool}
theorem Xo(hX:bP X P)(hO:jM X P call fM){c:Code}{ps:aS X.Γ}{an:PT X.Γ}{e:Ex}{ps1:aS X.Γ}(hk:(jS X P T fM (aW X P call) (dS X P T call L f gZ nt B) B L f gZ nt c ps an aeV).Ends (e,ps1)):dS X P T call L f gZ nt B c ps e ps1:=by
 intro A W fl m ts hS;obtain⟨e1,iP,CU,LH,m1,h1,h2,h3,h4,h5⟩:=vU hX hO c hS hk;cases LH with
 |n=>cases h2;exact⟨iP,m1,h1,h3,h4,h5⟩
 |_=>exact h2.elim
end
end
def OT.map{ρ σ:Type}(f:ρ->σ):OT ρ->OT σ
 |.bad=>.bad
 |.ret r=>.ret (f r)
 |.o p r=>.o p (r.map f)
 |.br c t e=>.br c (t.map f) (e.map f)
theorem OT.I5{ρ σ:Type}{f:ρ->σ}{y:σ}:∀{o:OT ρ},(o.map f).Ends y->∃r,o.Ends r∧f r=y
 |.bad,h=>h.elim
 |.ret r,h=>⟨r,rfl,h⟩
 |.o p r,h=>by obtain⟨x,h1,h2⟩:=OT.I5 h.2;exact⟨x,⟨h.1,h1⟩,h2⟩
 |.br c t e,h=>by
  rcases h with⟨h0,h⟩|⟨h0,h⟩
  .obtain⟨x,h1,h2⟩:=OT.I5 h;exact⟨x,.inl ⟨h0,h1⟩,h2⟩
  obtain⟨x,h1,h2⟩:=OT.I5 h;exact⟨x,.inr ⟨h0,h1⟩,h2⟩
inductive Fp{Γ:Nat->Type}{ρ:Type}(R:ρ->Prop):PT Γ->OT ρ->Prop where
 |r {v:ρ} (h:R v):Fp R .n (.ret v)
 |g {v:ρ} (gs:List G) (h:R v):Fp R (.a (.lg gs .norm ⟨[],[],[]⟩) .n) (.ret v)
 |o {p:Prop} {an:PT Γ} {o:OT ρ} (h:p) (f:Fp R an o):Fp R an (.o p o)
 |s {c:Bool} {a b:PT Γ} {x y:OT ρ} (f:c=true->Fp R a x) (g:c=false->Fp R b y):Fp R (.s a b) (.br c x y)
 |z {c:Bool} {a b:PT Γ} {x y:OT ρ} (f:c=true->Fp R a x) (g:c=false->Fp R b y):Fp R (.z c a b) (.br c x y)
 |b {c t:Bool} {an:PT Γ} {o:OT ρ} (h:c=t) (f:Fp R an o):Fp R (.a (.br t) an) (.o (c=t) o)
 |q {p:Prop} {an:PT Γ} {o:OT ρ} (w:TV) (h:p) (f:Fp R an o):Fp R (.a (.rd w) an) (.o p o)
 |c {p:Prop} {an:PT Γ} {o:OT ρ} (v:PV Γ) (H:List (PB Γ)) (h:p) (f:Fp R an o):Fp R (.a (.call v H) an) (.o p o)
 |kf {p:Prop} {an:PT Γ} {o:OT ρ} (ks:List Nat) (v:PV Γ) (H:List (PB Γ)) (h:p) (f:Fp R an o):Fp R (.a (.fr ks v H) an) (.o p o)
 |kg {p:Prop} {an:PT Γ} {o:OT ρ} (ks rs:List Nat) (v:PV Γ) (H:List (PB Γ)) (h:p) (f:Fp R an o):Fp R (.a (.QK ks rs v H) an) (.o p o)
 |l {p:Prop} {an:PT Γ} {o:OT ρ} (gs:List G) (e:Ex) (s:aS Γ) (h:p) (f:Fp R an o):Fp R (.a (.lg gs e s) an) (.o p o)
 |f {p:Prop} {an:PT Γ} {o:OT ρ} (e:Ex) (s:aS Γ) (h:p) (f:Fp R an o):Fp R (.a (.loop e s) an) (.o p o)
 |m {p:Prop} {an:PT Γ} {o:OT ρ} (k:Nat) (h:p) (f:Fp R an o):Fp R (.l k an) (.o p o)
 |a {an:PT Γ} {o:OT ρ} (x:PA Γ) (f:Fp R an o):Fp R (.a x an) o
theorem Fp.aI{Γ:Nat->Type}{ρ:Type}{R:ρ->Prop}{an:PT Γ}{o:OT ρ}(h:Fp R an o):∃y,o.Ends y∧R y:=by
 induction h with
 |r h=>exact⟨_,rfl,h⟩
 |g _ h=>exact⟨_,rfl,h⟩
 |s _ _ i1 i2=>
  rename_i c _ _ _ _ _ _;cases c with
  |true=>obtain⟨y,h1,h2⟩:=i1 rfl;exact⟨y,.inl ⟨rfl,h1⟩,h2⟩
  |false=>obtain⟨y,h1,h2⟩:=i2 rfl;exact⟨y,.inr ⟨rfl,h1⟩,h2⟩
 |z _ _ i1 i2=>
  rename_i c _ _ _ _ _ _;cases c with
  |true=>obtain⟨y,h1,h2⟩:=i1 rfl;exact⟨y,.inl ⟨rfl,h1⟩,h2⟩
  |false=>obtain⟨y,h1,h2⟩:=i2 rfl;exact⟨y,.inr ⟨rfl,h1⟩,h2⟩
 |a _ _ i=>exact i
 |o h _ i=>obtain⟨y,h1,h2⟩:=i;exact⟨y,⟨h,h1⟩,h2⟩
 |b h _ i=>obtain⟨y,h1,h2⟩:=i;exact⟨y,⟨h,h1⟩,h2⟩
 |q _ h _ i=>obtain⟨y,h1,h2⟩:=i;exact⟨y,⟨h,h1⟩,h2⟩
 |c _ _ h _ i=>obtain⟨y,h1,h2⟩:=i;exact⟨y,⟨h,h1⟩,h2⟩
 |kg _ _ _ _ h _ i=>obtain⟨y,h1,h2⟩:=i;exact⟨y,⟨h,h1⟩,h2⟩
 |kf _ _ _ h _ i=>obtain⟨y,h1,h2⟩:=i;exact⟨y,⟨h,h1⟩,h2⟩
 |l _ _ _ h _ i=>obtain⟨y,h1,h2⟩:=i;exact⟨y,⟨h,h1⟩,h2⟩
 |f _ _ h _ i=>obtain⟨y,h1,h2⟩:=i;exact⟨y,⟨h,h1⟩,h2⟩
 |m _ h _ i=>obtain⟨y,h1,h2⟩:=i;exact⟨y,⟨h,h1⟩,h2⟩
section
variable {X:l7} {P:Program} {T:qQ} {L:Nat}
def frz(r:PV X.Γ×List (PB X.Γ)):Option (PV X.Γ):=view r.2 r.1
theorem Xp(hX:bP X P){call:bf}{f:FuncId}{vs:List (PV X.Γ)}{v w:PV X.Γ}{ext:List (PB X.Γ)}(hc:oN X P call f vs v ext)(hw:view ext v=some w):oN X P call f vs w []:=by
 intro A h first args cap IL hv
 obtain⟨x,h',m',c1,c2,c3,c4⟩:=hc A h first args cap IL hv
 refine⟨x,h',[],c1,⟨rfl,fun i b hb=>by simp at hb,by simp[bD],c2.up,fun b hb=>by simp[bD]at hb⟩,?_,?_⟩
 .refine(UY (m':=[]) hX c2 c3 hw (is:=lu v) fun i hi=>hi).mono fun b hb=>⟨?_,by simp[bD]⟩;rcases hb with hb|⟨i,mb,h1,h2,h3⟩
  .exact hb.1
  exact c2.Di b (bg h2 h3)
 exact⟨c4.len,fun b hb hn=>c4.same b hb hn,fun b hb=>by simp[bD]at hb,c4.grow⟩
def aeW(hd:aS X.Γ->aS X.Γ)(B:Nat):Ex->aS X.Γ->PT X.Γ->OT (Ex×aS X.Γ):=fun e s an=>match an with
 |.n=>match e with
  |.norm=>.ret (.norm,hd s)
  |e=>.ret (e,s)
 |.a (.lg gs _ _) .n=>match e with
  |.norm=>match lN B gs (hd s)with
   |some s=>.ret (.norm,s)
   |none=>.bad
  |e=>match lN B gs s with
   |some s=>.ret (e,s)
   |none=>.bad
 |_=>.bad
section
variable {f nt B:Nat} {gZ:Bool} {call:bf} {fM:fA X.Γ}
def dN(X:l7)(P:Program)(T:qQ)(call:bf)(L f:Nat)(gZ:Bool)(nt B:Nat)(b:Code)(n:Nat)(ps:aS X.Γ)(e:Ex)(ps1:aS X.Γ):Prop:=
 ∀(A W:Nat->Prop) (fl:Nat) (m:List MB) (ts:St),SR X P A W fl m ps (kE (T.eU f (dZ b)) ts)->∃iP m1,iter (fun s=>exec P T call L f gZ fl nt b (kE (T.eU f (dZ b)) s)) n ts=some (e,iP)∧SR X P A W fl m1 ps1 iP∧Fr m ts.heap m1 iP.heap∧MZ B m m1
theorem V7{b:Code}{n k:Nat}{ps:aS X.Γ}{e:Ex}{ps1:aS X.Γ}(h:dN X P T call L f gZ nt B b n ps e ps1)(hk:n<=k):dN X P T call L f gZ nt B b k ps e ps1:=fun A W fl m ts hS=>by
 obtain⟨iP,m1,h1,h2⟩:=h A W fl m ts hS;exact⟨iP,m1,V5 h1 hk,h2⟩
theorem zJ{b:Code}{n:Nat}{s0 ps:aS X.Γ}{e:Ex}{ps1:aS X.Γ}(h:dN X P T call L f gZ nt B b n ps e ps1)(h0:gW X (T.eU f (dZ b)) s0=ps)(hn:n<=L):dS X P T call L f gZ nt B (.loop b) s0 e ps1:=fun A W fl m ts hS=>by
 obtain⟨iP,m1,h1,h2⟩:=V7 h hn A W fl m ts (by rw[<-h0];exact hS.head _);exact⟨iP,m1,by simp only[exec];exact h1,h2⟩
def Rnd(X:l7)(P:Program)(T:qQ)(call:bf)(L f:Nat)(gZ:Bool)(nt B:Nat)(b:Code)(n:Nat)(e:Ex)(s:aS X.Γ):Ex×aS X.Γ->Prop
 |(.norm,s')=>dN X P T call L f gZ nt B b n s' e s
 |(e',s')=>e'=e∧s'=s
theorem a1A{b:Code}{n:Nat}{e e':Ex}{s s':aS X.Γ}(hn:e'≠.norm)(h:Rnd X P T call L f gZ nt B b n e s (e',s')):e'=e∧s'=s:=by
 cases e' with
 |norm=>exact absurd rfl hn
 |exit id=>exact h
 |ret=>exact h
theorem round(hX:bP X P)(hO:jM X P call fM){b:Code}{n:Nat}{ps:aS X.Γ}{an:PT X.Γ}{e:Ex}{s:aS X.Γ}{o:OT (Ex×aS X.Γ)}
  (hk:jS X P T fM (aW X P call) (dS X P T call L f gZ nt B) B L f gZ nt b ps an (aeW (gW X (T.eU f (dZ b))) B)=o) (ht:Fp (Rnd X P T call L f gZ nt B b n e s) an o):dN X P T call L f gZ nt B b (n+1) ps e s:=by
 obtain⟨⟨e',s'⟩,h1,h2⟩:=ht.aI;rw[<-hk]at h1;intro A W fl m ts hS;obtain⟨e1,iP,CU,LH,m1,g1,g2,g3,g4,g5⟩:=vU hX hO b hS h1;have out:∀{e1:Ex} {m2:List MB},exec P T call L f gZ fl nt b (kE (T.eU f (dZ b)) ts)=some (e1,iP)->e1≠.norm->e1=e∧s'=s->SR X P A W fl m2 s' iP->Fr m ts.heap m2 iP.heap->MZ B m m2->∃iP m1,iter (fun s=>exec P T call L f gZ fl nt b (kE (T.eU f (dZ b)) s)) (n+1) ts=some (e,iP)∧SR X P A W fl m1 s iP∧Fr m ts.heap m1 iP.heap∧MZ B m m1:=by
  intro e1 m2 ge hn hh q1 q2 q3;obtain⟨rfl,rfl⟩:=hh;refine⟨iP,m2,?_,q1,q2,q3⟩;cases e1 with
  |norm=>exact absurd rfl hn
  |exit id=>simp only[iter,ge]
  |ret=>simp only[iter,ge]
 have on:∀{m2:List MB},exec P T call L f gZ fl nt b (kE (T.eU f (dZ b)) ts)=some (.norm,iP)->SR X P A W fl m2 s' (kE (T.eU f (dZ b)) iP)->Fr m ts.heap m2 iP.heap->MZ B m m2->dN X P T call L f gZ nt B b n s' e s->∃iP m1,iter (fun s=>exec P T call L f gZ fl nt b (kE (T.eU f (dZ b)) s)) (n+1) ts=some (e,iP)∧SR X P A W fl m1 s iP∧Fr m ts.heap m1 iP.heap∧MZ B m m1:=by
  intro m2 ge q1 q2 q3 hr;obtain⟨ts2,m3,r1,r2,r3,r4⟩:=hr A W fl m2 iP q1;exact⟨ts2,m3,by simp only[iter,ge,r1],r2,q2.trans r3,q3.trans r4⟩
 unfold aeW at g2;split at g2
 .split at g2
  .cases g2;exact on g1 (g3.head _) g4 g5 h2
  .rename_i e1 iI;cases g2;exact out g1 (fun h=>iI h) (a1A (fun h=>iI h) h2) g3 g4 g5
 .split at g2
  .split at g2
   .rename_i hg;cases g2;obtain⟨m2,q1,q2,q3⟩:=nM hX hg _ _ _ _ _ (g3.head _);exact on g1 q1 (g4.trans q2) (g5.trans q3) h2
   .exact g2.elim
  .rename_i e1 iI;split at g2
   .rename_i hg;cases g2;obtain⟨m2,q1,q2,q3⟩:=nM hX hg _ _ _ _ _ g3;exact out g1 (fun h=>iI h) (a1A (fun h=>iI h) h2) q1 (g4.trans q2) (g5.trans q3)
   .exact g2.elim
 .exact g2.elim
end
structure Ar(X:l7)(P:Program)(α:Type) where
 put:α->PV X.Γ
 get:PV X.Γ->Option α
 ok:∀{v:PV X.Γ} {a:α},get v=some a->∀{A:Nat->Prop} {m:List MB} {h:List HB} {x:TV},VR X P A m h v x->VR X P A m h (put a) x
structure V8(X:l7)(P:Program)(α:Type) where
 put:α->List (PV X.Γ)
 get:List (PV X.Γ)->Option α
 ok:∀{v:List (PV X.Γ)} {a:α},get v=some a->∀{A:Nat->Prop} {m:List MB} {h:List HB} {x:List TV},bY X P A m h v x->bY X P A m h (put a) x
def aeX(k:IntKind):Ar X P Int where
 put n:=.int k n
 get v:=match v with
  |.int k' n=>if k'=k then some n else none
  |_=>none
 ok:=by
  intro v a hg A m h x hv;split at hg
  .split at hg
   .rename_i e;subst e;cases hg;exact hv
   .cases hg
  .cases hg
def aiF:Ar X P Bool where
 put n:=.bool n
 get v:=match v with
  |.bool n=>some n
  |.lit n=>some n
  |_=>none
 ok:=by
  intro v a hg A m h x hv;split at hg
  .cases hg;exact hv
  .cases hg;exact Hl hv
  .cases hg
theorem VR.less{A:Nat->Prop}{m:List MB}{h:List HB}{t:Nat}{l:List (X.Γ t)}{fu:Bool}{x:TV}(hv:VR X P A m h (.dF t l fu) x):VR X P A m h (.dF t l false) x:=by
 cases hv with
 |gone hi _ _=>simp[bn]at hi
 |pz=>exact .pz
 |dF a c c2 s z o k f e r=>exact .dF a c c2 s z o k (fun h=>by cases h) e r
def a6J(t:Nat):Ar X P (List (X.Γ t)) where
 put l:=.dF t l false
 get v:=match v with
  |.dF t' l _=>D8 t t' l
  |.nil .slc=>some []
  |_=>none
 ok:=by
  intro v a hg A m h x hv;split at hg
  .obtain⟨rfl,rfl⟩:=uO hg;exact hv.less
  .cases hg;cases hv with
   |nil=>exact .pz
   |gone hi _ _=>simp[bn]at hi
  .cases hg
def aiG(hX:bP X P)(t:Nat):Ar X P (X.Γ t) where
 put a:=.agg (X.enc t a)
 get v:=match v with
  |.agg cs=>X.dec t cs
  |_=>none
 ok:=by
  intro v a hg A m h x hv;split at hg
  .cases hv with
   |gone hi _ _=>simp[bn]at hi
   |agg h1 h2=>obtain⟨h3,h4⟩:=hX.dec hg ⟨h1,h2⟩;exact .agg h3 h4
  .cases hg
def fnA(f:FuncId):Ar X P Unit where
 put _:=.fn f [] []
 get v:=match v with
  |.fn g [] []=>if g=f then some ()else none
  |_=>none
 ok:=by
  intro v a hg A m h x hv;split at hg
  .split at hg
   .rename_i e;subst e;exact hv
   .cases hg
  .cases hg
def aeY:V8 X P Unit where
 put _:=[]
 get v:=match v with
  | []=>some ()
  |_=>none
 ok:=by
  intro v a hg A m h x hv;split at hg
  .exact hv
  .cases hg
def LJ{α β:Type}(a:Ar X P α)(l:V8 X P β):V8 X P (α×β) where
 put x:=a.put x.1::l.put x.2
 get v:=match v with
  |v::vs=>match a.get v,l.get vs with
   |some x,some y=>some (x,y)
   |_,_=>none
  |_=>none
 ok:=by
  intro v x hg A m h xs hv;split at hg
  .split at hg
   .rename_i e1 e2;cases hg;obtain⟨y,r,rfl,h1,h2⟩:=hv.inv;exact .cons (a.ok e1 h1) (l.ok e2 h2)
   .cases hg
  .cases hg
def aiH{α:Type}(a:Ar X P α):V8 X P α where
 put x:=[a.put x]
 get v:=match v with
  | [v]=>a.get v
  |_=>none
 ok:=by
  intro v x hg A m h xs hv;split at hg
  .obtain⟨y,r,rfl,h1,h2⟩:=hv.inv;have:=h2.inv0;subst this;exact .cons (a.ok hg h1) .nil
  .cases hg
def dQ{α:Type}(l:V8 X P α):Ar X P α where
 put x:=.dM (l.put x)
 get v:=match v with
  |.dM cs=>l.get cs
  |_=>none
 ok:=by
  intro v x hg A m h xs hv;split at hg
  .cases hv with
   |gone hi _ _=>simp[bn]at hi
   |dM h1 h2=>obtain⟨h3,h4⟩:=l.ok hg ⟨h1,h2⟩;exact .dM h3 h4
  .cases hg
def a6K{α:Type}(l:V8 X P α):Ar X P α where
 put x:=.agg (l.put x)
 get v:=match v with
  |.agg cs=>l.get cs
  |_=>none
 ok:=by
  intro v x hg A m h xs hv;split at hg
  .cases hv with
   |gone hi _ _=>simp[bn]at hi
   |agg h1 h2=>obtain⟨h3,h4⟩:=l.ok hg ⟨h1,h2⟩;exact .agg h3 h4
  .cases hg
def aeZ{α β:Type}(a:Ar X P α)(f:α->β)(g:β->α)(hgf:∀x,g (f x)=x):Ar X P β where
 put x:=a.put (g x)
 get v:=match a.get v with
  |some x=>some (f x)
  |none=>none
 ok:=by
  intro v x hg A m h xs hv;split at hg
  .rename_i y hy;cases hg;rw[hgf];exact a.ok hy hv
  .cases hg
def Good(X:l7)(P:Program)(T:qQ)(L:Nat)(fM:fA X.Γ):Prop:=∃N,∀n,N<=n->jM X P (lF P T L n) fM
def aai:fA X.Γ:=fun _ _=>none
def cO{α β:Type}(f:FuncId)(a:V8 X P α)(r:Ar X P β)(S:α->β)(pre:α->List Prop)(fM:fA X.Γ):fA X.Γ:=fun g vs=>
 match Nat.beq g f with
 |true=>match a.get vs with
  |some x=>some (r.put (S x),[],pre x)
  |none=>fM g vs
 |false=>fM g vs
theorem Good.nil:Good X P T L (aai (X:=X)):=⟨0,fun n _ f vs v ext ps h=>by cases h⟩
theorem Good.add{α β:Type}{f:FuncId}{a:V8 X P α}{r:Ar X P β}{S:α->β}{pre:α->List Prop}{fM:fA X.Γ}(hg:Good X P T L fM)
  (hf:∀n,jM X P (lF P T L n) fM->∀x,(∀p∈pre x,p)->oN X P (lF P T L (n+1)) f (a.put x) (r.put (S x)) []):Good X P T L (cO f a r S pre fM):=by
 obtain⟨N,hN⟩:=hg;refine⟨N+1,fun n hn=>?_⟩;obtain⟨k,rfl⟩:∃k,n=k+1:=⟨n-1,by omega⟩;intro g vs v ext ps ho hp;unfold cO at ho;split at ho
 .rename_i e;have e:=a9d e;subst e;split at ho
  .rename_i x hx;cases ho;intro A h first args cap IL hv
   exact hf k (hN k (by omega)) x hp A h first args cap IL (a.ok hx hv)
  .exact hN (k+1) (by omega) g vs v ext ps ho hp
 .exact hN (k+1) (by omega) g vs v ext ps ho hp
theorem Good.deep{α β:Type}{f:FuncId}{a:V8 X P α}{r:Ar X P β}{S:α->β}{pre:α->List Prop}{fM:fA X.Γ}(d:Nat)(hg:Good X P T L fM)
  (hf:∀n,d<=n->(∀m,n-d<=m->jM X P (lF P T L m) fM)->∀x,(∀p∈pre x,p)->oN X P (lF P T L (n+1)) f (a.put x) (r.put (S x)) []):Good X P T L (cO f a r S pre fM):=by
 obtain⟨N,hN⟩:=hg;refine⟨N+d+1,fun n hn=>?_⟩;obtain⟨k,rfl⟩:∃k,n=k+1:=⟨n-1,by omega⟩;intro g vs v ext ps ho hp;unfold cO at ho;split at ho
 .rename_i e;have e:=a9d e;subst e;split at ho
  .rename_i x hx;cases ho;intro A h first args cap IL hv
   exact hf k (by omega) (fun m hm=>hN m (by omega)) x hp A h first args cap IL (a.ok hx hv)
  .exact hN (k+1) (by omega) g vs v ext ps ho hp
 .exact hN (k+1) (by omega) g vs v ext ps ho hp
def Is{β:Type}(r:Ar X P β)(s:β):Option (PV X.Γ)->Prop:=fun v=>v=some (r.put s)∨∃w,v=some w∧r.get w=some s
theorem aiI{β:Type}(hX:bP X P){n f:Nat}{fM:fA X.Γ}(hO:jM X P (lF P T L n) fM){vs:List (PV X.Γ)}{an:PT X.Γ}{r:Ar X P β}{s:β}{o:OT (Option (PV X.Γ))}
  (hk:(Df X P T fM (aW X P (lF P T L n)) (BN X P T (lF P T L n) L f 0) L f vs [] an).map frz=o) (ht:Fp (Is r s) an o):oN X P (lF P T L (n+1)) f vs (r.put s) []:=
 by
 obtain⟨v,h1,h2⟩:=ht.aI;rw[<-hk]at h1;obtain⟨⟨v,H⟩,h3,rfl⟩:=OT.I5 h1;rcases h2 with h2|⟨w,h2,h4⟩
 .exact Xp hX (ZW hX (n:=n+1) (by omega) hO h3) h2
 .intro A h first args cap IL hv
  obtain⟨x,h',m',c1,c2,c3,c4⟩:=Xp hX (ZW hX (n:=n+1) (by omega) hO h3) h2 A h first args cap IL hv
  exact⟨x,h',m',c1,c2,r.ok h4 c3,c4⟩
theorem Fp.rr{β:Type}{r:Ar X P β}{s:β}:Fp (Is r s) (.n:PT X.Γ) (.ret (some (r.put s))):=.r (.inl rfl)
theorem Fp.rn{β:Type}{r:Ar X P β}{s:β}(w:PV X.Γ)(h:r.get w=some s):Fp (Is r s) (.n:PT X.Γ) (.ret (some w)):=.r (.inr ⟨w,rfl,h⟩)
theorem Fp.ss{β:Type}{r:Ar X P β}{c:Bool}{t e:β}{a b:PT X.Γ}{x y:OT (Option (PV X.Γ))}(h1:Fp (Is r t) a x)(h2:Fp (Is r e) b y):Fp (Is r (if c=true then t else e)) (.s a b) (.br c x y):=
 .s (fun h=>by subst h;exact h1) (fun h=>by subst h;exact h2)
theorem Fp.sh{β:Type}{r:Ar X P β}{c:Bool}{t e:β}{a b:PT X.Γ}{x y:OT (Option (PV X.Γ))}(h1:c=true->Fp (Is r t) a x)(h2:c=false->Fp (Is r e) b y):Fp (Is r (if c=true then t else e)) (.s a b) (.br c x y):=
 .s (fun h=>by rw[a0u h];exact h1 h) (fun h=>by rw[a0o (by rw[h];simp)];exact h2 h)
theorem Fp.zh{β:Type}{r:Ar X P β}{c:Bool}{t e:β}{a b:PT X.Γ}{x y:OT (Option (PV X.Γ))}(h1:c=true->Fp (Is r t) a x)(h2:c=false->Fp (Is r e) b y):Fp (Is r (if c=true then t else e)) (.z c a b) (.br c x y):=
 .z (fun h=>by rw[a0u h];exact h1 h) (fun h=>by rw[a0o (by rw[h];simp)];exact h2 h)
theorem Fp.v{β:Type}{r:Ar X P β}{s:β}(u:β)(h:u=s):Fp (Is r s) (.n:PT X.Γ) (.ret (some (r.put u))):=.r (.inl (by rw[h]))
theorem Fp.k{τ:Type}{R:τ->Prop}{call:bf}{fv v:PV X.Γ}{xs:List (PV X.Γ)}{H H1:List (PB X.Γ)}{an:PT X.Γ}{o:OT τ}(h:aW X P call fv xs H v H1)(t:Fp R an o):Fp R (.a (.call v H1) an) (.o (aW X P call fv xs H v H1) o):=.c v H1 h t
theorem Fp.fr{τ:Type}{R:τ->Prop}{call:bf}{fv v:PV X.Γ}{xs:List (PV X.Γ)}{H H1:List (PB X.Γ)}{an:PT X.Γ}{o:OT τ}(ks:List Nat)(h:aW X P call fv xs H v H1)(t:Fp R an o):Fp R (.a (.fr ks v H1) an) (.o (aW X P call fv xs H v H1) o):=.kf ks v H1 h t
theorem Fp.QK{τ:Type}{R:τ->Prop}{call:bf}{fv v:PV X.Γ}{xs:List (PV X.Γ)}{H H1 H2:List (PB X.Γ)}{an:PT X.Γ}{o:OT τ}(ks rs:List Nat)(h:aW X P call fv xs H v H1)(t:Fp R an o):Fp R (.a (.QK ks rs v H2) an) (.o (aW X P call fv xs H v H1) o):=.kg ks rs v H2 h t
def IsS{β:Type}(r:Ar X P β)(s:β)(H:List (PB X.Γ)):PV X.Γ×List (PB X.Γ)->Prop:=fun v=>v=(r.put s,H)
theorem Fp.sr{β:Type}{r:Ar X P β}{s:β}{H:List (PB X.Γ)}:Fp (IsS r s H) (.n:PT X.Γ) (.ret (r.put s,H)):=.r rfl
theorem Fp.szh{β:Type}{r:Ar X P β}{H:List (PB X.Γ)}{c:Bool}{t e:β}{a b:PT X.Γ}{x y:OT (PV X.Γ×List (PB X.Γ))}(h1:c=true->Fp (IsS r t H) a x)(h2:c=false->Fp (IsS r e H) b y):Fp (IsS r (if c=true then t else e) H) (.z c a b) (.br c x y):=
 .z (fun h=>by rw[a0u h];exact h1 h) (fun h=>by rw[a0o (by rw[h];simp)];exact h2 h)
theorem Fp.ssh{β:Type}{r:Ar X P β}{H:List (PB X.Γ)}{c:Bool}{t e:β}{a b:PT X.Γ}{x y:OT (PV X.Γ×List (PB X.Γ))}(h1:c=true->Fp (IsS r t H) a x)(h2:c=false->Fp (IsS r e H) b y):Fp (IsS r (if c=true then t else e) H) (.s a b) (.br c x y):=
 .s (fun h=>by rw[a0u h];exact h1 h) (fun h=>by rw[a0o (by rw[h];simp)];exact h2 h)
theorem Dn{β:Type}(hX:bP X P){n f:Nat}{fM:fA X.Γ}(hO:jM X P (lF P T L n) fM){first xs cap:List (PV X.Γ)}{H H1:List (PB X.Γ)}{an:PT X.Γ}{r:Ar X P β}{s:β}{o:OT (PV X.Γ×List (PB X.Γ))}
  (hk:Df X P T fM (aW X P (lF P T L n)) (BN X P T (lF P T L n) L f H.length) L f (first++xs++cap) H an=o) (ht:Fp (IsS r s H1) an o):aW X P (lF P T L (n+1)) (.fn f first cap) xs H (r.put s) H1:=by
 obtain⟨y,h1,h2⟩:=ht.aI;cases h2;rw[<-hk]at h1;exact a6I hX (n:=n+1) (by omega) hO h1
theorem N8(hX:bP X P){call:bf}{fM:fA X.Γ}(hO:jM X P call fM){f:FuncId}{first xs cap vs:List (PV X.Γ)}{v:PV X.Γ}{ps:List Prop}{H:List (PB X.Γ)}(hv:views H (first++xs++cap)=some vs)(ho:fM f vs=some (v,[],ps))(hp:∀p∈ps,p)(hl:xU v=false) :
  aW X P call (.fn f first cap) xs H (shift H.length v) H:=by
 intro A m h tf sJ hr hf hx;cases hf with
 |gone hi _ _=>simp[bn]at hi
 |fn p1 p2 p3 p4=>
  obtain⟨w,h1,m1,e1,e2,e3,e4,e5⟩:=HY hX (hO f vs v [] ps ho hp) hr hv (ext':=[]) rfl ⟨p1,p2⟩ hx ⟨p3,p4⟩;simp only[hl,List.any_nil,Bool.or_self,a2u,a3q,a5R]at e2;exact⟨w,h1,[],m1,e1,e2,e3,e4,e5,fun b hb=>by cases hb⟩
def a1{α:Type}(a:Ar X P α):V8 X P α:=aiH a
def a2{α β:Type}(a:Ar X P α)(b:Ar X P β):V8 X P (α×β):=LJ a (aiH b)
def a3{α β γ:Type}(a:Ar X P α)(b:Ar X P β)(c:Ar X P γ):V8 X P (α×β×γ):=LJ a (a2 b c)
def a4{α β γ δ:Type}(a:Ar X P α)(b:Ar X P β)(c:Ar X P γ)(d:Ar X P δ):V8 X P (α×β×γ×δ):=LJ a (a3 b c d)
def np{α:Type}:α->List Prop:=fun _=>[]
end
end Pv
namespace Tw
def ni{α σ ρ:Type}(step:Nat->α->σ->σ⊕ρ):List α->Nat->σ->σ⊕ρ
 | [],_,s=>.inl s
 |a::l,i,s=>match step i a s with
  |.inl s'=>ni step l (i+1) s'
  |.inr r=>.inr r
def jZ{σ ρ:Type}:σ⊕ρ->Bool
 |.inl _=>true
 |.inr _=>false
def aiK{σ ρ:Type}(d:σ):σ⊕ρ->σ
 |.inl s=>s
 |.inr _=>d
def Dq{σ ρ:Type}(d:ρ):σ⊕ρ->ρ
 |.inl _=>d
 |.inr r=>r
def aoA{σ:Type}:σ⊕Empty->σ
 |.inl s=>s
end Tw
namespace Pv
open Go Tw
def uD:Code->List Code
 |.seq a b=>uD a++uD b
 |.cond _ a b=>uD a++uD b
 |.block _ b=>uD b
 |.loop b=>b::uD b
 |.scope b=>uD b
 |.rangeFunc _ _ a b=>uD a++uD b
 |_=>[]
def SX(P:Program)(f k:Nat):Code:=
 match Ud P f with
 |some t=>(uD t.body).getD k .skip
 |none=>.skip
theorem yF{k:Nat}(h:k<=ah):i64.wrap ((k:Int)+1)=((k+1:Nat):Int):=by
 simp only[IntKind.wrap,IntKind.bits,IntKind.signed];unfold ah at h;have:((k:Int)+1)%(2^64:Int)=(k:Int)+1:=a8g (by omega) (by omega);simp only[this];rw[a0o (by simp;omega)];omega
theorem aH{k n:Nat}(h:k<n):gJ k n:=⟨by omega,by omega⟩
theorem bF{k n:Nat}(h:k<n):decide ((k:Int)<(n:Int))=true:=by simp[h]
theorem fF(n:Nat):decide ((n:Int)<(n:Int))=false:=by simp
section
variable {X:l7} {P:Program} {T:qQ} {L:Nat} {f nt B:Nat} {gZ:Bool} {call:bf} {b:Code} {σ α ρ:Type}
theorem Fp.w{τ:Type}{R:τ->Prop}{c:Code}{e:Ex}{s s':aS X.Γ}{an:PT X.Γ}{o:OT τ}(h:dS X P T call L f gZ nt B c s e s')(t:Fp R an o):Fp R (.a (.lg [] e s') an) (.o (dS X P T call L f gZ nt B c s e s') o):=.l [] e s' h t
theorem Fp.wG{τ:Type}{R:τ->Prop}(gs:List G){c:Code}{e:Ex}{s s':aS X.Γ}{an:PT X.Γ}{o:OT τ}(h:dS X P T call L f gZ nt B c s e s')(t:Fp R an o):Fp R (.a (.lg gs e s') an) (.o (dS X P T call L f gZ nt B c s e s') o):=.l gs e s' h t
theorem Fp.go{n:Nat}{e:Ex}{s s':aS X.Γ}(h:dN X P T call L f gZ nt B b n s' e s):Fp (Rnd X P T call L f gZ nt B b n e s) (.n:PT X.Γ) (.ret (.norm,s')):=Fp.r (v:=(Ex.norm,s')) h
theorem Fp.goG{n:Nat}{e:Ex}{s s':aS X.Γ}(gs:List G)(h:dN X P T call L f gZ nt B b n s' e s):Fp (Rnd X P T call L f gZ nt B b n e s) (.a (.lg gs .norm ⟨[],[],[]⟩) .n:PT X.Γ) (.ret (.norm,s')):=Fp.g (v:=(Ex.norm,s')) gs h
theorem Fp.ex{n i:Nat}{s:aS X.Γ}:Fp (Rnd X P T call L f gZ nt B b n (.exit i) s) (.n:PT X.Γ) (.ret (.exit i,s)):=Fp.r (v:=(Ex.exit i,s)) ⟨rfl,rfl⟩
def cont(out:σ⊕ρ->Ex×aS X.Γ)(g:Nat->α->σ->σ⊕ρ)(l:List α)(i:Nat):σ⊕ρ->Ex×aS X.Γ
 |.inl s=>out (ni g l i s)
 |.inr r=>out (.inr r)
def Rn(X:l7)(P:Program)(T:qQ)(call:bf)(L f:Nat)(gZ:Bool)(nt B:Nat)(b:Code)(n:Nat){τ:Type}(K:τ->Ex×aS X.Γ)(x:τ):Ex×aS X.Γ->Prop:=Rnd X P T call L f gZ nt B b n (K x).1 (K x).2
section
variable {τ:Type} {K:τ->Ex×aS X.Γ} {n:Nat}
theorem Fp.ls{c:Bool}{t e:τ}{a d:PT X.Γ}{x y:OT (Ex×aS X.Γ)}(h1:Fp (Rn X P T call L f gZ nt B b n K t) a x)(h2:Fp (Rn X P T call L f gZ nt B b n K e) d y):Fp (Rn X P T call L f gZ nt B b n K (if c=true then t else e)) (.s a d) (.br c x y):=
 .s (fun h=>by subst h;exact h1) (fun h=>by subst h;exact h2)
theorem Fp.nx{x:τ}{s':aS X.Γ}(h:dN X P T call L f gZ nt B b n s' (K x).1 (K x).2):Fp (Rn X P T call L f gZ nt B b n K x) (.n:PT X.Γ) (.ret (.norm,s')):=Fp.r (v:=(Ex.norm,s')) h
theorem Fp.nxG{x:τ}{s':aS X.Γ}(gs:List G)(h:dN X P T call L f gZ nt B b n s' (K x).1 (K x).2):Fp (Rn X P T call L f gZ nt B b n K x) (.a (.lg gs .norm ⟨[],[],[]⟩) .n:PT X.Γ) (.ret (.norm,s')):=Fp.g (v:=(Ex.norm,s')) gs h
theorem Fp.ou{x:τ}(h:(K x).1≠.norm):Fp (Rn X P T call L f gZ nt B b n K x) (.n:PT X.Γ) (.ret (K x)):=by
 refine Fp.r ?_;unfold Rn Rnd;split
 .rename_i e;rw[e]at h;exact absurd rfl h
 rename_i e;rw[e];exact⟨rfl,rfl⟩
theorem Fp.ouG{x:τ}(gs:List G)(h:(K x).1≠.norm):Fp (Rn X P T call L f gZ nt B b n K x) (.a (.lg gs .norm ⟨[],[],[]⟩) .n:PT X.Γ) (.ret (K x)):=by
 refine Fp.g gs ?_;unfold Rn Rnd;split
 .rename_i e;rw[e]at h;exact absurd rfl h
 rename_i e;rw[e];exact⟨rfl,rfl⟩
end
theorem Xq{l:List α}(d:α){st:Int->σ->aS X.Γ}{g:Nat->α->σ->σ⊕ρ}{out:σ⊕ρ->Ex×aS X.Γ}{s0:σ}{w:aS X.Γ}(Inv:Nat->σ->Prop)(h0:gW X (T.eU f (dZ b)) w=st 0 s0)(hl:l.length<=ah)(hL:ah<L)(hi:Inv 0 s0)
  (hs:∀(k:Nat) (s:σ) (n:Nat),k<l.length->Inv k s->(∀s1,Inv (k+1) s1->dN X P T call L f gZ nt B b n (st (i64.wrap (k+1)) s1) (cont out g (l.drop (k+1)) (k+1) (.inl s1)).1 (cont out g (l.drop (k+1)) (k+1) (.inl s1)).2) ->
   dN X P T call L f gZ nt B b (n+1) (st k s) (cont out g (l.drop (k+1)) (k+1) (g k (l.getD k d) s)).1 (cont out g (l.drop (k+1)) (k+1) (g k (l.getD k d) s)).2)
  (ho:∀s,Inv l.length s->dN X P T call L f gZ nt B b 1 (st l.length s) (out (.inl s)).1 (out (.inl s)).2) :
  dS X P T call L f gZ nt B (.loop b) w (out (ni g l 0 s0)).1 (out (ni g l 0 s0)).2:=by
 have key:∀(m k:Nat) (s:σ),k+m=l.length->Inv k s->dN X P T call L f gZ nt B b (m+1) (st k s) (out (ni g (l.drop k) k s)).1 (out (ni g (l.drop k) k s)).2:=by
  intro m
  induction m with
  |zero=>
   intro k s hk hr;have:k=l.length:=(by omega);subst this;rw[List.drop_length];exact ho s hr
  |succ m ih=>
   intro k s hk hr;have aQ:k<l.length:=(by omega);have h1:=hs k s (m+1) aQ hr fun s1 h=>by
    have:=ih (k+1) s1 (by omega) h;rw[yF (by omega)];exact this
   have hd:l.getD k d=l[k]:=(by simp[List.getD,a0b aQ]);rw[a6p aQ];simp only[ni];rw[hd]at h1;cases hg:g k l[k] s with
   |inl s1=>rw[hg]at h1;exact h1
   |inr r=>rw[hg]at h1;exact h1
 exact zJ (key l.length 0 s0 (by omega) hi) h0 (by omega)
theorem kM{c:Code}{w:aS X.Γ}{R:σ⊕ρ}{out:σ⊕ρ->Ex×aS X.Γ}(h:dS X P T call L f gZ nt B c w (out R).1 (out R).2)(d:σ)(hR:jZ R=true):dS X P T call L f gZ nt B c w (out (.inl (aiK d R))).1 (out (.inl (aiK d R))).2:=by
 cases R with
 |inl s=>exact h
 |inr r=>cases hR
theorem kN{c:Code}{w:aS X.Γ}{R:σ⊕ρ}{out:σ⊕ρ->Ex×aS X.Γ}(h:dS X P T call L f gZ nt B c w (out R).1 (out R).2)(d:ρ)(hR:jZ R=false):dS X P T call L f gZ nt B c w (out (.inr (Dq d R))).1 (out (.inr (Dq d R))).2:=by
 cases R with
 |inl s=>cases hR
 |inr r=>exact h
end
def ZX{Γ:Nat->Type}:PE Γ->Bool
 |.val _=>true
 |_=>false
def uF{Γ:Nat->Type}(env:List (Nat×PE Γ)):List Nat->List (PV Γ)->List (Nat×PE Γ)
 |p::ps,v::vs=>uF ((p,.val v)::env) ps vs
 |_,_=>env
section
variable {X:l7} {P:Program} {T:qQ} {A W:Nat->Prop} {m m':List MB} {h h':List HB} {L f nt B:Nat}
theorem a6M{env:List (Nat×PE X.Γ)}{env':List (Nat×EV)}(he:ku X P A m h env env')(hv:(env.all fun p=>ZX p.2)=true):env'.all isVal=true:=by
 induction he with
 |nil=>rfl
 |cons h1 _ ih=>
  rename_i k v x r r' _;simp only[ac1,a1D]at hv ⊢;refine⟨?_,ih hv.2⟩;cases v with
  |val v=>obtain⟨y,rfl,_⟩:=fU h1;rfl
  |_=>simp[ZX]at hv
theorem SY:∀{ps:List Nat} {vs:List (PV X.Γ)} {xs:List TV} {env:List (Nat×PE X.Γ)} {env':List (Nat×EV)},ku X P A m h env env'->bY X P A m h vs xs->ku X P A m h (uF env ps vs) (sV env' ps xs)
 | [],vs,xs,_,_,he,hv=>by simpa[uF,sV]using he
 |p::ps,[],xs,_,_,he,hv=>by rw[hv.inv0];simpa[uF,sV]using he
 |p::ps,v::vs,xs,_,_,he,hv=>by
  obtain⟨x,r,rfl,h1,h2⟩:=hv.inv;simp only[uF,sV];exact SY (ku.cons (v:=.val v) (x:=.val x) h1 he) h2
theorem I7(hX:bP X P){n l:Nat}{xs:List (PV X.Γ)}{H:List (PB X.Γ)}{env:List (Nat×PE X.Γ)}{ps:List Nat}{uX body:Code}{jP:Option Code}{s1 s2:aS X.Γ}{e:Ex}
  {f' nt':Nat} {env':List (Nat×PE X.Γ)} {ps':List Nat} {a' b':Code} {acd:Option Code} {f'' af0:Nat} {acs:List (Nat×PE X.Γ)} {af2:List Nat} {a'' b'':Code}
  (hl:H[l]? = some (.loop true f nt env ps uX body jP)) (hlen:xs.length=ps.length) (hps:(ps.all fun p=>decide (p<nt))=true)
  (h1:dS X P T (lF P T L n) L f true nt H.length uX ⟨uF env ps xs,[],H⟩ .norm s1) (hl1:s1.heap[l]? = some (.loop true f' nt' env' ps' a' b' acd))
  (h2:dS X P T (lF P T L n) L f true nt H.length body { s1 with heap:=s1.heap.set l (.loop false f' nt' env' ps' a' b' none) } e s2)
  (Rq:s2.heap[l]? = some (.loop false f'' af0 acs af2 a'' b'' none)) :
  aW X P (lF P T L (n+1)) (.kZ l) xs H (.bool (pW e)) (s2.heap.set l (.loop (pW e) f'' af0 acs af2 a'' b'' (sW e))):=by
 intro A m h tf sJ hr hf hx;have aQ:l<H.length:=(a05.1 hl).1;obtain⟨mb,k1,k2⟩:=hr.at_ l _ hl;cases mb with
 |dF _=>exact k2.elim
 |jA _=>exact k2.elim
 |gone=>exact k2.elim
 |gu c=>
 obtain⟨te,k3,k4⟩:=k2;have G6:c∈bD m:=bg k1 rfl;cases hf with
 |gone hi Kw _=>simp only[bn,a04]at hi;subst hi;rw[k1]at Kw;cases Kw
 |kZ hy=>
 rw[k1]at hy;cases hy;have hS:SR X P A (fun b=>b∈bD m) h.length m ⟨uF env ps xs,[],H⟩ ⟨sV te ps sJ,[],h,[]⟩:=
  ⟨⟨hr,rfl,fun k cs hk=>by simp at hk,SY (env:=env) (env':=te) k4 hx⟩,fun b hb=>.inl hb,fun b hb=>(by cases hb),a0x _⟩
 obtain⟨t1,m1,x1,x2,x3,x4⟩:=h1 A _ _ m _ hS;have at1:∀{M:List MB} {S:aS X.Γ} {TS:St} {W:Nat->Prop} {rd:Bool} {f0 n0:Nat} {ee:List (Nat×PE X.Γ)} {pp:List Nat} {aa bb:Code} {pe:Option Code},SR X P A W h.length M S TS->MZ H.length m M->S.heap[l]? = some (.loop rd f0 n0 ee pp aa bb pe)->M[l]? = some (.gu c)∧∃te,TS.heap[c]? = some (.loop rd f0 n0 te pp aa bb pe)∧ku X P (AA A M) M TS.heap ee te:=by
  intro M S TS W rd f0 n0 ee pp aa bb pe hS hU hh;obtain⟨mb,j1,j2⟩:=hS.st.heap.at_ l _ hh;rcases hU l _ aQ k1 with e|e
  .rw[e]at j1;cases j1;obtain⟨te,j3,j4⟩:=j2;exact⟨e,te,j3,j4⟩
  .rw[e]at j1;cases j1;exact j2.elim
 have aiM:∀{M:List MB} {S:aS X.Γ} {TS:St} {W:Nat->Prop} {rd:Bool} {f0 n0:Nat} {ee:List (Nat×PE X.Γ)} {pp:List Nat} {aa bb:Code} {pe:Option Code} (rd':Bool) (pe':Option Code),SR X P A W h.length M S TS->MZ H.length m M->S.heap[l]? = some (.loop rd f0 n0 ee pp aa bb pe)->∃te,TS.heap[c]? = some (.loop rd f0 n0 te pp aa bb pe)∧HR X P A M (S.heap.set l (.loop rd' f0 n0 ee pp aa bb pe')) (TS.heap.set c (.loop rd' f0 n0 te pp aa bb pe'))∧Fr M TS.heap M (TS.heap.set c (.loop rd' f0 n0 te pp aa bb pe')):=by
  intro M S TS W rd f0 n0 ee pp aa bb pe rd' pe' hS hU hh;obtain⟨j1,te,j3,j4⟩:=at1 hS hU hh;obtain⟨s1,s2⟩:=hS.st.heap.set (i:=l) (c:=c) (pb:=.loop rd' f0 n0 ee pp aa bb pe') (hb:=.loop rd' f0 n0 te pp aa bb pe') j1 rfl (fun cs hc=>by unfold aV at hc;rw[j3]at hc;cases hc) (fun hF=>⟨te,by rw[a1u (a05.1 j3).1],j4.step hF .refl⟩);exact⟨te,j3,s1,s2⟩
 obtain⟨te1,y1,y2,y3⟩:=aiM false none x2 x4 hl1;have hS1:SR X P A (fun b=>b∈bD m) h.length m1 { s1 with heap:=s1.heap.set l (.loop false f' nt' env' ps' a' b' none) } { t1 with heap:=t1.heap.set c (.loop false f' nt' te1 ps' a' b' none),ws:=EJ h.length c t1.ws }:=by
  have q:=x2.st.step y2 y3 .refl;refine⟨⟨q.heap,q.llen,q.loc,q.env⟩,x2.own,fun b hb=>?_,a5e x2.fl y3.len⟩;rcases wz (ks:=[.h c]) hb with k|⟨k,_⟩
  .exact x2.ws b k
  .simp at k;subst k;exact G6
 obtain⟨t2,m2,z1,z2,z3,z4⟩:=h2 A _ _ m1 _ hS1;obtain⟨te2,u1,u2,u3⟩:=aiM (pW e) (sW e) z2 (x4.trans z4) Rq;have hF:=(x3.trans y3).trans (z3.trans u3);refine⟨.bool (pW e),t2.heap.set c (.loop (pW e) f'' af0 te2 af2 a'' b'' (sW e)),EJ h.length c t2.ws,m2,?_,u2,.bool _,hF,fun i mb hi=>(x4.trans z4) i mb ?_ hi,fun b hb=>?_⟩
 .have hl':sJ.length=ps.length:=by rw[<-hx.1,hlen]
  simp only[lF,ap,NP,k3,hl',hps,ad7,a2k,x1,y1,z1,u1]
 .rw[<-hr.len];exact(a05.1 hi).1
 .rcases wz (ks:=[.h c]) hb with k|⟨k,_⟩
  .exact z2.ws b k
  .simp at k;subst k;exact G6
abbrev gB(B:Nat):Nat->Option Nat:=fun i=>if i<B then some i else(wW [] i).map (·+B)
theorem zK{g:Nat->Option Nat}:∀{a:List (PV X.Γ)},(∀(i:Nat) x,a[i]? = some x->fK g x=some x)->fK.pR g a=some a
 | [],_=>rfl
 |c::cs,h=>by
  simp only[fK.pR,h 0 c rfl,zK (a:=cs) fun i x hi=>h (i+1) x (by simpa using hi)]
theorem I8{α β:Type}{a:List α}{b:List β}(hl:a.length=b.length){i:Nat}{x:α}(hi:a[i]? = some x):∃y,b[i]? = some y:=by
 have:i<b.length:=by rw[<-hl];exact(a05.1 hi).1
 exact⟨b[i],a0b this⟩
theorem V9{v:PV X.Γ}{x:TV}(hv:VR X P A m h v x){B:Nat}(hB:m.length<=B):fK (gB B) v=some v:=by
 have key:∀{b:Nat} {mb:MB},m[b]? = some mb->gB B b=some b:=fun e=>by
  have:=(a05.1 e).1;simp only[gB];rw[a0u (by omega)]
 induction hv with
 |bool=>rfl
 |lit=>rfl
 |int=>rfl
 |str=>rfl
 |nil=>rfl
 |ptr e=>simp only[fK,key e,a0B]
 |slc e=>simp only[fK,key e,a0B]
 |own e _=>simp only[fK,key e,a0B]
 |win e _ _=>simp only[fK,key e,a0B]
 |AL e=>simp only[fK,key e,a0B]
 |map e=>simp only[fK,key e,a0B]
 |iter e=>simp only[fK,key e,a0B]
 |kZ e=>simp only[fK,key e,a0B]
 |row e _ _=>simp only[fK,key e,a0B]
 |pz=>rfl
 |dF=>rfl
 |el=>rfl
 |fn h1 _ h3 _ i2 i4=>
  simp only[fK];rw[zK fun i x hi=>let ⟨y,hy⟩:=I8 h1 hi;i2 i x y hi hy,zK fun i x hi=>let ⟨y,hy⟩:=I8 h3 hi;i4 i x y hi hy]
 |agg h1 _ i2=>simp only[fK];rw[zK fun i x hi=>let ⟨y,hy⟩:=I8 h1 hi;i2 i x y hi hy];rfl
 |dM h1 _ i2=>simp only[fK];rw[zK fun i x hi=>let ⟨y,hy⟩:=I8 h1 hi;i2 i x y hi hy];rfl
 | @gone v i x hi e _=>
  have:=key (b:=i) (mb:=(m[i]?).getD .gone) (by cases q:m[i]? with|none=>rw[q]at e;cases e|some y=>rfl);cases v<;>simp only[bn,a04]at hi<;>first|(subst hi;simp only[fK,this,a0B])|cases hi
theorem a1B{v:List (PV X.Γ)}{x:List TV}(hv:bY X P A m h v x){B:Nat}(hB:m.length<=B):fK.pR (gB B) v=some v:=
 zK fun i a hi=>let ⟨y,hy⟩:=I8 hv.1 hi;V9 (hv.2 i a y hi hy) hB
theorem a6N{v:List (Nat×PE X.Γ)}{x:List (Nat×EV)}(hv:ku X P A m h v x){B:Nat}(hB:m.length<=B):pO (gB B) v=some v:=by
 induction hv with
 |nil=>rfl
 |cons h1 _ ih=>
  rename_i k v x r r' _;simp only[pO,ih];cases v with
  |val v=>obtain⟨y,rfl,h2⟩:=fU h1;simp only[OD,V9 h2 hB,a0B]
  |ent r j v=>
   obtain⟨c,y,rfl,h2,_⟩:=MR h1;have:=V9 h2 hB;simp only[fK,a07,PV.map.injEq,exists_eq_right]at this;simp only[OD,this,a0B]
  |EI r j=>
   obtain⟨c,rfl,h2⟩:=MS h1;have:=V9 h2 hB;simp only[fK,a07,PV.map.injEq,exists_eq_right]at this;simp only[OD,this,a0B]
  |_=>rfl
theorem aak{b:PB X.Γ}{mb:MB}(hb:BR X P A m h b mb){B:Nat}(hB:m.length<=B):zF (gB B) b=some b:=by
 cases b with
 |cells cs=>
  cases mb with
  |gu c=>obtain⟨_,_,h2⟩:=hb;simp only[zF,a1B h2 hB,a0B]
  |_=>exact hb.elim
 |aF cs=>
  cases mb with
  |jA c=>obtain⟨_,_,_,h2⟩:=hb;simp only[zF,a1B h2 hB,a0B]
  |_=>exact hb.elim
 |map es=>rfl
 |dn r n seen=>
  cases mb with
  |gu c=>
   obtain⟨_,_,h2,_⟩:=hb;obtain⟨mb,h3⟩:=a5g.1 h2;have aQ:r<B:=a9m (a05.1 h3).1 hB;have:gB B r=some r:=(by simp[gB,aQ]);simp only[zF,this,a0B]
  |_=>exact hb.elim
 |loop=>
  cases mb with
  |gu c=>obtain⟨_,_,h2⟩:=hb;simp only[zF,a6N h2 hB,a0B]
  |_=>exact hb.elim
 |_=>rfl
theorem Xr{B:Nat}:∀{H:List (PB X.Γ)},(∀(i:Nat) b,H[i]? = some b->zF (gB B) b=some b)->o8 (gB B) H=some H
 | [],_=>rfl
 |c::cs,h=>by
  simp only[o8,h 0 c rfl,Xr (H:=cs) fun i x hi=>h (i+1) x (by simpa using hi)]
theorem aW.drop(hX:bP X P){call:bf}{fv:PV X.Γ}{xs:List (PV X.Γ)}{H H1:List (PB X.Γ)}{v:PV X.Γ}(hs:aW X P call fv xs H v H1)(h1:H1.take H.length=H)(hv:fK (gB H.length) v=some v):aW X P call fv xs H v H:=by
 intro A m h tf sJ hr hf hx;obtain⟨w,h',ws,m1,c1,c2,c3,c4,c5,c6⟩:=hs A m h tf sJ hr hf hx;have hg:lN H.length [.gc []] (⟨[(0,.val v)],[],H1⟩:aS X.Γ)=some ⟨[(0,.val v)],[],H⟩:=by
  have hb:o8 (gB H.length) H=some H:=Xr fun i b hi=>let ⟨mb,_,h2⟩:=hr.at_ i b hi;aak h2 (agZ hr.len)
  have hl:H.length<=H1.length:=by have:=congrArg List.length h1;simp at this;omega
  have e:pO (gB H.length) [(0,PE.val v)]=some [(0,.val v)]:=by simp only[pO,OD,hv,a0B]
  have qR:o8 (fun i=>if i<H.length then some i else(wW [] i).map (·+H.length)) H=some H:=hb;have e':pO (fun i=>if i<H.length then some i else(wW [] i).map (·+H.length)) [(0,PE.val v)]=some [(0,.val v)]:=e;simp only[lN,BM,List.all_nil,a5v,decide_true,Bool.and_self,adB,hl,a2k,e',X6,h1,qR,Dc,o8,a5R]
 obtain⟨m2,q1,q2,q3⟩:=nM hX hg A (fun _=>True) 0 m1 ⟨[(0,.val w)],[],h',[]⟩ ⟨⟨c2,rfl,fun k cs hk=>by simp at hk,.cons c3 .nil⟩,fun b _=>.inl trivial,fun b hb=>(by cases hb),a4Y _⟩;obtain⟨w',e1,e2⟩:=pF q1.st.env (t:=0) (v:=.val v) rfl;simp only[dR,a2k,a04]at e1;subst e1;refine⟨w,h',ws,m2,c1,q1.st.heap,e2,c4.trans q2,fun i mb hi=>?_,c6⟩;have aQ:i<H.length:=by rw[<-hr.len];exact(a05.1 hi).1
 rcases c5 i mb hi with g|g
 .exact q3 i mb aQ g
 rcases q3 i _ aQ g with g|g<;>exact .inr g
end
section
variable {X:l7} {P:Program}
theorem aW.frame(hX:bP X P){call:bf}{ks:List Nat}{H' Hp H H1 Qy:List (PB X.Γ)}{fv fv' v v':PV X.Γ}{xs xs':List (PV X.Γ)}(hs:aW X P call fv xs H v H1)
  (jH:ks.Nodup) (hp:Dc H' ks=some Hp) (hH:o8 (wW ks) Hp=some H) (hf:fK (wW ks) fv'=some fv) (hx:fK.pR (wW ks) xs'=some xs)
  (hv:fK (bk ks H'.length) v=some v') (hH1:o8 (bk ks H'.length) H1=some Qy) (hro:Jd (H1.drop ks.length)=true) :
  aW X P call fv' xs' H' v' (putAt ks Qy H'++Qy.drop ks.length):=fun A m' h tf sJ hr hf' FH=>by
 obtain⟨w,h1,ws,m1,c1,c2,c3,c4,c5,c6⟩:=Jk hX hs.w jH hp hH hf hx hv hH1 hro A m' h tf sJ hr hf' FH;exact⟨w,h1,ws,m1,c1,c2,c3,c4,c5,fun b hb=>by obtain⟨_,k,_,_,mb,h8,h9⟩:=c6 b hb;exact bg h8 h9⟩
end
def itF{σ ρ:Type}(g:σ->σ⊕ρ):Nat->σ->Option ρ
 | 0,_=>none
 |k+1,s=>match g s with
  |.inl s1=>itF g k s1
  |.inr r=>some r
section
variable {X:l7} {P:Program} {T:qQ} {L:Nat} {f nt B:Nat} {gZ:Bool} {call:bf} {b:Code} {σ ρ:Type}
def Du(out:ρ->Ex×aS X.Γ)(r:ρ):σ⊕ρ->Ex×aS X.Γ
 |.inl _=>out r
 |.inr r'=>out r'
theorem a6O{st:σ->aS X.Γ}{g:σ->σ⊕ρ}{out:ρ->Ex×aS X.Γ}(Inv:σ->Prop)(hi:∀s s1,Inv s->g s=.inl s1->Inv s1)
  (hs:∀s n r,Inv s->(∀s1,g s=.inl s1->dN X P T call L f gZ nt B b n (st s1) (out r).1 (out r).2)->dN X P T call L f gZ nt B b (n+1) (st s) (Du out r (g s)).1 (Du out r (g s)).2) :
  ∀{k:Nat} {s:σ} {r:ρ},Inv s->itF g k s=some r->dN X P T call L f gZ nt B b k (st s) (out r).1 (out r).2
 | 0,s,r,_,h=>by cases h
 |k+1,s,r,hv,h=>by
  simp only[itF]at h;have h1:=hs s k r hv fun s1 h1=>by
   rw[h1]at h;exact a6O Inv hi hs (hi s s1 hv h1) h
  cases hg:g s with
  |inl s1=>rw[hg]at h1;exact h1
  |inr r'=>rw[hg]at h1 h;simp only[a04]at h;subst h;exact h1
theorem af4{st:σ->aS X.Γ}{g:σ->σ⊕ρ}{out:ρ->Ex×aS X.Γ}(Inv:σ->Prop){k:Nat}{s:σ}{r:ρ}{w:aS X.Γ}(hr:itF g k s=some r)(h0:gW X (T.eU f (dZ b)) w=st s)(hk:k<=L)(hv:Inv s)(hi:∀s s1,Inv s->g s=.inl s1->Inv s1)
  (hs:∀s n r,Inv s->(∀s1,g s=.inl s1->dN X P T call L f gZ nt B b n (st s1) (out r).1 (out r).2)->dN X P T call L f gZ nt B b (n+1) (st s) (Du out r (g s)).1 (Du out r (g s)).2) :
  dS X P T call L f gZ nt B (.loop b) w (out r).1 (out r).2:=zJ (a6O Inv hi hs hv hr) h0 hk
end
section
variable {X:l7} {P:Program} {T:qQ} {L:Nat}
def ZY{α:Type}(f:FuncId)(a:V8 X P α)(v:α->PV X.Γ)(ext:α->List (PB X.Γ))(pre:α->List Prop)(fM:fA X.Γ):fA X.Γ:=fun g vs=>
 match Nat.beq g f with
 |true=>match a.get vs with
  |some x=>some (v x,ext x,pre x)
  |none=>fM g vs
 |false=>fM g vs
theorem Good.Xt{α:Type}{f:FuncId}{a:V8 X P α}{v:α->PV X.Γ}{ext:α->List (PB X.Γ)}{pre:α->List Prop}{fM:fA X.Γ}(d:Nat)(hg:Good X P T L fM)
  (hf:∀n,d<=n->(∀m,n-d<=m->jM X P (lF P T L m) fM)->∀x,(∀p∈pre x,p)->oN X P (lF P T L (n+1)) f (a.put x) (v x) (ext x)):Good X P T L (ZY f a v ext pre fM):=by
 obtain⟨N,hN⟩:=hg;refine⟨N+d+1,fun n hn=>?_⟩;obtain⟨k,rfl⟩:∃k,n=k+1:=⟨n-1,by omega⟩;intro g vs v ext ps ho hp;unfold ZY at ho;split at ho
 .rename_i e;have e:=a9d e;subst e;split at ho
  .rename_i x hx;cases ho;intro A h first args cap IL hv
   exact hf k (by omega) (fun m hm=>hN m (by omega)) x hp A h first args cap IL (a.ok hx hv)
  .exact hN (k+1) (by omega) g vs v ext ps ho hp
 .exact hN (k+1) (by omega) g vs v ext ps ho hp
def IsE(v:PV X.Γ)(H:List (PB X.Γ)):PV X.Γ×List (PB X.Γ)->Prop:=fun y=>y=(v,H)
theorem Fp.er{v:PV X.Γ}{H:List (PB X.Γ)}:Fp (IsE v H) (.n:PT X.Γ) (.ret (v,H)):=.r rfl
theorem BO(hX:bP X P){n f:Nat}{fM:fA X.Γ}(hO:jM X P (lF P T L n) fM){vs:List (PV X.Γ)}{an:PT X.Γ}{v:PV X.Γ}{H:List (PB X.Γ)}{o:OT (PV X.Γ×List (PB X.Γ))}
  (hk:Df X P T fM (aW X P (lF P T L n)) (BN X P T (lF P T L n) L f 0) L f vs [] an=o) (ht:Fp (IsE v H) an o):oN X P (lF P T L (n+1)) f vs v H:=by
 obtain⟨y,h1,h2⟩:=ht.aI;cases h2;rw[<-hk]at h1;exact ZW hX (n:=n+1) (by omega) hO h1
end
section
variable {X:l7} {P:Program} {T:qQ} {L:Nat}
theorem rU(hX:bP X P){n f:Nat}{fM:fA X.Γ}(hO:jM X P (lF P T L n) fM){first xs cap:List (PV X.Γ)}{H H1:List (PB X.Γ)}{v:PV X.Γ}{an:PT X.Γ}{o:OT (PV X.Γ×List (PB X.Γ))}
  (hk:Df X P T fM (aW X P (lF P T L n)) (BN X P T (lF P T L n) L f H.length) L f (first++xs++cap) H an=o) (ht:Fp (IsE v H1) an o):aW X P (lF P T L (n+1)) (.fn f first cap) xs H v H1:=by
 obtain⟨y,h1,h2⟩:=ht.aI;cases h2;rw[<-hk]at h1;exact a6I hX (n:=n+1) (by omega) hO h1
end
theorem Good.Xu{X:l7}{P:Program}{T:qQ}{L:Nat}{α β:Type}{f:FuncId}{a:V8 X P α}{r:Ar X P β}{S:α->β}{pre:α->List Prop}{fM Xv:fA X.Γ}(d:Nat)(hg:Good X P T L fM)(hg2:Good X P T L Xv)
  (hf:∀n,d<=n->(∀m,n-d<=m->jM X P (lF P T L m) fM)->(∀m,n-d<=m->jM X P (lF P T L m) Xv)->∀x,(∀p∈pre x,p)->oN X P (lF P T L (n+1)) f (a.put x) (r.put (S x)) []):Good X P T L (cO f a r S pre fM):=by
 obtain⟨N2,hN2⟩:=hg2;obtain⟨M,hM⟩:=hg;refine⟨M+N2+d+1,fun n hn=>?_⟩;obtain⟨k,rfl⟩:∃k,n=k+1:=⟨n-1,by omega⟩;intro g vs v ext ps ho hp;unfold cO at ho;split at ho
 .rename_i e;have e:=a9d e;subst e;split at ho
  .rename_i x hx;cases ho;intro A h first args cap IL hv
   exact hf k (by omega) (fun m hm=>hM m (by omega)) (fun m hm=>hN2 m (by omega)) x hp A h first args cap IL (a.ok hx hv)
  .exact hM (k+1) (by omega) g vs v ext ps ho hp
 .exact hM (k+1) (by omega) g vs v ext ps ho hp
section
variable {X:l7} {P:Program}
theorem aW.gs(hX:bP X P){call:bf}{fv:PV X.Γ}{xs:List (PV X.Γ)}{H H1 H2:List (PB X.Γ)}{v v':PV X.Γ}(hs:aW X P call fv xs H v H1)(gs:List G)(hg:lN H.length gs (⟨[(0,.val v)],[],H1⟩:aS X.Γ)=some ⟨[(0,.val v')],[],H2⟩):aW X P call fv xs H v' H2:=by
 intro A m h tf sJ hr hf hx;obtain⟨w,h',ws,m1,c1,c2,c3,c4,c5,c6⟩:=hs A m h tf sJ hr hf hx;obtain⟨m2,q1,q2,q3⟩:=nM hX hg A (fun _=>True) 0 m1 ⟨[(0,.val w)],[],h',[]⟩ ⟨⟨c2,rfl,fun k cs hk=>by simp at hk,.cons c3 .nil⟩,fun b _=>.inl trivial,fun b hb=>(by cases hb),a4Y _⟩;obtain⟨w',e1,e2⟩:=pF q1.st.env (t:=0) (v:=.val v') rfl;simp only[dR,a2k,a04]at e1;subst e1;refine⟨w,h',ws,m2,c1,q1.st.heap,e2,c4.trans q2,fun i mb hi=>?_,c6⟩;have aQ:i<H.length:=by rw[<-hr.len];exact(a05.1 hi).1
 rcases c5 i mb hi with g|g
 .exact q3 i mb aQ g
 rcases q3 i _ aQ g with g|g<;>exact .inr g
theorem aW.cut(hX:bP X P){call:bf}{fv:PV X.Γ}{xs:List (PV X.Γ)}{H H1 H2:List (PB X.Γ)}{v:PV X.Γ}(hs:aW X P call fv xs H v H1)(h1:H1.take H.length=H2)(hb:o8 (gB H.length) H2=some H2)(hl:decide (H.length<=H1.length)=true)(hv:fK (gB H.length) v=some v):aW X P call fv xs H v H2:=by
 intro A m h tf sJ hr hf hx;obtain⟨w,h',ws,m1,c1,c2,c3,c4,c5,c6⟩:=hs A m h tf sJ hr hf hx;have hl:=a7e hl;have hg:lN H.length [.gc []] (⟨[(0,.val v)],[],H1⟩:aS X.Γ)=some ⟨[(0,.val v)],[],H2⟩:=by
  have e:pO (gB H.length) [(0,PE.val v)]=some [(0,.val v)]:=by simp only[pO,OD,hv,a0B]
  have qR:o8 (fun i=>if i<H.length then some i else(wW [] i).map (·+H.length)) H2=some H2:=hb;have e':pO (fun i=>if i<H.length then some i else(wW [] i).map (·+H.length)) [(0,PE.val v)]=some [(0,.val v)]:=e;simp only[lN,BM,List.all_nil,a5v,decide_true,Bool.and_self,adB,hl,a2k,e',X6,h1,qR,Dc,o8,a5R]
 obtain⟨m2,q1,q2,q3⟩:=nM hX hg A (fun _=>True) 0 m1 ⟨[(0,.val w)],[],h',[]⟩ ⟨⟨c2,rfl,fun k cs hk=>by simp at hk,.cons c3 .nil⟩,fun b _=>.inl trivial,fun b hb=>(by cases hb),a4Y _⟩;obtain⟨w',e1,e2⟩:=pF q1.st.env (t:=0) (v:=.val v) rfl;simp only[dR,a2k,a04]at e1;subst e1;refine⟨w,h',ws,m2,c1,q1.st.heap,e2,c4.trans q2,fun i mb hi=>?_,c6⟩;have aQ:i<H.length:=by rw[<-hr.len];exact(a05.1 hi).1
 rcases c5 i mb hi with g|g
 .exact q3 i mb aQ g
 rcases q3 i _ aQ g with g|g<;>exact .inr g
end
section
variable {X:l7} {P:Program} {T:qQ} {L f nt B:Nat} {gZ:Bool} {call:bf} {fM:fA X.Γ}
theorem yG(hX:bP X P)(hO:jM X P call fM){c:Code}{ps ps1:aS X.Γ}{an:PT X.Γ}{e:Ex}{o:OT (Ex×aS X.Γ)}
  (hk:jS X P T fM (aW X P call) (dS X P T call L f gZ nt B) B L f gZ nt c ps an aeV=o) (ht:Fp (fun y=>y=(e,ps1)) an o):dS X P T call L f gZ nt B c ps e ps1:=by
 obtain⟨y,h1,rfl⟩:=ht.aI;rw[<-hk]at h1;exact Xo hX hO h1
theorem Fp.xx{y:Ex×aS X.Γ}:Fp (fun z=>z=y) (.n:PT X.Γ) (.ret y):=.r rfl
end
theorem aW.forget{X:l7}{P:Program}{call:bf}{fv:PV X.Γ}{xs:List (PV X.Γ)}{H H1:List (PB X.Γ)}{v:PV X.Γ}(hs:aW X P call fv xs H v H1)(i:Nat):aW X P call fv xs H v (H1.set i .gone):=by
 intro A m h tf sJ hr hf hx;obtain⟨w,h',ws,m1,c1,c2,c3,c4,c5,c6⟩:=hs A m h tf sJ hr hf hx;have hg:=c2.aZ [i];have hf2:=iE (h:=h') [i] m1;exact⟨w,h',ws,_,c1,hg,c3.step hf2.1 hf2.2,c4.trans hf2.1,c5.trans hf2.2,c6⟩
theorem rV{X:l7}{P:Program}(hX:bP X P){call:bf}{fM:fA X.Γ}(hO:jM X P call fM){f:FuncId}{first xs cap vs:List (PV X.Γ)}{v:PV X.Γ}{ps:List Prop}{H:List (PB X.Γ)}(hv:views H (first++xs++cap)=some vs)(ho:fM f vs=some (v,[],ps))(hp:∀p∈ps,p)(hl:xU v=true) :
  aW X P call (.fn f first cap) xs H (shift H.length v) (aZ (lu.kH (first++xs++cap)) H):=by
 intro A m h tf sJ hr hf hx;cases hf with
 |gone hi _ _=>simp[bn]at hi
 |fn p1 p2 p3 p4=>
  obtain⟨w,h1,m1,e1,e2,e3,e4,e5⟩:=HY hX (hO f vs v [] ps ho hp) hr hv (ext':=[]) rfl ⟨p1,p2⟩ hx ⟨p3,p4⟩;simp only[hl,List.any_nil,Bool.true_or,a2k,a5R]at e2;exact⟨w,h1,[],m1,e1,e2,e3,e4,e5,fun b hb=>by cases hb⟩
section
variable {X:l7} {P:Program} {A:Nat->Prop} {m:List MB} {h:List HB}
theorem VR.a1C{k:IntKind}{n:Int}{y:TV}(hy:VR X P A m h (.int k n) y):y=.int k n:=by
 cases hy with
 |int=>rfl
 |gone hi _ _=>simp[bn]at hi
theorem VR.Va{f:FuncId}{y:TV}(hy:VR X P A m h (.fn f [] []) y):y=.fn f [] []:=by
 cases hy with
 |gone hi _ _=>simp[bn]at hi
 |fn p1 _ p3 _=>rw[a4a p1.symm,a4a p3.symm]
theorem af5{k ex:Bool}{t:Nat}{l:List (X.Γ t)}{x:TV}(hl:LR X P A m h k ex t l x):(l=[]∧x=.nil .slc)∨(l=[]∧∃b off sz cs,x=.slc b off 0 0 sz true∧A b∧aV h b=some cs∧off<=cs.length∧dG P t=some sz∧0<sz) ∨
  (l≠[]∧∃b sz e kk cs,x=.slc b 0 l.length l.length sz e∧dG P t=some sz∧0<sz∧h[b]? = some (.cells kk cs)∧kk≠.ro∧(k=true->kk=.own)∧(ex=true->e=true)∧cs.length=l.length*sz∧eG X P A m h t l cs 0 sz):=by
 cases hl with
 |nil=>exact .inl ⟨rfl,rfl⟩
 |emp p0 p1 p2 p3 p4=>exact .inr (.inl ⟨rfl,_,_,_,_,rfl,p0,p1,p2,p3,p4⟩)
 |some p1 p2 p3 p4 p5 p6 p7 p8 p9=>exact .inr (.inr ⟨p1,_,_,_,_,_,rfl,p2,p3,p4,p5,p6,p7,p8,p9⟩)
theorem aam{H:List (PB X.Γ)}{i:Nat}{x:TV}{k ex:Bool}{t:Nat}{l:List (X.Γ t)}(hr:HR X P A m H h)(hi:H[i]? = some (.list k ex t l))(hv:VR X P (AA A m) m h (.own i) x):m[i]? = some (.dF x)∧LR X P (AA A m) m h k ex t l x:=by
 obtain⟨mb,g1,g2⟩:=hr.at_ i _ hi;cases hv with
 |own e _=>
  rw[g1]at e;cases e;exact⟨g1,g2⟩
 |gone Kw e _=>
  simp only[bn,a04]at Kw;subst Kw;rw[g1]at e;cases e<;>exact g2.elim
end
section
variable {X:l7} {P:Program}
theorem oN.gs(hX:bP X P){call:bf}{f:FuncId}{vs:List (PV X.Γ)}{v v':PV X.Γ}{ext ext':List (PB X.Γ)}(hc:oN X P call f vs v ext)(gs:List G)(hg:lN 0 gs (⟨[(0,.val v)],[],ext⟩:aS X.Γ)=some ⟨[(0,.val v')],[],ext'⟩):oN X P call f vs v' ext':=by
 intro A h first args cap IL hv
 obtain⟨w,h',m',c1,c2,c3,c4⟩:=hc A h first args cap IL hv
 obtain⟨m2,q1,q2,q3⟩:=nM hX hg A (fun _=>True) 0 m' ⟨[(0,.val w)],[],h',[]⟩ ⟨⟨c2,rfl,fun k cs hk=>by simp at hk,.cons c3 .nil⟩,fun b _=>.inl trivial,fun b hb=>(by cases hb),a4Y _⟩;obtain⟨w',e1,e2⟩:=pF q1.st.env (t:=0) (v:=.val v') rfl;simp only[dR,a2k,a04]at e1;subst e1;exact⟨w,h',m2,c1,q1.st.heap,e2,c4.trans q2⟩
theorem a6P{A:Nat->Prop}{m:List MB}{h:List HB}{t:Nat}{fu:Bool}{x:TV}(hv:VR X P A m h (.dF t [] fu) x):x=.nil .slc∨∃b off cap sz ex cs,x=.slc b off 0 cap sz ex∧A b∧aV h b=some cs∧dG P t=some sz∧0<sz∧off<=cs.length:=by
 generalize hl:([]:List (X.Γ t))=l at hv;cases hv with
 |pz=>exact .inl rfl
 |dF a c c2 s z o k f e r=>
  subst hl;exact .inr ⟨_,_,_,_,_,_,rfl,a,c,s,z,by simpa using o⟩
 |gone hi _ _=>simp[bn]at hi
theorem Xw{A:Nat->Prop}{h:List HB}{t:Nat}{x:TV}(IL:∀b,h.length<=b->A b)(hx:LR X P (AA A [.dF x]) [.dF x] h false false t [] x)(ho:(MB.dF x).own=none):HR X P A [.dF x] [.list false false t []] h:=by
 have hb:bD [MB.dF x]=[]:=by simp[bD,ho]
 refine⟨rfl,fun i b hi=>?_,by rw[hb];exact a5v,IL,fun b qR=>by rw[hb]at qR;cases qR⟩;cases i with
 |zero=>simp only[a2F,a04]at hi;subst hi;exact⟨.dF x,rfl,hx⟩
 |succ i=>simp at hi
end
end Pv
namespace Go.Proofs.YtmobpoiejckagaaGreat
open Go Tw
structure B where
 lo:Int
 hi:Int
 f:Int
 deriving DecidableEq
structure O where
 code:Int
 a:Int
 b:Int
 c:Int
 n:Int
 deriving DecidableEq
structure K where
 name:ByteArray
 lo:Int
 hi:Int
structure V where
 f:Int
 n:Int
 deriving DecidableEq
abbrev B0:B:=⟨0,0,0⟩
abbrev O0:O:=⟨0,0,0,0,0⟩
abbrev K0:K:=⟨ByteArray.empty,0,0⟩
abbrev V0:V:=⟨0,0⟩
def ql(g:Int->Bool)(i:Nat)(x:Int)(s:Unit):(Unit)⊕(Nat×Int×(Unit)):=
 if(g x)=true then .inr (i,x,s)else .inl ()
def rW(g:Int->Bool)(l:List Int):Int:=
 if(jZ (ni (ql g) l 0 ()))=true then -1 else(((Dq (0,0,()) (ni (ql g) l 0 ())).1:Int))
def nG(g:Int->Bool)(l:List Int):Bool:=
 decide ((rW g l)>=0)
theorem a6Q(g:Int->Bool):∀(l:List Int) (i:Nat),jZ (ni (ql g) l i ())=!(l.any g)
 | [],i=>rfl
 |x::l,i=>by
  simp only[ni,ql,adD];cases g x with
  |true=>rfl
  |false=>simpa using a6Q g l (i+1)
theorem Ep(g:Int->Bool)(l:List Int):nG g l=l.any g:=by
 have:=a6Q g l 0;unfold nG rW;rw[this];cases l.any g with
 |true=>simp
 |false=>simp
def wB(x:Int)(lo:Int)(hi:Int):Bool:=
 if(decide ((x)<(lo)))=true then true else decide ((x)>(hi))
def nH(l:List Int)(lo:Int)(hi:Int):Bool:=
 !(l.any ((fun x=>wB x lo hi)))
theorem wrap_small{z:Int}(h0:-(2^62)<=z)(h1:z<2^62):i64.wrap z=z:=by
 simp only[IntKind.wrap,IntKind.bits,IntKind.signed];rcases Int.lt_or_le z 0 with h|h
 .have:z%(2^64:Int)=z+2^64:=by
   have:=ac3 z (2^64) 1;rw[acj]at this;rw[<-this];exact a8g (by omega) (by omega)
  simp only[this];rw[a0u (by simp;omega)];omega
 have:z%(2^64:Int)=z:=a8g h (by omega);simp only[this];rw[a0o (by simp;omega)]
def nS(k:Int)(least:Int)(ah:Int):Bool:=
 if(decide ((k)>=(least)))=true then decide ((k)<=(ah))else false
def fE(k:Int):V:=
 (⟨0,k⟩:V)
def lS(f:Int):V:=
 (⟨f,0⟩:V)
def rX(is:Bool):V:=
 if is=true then fE 1 else fE 0
def qA(k:Int):V:=
 if(decide ((k)<(-9999)))=true then lS 2 else if(decide ((k)>9999))=true then lS 2 else fE k
def Jl(a:V)(b:V)(c:V):V:=
 if(decide ((a.f)>0))=true then a else if((a.n)==0)=true then c else b
def gK(a b:Int):Int:=if b<0 then(-a)/(-b)else a/b
def bI(code:Int)(a:V)(b:V):V:=
 if(decide ((a.f)>0))=true then a else if((code)==15)=true then if((a.n)==0)=true then a else if((code)==16)=true then if((a.n) != 0)=true then fE 1 else b else b else if((code)==16)=true then if((a.n) != 0)=true then fE 1 else b else if(decide ((b.f)>0))=true then b else if((code)==7)=true then qA (i64.wrap ((a.n)+(b.n)))else if((code)==8)=true then qA (i64.wrap ((a.n)-(b.n)))else if((code)==9)=true then qA (i64.wrap ((a.n)*(b.n)))else if((code)==12)=true then rX ((a.n)==(b.n))else if((code)==13)=true then rX (decide ((a.n)<(b.n)))else if((code)==14)=true then rX (decide ((a.n)<=(b.n)))else if((b.n)==0)=true then lS 1 else if((code)==10)=true then fE (gK (a.n) (b.n))else fE (i64.wrap ((a.n)-(i64.wrap ((b.n)*(gK (a.n) (b.n))))))
def jC(g:V->Bool)(i:Nat)(x:V)(s:Unit):(Unit)⊕(Nat×V×(Unit)):=
 if(g x)=true then .inr (i,x,s)else .inl ()
def iM(g:V->Bool)(l:List V):Int:=
 if(jZ (ni (jC g) l 0 ()))=true then -1 else(((Dq (0,V0,()) (ni (jC g) l 0 ())).1:Int))
def qB(g:V->Bool)(l:List V):Bool:=
 decide ((iM g l)>=0)
theorem a6R(g:V->Bool):∀(l:List V) (i:Nat),jZ (ni (jC g) l i ())=!(l.any g)
 | [],i=>rfl
 |x::l,i=>by
  simp only[ni,jC,adD];cases g x with
  |true=>rfl
  |false=>simpa using a6R g l (i+1)
theorem Jm(g:V->Bool)(l:List V):qB g l=l.any g:=by
 have:=a6R g l 0;unfold qB iM;rw[this];cases l.any g with
 |true=>simp
 |false=>simp
theorem Tc(g:V->Bool):∀(l:List V) (i:Nat),jZ (ni (jC g) l i ())=false->(Dq (0,V0,()) (ni (jC g) l i ())).1<i+l.length∧l[(Dq (0,V0,()) (ni (jC g) l i ())).1-i]? = l.find? g∧i<=(Dq (0,V0,()) (ni (jC g) l i ())).1
 | [],i,h=>by cases h
 |x::l,i,h=>by
  simp only[ni,jC]at h ⊢;by_cases hx:g x=true
  .simp only[hx,a2k,Dq,a4v,ah1];refine⟨by omega,by simp,by omega⟩
  simp only[ae1]at hx;simp only[hx,a2u,a3q,a4v,ah1]at h ⊢;obtain⟨h1,h2,h3⟩:=Tc g l (i+1) h;refine⟨by omega,?_,by omega⟩;rw[<-h2,show(Dq (0,V0,()) (ni (jC g) l (i+1) ())).1-i=((Dq (0,V0,()) (ni (jC g) l (i+1) ())).1-(i+1))+1 by omega];simp
theorem QO(g:V->Bool)(l:List V):iM g l<l.length:=by
 unfold iM;split
 .omega
 rename_i h;have:=(Tc g l 0 (by simpa using h)).1;omega
def Vb(x:Int):Bool:=
 (x) != (x)
def Jo(x:Int)(y:Int):Int:=
 if(decide ((x)<(y)))=true then -1 else if(decide ((x)>(y)))=true then 1 else 0
def I9(f:Int):V:=
 (⟨f,0⟩:V)
def tY(x:Int)(lo:Int)(hi:Int):Bool:=
 if(decide ((x)<(lo)))=true then true else decide ((x)>(hi))
def wC(l:List Int)(lo:Int)(hi:Int):Bool:=
 !(l.any ((fun x=>tY x lo hi)))
def xq(v:V):Bool:=
 if((v.f)==0)=true then wC (([v.n]:List Int)) (-9999) 9999 else if(decide ((v.f)<=4))=true then(v.n)==0 else false
def ny(k:Int):V:=
 if(!(wC (([k]:List Int)) (-9999) 9999))=true then I9 2 else(⟨0,k⟩:V)
def P7(is:Bool):V:=
 if is=true then ny 1 else ny 0
def oD(v:V):Bool:=
 (v.f) != 0
def AY(v:V):Bool:=
 !(xq v)
def bQ(l:List V):V×Bool:=
 if(decide ((iM ((fun v=>oD v)) l)<0))=true then((⟨0,0⟩:V),false)else((l.getD (iM ((fun v=>oD v)) l).toNat V0),true)
def gQ(l:List V):Bool:=
 !(l.any ((fun v=>AY v)))
def iF(a:V)(b:V)(c:V):V×Int:=
 if(!(gQ (([a,b,c]:List V))))=true then((⟨0,0⟩:V),2)else if((a.f) != 0)=true then(a,0)else if((a.n)==0)=true then(c,0)else(b,0)
def Jp(a:Int)(b:Int):V:=
 ny (i64.wrap ((a)+(b)))
def Jq(a:Int)(b:Int):V:=
 ny (i64.wrap ((a)-(b)))
def Jr(a:Int)(b:Int):V:=
 ny (i64.wrap ((a)*(b)))
def Dv(a:Int)(b:Int):Int:=
 a
def Dw(a:Int)(b:Int):Int:=
 b
def Dx(a:Int):Bool:=
 (a)==0
def Dy(a:Int):Bool:=
 decide ((a)<0)
def Dz(a:Int):Bool:=
 decide ((a)<=0)
def uS(a:Int)(b:Int):Int×Int:=
 if((OC .i64 (a) (b)) != 0)=true then if((decide ((OC .i64 (a) (b))<0)) != (decide ((b)<0)))=true then(i64.wrap ((UK .i64 (a) (b))-1),i64.wrap ((OC .i64 (a) (b))+(b)))else(UK .i64 (a) (b),OC .i64 (a) (b))else(UK .i64 (a) (b),OC .i64 (a) (b))
def iO(g:Int->Int->Int)(a:Int)(b:Int):V:=
 if((b)==0)=true then I9 1 else ny (g ((uS a b).1) ((uS a b).2))
def dW(g:Int->Bool)(a:Int)(b:Int):V:=
 P7 (g (Jo a b))
def oG(a:V)(b:V):V×Int:=
 if(!(gQ (([a,b]:List V))))=true then((⟨0,0⟩:V),2)else if((bQ (([a,b]:List V))).2)=true then((bQ (([a,b]:List V))).1,0)else(Jp a.n b.n,0)
def oH(a:V)(b:V):V×Int:=
 if(!(gQ (([a,b]:List V))))=true then((⟨0,0⟩:V),2)else if((bQ (([a,b]:List V))).2)=true then((bQ (([a,b]:List V))).1,0)else(Jq a.n b.n,0)
def oJ(a:V)(b:V):V×Int:=
 if(!(gQ (([a,b]:List V))))=true then((⟨0,0⟩:V),2)else if((bQ (([a,b]:List V))).2)=true then((bQ (([a,b]:List V))).1,0)else(Jr a.n b.n,0)
def lT(a:V)(b:V):V×Int:=
 if(!(gQ (([a,b]:List V))))=true then((⟨0,0⟩:V),2)else if((bQ (([a,b]:List V))).2)=true then((bQ (([a,b]:List V))).1,0)else(iO Dv (a.n) (b.n),0)
def lU(a:V)(b:V):V×Int:=
 if(!(gQ (([a,b]:List V))))=true then((⟨0,0⟩:V),2)else if((bQ (([a,b]:List V))).2)=true then((bQ (([a,b]:List V))).1,0)else(iO Dw (a.n) (b.n),0)
def lW(a:V)(b:V):V×Int:=
 if(!(gQ (([a,b]:List V))))=true then((⟨0,0⟩:V),2)else if((bQ (([a,b]:List V))).2)=true then((bQ (([a,b]:List V))).1,0)else(dW Dx (a.n) (b.n),0)
def lX(a:V)(b:V):V×Int:=
 if(!(gQ (([a,b]:List V))))=true then((⟨0,0⟩:V),2)else if((bQ (([a,b]:List V))).2)=true then((bQ (([a,b]:List V))).1,0)else(dW Dy (a.n) (b.n),0)
def lY(a:V)(b:V):V×Int:=
 if(!(gQ (([a,b]:List V))))=true then((⟨0,0⟩:V),2)else if((bQ (([a,b]:List V))).2)=true then((bQ (([a,b]:List V))).1,0)else(dW Dz (a.n) (b.n),0)
def tZ(a:V)(b:V):V×Int:=
 ((iF a b (ny 0)).1,(iF a b (ny 0)).2)
def uf(a:V)(b:V):V×Int:=
 ((iF a (ny 1) b).1,(iF a (ny 1) b).2)
def gU(code:Int)(a b:V):V:=
 if code=7 then(oG a b).1 else if code=8 then(oH a b).1 else if code=9 then(oJ a b).1 else if code=10 then(lT a b).1 else if code=11 then(lU a b).1 else if code=12 then(lW a b).1 else if code=13 then(lX a b).1 else if code=14 then(lY a b).1 else if code=15 then(tZ a b).1 else(uf a b).1
def Ia(code:Int)(a b:V):V×Int:=if code=7 then oG a b else if code=8 then oH a b else if code=9 then oJ a b else if code=10 then lT a b else if code=11 then lU a b else if code=12 then lW a b else if code=13 then lX a b else if code=14 then lY a b else if code=15 then tZ a b else uf a b
theorem nine{p:Int}(h:7<=p∧p<=16):p=7∨p=8∨p=9∨p=10∨p=11∨p=12∨p=13∨p=14∨p=15∨p=16:=by omega
structure l9(v:V):Prop where
 f0:0<=v.f
 f1:v.f<=4
 n:v.f=0->-9999<=v.n∧v.n<=9999
 z:v.f≠0->v.n=0
theorem Xx(k:Int):wC [k] (-9999) 9999=(decide (-9999<=k)&&decide (k<=9999)):=by
 simp only[wC,tY,adD,List.any_nil,Bool.or_false];by_cases h:k < -9999
 .simp[h];omega
 by_cases h2:k>9999<;>simp[h,h2]<;>omega
theorem uT{v:V}(h:l9 v):xq v=true:=by
 obtain⟨f,n⟩:=v;have h0:=h.f0;have h1:=h.f1;have h2:=h.n;have h3:=h.z;simp only at h0 h1 h2 h3;unfold xq;simp only[Xx,a6v];by_cases hf:f=0
 .subst hf;simp;exact h2 rfl
 simp[hf,h1,h3 hf]
theorem aiO{a b:V}(ha:l9 a)(hb:l9 b):(!(gQ [a,b]))=false:=by simp[gQ,AY,uT ha,uT hb]
theorem a3s{a b c:V}(ha:l9 a)(hb:l9 b)(hc:l9 c):(!(gQ [a,b,c]))=false:=by simp[gQ,AY,uT ha,uT hb,uT hc]
theorem af6(a b:V):bQ [a,b]=if a.f≠0 then(a,true)else if b.f≠0 then(b,true)else(⟨0,0⟩,false):=by
 by_cases h:a.f=0
 .by_cases h2:b.f=0
  .simp[bQ,iM,ni,jC,oD,jZ,Dq,h,h2]
  simp[bQ,iM,ni,jC,oD,jZ,Dq,h,h2]
 simp[bQ,iM,ni,jC,oD,jZ,Dq,h]
theorem vX(k:Int):ny k=qA k:=by
 unfold ny qA I9 lS fE;rw[Xx];by_cases h:k < -9999
 .rw[a0u (by simp;omega),a0u (by simpa using h)]
 rw[a0o (c:=decide (k < -9999)=true) (by simpa using h)];by_cases h2:k>9999
 .rw[a0u (by simp;omega),a0u (by simpa using h2)]
 rw[a0o (by simp;omega),a0o (by simpa using h2)]
theorem ug(k:Int):l9 (qA k):=by
 unfold qA lS fE;split
 .exact⟨by decide,by decide,by simp,by simp⟩
 split
 .exact⟨by decide,by decide,by simp,by simp⟩
 rename_i h1 h2;simp at h1 h2;exact⟨by simp,by simp,fun _=>by simp only;omega,by simp⟩
theorem a3t(b:Bool):P7 b=rX b:=by cases b<;>rfl
theorem Js(b:Bool):l9 (rX b):=by cases b<;>exact⟨by decide,by decide,fun _=>by decide,by decide⟩
theorem a3u{a b:Int}(hb:b≠0):a.tmod b=0∨True->(gK a b=(if a.tmod b≠0∧(decide (a.tmod b<0) != decide (b<0))=true then a.tdiv b-1 else a.tdiv b))∧a-b*gK a b=(if a.tmod b≠0∧(decide (a.tmod b<0) != decide (b<0))=true then a.tmod b+b else a.tmod b)∧(a-b*gK a b).natAbs<b.natAbs:=by
 intro _;have hq:=@Int.tdiv_eq_ediv a b;have hr:=@Int.tmod_eq_emod a b;have hm:=Int.mul_ediv_add_emod a b;have h0:=ah2 a hb;have h1:=Int.emod_lt a hb;have hd:b ∣ a↔a%b=0:=⟨Int.emod_eq_zero_of_dvd,Int.dvd_of_emod_eq_zero⟩;generalize a.tdiv b=T at *;generalize a.tmod b=R at *;generalize hE:a/b=e at *;generalize hM:a%b=m at *;unfold gK;have cT:0<=a∨b ∣ a->T=e∧R=m:=fun h=>by rw[a0u h]at hq hr;omega
 rcases Int.lt_or_gt_of_ne hb with Aa|Aa
 .rw[a0u Aa];have hsg:b.sign=-1:=Int.sign_eq_neg_one_of_neg Aa;have hna:(b.natAbs:Int)=-b:=by omega
  have cF:¬(0<=a∨b ∣ a)->T=e-1∧R=m+b:=fun h=>by rw[a0o h]at hq hr;omega
  rw[hna]at h1;by_cases Ru:m=0
  .have u:=(Int.ediv_emod_unique (a:=-a) (b:=-b) (r:=0) (q:=e) (by omega)).2 ⟨by rw[Int.neg_mul];omega,by omega,by omega⟩;rw[u.1];obtain⟨c1,c2⟩:=cT (.inr (hd.2 Ru));subst c1;subst c2;rw[a0o (by simp[Ru]),a0o (by simp[Ru])];omega
  have jH:¬b ∣ a:=fun h=>Ru (hd.1 h);have e1:b*(e-1)=b*e-b:=by rw[Int.mul_sub,acj]
  have u:=(Int.ediv_emod_unique (a:=-a) (b:=-b) (r:=-b-m) (q:=e-1) (by omega)).2 ⟨by rw[Int.neg_mul,e1];omega,by omega,by omega⟩;rw[u.1,e1];by_cases ha:0<=a
  .obtain⟨c1,c2⟩:=cT (.inl ha);subst c1;subst c2;have hc:(R≠0∧(decide (R<0) != decide (b<0))=true):=⟨Ru,by simp[Aa];omega⟩;rw[a0u hc,a0u hc];omega
  obtain⟨c1,c2⟩:=cF (by simp[ha,jH]);have hc:¬(R≠0∧(decide (R<0) != decide (b<0))=true):=fun h=>by
   have:=h.2;simp[Aa]at this;omega
  rw[a0o hc,a0o hc];omega
 rw[a0o (by omega),hE];have hsg:b.sign=1:=Int.sign_eq_one_of_pos Aa;have hna:(b.natAbs:Int)=b:=by omega
 have cF:¬(0<=a∨b ∣ a)->T=e+1∧R=m-b:=fun h=>by rw[a0o h]at hq hr;omega
 rw[hna]at h1;by_cases hc0:0<=a∨b ∣ a
 .obtain⟨c1,c2⟩:=cT hc0;have hc:¬(R≠0∧(decide (R<0) != decide (b<0))=true):=fun h=>by
   have:=h.2;simp at this;omega
  rw[a0o hc,a0o hc];omega
 obtain⟨c1,c2⟩:=cF hc0;have Ru:m≠0:=fun h=>hc0 (.inr (hd.2 h));have hc:(R≠0∧(decide (R<0) != decide (b<0))=true):=⟨by omega,by simp;omega⟩;rw[a0u hc,a0u hc];omega
theorem wr{z:Int}(h1:-1000000000<=z)(h2:z<=1000000000):i64.wrap z=z:=wrap_small (by omega) (by omega)
theorem Xy{a b:Int}(a0:-9999<=a)(a1:a<=9999)(b0:-9999<=b)(b1:b<=9999)(hb:b≠0):uS a b=(gK a b,a-b*gK a b)∧(-9999<=gK a b∧gK a b<=9999)∧(-9999<=a-b*gK a b∧a-b*gK a b<=9999)∧i64.wrap (a-i64.wrap (b*gK a b))=a-b*gK a b:=by
 obtain⟨h1,h2,h3⟩:=a3u (a:=a) hb (.inr trivial);have hna:(a.tdiv b).natAbs<=a.natAbs:=by rw[Int.natAbs_tdiv];exact Nat.div_le_self _ _
 have hq:UK .i64 a b=a.tdiv b:=wr (by omega) (by omega);have hp:(b*gK a b).natAbs=b.natAbs*(gK a b).natAbs:=Int.natAbs_mul _ _;have hQ:(gK a b).natAbs<=9999:=by
  rcases a4E 9999 (gK a b).natAbs with h|h
  .have:=Nat.mul_le_mul_left b.natAbs (show 10000<=(gK a b).natAbs from h);generalize b*gK a b=p at *;generalize b.natAbs*(gK a b).natAbs=r at *;omega
  exact h
 refine⟨?_,by omega,by generalize b*gK a b=p at *;omega,?_⟩
 .unfold uS OC;rw[hq];have hw1:i64.wrap (a.tdiv b-1)=a.tdiv b-1:=wr (by omega) (by omega);have hrb:(a.tmod b).natAbs<=9999:=by rw[Int.natAbs_tmod];exact a5e (Nat.mod_le _ _) (by omega)
  have hw2:i64.wrap (a.tmod b+b)=a.tmod b+b:=wr (by omega) (by omega);rw[h2,h1,hw1,hw2];by_cases c1:a.tmod b=0
  .rw[a0o (by simp[c1]),a0o (by simp[c1]),a0o (by simp[c1])]
  rw[a0u (by simpa using c1)];by_cases c2:(decide (a.tmod b<0) != decide (b<0))=true
  .rw[a0u c2,a0u ⟨c1,c2⟩,a0u ⟨c1,c2⟩]
  rw[a0o c2,a0o (fun h=>c2 h.2),a0o (fun h=>c2 h.2)]
 rw[wr (z:=b*gK a b) (by generalize b*gK a b=p at *;omega) (by generalize b*gK a b=p at *;omega)];exact wr (by generalize b*gK a b=p at *;omega) (by generalize b*gK a b=p at *;omega)
theorem Xz{k:Int}(h1:-9999<=k)(h2:k<=9999):qA k=fE k:=by
 unfold qA;rw[a0o (by simp;omega),a0o (by simp;omega)]
theorem jJ{g:Int->Int->V}{a b:V}(ha:l9 a)(hb:l9 b):(if(!(gQ [a,b]))=true then((⟨0,0⟩:V),(2:Int))else if(bQ [a,b]).2=true then((bQ [a,b]).1,0)else(g a.n b.n,0)).1=if a.f≠0 then a else if b.f≠0 then b else g a.n b.n:=by
 rw[aiO ha hb,af6];by_cases h:a.f=0
 .by_cases h2:b.f=0<;>simp[h,h2]
 simp[h]
theorem AZ{a:V}(ha:l9 a)(h:a.f≠0):decide (a.f>0)=true:=by have:=ha.f0;simp;omega
theorem P8{k:Int}(h1:-9999<=k)(h2:k<=9999):l9 (fE k):=⟨by simp[fE],by simp[fE],fun _=>⟨h1,h2⟩,fun h=>by simp[fE]at h⟩
theorem div_eq{a b:V}(ha:l9 a)(hb:l9 b)(h:a.f=0)(h2:b.f=0):iO Dv a.n b.n=(if(b.n==0)=true then lS 1 else fE (gK a.n b.n))∧l9 (if(b.n==0)=true then lS 1 else fE (gK a.n b.n)):=by
 have a9:=ha.n h;have b9:=hb.n h2;unfold iO Dv;by_cases hz:b.n=0
 .rw[a0u (by simpa using hz),a0u (by simpa using hz)];exact⟨rfl,⟨by decide,by decide,by decide,by decide⟩⟩
 obtain⟨q1,q2,_,_⟩:=Xy a9.1 a9.2 b9.1 b9.2 hz;rw[a0o (by simpa using hz),a0o (by simpa using hz),q1,vX,Xz q2.1 q2.2];exact⟨rfl,P8 q2.1 q2.2⟩
theorem mod_eq{a b:V}(ha:l9 a)(hb:l9 b)(h:a.f=0)(h2:b.f=0):iO Dw a.n b.n=(if(b.n==0)=true then lS 1 else fE (i64.wrap (a.n-i64.wrap (b.n*gK a.n b.n))))∧l9 (if(b.n==0)=true then lS 1 else fE (i64.wrap (a.n-i64.wrap (b.n*gK a.n b.n)))):=by
 have a9:=ha.n h;have b9:=hb.n h2;unfold iO Dw;by_cases hz:b.n=0
 .rw[a0u (by simpa using hz),a0u (by simpa using hz)];exact⟨rfl,⟨by decide,by decide,by decide,by decide⟩⟩
 obtain⟨q1,_,q3,q4⟩:=Xy a9.1 a9.2 b9.1 b9.2 hz;rw[a0o (by simpa using hz),a0o (by simpa using hz),q1,vX,q4,Xz q3.1 q3.2];exact⟨rfl,P8 q3.1 q3.2⟩
theorem af7(a b:Int):dW Dx a b=rX (a==b)∧dW Dy a b=rX (decide (a<b))∧dW Dz a b=rX (decide (a<=b)):=by
 unfold dW Dx Dy Dz Jo;simp only[a3t];rcases Int.lt_trichotomy a b with h|h|h
 .have:(a==b)=false:=by simp;omega
  simp[h,this,afq h]
 .subst h;simp
 have h1:¬a<b:=by omega
 have h2:(a==b)=false:=by simp;omega
 have h3:¬a<=b:=by omega
 simp[h,h1,h2,h3]
theorem af8{k:Int}(h7:7<=k∧k<=16){a b:V}(ha:l9 a)(hb:l9 b):gU k a b=bI k a b∧l9 (bI k a b):=by
 have e15:a.f=0->gU 15 a b=bI 15 a b∧l9 (bI 15 a b):=fun h=>by
  rw[show gU 15 a b=(tZ a b).1 from rfl,show bI 15 a b=(if(a.n==0)=true then a else b) by simp[bI,h]];unfold tZ iF;rw[a3s ha hb (vX 0▸ug 0)];by_cases hz:a.n=0
  .have:a=⟨0,0⟩:=by obtain⟨f,n⟩:=a;simp only at h hz;rw[h,hz]
   subst this;exact⟨rfl,ha⟩
  simp[h,hz];exact hb
 have e16:a.f=0->gU 16 a b=bI 16 a b∧l9 (bI 16 a b):=fun h=>by
  rw[show gU 16 a b=(uf a b).1 from rfl,show bI 16 a b=(if(a.n != 0)=true then fE 1 else b) by simp[bI,h]];unfold uf iF;rw[a3s ha (vX 1▸ug 1) hb];by_cases hz:a.n=0
  .simp[h,hz];exact hb
  simp[h,hz];exact⟨rfl,P8 (by decide) (by decide)⟩
 by_cases h:a.f=0
 .by_cases h2:b.f=0
  .have d:=div_eq ha hb h h2;have m:=mod_eq ha hb h h2;have c:=af7 a.n b.n;rcases nine h7 with rfl|rfl|rfl|rfl|rfl|rfl|rfl|rfl|rfl|rfl
   .rw[show gU 7 a b=(oG a b).1 from rfl,show bI 7 a b=qA (i64.wrap (a.n+b.n)) by simp[bI,h,h2]];unfold oG;rw[jJ (g:=fun x y=>Jp x y) ha hb];simp only[h,h2,ne_eq,a7K,a3q,Jp,vX];exact⟨trivial,ug _⟩
   .rw[show gU 8 a b=(oH a b).1 from rfl,show bI 8 a b=qA (i64.wrap (a.n-b.n)) by simp[bI,h,h2]];unfold oH;rw[jJ (g:=fun x y=>Jq x y) ha hb];simp only[h,h2,ne_eq,a7K,a3q,Jq,vX];exact⟨trivial,ug _⟩
   .rw[show gU 9 a b=(oJ a b).1 from rfl,show bI 9 a b=qA (i64.wrap (a.n*b.n)) by simp[bI,h,h2]];unfold oJ;rw[jJ (g:=fun x y=>Jr x y) ha hb];simp only[h,h2,ne_eq,a7K,a3q,Jr,vX];exact⟨trivial,ug _⟩
   .rw[show gU 10 a b=(lT a b).1 from rfl,show bI 10 a b=(if(b.n==0)=true then lS 1 else fE (gK a.n b.n)) by simp[bI,h,h2]];unfold lT;rw[jJ (g:=fun x y=>iO Dv x y) ha hb];simp only[h,h2,ne_eq,a7K,a3q];exact d
   .rw[show gU 11 a b=(lU a b).1 from rfl,show bI 11 a b=(if(b.n==0)=true then lS 1 else fE (i64.wrap (a.n-i64.wrap (b.n*gK a.n b.n)))) by simp[bI,h,h2]];unfold lU;rw[jJ (g:=fun x y=>iO Dw x y) ha hb];simp only[h,h2,ne_eq,a7K,a3q];exact m
   .rw[show gU 12 a b=(lW a b).1 from rfl,show bI 12 a b=rX (a.n==b.n) by simp[bI,h,h2]];unfold lW;rw[jJ (g:=fun x y=>dW Dx x y) ha hb];simp only[h,h2,ne_eq,a7K,a3q];exact⟨c.1,Js _⟩
   .rw[show gU 13 a b=(lX a b).1 from rfl,show bI 13 a b=rX (decide (a.n<b.n)) by simp[bI,h,h2]];unfold lX;rw[jJ (g:=fun x y=>dW Dy x y) ha hb];simp only[h,h2,ne_eq,a7K,a3q];exact⟨c.2.1,Js _⟩
   .rw[show gU 14 a b=(lY a b).1 from rfl,show bI 14 a b=rX (decide (a.n<=b.n)) by simp[bI,h,h2]];unfold lY;rw[jJ (g:=fun x y=>dW Dz x y) ha hb];simp only[h,h2,ne_eq,a7K,a3q];exact⟨c.2.2,Js _⟩
   .exact e15 h
   exact e16 h
  rcases nine h7 with rfl|rfl|rfl|rfl|rfl|rfl|rfl|rfl|rfl|rfl
  .rw[show gU 7 a b=(oG a b).1 from rfl,show bI 7 a b=b by simp[bI,h,AZ hb h2]];unfold oG;rw[jJ (g:=fun x y=>Jp x y) ha hb];simp only[h,h2,ne_eq,a7K,a5o,a3q,a2k];exact⟨trivial,hb⟩
  .rw[show gU 8 a b=(oH a b).1 from rfl,show bI 8 a b=b by simp[bI,h,AZ hb h2]];unfold oH;rw[jJ (g:=fun x y=>Jq x y) ha hb];simp only[h,h2,ne_eq,a7K,a5o,a3q,a2k];exact⟨trivial,hb⟩
  .rw[show gU 9 a b=(oJ a b).1 from rfl,show bI 9 a b=b by simp[bI,h,AZ hb h2]];unfold oJ;rw[jJ (g:=fun x y=>Jr x y) ha hb];simp only[h,h2,ne_eq,a7K,a5o,a3q,a2k];exact⟨trivial,hb⟩
  .rw[show gU 10 a b=(lT a b).1 from rfl,show bI 10 a b=b by simp[bI,h,AZ hb h2]];unfold lT;rw[jJ (g:=fun x y=>iO Dv x y) ha hb];simp only[h,h2,ne_eq,a7K,a5o,a3q,a2k];exact⟨trivial,hb⟩
  .rw[show gU 11 a b=(lU a b).1 from rfl,show bI 11 a b=b by simp[bI,h,AZ hb h2]];unfold lU;rw[jJ (g:=fun x y=>iO Dw x y) ha hb];simp only[h,h2,ne_eq,a7K,a5o,a3q,a2k];exact⟨trivial,hb⟩
  .rw[show gU 12 a b=(lW a b).1 from rfl,show bI 12 a b=b by simp[bI,h,AZ hb h2]];unfold lW;rw[jJ (g:=fun x y=>dW Dx x y) ha hb];simp only[h,h2,ne_eq,a7K,a5o,a3q,a2k];exact⟨trivial,hb⟩
  .rw[show gU 13 a b=(lX a b).1 from rfl,show bI 13 a b=b by simp[bI,h,AZ hb h2]];unfold lX;rw[jJ (g:=fun x y=>dW Dy x y) ha hb];simp only[h,h2,ne_eq,a7K,a5o,a3q,a2k];exact⟨trivial,hb⟩
  .rw[show gU 14 a b=(lY a b).1 from rfl,show bI 14 a b=b by simp[bI,h,AZ hb h2]];unfold lY;rw[jJ (g:=fun x y=>dW Dz x y) ha hb];simp only[h,h2,ne_eq,a7K,a5o,a3q,a2k];exact⟨trivial,hb⟩
  .exact e15 h
  exact e16 h
 rcases nine h7 with rfl|rfl|rfl|rfl|rfl|rfl|rfl|rfl|rfl|rfl
 .rw[show gU 7 a b=(oG a b).1 from rfl,show bI 7 a b=a by simp[bI,AZ ha h]];unfold oG;rw[jJ (g:=fun x y=>Jp x y) ha hb];simp only[h,ne_eq,a7K,a5o,a2k];exact⟨trivial,ha⟩
 .rw[show gU 8 a b=(oH a b).1 from rfl,show bI 8 a b=a by simp[bI,AZ ha h]];unfold oH;rw[jJ (g:=fun x y=>Jq x y) ha hb];simp only[h,ne_eq,a7K,a5o,a2k];exact⟨trivial,ha⟩
 .rw[show gU 9 a b=(oJ a b).1 from rfl,show bI 9 a b=a by simp[bI,AZ ha h]];unfold oJ;rw[jJ (g:=fun x y=>Jr x y) ha hb];simp only[h,ne_eq,a7K,a5o,a2k];exact⟨trivial,ha⟩
 .rw[show gU 10 a b=(lT a b).1 from rfl,show bI 10 a b=a by simp[bI,AZ ha h]];unfold lT;rw[jJ (g:=fun x y=>iO Dv x y) ha hb];simp only[h,ne_eq,a7K,a5o,a2k];exact⟨trivial,ha⟩
 .rw[show gU 11 a b=(lU a b).1 from rfl,show bI 11 a b=a by simp[bI,AZ ha h]];unfold lU;rw[jJ (g:=fun x y=>iO Dw x y) ha hb];simp only[h,ne_eq,a7K,a5o,a2k];exact⟨trivial,ha⟩
 .rw[show gU 12 a b=(lW a b).1 from rfl,show bI 12 a b=a by simp[bI,AZ ha h]];unfold lW;rw[jJ (g:=fun x y=>dW Dx x y) ha hb];simp only[h,ne_eq,a7K,a5o,a2k];exact⟨trivial,ha⟩
 .rw[show gU 13 a b=(lX a b).1 from rfl,show bI 13 a b=a by simp[bI,AZ ha h]];unfold lX;rw[jJ (g:=fun x y=>dW Dy x y) ha hb];simp only[h,ne_eq,a7K,a5o,a2k];exact⟨trivial,ha⟩
 .rw[show gU 14 a b=(lY a b).1 from rfl,show bI 14 a b=a by simp[bI,AZ ha h]];unfold lY;rw[jJ (g:=fun x y=>dW Dz x y) ha hb];simp only[h,ne_eq,a7K,a5o,a2k];exact⟨trivial,ha⟩
 .rw[show gU 15 a b=(tZ a b).1 from rfl,show bI 15 a b=a by simp[bI,AZ ha h]];unfold tZ iF;rw[a3s ha hb (vX 0▸ug 0)];simp[h];exact ha
 rw[show gU 16 a b=(uf a b).1 from rfl,show bI 16 a b=a by simp[bI,AZ ha h]];unfold uf iF;rw[a3s ha (vX 1▸ug 1) hb];simp[h];exact ha
theorem a3v{a b c:V}(ha:l9 a)(hb:l9 b)(hc:l9 c):(iF a b c).1=Jl a b c∧l9 (Jl a b c):=by
 unfold iF Jl;rw[a3s ha hb hc];by_cases h:a.f=0
 .by_cases hz:a.n=0
  .simp[h,hz];exact hc
  simp[h,hz];exact hb
 have:=AZ ha h;simp only[a0N]at this;simp[h,this];exact ha
end Go.Proofs.YtmobpoiejckagaaGreat
namespace Pv
open Go Tw
def kP{σ ρ:Type}(g:Nat->σ->σ⊕ρ):Nat->Nat->σ->σ⊕ρ
 | 0,_,s=>.inl s
 |m+1,k,s=>match g k s with
  |.inl s'=>kP g m (k+1) s'
  |.inr r=>.inr r
def aT{σ:Type}(g:Nat->σ->σ):Nat->Nat->σ->σ
 | 0,_,s=>s
 |m+1,k,s=>aT g m (k+1) (g k s)
theorem Td{σ ρ:Type}{g:Nat->σ->σ}:∀(m k:Nat) (s:σ),kP (ρ:=ρ) (fun k s=>.inl (g k s)) m k s=.inl (aT g m k s)
 | 0,_,_=>rfl
 |m+1,k,s=>Td m (k+1) (g k s)
theorem uh{σ:Type}{g:Nat->σ->σ}:∀(m k:Nat) (s:σ),aT g (m+1) k s=g (k+m) (aT g m k s)
 | 0,_,_=>rfl
 |m+1,k,s=>by
  rw[aT,uh m (k+1),show k+1+m=k+(m+1) by omega];rfl
theorem dw{σ:Type}{g:Nat->σ->σ}(Q:Nat->σ->Prop){m k:Nat}{s:σ}(h0:Q k s)(hs:∀j s,k<=j->j<k+m->Q j s->Q (j+1) (g j s)):Q (k+m) (aT g m k s):=by
 induction m with
 |zero=>exact h0
 |succ m ih=>rw[uh];exact hs (k+m) _ (by omega) (by omega) (ih fun j s h1 h2 h3=>hs j s h1 (by omega) h3)
theorem Ib{c:Nat->Bool}{ρ:Type}{r:Nat->ρ}:∀(m k:Nat),jZ (kP (σ:=Unit) (fun k _=>if c k=true then .inr (r k)else .inl ()) m k ())=true↔∀j,k<=j->j<k+m->c j=false
 | 0,k=>by simp[kP,jZ];omega
 |m+1,k=>by
  simp only[kP];by_cases hc:c k=true
  .simp only[hc,a2k,jZ,a2u,false_iff];intro h;have:=h k (a0x _) (by omega);rw[hc]at this;cases this
  simp only[hc,a2u,a3q];rw[Ib m (k+1)];constructor
  .intro h j h1 h2;rcases a4E k j with h3|h3
   .exact h j h3 (by omega)
   rw[show j=k by omega];simpa using hc
  intro h j h1 h2;exact h j (by omega) (by omega)
theorem XA{c:Nat->Bool}{ρ:Type}{r:Nat->ρ}{m k:Nat}(h:jZ (kP (σ:=Unit) (fun k _=>if c k=true then .inr (r k)else .inl ()) m k ())=false):∃j,k<=j∧j<k+m∧c j=true∧(∀i,k<=i->i<j->c i=false)∧kP (σ:=Unit) (fun k _=>if c k=true then .inr (r k)else .inl ()) m k ()=.inr (r j):=by
 induction m generalizing k with
 |zero=>simp[kP,jZ]at h
 |succ m ih=>
  simp only[kP]at h ⊢;by_cases hc:c k=true
  .simp only[hc,a2k];exact⟨k,a0x _,by omega,hc,fun i h1 h2=>by omega,rfl⟩
  simp only[hc,a2u,a3q]at h ⊢;obtain⟨j,h1,h2,h3,h4,h5⟩:=ih h;exact⟨j,by omega,by omega,h3,fun i hi1 Kw=>by
   rcases a4E k i with h6|h6
   .exact h4 i h6 Kw
   rw[show i=k by omega];simpa using hc,h5⟩
abbrev gS(c:Nat->Bool)(k:Nat)(_:Unit):Unit⊕Nat:=if c k=true then .inr k else .inl ()
abbrev bG(c:Nat->Bool)(N:Nat):Unit⊕Nat:=kP (gS c) N 0 ()
theorem dI{c:Nat->Bool}{N:Nat}:jZ (bG c N)=true↔∀j,j<N->c j=false:=by
 unfold bG gS;rw[Ib (r:=fun k=>k)];exact⟨fun h j hj=>h j (by omega) (by omega),fun h j _ hj=>h j (by omega)⟩
theorem Ba{c:Nat->Bool}{N:Nat}(h:jZ (bG c N)=false):∃j,j<N∧c j=true∧(∀i,i<j->c i=false)∧bG c N=.inr j:=by
 obtain⟨j,_,h2,h3,h4,h5⟩:=XA (r:=fun k=>k) h;exact⟨j,by omega,h3,fun i hi=>h4 i (by omega) hi,h5⟩
abbrev Tf(c:Nat->Bool)(a N:Nat):Unit⊕Nat:=kP (gS c) (N-a) a ()
def P9{σ:Type}(g:Nat->σ->σ):Nat->σ->σ
 | 0,s=>s
 |k+1,s=>P9 g k (g k s)
theorem Ti{σ:Type}{g:Nat->σ->σ}(Q:Nat->σ->Prop):∀{k:Nat} {s:σ},Q k s->(∀j s,j<k->Q (j+1) s->Q j (g j s))->Q 0 (P9 g k s)
 | 0,_,h,_=>h
 |k+1,s,h,hs=>Ti Q (k:=k) (hs k s (by omega) h) fun j s h1 h2=>hs j s (by omega) h2
theorem Pg{α:Type}{l:List α}{d:α}{p:α->Prop}:(∀j,j<l.length->p (l.getD j d))↔∀a∈l,p a:=by
 constructor
 .intro h a ha;obtain⟨j,hj,rfl⟩:=a4U.1 ha;simpa[List.getD,a0b hj]using h j hj
 intro h j hj;have:l.getD j d=l[j]:=by simp[List.getD,a0b hj]
 rw[this];exact h _ (a4Q hj)
theorem pI{α:Type}{a b:List α}{d:α}(hl:a.length=b.length):a=b↔∀j,j<a.length->a.getD j d=b.getD j d:=by
 constructor
 .rintro rfl j _;rfl
 intro h;apply a9o hl;intro j h1 h2;simpa[List.getD,a0b h1,a0b h2]using h j h1
section
variable {X:l7} {P:Program} {T:qQ} {L:Nat} {f nt B:Nat} {gZ:Bool} {call:bf} {b:Code} {σ ρ:Type}
def vN(out:σ⊕ρ->Ex×aS X.Γ)(g:Nat->σ->σ⊕ρ)(m k:Nat):σ⊕ρ->Ex×aS X.Γ
 |.inl s=>out (kP g m k s)
 |.inr r=>out (.inr r)
theorem Ph{N:Nat}{st:Int->σ->aS X.Γ}{g:Nat->σ->σ⊕ρ}{out:σ⊕ρ->Ex×aS X.Γ}{s0:σ}{w:aS X.Γ}(Inv:Nat->σ->Prop)(h0:gW X (T.eU f (dZ b)) w=st 0 s0)(hl:N<=ah)(hL:ah<L)(hi:Inv 0 s0)
  (hs:∀(k:Nat) (s:σ) (n:Nat),k<N->Inv k s->(∀s1,Inv (k+1) s1->dN X P T call L f gZ nt B b n (st (i64.wrap (k+1)) s1) (vN out g (N-(k+1)) (k+1) (.inl s1)).1 (vN out g (N-(k+1)) (k+1) (.inl s1)).2) ->
   dN X P T call L f gZ nt B b (n+1) (st k s) (vN out g (N-(k+1)) (k+1) (g k s)).1 (vN out g (N-(k+1)) (k+1) (g k s)).2)
  (ho:∀s,Inv N s->dN X P T call L f gZ nt B b 1 (st N s) (out (.inl s)).1 (out (.inl s)).2) :
  dS X P T call L f gZ nt B (.loop b) w (out (kP g N 0 s0)).1 (out (kP g N 0 s0)).2:=by
 have key:∀(m k:Nat) (s:σ),k+m=N->Inv k s->dN X P T call L f gZ nt B b (m+1) (st k s) (out (kP g m k s)).1 (out (kP g m k s)).2:=by
  intro m
  induction m with
  |zero=>
   intro k s hk hr;have:k=N:=(by omega);subst this;exact ho s hr
  |succ m ih=>
   intro k s hk hr;have aQ:k<N:=(by omega);have h1:=hs k s (m+1) aQ hr fun s1 h=>by
    have:=ih (k+1) s1 (by omega) h;rw[yF (by omega),show N-(k+1)=m by omega];exact this
   rw[show N-(k+1)=m by omega]at h1;simp only[kP];cases hg:g k s with
   |inl s1=>rw[hg]at h1;exact h1
   |inr r=>rw[hg]at h1;exact h1
 exact zJ (key N 0 s0 (by omega) hi) h0 (by omega)
theorem af9{a N:Nat}{st:Int->σ->aS X.Γ}{g:Nat->σ->σ⊕ρ}{out:σ⊕ρ->Ex×aS X.Γ}{s0:σ}{w:aS X.Γ}(Inv:Nat->σ->Prop)(h0:gW X (T.eU f (dZ b)) w=st a s0)(ha:a<=N)(hl:N<=ah)(hL:ah<L)(hi:Inv a s0)
  (hs:∀(k:Nat) (s:σ) (n:Nat),a<=k->k<N->Inv k s->(∀s1,Inv (k+1) s1->dN X P T call L f gZ nt B b n (st (i64.wrap (k+1)) s1) (vN out g (N-(k+1)) (k+1) (.inl s1)).1 (vN out g (N-(k+1)) (k+1) (.inl s1)).2) ->
   dN X P T call L f gZ nt B b (n+1) (st k s) (vN out g (N-(k+1)) (k+1) (g k s)).1 (vN out g (N-(k+1)) (k+1) (g k s)).2)
  (ho:∀s,Inv N s->dN X P T call L f gZ nt B b 1 (st N s) (out (.inl s)).1 (out (.inl s)).2) :
  dS X P T call L f gZ nt B (.loop b) w (out (kP g (N-a) a s0)).1 (out (kP g (N-a) a s0)).2:=by
 have key:∀(m k:Nat) (s:σ),a<=k->k+m=N->Inv k s->dN X P T call L f gZ nt B b (m+1) (st k s) (out (kP g m k s)).1 (out (kP g m k s)).2:=by
  intro m
  induction m with
  |zero=>
   intro k s _ hk hr;have:k=N:=(by omega);subst this;exact ho s hr
  |succ m ih=>
   intro k s ak hk hr;have aQ:k<N:=(by omega);have h1:=hs k s (m+1) ak aQ hr fun s1 h=>by
    have:=ih (k+1) s1 (by omega) (by omega) h;rw[yF (by omega),show N-(k+1)=m by omega];exact this
   rw[show N-(k+1)=m by omega]at h1;simp only[kP];cases hg:g k s with
   |inl s1=>rw[hg]at h1;exact h1
   |inr r=>rw[hg]at h1;exact h1
 exact zJ (key (N-a) a s0 (a0x _) (by omega) hi) h0 (by omega)
theorem KQ{N:Nat}{st:Int->σ->aS X.Γ}{g:Nat->σ->σ}{e:Ex}{fin:σ->aS X.Γ}{s0:σ}{w:aS X.Γ}(Inv:Nat->σ->Prop)(h0:gW X (T.eU f (dZ b)) w=st 0 s0)(hl:N<=ah)(hL:ah<L)(hi:Inv 0 s0)(hv:∀k s,k<N->Inv k s->Inv (k+1) (g k s))
  (hs:∀(k:Nat) (s:σ),k<N->Inv k s->∀n e1 p,dN X P T call L f gZ nt B b n (st (i64.wrap (k+1)) (g k s)) e1 p->dN X P T call L f gZ nt B b (n+1) (st k s) e1 p)
  (ho:∀s,Inv N s->dN X P T call L f gZ nt B b 1 (st N s) e (fin s)):dS X P T call L f gZ nt B (.loop b) w e (fin (aT g N 0 s0)):=by
 have:=Ph (X:=X) (P:=P) (T:=T) (call:=call) (f:=f) (gZ:=gZ) (nt:=nt) (B:=B) (b:=b) (ρ:=Empty) (N:=N) (st:=st) (g:=fun k s=>.inl (g k s)) (out:=fun x=>(e,fin (aoA x))) (s0:=s0) (w:=w) Inv h0 hl hL hi
  (fun k s n hk hr h=>hs k s hk hr n _ _ (h _ (hv k s hk hr))) ho
 rw[Td]at this;exact this
theorem aiP{N:Nat}{st:Int->σ->aS X.Γ}{g:Nat->σ->σ}{e:Ex}{fin:σ->aS X.Γ}{s0:σ}{w:aS X.Γ}(Inv:Nat->σ->Prop)(h0:gW X (T.eU f (dZ b)) w=st (i64.wrap ((N:Int)-1)) s0)(hl:N<=ah)(hL:ah<L)(hi:Inv N s0)(hv:∀k s,k<N->Inv (k+1) s->Inv k (g k s))
  (hs:∀(k:Nat) (s:σ),k<N->Inv (k+1) s->∀n e1 p,dN X P T call L f gZ nt B b n (st (i64.wrap (k-1)) (g k s)) e1 p->dN X P T call L f gZ nt B b (n+1) (st k s) e1 p)
  (ho:∀s,Inv 0 s->dN X P T call L f gZ nt B b 1 (st (-1) s) e (fin s)):dS X P T call L f gZ nt B (.loop b) w e (fin (P9 g N s0)):=by
 have wr:∀k:Nat,k<=ah->i64.wrap ((k:Int)-1)=(k:Int)-1:=by
  intro k hk;cases k with
  |zero=>rfl
  |succ k=>
   have:=yF (k:=k) (by omega);rw[show((k+1:Nat):Int)-1=(k:Int) by omega];unfold ah at hk;simp only[IntKind.wrap,IntKind.bits,IntKind.signed];have:(k:Int)%(2^64:Int)=(k:Int):=a8g (by omega) (by omega);simp only[this];rw[a0o (by simp;omega)]
 have key:∀(k:Nat) (s:σ),k<=N->Inv k s->dN X P T call L f gZ nt B b (k+1) (st ((k:Int)-1) s) e (fin (P9 g k s)):=by
  intro k
  induction k with
  |zero=>intro s _ hr;exact ho s hr
  |succ k ih=>
   intro s hk hr;have h1:=ih (g k s) (by omega) (hv k s (by omega) hr);rw[<-wr k (by omega)]at h1;rw[show((k+1:Nat):Int)-1=(k:Int) by omega];exact hs k s (by omega) hr _ _ _ h1
 rw[wr N hl]at h0;exact zJ (key N s0 (a0x _) hi) h0 (by omega)
end
end Pv
namespace bZ
open Go Tw Pv
def bC:List Int->Int
 | []=>1
 |a::t=>a*bC t
def iw:List Int->Int->List Int
 | [],_=>[]
 |a::t,n=>(n/bC t)%a::iw t n
def jl:List Int->List Int->Int
 |a::t,d::p=>d*bC t+jl t p
 |_,_=>0
def jK:List Int->List Int->Bool
 | [],[]=>true
 |a::t,d::p=>decide (0<=d∧d<a)&&jK t p
 |_,_=>false
def nX(s:List Int):Prop:=∀a∈s,1<=a∧a<=12
instance (s:List Int):Decidable (nX s):=inferInstanceAs (Decidable (∀a∈s,1<=a∧a<=12))
structure vC(s:List Int):Prop where
 len:s.length<=6
 sz:nX s
 many:bC s<=2000
def kD(n:Nat)(o:List Int):Bool:=decide (o.length=n∧(∀a∈o,0<=a∧a<n)∧o.Nodup)
theorem fJ{z:Int}(h0:-(2^62)<=z)(h1:z<2^62):i64.wrap z=z:=by
 simp only[IntKind.wrap,IntKind.bits,IntKind.signed];rcases Int.lt_or_le z 0 with h|h
 .have:z%(2^64:Int)=z+2^64:=by
   have:=ac3 z (2^64) 1;rw[acj]at this;rw[<-this];exact a8g (by omega) (by omega)
  simp only[this];rw[a0u (by simp;omega)];omega
 have:z%(2^64:Int)=z:=a8g h (by omega);simp only[this];rw[a0o (by simp;omega)]
theorem nX.tail{a:Int}{t:List Int}(h:nX (a::t)):nX t:=fun b hb=>h b (a2U _ hb)
theorem jo:∀{s:List Int},nX s->1<=bC s
 | [],_=>a9s _
 |a::t,h=>by
  have h1:=h a (a2S ..);have h2:=jo h.tail;have:=Int.mul_le_mul h1.1 h2 (by omega) (by omega);simpa[bC]using this
theorem Es:∀(s t:List Int),bC (s++t)=bC s*bC t
 | [],t=>by simp[bC]
 |a::s,t=>by simp[bC,Es s t,Int.mul_assoc]
theorem QS{s:List Int}(h:nX s)(k:Nat):bC (s.take k)<=bC s:=by
 have e:bC s=bC (s.take k)*bC (s.drop k):=by rw[<-Es,List.take_append_drop]
 have h1:1<=bC (s.take k):=jo fun a ha=>h a (a9u ha);have h2:1<=bC (s.drop k):=jo fun a ha=>h a (a5q ha);have:=a98 h2 (show 0<=bC (s.take k) by omega);omega
theorem XB:∀(s:List Int) (n:Int),(iw s n).length=s.length
 | [],_=>rfl
 |_::t,n=>by simp[iw,XB t n]
theorem Tj:∀(s:List Int) (n:Int) (k:Nat),k<s.length->(iw s n).getD k 0=(n/bC (s.drop (k+1)))%s.getD k 0
 | [],_,k,h=>by simp at h
 |a::t,n,0,_=>by simp[iw]
 |a::t,n,k+1,h=>by
  have:=Tj t n k (by simpa using h);simpa[iw]using this
theorem rY:∀{s p:List Int},jK s p=true->p.length=s.length
 | [],[],_=>rfl
 |a::t,d::p,h=>by
  simp only[jK,a1D]at h;simp[rY h.2]
 | [],_::_,h=>by cases h
 |_::_,[],h=>by cases h
theorem qo:∀{s p:List Int},jK s p=true↔p.length=s.length∧∀j,j<s.length->0<=p.getD j 0∧p.getD j 0<s.getD j 0
 | [],[]=>by simp[jK]
 |a::t,d::p=>by
  simp only[jK,a1D,a0N,qo (s:=t),a4v];constructor
  .rintro⟨h1,h2,h3⟩;refine⟨by omega,fun j hj=>?_⟩;cases j with
   |zero=>simpa using h1
   |succ j=>simpa using h3 j (by omega)
  rintro⟨h1,h2⟩;exact⟨by simpa using h2 0 (by omega),by omega,fun j hj=>by simpa using h2 (j+1) (by omega)⟩
 | [],_::_=>by simp[jK]
 |_::_,[]=>by simp[jK]
theorem DC:∀{s p:List Int},jK s p=true->nX s->0<=jl s p∧jl s p<bC s
 | [],[],_,_=>by simp[jl,bC]
 |a::t,d::p,h,hs=>by
  simp only[jK,a1D,a0N]at h;have ih:=DC h.2 hs.tail;have hp:=jo hs.tail;simp only[jl,bC];have h1:0<=d*bC t:=ag7 h.1.1 (by omega);have h2:(d+1)*bC t<=a*bC t:=aa8 (by omega) (by omega);rw[ahb,Int.one_mul]at h2;omega
theorem uj:∀{s:List Int} (n:Int),nX s->jK s (iw s n)=true
 | [],_,_=>rfl
 |a::t,n,hs=>by
  simp only[iw,jK,a1D,a0N];have:=hs a (a2S ..);exact⟨⟨ah2 _ (by omega),Int.emod_lt_of_pos _ (by omega)⟩,uj n hs.tail⟩
theorem DF:∀{s:List Int} (n:Int),nX s->iw s (n%bC s)=iw s n
 | [],_,_=>rfl
 |a::t,n,hs=>by
  have hp:=jo hs.tail;have ha:=hs a (a2S ..);simp only[iw,bC];have e1:n%(a*bC t)/bC t%a=n/bC t%a:=by
   rw[Int.emod_def n,show n-a*bC t*(n/(a*bC t))=n+(-(a*(n/(a*bC t))))*bC t by rw[Int.neg_mul,Int.mul_right_comm];rfl,Int.add_mul_ediv_right _ _ (by omega),show n/bC t+-(a*(n/(a*bC t)))=n/bC t+a*(-(n/(a*bC t))) by rw[Int.mul_neg],ac3]
  have e2:iw t (n%(a*bC t))=iw t n:=by
   rw[<-DF (n%(a*bC t)) hs.tail,<-DF n hs.tail,Int.emod_emod_of_dvd n (Int.dvd_mul_left a (bC t))]
  rw[e1,e2]
theorem N9:∀{s:List Int} {n:Int},nX s->0<=n->n<bC s->jl s (iw s n)=n
 | [],n,_,h0,h1=>by simp[bC]at h1;simp[iw,jl];omega
 |a::t,n,hs,h0,h1=>by
  have hp:=jo hs.tail;have ha:=hs a (a2S ..);simp only[iw,jl];simp only[bC]at h1;have h2:0<=n/bC t:=ah3 h0 (by omega);have h3:n/bC t<a:=Int.ediv_lt_of_lt_mul (by omega) h1;rw[a8g h2 h3,<-DF n hs.tail,N9 hs.tail (ah2 _ (by omega)) (Int.emod_lt_of_pos _ (by omega))];exact Int.ediv_mul_add_emod n (bC t)
theorem Vd:∀{s p:List Int},jK s p=true->nX s->iw s (jl s p)=p
 | [],[],_,_=>rfl
 |a::t,d::p,h,hs=>by
  simp only[jK,a1D,a0N]at h;have ih:=Vd h.2 hs.tail;have hr:=DC h.2 hs.tail;have hp:=jo hs.tail;simp only[iw,jl];have e1:(d*bC t+jl t p)/bC t=d:=by
   rw[ah4,Int.add_mul_ediv_right _ _ (by omega),Int.ediv_eq_zero_of_lt hr.1 hr.2];omega
  have e2:iw t (d*bC t+jl t p)=iw t (jl t p):=by
   rw[<-DF _ hs.tail,ah4,Int.add_mul_emod_self_right,DF _ hs.tail]
  rw[e1,e2,ih,a8g h.1.1 h.1.2]
theorem dB{s:List Int}{k:Nat}(h:k<s.length):s.getD k 0∈s:=by
 have:s.getD k 0=s[k]:=by simp[List.getD,a0b h]
 rw[this];exact a4Q h
theorem Pj{s:List Int}{k:Nat}(h:k<s.length):bC (s.drop k)=s.getD k 0*bC (s.drop (k+1)):=by
 rw[a6p h];simp[bC,List.getD,a0b h]
theorem zA{l:List Int}{i j:Nat}{a:Int}(h:i<l.length):(l.set i a).getD j 0=if i=j then a else l.getD j 0:=by
 simp only[a2K,a9I];split<;>simp_all
def a3w(s:List Int)(k:Nat)(x:Int×List Int):Int×List Int:=(UK .i64 x.1 (s.getD k 0),x.2.set k (OC .i64 x.1 (s.getD k 0)))
theorem afa{a b:Int}(h0:0<=a)(h1:a<2^62)(hb:0<b):UK .i64 a b=a/b:=by
 have:a/b<=a:=Int.ediv_le_self b h0;have h2:0<=a/b:=ah3 h0 (by omega);rw[UK,Int.tdiv_eq_ediv_of_nonneg h0,fJ (by omega) (by omega)]
theorem afb{a b:Int}(h0:0<=a)(h1:a<2^62)(hb:0<b):OC .i64 a b=a%b:=by
 have h2:0<=a%b:=ah2 _ (by omega);have h3:a%b<=a:=by
  have:=Int.emod_def a b;have h4:0<=b*(a/b):=ag7 (by omega) (ah3 h0 (by omega));omega
 rw[OC,Int.tmod_eq_emod_of_nonneg h0]
theorem a6S{s:List Int}{n:Int}(hs:nX s)(h0:0<=n)(h1:n<2^62){o:List Int}(ho:o.length=s.length):(P9 (a3w s) s.length (n,o)).2=iw s n:=by
 have:=Ti (g:=a3w s) (k:=s.length) (s:=(n,o)) (fun k x=>x.1=n/bC (s.drop k)∧x.2.length=s.length∧∀j,k<=j->j<s.length->x.2.getD j 0=(iw s n).getD j 0)
  ⟨by simp[bC],ho,fun j h1 h2=>by omega⟩ (fun k x hk hx=>by
   obtain⟨e1,e2,e3⟩:=hx;have hp:1<=bC (s.drop (k+1)):=jo fun a ha=>hs a (a5q ha);have ha:=hs _ (dB hk);have hx0:0<=x.1:=by rw[e1];exact ah3 h0 (by omega)
   have hx1:x.1<=n:=by rw[e1];exact Int.ediv_le_self _ h0
   simp only[a3w];rw[afa hx0 (by omega) (by omega),afb hx0 (by omega) (by omega)];refine⟨?_,by simp[e2],fun j h2 h3=>?_⟩
   .rw[Pj hk,Int.mul_comm,<-Int.ediv_ediv_of_nonneg (by omega),e1]
   .rw[zA (by omega)];split
    .rename_i e;subst e;rw[Tj s n k hk,e1]
    .exact e3 j (by omega) h3)
 obtain⟨_,e2,e3⟩:=this;rw[pI (d:=0) (by rw[e2,XB])];intro j hj;exact e3 j (a4Y _) (by omega)
def zL(s:List Int):Int:=aT (fun k n=>if i64.wrap (n*s.getD k 0)<3000 then i64.wrap (n*s.getD k 0)else 3000) s.length 0 1
theorem Pm{s:List Int}(hs:nX s):zL s=min 3000 (bC s):=by
 have:=dw (g:=fun k n=>if i64.wrap (n*s.getD k 0)<3000 then i64.wrap (n*s.getD k 0)else 3000) (m:=s.length) (k:=0) (s:=(1:Int)) (fun k n=>n=min 3000 (bC (s.take k))) (by simp[bC];decide) (fun j n h1 h2 h3=>by
  have hj:j<s.length:=by omega
  have ha:=hs _ (dB hj);have hp:1<=bC (s.take j):=jo fun a ha=>hs a (a9u ha);have e:bC (s.take (j+1))=bC (s.take j)*s.getD j 0:=by
   rw[a6t hj,Es];simp[bC,List.getD,a0b hj]
  have hn0:1<=n:=by omega
  have hn1:n<=3000:=by omega
  have h4:n*s.getD j 0<=3000*12:=Int.mul_le_mul hn1 ha.2 (by omega) (by omega);have h5:1<=n*s.getD j 0:=by have:=Int.mul_le_mul hn0 ha.1 (by omega) (by omega);omega
  rw[fJ (by omega) (by omega),e];by_cases hc:bC (s.take j)<=3000
  .have:n=bC (s.take j):=(by omega);rw[this];split<;>omega
  have:n=3000:=by omega
  subst this;have h6:3000*s.getD j 0<=bC (s.take j)*s.getD j 0:=aa8 (by omega) (by omega);have h7:3000<=3000*s.getD j 0:=by omega
  split<;>omega)
 rw[a3H,aaE]at this;exact this
theorem vC.acu{s:List Int}(h:vC s):zL s=bC s:=by rw[Pm h.sz];have:=h.many;omega
abbrev xZ(s:List Int):Nat:=(bC s).toNat
theorem vC.a00{s:List Int}(h:vC s):((xZ s:Nat):Int)=bC s:=by have:=jo h.sz;show((bC s).toNat:Int)=_;omega
theorem vC.xZ{s:List Int}(h:vC s):((xZ s:Nat):Int)=zL s:=by rw[h.acu,h.a00]
theorem vC.lt{s:List Int}(h:vC s){k:Nat}(hk:k<bZ.xZ s):decide ((k:Int)<zL s)=true:=by rw[<-h.xZ];exact bF hk
theorem vC.no{s:List Int}(h:vC s):decide (((bZ.xZ s:Nat):Int)<zL s)=false:=by rw[<-h.xZ];exact fF _
theorem vC.aiQ{s:List Int}(h:vC s):s.length<=ah:=by have:=h.len;unfold ah;omega
theorem XC{α:Type}(f:Nat->α)(n:Nat):aT (fun k (s:List α)=>s++[f k]) n 0 []=(List.range n).map f:=by
 have:=dw (g:=fun k (s:List α)=>s++[f k]) (m:=n) (k:=0) (s:=[]) (fun k s=>s=(List.range k).map f) rfl (fun j s _ _ h=>by rw[h,adK,a4C];rfl);simpa using this
end bZ
namespace Tw
open Go Go.Proofs Go.Shelf
section
variable {P:Program} {ρ:Ren}
theorem a3x{M:Mp}{w:World}{h:List HB}(hV:Valid M uY (lD h) w){b off len cap:Nat}{ex:Bool}{y:Value}(hx:VR M.h (.slc b off len cap 1 ex) y)(h0:0<len){k:BK}{cs r:List TV}(hb:h[b]? = some (.cells k cs))(hk:k≠.ro)
  (hl:k=.last->off+cap=cs.length) (hr:sub cs off len=some r) :
  ∃ls p cap',M (.h b)=some (.cells ls)∧p∈ls∧y=.slice (some ⟨p.c,off,none⟩) len cap'∧len<=cap'∧cap<=cap'∧off+cap<=p.ext∧off+cap'<=p.tot∧cap'<2^63∧NQ M.h w k cs p∧p.base=0∧(∀c∈cs,jd c=true) ∧
   ∃xs:List Value,bY M.h r xs∧∀(j:Nat) (v:Value),xs[j]? = some v->w.cell? ⟨p.c,off+j,none⟩=some v:=by
 cases hx with
 |slc hm hp FD hle wP hex ha aoE=>
  rename_i ls p a cap';obtain⟨gu,h1,h2⟩:=hV.ok _ _ hm trivial;have hg:lD h (.h b)=some (.cells k cs):=by simp[St.get,hb]
  rw[hg]at h1;cases h1;have hp:=hp.resolve_left (by omega);have Gp:=h2.2.1 p hp;have Aa:=Gp.base hk;rcases ha with ha|⟨rfl,ha⟩
  .omega
  obtain⟨xs,g1,g2⟩:=Gp.slice hr (by omega) (fun e=>by have:=hl e;have:=Gp.ext;omega);rw[Aa]at g2 ha ⊢;simp only[a3H,ahc]at g2 ha FD ⊢;exact⟨ls,p,cap',hm,hp,rfl,by omega,wP,FD,ha,aoE,Gp,Aa,h2.1,xs,g1,g2⟩
end
open Go.Sort
theorem afc{N:Np}{k:IntKind}{n:Int}{y:Value}(h:VR N (.int k n) y):y=.int k n:=by cases h;rfl
section
variable {P:Program} {M:Mp} {D:Key->Prop} {C:Ct} {w w':World}
theorem afd(h:Valid M D C w){k:Key}{ls:List Pl}{p:Pl}{cs cs':List TV}{kk BJ:BK}
  (hk:M k=some (.cells ls)) (hd:D k) (hc:C k=some (.cells kk cs)) (hp:p∈ls) (yt:(kk=.own∧BJ=.own)∨((kk=.grow∨kk=.last)∧BJ=.last∧p.ext=cs.length))
  (hl:cs'.length=cs.length) (hn:∀c∈cs',jd c=true) {uZ:Array Value} {ty':TypeId} (yS:w'.heap[p.c]? = some (.cells uZ ty' (0,0))) (hs':uZ.size=p.tot)
  (WT:∀c,c<w.heap.size->c≠p.c->w'.heap[c]? = w.heap[c]?) (vH:w.heap.size<=w'.heap.size) (ho:w'.os=w.os) (hou:w'.output=w.output) (ht:w'.tape=w.tape)
  (a6T:∀(i:Nat) (c:TV) (v:Value),cs'[i]? = some c->uZ[i]? = some v->VR M.h c v) :
  Valid M D (mJ C k (.cells BJ cs')) w'∧Ext M C w M (mJ C k (.cells BJ cs')) w' [k]:=by
 obtain⟨hb,he,h1,Gp,jH,huq,arr,ty,hr,hs,hle,hv⟩:=h.wrB hk hd hc hp yt;have iI:kk≠.ro:=by rcases yt with⟨e,_⟩|⟨e|e,_⟩<;>rw[e]<;>simp
 have YG:∀b0,C k=some b0->wr b0=true:=fun b0 Aa=>by rw[hc]at Aa;cases Aa;cases kk<;>simp_all [wr]
 have qM:dO M k (.cells ls)=M:=IX hk;have gG:∀c,c<w.heap.size->c∉aJ (.cells ls)->w'.heap[c]? = w.heap[c]?:=fun c hc0 hc=>WT c hc0 (fun e=>hc (by rw[e];exact a0H.2 ⟨p,hp,rfl⟩));have fZ:∀c∈aJ (.cells ls),(∃l0,M k=some l0∧c∈aJ l0)∨w.heap.size<=c:=fun c hc=>.inl ⟨_,hk,hc⟩;have IZ:sO M (dO M k (.cells ls)):=by rw[qM];exact .refl _
 have aQ:∀q∈ls,q.c<w.heap.size:=fun q hq=>h.inb _ _ hk q.c (a0H.2 ⟨q,hq,rfl⟩);refine⟨?_,?_⟩
 .have:=h.upd (D':=D) (w':=w') k (.cells BJ cs') (.cells ls) (fun j hj=>.inl hj) (fun l0 h0=>by
   rw[hk]at h0;cases h0;exact⟨hd,.refl _,YG⟩) gG fZ vH (by
   rw[qM];refine⟨hn,fun q hq=>?_,fun e=>?_,fun e=>⟨jH,fun q1 Kv q2 Gw e1 e2=>by rw[huq q1 Kv (by omega),huq q2 Gw (by omega)]⟩⟩
   .have YT:=Gp q hq;by_cases YH:q.c=p.c
    .have:=NU jH hp hq YH;subst this;exact⟨⟨uZ,ty',(0,0),yS,hs',fun _=>rfl,fun _ i c v _ a b=>a6T i c v a (by simpa[hb]using b)⟩,by omega,by omega,fun _=>hb⟩
    .obtain⟨aoF,ty2,fz2,t1,t2,t3,t4⟩:=YT.row;refine⟨⟨aoF,ty2,fz2,(WT q.c (aQ q hq) YH).trans t1,t2,fun _=>t3 iI,fun hz i c v hi a b=>?_⟩,YT.fit,by have:=YT.ext;omega,fun _=>YT.base iI⟩;exfalso;apply YH;rcases yt with⟨e,_⟩|⟨_,e,_⟩
     .obtain⟨b',g1,g2⟩:=h.ok k _ hk hd;rw[hc]at g1;cases g1;obtain⟨q',g3,_⟩:=g2.2.2.1 e;rw[g3]at hq hp;simp at hq hp;rw[hq,hp]
     .rw[huq q hq (by rw[hz e];omega)]
   .rcases yt with⟨e0,_⟩|⟨_,e1,_⟩
    .obtain⟨b',g1,g2⟩:=h.ok k _ hk hd;rw[hc]at g1;cases g1;obtain⟨q',g3,g4⟩:=g2.2.2.1 e0;exact⟨q',g3,by omega⟩
    .rw[e1]at e;cases e)
  rwa [qM]at this
 .have:=Ext.upd (M:=M) (C:=C) (w:=w) (w':=w') k (.cells BJ cs') (.cells ls) [k] (.inl ⟨by simp[hc],rfl,by simp[hk],YG⟩) IZ gG fZ vH ho hou ht
  rwa [qM]at this
end
def KR:List TV->Option (List Int)
 | []=>some []
 |.int .i64 n::r=>(KR r).map (n::·)
 |_=>none
theorem Pn:∀{cs:List TV} {zs:List Int},KR cs=some zs->cs=zs.map fun n=>TV.int .i64 n
 | [],zs,h=>by simp[KR]at h;subst h;rfl
 |c::r,zs,h=>by
  unfold KR at h;split at h
  .rename_i e;cases e
  .rename_i n r' e;cases e;simp only[a07]at h;obtain⟨ys,h1,rfl⟩:=h;rw[Pn h1];rfl
  cases h
def gY(l:List Int):List Int:=l.mergeSort fun x y=>decide (x<=y)
def a6U(g:List Int->List Int)(fI:Nat):bf
 |.fn f [] [],[d],h=>
  if f=fI then
   match d with
   |.nil .slc=>some (.dM [],h,[])
   |.slc _ _ 0 _ _ _=>some (.dM [],h,[])
   |.slc b 0 n n' 1 _=>match h[b]? with
    |some (.cells k cs)=>match Af k true,KR cs with
     |some k',some zs=>if n=n'∧cs.length=n∧0<n∧n<=2^20 then some (.dM [],h.set b (.cells k' ((g zs).map fun x=>TV.int .i64 x)),[b])else none
     |_,_=>none
    |_=>none
   |_=>none
  else none
 |_,_,_=>none
def Po:Nat->bf:=a6U gY
section
variable {P:Program} {ρ:Ren}
theorem XD(L:Lays.n189 P ρ):iK P (Po (ρ.f 189)):=by
 intro fv args h v h' ws hc M w x xs hV zo hx O9;unfold Po a6U at hc;split at hc
 case h_2=>cases hc
 rename_i f d;split at hc
 case isFalse=>cases hc
 rename_i hf;subst hf;cases hx with
 | @fn _ _ _ ys zs h1 h1a h3 h3a=>
 have:ys=[]:=a4a h1.symm;subst this;have:zs=[]:=a4a h3.symm;subst this;obtain⟨dv,r1,rfl,hdv,O9⟩:=O9.iT;have:=O9.qx;subst this;have enters:∀{R:Value->World->Prop},Calls P (ρ.f 189) #[dv] w (LD R) ->
   ∃d,(∀w,(Deferred.ofValue (.func (.func (ρ.f 189)) [].toArray [].toArray) [dv].toArray).run P w=.ok d w)∧((LZ P d w R∧∃f a b,(TV.fn (ρ.f 189) [] [])=.fn f a b)∨(Us P d w R∧∃l,(TV.fn (ρ.f 189) [] [])=.kZ l)):=by
  intro R Ve;refine⟨{ target:=.fn (.func (ρ.f 189)) #[],args:=#[dv] },fun w=>by simp[Deferred.ofValue],.inl ⟨⟨ρ.f 189,_,?_,fun n=>callsIn_wide.2 Ve⟩,_,_,_,rfl⟩⟩;have e1:=L.f189;have e2 : ¬ (Body.n189 ρ).name = "runtime.NumGoroutine" := by simp [Body.n189]
  obtain⟨c,e3⟩:∃c,(Body.n189 ρ).body=some c:=⟨_,rfl⟩;simp[invoke,callFunc,program,Sem.run,e1,e2,e3]
 split at hc
 .simp only[a04,a0w]at hc;obtain⟨rfl,rfl,rfl⟩:=hc;cases hdv;refine enters ((Any.slices_Sort_int_none L none 0 w).mono fun e w' ⟨he,hw⟩=>?_);subst he;subst hw;exact⟨M,hV,zo,.refl _ _ _,.QD .nil⟩
 .simp only[a04,a0w]at hc;obtain⟨rfl,rfl,rfl⟩:=hc;cases hdv;refine enters ((Any.slices_Sort_int_none L _ _ w).mono fun e w' ⟨he,hw⟩=>?_);subst he;subst hw;exact⟨M,hV,zo,.refl _ _ _,.QD .nil⟩
 .rename_i b n n' ex _;split at hc
  case h_2=>cases hc
  rename_i k cs hb;split at hc
  case h_2=>cases hc
  rename_i k' zs oQ hzs;split at hc
  case isFalse=>cases hc
  rename_i RF;obtain⟨rfl,qE,hn0,auA⟩:=RF;simp only[a04,a0w]at hc;obtain⟨rfl,rfl,rfl⟩:=hc;have RI:=Pn hzs;have YI:zs.length=n:=by rw[<-qE,RI,a4K]
  have hk:k≠.ro:=by rintro rfl;cases oQ
  have aiR:sub cs 0 n=some cs:=by
   unfold sub;rw[a0u (by omega)];simp[<-qE]
  obtain⟨ls,p,cap',k1,k2,rfl,k3,k4,k5,k6,k7,k8,k9,k10,csv,k11,k12⟩:=a3x hV hdv hn0 hb hk (fun _=>by omega) aiR;have hpe:p.ext=cs.length:=by have:=k8.ext;omega
  obtain⟨arr,ty,fz,z1,z2,z3,_⟩:=k8.row;have:=z3 hk;subst this;have aQ:=(a1F.1 z1).1;have hcv:csv=zs.map fun n=>Value.int .i64 n:=by
   apply a9Q;intro i;by_cases hi:i<n
   .have hi1:i<cs.length:=(by omega);have Kw:i<csv.length:=by rw[<-k11.len];exact hi1
    have:=k11.at_ i cs[i] csv[i] (by simp[hi1]) (by simp[Kw]);have hc1:cs[i]? = (zs.map fun n=>TV.int .i64 n)[i]?:=(by rw[<-RI]);rw[a0b hi1,a4H,a0b (by omega)]at hc1;simp only[a0B,a04]at hc1;rw[hc1]at this;rw[a0b Kw,a4H,a0b (by omega)];rw[afc this];rfl
   .rw[a4B (by rw[<-k11.len];omega),a4B (by rw[a4K];omega)]
  have hH:Holds (Value.int .i64) w p.c 0 zs.toArray:=fun j hj=>by
   simp only[List.size_toArray]at hj;refine⟨?_,by simp[World.frozen?,z1]⟩;refine k12 j _ ?_;rw[hcv,a4H,a0b hj];simp[hj]
  have Ve:=Any.slices_Sort_int L p.c 0 cap' zs w hH aQ (by omega);rw[YI]at Ve;refine enters (Ve.mono fun e w' ⟨he,N,os,hw⟩=>?_);subst he;have hsl:(gY zs).length=n:=by unfold gY;rw[aa6,YI]
  have hgb:lD h (.h b)=some (.cells k cs):=by simp[St.get,hb]
  have yt:(k=.own∧k'=.own)∨((k=.grow∨k=.last)∧k'=.last∧p.ext=cs.length):=by
   rcases Ku oQ with e|⟨a,b,_⟩
   .exact .inl e
   .exact .inr ⟨a,b,hpe⟩
  have yS:w'.heap[p.c]? = some (.cells (putCells (Value.int .i64) 0 (gY zs).toArray arr) ty (0,0)):=by
   rw[hw,heap_grow_old _ _ (by simp[putRow,mapBlock,Sort.ahead];exact aQ)];simp only[putRow,mapBlock,Sort.ahead,abW,a2k,z1,a0B,onCells];rfl
  have WT:∀c,c<w.heap.size->c≠p.c->w'.heap[c]? = w.heap[c]?:=fun c hc0 iI=>by
   rw[hw,heap_grow_old _ _ (by simp[putRow,mapBlock,Sort.ahead];exact hc0)];simp only[putRow,mapBlock,Sort.ahead,abW];rw[a0o (fun e=>iI e.symm)]
  obtain⟨g1,g2⟩:=afd (w':=w') (cs':=(gY zs).map fun x=>TV.int .i64 x) hV k1 trivial hgb k2 yt (by rw[a4K,hsl,qE]) (fun c hc=>by
   obtain⟨y,_,rfl⟩:=a0H.1 hc;rfl) yS (by simp[putCells,z2]) WT (by rw[hw];simp[putRow,mapBlock,Sort.ahead]) (by rw[hw];rfl) (by rw[hw];rfl) (by rw[hw];rfl) (fun i c u hc hu=>by
   rw[a4H]at hc;simp only[a07]at hc;obtain⟨y,hy,rfl⟩:=hc;have hi:i<(gY zs).length:=(a05.1 hy).1;have hia:i<arr.size:=(by omega);simp only[putCells,Array.getElem?_mapIdx,a3G hia,a0B,a04]at hu;rw[a0u ⟨a4Y _,by simp;omega⟩]at hu;subst hu;have:(gY zs).toArray[i-0]! = y:=by
    have h9:=(a05.1 hy).2;simp[hi,h9]
   rw[this];exact .int _ _)
  have zl:=(a05.1 hb).1;have FK:lD (h.set b (.cells k' ((gY zs).map fun x=>TV.int .i64 x)))=mJ (lD h) (.h b) (.cells k' ((gY zs).map fun x=>TV.int .i64 x)):=jG ⟨[],[],h,[]⟩ b _ zl [] [];exact⟨M,by rw[FK];exact g1,zo,by rw[FK];exact g2,.QD .nil⟩
 .cases hc
end
end Tw
namespace Go.Proofs.YtmobpoiejckagaaGreat
open Go Tw Go.Shelf
def a3y:Go.Shelf.Ren:=⟨fun| 189=>137| 125=>180| 257=>179| 128=>216| 129=>217| 294=>207| 295=>208| 296=>209| 297=>210| 298=>211| 299=>212| 216=>213| 300=>214| 301=>215| 328=>229| 329=>230| 330=>231| 331=>232| 332=>233| 215=>219| 343=>235|n=>n,fun| 28=>22| 3=>3| 46=>184| 0=>0| 51=>204| 53=>207| 4=>4| 183=>212| 182=>211| 131=>152| 5=>5| 9=>9| 218=>227| 222=>231| 228=>233| 229=>192|n=>n,fun|n=>n⟩
theorem acv:Lays.n189 Tryz.prog a3y where
 mixed:=by kernel_rfl
 f125:=Tryz.func180.trans (congrArg some (by kernel_rfl))
 f128:=Tryz.func216.trans (congrArg some (by kernel_rfl))
 f129:=Tryz.func217.trans (congrArg some (by kernel_rfl))
 f189:=Tryz.func137.trans (congrArg some (by kernel_rfl))
 f215:=Tryz.func219.trans (congrArg some (by kernel_rfl))
 f216:=Tryz.func213.trans (congrArg some (by kernel_rfl))
 f257:=Tryz.func179.trans (congrArg some (by kernel_rfl))
 f294:=Tryz.func207.trans (congrArg some (by kernel_rfl))
 f295:=Tryz.func208.trans (congrArg some (by kernel_rfl))
 f296:=Tryz.func209.trans (congrArg some (by kernel_rfl))
 f297:=Tryz.func210.trans (congrArg some (by kernel_rfl))
 f298:=Tryz.func211.trans (congrArg some (by kernel_rfl))
 f299:=Tryz.func212.trans (congrArg some (by kernel_rfl))
 f300:=Tryz.func214.trans (congrArg some (by kernel_rfl))
 f301:=Tryz.func215.trans (congrArg some (by kernel_rfl))
 f328:=Tryz.func229.trans (congrArg some (by kernel_rfl))
 f329:=Tryz.func230.trans (congrArg some (by kernel_rfl))
 f330:=Tryz.func231.trans (congrArg some (by kernel_rfl))
 f331:=Tryz.func232.trans (congrArg some (by kernel_rfl))
 f332:=Tryz.func233.trans (congrArg some (by kernel_rfl))
 f343:=Tryz.func235.trans (congrArg some (by kernel_rfl))
 t0:=Tryz.underlying0
 a0:=Tryz.isAgg0
 z0:=Tryz.sizeOf0
 v0:=Tryz.zeroValue0
 t3:=Tryz.underlying3
 a3:=Tryz.isAgg3
 z3:=Tryz.sizeOf3
 v3:=Tryz.zeroValue3
 t4:=Tryz.underlying4
 a4:=Tryz.isAgg4
 z4:=Tryz.sizeOf4
 v4:=Tryz.zeroValue4
 t5:=Tryz.underlying5
 a5:=Tryz.isAgg5
 z5:=Tryz.sizeOf5
 v5:=Tryz.zeroValue5
 t9:=Tryz.underlying9
 a9:=Tryz.isAgg9
 z9:=Tryz.sizeOf9
 v9:=Tryz.zeroValue9
 t28:=Tryz.underlying22
 a28:=Tryz.isAgg22
 z28:=Tryz.sizeOf22
 v28:=Tryz.zeroValue22
 t46:=Tryz.underlying184
 a46:=Tryz.isAgg184
 z46:=Tryz.sizeOf184
 v46:=Tryz.zeroValue184
 t51:=Tryz.underlying204
 a51:=Tryz.isAgg204
 z51:=Tryz.sizeOf204
 v51:=Tryz.zeroValue204
 t53:=Tryz.underlying207
 a53:=Tryz.isAgg207
 z53:=Tryz.sizeOf207
 v53:=Tryz.zeroValue207
 t131:=Tryz.underlying152
 a131:=Tryz.isAgg152
 z131:=Tryz.sizeOf152
 v131:=Tryz.zeroValue152
 t182:=Tryz.underlying211
 a182:=Tryz.isAgg211
 z182:=Tryz.sizeOf211
 v182:=Tryz.zeroValue211
 t183:=Tryz.underlying212
 a183:=Tryz.isAgg212
 z183:=Tryz.sizeOf212
 v183:=Tryz.zeroValue212
 t218:=Tryz.underlying227
 a218:=Tryz.isAgg227
 z218:=Tryz.sizeOf227
 v218:=Tryz.zeroValue227
 t222:=Tryz.underlying231
 a222:=Tryz.isAgg231
 z222:=Tryz.sizeOf231
 v222:=Tryz.zeroValue231
 t228:=Tryz.underlying233
 a228:=Tryz.isAgg233
 z228:=Tryz.sizeOf233
 v228:=Tryz.zeroValue233
 t229:=Tryz.underlying192
 a229:=Tryz.isAgg192
 z229:=Tryz.sizeOf192
 v229:=Tryz.zeroValue192
end Go.Proofs.YtmobpoiejckagaaGreat
namespace Tw
open Go
def Pq(h h':List HB):Prop:=(∀b:Nat,(∀cs,h[b]?≠some (HB.nK cs))->h'[b]? = h[b]?)∧∀(b:Nat) cs,h[b]? = some (HB.nK cs)->∃cs',cs'.Perm cs∧h'[b]? = some (HB.cells .last cs')
def afe(f:Nat)(call:bf)(fv:TV)(args:List TV)(h:List HB)(v:TV):Prop:=(∃k n,v=.int k n)∧fv=.fn f [] []∧∀h',Pq h h'->∃h2,call fv args h'=some (v,h2,[])
open Classical in
def a3z(f:Nat)(call:bf):bf:=fun fv args h=>if hx:∃v,afe f call fv args h v then some (Classical.choose hx,h,[])else none
theorem Tn{h h':List HB}(hu:Pq h h'):∀b:Nat,(h'[b]?).isSome=(h[b]?).isSome:=fun b=>by
 cases e:h[b]? with
 |none=>rw[hu.1 b (fun cs=>by rw[e];nofun),e]
 |some x=>
  by_cases hb:∃cs,x=.nK cs
  .obtain⟨cs,rfl⟩:=hb;obtain⟨cs',_,e2⟩:=hu.2 b cs e;rw[e2];rfl
  .rw[hu.1 b (fun cs=>by rw[e];intro h2;cases h2;exact hb ⟨cs,rfl⟩),e]
theorem XE(h:List HB):∀(g:Nat->List TV),(∀(b:Nat) cs,h[b]? = some (HB.nK cs)->(g b).Perm cs)->Pq h (h.mapIdx fun b x=>match x with|HB.nK _=>HB.cells .last (g b)|x=>x):=fun g hg=>by
 constructor
 .intro b hb;rw[ah5];cases e:h[b]? with
  |none=>rfl
  |some x=>
   simp only[a0B];cases x<;>first|rfl|exact absurd e (hb _)
 .intro b cs e;exact⟨g b,hg b cs e,by rw[ah5,e];rfl⟩
theorem XF{M:Mp}{h:List HB}{w:World}(hV:Valid M uY (lD h) w):∃h',Pq h h'∧Valid M uY (lD h') w:=by
 have hg:∀b:Nat,∃g:List TV,∀cs,h[b]? = some (HB.nK cs)->g.Perm cs∧∀l,M (.h b)=some l->qh M.h w (.cells .last g) l:=fun b=>by
  by_cases hb:∃cs,h[b]? = some (HB.nK cs)
  .obtain⟨cs,hb⟩:=hb;cases hm:M (.h b)with
   |none=>exact⟨cs,fun Xc h2=>⟨by rw[hb]at h2;cases h2;exact .refl _,fun l hl=>by cases hl⟩⟩
   |some l=>
    obtain⟨bb,c1,c2⟩:=hV.ok _ _ hm trivial;have c1:h[b]? = some bb:=c1;rw[hb]at c1;cases c1;cases l with
    |obj r o=>exact c2.elim
    |cells ls=>
     obtain⟨cs',p1,p2⟩:=c2;exact⟨cs',fun Xc h2=>⟨by rw[hb]at h2;cases h2;exact p1,fun l hl=>by cases hl;exact p2⟩⟩
  exact⟨[],fun cs h2=>absurd ⟨cs,h2⟩ hb⟩
 let g:Nat->List TV:=fun b=>Classical.choose (hg b)
 have hgs:∀(b:Nat) cs,h[b]? = some (HB.nK cs)->(g b).Perm cs∧∀l,M (.h b)=some l->qh M.h w (.cells .last (g b)) l:=fun b=>a9k (hg b);have hu:=XE h g fun b cs e=>(hgs b cs e).1;generalize hh:(h.mapIdx fun b x=>match x with|HB.nK _=>HB.cells .last (g b)|x=>x)=h' at hu;refine⟨h',hu,?_⟩;have WZ:∀(b:Nat) cs,h[b]? = some (HB.nK cs)->h'[b]? = some (HB.cells .last (g b)):=fun b cs e=>by rw[<-hh,ah5,e];rfl
 refine⟨fun k l hk _=>?_,fun k k' l l' b iI hk oQ _ hc hw=>?_,hV.inb⟩
 .obtain⟨bb,c1,c2⟩:=hV.ok k l hk trivial;cases k with
  |l k=>exact⟨bb,c1,c2⟩
  |h b=>
   have c1:h[b]? = some bb:=c1;by_cases hb:∃cs,bb=.nK cs
   .obtain⟨cs,rfl⟩:=hb;exact⟨_,WZ b cs c1,(hgs b cs c1).2 l hk⟩
   refine⟨bb,?_,c2⟩;show h'[b]? = some bb;rw[hu.1 b (fun cs=>by rw[c1];intro h2;cases h2;exact hb ⟨cs,rfl⟩),c1]
 obtain⟨bb,c1,_⟩:=hV.ok k l hk trivial;refine hV.own k k' l l' bb iI hk oQ trivial c1 ?_;cases k with
 |l k=>have hc:lD h (.l k)=some b:=hc;rw[c1]at hc;cases hc;exact hw
 |h i=>
  have c1:h[i]? = some bb:=c1;have hc:h'[i]? = some b:=hc;by_cases hb:∃cs,bb=.nK cs
  .obtain⟨cs,rfl⟩:=hb;rfl
  rw[hu.1 i (fun cs=>by rw[c1];intro h2;cases h2;exact hb ⟨cs,rfl⟩),c1]at hc;cases hc;exact hw
theorem a01{M:Mp}{h h1:List HB}{w w':World}{v:TV}{y:Value}(hu:Pq h h1)(hv:∃k n,v=.int k n)(hR:jQ M h1 w v h1 [] y w'):jQ M h w v h [] y w':=by
 obtain⟨M',a1,a2,a3,a4⟩:=hR;have hs:∀k,(lD h1 k).isSome=(lD h k).isSome:=fun k=>by
  cases k with
  |l k=>rfl
  |h b=>exact Tn hu b
 have Kz:∀(b:Nat) bb,h1[b]? = some bb->(h[b]? = some bb∧∀cs,bb≠HB.nK cs)∨∃cs cs',bb=HB.cells .last cs'∧cs'.Perm cs∧h[b]? = some (HB.nK cs):=fun b bb e=>by
  by_cases hb:∃cs,h[b]? = some (HB.nK cs)
  .obtain⟨cs,hb⟩:=hb;obtain⟨cs',p,e2⟩:=hu.2 b cs hb;rw[e]at e2;cases e2;exact .inr ⟨cs,cs',rfl,p,hb⟩
  have:=hu.1 b fun cs h2=>hb ⟨cs,h2⟩;rw[e]at this;exact .inl ⟨this.symm,fun cs h2=>hb ⟨cs,by rw[<-this,h2]⟩⟩
 refine⟨M',⟨fun k l hk _=>?_,fun k k' l l' b iI hk oQ _ hc hw=>?_,a1.inb⟩,a2,⟨a3.IK,a3.frame,fun _ _ _=>rfl,fun k hk hn=>a3.lJ k ?_ hn,a3.fresh,a3.size,fun _ h=>h,fun k hk=>(by cases hk),fun k hk=>(by cases hk),a3.os,a3.output,a3.tape⟩,a4⟩
 .obtain⟨bb,c1,c2⟩:=a1.ok k l hk trivial;cases k with
  |l k=>exact⟨bb,c1,c2⟩
  |h b=>
   rcases Kz b bb c1 with⟨e,_⟩|⟨cs,cs',rfl,p,e⟩
   .exact⟨bb,e,c2⟩
   refine⟨_,e,?_⟩;cases l with
   |obj r o=>exact c2.elim
   |cells ls=>exact⟨cs',p,c2⟩
 .obtain⟨bb,c1,_⟩:=a1.ok k l hk trivial;refine a1.own k k' l l' bb iI hk oQ trivial c1 ?_;cases k with
  |l k=>have hc:lD h1 (.l k)=some b:=hc;rw[c1]at hc;cases hc;exact hw
  |h i=>
   have hc:h[i]? = some b:=hc;rcases Kz i bb c1 with⟨e,_⟩|⟨cs,cs',rfl,p,e⟩
   .rw[hc]at e;cases e;exact hw
   rfl
 rcases hk with hk|hk
 .exact .inl (by rw[hs];exact hk)
 refine .inr ?_;have:=hs k;rw[hk]at this;cases e:lD h1 k with
 |none=>rfl
 |some x=>rw[e]at this;cases this
theorem aan{P:Program}{f:Nat}{call:bf}(hC:iK P call):iK P (a3z f call):=by
 intro fv args h v h' ws hc M w x xs hV zo hx O9;unfold a3z at hc;split at hc
 rotate_left
 .cases hc
 rename_i hb;have hs:=a9k hb;simp only[a04,a0w]at hc;obtain⟨rfl,rfl,rfl⟩:=hc;obtain⟨hv,hfn,FM⟩:=hs;obtain⟨h1,hu,hV1⟩:=XF hV;obtain⟨h2,yx⟩:=FM h1 hu;obtain⟨d,e1,e2⟩:=hC _ _ _ _ _ _ yx M w x xs hV1 zo hx O9;refine⟨d,e1,?_⟩;rcases e2 with⟨⟨f',az,q1,q2⟩,r⟩|⟨⟨l,f',tmps,uX,body,q1,q2⟩,r⟩
 .refine .inl ⟨⟨f',az,q1,fun n=>CallsIn.mono (F:=Fence.wide) (q2 n) fun en w3 WO=>?_⟩,r⟩;cases en with
  |panicked c=>exact WO.elim
  |outgrown=>exact WO.elim
  |returned y=>
   refine a01 hu hv (jQ.norm (nK:=false) hV1 zo ?_ WO);obtain⟨k,n,e⟩:=hv;rw[e];simp[Om,BX,wV,nV,D7,UA,LG]
 obtain⟨l',e⟩:=r;exact absurd hfn (by rw[e];nofun)
theorem aao{f:Nat}{call:bf}{args:List TV}{h:List HB}{k:IntKind}{n:Int}(hb:afe f call (.fn f [] []) args h (.int k n))(iI:∃h',Pq h h'):a3z f call (.fn f [] []) args h=some (.int k n,h,[]):=by
 have hx:∃v,afe f call (.fn f [] []) args h v:=⟨_,hb⟩;unfold a3z;rw[dif_pos hx];obtain⟨h',hu⟩:=iI;obtain⟨h2,h1⟩:=(a9k hx).2.2 h' hu;obtain⟨h3,h4⟩:=hb.2.2 h' hu;rw[h4]at h1;have:Classical.choose hx=.int k n:=by
  simp only[a04,a0w]at h1;exact h1.1.symm
 rw[this]
end Tw
namespace Go.Proofs.YtmobpoiejckagaaGreat
def Tb:Tw.qQ:={
 live:=[(9,[(0,[2,3]),(1,[2,3,22]),(2,[4]),(3,[2,3,5]),(4,[2,3,5,6]),(5,[2,3,5,6,28]),(6,[2,3,5,6]),(7,[2,3,5,6,7,8]),(8,[2,3,5,6,7,51]),(9,[4]),(10,[2,3,5,6]),(11,[2,3,5,9,10]),(12,[2,3,5,9,10,11,12]),(13,[2,3,5,9,11,70]),(14,[4]),(15,[2,3,5,13,14]),(16,[2,3,5,14,15,16]),(17,[2,5,14,15,16,17,18]),(18,[4])]),
  (18,[(0,[1]),(1,[1,21]),(2,[2]),(3,[1,3]),(4,[1,3,26]),(5,[1,3]),(6,[1,3,36]),(7,[2]),(8,[2])]),
  (19,[(0,[]),(1,[1,2]),(2,[1,2,3,4]),(3,[1,2,3,4,5,6]),(4,[1,2,3,4,5,6,7,8]),(5,[1,2,3,4,5,6,7,8,9,10]),(6,[1,2,3,4,5,6,7,8,9,10,11,12]),(7,[1,2,3,4,5,6,7,8,9,10,11,12,13,14]),(8,[1,2,3,4,5,6,7,8,9,10,11,12,13,14,15,16]),(9,[1,2,3,4,5,6,7,8,9,10,11,12,13,14,16,17,18]),(10,[1,2,3,4,5,6,7,8,9,10,11,12,13,14,16,17,18,19,20]),(11,[1,3,4,5,6,7,8,9,10,11,12,13,14,16,17,18,20,21,22]),(12,[0])]),
  (20,[(0,[1,2,3,6]),(1,[1,2,3,6,8]),(2,[1,2,3,6,8,14]),(3,[6,7]),(4,[1,2,3,6,34]),(5,[6,7]),(6,[1,2,6,9]),(7,[6,9]),(8,[6,7])]),
  (21,[(0,[1,2]),(1,[1,2,3]),(2,[1,2,3,4]),(3,[1,2,3,4,21]),(4,[1,2,3,4]),(5,[1,2,3,4]),(6,[2])]),
  (22,[(0,[1]),(1,[1,3]),(2,[1,3,7]),(3,[2]),(4,[11]),(5,[2]),(6,[2])]),
  (23,[(0,[0,1,2]),(1,[6])]),
  (25,[(0,[1,3,5]),(1,[6])]),
  (27,[(0,[2,3]),(1,[3,6,7]),(2,[3,6,7,15]),(3,[4,5]),(4,[4,5])]),
  (28,[(0,[2,3]),(1,[3,6,7]),(2,[3,6,7,17]),(3,[4,5]),(4,[3,6,21]),(5,[4,5]),(6,[3,6,29,30,31]),(7,[3,6,29,30,31,32]),(8,[3,6,8,9,29,30,31]),(9,[3,6,8,29,30,31,36,37]),(10,[3,6,8,29,30,31,36,37,38]),(11,[3,6,8,10,29,30,31,36,37]),(12,[3,6,8,29,30,31,36,37]),(13,[3,6,8,29,30,31,36,37,49]),(14,[3,6,8,29,30,31,36,37]),(15,[3,6,29,30,31]),(16,[4,5])]),
  (29,[(0,[1]),(1,[1,5]),(2,[2]),(3,[2])]),
  (32,[(0,[0,1]),(1,[0,1,10]),(2,[4]),(3,[0,1,5]),(4,[0,1,5,14]),(5,[0,1,5]),(6,[0,1,5,25]),(7,[4]),(8,[4])]),
  (33,[(0,[0,4,5,6]),(1,[0,4,5,6,8]),(2,[0,4,5,6,8,17]),(3,[6,7]),(4,[0,4,5,6,25]),(5,[6,7]),(6,[0,6,9]),(7,[0,6,9]),(8,[0,6,9,36]),(9,[6]),(10,[6,7]),(11,[0,6,9,10,11]),(12,[6,9,10,11,44]),(13,[6]),(14,[6,9,10,11,44,49]),(15,[6]),(16,[6,9,10,11,44,58]),(17,[6]),(18,[6,9,10,11,44,65]),(19,[6]),(20,[6,10,11,71]),(21,[6,10]),(22,[6,10]),(23,[6,10,81]),(24,[6]),(25,[6,7])]),
  (34,[(0,[0]),(1,[0,3]),(2,[0,3,9]),(3,[0,3]),(4,[0,3,4]),(5,[0,3,4,18]),(6,[2]),(7,[0,5]),(8,[0,5,23]),(9,[0,5]),(10,[0,5,34]),(11,[2]),(12,[2])]),
  (35,[(0,[2,3]),(1,[2,3,69]),(2,[4]),(3,[2,3,5]),(4,[2,3,5,74]),(5,[2,3,5]),(6,[2,3,5,87]),(7,[4]),(8,[4])]),
  (39,[(0,[0,3,4]),(1,[0,3,4,12]),(2,[4,5]),(3,[0,3,4,5]),(4,[0,3,4,5,20]),(5,[4,5]),(6,[0,3,4,25]),(7,[4,5]),(8,[0,3,4]),(9,[3,4,31,32,33]),(10,[3,4,31,32,33,34]),(11,[3,4,6,7,31,32,33]),(12,[3,4,6,8,31,32,33]),(13,[3,4,6,8,31,32,33,45]),(14,[4]),(15,[4,5]),(16,[3,4,6,9,31,32,33]),(17,[3,4,6,9,31,32,33,59]),(18,[3,4,31,32,33]),(19,[3,4,31,32,33]),(20,[4,5])]),
  (42,[(0,[2,3]),(1,[4])]),
  (43,[(0,[0,4,5,6]),(1,[4,6,8,9]),(2,[6,7])]),
  (44,[(0,[1]),(1,[1,3]),(2,[1,3,7]),(3,[2]),(4,[1,3,4]),(5,[1,3,4,12]),(6,[1,3,4]),(7,[1,3,4]),(8,[2])]),
  (45,[(0,[0,4,5,6]),(1,[0,4,5,6,11]),(2,[0,4,5,6,11,12]),(3,[6,7]),(4,[0,4,5,6,20]),(5,[6,7]),(6,[4,5,6,8]),(7,[4,5,6,8,38]),(8,[6,7]),(9,[4,5,6,8,9,10]),(10,[4,5,6,8,9,47]),(11,[6,7]),(12,[6,7])]),
  (47,[(0,[1,2]),(1,[1,2,4,5]),(2,[2,3])]),
  (48,[(0,[0,2]),(1,[2])]),
  (49,[(0,[0]),(1,[2])]),
  (53,[(0,[0,1]),(1,[0,1,5]),(2,[0,1,5,6]),(3,[0,1,5,6,14]),(4,[0,1,5,6]),(5,[0,1,5,6]),(6,[0,1,5,6]),(7,[4])]),
  (54,[(0,[0,1]),(1,[0,1,12]),(2,[4]),(3,[4])]),
  (57,[(0,[0,1,2,3,8]),(1,[0,1,2,3,8,10]),(2,[0,1,2,3,8,10,17]),(3,[8,9]),(4,[0,1,2,3,8,36]),(5,[8,9]),(6,[0,2,3,8,11]),(7,[3,8,11,47,48]),(8,[3,8,11,47,48,49]),(9,[3,8,11,12,47,48]),(10,[3,8,11,12,47,48]),(11,[3,8,11,47,48]),(12,[3,8,11,47,48]),(13,[8,9])]),
  (58,[(0,[0,1]),(1,[0,1,8]),(2,[4]),(3,[0,1,5]),(4,[0,1,5,12]),(5,[0,1,5]),(6,[0,1,5,20]),(7,[4]),(8,[0,1,23]),(9,[4]),(10,[27]),(11,[4]),(12,[4])]),
  (62,[(0,[3,4,5,6]),(1,[3,4,5,6,8]),(2,[3,4,5,6,8,16]),(3,[6,7]),(4,[3,4,5,6,10]),(5,[3,4,5,6,10,27]),(6,[6,7]),(7,[6,7])]),
  (63,[(0,[3,4,5,6]),(1,[3,4,5,6,8]),(2,[3,4,5,6,8,15]),(3,[6,7]),(4,[6,7])]),
  (67,[(0,[1,2]),(1,[1,2,4]),(2,[1,2,4,9]),(3,[2,3]),(4,[2,3])]),
  (70,[(0,[2,3]),(1,[4])]),
  (72,[(0,[2,3]),(1,[2,3,43]),(2,[4]),(3,[2,3,5]),(4,[2,3,5,48]),(5,[2,3,5]),(6,[2,3,5,79]),(7,[4]),(8,[4])]),
  (73,[(0,[0,1]),(1,[0,1,2]),(2,[0,1,2,3]),(3,[0,1])]),
  (74,[(0,[1,2,3]),(1,[1,2,3,7]),(2,[1,2,3,7,8]),(3,[1,2,3,7,8,12]),(4,[1,2,3,7,8]),(5,[1,2,3,7,8]),(6,[6])]),
  (75,[(0,[0,1]),(1,[0,1,10]),(2,[4]),(3,[0,1,5]),(4,[0,1,5,14]),(5,[0,1,5]),(6,[0,1,5,25]),(7,[4]),(8,[4])]),
  (76,[(0,[0]),(1,[0,6,7,8]),(2,[0,6,7,8,9]),(3,[0,4,6,7,8]),(4,[0,5,6,7,8]),(5,[0,5,6,7,8,15]),(6,[2]),(7,[0,6,7,8]),(8,[30]),(9,[2]),(10,[2])]),
  (77,[(0,[0,1,2]),(1,[6])]),
  (78,[(0,[0,1,4]),(1,[4])]),
  (79,[(0,[0,2]),(1,[2])]),
  (80,[(0,[1,2]),(1,[1,2,3]),(2,[1,2,3,4]),(3,[1,2,3,4,5]),(4,[1,2,3,5]),(5,[2,3]),(6,[2,6]),(7,[2])]),
  (81,[(0,[0]),(1,[2])]),
  (82,[(0,[0]),(1,[2])]),
  (83,[(0,[1]),(1,[1,3]),(2,[1,3,10]),(3,[2]),(4,[1,15]),(5,[2]),(6,[18]),(7,[2]),(8,[2])]),
  (84,[(0,[1]),(1,[1,3]),(2,[1,3,13]),(3,[1,3]),(4,[1,3,4]),(5,[1,3,4,18]),(6,[1,3,4]),(7,[1,3,4,31]),(8,[2]),(9,[1,5]),(10,[1,5,36]),(11,[1,5]),(12,[1,5,44]),(13,[2]),(14,[1,5,6]),(15,[1,5,6,47]),(16,[1,5,6]),(17,[1,5,6,77]),(18,[2]),(19,[1,7,8]),(20,[2])]),
  (86,[(0,[2,3,4]),(1,[2,3,4,6]),(2,[2,3,4,6,11]),(3,[4,5]),(4,[2,4,16]),(5,[4,5]),(6,[4,5])]),
  (87,[(0,[1,2]),(1,[1,2,3]),(2,[2,3,8]),(3,[3,4,10]),(4,[3,4,5]),(5,[3,4,5,15]),(6,[]),(7,[2])]),
  (88,[(0,[0,2,3]),(1,[2,3,6]),(2,[2,3,6,8]),(3,[2,3,4,6]),(4,[2,3,4,6,13]),(5,[2,3,6]),(6,[2,3,6]),(7,[2,3]),(8,[2,3])]),
  (89,[(0,[0]),(1,[0])]),
  (90,[(0,[0,2]),(1,[2,6]),(2,[2,6,8]),(3,[2,4,6]),(4,[2,6]),(5,[2])]),
  (93,[(0,[0]),(1,[2])]),
  (94,[(0,[0]),(1,[0,7]),(2,[0]),(3,[0,3]),(4,[0,3,4]),(5,[0,3,4,15]),(6,[0,3,4]),(7,[0,3,4]),(8,[2])]),
  (95,[(0,[0]),(1,[2])]),
  (96,[(0,[1]),(1,[2])]),
  (98,[(0,[1,2,4]),(1,[1,2,4,5]),(2,[1,2,4,5,9]),(3,[1,2,4,5]),(4,[4])]),
  (99,[(0,[3,4,5,6]),(1,[3,4,5,6,8]),(2,[6,7]),(3,[3,4,5,6,16]),(4,[6,7]),(5,[4,5,6,21]),(6,[6,7]),(7,[6,7])]),
  (100,[(0,[0,2]),(1,[0,2,6]),(2,[2]),(3,[2])]),
  (101,[(0,[0]),(1,[3]),(2,[3,4]),(3,[2]),(4,[3,6]),(5,[2]),(6,[3,8]),(7,[2]),(8,[3,10]),(9,[2]),(10,[3,13]),(11,[2]),(12,[3,16]),(13,[2]),(14,[3,19]),(15,[2]),(16,[22]),(17,[2]),(18,[2])]),
  (102,[(0,[0]),(1,[2])]),
  (103,[(0,[0,2]),(1,[0,2,4]),(2,[0,2,4,8]),(3,[2,3]),(4,[2,3])]),
  (104,[(0,[0,1]),(1,[0,1,5]),(2,[0,5,6]),(3,[0,5,6,11]),(4,[0,5,6]),(5,[0,5,6]),(6,[4])]),
  (105,[(0,[0,1]),(1,[0,1,9]),(2,[4]),(3,[0,1,13]),(4,[4]),(5,[0,1,5]),(6,[0,1,5,17,18,19]),(7,[0,1,5,17,18,19,20]),(8,[0,1,5,7,17,18,19]),(9,[0,1,5,17,18,19]),(10,[0,1,5,17,18,19]),(11,[0,1,28]),(12,[4]),(13,[0,8]),(14,[0,8]),(15,[38]),(16,[4]),(17,[4])]),
  (106,[(0,[1]),(1,[5]),(2,[2]),(3,[2])]),
  (108,[(0,[1,2]),(1,[2,4,5]),(2,[2,4,5,12]),(3,[2,3]),(4,[2,3])]),
  (109,[(0,[0,1]),(1,[0,1,11]),(2,[4]),(3,[0,1,5]),(4,[0,1,5,15]),(5,[0,1,5]),(6,[0,1,5,26]),(7,[4]),(8,[0,1,5,6]),(9,[0,1,5,6,29]),(10,[0,1,5,6]),(11,[0,1,5,6,40]),(12,[4]),(13,[4])]),
  (112,[(0,[0,1,3]),(1,[3,4]),(2,[3])]),
  (113,[(0,[0,2]),(1,[2,3]),(2,[2])]),
  (117,[(0,[0,2]),(1,[2,4]),(2,[2]),(3,[2])]),
  (121,[(0,[1]),(1,[4]),(2,[2])]),
  (122,[(0,[1,2]),(1,[4])]),
  (123,[(0,[2,3]),(1,[4])]),
  (124,[(0,[0,1]),(1,[0,1,10]),(2,[0,1]),(3,[0,5,6]),(4,[0,6,26]),(5,[0,6]),(6,[0,7]),(7,[7,8]),(8,[7,8,37]),(9,[7,8]),(10,[4])]),
  (125,[(0,[0]),(1,[0,4]),(2,[2]),(3,[2])]),
  (126,[(0,[1,2,3,4,5,6]),(1,[1,2,3,4,5,6,32]),(2,[1,2,3,4,5,6]),(3,[1,2,3,4,5,6,40]),(4,[3]),(5,[8]),(6,[1,2,3,4,5,6,9]),(7,[1,2,3,4,5,6,9,10]),(8,[1,2,3,4,5,6,9,10,68]),(9,[8]),(10,[1,2,3,4,5,6,9,11,12]),(11,[1,2,3,4,5,6,9,11,84]),(12,[8]),(13,[1,2,3,4,5,6,9,13]),(14,[1,2,3,4,5,6,9,13,93,94]),(15,[1,2,3,4,5,6,9,13,93,94,95]),(16,[1,2,3,4,5,6,9,13,14,93,94]),(17,[1,2,3,4,5,6,9,13,93,94]),(18,[1,2,3,4,5,6,9,13,93,94]),(19,[3,5,6,13]),(20,[5,6]),(21,[8])]),
  (127,[(0,[2,3,4]),(1,[2,4,10,11,12]),(2,[2,4,10,11,12,13]),(3,[2,4,7,8,10,11,12]),(4,[2,4,10,11,12,32]),(5,[6]),(6,[2,4,10,11,12]),(7,[6])]),
  (128,[(0,[2,3,4]),(1,[3,4,8,9,10]),(2,[3,4,8,9,10,11]),(3,[3,4,5,6,8,9,10]),(4,[3,4,8,9,10]),(5,[3,4,8,9,10]),(6,[4])]),
  (129,[(0,[2,3,4,5,8]),(1,[2,3,5,8,12,13,14]),(2,[2,3,5,8,12,13,14,15]),(3,[2,3,5,8,9,10,12,13,14]),(4,[2,3,5,8,9,10,12,13,14,34]),(5,[2,3,5,8,12,13,14]),(6,[2,3,5,8,12,13,14]),(7,[8])]),
  (130,[(0,[1,2]),(1,[2,6,7,8]),(2,[2,6,7,8,9]),(3,[2,3,4,6,7,8]),(4,[2,6,7,8]),(5,[2,6,7,8]),(6,[2])]),
  (131,[(0,[1]),(1,[1,3]),(2,[1,3,11]),(3,[1,3]),(4,[1,3,20]),(5,[2]),(6,[1,4]),(7,[1,4,25]),(8,[1,4]),(9,[1,4,5]),(10,[1,4,5,52]),(11,[2]),(12,[1,4,5,6]),(13,[1,4,5,6,57]),(14,[1,4,5,6]),(15,[1,4,5,6,81]),(16,[2]),(17,[2])]),
  (132,[(0,[1]),(1,[1,3]),(2,[1,3,8]),(3,[1,3]),(4,[1,3,20]),(5,[2]),(6,[2])]),
  (133,[(0,[1,2,3,4]),(1,[1,2,3,4,13]),(2,[1,2,3,18]),(3,[2,3]),(4,[8,9]),(5,[1,2,3,4,28]),(6,[8,9]),(7,[1,2,3,4,10]),(8,[1,2,3,4,10,11]),(9,[1,2,3,4,10,11,40]),(10,[1,2,3,4,10,11]),(11,[1,2,3,4,10,11]),(12,[8,9])]),
  (134,[(0,[0,1]),(1,[0,1,5]),(2,[0,1,5,9]),(3,[0,1,5]),(4,[0,1,5,17]),(5,[4]),(6,[4])]),
  (136,[(0,[1,2]),(1,[1,2,4]),(2,[1,2,4,21,22,23]),(3,[1,2,4,21,22,23,24]),(4,[1,2,4,6,21,22,23]),(5,[1,2,4,6,7,21,22,23]),(6,[1,2,6,7,21,22,23,29]),(7,[1,2,6,7,21,22,23,29,31]),(8,[1,2,6,7,8,9,21,22,23,29]),(9,[1,2,6,7,8,9,10,21,22,23,29]),(10,[1,2,6,7,8,9,10,11,21,22,23,29]),(11,[1,2,6,7,8,9,10,11,21,22,23,29,46]),(12,[1,2,6,7,21,22,23,29]),(13,[1,2,6,7,8,9,10,21,22,23,29,60]),(14,[1,2,6,7,21,22,23,29]),(15,[1,2,6,7,8,9,21,22,23,29,75,76]),(16,[1,2,6,7,8,9,21,22,23,29,75,76,77]),(17,[1,2,6,7,8,9,12,21,22,23,29,75,76]),(18,[1,2,6,7,8,9,21,22,23,29,75,76]),(19,[1,2,6,7,8,9,21,22,23,29,75,76]),(20,[1,2,4,21,22,23]),(21,[1,2,4,21,22,23]),(22,[1,2,94]),(23,[1,2,94,96]),(24,[1,2,13,14,94]),(25,[1,2,94,106])]),
  (137,[(0,[0,2]),(1,[])]),
  (138,[(0,[1,2,4]),(1,[2,4,6]),(2,[2,5]),(3,[]),(4,[4])]),
  (139,[(0,[0,6]),(1,[0,6,8]),(2,[0,4,6]),(3,[0,6,14])]),
  (140,[(0,[2,3,4]),(1,[6])]),
  (141,[(0,[0,2]),(1,[2])]),
  (142,[(0,[0,1,4]),(1,[4])]),
  (143,[(0,[0,1,4]),(1,[4])]),
  (144,[(0,[0,1,4]),(1,[4])]),
  (145,[(0,[1]),(1,[2])]),
  (146,[(0,[0]),(1,[4])]),
  (147,[(0,[1]),(1,[4])]),
  (148,[(0,[1]),(1,[2])]),
  (149,[(0,[0]),(1,[2])]),
  (150,[(0,[0]),(1,[2])]),
  (151,[(0,[0]),(1,[2])]),
  (152,[(0,[0,1]),(1,[4])]),
  (153,[(0,[1]),(1,[2])]),
  (154,[(0,[1]),(1,[1,5]),(2,[2]),(3,[2])]),
  (155,[(0,[0,1]),(1,[0,1,7,8]),(2,[0,1,7,8,9]),(3,[0,1,5,7,8]),(4,[0,1,5,7,8,16]),(5,[4]),(6,[0,1,7,8]),(7,[4])]),
  (156,[(0,[1]),(1,[2])]),
  (157,[(0,[2,3,4]),(1,[6])]),
  (158,[(0,[0,1]),(1,[0,1,10]),(2,[4]),(3,[0,1,12,13]),(4,[0,1,12,13,14]),(5,[0,1,5,12,13]),(6,[0,1,12,13,24]),(7,[4]),(8,[0,1,12,13]),(9,[4])]),
  (159,[(0,[0]),(1,[0,3]),(2,[3,7,8]),(3,[3,7,8,9]),(4,[3,4,7,8]),(5,[3,7,8]),(6,[3,7,8]),(7,[2])]),
  (160,[(0,[1,2]),(1,[1,2,4]),(2,[1,2,4,11]),(3,[2,3]),(4,[1,2]),(5,[1,2,21]),(6,[2,3]),(7,[1,2,27]),(8,[1,2,27]),(9,[2,27]),(10,[2,3]),(11,[2,3])]),
  (161,[(0,[1,2]),(1,[1,2,3]),(2,[1,2,3,4]),(3,[1,2,3,4,5]),(4,[1,2,3,5]),(5,[2,3]),(6,[2])]),
  (168,[(0,[1,2]),(1,[4])]),
  (169,[(0,[1]),(1,[2])]),
  (172,[(0,[1,2]),(1,[1,2,3]),(2,[2,3,17]),(3,[2,3]),(4,[2,3])]),
  (173,[(0,[0,1]),(1,[4])]),
  (174,[(0,[1,2]),(1,[3])]),
  (175,[(0,[0,1]),(1,[6,7]),(2,[4,5]),(3,[8,9]),(4,[4,5])]),
  (176,[(0,[1,2,3]),(1,[1,2,3,8]),(2,[6]),(3,[6])]),
  (177,[(0,[1,2]),(1,[1,2,5]),(2,[1,2,5,14]),(3,[1,2,5]),(4,[1,2,5,28]),(5,[4]),(6,[4])]),
  (178,[(0,[0,1]),(1,[0,1,5]),(2,[0,1,5,9]),(3,[0,1,5]),(4,[0,1,5,17]),(5,[4]),(6,[4])]),
  (181,[(0,[0,1]),(1,[4])]),
  (182,[(0,[0,1,2]),(1,[4])]),
  (183,[(0,[0,1,2,5]),(1,[0,1,2,5,7]),(2,[5]),(3,[5])]),
  (184,[(0,[0,1]),(1,[1,4,5]),(2,[1,4,5,20]),(3,[4,5]),(4,[4,5])]),
  (185,[(0,[0,1,2,5]),(1,[5])]),
  (186,[(0,[0,2]),(1,[2,3]),(2,[2]),(3,[2])]),
  (187,[(0,[0,1]),(1,[0,1,5]),(2,[0,1,5,6]),(3,[0,1,6,11]),(4,[12]),(5,[4]),(6,[4]),(7,[0,1,13]),(8,[4]),(9,[0,1,16]),(10,[4]),(11,[19]),(12,[4]),(13,[4])]),
  (188,[(0,[0,1,2]),(1,[4])]),
  (189,[(0,[0,3]),(1,[4])]),
  (190,[(0,[1]),(1,[1,5]),(2,[2]),(3,[2])]),
  (191,[(0,[0,3]),(1,[4])]),
  (192,[(0,[2,3]),(1,[2,3,5]),(2,[2,3,5,34]),(3,[4]),(4,[4])]),
  (193,[(0,[1,2,3,4]),(1,[1,2,3,4,10]),(2,[8]),(3,[8])]),
  (194,[(0,[1]),(1,[2])]),
  (195,[(0,[0,1,2,3,4]),(1,[0,1,2,3,4,14]),(2,[6]),(3,[0,1,2,3,4,7,8]),(4,[0,1,2,3,4,7,30]),(5,[6]),(6,[0,1,3,4,9]),(7,[0,1,3,4,9,10]),(8,[0,1,3,4,9,10,43,44,45]),(9,[0,1,3,4,9,10,43,44,45,46]),(10,[0,1,3,4,9,10,11,12,43,44,45]),(11,[0,1,3,4,9,10,43,44,45]),(12,[0,1,3,4,9,10,43,44,45]),(13,[0,3]),(14,[6])]),
  (196,[(0,[0,3]),(1,[0,3,5,6]),(2,[0,3,5,17]),(3,[0,3,5]),(4,[0,3,5]),(5,[5]),(6,[4])]),
  (197,[(0,[0]),(1,[2])]),
  (198,[(0,[0,1,5]),(1,[0,1,5,12]),(2,[6]),(3,[0,1,5,7]),(4,[0,1,5,7]),(5,[0,1,5,7,8,9]),(6,[0,1,5,7,8,32]),(7,[0,1,5,7,8]),(8,[0,1,5,8]),(9,[8]),(10,[6])]),
  (201,[(0,[1,2]),(1,[3])]),
  (203,[(0,[2,3]),(1,[2,3,5]),(2,[4])]),
  (204,[(0,[0,1]),(1,[0,1,7,8]),(2,[0,1,7,8,9]),(3,[0,1,5,7,8]),(4,[0,1,5,7,8,16]),(5,[4]),(6,[0,1,7,8]),(7,[4])]),
  (205,[(0,[0,1]),(1,[6]),(2,[4,5])]),
  (206,[(0,[0,1]),(1,[0,1,6]),(2,[0,1,6,7]),(3,[0,1,6,7,8]),(4,[0,1,6,7,8,9]),(5,[0,1,6,7,8,9,10]),(6,[0,1,6,7,9,11]),(7,[0,1,6,7,9,11,12]),(8,[0,1,6,7,9,12,13]),(9,[0,1,7,9,12,13]),(10,[0,1,4]),(11,[4,5])]),
  (218,[(0,[0,1]),(1,[0,1,7,8]),(2,[0,1,7,8,9]),(3,[0,1,5,7,8]),(4,[0,1,5,7,8,16]),(5,[4]),(6,[0,1,7,8]),(7,[4])]),
  (219,[(0,[0]),(1,[2])]),
  (220,[(0,[1,2]),(1,[3])]),
  (221,[(0,[0,1]),(1,[3])]),
  (222,[(0,[0,1,2,3]),(1,[5])]),
  (223,[(0,[1,2]),(1,[4])]),
  (224,[(0,[0,1]),(1,[3])]),
  (226,[(0,[2,3]),(1,[4])]),
  (227,[(0,[0,1]),(1,[0,1,10]),(2,[4]),(3,[0,1,12,13]),(4,[0,1,12,13,14]),(5,[0,1,5,12,13]),(6,[0,1,12,13,24]),(7,[4]),(8,[0,1,12,13]),(9,[4])]),
  (228,[(0,[0,1,2]),(1,[0,1,2,14]),(2,[6]),(3,[1,2,15,16,17]),(4,[1,2,15,16,17,18]),(5,[1,2,7,8,15,16,17]),(6,[1,2,8,9,15,16,17]),(7,[1,2,15,16,17,30]),(8,[6]),(9,[1,2,15,16,17]),(10,[6])]),
  (234,[(0,[0,1]),(1,[0,1,7,8]),(2,[0,1,7,8,9]),(3,[0,1,5,7,8]),(4,[0,1,5,7,8,16]),(5,[4]),(6,[0,1,7,8]),(7,[4])])],
 head:=[(9,[(5,[2,3,5,6])]),
  (18,[(4,[1,3])]),
  (21,[(3,[1,2,3,4])]),
  (28,[(7,[3,6,29,30,31]),(10,[3,6,8,29,30,31,36,37])]),
  (32,[(4,[0,1,5])]),
  (34,[(2,[0,3]),(8,[0,5])]),
  (35,[(4,[2,3,5])]),
  (39,[(10,[3,4,31,32,33])]),
  (44,[(5,[1,3,4])]),
  (53,[(3,[0,1,5,6])]),
  (57,[(8,[3,8,11,47,48])]),
  (58,[(4,[0,1,5])]),
  (72,[(4,[2,3,5])]),
  (74,[(3,[1,2,3,7,8])]),
  (75,[(4,[0,1,5])]),
  (76,[(2,[0,6,7,8])]),
  (84,[(2,[1,3]),(5,[1,3,4]),(10,[1,5]),(15,[1,5,6])]),
  (88,[(2,[2,3,6])]),
  (90,[(2,[2,6])]),
  (94,[(5,[0,3,4])]),
  (98,[(2,[1,2,4,5])]),
  (104,[(3,[0,5,6])]),
  (105,[(7,[0,1,5,17,18,19])]),
  (109,[(4,[0,1,5]),(9,[0,1,5,6])]),
  (124,[(8,[7,8])]),
  (126,[(1,[1,2,3,4,5,6]),(15,[1,2,3,4,5,6,9,13,93,94])]),
  (127,[(2,[2,4,10,11,12])]),
  (128,[(2,[3,4,8,9,10])]),
  (129,[(2,[2,3,5,8,12,13,14])]),
  (130,[(2,[2,6,7,8])]),
  (131,[(2,[1,3]),(7,[1,4]),(13,[1,4,5,6])]),
  (132,[(2,[1,3])]),
  (133,[(9,[1,2,3,4,10,11])]),
  (134,[(2,[0,1,5])]),
  (136,[(3,[1,2,4,21,22,23]),(7,[1,2,6,7,21,22,23,29]),(16,[1,2,6,7,8,9,21,22,23,29,75,76]),(23,[1,2,94])]),
  (139,[(1,[0,6])]),
  (155,[(2,[0,1,7,8])]),
  (158,[(4,[0,1,12,13])]),
  (159,[(3,[3,7,8])]),
  (177,[(2,[1,2,5])]),
  (178,[(2,[0,1,5])]),
  (195,[(9,[0,1,3,4,9,10,43,44,45])]),
  (204,[(2,[0,1,7,8])]),
  (218,[(2,[0,1,7,8])]),
  (227,[(4,[0,1,12,13])]),
  (228,[(4,[1,2,15,16,17])]),
  (234,[(2,[0,1,7,8])])],
 site:=[(61,[2]),(62,[3]),(80,[1,3,4,5]),(87,[1,3]),(96,[1]),(122,[2]),(138,[2]),(140,[3,4]),(145,[1]),(148,[1]),(157,[3,4]),(161,[1,3,4,5]),(168,[2]),(189,[3]),(191,[3]),(192,[2,3,5]),(194,[14]),(198,[5,7]),(209,[7]),(210,[9])] }
def Tm:Tw.qQ:={ Tb with exts:=[],ext:=fun _ _ _=>none }
open Tw in
def aff:bf:=fun fv xs h=>match fv with
 |.fn f a b=>if f=94 then a3z 94 (lF Tryz.prog Tm (2^24) 2) (.fn f a b) xs h else Po 137 (.fn f a b) xs h
 |fv=>Po 137 fv xs h
def T:Tw.qQ:={ Tb with exts:=[94,137],ext:=aff,dem:=[87,88,90,138],din:=[136,139],a9p:=[138] }
end Go.Proofs.YtmobpoiejckagaaGreat
namespace Tw
open Go Go.ChangeShapes
section
variable {H:Type} {nP:TypeId×Value->H} {P:Program} {w:World}
def Rd(nP:TypeId×Value->H)(P:Program)(w:World)(t:TypeId)(d:DataW H):Prop:=∃cs,Reads nP P w t cs d
theorem afg{t:TypeId}{k:IntKind}{d:DataW H}(ht:P.underlying t=some (.int k))(hd:Rd nP P w t d):∃n,d=.lit (.int k n)∧(Lit.int k n).wf=true:=by
 obtain⟨cs,fuel,ps,hd⟩:=hd;cases fuel with
 |zero=>simp[DataW.trod]at hd
 |succ n=>
  unfold DataW.trod at hd;rw[ht]at hd;split at hd<;>simp_all
  obtain⟨⟨_,h1⟩,rfl,_⟩:=hd;exact⟨_,rfl,h1⟩
theorem a3A{t:TypeId}{fs:Array Field}{d:DataW H}(ht:P.underlying t=some (.struct fs))(hd:Rd nP P w t d) :
  ∃ds,d=.agg ds∧ds.length=fs.size∧∀(i:Nat) f d',fs[i]? = some f->ds[i]? = some d'->Rd nP P w f.type d':=by
 obtain⟨cs,fuel,ps,hd⟩:=hd;obtain⟨zs,n,_,hx,qE,YI,Kz⟩:=DataW.trod_struct ht hd;simp only[a0w]at hx;refine⟨zs.map (·.1),hx.1,by simpa using YI,fun i f d' e1 e2=>?_⟩;simp only[a4H,a07]at e2;obtain⟨z,hz,rfl⟩:=e2;exact⟨_,n,z.2,by rw[Kz i f e1,hz]⟩
theorem a6V{t e:TypeId}{d:DataW H}(ht:P.underlying t=some (.slice e))(hd:Rd nP P w t d) :
  d=.nil∨∃xs ys,d=.slice xs ys∧∀y∈xs++ys,Rd nP P w e y:=by
 obtain⟨cs,fuel,ps,hd⟩:=hd;rcases Deep.open_slice ht hd with⟨rfl,hx⟩|⟨a,len,cap,m,n,Dt,Pl,rfl,_,hlc,_,hm,hx,Kz⟩
 .left;cases hx;rfl
 .right;simp only[a2k]at hm;subst hm;simp only[a0w]at hx;refine⟨_,_,hx.1,fun y hy=>?_⟩;have:∃i,i<m∧y=Dt i:=by
   rcases a2L.mp hy with hy|hy
   .obtain⟨i,hi,rfl⟩:=a0H.mp hy;exact⟨i,by have:=a4L.mp hi;omega,rfl⟩
   .obtain⟨i,hi,rfl⟩:=a0H.mp hy;exact⟨len+i,by have:=a4L.mp hi;omega,rfl⟩
  obtain⟨i,hi,rfl⟩:=this;obtain⟨cs',_,e2⟩:=Kz i hi;exact⟨cs',n,_,e2⟩
theorem XG{t:TypeId}{fs:Array Field}{g:Nat}{ds:List (DataW H)}{h:List HB}(ht:P.underlying t=some (.struct fs)) :
  EM P (g+1) t (.agg ds) h=match Ox P (EM P g) 0 fs.toList ds h with
   |some (cs,h1)=>if cs.length=P.cellsOf t then some (cs,h1)else none
   |none=>none:=by
 simp only[EM,ht]<;>rfl
end
end Tw
namespace Go.Proofs.YtmobpoiejckagaaGreat
open Go Tw Pv
structure Rw where
 fr:List Int
 to:List Int
 cell:V
 deriving DecidableEq
structure Br where
 var:Int
 aA:List Int
 deriving DecidableEq
structure Dg where
 aj:List Int
 aB:List Int
 aI:List V
 au:List Br
 root:Int
 deriving DecidableEq
structure Ld where
 s:List Int
 cells:List V
 deriving DecidableEq
structure Fc where
 name:ByteArray
 d:Dg
 deriving DecidableEq
structure Pc where
 facts:Int
 goal:Bool
 deriving DecidableEq
abbrev jU:Dg:=⟨[],[],[],[],0⟩
abbrev Fc0:Fc:=⟨⟨#[]⟩,jU⟩
abbrev Pc0:Pc:=⟨0,false⟩
abbrev Rw0:Rw:=⟨[],[],V0⟩
abbrev kW:Br:=⟨0,[]⟩
abbrev Ld0:Ld:=⟨[],[]⟩
inductive Kd where
 |i64|u8|u16|u64|b|o|k|v|rw|br|tb|vs|ld|dg|is|fc|pc|bl|bs|no
def Kd.T:Kd->Type
 |.i64|.u8|.u16|.u64=>Int
 |.dg=>Dg
 |.is=>List Int
 |.fc=>Fc
 |.pc=>Pc
 |.bl=>Bool
 |.bs=>List Bool
 |.b=>B
 |.o=>O
 |.k=>K
 |.v=>V
 |.rw=>Rw
 |.br=>Br
 |.tb=>List Rw
 |.vs=>List V
 |.ld=>Ld
 |.no=>Unit
def kd(t:Nat):Kd:=match t with
 | 3=>.i64
 | 5=>.u8
 | 900001=>.b
 | 900002=>.o
 | 900003=>.k
 | 900004=>.u16
 | 900005=>.u64
 | 26=>.dg
 | 22=>.is
 | 900006=>.fc
 | 900007=>.pc
 | 4=>.bl
 | 900008=>.bs
 | 39=>.v
 | 900009=>.rw
 | 105=>.br
 | 900010=>.tb
 | 23=>.vs
 | 900011=>.ld
 |_=>.no
def aG(t:Nat):Type:=(kd t).T
def Kd.z:(k:Kd)->k.T
 |.i64|.u8|.u16|.u64=>(0:Int)
 |.dg=>jU
 |.is=>([]:List Int)
 |.fc=>Fc0
 |.pc=>Pc0
 |.bl=>false
 |.bs=>([]:List Bool)
 |.b=>B0
 |.o=>O0
 |.k=>K0
 |.v=>V0
 |.rw=>Rw0
 |.br=>kW
 |.tb=>([]:List Rw)
 |.vs=>([]:List V)
 |.ld=>Ld0
 |.no=>()
abbrev lI(l:List Int):PV aG:=.dF 3 l false
abbrev lV(l:List V):PV aG:=.dF 39 l false
abbrev lRw(l:List Rw):PV aG:=.dF 900009 l false
abbrev lBr(l:List Br):PV aG:=.dF 105 l false
abbrev lDg(l:List Dg):PV aG:=.dF 26 l false
abbrev lB(l:List Bool):PV aG:=.dF 4 l false
def B.ps(b:B):List (PV aG):=[.int .i64 b.lo,.int .i64 b.hi,.int .u8 b.f]
def O.ps(o:O):List (PV aG):=[.int .u8 o.code,.int .i64 o.a,.int .i64 o.b,.int .i64 o.c,.int .i64 o.n]
def K.ps(c:K):List (PV aG):=[.str c.name,.int .i64 c.lo,.int .i64 c.hi]
def V.ps(v:V):List (PV aG):=[.int .u8 v.f,.int .i64 v.n]
def Rw.ps(r:Rw):List (PV aG):=[lI r.fr,lI r.to,.int .u8 r.cell.f,.int .i64 r.cell.n]
def Br.ps(b:Br):List (PV aG):=[.int .i64 b.var,lI b.aA]
def Ld.ps(x:Ld):List (PV aG):=[lI x.s,lV x.cells]
def Dg.ps(d:Dg):List (PV aG):=[lI d.aj,lI d.aB,lV d.aI,lBr d.au,.int .i64 d.root]
def Fc.ps(x:Fc):List (PV aG):=.str x.name::x.d.ps
def Pc.ps(x:Pc):List (PV aG):=[.int .u64 x.facts,.bool x.goal]
def B.un(l:List (PV aG)):Option B:=match l with
 | [.int .i64 a,.int .i64 b,.int .u8 c]=>some ⟨a,b,c⟩
 |_=>none
def O.un(l:List (PV aG)):Option O:=match l with
 | [.int .u8 c,.int .i64 x,.int .i64 y,.int .i64 z,.int .i64 n]=>some ⟨c,x,y,z,n⟩
 |_=>none
def K.un(l:List (PV aG)):Option K:=match l with
 | [.str c,.int .i64 x,.int .i64 y]=>some ⟨c,x,y⟩
 |_=>none
def V.un(l:List (PV aG)):Option V:=match l with
 | [.int .u8 c,.int .i64 x]=>some ⟨c,x⟩
 |_=>none
def I.un(k:IntKind)(l:List (PV aG)):Option Int:=match l with
 | [.int k' x]=>if k'=k then some x else none
 |_=>none
def L.un(t:Nat)(v:PV aG):Option (List (aG t)):=match v with
 |.dF t' l _=>D8 t t' l
 |.nil .slc=>some []
 |_=>none
def Rw.un(l:List (PV aG)):Option Rw:=match l with
 | [a,b,.int .u8 c,.int .i64 x]=>match L.un 3 a,L.un 3 b with
  |some a,some b=>some ⟨a,b,⟨c,x⟩⟩
  |_,_=>none
 |_=>none
def Br.un(l:List (PV aG)):Option Br:=match l with
 | [.int .i64 x,a]=>match L.un 3 a with
  |some a=>some ⟨x,a⟩
  |none=>none
 |_=>none
def Tb.un(l:List (PV aG)):Option (List Rw):=match l with
 | [a]=>L.un 900009 a
 |_=>none
def Vs.un(l:List (PV aG)):Option (List V):=match l with
 | [a]=>L.un 39 a
 |_=>none
def Ld.un(l:List (PV aG)):Option Ld:=match l with
 | [a,b]=>match L.un 3 a,L.un 39 b with
  |some a,some b=>some ⟨a,b⟩
  |_,_=>none
 |_=>none
def Dg.un(l:List (PV aG)):Option Dg:=match l with
 | [a,b,c,d,.int .i64 r]=>match L.un 3 a,L.un 3 b,L.un 39 c,L.un 105 d with
  |some a,some b,some c,some d=>some ⟨a,b,c,d,r⟩
  |_,_,_,_=>none
 |_=>none
def Is.un(l:List (PV aG)):Option (List Int):=match l with
 | [a]=>L.un 3 a
 |_=>none
def Fc.un(l:List (PV aG)):Option Fc:=match l with
 |.str n::r=>(Dg.un r).map (⟨n,·⟩)
 |_=>none
def Pc.un(l:List (PV aG)):Option Pc:=match l with
 | [.int .u64 n,.bool b]=>some ⟨n,b⟩
 |_=>none
def Bl.un(l:List (PV aG)):Option Bool:=match l with
 | [.bool b]=>some b
 |_=>none
def Bs.un(l:List (PV aG)):Option (List Bool):=match l with
 | [a]=>L.un 4 a
 |_=>none
def Kd.enc:(k:Kd)->k.T->List (PV aG)
 |.i64=>fun n=>[.int .i64 n]
 |.u8=>fun n=>[.int .u8 n]
 |.u16=>fun n=>[.int .u16 n]
 |.u64=>fun n=>[.int .u64 n]
 |.dg=>Dg.ps
 |.is=>fun l=>[lI l]
 |.fc=>Fc.ps
 |.pc=>Pc.ps
 |.bl=>fun b=>[.bool b]
 |.bs=>fun l=>[lB l]
 |.b=>B.ps
 |.o=>O.ps
 |.k=>K.ps
 |.v=>V.ps
 |.rw=>Rw.ps
 |.br=>Br.ps
 |.tb=>fun l=>[lRw l]
 |.vs=>fun l=>[lV l]
 |.ld=>Ld.ps
 |.no=>fun _=>[]
def Kd.dec:(k:Kd)->List (PV aG)->Option k.T
 |.i64=>I.un .i64
 |.u8=>I.un .u8
 |.u16=>I.un .u16
 |.u64=>I.un .u64
 |.dg=>Dg.un
 |.is=>Is.un
 |.fc=>Fc.un
 |.pc=>Pc.un
 |.bl=>Bl.un
 |.bs=>Bs.un
 |.b=>B.un
 |.o=>O.un
 |.k=>K.un
 |.v=>V.un
 |.rw=>Rw.un
 |.br=>Br.un
 |.tb=>Tb.un
 |.vs=>Vs.un
 |.ld=>Ld.un
 |.no=>fun _=>none
def X0:l7:=⟨aG,fun t=>(kd t).z,fun t=>(kd t).enc,fun t=>(kd t).dec⟩
theorem B.vO{l:List (PV aG)}{b:B}(h:B.un l=some b):B.ps b=l:=by
 unfold B.un at h;split at h
 .cases h;rfl
 cases h
theorem O.vO{l:List (PV aG)}{b:O}(h:O.un l=some b):O.ps b=l:=by
 unfold O.un at h;split at h
 .cases h;rfl
 cases h
theorem K.vO{l:List (PV aG)}{b:K}(h:K.un l=some b):K.ps b=l:=by
 unfold K.un at h;split at h
 .cases h;rfl
 cases h
theorem V.vO{l:List (PV aG)}{b:V}(h:V.un l=some b):V.ps b=l:=by
 unfold V.un at h;split at h
 .cases h;rfl
 cases h
theorem I.vO{k:IntKind}{l:List (PV aG)}{b:Int}(h:I.un k l=some b):[PV.int k b]=l:=by
 unfold I.un at h;split at h
 .split at h
  .rename_i e;cases h;rw[e]
  cases h
 cases h
section
variable {A:Nat->Prop} {m:List MB} {h:List HB}
theorem L.iZ{t:Nat}{v:PV aG}{l:List (aG t)}(hu:L.un t v=some l){x:TV}(hv:VR X0 Tryz.prog A m h v x):VR X0 Tryz.prog A m h (.dF t l false) x:=(a6J (X:=X0) (P:=Tryz.prog) t).ok (a:=l) (v:=v) (by
 cases v with
 |nil k=>cases k<;>first|exact hu|cases hu
 |dF t' l' f=>exact hu
 |_=>cases hu) hv
theorem Rw.iZ{l:List (PV aG)}{r:Rw}(hu:Rw.un l=some r){xs:List TV}(hv:bY X0 Tryz.prog A m h l xs):bY X0 Tryz.prog A m h r.ps xs:=by
 unfold Rw.un at hu;split at hu
 .split at hu
  .rename_i e1 e2;cases hu;obtain⟨x1,r1,rfl,h1,hv⟩:=hv.inv;obtain⟨x2,r2,rfl,h2,hv⟩:=hv.inv;exact .cons (L.iZ e1 h1) (.cons (L.iZ e2 h2) hv)
  cases hu
 cases hu
theorem Br.iZ{l:List (PV aG)}{r:Br}(hu:Br.un l=some r){xs:List TV}(hv:bY X0 Tryz.prog A m h l xs):bY X0 Tryz.prog A m h r.ps xs:=by
 unfold Br.un at hu;split at hu
 .split at hu
  .rename_i e1;cases hu;obtain⟨x1,r1,rfl,h1,hv⟩:=hv.inv;obtain⟨x2,r2,rfl,h2,hv⟩:=hv.inv;exact .cons h1 (.cons (L.iZ e1 h2) hv)
  cases hu
 cases hu
theorem Ld.iZ{l:List (PV aG)}{r:Ld}(hu:Ld.un l=some r){xs:List TV}(hv:bY X0 Tryz.prog A m h l xs):bY X0 Tryz.prog A m h r.ps xs:=by
 unfold Ld.un at hu;split at hu
 .split at hu
  .rename_i e1 e2;cases hu;obtain⟨x1,r1,rfl,h1,hv⟩:=hv.inv;obtain⟨x2,r2,rfl,h2,hv⟩:=hv.inv;exact .cons (L.iZ e1 h1) (.cons (L.iZ e2 h2) hv)
  cases hu
 cases hu
theorem Tb.iZ{l:List (PV aG)}{r:List Rw}(hu:Tb.un l=some r){xs:List TV}(hv:bY X0 Tryz.prog A m h l xs):bY X0 Tryz.prog A m h [lRw r] xs:=by
 rcases l with _|⟨a,_|⟨b,l⟩⟩
 .cases hu
 .obtain⟨x1,r1,rfl,h1,hv⟩:=hv.inv;exact .cons (L.iZ hu h1) hv
 cases hu
theorem Vs.iZ{l:List (PV aG)}{r:List V}(hu:Vs.un l=some r){xs:List TV}(hv:bY X0 Tryz.prog A m h l xs):bY X0 Tryz.prog A m h [lV r] xs:=by
 rcases l with _|⟨a,_|⟨b,l⟩⟩
 .cases hu
 .obtain⟨x1,r1,rfl,h1,hv⟩:=hv.inv;exact .cons (L.iZ hu h1) hv
 cases hu
theorem Dg.iZ{l:List (PV aG)}{r:Dg}(hu:Dg.un l=some r){xs:List TV}(hv:bY X0 Tryz.prog A m h l xs):bY X0 Tryz.prog A m h r.ps xs:=by
 unfold Dg.un at hu;split at hu
 .split at hu
  .rename_i e1 e2 e3 e4;cases hu;obtain⟨x1,r1,rfl,h1,hv⟩:=hv.inv;obtain⟨x2,r2,rfl,h2,hv⟩:=hv.inv;obtain⟨x3,r3,rfl,h3,hv⟩:=hv.inv;obtain⟨x4,r4,rfl,h4,hv⟩:=hv.inv;exact .cons (L.iZ e1 h1) (.cons (L.iZ e2 h2) (.cons (L.iZ e3 h3) (.cons (L.iZ e4 h4) hv)))
  cases hu
 cases hu
theorem Is.iZ{l:List (PV aG)}{r:List Int}(hu:Is.un l=some r){xs:List TV}(hv:bY X0 Tryz.prog A m h l xs):bY X0 Tryz.prog A m h [lI r] xs:=by
 rcases l with _|⟨a,_|⟨b,l⟩⟩
 .cases hu
 .obtain⟨x1,r1,rfl,h1,hv⟩:=hv.inv;exact .cons (L.iZ hu h1) hv
 cases hu
theorem Bs.iZ{l:List (PV aG)}{r:List Bool}(hu:Bs.un l=some r){xs:List TV}(hv:bY X0 Tryz.prog A m h l xs):bY X0 Tryz.prog A m h [lB r] xs:=by
 rcases l with _|⟨a,_|⟨b,l⟩⟩
 .cases hu
 .obtain⟨x1,r1,rfl,h1,hv⟩:=hv.inv;exact .cons (L.iZ hu h1) hv
 cases hu
theorem Bl.vO{l:List (PV aG)}{b:Bool}(h:Bl.un l=some b):[PV.bool b]=l:=by
 unfold Bl.un at h;split at h
 .cases h;rfl
 cases h
theorem Fc.iZ{l:List (PV aG)}{r:Fc}(hu:Fc.un l=some r){xs:List TV}(hv:bY X0 Tryz.prog A m h l xs):bY X0 Tryz.prog A m h r.ps xs:=by
 unfold Fc.un at hu;split at hu
 .obtain⟨d,e1,rfl⟩:=a07.1 hu;obtain⟨x1,r1,rfl,h1,hv⟩:=hv.inv;exact .cons h1 (Dg.iZ e1 hv)
 cases hu
theorem Pc.vO{l:List (PV aG)}{b:Pc}(h:Pc.un l=some b):Pc.ps b=l:=by
 unfold Pc.un at h;split at h
 .cases h;rfl
 cases h
theorem aap:∀(k:Kd) {l:List (PV aG)} {a:k.T},k.dec l=some a->∀{xs:List TV},bY X0 Tryz.prog A m h l xs->bY X0 Tryz.prog A m h (k.enc a) xs
 |.i64,_,_,e,_,hv=>by rw[show Kd.enc .i64 _=_ from I.vO e];exact hv
 |.u8,_,_,e,_,hv=>by rw[show Kd.enc .u8 _=_ from I.vO e];exact hv
 |.u16,_,_,e,_,hv=>by rw[show Kd.enc .u16 _=_ from I.vO e];exact hv
 |.u64,_,_,e,_,hv=>by rw[show Kd.enc .u64 _=_ from I.vO e];exact hv
 |.dg,_,_,e,_,hv=>Dg.iZ e hv
 |.is,_,_,e,_,hv=>Is.iZ e hv
 |.fc,_,_,e,_,hv=>Fc.iZ e hv
 |.pc,_,_,e,_,hv=>by rw[show Kd.enc .pc _=_ from Pc.vO e];exact hv
 |.bl,_,_,e,_,hv=>by rw[show Kd.enc .bl _=_ from Bl.vO e];exact hv
 |.bs,_,_,e,_,hv=>Bs.iZ e hv
 |.b,_,_,e,_,hv=>by rw[show Kd.enc .b _=_ from B.vO e];exact hv
 |.o,_,_,e,_,hv=>by rw[show Kd.enc .o _=_ from O.vO e];exact hv
 |.k,_,_,e,_,hv=>by rw[show Kd.enc .k _=_ from K.vO e];exact hv
 |.v,_,_,e,_,hv=>by rw[show Kd.enc .v _=_ from V.vO e];exact hv
 |.rw,_,_,e,_,hv=>Rw.iZ e hv
 |.br,_,_,e,_,hv=>Br.iZ e hv
 |.tb,_,_,e,_,hv=>Tb.iZ e hv
 |.vs,_,_,e,_,hv=>Vs.iZ e hv
 |.ld,_,_,e,_,hv=>Ld.iZ e hv
 |.no,_,_,e,_,_=>by cases e
end
theorem a3B:∀(k:Kd) (a:k.T),jw.H9 (k.enc a)=true:=by
 intro k a;cases k<;>rfl
theorem hX:bP X0 Tryz.prog:=⟨fun{t} vs a e {A m hh xs} hv=>aap (kd t) e hv,fun t a=>a3B (kd t) a⟩
abbrev Arg(α:Type):=Ar X0 Tryz.prog α
def iA:Arg Int:=aeX .i64
def uA:Arg Int:=aeX .u8
def tA:Arg Bool:=aiF
def vA:Arg V:=aiG hX 39
def brA:Arg Br:=aiG hX 105
def rZ:Arg (List Int):=a6J 3
def vsA:Arg (List V):=a6J 39
def aaq:Arg (List Br):=a6J 105
def aiS:Arg (List Dg):=a6J 26
def pA:Arg Int:=aeX .u64
def dA:Arg Dg:=aeZ (a6K (LJ rZ (a4 rZ vsA aaq iA))) (fun p=>⟨p.1,p.2.1,p.2.2.1,p.2.2.2.1,p.2.2.2.2⟩) (fun d=>(d.aj,d.aB,d.aI,d.au,d.root)) fun _=>rfl
abbrev LL:Nat:=2^24
abbrev Gd(fM:fA aG):Prop:=Pv.Good X0 Tryz.prog T LL fM
abbrev bT(n:Nat):bf:=lF Tryz.prog T LL n
theorem QU:ah<LL:=by decide
abbrev Lp(n f k:Nat)(s:aS aG)(e:Ex)(s':aS aG):Prop:=dS X0 Tryz.prog T (bT n) LL f false (Cj Tryz.prog f) 0 (.loop (SX Tryz.prog f k)) s e s'
abbrev Ok(n:Nat)(fM:fA aG):Prop:=jM X0 Tryz.prog (bT n) fM
abbrev xi(n:Int):PE aG:=.val (.int .i64 n)
abbrev xl(b:Bool):PE aG:=.val (.lit b)
abbrev xL(t:Nat)(l:List (aG t)):PE aG:=.val (.dF t l false)
abbrev xo(b:Nat):PE aG:=.val (.own b)
theorem le0:0<=ah:=by decide
theorem le1:1<=ah:=by decide
theorem YN:2<=ah:=by decide
theorem le3:3<=ah:=by decide
theorem le8:8<=LL:=by decide
theorem gy{n:Nat}:Ok n (aai (X:=X0)):=fun f vs v ext ps h=>by cases h
abbrev Px(n f k B:Nat)(s:aS aG)(e:Ex)(s':aS aG):Prop:=dS X0 Tryz.prog T (bT n) LL f false (Cj Tryz.prog f) B (.loop (SX Tryz.prog f k)) s e s'
abbrev Qp:Program:=Tryz.prog
theorem aN{β:Type}{n f:Nat}{fM:fA aG}(hO:Ok n fM){vs:List (PV aG)}{an:PT aG}{r:Ar X0 Tryz.prog β}{s:β}{o:OT (Option (PV aG))}(ht:Fp (Is r s) an o)
  (hk:(Df X0 Tryz.prog T fM (aW X0 Tryz.prog (bT n)) (BN X0 Tryz.prog T (bT n) LL f 0) LL f vs [] an).map frz=o:=by kernel_rfl):oN X0 Tryz.prog (bT (n+1)) f vs (r.put s) []:=aiI hX hO hk ht
theorem jy{β:Type}{n f:Nat}{fM:fA aG}(hO:Ok n fM){first xs cap:List (PV aG)}{H H1:List (PB aG)}{an:PT aG}{r:Ar X0 Tryz.prog β}{s:β}{o:OT (PV aG×List (PB aG))}(ht:Fp (IsS r s H1) an o)
  (hk:Df X0 Tryz.prog T fM (aW X0 Tryz.prog (bT n)) (BN X0 Tryz.prog T (bT n) LL f H.length) LL f (first++xs++cap) H an=o:=by kernel_rfl):aW X0 Tryz.prog (bT (n+1)) (.fn f first cap) xs H (r.put s) H1:=Dn hX hO hk ht
theorem fV{n f:Nat}{fM:fA aG}(hO:Ok n fM){first xs cap:List (PV aG)}{H H1:List (PB aG)}{v:PV aG}{an:PT aG}{o:OT (PV aG×List (PB aG))}(ht:Fp (IsE (X:=X0) v H1) an o)
  (hk:Df X0 Tryz.prog T fM (aW X0 Tryz.prog (bT n)) (BN X0 Tryz.prog T (bT n) LL f H.length) LL f (first++xs++cap) H an=o:=by kernel_rfl):aW X0 Tryz.prog (bT (n+1)) (.fn f first cap) xs H v H1:=rU hX hO hk ht
theorem aO{call:bf}{fM:fA aG}{L f:Nat}{gZ:Bool}{nt B:Nat}(hO:jM X0 Tryz.prog call fM){b:Code}{n:Nat}{ps:aS aG}{an:PT aG}{e:Ex}{s:aS aG}{o:OT (Ex×aS aG)}(ht:Fp (Rnd X0 Tryz.prog T call L f gZ nt B b n e s) an o)
  (hk:jS X0 Tryz.prog T fM (aW X0 Tryz.prog call) (dS X0 Tryz.prog T call L f gZ nt B) B L f gZ nt b ps an (aeW (gW X0 (T.eU f (dZ b))) B)=o:=by kernel_rfl):dN X0 Tryz.prog T call L f gZ nt B b (n+1) ps e s:=round hX hO hk ht
abbrev a6W(f:Nat)(a c:List (PV aG))(H:List (PB aG))(l:List Int)(i:Int)(x:List (Nat×PE aG)):aS aG:=⟨[(0,xL 3 l),(1,.val (.fn f a c)),(7,xi l.length),(8,xi i)]++x,[],H⟩
def z218(f:Nat)(a c:List (PV aG))(H:List (PB aG))(l:List Int):Unit⊕(Nat×Int×Unit)->Ex×aS aG
 |.inl _=>(.exit 0,a6W f a c H l l.length [(9,xl false)])
 |.inr r=>(.ret,⟨[(4,xi r.1)],[],H⟩)
theorem aoL{n f:Nat}{a c:List (PV aG)}{H:List (PB aG)}{g:Int->Bool}(hf:∀x,aW X0 Qp (bT n) (.fn f a c) [.int .i64 x] H (.bool (g x)) H)(l:List Int)(hl:l.length<=ah):aW X0 Qp (bT (n+1)) (.fn 218 [] []) [.dF 3 l false,.fn f a c] H (iA.put (rW g l)) H:=by
 have lp:Px n 218 0 H.length (a6W f a c H l 0 []) (z218 f a c H l (ni (ql g) l 0 ())).1 (z218 f a c H l (ni (ql g) l 0 ())).2:=
  Xq (st:=fun i _=>a6W f a c H l i []) (0:Int) (fun _ _=>True) (by kernel_rfl) hl QU trivial (fun k s n hk _ ih=>aO gy (.b (bF hk) (.o (aH hk) (.k (hf (l.getD k (0:Int))) (.ls (.ou nofun) (.nx (ih _ trivial))))))) (fun s _=>aO gy (.b (fF l.length) (.ou nofun)))
 exact jy gy (first:=[]) (cap:=[]) (.szh (fun h=>.w (kM lp () h) .sr) (fun h=>.w (kN lp (0,0,()) h) .sr))
theorem aiT{n f:Nat}(hn:0<n){a c:List (PV aG)}{H:List (PB aG)}{g:Int->Bool}(hf:∀x,aW X0 Qp (bT (n-1)) (.fn f a c) [.int .i64 x] H (.bool (g x)) H)(l:List Int)(hl:l.length<=ah):aW X0 Qp (bT (n+1)) (.fn 181 [] []) [.dF 3 l false,.fn f a c] H (tA.put (nG g l)) H:=by
 have h1:=aoL hf l hl;rw[show n-1+1=n by omega]at h1;exact jy gy (first:=[]) (cap:=[]) (.k h1 .sr)
abbrev afh(f:Nat)(a c:List (PV aG))(H:List (PB aG))(l:List V)(i:Int)(x:List (Nat×PE aG)):aS aG:=⟨[(0,xL 39 l),(1,.val (.fn f a c)),(7,xi l.length),(8,xi i)]++x,[],H⟩
def aiU(f:Nat)(a c:List (PV aG))(H:List (PB aG))(l:List V):Unit⊕(Nat×V×Unit)->Ex×aS aG
 |.inl _=>(.exit 0,afh f a c H l l.length [(9,xl false)])
 |.inr r=>(.ret,⟨[(4,xi r.1)],[],H⟩)
theorem aiV{n f:Nat}{a c:List (PV aG)}{H:List (PB aG)}{g:V->Bool}(hf:∀x,aW X0 Qp (bT n) (.fn f a c) [.agg x.ps] H (.bool (g x)) H)(l:List V)(hl:l.length<=ah):aW X0 Qp (bT (n+1)) (.fn 155 [] []) [.dF 39 l false,.fn f a c] H (iA.put (iM g l)) H:=by
 have lp:Px n 155 0 H.length (afh f a c H l 0 []) (aiU f a c H l (ni (jC g) l 0 ())).1 (aiU f a c H l (ni (jC g) l 0 ())).2:=
  Xq (st:=fun i _=>afh f a c H l i []) V0 (fun _ _=>True) (by kernel_rfl) hl QU trivial (fun k s n hk _ ih=>aO gy (.b (bF hk) (.o (aH hk) (.k (hf (l.getD k V0)) (.ls (.ou nofun) (.nx (ih _ trivial))))))) (fun s _=>aO gy (.b (fF l.length) (.ou nofun)))
 exact jy gy (first:=[]) (cap:=[]) (.szh (fun h=>.w (kM lp () h) .sr) (fun h=>.w (kN lp (0,V0,()) h) .sr))
theorem afi{n f:Nat}(hn:0<n){a c:List (PV aG)}{H:List (PB aG)}{g:V->Bool}(hf:∀x,aW X0 Qp (bT (n-1)) (.fn f a c) [.agg x.ps] H (.bool (g x)) H)(l:List V)(hl:l.length<=ah):aW X0 Qp (bT (n+1)) (.fn 152 [] []) [.dF 39 l false,.fn f a c] H (tA.put (qB g l)) H:=by
 have h1:=aiV hf l hl;rw[show n-1+1=n by omega]at h1;exact jy gy (first:=[]) (cap:=[]) (.k h1 .sr)
end Go.Proofs.YtmobpoiejckagaaGreat
