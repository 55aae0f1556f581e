/- Part 4 of a proof: The answer to any query about any diagram, where any condition is met, is the document's, or the error is; for all queries and diagrams. -/
import Derived.Shelf.Spec.SlicesInsert
import Derived.Shelf.Spec.SlicesInsertGrow
import Derived.Shelf.Sort.Plain
import Derived.Shelf.Slices.In.SortNone
import Derived.Test.YtmobpoiejckagaaGreatProg
import Derived.KernelRfl
import Derived.Test.YtmobpoiejckagaaGreatP02
set_option linter.constructorNameAsVariable false
set_option linter.unusedVariables false
set_option linter.unusedSimpArgs false
set_option linter.unusedSectionVars false
open Go.IntKind (i64)
noncomputable section
namespace Pv
open Go Tw
section
variable {X:kE} {P:Program} {A B F:Nat->Prop} {m m':List MB} {h h':List HB} {H H':List (PB X.Γ)}
variable {call:aZ} {fK:eY X.Γ} {site:Nat->Bool} {ρ:Type} {y:ρ}
def a5M(X:kE)(P:Program)(A:Nat->Prop)(m:List MB)(call:aZ)(site:Nat->Bool)(ts:St)(o:Oper)(k:PE X.Γ->aQ X.Γ->PI->PT X.Γ->OT ρ)(y:ρ):Prop:=
 ∃pe ps1 pi GX,OpR X P A m call site ts o pe ps1 pi∧(k pe ps1 pi GX).Ends y
theorem wB{ps:aQ X.Γ}{ts:St}(hR:uK X P A m ps ts){o:Oper}{k:PE X.Γ->aQ X.Γ->PI->PT X.Γ->OT ρ}{r:Option (TV×St×lD)}{v:PV X.Γ}{H1:List (PB X.Γ)}{pi:PI}{an:PT X.Γ}(hm:WH X P A m ts r v H1 pi)
  (ho:oK P call site ts o=r.map fun(v,s,i)=>(.val v,s,i)) (hk:(k (.val v) { ps with heap:=H1 } pi an).Ends y):a5M X P A m call site ts o k y:=by
 obtain⟨w,h1,ti,m1,rfl,e1,e2,e3,e4,e5,e6⟩:=hm;exact⟨.val v,_,_,_,⟨.val w,_,ti,m1,ho,rfl,rfl,hR.step e1 e3 e4,e2,e3,e4,e5,e6⟩,hk⟩
theorem iM{ps:aQ X.Γ}{ts:St}(hR:uK X P A m ps ts){o:Oper}{k:PE X.Γ->aQ X.Γ->PI->PT X.Γ->OT ρ}{v:PV X.Γ}{w:TV}{pi:PI}{an:PT X.Γ}(hv:VR X P (AA A m) m ts.heap v w)(ho:oK P call site ts o=some (.val w,ts,cu))(hk:(k (.val v) ps pi an).Ends y):a5M X P A m call site ts o k y:=
 ⟨.val v,_,_,_,um hR ho (nI hv),hk⟩
theorem ae7{op:BinOp}{a b v:PV X.Γ}{ta tb:TV}{ps:List Prop}{t:TypeId}{x z:Operand}(ha:VR X P A m h a ta)(hb:VR X P A m h b tb)(hd:adP op a b=some (v,ps))(hp:∀p∈ps,p) :
  ∃w,rY P op t x z ta tb=some w∧VR X P A m h v w:=by
 unfold adP at hd;split at hd
 .cases ha with
  |gone hi _ _=>simp[bg]at hi
  |int=>
   cases hb with
   |gone hi _ _=>simp[bg]at hi
   |int=>
    split at hd
    .split at hd
     .rename_i e;subst e;cases hd;exact⟨_,a5o (hp _ (.head _)),.int _ _⟩
     .cases hd
    .split at hd
     .rename_i e;subst e;cases hd;exact⟨_,a5p (hp _ (.head _)),.int _ _⟩
     .cases hd
    .cases hd;exact⟨_,a5m (hp _ (.head _)),.int _ _⟩
    .cases hd;exact⟨_,a5n (hp _ (.head _)),.int _ _⟩
    .cases hd
 .cases hd
theorem ae8(hX:bM X P)(hO:jr X P call fK){ps:aQ X.Γ}{ts:St}(hR:uK X P A m ps ts){o:Oper}{an:PT X.Γ}{k:PE X.Γ->aQ X.Γ->PI->PT X.Γ->OT ρ}(hk:(adS X P fK (aX X P call) site ps o an k).Ends y):a5M X P A m call site ts o k y:=by
 have hE:=hR.env;unfold adS at hk;split at hk
 .-- move
  rename_i x ho;split at hk
  .rename_i v hv;obtain⟨e,h1,h2⟩:=mG hE hv;exact⟨_,_,_,_,um hR (by simp only[oK,ho,h1,a0T]) h2,hk⟩
  exact hk.elim
 .rename_i x ho;split at hk
  .rename_i v hv;obtain⟨e,h1,h2⟩:=mG hE hv;exact⟨_,_,_,_,um hR (by simp only[oK,ho,h1,a0T]) h2,hk⟩
  exact hk.elim
 .-- pick
  rename_i c a b ho;split at hk
  .rename_i u hu;obtain⟨tu,h1,h2⟩:=WB hE hu;obtain⟨t,GX,rfl,hk⟩:=Zi hk h2;split at hk
   .rename_i v hv;obtain⟨e,g1,g2⟩:=mG hE hv;exact⟨_,_,_,_,um (hR.Bz h1) (by simp only[oK,ho,h1,g1,a0T]) g2,hk⟩
   exact hk.elim
  exact hk.elim
 .-- alloc
  rename_i e ho;split at hk
  .rename_i z hz;obtain⟨z',g1,g2⟩:=GI (A:=AA A m) (m:=m) (h:=ts.heap) hz;obtain⟨m1,e1,e2,e3,e4,e5,e6⟩:=RD hR (site:=site (o.dst.getD 0)) g2;exact⟨_,_,_,_,⟨_,_,cu,m1,by simp only[oK,ho,g1,a0T],e1,e2,e3,e4,e5,e6,.none,fun b hb=>by cases hb⟩,hk⟩
  exact hk.elim
 .-- box
  rename_i t x ho;split at hk
  .rename_i v hv;obtain⟨w,g1,g2⟩:=jh hE hv;split at hk
   .rename_i EU;have hc:=Gz g2;obtain⟨m1,e1,e2,e3,e4,e5,e6⟩:=RD hR (site:=site (o.dst.getD 0)) hc;exact⟨_,_,_,_,⟨_,_,cu,m1,by simp only[oK,ho,g1,DN hc,EU,a2d],e1,e2,e3,e4,e5,e6,.none,fun b hb=>by cases hb⟩,hk⟩
   exact hk.elim
  exact hk.elim
 .-- build
  rename_i t qs ho;split at hk
  .rename_i vs hvs;obtain⟨ws,g1,g2⟩:=Zd hE hvs;split at hk
   .rename_i v hv;obtain⟨w,g3,g4⟩:=a5z g2 hv;exact iM hR g4 (by simp only[oK,ho,g1,g3,a0T]) hk
   exact hk.elim
  exact hk.elim
 .-- buildSlice
  rename_i t len qs ho;split at hk
  .rename_i vs hvs;obtain⟨ws,g1,g2⟩:=Zd hE hvs;split at hk
   .split at hk
    .rename_i v H1 hv;refine wB hR (tJ hX hR g2 hv) ?_ hk;simp only[oK,ho,g1,agu];rfl
    exact hk.elim
   split at hk
   .rename_i v H1 hv;refine wB hR (tJ hX hR g2 hv) ?_ hk;simp only[oK,ho,g1,agu];rfl
   exact hk.elim
  exact hk.elim
 .-- load
  rename_i t a ho;split at hk
  .rename_i pa ha;obtain⟨ea,g1,g2⟩:=mG hE ha;split at hk
   .rename_i v i hv;obtain⟨w,ti,g3,g4,g5,g6⟩:=G6 hX hR g2 hv;exact⟨.val v,_,_,_,⟨.val w,ts,ti,m,by simp only[oK,ho,g1,g3,a0T],rfl,rfl,hR,g4,.refl,.refl,g5,fun b hb=>by rw[g6]at hb;cases hb⟩,hk⟩
   exact hk.elim
  exact hk.elim
 .-- store
  rename_i t a x ho;split at hk
  .rename_i pa v ha hv;obtain⟨ea,g1,g2⟩:=mG hE ha;obtain⟨w,g3,g4⟩:=jh hE hv;split at hk
   .rename_i s i hs;obtain⟨iH,ti,m1,e1,e2,e3,e4,e5,e6,e7,e8⟩:=yI hX hR g2 g4 hs;exact⟨.undef,_,_,_,⟨.undef,iH,ti,m1,by simp only[oK,ho,g1,g3,e1,a0T],e2,e3,e4,trivial,e5,e6,e7,e8⟩,hk⟩
   exact hk.elim
  exact hk.elim
 .-- nilCheck
  rename_i x ho;have go:∀{pe:PE X.Γ} {ev:EV},Ib ts.env x=some ev->Ig X P (AA A m) m ts.heap pe ev->(match ev with|.loc _ _=>True|.val (.ptr _ _ _)=>True|.val (.fn _ _ _)=>True|_=>False)->(k pe ps wZ an).Ends y->a5M X P A m call site ts o k y:=by
   intro pe ev h1 h2 h3 h4;refine⟨_,_,_,_,um hR ?_ h2,h4⟩;cases ev with
   |loc a b=>simp only[oK,ho,h1]
   |val v=>cases v<;>simp at h3<;>simp only[oK,ho,h1]
   |undef|ent|Eh=>simp at h3
  split at hk
  .rename_i a b ha;obtain⟨ea,g1,g2⟩:=mG hE ha;have:=DR g2;subst this;exact go g1 g2 trivial hk
  .rename_i a b c ha;obtain⟨ea,g1,g2⟩:=mG hE ha;obtain⟨w,rfl,g3⟩:=fO g2;split at hk
   .rename_i cs hb;obtain⟨mb,f1,f2⟩:=hR.heap.at_ a _ hb;cases mb with
    |fV cb=>
     cases g3 with
     |ptr e=>exact go g1 g2 trivial hk
     |gone hi e _=>simp only[bg,a00]at hi;subst hi;rw[f1]at e;cases e
    |_=>exact f2.elim
   .rename_i cs hb;obtain⟨mb,f1,f2⟩:=hR.heap.at_ a _ hb;cases mb with
    |jf cb=>
     cases g3 with
     |ptr e=>rw[f1]at e;cases e
     |gone hi e _=>
      simp only[bg,a00]at hi;subst hi;rw[f1]at e;cases e with
      |r _ e=>simp only[roV,a00]at e;subst e;exact go g1 g2 trivial hk
    |_=>exact f2.elim
   exact hk.elim
  .rename_i a b c ha;obtain⟨ea,g1,g2⟩:=mG hE ha;obtain⟨w,rfl,g3⟩:=fO g2;split at hk
   .rename_i q1 q2 q3 q4 hb;obtain⟨mb,f1,f2⟩:=hR.heap.at_ a _ hb;cases mb with
    |dw cb=>
     cases g3 with
     |row e=>exact go g1 g2 trivial hk
     |gone hi e _=>simp only[bg,a00]at hi;subst hi;rw[f1]at e;cases e
    |_=>exact f2.elim
   exact hk.elim
  .rename_i a b c ha;obtain⟨ea,g1,g2⟩:=mG hE ha;obtain⟨w,rfl,g3⟩:=fO g2;cases g3 with
   |el=>exact go g1 g2 trivial hk
   |gone hi _ _=>simp[bg]at hi
  .rename_i a b c ha;obtain⟨ea,g1,g2⟩:=mG hE ha;obtain⟨w,rfl,g3⟩:=fO g2;cases g3 with
   |fn=>exact go g1 g2 trivial hk
   |gone hi _ _=>simp[bg]at hi
  exact hk.elim
 .-- binOp
  rename_i op t x z w0 ho;split at hk
  rotate_left
  .exact hk.elim
  rename_i a b ha hb;obtain⟨ta,g1,g2⟩:=jh hE ha;obtain⟨tb,g3,g4⟩:=jh hE hb;split at hk
  .split at hk
   .rename_i v ps hd;obtain⟨hp,hk⟩:=uo hk;obtain⟨w,e1,e2⟩:=ae7 (P:=P) (t:=t) (x:=x) (z:=z) g2 g4 hd hp;exact iM hR e2 (by simp only[oK,ho,g1,g3,e1,a0T]) hk
   exact hk.elim
  split at hk
  .rename_i v q hv;obtain⟨w,e1,e2⟩:=a2E (x:=x) (y:=z) hR.heap g2 g4 hv hk.1;exact iM hR e2 (by simp only[oK,ho,g1,g3,e1,a0T]) hk.2
  split at hk
  .split at hk
   .rename_i w r;split at hk
    .rename_i v ua ub e1 e2 e3;obtain⟨Qa,hk⟩:=hk;rw[<-jG g2 e2,<-jG g4 e3]at Qa;exact iM hR (wz e1) (by simp only[oK,ho,g1,g3,Qa,a0T]) hk
    exact hk.elim
   exact hk.elim
  split at hk
  .rename_i v hv;obtain⟨w,e1,e2⟩:=Yv g2 g4 hv;exact iM hR e2 (by simp only[oK,ho,g1,g3,e1,a0T]) hk
  exact hk.elim
 .-- unOp
  rename_i op t x ho;split at hk
  .rename_i a ha;obtain⟨ta,g1,g2⟩:=jh hE ha;split at hk
   .rename_i v hv;obtain⟨w,e1,e2⟩:=iP g2 hv;exact iM hR e2 (by simp only[oK,ho,g1,e1,a0T]) hk
   exact hk.elim
  exact hk.elim
 .-- convert
  rename_i s d x ho;split at hk
  .rename_i a ha;obtain⟨ta,g1,g2⟩:=jh hE ha;split at hk
   .split at hk
    .rename_i w r;split at hk
     .rename_i v ua e1 e2;obtain⟨Qa,hk⟩:=hk;rw[<-jG g2 e2]at Qa;exact iM hR (wz e1) (by simp only[oK,ho,g1,Qa,a0T]) hk
     exact hk.elim
    exact hk.elim
   split at hk
   .rename_i v hv;obtain⟨w,e1,e2⟩:=TP g2 hv;exact iM hR e2 (by simp only[oK,ho,g1,e1,a0T]) hk
   exact hk.elim
  exact hk.elim
 .-- makeFunc
  rename_i f first cap ho
  split at hk
  .rename_i a b ha hb;obtain⟨ta,g1,g2⟩:=Ul hE ha;obtain⟨tb,g3,g4⟩:=Ul hE hb;exact iM hR (.fn g2.1 g2.2 g4.1 g4.2) (by simp only[oK,ho,g1,g3]) hk
  exact hk.elim
 .-- makeMap
  rename_i t r ho;have hp:=hR.heap.push (pb:=.map []) (hb:=.map []) (mb:=.fV ts.heap.length) (.inl rfl) ⟨[],by simp,rfl,fun i a b ha=>by simp at ha⟩;have go:oK P call site ts o=some (.val (.map ts.heap.length),{ ts with heap:=ts.heap++[.map []] },cu)->∀{an:PT X.Γ},(k (.val (.map ps.heap.length)) { ps with heap:=ps.heap++[.map []] } wZ an).Ends y->a5M X P A m call site ts o k y:=fun h1 an h2=>
   ⟨.val (.map ps.heap.length),_,_,_,⟨_,_,cu,_,h1,rfl,rfl,hR.step hp.1 hp.2.1 hp.2.2,nI (.map (by rw[<-hR.heap.len];simp)),hp.2.1,hp.2.2,.none,fun b hb=>by cases hb⟩,h2⟩
  split at hk
  .rename_i h1;obtain⟨w,g1,g2⟩:=GK hE h1;have:=qN g2;subst this;exact go (by simp only[oK,ho,g1]) hk
  .rename_i k0 n0 kt vt h1 hu;obtain⟨w,g1,g2⟩:=GK hE h1;have:=Ob g2;subst this;exact go (by simp only[oK,ho,g1,hu]) hk
  exact hk.elim
 .-- makeSlice
  rename_i t l c ho;split at hk
  .rename_i vl vc hl hc;obtain⟨tl,g1,g2⟩:=jh hE hl;obtain⟨tc,g3,g4⟩:=jh hE hc;split at hk
   .rename_i v H1 qs hv;obtain⟨hq,hk⟩:=uo hk;refine wB hR (zU hX hR g2 g4 hv hq) ?_ hk;simp only[oK,ho,g1,g3,agu];rfl
   exact hk.elim
  exact hk.elim
 .-- slice
  rename_i t x lo hi mx ho;split at hk
  rotate_left
  .exact hk.elim
  rename_i px plo wR pmx hx Gj hhi hmx;obtain⟨ex,g1,g2⟩:=mG hE hx;obtain⟨Qj,g3,g4⟩:=GK hE Gj;obtain⟨Qk,g5,g6⟩:=GK hE hhi;obtain⟨tmx,g7,g8⟩:=GK hE hmx;split at hk
  .rename_i n e hu;split at hk
   .split at hk
    .rename_i v hv;refine wB (H1:=ps.heap) hR (Ur hR g2 g4 g6 g8 hv) ?_ hk;simp only[oK,ho,g1,g3,g5,g7,hu,agu];rfl
    exact hk.elim
   split at hk
   .rename_i v H1 qs hv;obtain⟨hq,hk⟩:=uo hk;refine wB hR (BX hX hR g2 g4 g6 g8 hv hq) ?_ hk;simp only[oK,ho,g1,g3,g5,g7,hu,agu];rfl
   exact hk.elim
  rename_i ae9;have kD:∀{w:TV},ex=.val w->oK P call site ts o=(qE P t w Qj Qk tmx).map fun v=>(.val v,ts,cu):=by
   intro w e;subst e;simp only[oK,ho,g1,g3,g5,g7]
  split at hk
  .rename_i b;obtain⟨w,rfl,g9⟩:=fO g2;have:w=.str b:=by
    cases g9 with
    |str=>rfl
    |gone hi _ _=>simp[bg]at hi
   subst this;split at hk
   rotate_left
   .exact hk.elim
   rename_i w r;split at hk
   rotate_left
   .exact hk.elim
   rename_i v tl th e1 e2 e3;split at hk
   rotate_left
   .exact hk.elim
   rename_i ahZ;obtain⟨hs,hk⟩:=hk;have h7:tmx=none:=by
    cases pmx with
    |none=>exact qN g8
    |some _=>simp at ahZ
   have h5:Qj=tl:=by
    cases plo with
    |none=>simp at e2;rw[qN g4,e2]
    |some q=>
     obtain⟨tq,rfl⟩:=LJ g4;simp only[a09]at e2;obtain⟨q1,q2,rfl⟩:=e2;rw[jG (show VR X P (AA A m) m ts.heap q tq from g4) q2]
   have h6:Qk=th:=by
    cases wR with
    |none=>simp at e3;rw[qN g6,e3]
    |some q=>
     obtain⟨tq,rfl⟩:=LJ g6;simp only[a09]at e3;obtain⟨q1,q2,rfl⟩:=e3;rw[jG (show VR X P (AA A m) m ts.heap q tq from g6) q2]
   subst h5;subst h6;subst h7;exact iM hR (wz e1) (by rw[kD rfl,hs];rfl) hk
  .rename_i px' hns;obtain⟨w,rfl,g9⟩:=fO g2;split at hk
   .rename_i v qs hv;obtain⟨hq,hk⟩:=uo hk;obtain⟨w',e1,e2⟩:=Nc hR g9 g4 g6 g8 hv hq;exact iM hR e2 (by rw[kD rfl,e1];rfl) hk
   exact hk.elim
  exact hk.elim
 .-- fieldAddr
  rename_i t x f ho;split at hk
  .rename_i pa n ha hn;obtain⟨ea,g1,g2⟩:=mG hE ha;split at hk
   .rename_i v hv;obtain⟨eb,g3,g4⟩:=N9 hR g2 hv;exact⟨_,_,_,_,um hR (by simp only[oK,ho,g1,hn,g3,a0T]) g4,hk⟩
   exact hk.elim
  exact hk.elim
 .-- field
  rename_i t x f ho;split at hk
  .rename_i a ha;obtain⟨ta,g1,g2⟩:=jh hE ha;split at hk
   .rename_i v hv;obtain⟨w,e1,e2⟩:=Na g2 hv;exact iM hR e2 (by simp only[oK,ho,g1,e1,a0T]) hk
   exact hk.elim
  exact hk.elim
 .-- indexAddr
  rename_i t x i ho;split at hk
  .rename_i pa vi ha hi;obtain⟨ea,g1,g2⟩:=mG hE ha;obtain⟨ti,g3,g4⟩:=jh hE hi;split at hk
   .rename_i v qs hv;obtain⟨hq,hk⟩:=uo hk;obtain⟨eb,g5,g6⟩:=zS hR g2 g4 hv hq;exact⟨_,_,_,_,um hR (by simp only[oK,ho,g1,g3,g5,a0T]) g6,hk⟩
   exact hk.elim
  exact hk.elim
 .-- index
  rename_i t x i ho;split at hk
  .rename_i a vi ha hi;obtain⟨ta,g1,g2⟩:=jh hE ha;obtain⟨ti,g3,g4⟩:=jh hE hi;split at hk
   .split at hk
    .rename_i w r;split at hk
     .rename_i v ua ui e1 e2 e3;obtain⟨Qa,hk⟩:=hk;rw[<-jG g2 e2,<-jG g4 e3]at Qa;exact iM hR (wz e1) (by simp only[oK,ho,g1,g3,Qa,a0T]) hk
     exact hk.elim
    exact hk.elim
   split at hk
   .rename_i v hv;obtain⟨w,e1,e2⟩:=Nb g2 g4 hv;exact iM hR e2 (by simp only[oK,ho,g1,g3,e1,a0T]) hk
   exact hk.elim
  exact hk.elim
 .-- lookup
  rename_i t mm i ok ho;split at hk
  .rename_i vm vi hm hi;obtain⟨tm,g1,g2⟩:=jh hE hm;obtain⟨ti,g3,g4⟩:=jh hE hi;obtain⟨v,pi,GX,w,e1,e2,e3,e4⟩:=a9r hR g2 g4 hk;refine⟨.val v,_,_,_,⟨.val w,ts,_,m,?_,rfl,rfl,hR,e2,.refl,.refl,e4,fun b hb=>by cases hb⟩,e3⟩;simp only[oK,ho,g1,g3,e1,a0T];cases tm<;>rfl
  exact hk.elim
 .-- mapUpdate
  rename_i t mm i x ho;split at hk
  .rename_i vm vi vx hm hi hx;obtain⟨tm,g1,g2⟩:=jh hE hm;obtain⟨ti,g3,g4⟩:=jh hE hi;obtain⟨tx,g5,g6⟩:=jh hE hx;obtain⟨ps1,pi,GX,h1,Zo,e1,e2,e3,e4,e5,e6⟩:=a5I hR g2 g4 g6 hk;exact⟨.undef,_,_,_,⟨.undef,{ ts with heap:=h1 },Zo,m,by simp only[oK,ho,g1,g3,g5,e1,a0T],rfl,rfl,e2,trivial,e3,.refl,e5,e6⟩,e4⟩
  exact hk.elim
 .-- insert
  rename_i t mm i x ho;split at hk
  .rename_i vm vi vx hm hi hx;obtain⟨tm,g1,g2⟩:=jh hE hm;obtain⟨ti,g3,g4⟩:=jh hE hi;obtain⟨tx,g5,g6⟩:=jh hE hx;obtain⟨ps1,pi,GX,h1,Zo,e1,e2,e3,e4,e5,e6⟩:=a5I hR g2 g4 g6 hk;exact⟨.undef,_,_,_,⟨.undef,{ ts with heap:=h1 },Zo,m,by simp only[oK,ho,g1,g3,g5,e1,a0T],rfl,rfl,e2,trivial,e3,.refl,e5,e6⟩,e4⟩
  exact hk.elim
 .-- mapEntry
  rename_i t mm i ho;split at hk
  .rename_i vm vi hm hi;obtain⟨tm,g1,g2⟩:=jh hE hm;obtain⟨ti,g3,g4⟩:=jh hE hi;obtain⟨e,e',ps1,pi,GX,h1,Zo,e1,e0,e2,e3,e4,e5,e6⟩:=a9t hR g2 g4 hk;exact⟨e,_,_,_,⟨e',{ ts with heap:=h1 },Zo,m,by simp only[oK,ho,g1,g3,e1],rfl,rfl,e2,e0,e3,.refl,e5,e6⟩,e4⟩
  exact hk.elim
 .-- entryStore
  rename_i t mm i x ho;split at hk
  .rename_i vm vi vx hm hi hx;obtain⟨tm,g1,g2⟩:=jh hE hm;obtain⟨ti,g3,g4⟩:=mG hE hi;obtain⟨tx,g5,g6⟩:=jh hE hx;obtain⟨ps1,pi,h1,Zo,e1,e2,e3,e4,e5,e6⟩:=a9v hR g2 g4 g6 hk;exact⟨.undef,_,_,_,⟨.undef,{ ts with heap:=h1 },Zo,m,by simp only[oK,ho,g1,g3,g5,e1,a0T],rfl,rfl,e2,trivial,e3,.refl,e5,e6⟩,e4⟩
  exact hk.elim
 .-- extract
  rename_i t i ho;split at hk
  .rename_i vs hv;obtain⟨w,g1,g2⟩:=mG hE hv;obtain⟨w,rfl,g2⟩:=fO g2;split at hk
   .rename_i v hvi;cases g2 with
    |dG h1 h2=>
     obtain⟨x,e1,e2⟩:=bV.get ⟨h1,h2⟩ hvi;exact iM hR e2 (by simp only[oK,ho,g1,yH,e1,a0T]) hk
    |gone hi _ _=>simp[bg]at hi
   exact hk.elim
  .rename_i r j v hv;obtain⟨w,g1,g2⟩:=mG hE hv;obtain⟨c,y0,rfl,q1,q2⟩:=LG g2;split at hk
   .exact iM hR (nH q2) (by simp only[oK,ho,g1,yH,a0T]) hk
   .exact⟨_,_,_,_,um hR (pe:=.Eh r j) (ev:=.Eh c j) (by simp only[oK,ho,g1,yH,a0T]) ⟨q1,rfl⟩,hk⟩
   exact hk.elim
  exact hk.elim
 .-- call
  rename_i c ho;split at hk
  rotate_left
  .exact hk.elim
  rename_i az has;obtain⟨tas,g1,g2⟩:=Ul hE has;have xK:∀{b:Builtin},c.callee=.builtin b->∀{r:Option (TV×St×lD)},qF P b c.argTypes o.type ts tas=r->oK P call site ts o=r.map fun(v,s,i)=>(.val v,s,i):=by
   intro b hb r hr;simp only[oK,ho,MJ,hb,g1,hr]
  split at hk
  .rename_i hb;split at hk
   .rename_i x;obtain⟨tx,r,rfl,q1,q2⟩:=g2.inv;have:=q2.inv0;subst this;split at hk
    .rename_i v i hv;obtain⟨w,ti,e1,e2,e3,e4⟩:=Yx hR.heap q1 hv;exact⟨.val v,_,_,_,⟨.val w,ts,ti,m,by rw[xK hb (r:=some (w,ts,ti)) (by simp only[qF,e1,a0T])];rfl,rfl,rfl,hR,nI e2,.refl,.refl,e3,fun b hb=>by rw[e4]at hb;cases hb⟩,hk⟩
    exact hk.elim
   exact hk.elim
  .rename_i hb;split at hk
   .rename_i d x;obtain⟨td,r,rfl,q1,q2⟩:=g2.inv;obtain⟨tx,r,rfl,q3,q4⟩:=q2.inv;have:=q4.inv0;subst this;split at hk
    .rename_i v H1 i qs hv;obtain⟨hq,hk⟩:=uo hk;exact wB hR (Ir hX hR q1 q3 hv hq) (xK hb rfl) hk
    exact hk.elim
   exact hk.elim
  .rename_i hb;split at hk
   .rename_i d x;obtain⟨td,r,rfl,q1,q2⟩:=g2.inv;obtain⟨tx,r,rfl,q3,q4⟩:=q2.inv;have:=q4.inv0;subst this;split at hk
    .rename_i v H1 i hv;exact wB hR (TU hX hR q1 q3 hv) (xK hb rfl) hk
    exact hk.elim
   exact hk.elim
  .rename_i hb;split at hk
   .rename_i v hv;obtain⟨w,e1,e2⟩:=yK g2 hv;refine iM hR e2 ?_ hk;rw[xK hb (r:=some (w,ts,cu)) (by simp only[qF,e1,a0T])];rfl
   exact hk.elim
  .rename_i hb;split at hk
   .rename_i v hv;obtain⟨w,e1,e2⟩:=yK g2 hv;refine iM hR e2 ?_ hk;rw[xK hb (r:=some (w,ts,cu)) (by simp only[qF,e1,a0T])];rfl
   exact hk.elim
  .rename_i f hb;split at hk
   rotate_left
   .exact hk.elim
   rename_i fv hfv;obtain⟨tf,f1,f2⟩:=jh hE hfv;have kD:∀{w:TV} {h1:List HB} {ws:List Nat},call tf tas ts.heap=some (w,h1,ws)->oK P call site ts o=some (.val w,{ ts with heap:=h1 },⟨true,[],ws.map .h⟩):=by
    intro w h1 ws hc;simp only[oK,ho,MJ,hb,g1,f1,hc]
   unfold a5w at hk;split at hk
   .rename_i v H1 r;obtain⟨hs,hk⟩:=hk;obtain⟨w,h1,ws,m1,c1,c2,c3,c4,c5,c6⟩:=hs A m ts.heap tf tas hR.heap f2 g2;refine⟨.val v,_,_,_,⟨.val w,_,_,m1,kD c1,rfl,rfl,hR.step c2 c4 c5,nI c3,c4,c5,⟨fun _=>rfl,fun k hk=>(by cases hk),fun k hk=>?_,fun b hb=>?_,fun b hb=>(by cases hb),fun h=>(by cases h)⟩,fun b hb=>?_⟩,hk⟩
    .simp at hk
    .simp at hb;exact .inr ⟨rfl,c6 b hb⟩
    simp at hb;exact c6 b hb
   .split at hk
    .rename_i Hp je hp;split at hk
     .rename_i Hs fv1 xs1 hHs aea aeb;split at hk
      .rename_i v1 PW hv1 aec;obtain⟨hs,hk⟩:=hk;simp only[a2m,a1X]at je;obtain⟨w,h1,ws,m1,c1,c2,c3,c4,c5,c6⟩:=IU hX hs.w je.1 hp hHs aea aeb hv1 aec je.2 A m ts.heap tf tas hR.heap f2 g2;refine⟨.val v1,_,_,_,⟨.val w,_,_,m1,kD c1,rfl,rfl,hR.step c2 c4 c5,nI c3,c4,c5,⟨fun _=>rfl,fun k hk=>(by cases hk),fun k hk=>?_,fun b hb=>?_,fun b hb=>(by cases hb),fun h=>(by cases h)⟩,fun b hb=>?_⟩,hk⟩
       .simp at hk
       .simp at hb;obtain⟨_,k,h8,_,h9⟩:=c6 b hb;exact .inl ⟨k,a1f.2 ⟨k,a4l h8,rfl⟩,h9⟩
       simp at hb;obtain⟨_,k,_,_,mb,h8,h9⟩:=c6 b hb;exact bf h8 h9
      exact hk.elim
     exact hk.elim
    exact hk.elim
   .split at hk
    .rename_i Hp je hp;split at hk
     .rename_i Hs fv1 xs1 hHs aea aeb;split at hk
      .rename_i v1 PW Hs2 H2 hv1 aec anR;obtain⟨hs,hk⟩:=hk;simp only[a2m,a1X]at je;have hsl:Hs.length=_:=(sN hHs).1.trans (DW hp).1;obtain⟨w,h1,ws,m1,c1,c2,c3,c4,c5,c6⟩:=IU hX (Zl anR (by rw[hsl];exact je.2) hs.w) je.1 hp hHs aea aeb hv1 aec je.2 A m ts.heap tf tas hR.heap f2 g2;refine⟨.val v1,_,_,_,⟨.val w,_,_,m1,kD c1,rfl,rfl,hR.step c2 c4 c5,nI c3,c4,c5,⟨fun _=>rfl,fun k hk=>(by cases hk),fun k hk=>?_,fun b hb=>?_,fun b hb=>(by cases hb),fun h=>(by cases h)⟩,fun b hb=>?_⟩,hk⟩
       .simp at hk
       .simp at hb;obtain⟨p,k,h8,h7,h9⟩:=c6 b hb;exact .inl ⟨k,a1f.2 ⟨k,WR h8 (by simpa using h7.2),rfl⟩,h9⟩
       simp at hb;obtain⟨_,k,_,_,mb,h8,h9⟩:=c6 b hb;exact bf h8 h9
      exact hk.elim
     exact hk.elim
    exact hk.elim
   split at hk
   .rename_i g first cap _
    cases f2 with
    |gone hi _ _=>simp[bg]at hi
    |fn p1 p2 p3 p4=>
     split at hk
     .rename_i vs hvs;split at hk
      .rename_i v ext qs anS;split at hk
       .rename_i ext' EX;obtain⟨hq,hk⟩:=uo hk;obtain⟨w,h1,m1,c1,c2,c3,c4,c5⟩:=GV hX (hO _ _ _ _ _ anS hq) hR.heap hvs EX ⟨p1,p2⟩ g2 ⟨p3,p4⟩;refine⟨.val (shift ps.heap.length v),_,_,_,⟨.val w,_,_,m1,kD c1,rfl,rfl,hR.step c2 c4 c5,nI c3,c4,c5,⟨fun _=>rfl,fun k hk=>(by cases hk),fun k hk=>(by simp at hk),fun b hb=>(by simp at hb),fun b hb=>(by cases hb),fun h=>(by cases h)⟩,fun b hb=>(by simp at hb)⟩,hk⟩
       exact hk.elim
      exact hk.elim
     exact hk.elim
   exact hk.elim
  exact hk.elim
 .-- range
  rename_i t x ho;split at hk
  .rename_i r kt et hx hu;obtain⟨tx,g1,g2⟩:=jh hE hx;split at hk
   .rename_i es KZ;obtain⟨c,fQ,q0,q3,q4,q5⟩:=CQ hR.heap KZ;have htm:=a0R g2 q0;subst htm;have aS:r<m.length:=by rcases q0 with q1|⟨q1,_⟩<;>exact(a04.1 q1).1
    have hp:=hR.heap.push (pb:=.cZ r es.length []) (hb:=.cZ c es.length []) (mb:=.fV ts.heap.length) (.inl rfl) ⟨c,by simp,by rw[a0e aS];rcases q0 with q1|⟨q1,_⟩<;>rw[q1]<;>rfl,fun c' hc=>by
     rw[a0e aS]at hc;rcases q0 with q1|⟨q1,_⟩<;>rw[q1]at hc<;>simp at hc<;>exact hc.symm⟩
    have go:oK P call site ts o=some (.val (.iter ts.heap.length),{ ts with heap:=ts.heap++[.cZ c es.length []] },wS (.h c)):=by
     simp only[oK,ho,g1,hu,q3,q4]
    exact⟨.val (.iter ps.heap.length),_,_,_,⟨_,_,wS (.h c),_,go,rfl,rfl,hR.step hp.1 hp.2.1 hp.2.2,nI (.iter (by rw[<-hR.heap.len];simp)),hp.2.1,hp.2.2,IR.reads rfl (fun b hb=>by simp[wS]at hb;subst hb;exact⟨RJ q0,(a04.1 q3).1⟩) (by simp[wS]),fun b hb=>by simp[wS]at hb⟩,hk⟩
   exact hk.elim
  exact hk.elim
 .-- entry
  rename_i x ho;split at hk
  rotate_left
  .exact hk.elim
  rename_i b hx;obtain⟨tx,g1,g2⟩:=jh hE hx;split at hk
  rotate_left
  .exact hk.elim
  rename_i r n i seen hb;split at hk
  rotate_left
  .exact hk.elim
  rename_i es KZ;split at hk
  .rename_i kk vv _ rest;obtain⟨⟨hn,he⟩,hk⟩:=hk;obtain⟨e,rfl,rfl⟩:∃e:PV X.Γ×PV X.Γ,e.1=kk∧e.2=vv:=⟨(kk,vv),rfl,rfl⟩;have he:es[i]? = some e:=he;obtain⟨mb,q1,q2⟩:=hR.heap.at_ b _ hb;cases mb with
   |fV cb=>
    obtain⟨c,q3,_,q5⟩:=q2;obtain⟨c',fQ,z1,z3,z4,z5⟩:=CQ hR.heap KZ;have:=q5 c' (by rcases z1 with z1|⟨z1,_⟩;exact .inl z1;exact .inr z1);subst this;cases g2 with
    |gone hi e _=>simp only[bg,a00]at hi;subst hi;rw[q1]at e;cases e
    |iter e1=>
     rw[q1]at e1;cases e1;have hl:i<fQ.length:=by rw[<-z4];exact(a04.1 he).1
     have he':=a0a hl;have hv:=z5 i _ _ he he';refine⟨.val (.dG [e.1,e.2]),_,_,_,⟨.val (.dG [fQ[i].1,fQ[i].2]),ts,gX [.h cb,.h c'],m,?_,rfl,rfl,hR,nI (LK (nH hv.1) (nH hv.2)),.refl,.refl,IR.reads rfl (fun b2 xJ=>?_) (by simp[gX]),fun b hb=>by simp[gX]at hb⟩,hk⟩
     .simp only[oK,ho,g1,q3,z3];rw[a0h (by rw[<-z4];exact hn),he'];rfl
     simp[gX]at xJ;rcases xJ with rfl|rfl
     .exact⟨.inl ⟨b,by simp[gX],iO q1 rfl⟩,(a04.1 q3).1⟩
     refine⟨?_,(a04.1 z3).1⟩;rcases z1 with z1|⟨_,z1⟩
     .exact .inl ⟨r,by simp[gX],iO z1 rfl⟩
     exact .inr z1
   |_=>exact q2.elim
  split at hk
  case isFalse=>exact hk.elim
  rename_i hn;split at hk
  case h_2=>exact hk.elim
  rename_i e he;obtain⟨mb,q1,q2⟩:=hR.heap.at_ b _ hb;cases mb with
  |fV cb=>
   obtain⟨c,q3,_,q5⟩:=q2;obtain⟨c',fQ,z1,z3,z4,z5⟩:=CQ hR.heap KZ;have:=q5 c' (by rcases z1 with z1|⟨z1,_⟩;exact .inl z1;exact .inr z1);subst this;cases g2 with
   |gone hi e _=>simp only[bg,a00]at hi;subst hi;rw[q1]at e;cases e
   |iter e1=>
    rw[q1]at e1;cases e1;have hl:i<fQ.length:=by rw[<-z4];exact(a04.1 he).1
    have he':=a0a hl;have hv:=z5 i _ _ he he';refine⟨.val (.dG [e.1,e.2]),_,_,_,⟨.val (.dG [fQ[i].1,fQ[i].2]),ts,gX [.h cb,.h c'],m,?_,rfl,rfl,hR,nI (LK (nH hv.1) (nH hv.2)),.refl,.refl,IR.reads rfl (fun b2 xJ=>?_) (by simp[gX]),fun b hb=>by simp[gX]at hb⟩,hk⟩
    .simp only[oK,ho,g1,q3,z3];rw[a0h (by rw[<-z4];exact hn),he'];rfl
    simp[gX]at xJ;rcases xJ with rfl|rfl
    .exact⟨.inl ⟨b,by simp[gX],iO q1 rfl⟩,(a04.1 q3).1⟩
    refine⟨?_,(a04.1 z3).1⟩;rcases z1 with z1|⟨_,z1⟩
    .exact .inl ⟨r,by simp[gX],iO z1 rfl⟩
    exact .inr z1
  |_=>exact q2.elim
 exact hk.elim
end
inductive IRs:List MB->List HB->List PI->List lD->Prop where
 |nil {m h}:IRs m h [] []
 |cons {m h p t m1 h1 ps ts}:(bn m).Nodup->(∀b,b∈bn m->b<h.length)->IR m h p t->Fr m h m1 h1->Up m m1->(p.mv=false->∀(i:Nat),i<m.length->m1[i]? = some .gone->m[i]? = some .gone)->IRs m1 h1 ps ts->IRs m h (p::ps) (t::ts)
theorem a5N{fl b c:Nat}{ws:List Nat}(h:c∈Ei fl b ws):c∈ws∨(c=b∧b<fl):=by
 unfold Ei at h;split at h
 .rename_i hl;split at h
  .exact .inl h
  rcases a1Y.1 h with h|h
  .exact .inr ⟨h,hl⟩
  exact .inl h
 exact .inl h
theorem vJ{fl c:Nat}:∀{ks:List Key} {ws:List Nat},c∈jL fl ks ws->c∈ws∨(.h c∈ks∧c<fl)
 | [],ws,h=>.inl h
 |.h b::ks,ws,h=>by
  rcases vJ (ks:=ks) h with h|⟨h1,h2⟩
  .rcases a5N h with h|⟨rfl,h⟩
   .exact .inl h
   exact .inr ⟨a3N,h⟩
  exact .inr ⟨a3O _ h1,h2⟩
 |.l _::ks,ws,h=>by
  rcases vJ (ks:=ks) h with h|⟨h1,h2⟩
  .exact .inl h
  exact .inr ⟨a3O _ h1,h2⟩
theorem WS{m m1:List MB}(hU:Up m m1)(hg:∀(i:Nat),i<m.length->m1[i]? = some .gone->m[i]? = some .gone){i b:Nat}(h:GL m i b):GL m1 i b:=by
 obtain⟨mb,h1,h2⟩:=h;rcases hU i mb h1 with e|e
 .exact⟨mb,e,h2⟩
 have:=hg i (a04.1 h1).1 e;rw[h1]at this;cases this;cases h2
theorem CS{m:List MB}(hn:(bn m).Nodup){i j b:Nat}(h1:GL m i b)(h2:GL m j b):i=j:=by
 obtain⟨_,a1,a2⟩:=h1;obtain⟨_,b1,b2⟩:=h2;exact iT hn a1 b1 a2 b2
theorem a9A{ma mb:List MB}{ha hb:List HB}{pa pb:PI}{ta tb:lD}(na:(bn ma).Nodup)(nb:(bn mb).Nodup)(la:∀b,b∈bn ma->b<ha.length)(hab:Fr ma ha mb hb)(A:IR ma ha pa ta)(B:IR mb hb pb tb)(hc:a0I pa pb=true)
  (Qb:(∀i b,GL ma i b->GL mb i b)∨pa.hp=false∨pb.hp=false):calm ta tb=true:=by
 simp only[a0I,a2m]at hc;obtain⟨c1,c2⟩:=hc;simp only[Zb,a2m,a4s,a8x,a8O]at c1 c2;obtain⟨c1,c1w⟩:=c1;obtain⟨c2,c2w⟩:=c2;simp only[calm,a2m];constructor
 .simp only[MQ,a4s,a2m,a8x,agA];intro k hk;cases k with
  |l j=>
   have:=c1 _ (A.wl j hk);simp only[a5B,a2W]at this ⊢;exact⟨⟨.inr rfl,fun h=>this.1.1.2 (B.tl j h)⟩,fun h=>this.1.2 (B.wl j h)⟩
  |h c=>
   rcases Qb with a5O|Qb|Qb
   .-- nothing is given up
    have hca:c∈bn ma:=by
     rcases A.wh c hk with⟨i,_,h2⟩|⟨_,h2⟩
     .exact Ze h2
     .exact h2
    obtain⟨i0,hi0⟩:=jU hca;have hi1:=a5O _ _ hi0;have hcb:c∈bn mb:=Ze hi1;rcases A.wh c hk with⟨i,h1,h2⟩|⟨h1,h2⟩
    .have hii:=CS na hi0 h2;subst hii;have Nj:=c1 _ h1;simp only[a5B,a2W,Key.isH,agT]at Nj;refine⟨⟨.inl ?_,?_⟩,?_⟩
     .cases hq:tb.all with
      |false=>rfl
      |true=>rw[B.all hq]at Nj;simp at Nj
     .simp only[a5B,a2W];intro hq;rcases(B.th c hq).1 with⟨j,g1,g2⟩|g1
      .have:=CS nb hi1 g2;subst this;exact Nj.1.1.2 g1
      .exact g1 hcb
     .simp only[a5B,a2W];intro hq;rcases B.wh c hq with⟨j,g1,g2⟩|⟨g1,g2⟩
      .have:=CS nb hi1 g2;subst this;exact Nj.1.2 g1
      .rw[g1]at Nj;simp at Nj
    .rw[h1]at c1w;simp only[agp,false_or]at c1w;obtain⟨⟨⟨w1,w2⟩,w3⟩,w4⟩:=c1w;refine⟨⟨.inl ?_,?_⟩,?_⟩
     .cases hq:tb.all with
      |false=>rfl
      |true=>rw[B.all hq]at w1;cases w1
     .simp only[a5B,a2W];intro hq;rcases(B.th c hq).1 with⟨j,g1,g2⟩|g1
      .have:=w3 _ g1;simp[Key.isH]at this
      .exact g1 hcb
     .simp only[a5B,a2W];intro hq;rcases B.wh c hq with⟨j,g1,g2⟩|⟨g1,g2⟩
      .have:=w4 _ g1;simp[Key.isH]at this
      .rw[g1]at w2;cases w2
   .exact absurd hk ((A.hp Qb).2.2 c)
   .obtain⟨g1,g2,g3⟩:=B.hp Qb;refine⟨⟨.inl g1,?_⟩,?_⟩<;>simp only[a5B,a2W]
    .exact g2 c
    .exact g3 c
 .simp only[MQ,a4s,a2m,a8x,agA];intro k hk;cases k with
  |l j=>
   have:=c2 _ (B.wl j hk);simp only[a5B,a2W]at this ⊢;exact⟨⟨.inr rfl,fun h=>this.1.1.2 (A.tl j h)⟩,fun h=>this.1.2 (A.wl j h)⟩
  |h c=>
   rcases Qb with a5O|Qb|Qb
   .have hcb:c∈bn mb:=by
     rcases B.wh c hk with⟨i,_,h2⟩|⟨_,h2⟩
     .exact Ze h2
     .exact h2
    obtain⟨j0,hj0⟩:=jU hcb;have back:c<ha.length->c∈bn ma:=fun aS=>by
     rcases hab.new c hcb with h1|h1
     .exact h1
     .omega
    have ai2:∀i,GL ma i c->i=j0:=fun i hi=>CS nb (a5O _ _ hi) hj0;rcases B.wh c hk with⟨j,h1,h2⟩|⟨h1,h2⟩
    .have hii:=CS nb hj0 h2;subst hii;have Nj:=c2 _ h1;simp only[a5B,a2W,Key.isH,agT]at Nj;refine⟨⟨.inl ?_,?_⟩,?_⟩
     .cases hq:ta.all with
      |false=>rfl
      |true=>rw[A.all hq]at Nj;simp at Nj
     .simp only[a5B,a2W];intro hq;obtain⟨g0,glt⟩:=A.th c hq;rcases g0 with⟨i,g1,g2⟩|g1
      .have:=ai2 i g2;subst this;exact Nj.1.1.2 g1
      .exact g1 (back glt)
     .simp only[a5B,a2W];intro hq;rcases A.wh c hq with⟨i,g1,g2⟩|⟨g1,g2⟩
      .have:=ai2 i g2;subst this;exact Nj.1.2 g1
      .rw[g1]at Nj;simp at Nj
    .rw[h1]at c2w;simp only[agp,false_or]at c2w;obtain⟨⟨⟨w1,w2⟩,w3⟩,w4⟩:=c2w;refine⟨⟨.inl ?_,?_⟩,?_⟩
     .cases hq:ta.all with
      |false=>rfl
      |true=>rw[A.all hq]at w1;cases w1
     .simp only[a5B,a2W];intro hq;obtain⟨g0,glt⟩:=A.th c hq;rcases g0 with⟨i,g1,g2⟩|g1
      .have:=w3 _ g1;simp[Key.isH]at this
      .exact g1 (back glt)
     .simp only[a5B,a2W];intro hq;rcases A.wh c hq with⟨i,g1,g2⟩|⟨g1,g2⟩
      .have:=w4 _ g1;simp[Key.isH]at this
      .rw[g1]at w2;cases w2
   .obtain⟨g1,g2,g3⟩:=A.hp Qb;refine⟨⟨.inl g1,?_⟩,?_⟩<;>simp only[a5B,a2W]
    .exact g2 c
    .exact g3 c
   .exact absurd hk ((B.hp Qb).2.2 c)
theorem a5P:∀{ps:List PI} {ts:List lD} {m:List MB} {h:List HB},IRs m h ps ts->∀{j:Nat} {p:PI},ps[j]? = some p->∃t mj hj,ts[j]? = some t∧IR mj hj p t∧(bn mj).Nodup∧(∀b,b∈bn mj->b<hj.length)∧Fr m h mj hj∧((∀(i:Nat) q,i<j->ps[i]? = some q->q.mv=false)->∀i b,GL m i b->GL mj i b)
 |_,_,_,_,.nil,j,p,hj=>by simp at hj
 |_,_,m,h,.cons n1 n2 i1 f1 u1 g1 rest,j,p,hj=>by
  cases j with
  |zero=>
   simp only[a2J,a00]at hj;subst hj;exact⟨_,m,h,rfl,i1,n1,n2,.refl,fun _ i b hb=>hb⟩
  |succ j=>
   obtain⟨t,mj,Ew,e1,e2,e3,e4,e5,e6⟩:=a5P rest (j:=j) (by simpa using hj);refine⟨t,mj,Ew,by simpa using e1,e2,e3,e4,f1.trans e5,fun hq i b hb=>e6 (fun i q hl hi=>hq (i+1) q (by omega) (by simpa using hi)) i b ?_⟩;exact WS u1 (g1 (hq 0 _ (by omega) rfl)) hb
theorem a0V:∀{ps:List PI} {ts:List lD} {m:List MB} {h:List HB},IRs m h ps ts->∀{i j:Nat} {p q:PI},i<j->ps[i]? = some p->ps[j]? = some q->a0I p q=true->((∀(k:Nat) q,i<=k->k<j->ps[k]? = some q->q.mv=false)∨p.hp=false∨q.hp=false)->∃a b,ts[i]? = some a∧ts[j]? = some b∧calm a b=true
 |_,_,_,_,.nil,i,j,p,q,_,hi,_,_,_=>by simp at hi
 |_,_,m,h,.cons n1 n2 i1 f1 u1 g1 rest,i,j,p,q,zV,hi,hj,hc,Qb=>by
  cases j with
  |zero=>omega
  |succ j=>
   cases i with
   |zero=>
    simp only[a2J,a00]at hi;subst hi;obtain⟨t,mj,Ew,e1,e2,e3,e4,e5,e6⟩:=a5P rest (j:=j) (by simpa using hj);refine⟨_,t,rfl,by simpa using e1,a9A n1 e3 n2 (f1.trans e5) i1 e2 hc ?_⟩;refine Qb.imp_left fun hq i b hb=>e6 (fun i q hl hi=>hq (i+1) q (by omega) (by omega) (by simpa using hi)) i b (WS u1 (g1 (hq 0 _ (by omega) (by omega) rfl)) hb)
   |succ i=>
    obtain⟨a,b,e1,e2,e3⟩:=a0V rest (i:=i) (j:=j) (by omega) (by simpa using hi) (by simpa using hj) hc (Qb.imp_left fun hq k q h1 h2 hi=>hq (k+1) q (by omega) (by omega) (by simpa using hi));exact⟨a,b,by simpa using e1,by simpa using e2,e3⟩
theorem a5Q{ps:List PI}{ts:List lD}{m:List MB}{h:List HB}(hI:IRs m h ps ts):∀{prs:List (Nat×Nat)},(∀q∈prs,q.1<q.2)->Uh ps prs=true->AZ ts prs=true
 | [],_,_=>rfl
 |(i,j)::r,aS,hd=>by
  simp only[Uh,a2m]at hd;obtain⟨h1,h2⟩:=hd;split at h1
  .rename_i a b ha hb;simp only[a2m,a8O,a8x]at h1;obtain⟨x,y,e1,e2,e3⟩:=a0V hI (aS _ a3N) ha hb h1.1 (by
    rcases h1.2 with(h3|h3)|h3
    .exact .inr (.inl h3)
    .exact .inr (.inr h3)
    left;intro k q VA lN hk;cases hq:q.mv with
    |false=>rfl
    |true=>
     refine absurd (ad8.2 ⟨q,a4l (i:=k-i) ?_,hq⟩) (by rw[h3];simp);rw[a4d,a0h (by omega),a4b,<-hk];congr 1;omega)
   simp only[AZ,e1,e2,e3,abq];exact a5Q hI (fun q hq=>aS q (a3O _ hq)) h2
  cases h1
theorem aed{ops:List Oper}:∀q∈lU ops,q.1<q.2:=by
 intro q hq;unfold lU at hq;have:=(a6t.1 hq).1;unfold nR at this;simp only[adZ,a1f,a6t,a4f]at this;obtain⟨j,_,i,⟨hi,_⟩,rfl⟩:=this;exact hi
theorem RQ{ts:List lD}(hw:∀t∈ts,t.ws=[]):∀{prs:List (Nat×Nat)},(∀q∈prs,q.1<ts.length∧q.2<ts.length)->AZ ts prs=true
 | [],_=>rfl
 |(i,j)::r,hl=>by
  obtain⟨h1,h2⟩:=hl _ a3N;simp only[AZ,a0a h1,a0a h2,a2m];refine⟨?_,RQ hw fun q hq=>hl q (a3O _ hq)⟩;simp[calm,MQ,hw _ (a4w h1),hw _ (a4w h2)]
theorem aee{ops:List Oper}:∀q∈lU ops,q.1<ops.length∧q.2<ops.length:=by
 intro q hq;unfold lU at hq;have:=(a6t.1 hq).1;unfold nR at this;simp only[adZ,a1f,a6t,a4f]at this;obtain⟨j,hj,i,⟨hi,_⟩,rfl⟩:=this;exact⟨by simp only;omega,hj⟩
section
variable {X:kE} {P:Program} {A W:Nat->Prop} {m m':List MB} {h:List HB}
structure SR(X:kE)(P:Program)(A W:Nat->Prop)(fl:Nat)(m:List MB)(ps:aQ X.Γ)(ts:St):Prop where
 st:uK X P A m ps ts
 own:∀b,b∈bn m->W b∨fl<=b
 ws:∀b,b∈ts.ws->W b
 fl:fl<=ts.heap.length
def LP(B:Nat)(m m1:List MB):Prop:=∀(i:Nat) mb,i<B->m[i]? = some mb->m1[i]? = some mb∨m1[i]? = some .gone
theorem Up.b{B:Nat}{m m1:List MB}(h:Up m m1):LP B m m1:=fun i mb _ hi=>h i mb hi
theorem LP.trans{B:Nat}{m m1 m2:List MB}(a:LP B m m1)(b:LP B m1 m2):LP B m m2:=fun i mb hB hi=>by
 rcases a i mb hB hi with h|h
 .exact b i mb hB h
 .rcases b i _ hB h with h|h<;>exact .inr h
theorem LP.refl{B:Nat}{m:List MB}:LP B m m:=fun _ _ _ h=>.inl h
def CU(X:kE)(P:Program)(B:Nat)(ps ps1:aQ X.Γ):Prop:=
 ∀(A W:Nat->Prop) (fl:Nat) (m:List MB) (ts:St),SR X P A W fl m ps ts->∃m1,SR X P A W fl m1 ps1 ts∧Fr m ts.heap m1 ts.heap∧LP B m m1
theorem CU.refl{B:Nat}{ps:aQ X.Γ}:CU X P B ps ps:=fun _ _ _ m _ hS=>⟨m,hS,.refl,.refl⟩
theorem CU.trans{B:Nat}{a b c:aQ X.Γ}(h1:CU X P B a b)(h2:CU X P B b c):CU X P B a c:=fun A W fl m ts hS=>by
 obtain⟨m1,g1,g2,g3⟩:=h1 A W fl m ts hS;obtain⟨m2,g4,g5,g6⟩:=h2 A W fl m1 ts g1;exact⟨m2,g4,g2.trans g5,g3.trans g6⟩
theorem a9B{env:List (Nat×PE X.Γ)}{env':List (Nat×EV)}(he:jJ X P A m h env env'):jJ X P A m h (a9c env) env':=by
 induction he with
 |nil=>exact .nil
 |cons h1 _ ih=>
  rename_i k v x r r' _;cases v with
  |val v=>obtain⟨y,rfl,h2⟩:=fO h1;exact .cons (nI (Gy h2)) ih
  |_=>exact .cons h1 ih
theorem a9C{t i:Nat}(hi:m[i]? = some (.dw (.nil .slc))):∀{env:List (Nat×PE X.Γ)} {env':List (Nat×EV)} {r:List (Nat×PE X.Γ)},jJ X P A m h env env'->BA t i env=some r->jJ X P A m h r env':=by
 intro env env' r he
 induction he generalizing r with
 |nil=>intro h;cases h
 |cons h1 h2 ih=>
  rename_i k v x q q';intro hn;simp only[BA]at hn;split at hn
  .split at hn
   .cases hn;obtain⟨y,rfl,h3⟩:=fO h1;have:y=.nil .slc:=by
     cases h3 with
     |nil=>rfl
     |gone hi _ _=>simp[bg]at hi
    subst this;exact .cons (nI (.own hi rfl)) h2
   cases hn
  simp only[a09]at hn;obtain⟨q2,h3,rfl⟩:=hn;exact .cons h1 (ih h3)
theorem a0W{i off:Nat}(hi:m[i]? = some (.dw (.nil .slc))){cs r:List (PV X.Γ)}{xs:List TV}(hv:bV X P A m h cs xs)(hn:a9d off i cs=some r):bV X P A m h r xs:=by
 unfold a9d at hn;split at hn
 .rename_i hc;cases hn;refine⟨by rw[a4q,hv.1],fun j a b ha hb=>?_⟩;by_cases e:off=j
  .subst e;rw[a4c,hc]at ha;cases ha;have:b=.nil .slc:=by
    cases hv.2 _ _ _ hc hb with
    |nil=>rfl
    |gone hi _ _=>simp[bg]at hi
   subst this;exact .own hi rfl
  rw[a1D e]at ha;exact hv.2 j a b ha hb
 cases hn
theorem SR.Us{fl:Nat}{ps:aQ X.Γ}{ts:St}(hS:SR X P A W fl m ps ts)(e:Nat):∃m1,HR X P A m1 (ps.heap++[.list false false e []]) ts.heap∧Fr m ts.heap m1 ts.heap∧Up m m1∧m1[ps.heap.length]? = some (.dw (.nil .slc))∧(∀b,b∈bn m1->b∈bn m):=by
 obtain⟨h1,h2,h3⟩:=hS.st.heap.abC (pb:=.list false false e []) (mb:=.dw (.nil .slc)) rfl LR.nil;refine⟨_,h1,h2,h3,by rw[<-hS.st.heap.len];simp,fun b hb=>?_⟩;rw[iW,a3K,jT]at hb;simpa[MB.own]using hb
theorem a5R(hX:bM X P){H:List (PB X.Γ)}(hr:HR X P A m H h){i:Nat}{v w:PV X.Γ}{x:TV}(hv:VR X P (AA A m) m h v x)(hw:fzV H i v=some w):VR X P (AA A (bU [i] m)) (bU [i] m) h w x:=by
 unfold fzV at hw;split at hw
 .cases hw;exact hv.step (iq (h:=h) [i] m).1 (iq (h:=h) [i] m).2
 split at hw
 .rename_i ha;refine(Un (m':=bU [i] m) hX hr hv hw (is:=[i]) fun j hj=>?_).mono fun b hb=>FA.gone hr hb;have:=a4s.1 ha j hj;rw[a8G this];exact a2I.2 rfl
 cases hw
theorem a0X(hX:bM X P){H:List (PB X.Γ)}(hr:HR X P A m H h){i:Nat}:∀{v w:List (PV X.Γ)} {x:List TV},bV X P (AA A m) m h v x->a5q H i v=some w->bV X P (AA A (bU [i] m)) (bU [i] m) h w x
 | [],w,x,hv,hw=>by
  cases hw;rw[hv.inv0];exact .nil
 |v::vs,w,x,hv,hw=>by
  obtain⟨y,r,rfl,h1,h2⟩:=hv.inv;simp only[a5q]at hw;split at hw
  .rename_i w1 ws e1 e2;cases hw;exact .cons (a5R hX hr h1 e1) (a0X hX hr h2 e2)
  cases hw
theorem aef(hX:bM X P){H:List (PB X.Γ)}(hr:HR X P A m H h){i:Nat}{v:List (Nat×PE X.Γ)}{x:List (Nat×EV)}(hv:jJ X P (AA A m) m h v x):∀{w:List (Nat×PE X.Γ)},fzE H i v=some w->jJ X P (AA A (bU [i] m)) (bU [i] m) h w x:=by
 induction hv with
 |nil=>intro w hw;cases hw;exact .nil
 |cons h1 h2 ih=>
  rename_i k v x q q';intro w hw;cases v with
  |val v=>
   simp only[fzE]at hw;split at hw
   .rename_i w1 ws e1 e2;cases hw;obtain⟨y,rfl,h3⟩:=fO h1;exact .cons (nI (a5R hX hr h3 e1)) (ih e2)
   cases hw
  |loc k o=>
   simp only[fzE,a09]at hw;obtain⟨ws,e2,rfl⟩:=hw;exact .cons (by cases x<;>exact h1) (ih e2)
  |undef=>
   simp only[fzE,a09]at hw;obtain⟨ws,e2,rfl⟩:=hw;exact .cons (by cases x<;>exact h1) (ih e2)
  |ent|Eh=>simp[fzE]at hw
theorem a0Y{Γ:Nat->Type}{H:List (PB Γ)}{i:Nat}:∀{l r:List (List (PV Γ))},fzL H i l=some r->r.length=l.length∧∀(k:Nat) ds,r[k]? = some ds->∃cs,l[k]? = some cs∧a5q H i cs=some ds
 | [],r,h=>by cases h;exact⟨rfl,fun k ds hk=>by simp at hk⟩
 |c::l,r,h=>by
  simp only[fzL]at h;split at h
  .rename_i w ws e1 e2;cases h;obtain⟨q1,q2⟩:=a0Y e2;refine⟨by simp[q1],fun k ds hk=>?_⟩;cases k with
   |zero=>simp at hk;subst hk;exact⟨c,rfl,e1⟩
   |succ k=>exact q2 k ds (by simpa using hk)
  cases h
theorem a5S(hX:bM X P){B:Nat}{g:G}{ps ps1:aQ X.Γ}(hg:Bf B ps g=some ps1):CU X P B ps ps1:=by
 intro A W fl m ts hS;cases g with
 |lit=>
  simp only[Bf,a00]at hg;subst hg;exact⟨m,⟨⟨hS.st.heap,hS.st.llen,hS.st.loc,a9B hS.st.env⟩,hS.own,hS.ws,hS.fl⟩,.refl,.refl⟩
 |BA t e=>
  simp only[Bf,a09]at hg;obtain⟨env,h1,rfl⟩:=hg;obtain⟨m1,e1,e2,e3,e4,e5⟩:=hS.Us e;exact⟨m1,⟨⟨e1,hS.st.llen,fun k cs hk=>let ⟨cs',q1,q2⟩:=hS.st.loc k cs hk;⟨cs',q1,q2.step e2 e3⟩,a9C e4 (hS.st.env.step e2 e3) h1⟩,fun b hb=>hS.own b (e5 b hb),hS.ws,hS.fl⟩,e2,e3.b⟩
 |a2z k off e=>
  simp only[Bf]at hg;split at hg
  .rename_i cs hk;simp only[a09]at hg;obtain⟨RG,h1,rfl⟩:=hg;obtain⟨m1,e1,e2,e3,e4,e5⟩:=hS.Us e;refine⟨m1,⟨⟨e1,by simp[hS.st.llen],fun j ds hj=>?_,hS.st.env.step e2 e3⟩,fun b hb=>hS.own b (e5 b hb),hS.ws,hS.fl⟩,e2,e3.b⟩;by_cases e0:k=j
   .subst e0;rw[a4c,hk]at hj;cases hj;obtain⟨cs',q1,q2⟩:=hS.st.loc k cs hk;exact⟨cs',q1,a0W e4 (q2.step e2 e3) h1⟩
   rw[a1D e0]at hj;obtain⟨cs',q1,q2⟩:=hS.st.loc j ds hj;exact⟨cs',q1,q2.step e2 e3⟩
  cases hg
 |Uf i off e=>
  simp only[Bf]at hg;split at hg
  rotate_left
  .cases hg
  rename_i cs hi;simp only[a09]at hg;obtain⟨RG,h1,rfl⟩:=hg;obtain⟨m1,e1,e2,e3,e4,e5⟩:=hS.Us e;have aS:i<ps.heap.length:=(a04.1 hi).1;have wX:HR X P A m1 (ps.heap.set i (.cells RG)++[.list false false e []]) ts.heap:=by
   refine e1.next .refl .refl (by simp[e1.len]) e1.nodup fun j b hj=>?_;by_cases e0:i=j
   .subst e0;right;rw[a0e (by simpa using aS),a4c,hi]at hj;cases hj;obtain⟨mb,q1,q2⟩:=e1.at_ i (.cells cs) (by rw[a0e aS];exact hi);refine⟨mb,q1,?_⟩;cases mb with
    |fV c=>obtain⟨xs,q3,q4⟩:=q2;exact⟨xs,q3,a0W e4 q4 h1⟩
    |_=>exact q2.elim
   left;have:(ps.heap++[PB.list false false e []])[j]? = some b:=by
    rw[<-hj];rcases a4a j ps.heap.length with h9|h9
    .rw[a0e h9,a0e (by simpa using h9),a1D e0]
    rw[a1c h9,a1c (by simpa using h9),a4q]
   obtain⟨mb,q1,_⟩:=e1.at_ j b this;exact⟨mb,this,q1,q1,fun _ _=>rfl⟩
  exact⟨m1,⟨⟨wX,hS.st.llen,fun k cs hk=>let ⟨cs',q1,q2⟩:=hS.st.loc k cs hk;⟨cs',q1,q2.step e2 e3⟩,hS.st.env.step e2 e3⟩,fun b hb=>hS.own b (e5 b hb),hS.ws,hS.fl⟩,e2,e3.b⟩
 |flag i=>
  simp only[Bf]at hg;split at hg
  rotate_left
  .cases hg
  rename_i k ex t l hi;cases hg;have hr:=hS.st.heap;refine⟨m,⟨⟨?_,hS.st.llen,hS.st.loc,hS.st.env⟩,hS.own,hS.ws,hS.fl⟩,.refl,.refl⟩;refine hr.next .refl .refl (by simp[hr.len]) hr.nodup fun j b hj=>?_;by_cases e0:i=j
  .subst e0;right;rw[a4c,hi]at hj;cases hj;obtain⟨mb,q1,q2⟩:=hr.at_ i _ hi;refine⟨mb,q1,?_⟩;cases mb with
   |dw y=>
    cases(q2:LR X P _ _ _ _ _ _ _ y)with
    |nil=>exact LR.nil
    |emp p0 p1 p2 p3 p4=>exact LR.emp p0 p1 p2 p3 p4
    |some p1 p2 p3 p4 p5 p6 p7 p8 p9=>exact LR.some p1 p2 p3 p4 p5 (by simp) (by simp) p8 p9
   |_=>exact q2.elim
  left;rw[a1D e0]at hj;obtain⟨mb,q1,_⟩:=hr.at_ j b hj;exact⟨mb,hj,q1,q1,fun _ _=>rfl⟩
 |gc ks=>
  simp only[Bf]at hg;split at hg
  rotate_left
  .cases hg
  rename_i hc;simp only[a2m,a1X,a4s]at hc;obtain⟨⟨EC,je⟩,hB⟩:=hc;split at hg
  rotate_left
  .cases hg
  rename_i env loc b1 b2 h1 h2 h3 h4;split at hg
  rotate_left
  .cases hg
  rename_i b3 h5;cases hg;have hr:=hS.st.heap;have hp:=DW h4;have anY:∀k∈ks,k<m.length:=fun k hk=>by
   obtain⟨i,hi⟩:=a8y hk;obtain⟨b,q1,_⟩:=hp.2 hi;rw[hr.len];exact(a04.1 q1).1
  have hBm:B<=m.length:=by rw[hr.len];exact hB
  let m1:List MB:=m.take B++ks.map fun k=>m.getD k .gone
  have aeg:(m.take B).length=B:=by rw[a3R];omega
  have Gj:∀i,i<B->m1[i]? = m[i]?:=fun i hi=>by
   show(m.take B++_)[i]? = _;rw[a0e (by omega),a4d,a0h hi]
  have hhi:∀p k,ks[p]? = some k->m1[p+B]? = m[k]?:=fun p k hp=>by
   show(m.take B++_)[p+B]? = _;rw[a1c (by omega),aeg,Nat.add_sub_cancel,a4h,hp];have:=anY k (a4l hp);simp[a2X,this]
  have hg:∀i j,(fun i=>if i<B then some i else(vY ks i).map (·+B)) i=some j->m1[j]? = m[i]?:=fun i j zV=>by
   simp only at zV;split at zV
   .rename_i hi;cases zV;exact Gj i hi
   simp only[a09]at zV;obtain⟨p,hp,rfl⟩:=zV;exact hhi p i (Oh hp)
  have hold:∀j mb,m1[j]? = some mb->∃i,m[i]? = some mb∧((j<B∧i=j)∨∃p,j=p+B∧ks[p]? = some i):=fun j mb hj=>by
   rcases a4a j B with aS|Eu
   .exact⟨j,by rw[<-Gj j aS];exact hj,.inl ⟨aS,rfl⟩⟩
   have rO:j-B<ks.length:=by
    have:=(a04.1 hj).1;have h9:m1.length=B+ks.length:=by show(m.take B++_).length=_;rw[a2a,aeg,a4e]
    omega
   have hp:=a0a rO;have hh:=hhi (j-B) _ hp;rw[show j-B+B=j by omega,hj]at hh;exact⟨_,hh.symm,.inr ⟨j-B,by omega,hp⟩⟩
  have yL:∀b,b∈bn m1->b∈bn m:=fun b hb=>by
   obtain⟨j,mb,q1,q2⟩:=jU hb;obtain⟨i,q3,_⟩:=hold j mb q1;exact bf q3 q2
  have hA:∀b,AA A m b->AA A m1 b:=fun b hb=>⟨hb.1,fun hm=>hb.2 (yL b hm)⟩;have aeh:(bn m1).Nodup:=jo fun i j c q1 q2=>by
   obtain⟨ma,a1,a2⟩:=q1;obtain⟨mc,c1,c2⟩:=q2;obtain⟨i',a3,a4⟩:=hold i ma a1;obtain⟨j',c3,c4⟩:=hold j mc c1;have e:=iT hr.nodup a3 c3 a2 c2;subst e;rcases a4 with⟨a5,a6⟩|⟨p,a5,a6⟩<;>rcases c4 with⟨c5,c6⟩|⟨q,c5,c6⟩
   .omega
   .have:=EC _ (a4l c6);omega
   .have:=EC _ (a4l a6);omega
   have FT:=(a04.1 a6).1;have:p=q:=(List.getElem?_inj FT je).1 (by rw[a6,c6]);omega
  have hFr:Fr m ts.heap m1 ts.heap:=⟨a15 _,fun _ _ _=>rfl,fun b hb=>.inl (yL b hb),fun b cs hc=>⟨cs,hc,a15 _⟩⟩;have BU:=sN h3;have hb3:=sN h5;have TM:=Oj h2;refine⟨m1,⟨⟨⟨?_,fun j b hj=>?_,aeh,hr.up,fun b hb=>hr.CP b (yL b hb)⟩,by rw[TM.1];exact hS.st.llen,fun k cs hk=>?_,Oi hX hg hA hS.st.env h1⟩,fun b hb=>hS.own b (yL b hb),hS.ws,hS.fl⟩,hFr,fun i mb hi hm=>.inl (by rw[Gj i hi];exact hm)⟩
  .show(m.take B++_).length=_;rw[a2a,a2a,a4e,BU.1,hb3.1,hp.1,aeg,a3R];omega
  .have a0r:b1.length=B:=by rw[BU.1,a3R];omega
   rcases a4a j B with aS|Eu
   .rw[a0e (by omega)]at hj;obtain⟨b0,q1,q2⟩:=BU.2 hj;rw[a4d,a0h aS]at q1;obtain⟨mb,q3,q4⟩:=hr.at_ j b0 q1;exact⟨mb,by rw[Gj j aS];exact q3,DV hX hg hA (fun c _ h9 h8=>h9 (yL c h8)) q4 q2⟩
   rw[a1c (by omega),a0r]at hj;obtain⟨b0,q1,q2⟩:=hb3.2 hj;have rO:j-B<ks.length:=by rw[<-hp.1];exact(a04.1 q1).1
   obtain⟨b9,q5,q6⟩:=hp.2 (a0a rO);rw[q1]at q6;cases q6;obtain⟨mb,q3,q4⟩:=hr.at_ _ _ q5;refine⟨mb,?_,DV hX hg hA (fun c _ h9 h8=>h9 (yL c h8)) q4 q2⟩;have:=hhi (j-B) _ (a0a rO);rw[show j-B+B=j by omega]at this;rw[this];exact q3
  obtain⟨cs0,q1,q2⟩:=TM.2 hk;obtain⟨cs',q3,q4⟩:=hS.st.loc k cs0 q1;exact⟨cs',q3,yZ hX hg hA q4 q2⟩
 |fz i=>
  simp only[Bf]at hg;split at hg
  .rename_i env loc e1 e2;cases hg;have hr:=hS.st.heap;have hF:=iq (h:=ts.heap) [i] m;obtain⟨q1,q2⟩:=a0Y e2;refine⟨bU [i] m,⟨⟨hr.aY [i],by rw[q1];exact hS.st.llen,fun k ds hk=>?_,aef hX hr hS.st.env e1⟩,fun b hb=>?_,hS.ws,hS.fl⟩,hF.1,hF.2.b⟩
   .obtain⟨cs,h1,h2⟩:=q2 k ds hk;obtain⟨cs',h3,h4⟩:=hS.st.loc k cs h1;exact⟨cs',h3,a0X hX hr h4 h2⟩
   obtain⟨j,mb,_,h2,h3⟩:=Af hb;exact hS.own b (bf h2 h3)
  cases hg
 |mv i=>
  simp only[Bf]at hg;split at hg
  rotate_left
  .cases hg
  rename_i b0 hi;split at hg
  rotate_left
  .cases hg
  rename_i env loc b1 b2 h1 h2 h3 h4;cases hg;have hr:=hS.st.heap;have aS:i<ps.heap.length:=(a04.1 hi).1;obtain⟨mi,mi1,mi2⟩:=hr.at_ i b0 hi
  let m1:List MB:=m.set i .gone++[mi]
  have qy:(m.set i .gone).length=ps.heap.length:=by rw[a4q,hr.len]
  have Gj:∀j,j<ps.heap.length->j≠i->m1[j]? = m[j]?:=fun j hj hn=>by
   show(m.set i .gone++[mi])[j]? = _;rw[a0e (by omega),a1D (fun e=>hn e.symm)]
  have JF:m1[i]? = some .gone:=by
   show(m.set i .gone++[mi])[i]? = _;rw[a0e (by omega),a4c,mi1];rfl
  have hhi:m1[ps.heap.length]? = some mi:=by
   show(m.set i .gone++[mi])[ps.heap.length]? = _;rw[a1c (by omega),qy,agD];rfl
  have hg:∀a b,(fun j=>if j=i then some ps.heap.length else if j<ps.heap.length then some j else none) a=some b->m1[b]? = m[a]?:=fun a b hab=>by
   simp only at hab;split at hab
   .rename_i e;subst e;cases hab;rw[hhi,mi1]
   split at hab
   .rename_i e1 e2;cases hab;exact Gj a e2 e1
   cases hab
  have hold:∀j mb,m1[j]? = some mb->mb=.gone∨∃k,m[k]? = some mb∧((j<ps.heap.length∧k=j∧j≠i)∨(j=ps.heap.length∧k=i)):=fun j mb hj=>by
   have rO:j<ps.heap.length+1:=by
    have:=(a04.1 hj).1;have h9:m1.length=ps.heap.length+1:=by show(m.set i .gone++[mi]).length=_;rw[a2a,qy];rfl
    omega
   by_cases e:j=i
   .subst e;rw[JF]at hj;cases hj;exact .inl rfl
   rcases a4a j ps.heap.length with h5|h5
   .exact .inr ⟨j,by rw[<-Gj j h5 e];exact hj,.inl ⟨h5,rfl,e⟩⟩
   have:j=ps.heap.length:=(by omega);subst this;rw[hhi]at hj;cases hj;exact .inr ⟨i,mi1,.inr ⟨rfl,rfl⟩⟩
  have yL:∀b,b∈bn m1->b∈bn m:=fun b hb=>by
   obtain⟨j,mb,q1,q2⟩:=jU hb;rcases hold j mb q1 with rfl|⟨k,q3,_⟩
   .cases q2
   exact bf q3 q2
  have hA:∀b,AA A m b->AA A m1 b:=fun b hb=>⟨hb.1,fun hm=>hb.2 (yL b hm)⟩;have aeh:(bn m1).Nodup:=jo fun j k c q1 q2=>by
   obtain⟨ma,a1,a2⟩:=q1;obtain⟨mc,c1,c2⟩:=q2;rcases hold j ma a1 with rfl|⟨j',a3,a4⟩
   .cases a2
   rcases hold k mc c1 with rfl|⟨k',c3,c4⟩
   .cases c2
   have e:=iT hr.nodup a3 c3 a2 c2;subst e;rcases a4 with⟨a5,a6,a7⟩|⟨a5,a6⟩<;>rcases c4 with⟨c5,c6,c7⟩|⟨c5,c6⟩<;>omega
  have hFr:Fr m ts.heap m1 ts.heap:=⟨a15 _,fun _ _ _=>rfl,fun b hb=>.inl (yL b hb),fun b cs hc=>⟨cs,hc,a15 _⟩⟩;have BU:=sN h3;have TM:=Oj h2;have ai3:b1.length=ps.heap.length:=by rw[BU.1,a4q]
  refine⟨m1,⟨⟨⟨?_,fun j b hj=>?_,aeh,hr.up,fun b hb=>hr.CP b (yL b hb)⟩,by rw[TM.1];exact hS.st.llen,fun k cs hk=>?_,Oi hX hg hA hS.st.env h1⟩,fun b hb=>hS.own b (yL b hb),hS.ws,hS.fl⟩,hFr,fun j mb _ hj=>?_⟩
  .show(m.set i .gone++[mi]).length=_;rw[a2a,a2a,qy,ai3];rfl
  .rcases a4a j ps.heap.length with h5|h5
   .rw[a0e (by omega)]at hj;obtain⟨b9,q1,q2⟩:=BU.2 hj;by_cases e:j=i
    .subst e;rw[a4c,hi]at q1;cases q1;have q2:some (PB.gone (Γ:=X.Γ))=some b:=q2;cases q2;exact⟨.gone,JF,trivial⟩
    rw[a1D (fun e2=>e e2.symm)]at q1;obtain⟨mb,q3,q4⟩:=hr.at_ j b9 q1;exact⟨mb,by rw[Gj j h5 e];exact q3,DV hX hg hA (fun c _ h9 h8=>h9 (yL c h8)) q4 q2⟩
   rw[a1c (by omega),ai3]at hj;have:j-ps.heap.length=0:=by
    have:=(a04.1 hj).1;simp at this;omega
   rw[this]at hj;cases hj;refine⟨mi,?_,DV hX hg hA (fun c _ h9 h8=>h9 (yL c h8)) mi2 h4⟩;rw[show j=ps.heap.length by omega];exact hhi
  .obtain⟨cs0,q1,q2⟩:=TM.2 hk;obtain⟨cs',q3,q4⟩:=hS.st.loc k cs0 q1;exact⟨cs',q3,yZ hX hg hA q4 q2⟩
  by_cases e:j=i
  .subst e;exact .inr JF
  have:j<ps.heap.length:=by rw[<-hr.len];exact(a04.1 hj).1
  exact .inl (by rw[Gj j this e];exact hj)
theorem mg(hX:bM X P){B:Nat}:∀{gs:List G} {ps ps1:aQ X.Γ},kW B gs ps=some ps1->CU X P B ps ps1
 | [],ps,ps1,h=>by simp only[kW,a00]at h;subst h;exact .refl
 |g::gs,ps,ps1,h=>by
  simp only[kW]at h;split at h
  .rename_i s hs;exact(a5S hX hs).trans (mg hX h)
  cases h
end
section
variable {X:kE} {P:Program} {T:qp} {A W:Nat->Prop} {m m':List MB}
variable {call:aZ} {fK:eY X.Γ} {ρ:Type} {y:ρ}
theorem SR.Bz{fl:Nat}{ps:aQ X.Γ}{ts:St}(hS:SR X P A W fl m ps ts){x:Operand}{b:Bool}(hb:qA ts.env x=some (.bool b)):SR X P A W fl m (ps.Bz x b) ts:=⟨hS.st.Bz hb,hS.own,hS.ws,hS.fl⟩
theorem uK.put{ps:aQ X.Γ}{ts:St}(hR:uK X P A m ps ts){d:Option Nat}{pe:PE X.Γ}{ev:EV}(h:Ig X P (AA A m) m ts.heap pe ev):uK X P A m (ps.put d pe) (ts.put d ev):=by
 cases d with
 |none=>exact hR
 |some d=>exact⟨hR.heap,hR.llen,hR.loc,.cons h hR.env⟩
theorem zf{ts:St}{d:Option Nat}{ev:EV}:(ts.put d ev).heap=ts.heap∧(ts.put d ev).ws=ts.ws:=by cases d<;>exact⟨rfl,rfl⟩
theorem WT{H:List (PB X.Γ)}{h:List HB}(hr:HR X P A m H h){i:Nat}{b:PB X.Γ}(hb:H[i]? = some b):qM b=true↔m[i]? = some .gone:=by
 obtain⟨mb,h1,h2⟩:=hr.at_ i b hb;cases b with
 |gone=>
  cases mb with
  |gone=>exact⟨fun _=>h1,fun _=>rfl⟩
  |_=>exact h2.elim
 |cells cs=>cases mb with
  |gone=>exact h2.elim
  |_=>simp[qM,h1]
 |aC cs=>cases mb with
  |gone=>exact h2.elim
  |_=>simp[qM,h1]
 |list k ex t l=>cases mb with
  |gone=>exact h2.elim
  |_=>simp[qM,h1]
 |map es=>cases mb with
  |gone=>exact h2.elim
  |_=>simp[qM,h1]
 |mark=>cases mb with
  |gone=>exact h2.elim
  |_=>simp[qM,h1]
 |lZ=>cases mb with
  |gone=>exact h2.elim
  |_=>simp[qM,h1]
 |iD=>cases mb with
  |gone=>exact h2.elim
  |_=>simp[qM,h1]
 |cZ=>cases mb with
  |gone=>exact h2.elim
  |_=>simp[qM,h1]
 |loop=>cases mb with
  |gone=>exact h2.elim
  |_=>simp[qM,h1]
theorem JW:∀{H H1:List (PB X.Γ)},yY H H1=true->∀{i:Nat} {b:PB X.Γ},H[i]? = some b->∃b1,H1[i]? = some b1∧qM b=qM b1
 | [],H1,_,i,b,hi=>by simp at hi
 |a::H,[],h,i,b,hi=>by simp[yY]at h
 |a::H,a1::H1,h,i,b,hi=>by
  simp only[yY,a2m,a88]at h;cases i with
  |zero=>simp only[a2J,a00]at hi;subst hi;exact⟨a1,rfl,h.1⟩
  |succ i=>obtain⟨b1,e1,e2⟩:=JW h.2 (i:=i) (by simpa using hi);exact⟨b1,by simpa using e1,e2⟩
theorem aei{H H1:List (PB X.Γ)}{h h1:List HB}{m1:List MB}(hr:HR X P A m H h)(hr1:HR X P A m1 H1 h1)(hs:(!yY H H1)=false):∀(i:Nat),i<m.length->m1[i]? = some .gone->m[i]? = some .gone:=by
 intro i hi hg;have wV:i<H.length:=by rw[<-hr.len];exact hi
 have hb:=a0a wV;obtain⟨b1,e1,e2⟩:=JW (by simpa using hs) hb;have:=(WT hr1 e1).2 hg;rw[<-e2]at this;exact(WT hr hb).1 this
theorem L9{fl:Nat}{ops:Array Oper}{ps:aQ X.Γ}{ts:St}(hS:SR X P A W fl m ps ts){o:Oper}{an:PT X.Γ}{k:Bool->aQ X.Γ->PT X.Γ->OT ρ}(hk:(Za X ops ps o an k).Ends y) :
  ∃w ps1 GX,BO ops ts.env o=some w∧SR X P A W fl m ps1 ts∧(k w ps1 GX).Ends y∧ps1.heap=ps.heap:=by
 unfold Za at hk;unfold BO;split at hk
 .rename_i hg;exact⟨true,ps,an,by simp only[hg],hS,hk,rfl⟩
 .rename_i j want hg;simp only[hg];split at hk
  .rename_i d hd;simp only[hd];split at hk
   .rename_i b hb;obtain⟨ev,h1,h2⟩:=o7 hS.st.env hb;obtain⟨tv,rfl,h3⟩:=fO h2;obtain⟨t,GX,rfl,hk⟩:=Zi hk h3;exact⟨t==want,_,GX,by simp only[h1],hS.Bz (x:=.tmp d) (by simp only[qA,Ib,h1]),hk,rfl⟩
   .rename_i hb;obtain⟨ev,h1,h2⟩:=o7 hS.st.env hb;have:=IJ h2;subst this;exact⟨false,ps,an,by simp only[h1],hS,hk,rfl⟩
   .exact hk.elim
  .exact hk.elim
theorem Zp(hX:bM X P)(hO:jr X P call fK){site:Nat->Bool}{fl nt:Nat}{ops:Array Oper}:∀{os:List Oper} {m:List MB} {ps:aQ X.Γ} {ts:St} {an:PT X.Γ} {k:aQ X.Γ->List PI->PT X.Γ->OT ρ},SR X P A W fl m ps ts->(Wx X P fK (aX X P call) site nt ops os ps an k).Ends y ->
  ∃iH is pis ps1 GX m1,kQ P call site fl nt ops os ts=some (iH,is)∧(k ps1 pis GX).Ends y∧SR X P A W fl m1 ps1 iH∧Fr m ts.heap m1 iH.heap∧Up m m1∧IRs m ts.heap pis is∧is.length=os.length
 | [],m,ps,ts,an,k,hS,hk=>⟨ts,[],[],ps,an,m,rfl,hk,hS,.refl,.refl,.nil,rfl⟩
 |o::os,m,ps,ts,an,k,hS,hk=>by
  simp only[Wx]at hk;split at hk
  .exact hk.elim
  .rename_i hd;obtain⟨w,ps1,KJ,hw,hS1,hk,hh⟩:=L9 hS hk;cases w with
   |true=>
    simp only at hk;obtain⟨pe,BQ,pi,an2,⟨ev,ts2,ti,m2,e1,e2,e3,e4,e5,e6,e7,e8,e9⟩,hk⟩:=ae8 hX hO hS1.st hk;have hS2:SR X P A W fl m2 (BQ.put o.dst pe) (({ ts2 with ws:=jL fl ti.ws ts.ws }).put o.dst ev):=by
     refine⟨uK.put (ts:={ ts2 with ws:=jL fl ti.ws ts.ws }) ⟨e4.heap,e4.llen,e4.loc,e4.env⟩ e5,fun b hb=>?_,fun b hb=>?_,?_⟩
     .rcases e6.new b hb with h1|h1
      .exact hS.own b h1
      .exact .inr (a4A hS.fl h1)
     .rw[zf.2]at hb;rcases vJ hb with h1|⟨h1,h2⟩
      .exact hS.ws b h1
      .rcases hS.own b (e9 b h1)with h3|h3
       .exact h3
       .omega
     .rw[zf.1];exact a4A hS.fl e6.len
    obtain⟨ts3,is,pis,ps3,an3,m3,g1,g2,g3,g4,g5,g6,g7⟩:=Zp hX hO (os:=os) hS2 hk;rw[zf.1]at g4 g6;refine⟨ts3,ti::is,_,ps3,an3,m3,?_,g2,g3,e6.trans g4,e7.trans g5,.cons hS.st.heap.nodup (fun b hb=>hS.st.heap.inb hb) ⟨e8.all,e8.tl,e8.wl,e8.wh,e8.th,e8.hp⟩ e6 e7 (aei hS1.st.heap e4.heap) g6,by simp[g7]⟩;simp only[kQ,hd,hw,e1,g1];rfl
   |false=>
    simp only at hk;have hS2:SR X P A W fl m (ps1.put o.dst .undef) (ts.put o.dst .undef):=by
     refine⟨hS1.st.put trivial,hS.own,fun b hb=>?_,?_⟩
     .rw[zf.2]at hb;exact hS.ws b hb
     .rw[zf.1];exact hS.fl
    obtain⟨ts3,is,pis,ps3,an3,m3,g1,g2,g3,g4,g5,g6,g7⟩:=Zp hX hO (os:=os) hS2 hk;rw[zf.1]at g4 g6;refine⟨ts3,cu::is,_,ps3,an3,m3,?_,g2,g3,g4,g5,.cons hS.st.heap.nodup (fun b hb=>hS.st.heap.inb hb) .none .refl .refl (fun _ i _ hg=>hg) g6,by simp[g7]⟩;simp only[kQ,hd,hw,g1];rfl
def dL(X:kE)(P:Program)(T:qp)(call:aZ)(L f:Nat)(gU:Bool)(nt B:Nat)(c:Code)(ps:aQ X.Γ)(e:Ex)(ps1:aQ X.Γ):Prop:=
 ∀(A W:Nat->Prop) (fl:Nat) (m:List MB) (ts:St),SR X P A W fl m ps ts->∃iH m1,exec P T call L f gU fl nt c ts=some (e,iH)∧SR X P A W fl m1 ps1 iH∧Fr m ts.heap m1 iH.heap∧LP B m m1
theorem uK.pick{ps:aQ X.Γ}{ts:St}(hR:uK X P A m ps ts)(live:List Nat):uK X P A m { ps with env:=iY live ps.env } { ts with env:=Tw.pick live ts.env }:=
 ⟨hR.heap,hR.llen,hR.loc,Um hR.env live⟩
theorem SR.pick{fl:Nat}{ps:aQ X.Γ}{ts:St}(hS:SR X P A W fl m ps ts)(live:List Nat):SR X P A W fl m { ps with env:=iY live ps.env } { ts with env:=Tw.pick live ts.env }:=⟨hS.st.pick live,hS.own,hS.ws,hS.fl⟩
theorem SR.head{fl:Nat}{ps:aQ X.Γ}{ts:St}(hS:SR X P A W fl m ps ts)(live:List Nat):SR X P A W fl m (gJ X live ps) (jM live ts):=by
 have h1:=hS.pick live;have ht:=adU h1.st.env;refine⟨⟨h1.st.heap,?_,fun k cs hk=>?_,h1.st.env⟩,h1.own,h1.ws,h1.fl⟩
 .simp only[gJ,jM,a3R];have:=h1.st.llen;simp only at this ht;omega
 simp only[gJ,jM]at hk ⊢;rw[a4d]at hk;split at hk
 .rename_i aS;obtain⟨cs',g1,g2⟩:=h1.st.loc k cs hk;refine⟨cs',?_,g2⟩;rw[a4d,a0h (by simp only at ht;omega)];exact g1
 cases hk
theorem Ut{g:St->Option (Ex×St)}:∀{k j:Nat} {s:St} {r:Ex×St},iter g k s=some r->k<=j->iter g j s=some r
 | 0,_,s,r,h,_=>by simp[iter]at h
 |k+1,j,s,r,h,hj=>by
  obtain⟨j,rfl⟩:∃i,j=i+1:=⟨j-1,by omega⟩;simp only[iter]at h ⊢;split at h
  .rename_i s1 hs;exact Ut h (by omega)
  rename_i hn;exact h
section
variable {L f:Nat} {gU:Bool} {nt B:Nat}
theorem Lh(hX:bM X P){c:Code}{A W:Nat->Prop}{fl:Nat}{m:List MB}{ps:aQ X.Γ}{ts:St}{k:Ex->aQ X.Γ->PT X.Γ->OT ρ}(hS:SR X P A W fl m ps ts):∀{an:PT X.Γ},(yA X (dL X P T call L f gU nt B) B c ps k an).Ends y ->
  ∃e iH ps1 GX m1,exec P T call L f gU fl nt c ts=some (e,iH)∧(k e ps1 GX).Ends y∧SR X P A W fl m1 ps1 iH∧Fr m ts.heap m1 iH.heap∧LP B m m1:=by
 intro an
 induction an with
 |a x r=>
  intro hk;cases x with
  |loop e s'=>
   simp only[yA]at hk;obtain⟨Gj,hk⟩:=hk;obtain⟨iH,m1,h1,h2,h3,h4⟩:=Gj A W fl m ts hS;exact⟨_,iH,_,_,m1,h1,hk,h2,h3,h4⟩
  |lg gs e s'=>
   simp only[yA]at hk;split at hk
   .rename_i hgs;obtain⟨Gj,hk⟩:=hk;obtain⟨m0,e1,e2,e3⟩:=mg hX hgs A W fl m ts hS;obtain⟨iH,m1,h1,h2,h3,h4⟩:=Gj A W fl m0 ts e1;exact⟨_,iH,_,_,m1,h1,hk,h2,e2.trans h3,e3.trans h4⟩
   .exact hk.elim
  |_=>simp only[yA]at hk;exact hk.elim
 |z c' a b iha ihb=>
  intro hk;simp only[yA]at hk;rcases hk with⟨_,hk⟩|⟨_,hk⟩
  .exact iha hk
  .exact ihb hk
 |_=>intro hk;simp only[yA]at hk;exact hk.elim
theorem uZ(hX:bM X P)(hO:jr X P call fK):∀(c:Code) {A W:Nat->Prop} {fl:Nat} {m:List MB} {ps:aQ X.Γ} {ts:St} {an:PT X.Γ} {k:Ex->aQ X.Γ->PT X.Γ->OT ρ},SR X P A W fl m ps ts->(jF X P T fK (aX X P call) (dL X P T call L f gU nt B) B L f gU nt c ps an k).Ends y ->
  ∃e iH ps1 GX m1,exec P T call L f gU fl nt c ts=some (e,iH)∧(k e ps1 GX).Ends y∧SR X P A W fl m1 ps1 iH∧Fr m ts.heap m1 iH.heap∧LP B m m1:=by
 intro c
 induction c with
 |skip=>intro A W fl m ps ts an k hS hk;exact⟨.norm,ts,ps,an,m,rfl,hk,hS,.refl,.refl⟩
 |label=>intro A W fl m ps ts an k hS hk;exact⟨.norm,ts,ps,an,m,rfl,hk,hS,.refl,.refl⟩
 |exit id=>intro A W fl m ps ts an k hS hk;exact⟨.exit id,ts,ps,an,m,rfl,hk,hS,.refl,.refl⟩
 |ret=>intro A W fl m ps ts an k hS hk;exact⟨.ret,ts,ps,an,m,rfl,hk,hS,.refl,.refl⟩
 |region id ops draw=>
  intro A W fl m ps ts an k hS hk;simp only[jF]at hk;obtain⟨iH,is,pis,ps1,KJ,m1,g1,hk,g3,g4,g5,g6,g7⟩:=Zp hX hO hS hk;have fin:∀{an2:PT X.Γ},(!draw||(mZ ops.toList&&AZ is (lU ops.toList)))=true->(k .norm { ps1 with env:=iY (T.iw f id) ps1.env } an2).Ends y->∃e iH ps1 GX m1,exec P T call L f gU fl nt (.region id ops draw) ts=some (e,iH)∧(k e ps1 GX).Ends y∧SR X P A W fl m1 ps1 iH∧Fr m ts.heap m1 iH.heap∧LP B m m1:=by
   intro an2 hc hk;exact⟨.norm,{ iH with env:=Tw.pick (T.iw f id) iH.env },_,an2,m1,by simp only[exec,g1,hc,a2d],hk,g3.pick _,g4,g5.b⟩
  cases draw with
  |false=>exact fin rfl hk
  |true=>
   simp only at hk;split at hk
   .rename_i r;split at hk
    .rename_i F9;obtain⟨vH,hk⟩:=hk;refine fin ?_ hk;rw[vH];simp only[a8D,aeQ,abq];refine RQ (fun t ht=>?_) fun q hq=>by rw[g7];exact aee q hq
     have key:∀{ps:List PI} {ts:List lD} {m:List MB} {h:List HB},IRs m h ps ts->(ps.all fun i=>i.i.ws.isEmpty&&!i.wall)=true->∀t∈ts,t.ws=[]:=by
      intro ps ts m h hI
      induction hI with
      |nil=>intro _ t ht;cases ht
      |cons _ _ i1 _ _ _ _ ih=>
       intro ha t ht;simp only[abJ,a2m,List.isEmpty_iff,a8x]at ha;rcases a1Y.1 ht with rfl|ht
       .refine a8a.2 fun x hx=>?_;cases x with
        |l j=>have:=i1.wl j hx;rw[ha.1.1]at this;cases this
        |h b=>
         rcases i1.wh b hx with⟨i,h1,_⟩|⟨h1,_⟩
         .rw[ha.1.1]at h1;cases h1
         .rw[ha.1.2]at h1;cases h1
       .exact ih ha.2 t ht
     exact key g6 F9 t ht
    .exact hk.elim
   .split at hk
    .rename_i hc;simp only[a2m]at hc;refine fin ?_ hk;rw[hc.1,a5Q g6 aed hc.2];rfl
    .exact hk.elim
 |seq a b iha ihb=>
  intro A W fl m ps ts an k hS hk;simp only[jF]at hk;obtain⟨e,iH,ps1,KJ,m1,h1,hk,h3,h4,h5⟩:=iha hS hk;cases e with
  |norm=>
   obtain⟨e2,ts2,BQ,an2,m2,g1,g2,g3,g4,g5⟩:=ihb h3 hk;exact⟨e2,ts2,BQ,an2,m2,by simp only[exec,h1,g1],g2,g3,h4.trans g4,h5.trans g5⟩
  |exit id=>exact⟨_,iH,ps1,KJ,m1,by simp only[exec,h1],hk,h3,h4,h5⟩
  |ret=>exact⟨_,iH,ps1,KJ,m1,by simp only[exec,h1],hk,h3,h4,h5⟩
 |cond c a b iha ihb=>
  intro A W fl m ps ts an k hS hk;simp only[jF]at hk;split at hk
  .rename_i u hu;obtain⟨tu,h1,h2⟩:=WB hS.st.env hu;obtain⟨t,GX,rfl,hk⟩:=Zi hk h2;cases t with
   |true=>
    obtain⟨e,iH,ps1,KJ,m1,g1,g2,g3,g4,g5⟩:=iha (hS.Bz h1) hk;exact⟨e,iH,ps1,KJ,m1,by simp only[exec,h1,g1],g2,g3,g4,g5⟩
   |false=>
    obtain⟨e,iH,ps1,KJ,m1,g1,g2,g3,g4,g5⟩:=ihb (hS.Bz h1) hk;exact⟨e,iH,ps1,KJ,m1,by simp only[exec,h1,g1],g2,g3,g4,g5⟩
  .exact hk.elim
 |block id b ih=>
  intro A W fl m ps ts an k hS hk;simp only[jF]at hk;obtain⟨e,iH,ps1,KJ,m1,h1,hk,h3,h4,h5⟩:=ih hS hk;cases e with
  |norm=>exact⟨_,iH,ps1,KJ,m1,by simp only[exec,h1],hk,h3,h4,h5⟩
  |ret=>exact⟨_,iH,ps1,KJ,m1,by simp only[exec,h1],hk,h3,h4,h5⟩
  |exit i=>exact⟨_,iH,ps1,KJ,m1,by simp only[exec,h1],hk,h3,h4,h5⟩
 |scope b ih=>
  intro A W fl m ps ts an k hS hk;simp only[jF]at hk;obtain⟨e,iH,ps1,KJ,m1,h1,hk,h3,h4,h5⟩:=ih hS hk;exact⟨e,iH,ps1,KJ,m1,by simp only[exec,h1],hk,h3,h4,h5⟩
 |loop b ih=>
  intro A W fl m ps ts an k hS hk;simp only[jF]at hk;split at hk
  .rename_i j r;obtain⟨hj,hk⟩:=hk;have go:∀(j:Nat) {m:List MB} {ps:aQ X.Γ} {ts:St} {an:PT X.Γ},SR X P A W fl m ps ts->(Uj X (fun s an k=>jF X P T fK (aX X P call) (dL X P T call L f gU nt B) B L f gU nt b (gJ X (T.eP f (dR b)) s) an k) j ps an k).Ends y ->
     ∃e iH ps1 GX m1,iter (fun s=>exec P T call L f gU fl nt b (jM (T.eP f (dR b)) s)) j ts=some (e,iH)∧(k e ps1 GX).Ends y∧SR X P A W fl m1 ps1 iH∧Fr m ts.heap m1 iH.heap∧LP B m m1:=by
    intro j
    induction j with
    |zero=>intro m ps ts an _ hk;exact hk.elim
    |succ j ihj=>
     intro m ps ts an hS hk;simp only[Uj]at hk;obtain⟨e,iH,ps1,KJ,m1,h1,hk,h3,h4,h5⟩:=ih (hS.head _) hk;cases e with
     |norm=>
      obtain⟨e2,ts2,BQ,an2,m2,g1,g2,g3,g4,g5⟩:=ihj h3 hk;exact⟨e2,ts2,BQ,an2,m2,by simp only[iter,h1,g1],g2,g3,h4.trans g4,h5.trans g5⟩
     |exit id=>exact⟨_,iH,ps1,KJ,m1,by simp only[iter,h1],hk,h3,h4,h5⟩
     |ret=>exact⟨_,iH,ps1,KJ,m1,by simp only[iter,h1],hk,h3,h4,h5⟩
   obtain⟨e,iH,ps1,KJ,m1,h1,h2,h3,h4,h5⟩:=go j hS hk;exact⟨e,iH,ps1,KJ,m1,by simp only[exec];exact Ut h1 hj,h2,h3,h4,h5⟩
  .exact Lh hX hS hk
 |rangeFunc g qs uD body iha ihb=>
  intro A W fl m ps ts an k hS hk;simp only[jF]at hk;exact Lh hX hS hk
 |_=>intro A W fl m ps ts an k hS hk;simp only[jF]at hk;exact hk.elim
end
end
section
variable {X:kE} {P:Program} {T:qp} {A W:Nat->Prop} {m m':List MB}
variable {call:aZ} {fK:eY X.Γ} {L:Nat}
def BG(P:Program)(f:Nat):Nat:=match TG P f with
 |some t=>t.nt
 |none=>0
abbrev Bg(X:kE)(P:Program)(T:qp)(call:aZ)(L f B:Nat):a0J X.Γ:=dL X P T call L f false (BG P f) B
theorem LQ{A:Nat->Prop}{h:List HB}:∀{k:Nat} {vs:List (PV X.Γ)} {xs:List TV},bV X P A m h vs xs->jJ X P A m h (kN X k vs) (ng k xs)
 |k,[],xs,hv=>by rw[hv.inv0];exact .nil
 |k,v::vs,xs,hv=>by
  obtain⟨x,r,rfl,h1,h2⟩:=hv.inv;exact .cons h1 (LQ h2)
theorem Iy(hX:bM X P){ps:aQ X.Γ}{ts:St}(hR:uK X P A m ps ts):∀{rs:List ResultVar} {vs:List (PV X.Γ)},EJ X P ps rs=some vs->∃ws,xC P ts rs=some ws∧bV X P (AA A m) m ts.heap vs ws
 | [],vs,h=>by simp only[EJ,a00]at h;subst h;exact⟨[],rfl,.nil⟩
 |r::rs,vs,h=>by
  simp only[EJ]at h;split at h
  rotate_left
  .cases h
  rename_i v vs' h1 h2;cases h;obtain⟨ws,g1,g2⟩:=Iy hX hR h2;have:∃w,a4j P ts r=some w∧VR X P (AA A m) m ts.heap v w:=by
   unfold ahK at h1;unfold a4j;split at h1
   .rename_i t;split at h1
    .rename_i u hu;cases h1;obtain⟨ev,e1,e2⟩:=o7 hR.env hu;obtain⟨w,rfl,e3⟩:=fO e2;exact⟨w,by simp only[e1],Gy e3⟩
    cases h1
   rename_i a t;split at h1
   .rename_i pa ha;simp only[a09]at h1;obtain⟨⟨u,i⟩,e1,rfl⟩:=h1;obtain⟨ev,e2,e3⟩:=o7 hR.env ha;obtain⟨w,ti,e4,e5,_,_⟩:=G6 hX hR e3 e1;exact⟨w,by simp only[e2,e4,a0T],e5⟩
   cases h1
  obtain⟨w,g3,g4⟩:=this;exact⟨w::ws,by simp only[xC,g3,g1],.cons g4 g2⟩
theorem Uu{A:Nat->Prop}{h:List HB}{vs:List (PV X.Γ)}{ws:List TV}(hv:bV X P A m h vs ws):VR X P A m h (Zc X vs) (one ws):=by
 match vs,ws,hv with
 | [],ws,hv=>rw[hv.inv0];exact .dG rfl (by simp)
 | [v],ws,hv=>
  obtain⟨x,r,rfl,h1,h2⟩:=hv.inv;have:=h2.inv0;subst this;exact h1
 |v::u::vs,ws,hv=>
  obtain⟨x,r,rfl,h1,h2⟩:=hv.inv;obtain⟨z,r,rfl,h3,h4⟩:=h2.inv;exact .dG hv.1 hv.2
theorem a5T(hX:bM X P)(hO:jr X P call fK){f:Nat}{vs:List (PV X.Γ)}{H:List (PB X.Γ)}{an:PT X.Γ}{v:PV X.Γ}{H1:List (PB X.Γ)}(hk:(CJ X P T fK (aX X P call) (Bg X P T call L f H.length) L f vs H an).Ends (v,H1))
  {h:List HB} (hr:HR X P A m H h) {xs:List TV} (hv:bV X P (AA A m) m h vs xs):∃w h1 ws m1,U9 P T call L f xs h=some (w,h1,ws)∧HR X P A m1 H1 h1∧VR X P (AA A m1) m1 h1 v w∧Fr m h m1 h1∧LP H.length m m1∧(∀b∈ws,b∈bn m)∧¬(T.exts.contains f||T.ZY.contains f)=true:=by
 unfold CJ at hk;split at hk
 .rename_i t ht;have hnx:¬(T.exts.contains f||T.ZY.contains f)=true:=fun hx=>by rw[a0h hx]at ht;cases ht
  rw[a0g hnx]at ht;have hnt:BG P f=t.nt:=by unfold BG;rw[ht]
  have hS:SR X P A (fun b=>b∈bn m) h.length m ⟨kN X 0 vs,[],H⟩ ⟨ng 0 xs,[],h,[]⟩:=
   ⟨⟨hr,rfl,fun k cs hk=>by simp at hk,LQ hv⟩,fun b hb=>.inl hb,fun b hb=>(by cases hb),a15 _⟩
  rw[show Bg X P T call L f H.length=dL X P T call L f false t.nt H.length by unfold Bg;rw[hnt]]at hk;obtain⟨e,iH,ps1,KJ,m1,h1,hk,h3,h4,h5⟩:=uZ hX hO t.body hS hk;have fin:∀{e:Ex},exec P T call L f false h.length t.nt t.body ⟨ng 0 xs,[],h,[]⟩=some (e,iH)->(e=.norm∨e=.ret)->∀{us:List (PV X.Γ)},EJ X P ps1 t.results=some us->(Zc X us,ps1.heap)=(v,H1)->∃w h1 ws m1,U9 P T call L f xs h=some (w,h1,ws)∧HR X P A m1 H1 h1∧VR X P (AA A m1) m1 h1 v w∧Fr m h m1 h1∧LP H.length m m1∧(∀b∈ws,b∈bn m)∧¬(T.exts.contains f||T.ZY.contains f)=true:=by
   intro e he hee us hus hv;cases hv;obtain⟨ws,g1,g2⟩:=Iy hX h3.st hus;refine⟨one ws,iH.heap,iH.ws,m1,?_,h3.st.heap,Uu g2,h4,h5,h3.ws,hnx⟩;unfold U9;rcases hee with rfl|rfl<;>simp only[ht,he,g1]
  cases e with
  |exit id=>exact hk.elim
  |norm=>
   cases KJ with
   |n=>
    simp only at hk;split at hk
    .rename_i us hus;exact fin h1 (.inl rfl) hus hk
    .exact hk.elim
   |_=>exact hk.elim
  |ret=>
   cases KJ with
   |n=>
    simp only at hk;split at hk
    .rename_i us hus;exact fin h1 (.inr rfl) hus hk
    .exact hk.elim
   |_=>exact hk.elim
 .exact hk.elim
theorem Zq(hX:bM X P){n f:Nat}(hn:0<n)(hO:jr X P (kM P T L (n-1)) fK){vs:List (PV X.Γ)}{an:PT X.Γ}{v:PV X.Γ}{ext:List (PB X.Γ)}
  (hk:(CJ X P T fK (aX X P (kM P T L (n-1))) (Bg X P T (kM P T L (n-1)) L f 0) L f vs [] an).Ends (v,ext)):mY X P (kM P T L n) f vs v ext:=by
 intro A h first args cap Ie hv
 have hr:HR X P A [] [] h:=⟨rfl,fun i b hb=>by simp at hb,by simp[bn],Ie,fun b hb=>by simp[bn]at hb⟩;obtain⟨w,h1,ws,m1,g1,g2,g3,g4,_,g6,g7⟩:=a5T hX hO (H:=[]) hk hr (hv.mono fun b hb=>⟨hb,by simp[bn]⟩);obtain⟨n,rfl⟩:∃j,n=j+1:=⟨n-1,by omega⟩;have:ws=[]:=a8a.2 fun x hx=>by have:=g6 x hx;simp[bn]at this
 subst this;exact⟨w,h1,m1,by simp only[kM];simp only[a8O,adq]at g7;rw[a0g g7.1,a0g g7.2];exact g1,g2,g3,g4⟩
theorem a5U(hX:bM X P){n f:Nat}(hn:0<n)(hO:jr X P (kM P T L (n-1)) fK){first xs cap:List (PV X.Γ)}{H H1:List (PB X.Γ)}{an:PT X.Γ}{v:PV X.Γ}
  (hk:(CJ X P T fK (aX X P (kM P T L (n-1))) (Bg X P T (kM P T L (n-1)) L f H.length) L f (first++xs++cap) H an).Ends (v,H1)):aX X P (kM P T L n) (.fn f first cap) xs H v H1:=by
 intro A m h tf rP hr hf hx;obtain⟨n,rfl⟩:∃j,n=j+1:=⟨n-1,by omega⟩;cases hf with
 |gone hi _ _=>simp[bg]at hi
 |fn p1 p2 p3 p4=>
  obtain⟨w,h1,ws,m1,g1,g2,g3,g4,g5,g6,g7⟩:=a5T hX hO hk hr ((bV.app ⟨p1,p2⟩ hx).app ⟨p3,p4⟩);refine⟨w,h1,ws,m1,by simp only[kM];simp only[a8O,adq]at g7;rw[a0g g7.1,a0g g7.2];exact g1,g2,g3,g4,fun i mb hi=>g5 i mb ?_ hi,g6⟩;rw[<-hr.len];exact(a04.1 hi).1
def aek:Ex->aQ X.Γ->PT X.Γ->OT (Ex×aQ X.Γ):=fun e s an=>match an with
 |.n=>.ret (e,s)
 |_=>.bad
section
variable {f nt B:Nat} {gU:Bool}
theorem WU(hX:bM X P)(hO:jr X P call fK){c:Code}{ps:aQ X.Γ}{an:PT X.Γ}{e:Ex}{ps1:aQ X.Γ}(hk:(jF X P T fK (aX X P call) (dL X P T call L f gU nt B) B L f gU nt c ps an aek).Ends (e,ps1)):dL X P T call L f gU nt B c ps e ps1:=by
 intro A W fl m ts hS;obtain⟨e1,iH,BQ,KJ,m1,h1,h2,h3,h4,h5⟩:=uZ hX hO c hS hk;cases KJ with
 |n=>cases h2;exact⟨iH,m1,h1,h3,h4,h5⟩
 |_=>exact h2.elim
end
end
def OT.map{ρ σ:Type}(f:ρ->σ):OT ρ->OT σ
 |.bad=>.bad
 |.ret r=>.ret (f r)
 |.o p r=>.o p (r.map f)
 |.br c t e=>.br c (t.map f) (e.map f)
theorem OT.GY{ρ σ:Type}{f:ρ->σ}{y:σ}:∀{o:OT ρ},(o.map f).Ends y->∃r,o.Ends r∧f r=y
 |.bad,h=>h.elim
 |.ret r,h=>⟨r,rfl,h⟩
 |.o p r,h=>by obtain⟨x,h1,h2⟩:=OT.GY h.2;exact⟨x,⟨h.1,h1⟩,h2⟩
 |.br c t e,h=>by
  rcases h with⟨h0,h⟩|⟨h0,h⟩
  .obtain⟨x,h1,h2⟩:=OT.GY h;exact⟨x,.inl ⟨h0,h1⟩,h2⟩
  obtain⟨x,h1,h2⟩:=OT.GY h;exact⟨x,.inr ⟨h0,h1⟩,h2⟩
inductive Fp{Γ:Nat->Type}{ρ:Type}(R:ρ->Prop):PT Γ->OT ρ->Prop where
 |r {v:ρ} (h:R v):Fp R .n (.ret v)
 |g {v:ρ} (gs:List G) (h:R v):Fp R (.a (.lg gs .norm ⟨[],[],[]⟩) .n) (.ret v)
 |o {p:Prop} {an:PT Γ} {o:OT ρ} (h:p) (f:Fp R an o):Fp R an (.o p o)
 |s {c:Bool} {a b:PT Γ} {x y:OT ρ} (f:c=true->Fp R a x) (g:c=false->Fp R b y):Fp R (.s a b) (.br c x y)
 |z {c:Bool} {a b:PT Γ} {x y:OT ρ} (f:c=true->Fp R a x) (g:c=false->Fp R b y):Fp R (.z c a b) (.br c x y)
 |b {c t:Bool} {an:PT Γ} {o:OT ρ} (h:c=t) (f:Fp R an o):Fp R (.a (.br t) an) (.o (c=t) o)
 |q {p:Prop} {an:PT Γ} {o:OT ρ} (w:TV) (h:p) (f:Fp R an o):Fp R (.a (.rd w) an) (.o p o)
 |c {p:Prop} {an:PT Γ} {o:OT ρ} (v:PV Γ) (H:List (PB Γ)) (h:p) (f:Fp R an o):Fp R (.a (.call v H) an) (.o p o)
 |kf {p:Prop} {an:PT Γ} {o:OT ρ} (ks:List Nat) (v:PV Γ) (H:List (PB Γ)) (h:p) (f:Fp R an o):Fp R (.a (.fr ks v H) an) (.o p o)
 |kg {p:Prop} {an:PT Γ} {o:OT ρ} (ks rs:List Nat) (v:PV Γ) (H:List (PB Γ)) (h:p) (f:Fp R an o):Fp R (.a (.Qh ks rs v H) an) (.o p o)
 |l {p:Prop} {an:PT Γ} {o:OT ρ} (gs:List G) (e:Ex) (s:aQ Γ) (h:p) (f:Fp R an o):Fp R (.a (.lg gs e s) an) (.o p o)
 |f {p:Prop} {an:PT Γ} {o:OT ρ} (e:Ex) (s:aQ Γ) (h:p) (f:Fp R an o):Fp R (.a (.loop e s) an) (.o p o)
 |m {p:Prop} {an:PT Γ} {o:OT ρ} (k:Nat) (h:p) (f:Fp R an o):Fp R (.l k an) (.o p o)
 |a {an:PT Γ} {o:OT ρ} (x:PA Γ) (f:Fp R an o):Fp R (.a x an) o
theorem Fp.aO{Γ:Nat->Type}{ρ:Type}{R:ρ->Prop}{an:PT Γ}{o:OT ρ}(h:Fp R an o):∃y,o.Ends y∧R y:=by
 induction h with
 |r h=>exact⟨_,rfl,h⟩
 |g _ h=>exact⟨_,rfl,h⟩
 |s _ _ i1 i2=>
  rename_i c _ _ _ _ _ _;cases c with
  |true=>obtain⟨y,h1,h2⟩:=i1 rfl;exact⟨y,.inl ⟨rfl,h1⟩,h2⟩
  |false=>obtain⟨y,h1,h2⟩:=i2 rfl;exact⟨y,.inr ⟨rfl,h1⟩,h2⟩
 |z _ _ i1 i2=>
  rename_i c _ _ _ _ _ _;cases c with
  |true=>obtain⟨y,h1,h2⟩:=i1 rfl;exact⟨y,.inl ⟨rfl,h1⟩,h2⟩
  |false=>obtain⟨y,h1,h2⟩:=i2 rfl;exact⟨y,.inr ⟨rfl,h1⟩,h2⟩
 |a _ _ i=>exact i
 |o h _ i=>obtain⟨y,h1,h2⟩:=i;exact⟨y,⟨h,h1⟩,h2⟩
 |b h _ i=>obtain⟨y,h1,h2⟩:=i;exact⟨y,⟨h,h1⟩,h2⟩
 |q _ h _ i=>obtain⟨y,h1,h2⟩:=i;exact⟨y,⟨h,h1⟩,h2⟩
 |c _ _ h _ i=>obtain⟨y,h1,h2⟩:=i;exact⟨y,⟨h,h1⟩,h2⟩
 |kg _ _ _ _ h _ i=>obtain⟨y,h1,h2⟩:=i;exact⟨y,⟨h,h1⟩,h2⟩
 |kf _ _ _ h _ i=>obtain⟨y,h1,h2⟩:=i;exact⟨y,⟨h,h1⟩,h2⟩
 |l _ _ _ h _ i=>obtain⟨y,h1,h2⟩:=i;exact⟨y,⟨h,h1⟩,h2⟩
 |f _ _ h _ i=>obtain⟨y,h1,h2⟩:=i;exact⟨y,⟨h,h1⟩,h2⟩
 |m _ h _ i=>obtain⟨y,h1,h2⟩:=i;exact⟨y,⟨h,h1⟩,h2⟩
section
variable {X:kE} {P:Program} {T:qp} {L:Nat}
def frz(r:PV X.Γ×List (PB X.Γ)):Option (PV X.Γ):=view r.2 r.1
theorem WV(hX:bM X P){call:aZ}{f:FuncId}{vs:List (PV X.Γ)}{v w:PV X.Γ}{ext:List (PB X.Γ)}(hc:mY X P call f vs v ext)(hw:view ext v=some w):mY X P call f vs w []:=by
 intro A h first args cap Ie hv
 obtain⟨x,h',m',c1,c2,c3,c4⟩:=hc A h first args cap Ie hv
 refine⟨x,h',[],c1,⟨rfl,fun i b hb=>by simp at hb,by simp[bn],c2.up,fun b hb=>by simp[bn]at hb⟩,?_,?_⟩
 .refine(Un (m':=[]) hX c2 c3 hw (is:=kH v) fun i hi=>hi).mono fun b hb=>⟨?_,by simp[bn]⟩;rcases hb with hb|⟨i,mb,h1,h2,h3⟩
  .exact hb.1
  exact c2.CP b (bf h2 h3)
 exact⟨c4.len,fun b hb hn=>c4.same b hb hn,fun b hb=>by simp[bn]at hb,c4.grow⟩
def ael(hd:aQ X.Γ->aQ X.Γ)(B:Nat):Ex->aQ X.Γ->PT X.Γ->OT (Ex×aQ X.Γ):=fun e s an=>match an with
 |.n=>match e with
  |.norm=>.ret (.norm,hd s)
  |e=>.ret (e,s)
 |.a (.lg gs _ _) .n=>match e with
  |.norm=>match kW B gs (hd s)with
   |some s=>.ret (.norm,s)
   |none=>.bad
  |e=>match kW B gs s with
   |some s=>.ret (e,s)
   |none=>.bad
 |_=>.bad
section
variable {f nt B:Nat} {gU:Bool} {call:aZ} {fK:eY X.Γ}
def dH(X:kE)(P:Program)(T:qp)(call:aZ)(L f:Nat)(gU:Bool)(nt B:Nat)(b:Code)(n:Nat)(ps:aQ X.Γ)(e:Ex)(ps1:aQ X.Γ):Prop:=
 ∀(A W:Nat->Prop) (fl:Nat) (m:List MB) (ts:St),SR X P A W fl m ps (jM (T.eP f (dR b)) ts)->∃iH m1,iter (fun s=>exec P T call L f gU fl nt b (jM (T.eP f (dR b)) s)) n ts=some (e,iH)∧SR X P A W fl m1 ps1 iH∧Fr m ts.heap m1 iH.heap∧LP B m m1
theorem Uw{b:Code}{n k:Nat}{ps:aQ X.Γ}{e:Ex}{ps1:aQ X.Γ}(h:dH X P T call L f gU nt B b n ps e ps1)(hk:n<=k):dH X P T call L f gU nt B b k ps e ps1:=fun A W fl m ts hS=>by
 obtain⟨iH,m1,h1,h2⟩:=h A W fl m ts hS;exact⟨iH,m1,Ut h1 hk,h2⟩
theorem zi{b:Code}{n:Nat}{s0 ps:aQ X.Γ}{e:Ex}{ps1:aQ X.Γ}(h:dH X P T call L f gU nt B b n ps e ps1)(h0:gJ X (T.eP f (dR b)) s0=ps)(hn:n<=L):dL X P T call L f gU nt B (.loop b) s0 e ps1:=fun A W fl m ts hS=>by
 obtain⟨iH,m1,h1,h2⟩:=Uw h hn A W fl m ts (by rw[<-h0];exact hS.head _);exact⟨iH,m1,by simp only[exec];exact h1,h2⟩
def Rnd(X:kE)(P:Program)(T:qp)(call:aZ)(L f:Nat)(gU:Bool)(nt B:Nat)(b:Code)(n:Nat)(e:Ex)(s:aQ X.Γ):Ex×aQ X.Γ->Prop
 |(.norm,s')=>dH X P T call L f gU nt B b n s' e s
 |(e',s')=>e'=e∧s'=s
theorem a0Z{b:Code}{n:Nat}{e e':Ex}{s s':aQ X.Γ}(hn:e'≠.norm)(h:Rnd X P T call L f gU nt B b n e s (e',s')):e'=e∧s'=s:=by
 cases e' with
 |norm=>exact absurd rfl hn
 |exit id=>exact h
 |ret=>exact h
theorem round(hX:bM X P)(hO:jr X P call fK){b:Code}{n:Nat}{ps:aQ X.Γ}{an:PT X.Γ}{e:Ex}{s:aQ X.Γ}{o:OT (Ex×aQ X.Γ)}
  (hk:jF X P T fK (aX X P call) (dL X P T call L f gU nt B) B L f gU nt b ps an (ael (gJ X (T.eP f (dR b))) B)=o) (ht:Fp (Rnd X P T call L f gU nt B b n e s) an o):dH X P T call L f gU nt B b (n+1) ps e s:=by
 obtain⟨⟨e',s'⟩,h1,h2⟩:=ht.aO;rw[<-hk]at h1;intro A W fl m ts hS;obtain⟨e1,iH,BQ,KJ,m1,g1,g2,g3,g4,g5⟩:=uZ hX hO b hS h1;have out:∀{e1:Ex} {m2:List MB},exec P T call L f gU fl nt b (jM (T.eP f (dR b)) ts)=some (e1,iH)->e1≠.norm->e1=e∧s'=s->SR X P A W fl m2 s' iH->Fr m ts.heap m2 iH.heap->LP B m m2->∃iH m1,iter (fun s=>exec P T call L f gU fl nt b (jM (T.eP f (dR b)) s)) (n+1) ts=some (e,iH)∧SR X P A W fl m1 s iH∧Fr m ts.heap m1 iH.heap∧LP B m m1:=by
  intro e1 m2 ge hn hh q1 q2 q3;obtain⟨rfl,rfl⟩:=hh;refine⟨iH,m2,?_,q1,q2,q3⟩;cases e1 with
  |norm=>exact absurd rfl hn
  |exit id=>simp only[iter,ge]
  |ret=>simp only[iter,ge]
 have on:∀{m2:List MB},exec P T call L f gU fl nt b (jM (T.eP f (dR b)) ts)=some (.norm,iH)->SR X P A W fl m2 s' (jM (T.eP f (dR b)) iH)->Fr m ts.heap m2 iH.heap->LP B m m2->dH X P T call L f gU nt B b n s' e s->∃iH m1,iter (fun s=>exec P T call L f gU fl nt b (jM (T.eP f (dR b)) s)) (n+1) ts=some (e,iH)∧SR X P A W fl m1 s iH∧Fr m ts.heap m1 iH.heap∧LP B m m1:=by
  intro m2 ge q1 q2 q3 hr;obtain⟨ts2,m3,r1,r2,r3,r4⟩:=hr A W fl m2 iH q1;exact⟨ts2,m3,by simp only[iter,ge,r1],r2,q2.trans r3,q3.trans r4⟩
 unfold ael at g2;split at g2
 .split at g2
  .cases g2;exact on g1 (g3.head _) g4 g5 h2
  .rename_i e1 iy;cases g2;exact out g1 (fun h=>iy h) (a0Z (fun h=>iy h) h2) g3 g4 g5
 .split at g2
  .split at g2
   .rename_i hg;cases g2;obtain⟨m2,q1,q2,q3⟩:=mg hX hg _ _ _ _ _ (g3.head _);exact on g1 q1 (g4.trans q2) (g5.trans q3) h2
   .exact g2.elim
  .rename_i e1 iy;split at g2
   .rename_i hg;cases g2;obtain⟨m2,q1,q2,q3⟩:=mg hX hg _ _ _ _ _ g3;exact out g1 (fun h=>iy h) (a0Z (fun h=>iy h) h2) q1 (g4.trans q2) (g5.trans q3)
   .exact g2.elim
 .exact g2.elim
end
structure Ar(X:kE)(P:Program)(α:Type) where
 put:α->PV X.Γ
 get:PV X.Γ->Option α
 ok:∀{v:PV X.Γ} {a:α},get v=some a->∀{A:Nat->Prop} {m:List MB} {h:List HB} {x:TV},VR X P A m h v x->VR X P A m h (put a) x
structure Ux(X:kE)(P:Program)(α:Type) where
 put:α->List (PV X.Γ)
 get:List (PV X.Γ)->Option α
 ok:∀{v:List (PV X.Γ)} {a:α},get v=some a->∀{A:Nat->Prop} {m:List MB} {h:List HB} {x:List TV},bV X P A m h v x->bV X P A m h (put a) x
def aem(k:IntKind):Ar X P Int where
 put n:=.int k n
 get v:=match v with
  |.int k' n=>if k'=k then some n else none
  |_=>none
 ok:=by
  intro v a hg A m h x hv;split at hg
  .split at hg
   .rename_i e;subst e;cases hg;exact hv
   .cases hg
  .cases hg
def ai5:Ar X P Bool where
 put n:=.bool n
 get v:=match v with
  |.bool n=>some n
  |.lit n=>some n
  |_=>none
 ok:=by
  intro v a hg A m h x hv;split at hg
  .cases hg;exact hv
  .cases hg;exact Gy hv
  .cases hg
theorem VR.less{A:Nat->Prop}{m:List MB}{h:List HB}{t:Nat}{l:List (X.Γ t)}{fu:Bool}{x:TV}(hv:VR X P A m h (.dw t l fu) x):VR X P A m h (.dw t l false) x:=by
 cases hv with
 |gone hi _ _=>simp[bg]at hi
 |nZ=>exact .nZ
 |dw a c c2 s z o k f e r=>exact .dw a c c2 s z o k (fun h=>by cases h) e r
def a5V(t:Nat):Ar X P (List (X.Γ t)) where
 put l:=.dw t l false
 get v:=match v with
  |.dw t' l _=>Cm t t' l
  |.nil .slc=>some []
  |_=>none
 ok:=by
  intro v a hg A m h x hv;split at hg
  .obtain⟨rfl,rfl⟩:=uj hg;exact hv.less
  .cases hg;cases hv with
   |nil=>exact .nZ
   |gone hi _ _=>simp[bg]at hi
  .cases hg
def ai6(hX:bM X P)(t:Nat):Ar X P (X.Γ t) where
 put a:=.agg (X.enc t a)
 get v:=match v with
  |.agg cs=>X.dec t cs
  |_=>none
 ok:=by
  intro v a hg A m h x hv;split at hg
  .cases hv with
   |gone hi _ _=>simp[bg]at hi
   |agg h1 h2=>obtain⟨h3,h4⟩:=hX.dec hg ⟨h1,h2⟩;exact .agg h3 h4
  .cases hg
def fnA(f:FuncId):Ar X P Unit where
 put _:=.fn f [] []
 get v:=match v with
  |.fn g [] []=>if g=f then some ()else none
  |_=>none
 ok:=by
  intro v a hg A m h x hv;split at hg
  .split at hg
   .rename_i e;subst e;exact hv
   .cases hg
  .cases hg
def aen:Ux X P Unit where
 put _:=[]
 get v:=match v with
  | []=>some ()
  |_=>none
 ok:=by
  intro v a hg A m h x hv;split at hg
  .exact hv
  .cases hg
def KL{α β:Type}(a:Ar X P α)(l:Ux X P β):Ux X P (α×β) where
 put x:=a.put x.1::l.put x.2
 get v:=match v with
  |v::vs=>match a.get v,l.get vs with
   |some x,some y=>some (x,y)
   |_,_=>none
  |_=>none
 ok:=by
  intro v x hg A m h xs hv;split at hg
  .split at hg
   .rename_i e1 e2;cases hg;obtain⟨y,r,rfl,h1,h2⟩:=hv.inv;exact .cons (a.ok e1 h1) (l.ok e2 h2)
   .cases hg
  .cases hg
def ai7{α:Type}(a:Ar X P α):Ux X P α where
 put x:=[a.put x]
 get v:=match v with
  | [v]=>a.get v
  |_=>none
 ok:=by
  intro v x hg A m h xs hv;split at hg
  .obtain⟨y,r,rfl,h1,h2⟩:=hv.inv;have:=h2.inv0;subst this;exact .cons (a.ok hg h1) .nil
  .cases hg
def dP{α:Type}(l:Ux X P α):Ar X P α where
 put x:=.dG (l.put x)
 get v:=match v with
  |.dG cs=>l.get cs
  |_=>none
 ok:=by
  intro v x hg A m h xs hv;split at hg
  .cases hv with
   |gone hi _ _=>simp[bg]at hi
   |dG h1 h2=>obtain⟨h3,h4⟩:=l.ok hg ⟨h1,h2⟩;exact .dG h3 h4
  .cases hg
def a5W{α:Type}(l:Ux X P α):Ar X P α where
 put x:=.agg (l.put x)
 get v:=match v with
  |.agg cs=>l.get cs
  |_=>none
 ok:=by
  intro v x hg A m h xs hv;split at hg
  .cases hv with
   |gone hi _ _=>simp[bg]at hi
   |agg h1 h2=>obtain⟨h3,h4⟩:=l.ok hg ⟨h1,h2⟩;exact .agg h3 h4
  .cases hg
def aeo{α β:Type}(a:Ar X P α)(f:α->β)(g:β->α)(hgf:∀x,g (f x)=x):Ar X P β where
 put x:=a.put (g x)
 get v:=match a.get v with
  |some x=>some (f x)
  |none=>none
 ok:=by
  intro v x hg A m h xs hv;split at hg
  .rename_i y hy;cases hg;rw[hgf];exact a.ok hy hv
  .cases hg
def Good(X:kE)(P:Program)(T:qp)(L:Nat)(fK:eY X.Γ):Prop:=∃N,∀n,N<=n->jr X P (kM P T L n) fK
def a9E:eY X.Γ:=fun _ _=>none
def bZ{α β:Type}(f:FuncId)(a:Ux X P α)(r:Ar X P β)(S:α->β)(pre:α->List Prop)(fK:eY X.Γ):eY X.Γ:=fun g vs=>
 match Nat.beq g f with
 |true=>match a.get vs with
  |some x=>some (r.put (S x),[],pre x)
  |none=>fK g vs
 |false=>fK g vs
theorem Good.nil:Good X P T L (a9E (X:=X)):=⟨0,fun n _ f vs v ext ps h=>by cases h⟩
theorem Good.add{α β:Type}{f:FuncId}{a:Ux X P α}{r:Ar X P β}{S:α->β}{pre:α->List Prop}{fK:eY X.Γ}(hg:Good X P T L fK)
  (hf:∀n,jr X P (kM P T L n) fK->∀x,(∀p∈pre x,p)->mY X P (kM P T L (n+1)) f (a.put x) (r.put (S x)) []):Good X P T L (bZ f a r S pre fK):=by
 obtain⟨N,hN⟩:=hg;refine⟨N+1,fun n hn=>?_⟩;obtain⟨k,rfl⟩:∃k,n=k+1:=⟨n-1,by omega⟩;intro g vs v ext ps ho hp;unfold bZ at ho;split at ho
 .rename_i e;have e:=a8G e;subst e;split at ho
  .rename_i x hx;cases ho;intro A h first args cap Ie hv
   exact hf k (hN k (by omega)) x hp A h first args cap Ie (a.ok hx hv)
  .exact hN (k+1) (by omega) g vs v ext ps ho hp
 .exact hN (k+1) (by omega) g vs v ext ps ho hp
theorem Good.deep{α β:Type}{f:FuncId}{a:Ux X P α}{r:Ar X P β}{S:α->β}{pre:α->List Prop}{fK:eY X.Γ}(d:Nat)(hg:Good X P T L fK)
  (hf:∀n,d<=n->(∀m,n-d<=m->jr X P (kM P T L m) fK)->∀x,(∀p∈pre x,p)->mY X P (kM P T L (n+1)) f (a.put x) (r.put (S x)) []):Good X P T L (bZ f a r S pre fK):=by
 obtain⟨N,hN⟩:=hg;refine⟨N+d+1,fun n hn=>?_⟩;obtain⟨k,rfl⟩:∃k,n=k+1:=⟨n-1,by omega⟩;intro g vs v ext ps ho hp;unfold bZ at ho;split at ho
 .rename_i e;have e:=a8G e;subst e;split at ho
  .rename_i x hx;cases ho;intro A h first args cap Ie hv
   exact hf k (by omega) (fun m hm=>hN m (by omega)) x hp A h first args cap Ie (a.ok hx hv)
  .exact hN (k+1) (by omega) g vs v ext ps ho hp
 .exact hN (k+1) (by omega) g vs v ext ps ho hp
def Is{β:Type}(r:Ar X P β)(s:β):Option (PV X.Γ)->Prop:=fun v=>v=some (r.put s)∨∃w,v=some w∧r.get w=some s
theorem ai8{β:Type}(hX:bM X P){n f:Nat}{fK:eY X.Γ}(hO:jr X P (kM P T L n) fK){vs:List (PV X.Γ)}{an:PT X.Γ}{r:Ar X P β}{s:β}{o:OT (Option (PV X.Γ))}
  (hk:(CJ X P T fK (aX X P (kM P T L n)) (Bg X P T (kM P T L n) L f 0) L f vs [] an).map frz=o) (ht:Fp (Is r s) an o):mY X P (kM P T L (n+1)) f vs (r.put s) []:=
 by
 obtain⟨v,h1,h2⟩:=ht.aO;rw[<-hk]at h1;obtain⟨⟨v,H⟩,h3,rfl⟩:=OT.GY h1;rcases h2 with h2|⟨w,h2,h4⟩
 .exact WV hX (Zq hX (n:=n+1) (by omega) hO h3) h2
 .intro A h first args cap Ie hv
  obtain⟨x,h',m',c1,c2,c3,c4⟩:=WV hX (Zq hX (n:=n+1) (by omega) hO h3) h2 A h first args cap Ie hv
  exact⟨x,h',m',c1,c2,r.ok h4 c3,c4⟩
theorem Fp.rr{β:Type}{r:Ar X P β}{s:β}:Fp (Is r s) (.n:PT X.Γ) (.ret (some (r.put s))):=.r (.inl rfl)
theorem Fp.rn{β:Type}{r:Ar X P β}{s:β}(w:PV X.Γ)(h:r.get w=some s):Fp (Is r s) (.n:PT X.Γ) (.ret (some w)):=.r (.inr ⟨w,rfl,h⟩)
theorem Fp.ss{β:Type}{r:Ar X P β}{c:Bool}{t e:β}{a b:PT X.Γ}{x y:OT (Option (PV X.Γ))}(h1:Fp (Is r t) a x)(h2:Fp (Is r e) b y):Fp (Is r (if c=true then t else e)) (.s a b) (.br c x y):=
 .s (fun h=>by subst h;exact h1) (fun h=>by subst h;exact h2)
theorem Fp.sh{β:Type}{r:Ar X P β}{c:Bool}{t e:β}{a b:PT X.Γ}{x y:OT (Option (PV X.Γ))}(h1:c=true->Fp (Is r t) a x)(h2:c=false->Fp (Is r e) b y):Fp (Is r (if c=true then t else e)) (.s a b) (.br c x y):=
 .s (fun h=>by rw[a0h h];exact h1 h) (fun h=>by rw[a0g (by rw[h];simp)];exact h2 h)
theorem Fp.zh{β:Type}{r:Ar X P β}{c:Bool}{t e:β}{a b:PT X.Γ}{x y:OT (Option (PV X.Γ))}(h1:c=true->Fp (Is r t) a x)(h2:c=false->Fp (Is r e) b y):Fp (Is r (if c=true then t else e)) (.z c a b) (.br c x y):=
 .z (fun h=>by rw[a0h h];exact h1 h) (fun h=>by rw[a0g (by rw[h];simp)];exact h2 h)
theorem Fp.v{β:Type}{r:Ar X P β}{s:β}(u:β)(h:u=s):Fp (Is r s) (.n:PT X.Γ) (.ret (some (r.put u))):=.r (.inl (by rw[h]))
theorem Fp.k{τ:Type}{R:τ->Prop}{call:aZ}{fv v:PV X.Γ}{xs:List (PV X.Γ)}{H H1:List (PB X.Γ)}{an:PT X.Γ}{o:OT τ}(h:aX X P call fv xs H v H1)(t:Fp R an o):Fp R (.a (.call v H1) an) (.o (aX X P call fv xs H v H1) o):=.c v H1 h t
theorem Fp.fr{τ:Type}{R:τ->Prop}{call:aZ}{fv v:PV X.Γ}{xs:List (PV X.Γ)}{H H1:List (PB X.Γ)}{an:PT X.Γ}{o:OT τ}(ks:List Nat)(h:aX X P call fv xs H v H1)(t:Fp R an o):Fp R (.a (.fr ks v H1) an) (.o (aX X P call fv xs H v H1) o):=.kf ks v H1 h t
theorem Fp.Qh{τ:Type}{R:τ->Prop}{call:aZ}{fv v:PV X.Γ}{xs:List (PV X.Γ)}{H H1 H2:List (PB X.Γ)}{an:PT X.Γ}{o:OT τ}(ks rs:List Nat)(h:aX X P call fv xs H v H1)(t:Fp R an o):Fp R (.a (.Qh ks rs v H2) an) (.o (aX X P call fv xs H v H1) o):=.kg ks rs v H2 h t
def IsS{β:Type}(r:Ar X P β)(s:β)(H:List (PB X.Γ)):PV X.Γ×List (PB X.Γ)->Prop:=fun v=>v=(r.put s,H)
theorem Fp.sr{β:Type}{r:Ar X P β}{s:β}{H:List (PB X.Γ)}:Fp (IsS r s H) (.n:PT X.Γ) (.ret (r.put s,H)):=.r rfl
theorem Fp.szh{β:Type}{r:Ar X P β}{H:List (PB X.Γ)}{c:Bool}{t e:β}{a b:PT X.Γ}{x y:OT (PV X.Γ×List (PB X.Γ))}(h1:c=true->Fp (IsS r t H) a x)(h2:c=false->Fp (IsS r e H) b y):Fp (IsS r (if c=true then t else e) H) (.z c a b) (.br c x y):=
 .z (fun h=>by rw[a0h h];exact h1 h) (fun h=>by rw[a0g (by rw[h];simp)];exact h2 h)
theorem Fp.ssh{β:Type}{r:Ar X P β}{H:List (PB X.Γ)}{c:Bool}{t e:β}{a b:PT X.Γ}{x y:OT (PV X.Γ×List (PB X.Γ))}(h1:c=true->Fp (IsS r t H) a x)(h2:c=false->Fp (IsS r e H) b y):Fp (IsS r (if c=true then t else e) H) (.s a b) (.br c x y):=
 .s (fun h=>by rw[a0h h];exact h1 h) (fun h=>by rw[a0g (by rw[h];simp)];exact h2 h)
theorem CV{β:Type}(hX:bM X P){n f:Nat}{fK:eY X.Γ}(hO:jr X P (kM P T L n) fK){first xs cap:List (PV X.Γ)}{H H1:List (PB X.Γ)}{an:PT X.Γ}{r:Ar X P β}{s:β}{o:OT (PV X.Γ×List (PB X.Γ))}
  (hk:CJ X P T fK (aX X P (kM P T L n)) (Bg X P T (kM P T L n) L f H.length) L f (first++xs++cap) H an=o) (ht:Fp (IsS r s H1) an o):aX X P (kM P T L (n+1)) (.fn f first cap) xs H (r.put s) H1:=by
 obtain⟨y,h1,h2⟩:=ht.aO;cases h2;rw[<-hk]at h1;exact a5U hX (n:=n+1) (by omega) hO h1
theorem LU(hX:bM X P){call:aZ}{fK:eY X.Γ}(hO:jr X P call fK){f:FuncId}{first xs cap vs:List (PV X.Γ)}{v:PV X.Γ}{ps:List Prop}{H:List (PB X.Γ)}(hv:views H (first++xs++cap)=some vs)(ho:fK f vs=some (v,[],ps))(hp:∀p∈ps,p)(hl:wY v=false) :
  aX X P call (.fn f first cap) xs H (shift H.length v) H:=by
 intro A m h tf rP hr hf hx;cases hf with
 |gone hi _ _=>simp[bg]at hi
 |fn p1 p2 p3 p4=>
  obtain⟨w,h1,m1,e1,e2,e3,e4,e5⟩:=GV hX (hO f vs v [] ps ho hp) hr hv (ext':=[]) rfl ⟨p1,p2⟩ hx ⟨p3,p4⟩;simp only[hl,List.any_nil,Bool.or_self,a2c,a2Y,a6S]at e2;exact⟨w,h1,[],m1,e1,e2,e3,e4,e5,fun b hb=>by cases hb⟩
def a1{α:Type}(a:Ar X P α):Ux X P α:=ai7 a
def a2{α β:Type}(a:Ar X P α)(b:Ar X P β):Ux X P (α×β):=KL a (ai7 b)
def a3{α β γ:Type}(a:Ar X P α)(b:Ar X P β)(c:Ar X P γ):Ux X P (α×β×γ):=KL a (a2 b c)
def a4{α β γ δ:Type}(a:Ar X P α)(b:Ar X P β)(c:Ar X P γ)(d:Ar X P δ):Ux X P (α×β×γ×δ):=KL a (a3 b c d)
def np{α:Type}:α->List Prop:=fun _=>[]
end
end Pv
namespace Tw
def lS{α σ ρ:Type}(step:Nat->α->σ->σ⊕ρ):List α->Nat->σ->σ⊕ρ
 | [],_,s=>.inl s
 |a::l,i,s=>match step i a s with
  |.inl s'=>lS step l (i+1) s'
  |.inr r=>.inr r
def jK{σ ρ:Type}:σ⊕ρ->Bool
 |.inl _=>true
 |.inr _=>false
def aia{σ ρ:Type}(d:σ):σ⊕ρ->σ
 |.inl s=>s
 |.inr _=>d
def CW{σ ρ:Type}(d:ρ):σ⊕ρ->ρ
 |.inl _=>d
 |.inr r=>r
def ao4{σ:Type}:σ⊕Empty->σ
 |.inl s=>s
end Tw
namespace Pv
open Go Tw
def tK:Code->List Code
 |.seq a b=>tK a++tK b
 |.cond _ a b=>tK a++tK b
 |.block _ b=>tK b
 |.loop b=>b::tK b
 |.scope b=>tK b
 |.rangeFunc _ _ a b=>tK a++tK b
 |_=>[]
def RS(P:Program)(f k:Nat):Code:=
 match TG P f with
 |some t=>(tK t.body).getD k .skip
 |none=>.skip
theorem xU{k:Nat}(h:k<=ah):i64.wrap ((k:Int)+1)=((k+1:Nat):Int):=by
 simp only[IntKind.wrap,IntKind.bits,IntKind.signed];unfold ah at h;have:((k:Int)+1)%(2^64:Int)=(k:Int)+1:=a8w (by omega) (by omega);simp only[this];rw[a0g (by simp;omega)];omega
theorem aG{k n:Nat}(h:k<n):gQ k n:=⟨by omega,by omega⟩
theorem aW{k n:Nat}(h:k<n):decide ((k:Int)<(n:Int))=true:=by simp[h]
theorem eX(n:Nat):decide ((n:Int)<(n:Int))=false:=by simp
section
variable {X:kE} {P:Program} {T:qp} {L:Nat} {f nt B:Nat} {gU:Bool} {call:aZ} {b:Code} {σ α ρ:Type}
theorem Fp.w{τ:Type}{R:τ->Prop}{c:Code}{e:Ex}{s s':aQ X.Γ}{an:PT X.Γ}{o:OT τ}(h:dL X P T call L f gU nt B c s e s')(t:Fp R an o):Fp R (.a (.lg [] e s') an) (.o (dL X P T call L f gU nt B c s e s') o):=.l [] e s' h t
theorem Fp.wG{τ:Type}{R:τ->Prop}(gs:List G){c:Code}{e:Ex}{s s':aQ X.Γ}{an:PT X.Γ}{o:OT τ}(h:dL X P T call L f gU nt B c s e s')(t:Fp R an o):Fp R (.a (.lg gs e s') an) (.o (dL X P T call L f gU nt B c s e s') o):=.l gs e s' h t
theorem Fp.go{n:Nat}{e:Ex}{s s':aQ X.Γ}(h:dH X P T call L f gU nt B b n s' e s):Fp (Rnd X P T call L f gU nt B b n e s) (.n:PT X.Γ) (.ret (.norm,s')):=Fp.r (v:=(Ex.norm,s')) h
theorem Fp.RU{n:Nat}{e:Ex}{s s':aQ X.Γ}(gs:List G)(h:dH X P T call L f gU nt B b n s' e s):Fp (Rnd X P T call L f gU nt B b n e s) (.a (.lg gs .norm ⟨[],[],[]⟩) .n:PT X.Γ) (.ret (.norm,s')):=Fp.g (v:=(Ex.norm,s')) gs h
theorem Fp.ex{n i:Nat}{s:aQ X.Γ}:Fp (Rnd X P T call L f gU nt B b n (.exit i) s) (.n:PT X.Γ) (.ret (.exit i,s)):=Fp.r (v:=(Ex.exit i,s)) ⟨rfl,rfl⟩
def cont(out:σ⊕ρ->Ex×aQ X.Γ)(g:Nat->α->σ->σ⊕ρ)(l:List α)(i:Nat):σ⊕ρ->Ex×aQ X.Γ
 |.inl s=>out (lS g l i s)
 |.inr r=>out (.inr r)
def Rn(X:kE)(P:Program)(T:qp)(call:aZ)(L f:Nat)(gU:Bool)(nt B:Nat)(b:Code)(n:Nat){τ:Type}(K:τ->Ex×aQ X.Γ)(x:τ):Ex×aQ X.Γ->Prop:=Rnd X P T call L f gU nt B b n (K x).1 (K x).2
section
variable {τ:Type} {K:τ->Ex×aQ X.Γ} {n:Nat}
theorem Fp.ls{c:Bool}{t e:τ}{a d:PT X.Γ}{x y:OT (Ex×aQ X.Γ)}(h1:Fp (Rn X P T call L f gU nt B b n K t) a x)(h2:Fp (Rn X P T call L f gU nt B b n K e) d y):Fp (Rn X P T call L f gU nt B b n K (if c=true then t else e)) (.s a d) (.br c x y):=
 .s (fun h=>by subst h;exact h1) (fun h=>by subst h;exact h2)
theorem Fp.nx{x:τ}{s':aQ X.Γ}(h:dH X P T call L f gU nt B b n s' (K x).1 (K x).2):Fp (Rn X P T call L f gU nt B b n K x) (.n:PT X.Γ) (.ret (.norm,s')):=Fp.r (v:=(Ex.norm,s')) h
theorem Fp.nxG{x:τ}{s':aQ X.Γ}(gs:List G)(h:dH X P T call L f gU nt B b n s' (K x).1 (K x).2):Fp (Rn X P T call L f gU nt B b n K x) (.a (.lg gs .norm ⟨[],[],[]⟩) .n:PT X.Γ) (.ret (.norm,s')):=Fp.g (v:=(Ex.norm,s')) gs h
theorem Fp.ou{x:τ}(h:(K x).1≠.norm):Fp (Rn X P T call L f gU nt B b n K x) (.n:PT X.Γ) (.ret (K x)):=by
 refine Fp.r ?_;unfold Rn Rnd;split
 .rename_i e;rw[e]at h;exact absurd rfl h
 rename_i e;rw[e];exact⟨rfl,rfl⟩
theorem Fp.ouG{x:τ}(gs:List G)(h:(K x).1≠.norm):Fp (Rn X P T call L f gU nt B b n K x) (.a (.lg gs .norm ⟨[],[],[]⟩) .n:PT X.Γ) (.ret (K x)):=by
 refine Fp.g gs ?_;unfold Rn Rnd;split
 .rename_i e;rw[e]at h;exact absurd rfl h
 rename_i e;rw[e];exact⟨rfl,rfl⟩
end
theorem WW{l:List α}(d:α){st:Int->σ->aQ X.Γ}{g:Nat->α->σ->σ⊕ρ}{out:σ⊕ρ->Ex×aQ X.Γ}{s0:σ}{w:aQ X.Γ}(Inv:Nat->σ->Prop)(h0:gJ X (T.eP f (dR b)) w=st 0 s0)(hl:l.length<=ah)(hL:ah<L)(hi:Inv 0 s0)
  (hs:∀(k:Nat) (s:σ) (n:Nat),k<l.length->Inv k s->(∀s1,Inv (k+1) s1->dH X P T call L f gU nt B b n (st (i64.wrap (k+1)) s1) (cont out g (l.drop (k+1)) (k+1) (.inl s1)).1 (cont out g (l.drop (k+1)) (k+1) (.inl s1)).2) ->
   dH X P T call L f gU nt B b (n+1) (st k s) (cont out g (l.drop (k+1)) (k+1) (g k (l.getD k d) s)).1 (cont out g (l.drop (k+1)) (k+1) (g k (l.getD k d) s)).2)
  (ho:∀s,Inv l.length s->dH X P T call L f gU nt B b 1 (st l.length s) (out (.inl s)).1 (out (.inl s)).2) :
  dL X P T call L f gU nt B (.loop b) w (out (lS g l 0 s0)).1 (out (lS g l 0 s0)).2:=by
 have key:∀(m k:Nat) (s:σ),k+m=l.length->Inv k s->dH X P T call L f gU nt B b (m+1) (st k s) (out (lS g (l.drop k) k s)).1 (out (lS g (l.drop k) k s)).2:=by
  intro m
  induction m with
  |zero=>
   intro k s hk hr;have:k=l.length:=(by omega);subst this;rw[List.drop_length];exact ho s hr
  |succ m ih=>
   intro k s hk hr;have aS:k<l.length:=(by omega);have h1:=hs k s (m+1) aS hr fun s1 h=>by
    have:=ih (k+1) s1 (by omega) h;rw[xU (by omega)];exact this
   have hd:l.getD k d=l[k]:=(by simp[List.getD,a0a aS]);rw[a4P aS];simp only[lS];rw[hd]at h1;cases hg:g k l[k] s with
   |inl s1=>rw[hg]at h1;exact h1
   |inr r=>rw[hg]at h1;exact h1
 exact zi (key l.length 0 s0 (by omega) hi) h0 (by omega)
theorem jV{c:Code}{w:aQ X.Γ}{R:σ⊕ρ}{out:σ⊕ρ->Ex×aQ X.Γ}(h:dL X P T call L f gU nt B c w (out R).1 (out R).2)(d:σ)(hR:jK R=true):dL X P T call L f gU nt B c w (out (.inl (aia d R))).1 (out (.inl (aia d R))).2:=by
 cases R with
 |inl s=>exact h
 |inr r=>cases hR
theorem jW{c:Code}{w:aQ X.Γ}{R:σ⊕ρ}{out:σ⊕ρ->Ex×aQ X.Γ}(h:dL X P T call L f gU nt B c w (out R).1 (out R).2)(d:ρ)(hR:jK R=false):dL X P T call L f gU nt B c w (out (.inr (CW d R))).1 (out (.inr (CW d R))).2:=by
 cases R with
 |inl s=>cases hR
 |inr r=>exact h
end
def Zr{Γ:Nat->Type}:PE Γ->Bool
 |.val _=>true
 |_=>false
def tV{Γ:Nat->Type}(env:List (Nat×PE Γ)):List Nat->List (PV Γ)->List (Nat×PE Γ)
 |p::ps,v::vs=>tV ((p,.val v)::env) ps vs
 |_,_=>env
section
variable {X:kE} {P:Program} {T:qp} {A W:Nat->Prop} {m m':List MB} {h h':List HB} {L f nt B:Nat}
theorem a5X{env:List (Nat×PE X.Γ)}{env':List (Nat×EV)}(he:jJ X P A m h env env')(hv:(env.all fun p=>Zr p.2)=true):env'.all isVal=true:=by
 induction he with
 |nil=>rfl
 |cons h1 _ ih=>
  rename_i k v x r r' _;simp only[abJ,a2m]at hv ⊢;refine⟨?_,ih hv.2⟩;cases v with
  |val v=>obtain⟨y,rfl,_⟩:=fO h1;rfl
  |_=>simp[Zr]at hv
theorem RV:∀{ps:List Nat} {vs:List (PV X.Γ)} {xs:List TV} {env:List (Nat×PE X.Γ)} {env':List (Nat×EV)},jJ X P A m h env env'->bV X P A m h vs xs->jJ X P A m h (tV env ps vs) (su env' ps xs)
 | [],vs,xs,_,_,he,hv=>by simpa[tV,su]using he
 |p::ps,[],xs,_,_,he,hv=>by rw[hv.inv0];simpa[tV,su]using he
 |p::ps,v::vs,xs,_,_,he,hv=>by
  obtain⟨x,r,rfl,h1,h2⟩:=hv.inv;simp only[tV,su];exact RV (jJ.cons (v:=.val v) (x:=.val x) h1 he) h2
theorem GZ(hX:bM X P){n l:Nat}{xs:List (PV X.Γ)}{H:List (PB X.Γ)}{env:List (Nat×PE X.Γ)}{ps:List Nat}{uD body:Code}{jC:Option Code}{s1 s2:aQ X.Γ}{e:Ex}
  {f' nt':Nat} {env':List (Nat×PE X.Γ)} {ps':List Nat} {a' b':Code} {aby:Option Code} {f'' aep:Nat} {abK:List (Nat×PE X.Γ)} {aer:List Nat} {a'' b'':Code}
  (hl:H[l]? = some (.loop true f nt env ps uD body jC)) (hlen:xs.length=ps.length) (hps:(ps.all fun p=>decide (p<nt))=true)
  (h1:dL X P T (kM P T L n) L f true nt H.length uD ⟨tV env ps xs,[],H⟩ .norm s1) (hl1:s1.heap[l]? = some (.loop true f' nt' env' ps' a' b' aby))
  (h2:dL X P T (kM P T L n) L f true nt H.length body { s1 with heap:=s1.heap.set l (.loop false f' nt' env' ps' a' b' none) } e s2)
  (TM:s2.heap[l]? = some (.loop false f'' aep abK aer a'' b'' none)) :
  aX X P (kM P T L (n+1)) (.kC l) xs H (.bool (oL e)) (s2.heap.set l (.loop (oL e) f'' aep abK aer a'' b'' (sD e))):=by
 intro A m h tf rP hr hf hx;have aS:l<H.length:=(a04.1 hl).1;obtain⟨mb,k1,k2⟩:=hr.at_ l _ hl;cases mb with
 |dw _=>exact k2.elim
 |jf _=>exact k2.elim
 |gone=>exact k2.elim
 |fV c=>
 obtain⟨te,k3,k4⟩:=k2;have GR:c∈bn m:=bf k1 rfl;cases hf with
 |gone hi JE _=>simp only[bg,a00]at hi;subst hi;rw[k1]at JE;cases JE
 |kC hy=>
 rw[k1]at hy;cases hy;have hS:SR X P A (fun b=>b∈bn m) h.length m ⟨tV env ps xs,[],H⟩ ⟨su te ps rP,[],h,[]⟩:=
  ⟨⟨hr,rfl,fun k cs hk=>by simp at hk,RV (env:=env) (env':=te) k4 hx⟩,fun b hb=>.inl hb,fun b hb=>(by cases hb),a15 _⟩
 obtain⟨t1,m1,x1,x2,x3,x4⟩:=h1 A _ _ m _ hS;have at1:∀{M:List MB} {S:aQ X.Γ} {TS:St} {W:Nat->Prop} {rd:Bool} {f0 n0:Nat} {ee:List (Nat×PE X.Γ)} {pp:List Nat} {aa bb:Code} {pe:Option Code},SR X P A W h.length M S TS->LP H.length m M->S.heap[l]? = some (.loop rd f0 n0 ee pp aa bb pe)->M[l]? = some (.fV c)∧∃te,TS.heap[c]? = some (.loop rd f0 n0 te pp aa bb pe)∧jJ X P (AA A M) M TS.heap ee te:=by
  intro M S TS W rd f0 n0 ee pp aa bb pe hS hU hh;obtain⟨mb,j1,j2⟩:=hS.st.heap.at_ l _ hh;rcases hU l _ aS k1 with e|e
  .rw[e]at j1;cases j1;obtain⟨te,j3,j4⟩:=j2;exact⟨e,te,j3,j4⟩
  .rw[e]at j1;cases j1;exact j2.elim
 have aic:∀{M:List MB} {S:aQ X.Γ} {TS:St} {W:Nat->Prop} {rd:Bool} {f0 n0:Nat} {ee:List (Nat×PE X.Γ)} {pp:List Nat} {aa bb:Code} {pe:Option Code} (rd':Bool) (pe':Option Code),SR X P A W h.length M S TS->LP H.length m M->S.heap[l]? = some (.loop rd f0 n0 ee pp aa bb pe)->∃te,TS.heap[c]? = some (.loop rd f0 n0 te pp aa bb pe)∧HR X P A M (S.heap.set l (.loop rd' f0 n0 ee pp aa bb pe')) (TS.heap.set c (.loop rd' f0 n0 te pp aa bb pe'))∧Fr M TS.heap M (TS.heap.set c (.loop rd' f0 n0 te pp aa bb pe')):=by
  intro M S TS W rd f0 n0 ee pp aa bb pe rd' pe' hS hU hh;obtain⟨j1,te,j3,j4⟩:=at1 hS hU hh;obtain⟨s1,s2⟩:=hS.st.heap.set (i:=l) (c:=c) (pb:=.loop rd' f0 n0 ee pp aa bb pe') (hb:=.loop rd' f0 n0 te pp aa bb pe') j1 rfl (fun cs hc=>by unfold aV at hc;rw[j3]at hc;cases hc) (fun hF=>⟨te,by rw[a2k (a04.1 j3).1],j4.step hF .refl⟩);exact⟨te,j3,s1,s2⟩
 obtain⟨te1,y1,y2,y3⟩:=aic false none x2 x4 hl1;have hS1:SR X P A (fun b=>b∈bn m) h.length m1 { s1 with heap:=s1.heap.set l (.loop false f' nt' env' ps' a' b' none) } { t1 with heap:=t1.heap.set c (.loop false f' nt' te1 ps' a' b' none),ws:=Ei h.length c t1.ws }:=by
  have q:=x2.st.step y2 y3 .refl;refine⟨⟨q.heap,q.llen,q.loc,q.env⟩,x2.own,fun b hb=>?_,a4A x2.fl y3.len⟩;rcases vJ (ks:=[.h c]) hb with k|⟨k,_⟩
  .exact x2.ws b k
  .simp at k;subst k;exact GR
 obtain⟨t2,m2,z1,z2,z3,z4⟩:=h2 A _ _ m1 _ hS1;obtain⟨te2,u1,u2,u3⟩:=aic (oL e) (sD e) z2 (x4.trans z4) TM;have hF:=(x3.trans y3).trans (z3.trans u3);refine⟨.bool (oL e),t2.heap.set c (.loop (oL e) f'' aep te2 aer a'' b'' (sD e)),Ei h.length c t2.ws,m2,?_,u2,.bool _,hF,fun i mb hi=>(x4.trans z4) i mb ?_ hi,fun b hb=>?_⟩
 .have hl':rP.length=ps.length:=by rw[<-hx.1,hlen]
  simp only[kM,ap,MR,k3,hl',hps,adf,a2d,x1,y1,z1,u1]
 .rw[<-hr.len];exact(a04.1 hi).1
 .rcases vJ (ks:=[.h c]) hb with k|⟨k,_⟩
  .exact z2.ws b k
  .simp at k;subst k;exact GR
abbrev gB(B:Nat):Nat->Option Nat:=fun i=>if i<B then some i else(vY [] i).map (·+B)
theorem zk{g:Nat->Option Nat}:∀{a:List (PV X.Γ)},(∀(i:Nat) x,a[i]? = some x->fJ g x=some x)->fJ.oH g a=some a
 | [],_=>rfl
 |c::cs,h=>by
  simp only[fJ.oH,h 0 c rfl,zk (a:=cs) fun i x hi=>h (i+1) x (by simpa using hi)]
theorem H6{α β:Type}{a:List α}{b:List β}(hl:a.length=b.length){i:Nat}{x:α}(hi:a[i]? = some x):∃y,b[i]? = some y:=by
 have:i<b.length:=by rw[<-hl];exact(a04.1 hi).1
 exact⟨b[i],a0a this⟩
theorem Uy{v:PV X.Γ}{x:TV}(hv:VR X P A m h v x){B:Nat}(hB:m.length<=B):fJ (gB B) v=some v:=by
 have key:∀{b:Nat} {mb:MB},m[b]? = some mb->gB B b=some b:=fun e=>by
  have:=(a04.1 e).1;simp only[gB];rw[a0h (by omega)]
 induction hv with
 |bool=>rfl
 |lit=>rfl
 |int=>rfl
 |str=>rfl
 |nil=>rfl
 |ptr e=>simp only[fJ,key e,a0T]
 |slc e=>simp only[fJ,key e,a0T]
 |own e _=>simp only[fJ,key e,a0T]
 |win e _ _=>simp only[fJ,key e,a0T]
 |Ac e=>simp only[fJ,key e,a0T]
 |map e=>simp only[fJ,key e,a0T]
 |iter e=>simp only[fJ,key e,a0T]
 |kC e=>simp only[fJ,key e,a0T]
 |row e _ _=>simp only[fJ,key e,a0T]
 |nZ=>rfl
 |dw=>rfl
 |el=>rfl
 |fn h1 _ h3 _ i2 i4=>
  simp only[fJ];rw[zk fun i x hi=>let ⟨y,hy⟩:=H6 h1 hi;i2 i x y hi hy,zk fun i x hi=>let ⟨y,hy⟩:=H6 h3 hi;i4 i x y hi hy]
 |agg h1 _ i2=>simp only[fJ];rw[zk fun i x hi=>let ⟨y,hy⟩:=H6 h1 hi;i2 i x y hi hy];rfl
 |dG h1 _ i2=>simp only[fJ];rw[zk fun i x hi=>let ⟨y,hy⟩:=H6 h1 hi;i2 i x y hi hy];rfl
 | @gone v i x hi e _=>
  have:=key (b:=i) (mb:=(m[i]?).getD .gone) (by cases q:m[i]? with|none=>rw[q]at e;cases e|some y=>rfl);cases v<;>simp only[bg,a00]at hi<;>first|(subst hi;simp only[fJ,this,a0T])|cases hi
theorem a13{v:List (PV X.Γ)}{x:List TV}(hv:bV X P A m h v x){B:Nat}(hB:m.length<=B):fJ.oH (gB B) v=some v:=
 zk fun i a hi=>let ⟨y,hy⟩:=H6 hv.1 hi;Uy (hv.2 i a y hi hy) hB
theorem a5Y{v:List (Nat×PE X.Γ)}{x:List (Nat×EV)}(hv:jJ X P A m h v x){B:Nat}(hB:m.length<=B):oG (gB B) v=some v:=by
 induction hv with
 |nil=>rfl
 |cons h1 _ ih=>
  rename_i k v x r r' _;simp only[oG,ih];cases v with
  |val v=>obtain⟨y,rfl,h2⟩:=fO h1;simp only[NY,Uy h2 hB,a0T]
  |ent r j v=>
   obtain⟨c,y,rfl,h2,_⟩:=LG h1;have:=Uy h2 hB;simp only[fJ,a09,PV.map.injEq,exists_eq_right]at this;simp only[NY,this,a0T]
  |Eh r j=>
   obtain⟨c,rfl,h2⟩:=LH h1;have:=Uy h2 hB;simp only[fJ,a09,PV.map.injEq,exists_eq_right]at this;simp only[NY,this,a0T]
  |_=>rfl
theorem a9G{b:PB X.Γ}{mb:MB}(hb:BR X P A m h b mb){B:Nat}(hB:m.length<=B):yX (gB B) b=some b:=by
 cases b with
 |cells cs=>
  cases mb with
  |fV c=>obtain⟨_,_,h2⟩:=hb;simp only[yX,a13 h2 hB,a0T]
  |_=>exact hb.elim
 |aC cs=>
  cases mb with
  |jf c=>obtain⟨_,_,_,h2⟩:=hb;simp only[yX,a13 h2 hB,a0T]
  |_=>exact hb.elim
 |map es=>rfl
 |cZ r n seen=>
  cases mb with
  |fV c=>
   obtain⟨_,_,h2,_⟩:=hb;obtain⟨mb,h3⟩:=a5j.1 h2;have aS:r<B:=a8S (a04.1 h3).1 hB;have:gB B r=some r:=(by simp[gB,aS]);simp only[yX,this,a0T]
  |_=>exact hb.elim
 |loop=>
  cases mb with
  |fV c=>obtain⟨_,_,h2⟩:=hb;simp only[yX,a5Y h2 hB,a0T]
  |_=>exact hb.elim
 |_=>rfl
theorem WX{B:Nat}:∀{H:List (PB X.Γ)},(∀(i:Nat) b,H[i]? = some b->yX (gB B) b=some b)->nC (gB B) H=some H
 | [],_=>rfl
 |c::cs,h=>by
  simp only[nC,h 0 c rfl,WX (H:=cs) fun i x hi=>h (i+1) x (by simpa using hi)]
theorem aX.drop(hX:bM X P){call:aZ}{fv:PV X.Γ}{xs:List (PV X.Γ)}{H H1:List (PB X.Γ)}{v:PV X.Γ}(hs:aX X P call fv xs H v H1)(h1:H1.take H.length=H)(hv:fJ (gB H.length) v=some v):aX X P call fv xs H v H:=by
 intro A m h tf rP hr hf hx;obtain⟨w,h',ws,m1,c1,c2,c3,c4,c5,c6⟩:=hs A m h tf rP hr hf hx;have hg:kW H.length [.gc []] (⟨[(0,.val v)],[],H1⟩:aQ X.Γ)=some ⟨[(0,.val v)],[],H⟩:=by
  have hb:nC (gB H.length) H=some H:=WX fun i b hi=>let ⟨mb,_,h2⟩:=hr.at_ i b hi;a9G h2 (agC hr.len)
  have hl:H.length<=H1.length:=by have:=congrArg List.length h1;simp at this;omega
  have e:oG (gB H.length) [(0,PE.val v)]=some [(0,.val v)]:=by simp only[oG,NY,hv,a0T]
  have qw:nC (fun i=>if i<H.length then some i else(vY [] i).map (·+H.length)) H=some H:=hb;have e':oG (fun i=>if i<H.length then some i else(vY [] i).map (·+H.length)) [(0,PE.val v)]=some [(0,.val v)]:=e;simp only[kW,Bf,List.all_nil,a7f,decide_true,Bool.and_self,abq,hl,a2d,e',Wv,h1,qw,CG,nC,a6S]
 obtain⟨m2,q1,q2,q3⟩:=mg hX hg A (fun _=>True) 0 m1 ⟨[(0,.val w)],[],h',[]⟩ ⟨⟨c2,rfl,fun k cs hk=>by simp at hk,.cons c3 .nil⟩,fun b _=>.inl trivial,fun b hb=>(by cases hb),a4v _⟩;obtain⟨w',e1,e2⟩:=o7 q1.st.env (t:=0) (v:=.val v) rfl;simp only[dK,a2d,a00]at e1;subst e1;refine⟨w,h',ws,m2,c1,q1.st.heap,e2,c4.trans q2,fun i mb hi=>?_,c6⟩;have aS:i<H.length:=by rw[<-hr.len];exact(a04.1 hi).1
 rcases c5 i mb hi with g|g
 .exact q3 i mb aS g
 rcases q3 i _ aS g with g|g<;>exact .inr g
end
section
variable {X:kE} {P:Program}
theorem aX.frame(hX:bM X P){call:aZ}{ks:List Nat}{H' Hp H H1 PW:List (PB X.Γ)}{fv fv' v v':PV X.Γ}{xs xs':List (PV X.Γ)}(hs:aX X P call fv xs H v H1)
  (je:ks.Nodup) (hp:CG H' ks=some Hp) (hH:nC (vY ks) Hp=some H) (hf:fJ (vY ks) fv'=some fv) (hx:fJ.oH (vY ks) xs'=some xs)
  (hv:fJ (bk ks H'.length) v=some v') (hH1:nC (bk ks H'.length) H1=some PW) (hro:IE (H1.drop ks.length)=true) :
  aX X P call fv' xs' H' v' (putAt ks PW H'++PW.drop ks.length):=fun A m' h tf rP hr hf' EY=>by
 obtain⟨w,h1,ws,m1,c1,c2,c3,c4,c5,c6⟩:=IU hX hs.w je hp hH hf hx hv hH1 hro A m' h tf rP hr hf' EY;exact⟨w,h1,ws,m1,c1,c2,c3,c4,c5,fun b hb=>by obtain⟨_,k,_,_,mb,h8,h9⟩:=c6 b hb;exact bf h8 h9⟩
end
def itF{σ ρ:Type}(g:σ->σ⊕ρ):Nat->σ->Option ρ
 | 0,_=>none
 |k+1,s=>match g s with
  |.inl s1=>itF g k s1
  |.inr r=>some r
section
variable {X:kE} {P:Program} {T:qp} {L:Nat} {f nt B:Nat} {gU:Bool} {call:aZ} {b:Code} {σ ρ:Type}
def CX(out:ρ->Ex×aQ X.Γ)(r:ρ):σ⊕ρ->Ex×aQ X.Γ
 |.inl _=>out r
 |.inr r'=>out r'
theorem a5Z{st:σ->aQ X.Γ}{g:σ->σ⊕ρ}{out:ρ->Ex×aQ X.Γ}(Inv:σ->Prop)(hi:∀s s1,Inv s->g s=.inl s1->Inv s1)
  (hs:∀s n r,Inv s->(∀s1,g s=.inl s1->dH X P T call L f gU nt B b n (st s1) (out r).1 (out r).2)->dH X P T call L f gU nt B b (n+1) (st s) (CX out r (g s)).1 (CX out r (g s)).2) :
  ∀{k:Nat} {s:σ} {r:ρ},Inv s->itF g k s=some r->dH X P T call L f gU nt B b k (st s) (out r).1 (out r).2
 | 0,s,r,_,h=>by cases h
 |k+1,s,r,hv,h=>by
  simp only[itF]at h;have h1:=hs s k r hv fun s1 h1=>by
   rw[h1]at h;exact a5Z Inv hi hs (hi s s1 hv h1) h
  cases hg:g s with
  |inl s1=>rw[hg]at h1;exact h1
  |inr r'=>rw[hg]at h1 h;simp only[a00]at h;subst h;exact h1
theorem aes{st:σ->aQ X.Γ}{g:σ->σ⊕ρ}{out:ρ->Ex×aQ X.Γ}(Inv:σ->Prop){k:Nat}{s:σ}{r:ρ}{w:aQ X.Γ}(hr:itF g k s=some r)(h0:gJ X (T.eP f (dR b)) w=st s)(hk:k<=L)(hv:Inv s)(hi:∀s s1,Inv s->g s=.inl s1->Inv s1)
  (hs:∀s n r,Inv s->(∀s1,g s=.inl s1->dH X P T call L f gU nt B b n (st s1) (out r).1 (out r).2)->dH X P T call L f gU nt B b (n+1) (st s) (CX out r (g s)).1 (CX out r (g s)).2) :
  dL X P T call L f gU nt B (.loop b) w (out r).1 (out r).2:=zi (a5Z Inv hi hs hv hr) h0 hk
end
section
variable {X:kE} {P:Program} {T:qp} {L:Nat}
def Zt{α:Type}(f:FuncId)(a:Ux X P α)(v:α->PV X.Γ)(ext:α->List (PB X.Γ))(pre:α->List Prop)(fK:eY X.Γ):eY X.Γ:=fun g vs=>
 match Nat.beq g f with
 |true=>match a.get vs with
  |some x=>some (v x,ext x,pre x)
  |none=>fK g vs
 |false=>fK g vs
theorem Good.WY{α:Type}{f:FuncId}{a:Ux X P α}{v:α->PV X.Γ}{ext:α->List (PB X.Γ)}{pre:α->List Prop}{fK:eY X.Γ}(d:Nat)(hg:Good X P T L fK)
  (hf:∀n,d<=n->(∀m,n-d<=m->jr X P (kM P T L m) fK)->∀x,(∀p∈pre x,p)->mY X P (kM P T L (n+1)) f (a.put x) (v x) (ext x)):Good X P T L (Zt f a v ext pre fK):=by
 obtain⟨N,hN⟩:=hg;refine⟨N+d+1,fun n hn=>?_⟩;obtain⟨k,rfl⟩:∃k,n=k+1:=⟨n-1,by omega⟩;intro g vs v ext ps ho hp;unfold Zt at ho;split at ho
 .rename_i e;have e:=a8G e;subst e;split at ho
  .rename_i x hx;cases ho;intro A h first args cap Ie hv
   exact hf k (by omega) (fun m hm=>hN m (by omega)) x hp A h first args cap Ie (a.ok hx hv)
  .exact hN (k+1) (by omega) g vs v ext ps ho hp
 .exact hN (k+1) (by omega) g vs v ext ps ho hp
def IsE(v:PV X.Γ)(H:List (PB X.Γ)):PV X.Γ×List (PB X.Γ)->Prop:=fun y=>y=(v,H)
theorem Fp.er{v:PV X.Γ}{H:List (PB X.Γ)}:Fp (IsE v H) (.n:PT X.Γ) (.ret (v,H)):=.r rfl
theorem Bh(hX:bM X P){n f:Nat}{fK:eY X.Γ}(hO:jr X P (kM P T L n) fK){vs:List (PV X.Γ)}{an:PT X.Γ}{v:PV X.Γ}{H:List (PB X.Γ)}{o:OT (PV X.Γ×List (PB X.Γ))}
  (hk:CJ X P T fK (aX X P (kM P T L n)) (Bg X P T (kM P T L n) L f 0) L f vs [] an=o) (ht:Fp (IsE v H) an o):mY X P (kM P T L (n+1)) f vs v H:=by
 obtain⟨y,h1,h2⟩:=ht.aO;cases h2;rw[<-hk]at h1;exact Zq hX (n:=n+1) (by omega) hO h1
end
section
variable {X:kE} {P:Program} {T:qp} {L:Nat}
theorem qP(hX:bM X P){n f:Nat}{fK:eY X.Γ}(hO:jr X P (kM P T L n) fK){first xs cap:List (PV X.Γ)}{H H1:List (PB X.Γ)}{v:PV X.Γ}{an:PT X.Γ}{o:OT (PV X.Γ×List (PB X.Γ))}
  (hk:CJ X P T fK (aX X P (kM P T L n)) (Bg X P T (kM P T L n) L f H.length) L f (first++xs++cap) H an=o) (ht:Fp (IsE v H1) an o):aX X P (kM P T L (n+1)) (.fn f first cap) xs H v H1:=by
 obtain⟨y,h1,h2⟩:=ht.aO;cases h2;rw[<-hk]at h1;exact a5U hX (n:=n+1) (by omega) hO h1
end
theorem Good.WZ{X:kE}{P:Program}{T:qp}{L:Nat}{α β:Type}{f:FuncId}{a:Ux X P α}{r:Ar X P β}{S:α->β}{pre:α->List Prop}{fK X3:eY X.Γ}(d:Nat)(hg:Good X P T L fK)(hg2:Good X P T L X3)
  (hf:∀n,d<=n->(∀m,n-d<=m->jr X P (kM P T L m) fK)->(∀m,n-d<=m->jr X P (kM P T L m) X3)->∀x,(∀p∈pre x,p)->mY X P (kM P T L (n+1)) f (a.put x) (r.put (S x)) []):Good X P T L (bZ f a r S pre fK):=by
 obtain⟨N2,hN2⟩:=hg2;obtain⟨M,hM⟩:=hg;refine⟨M+N2+d+1,fun n hn=>?_⟩;obtain⟨k,rfl⟩:∃k,n=k+1:=⟨n-1,by omega⟩;intro g vs v ext ps ho hp;unfold bZ at ho;split at ho
 .rename_i e;have e:=a8G e;subst e;split at ho
  .rename_i x hx;cases ho;intro A h first args cap Ie hv
   exact hf k (by omega) (fun m hm=>hM m (by omega)) (fun m hm=>hN2 m (by omega)) x hp A h first args cap Ie (a.ok hx hv)
  .exact hM (k+1) (by omega) g vs v ext ps ho hp
 .exact hM (k+1) (by omega) g vs v ext ps ho hp
section
variable {X:kE} {P:Program}
theorem aX.gs(hX:bM X P){call:aZ}{fv:PV X.Γ}{xs:List (PV X.Γ)}{H H1 H2:List (PB X.Γ)}{v v':PV X.Γ}(hs:aX X P call fv xs H v H1)(gs:List G)(hg:kW H.length gs (⟨[(0,.val v)],[],H1⟩:aQ X.Γ)=some ⟨[(0,.val v')],[],H2⟩):aX X P call fv xs H v' H2:=by
 intro A m h tf rP hr hf hx;obtain⟨w,h',ws,m1,c1,c2,c3,c4,c5,c6⟩:=hs A m h tf rP hr hf hx;obtain⟨m2,q1,q2,q3⟩:=mg hX hg A (fun _=>True) 0 m1 ⟨[(0,.val w)],[],h',[]⟩ ⟨⟨c2,rfl,fun k cs hk=>by simp at hk,.cons c3 .nil⟩,fun b _=>.inl trivial,fun b hb=>(by cases hb),a4v _⟩;obtain⟨w',e1,e2⟩:=o7 q1.st.env (t:=0) (v:=.val v') rfl;simp only[dK,a2d,a00]at e1;subst e1;refine⟨w,h',ws,m2,c1,q1.st.heap,e2,c4.trans q2,fun i mb hi=>?_,c6⟩;have aS:i<H.length:=by rw[<-hr.len];exact(a04.1 hi).1
 rcases c5 i mb hi with g|g
 .exact q3 i mb aS g
 rcases q3 i _ aS g with g|g<;>exact .inr g
theorem aX.cut(hX:bM X P){call:aZ}{fv:PV X.Γ}{xs:List (PV X.Γ)}{H H1 H2:List (PB X.Γ)}{v:PV X.Γ}(hs:aX X P call fv xs H v H1)(h1:H1.take H.length=H2)(hb:nC (gB H.length) H2=some H2)(hl:decide (H.length<=H1.length)=true)(hv:fJ (gB H.length) v=some v):aX X P call fv xs H v H2:=by
 intro A m h tf rP hr hf hx;obtain⟨w,h',ws,m1,c1,c2,c3,c4,c5,c6⟩:=hs A m h tf rP hr hf hx;have hl:=a8d hl;have hg:kW H.length [.gc []] (⟨[(0,.val v)],[],H1⟩:aQ X.Γ)=some ⟨[(0,.val v)],[],H2⟩:=by
  have e:oG (gB H.length) [(0,PE.val v)]=some [(0,.val v)]:=by simp only[oG,NY,hv,a0T]
  have qw:nC (fun i=>if i<H.length then some i else(vY [] i).map (·+H.length)) H2=some H2:=hb;have e':oG (fun i=>if i<H.length then some i else(vY [] i).map (·+H.length)) [(0,PE.val v)]=some [(0,.val v)]:=e;simp only[kW,Bf,List.all_nil,a7f,decide_true,Bool.and_self,abq,hl,a2d,e',Wv,h1,qw,CG,nC,a6S]
 obtain⟨m2,q1,q2,q3⟩:=mg hX hg A (fun _=>True) 0 m1 ⟨[(0,.val w)],[],h',[]⟩ ⟨⟨c2,rfl,fun k cs hk=>by simp at hk,.cons c3 .nil⟩,fun b _=>.inl trivial,fun b hb=>(by cases hb),a4v _⟩;obtain⟨w',e1,e2⟩:=o7 q1.st.env (t:=0) (v:=.val v) rfl;simp only[dK,a2d,a00]at e1;subst e1;refine⟨w,h',ws,m2,c1,q1.st.heap,e2,c4.trans q2,fun i mb hi=>?_,c6⟩;have aS:i<H.length:=by rw[<-hr.len];exact(a04.1 hi).1
 rcases c5 i mb hi with g|g
 .exact q3 i mb aS g
 rcases q3 i _ aS g with g|g<;>exact .inr g
end
section
variable {X:kE} {P:Program} {T:qp} {L f nt B:Nat} {gU:Bool} {call:aZ} {fK:eY X.Γ}
theorem xX(hX:bM X P)(hO:jr X P call fK){c:Code}{ps ps1:aQ X.Γ}{an:PT X.Γ}{e:Ex}{o:OT (Ex×aQ X.Γ)}
  (hk:jF X P T fK (aX X P call) (dL X P T call L f gU nt B) B L f gU nt c ps an aek=o) (ht:Fp (fun y=>y=(e,ps1)) an o):dL X P T call L f gU nt B c ps e ps1:=by
 obtain⟨y,h1,rfl⟩:=ht.aO;rw[<-hk]at h1;exact WU hX hO h1
theorem Fp.xx{y:Ex×aQ X.Γ}:Fp (fun z=>z=y) (.n:PT X.Γ) (.ret y):=.r rfl
end
theorem aX.forget{X:kE}{P:Program}{call:aZ}{fv:PV X.Γ}{xs:List (PV X.Γ)}{H H1:List (PB X.Γ)}{v:PV X.Γ}(hs:aX X P call fv xs H v H1)(i:Nat):aX X P call fv xs H v (H1.set i .gone):=by
 intro A m h tf rP hr hf hx;obtain⟨w,h',ws,m1,c1,c2,c3,c4,c5,c6⟩:=hs A m h tf rP hr hf hx;have hg:=c2.aY [i];have hf2:=iq (h:=h') [i] m1;exact⟨w,h',ws,_,c1,hg,c3.step hf2.1 hf2.2,c4.trans hf2.1,c5.trans hf2.2,c6⟩
theorem qQ{X:kE}{P:Program}(hX:bM X P){call:aZ}{fK:eY X.Γ}(hO:jr X P call fK){f:FuncId}{first xs cap vs:List (PV X.Γ)}{v:PV X.Γ}{ps:List Prop}{H:List (PB X.Γ)}(hv:views H (first++xs++cap)=some vs)(ho:fK f vs=some (v,[],ps))(hp:∀p∈ps,p)(hl:wY v=true) :
  aX X P call (.fn f first cap) xs H (shift H.length v) (aY (kH.jS (first++xs++cap)) H):=by
 intro A m h tf rP hr hf hx;cases hf with
 |gone hi _ _=>simp[bg]at hi
 |fn p1 p2 p3 p4=>
  obtain⟨w,h1,m1,e1,e2,e3,e4,e5⟩:=GV hX (hO f vs v [] ps ho hp) hr hv (ext':=[]) rfl ⟨p1,p2⟩ hx ⟨p3,p4⟩;simp only[hl,List.any_nil,Bool.true_or,a2d,a6S]at e2;exact⟨w,h1,[],m1,e1,e2,e3,e4,e5,fun b hb=>by cases hb⟩
section
variable {X:kE} {P:Program} {A:Nat->Prop} {m:List MB} {h:List HB}
theorem VR.a14{k:IntKind}{n:Int}{y:TV}(hy:VR X P A m h (.int k n) y):y=.int k n:=by
 cases hy with
 |int=>rfl
 |gone hi _ _=>simp[bg]at hi
theorem VR.Uz{f:FuncId}{y:TV}(hy:VR X P A m h (.fn f [] []) y):y=.fn f [] []:=by
 cases hy with
 |gone hi _ _=>simp[bg]at hi
 |fn p1 _ p3 _=>rw[a3W p1.symm,a3W p3.symm]
theorem aeu{k ex:Bool}{t:Nat}{l:List (X.Γ t)}{x:TV}(hl:LR X P A m h k ex t l x):(l=[]∧x=.nil .slc)∨(l=[]∧∃b off sz cs,x=.slc b off 0 0 sz true∧A b∧aV h b=some cs∧off<=cs.length∧dB P t=some sz∧0<sz) ∨
  (l≠[]∧∃b sz e kk cs,x=.slc b 0 l.length l.length sz e∧dB P t=some sz∧0<sz∧h[b]? = some (.cells kk cs)∧kk≠.ro∧(k=true->kk=.own)∧(ex=true->e=true)∧cs.length=l.length*sz∧dV X P A m h t l cs 0 sz):=by
 cases hl with
 |nil=>exact .inl ⟨rfl,rfl⟩
 |emp p0 p1 p2 p3 p4=>exact .inr (.inl ⟨rfl,_,_,_,_,rfl,p0,p1,p2,p3,p4⟩)
 |some p1 p2 p3 p4 p5 p6 p7 p8 p9=>exact .inr (.inr ⟨p1,_,_,_,_,_,rfl,p2,p3,p4,p5,p6,p7,p8,p9⟩)
theorem a9I{H:List (PB X.Γ)}{i:Nat}{x:TV}{k ex:Bool}{t:Nat}{l:List (X.Γ t)}(hr:HR X P A m H h)(hi:H[i]? = some (.list k ex t l))(hv:VR X P (AA A m) m h (.own i) x):m[i]? = some (.dw x)∧LR X P (AA A m) m h k ex t l x:=by
 obtain⟨mb,g1,g2⟩:=hr.at_ i _ hi;cases hv with
 |own e _=>
  rw[g1]at e;cases e;exact⟨g1,g2⟩
 |gone JE e _=>
  simp only[bg,a00]at JE;subst JE;rw[g1]at e;cases e<;>exact g2.elim
end
section
variable {X:kE} {P:Program}
theorem mY.gs(hX:bM X P){call:aZ}{f:FuncId}{vs:List (PV X.Γ)}{v v':PV X.Γ}{ext ext':List (PB X.Γ)}(hc:mY X P call f vs v ext)(gs:List G)(hg:kW 0 gs (⟨[(0,.val v)],[],ext⟩:aQ X.Γ)=some ⟨[(0,.val v')],[],ext'⟩):mY X P call f vs v' ext':=by
 intro A h first args cap Ie hv
 obtain⟨w,h',m',c1,c2,c3,c4⟩:=hc A h first args cap Ie hv
 obtain⟨m2,q1,q2,q3⟩:=mg hX hg A (fun _=>True) 0 m' ⟨[(0,.val w)],[],h',[]⟩ ⟨⟨c2,rfl,fun k cs hk=>by simp at hk,.cons c3 .nil⟩,fun b _=>.inl trivial,fun b hb=>(by cases hb),a4v _⟩;obtain⟨w',e1,e2⟩:=o7 q1.st.env (t:=0) (v:=.val v') rfl;simp only[dK,a2d,a00]at e1;subst e1;exact⟨w,h',m2,c1,q1.st.heap,e2,c4.trans q2⟩
theorem a6a{A:Nat->Prop}{m:List MB}{h:List HB}{t:Nat}{fu:Bool}{x:TV}(hv:VR X P A m h (.dw t [] fu) x):x=.nil .slc∨∃b off cap sz ex cs,x=.slc b off 0 cap sz ex∧A b∧aV h b=some cs∧dB P t=some sz∧0<sz∧off<=cs.length:=by
 generalize hl:([]:List (X.Γ t))=l at hv;cases hv with
 |nZ=>exact .inl rfl
 |dw a c c2 s z o k f e r=>
  subst hl;exact .inr ⟨_,_,_,_,_,_,rfl,a,c,s,z,by simpa using o⟩
 |gone hi _ _=>simp[bg]at hi
theorem X4{A:Nat->Prop}{h:List HB}{t:Nat}{x:TV}(Ie:∀b,h.length<=b->A b)(hx:LR X P (AA A [.dw x]) [.dw x] h false false t [] x)(ho:(MB.dw x).own=none):HR X P A [.dw x] [.list false false t []] h:=by
 have hb:bn [MB.dw x]=[]:=by simp[bn,ho]
 refine⟨rfl,fun i b hi=>?_,by rw[hb];exact a7f,Ie,fun b qw=>by rw[hb]at qw;cases qw⟩;cases i with
 |zero=>simp only[a2J,a00]at hi;subst hi;exact⟨.dw x,rfl,hx⟩
 |succ i=>simp at hi
end
end Pv
namespace Go.Proofs.YtmobpoiejckagaaGreat
open Go Tw
structure B where
 lo:Int
 hi:Int
 f:Int
 deriving DecidableEq
structure O where
 code:Int
 a:Int
 b:Int
 c:Int
 n:Int
 deriving DecidableEq
structure K where
 name:ByteArray
 lo:Int
 hi:Int
structure V where
 f:Int
 n:Int
 deriving DecidableEq
abbrev B0:B:=⟨0,0,0⟩
abbrev O0:O:=⟨0,0,0,0,0⟩
abbrev K0:K:=⟨ByteArray.empty,0,0⟩
abbrev V0:V:=⟨0,0⟩
def oU(g:Int->Bool)(i:Nat)(x:Int)(s:Unit):(Unit)⊕(Nat×Int×(Unit)):=
 if(g x)=true then .inr (i,x,s)else .inl ()
def qR(g:Int->Bool)(l:List Int):Int:=
 if(jK (lS (oU g) l 0 ()))=true then -1 else(((CW (0,0,()) (lS (oU g) l 0 ())).1:Int))
def lW(g:Int->Bool)(l:List Int):Bool:=
 decide ((qR g l)>=0)
theorem a6b(g:Int->Bool):∀(l:List Int) (i:Nat),jK (lS (oU g) l i ())=!(l.any g)
 | [],i=>rfl
 |x::l,i=>by
  simp only[lS,oU,ado];cases g x with
  |true=>rfl
  |false=>simpa using a6b g l (i+1)
theorem DX(g:Int->Bool)(l:List Int):lW g l=l.any g:=by
 have:=a6b g l 0;unfold lW qR;rw[this];cases l.any g with
 |true=>simp
 |false=>simp
def vK(x:Int)(lo:Int)(hi:Int):Bool:=
 if(decide ((x)<(lo)))=true then true else decide ((x)>(hi))
def lX(l:List Int)(lo:Int)(hi:Int):Bool:=
 !(l.any ((fun x=>vK x lo hi)))
theorem wrap_small{z:Int}(h0:-(2^62)<=z)(h1:z<2^62):i64.wrap z=z:=by
 simp only[IntKind.wrap,IntKind.bits,IntKind.signed];rcases Int.lt_or_le z 0 with h|h
 .have:z%(2^64:Int)=z+2^64:=by
   have:=acf z (2^64) 1;rw[acX]at this;rw[<-this];exact a8w (by omega) (by omega)
  simp only[this];rw[a0h (by simp;omega)];omega
 have:z%(2^64:Int)=z:=a8w h (by omega);simp only[this];rw[a0g (by simp;omega)]
def kY(k:Int)(least:Int)(ah:Int):Bool:=
 if(decide ((k)>=(least)))=true then decide ((k)<=(ah))else false
def fB(k:Int):V:=
 (⟨0,k⟩:V)
def kZ(f:Int):V:=
 (⟨f,0⟩:V)
def qU(is:Bool):V:=
 if is=true then fB 1 else fB 0
def pF(k:Int):V:=
 if(decide ((k)<(-9999)))=true then kZ 2 else if(decide ((k)>9999))=true then kZ 2 else fB k
def IV(a:V)(b:V)(c:V):V:=
 if(decide ((a.f)>0))=true then a else if((a.n)==0)=true then c else b
def gu(a b:Int):Int:=if b<0 then(-a)/(-b)else a/b
def bH(code:Int)(a:V)(b:V):V:=
 if(decide ((a.f)>0))=true then a else if((code)==15)=true then if((a.n)==0)=true then a else if((code)==16)=true then if((a.n) != 0)=true then fB 1 else b else b else if((code)==16)=true then if((a.n) != 0)=true then fB 1 else b else if(decide ((b.f)>0))=true then b else if((code)==7)=true then pF (i64.wrap ((a.n)+(b.n)))else if((code)==8)=true then pF (i64.wrap ((a.n)-(b.n)))else if((code)==9)=true then pF (i64.wrap ((a.n)*(b.n)))else if((code)==12)=true then qU ((a.n)==(b.n))else if((code)==13)=true then qU (decide ((a.n)<(b.n)))else if((code)==14)=true then qU (decide ((a.n)<=(b.n)))else if((b.n)==0)=true then kZ 1 else if((code)==10)=true then fB (gu (a.n) (b.n))else fB (i64.wrap ((a.n)-(i64.wrap ((b.n)*(gu (a.n) (b.n))))))
def ji(g:V->Bool)(i:Nat)(x:V)(s:Unit):(Unit)⊕(Nat×V×(Unit)):=
 if(g x)=true then .inr (i,x,s)else .inl ()
def iE(g:V->Bool)(l:List V):Int:=
 if(jK (lS (ji g) l 0 ()))=true then -1 else(((CW (0,V0,()) (lS (ji g) l 0 ())).1:Int))
def pG(g:V->Bool)(l:List V):Bool:=
 decide ((iE g l)>=0)
theorem a6c(g:V->Bool):∀(l:List V) (i:Nat),jK (lS (ji g) l i ())=!(l.any g)
 | [],i=>rfl
 |x::l,i=>by
  simp only[lS,ji,ado];cases g x with
  |true=>rfl
  |false=>simpa using a6c g l (i+1)
theorem IW(g:V->Bool)(l:List V):pG g l=l.any g:=by
 have:=a6c g l 0;unfold pG iE;rw[this];cases l.any g with
 |true=>simp
 |false=>simp
theorem RX(g:V->Bool):∀(l:List V) (i:Nat),jK (lS (ji g) l i ())=false->(CW (0,V0,()) (lS (ji g) l i ())).1<i+l.length∧l[(CW (0,V0,()) (lS (ji g) l i ())).1-i]? = l.find? g∧i<=(CW (0,V0,()) (lS (ji g) l i ())).1
 | [],i,h=>by cases h
 |x::l,i,h=>by
  simp only[lS,ji]at h ⊢;by_cases hx:g x=true
  .simp only[hx,a2d,CW,a3V,agE];refine⟨by omega,by simp,by omega⟩
  simp only[adY]at hx;simp only[hx,a2c,a2Y,a3V,agE]at h ⊢;obtain⟨h1,h2,h3⟩:=RX g l (i+1) h;refine⟨by omega,?_,by omega⟩;rw[<-h2,show(CW (0,V0,()) (lS (ji g) l (i+1) ())).1-i=((CW (0,V0,()) (lS (ji g) l (i+1) ())).1-(i+1))+1 by omega];simp
theorem Ql(g:V->Bool)(l:List V):iE g l<l.length:=by
 unfold iE;split
 .omega
 rename_i h;have:=(RX g l 0 (by simpa using h)).1;omega
def UA(x:Int):Bool:=
 (x) != (x)
def IX(x:Int)(y:Int):Int:=
 if(decide ((x)<(y)))=true then -1 else if(decide ((x)>(y)))=true then 1 else 0
def H7(f:Int):V:=
 (⟨f,0⟩:V)
def wC(x:Int)(lo:Int)(hi:Int):Bool:=
 if(decide ((x)<(lo)))=true then true else decide ((x)>(hi))
def zl(l:List Int)(lo:Int)(hi:Int):Bool:=
 !(l.any ((fun x=>wC x lo hi)))
def CY(v:V):Bool:=
 if((v.f)==0)=true then zl (([v.n]:List Int)) (-9999) 9999 else if(decide ((v.f)<=4))=true then(v.n)==0 else false
def o9(k:Int):V:=
 if(!(zl (([k]:List Int)) (-9999) 9999))=true then H7 2 else(⟨0,k⟩:V)
def Om(is:Bool):V:=
 if is=true then o9 1 else o9 0
def nM(v:V):Bool:=
 (v.f) != 0
def Aj(v:V):Bool:=
 !(CY v)
def bP(l:List V):V×Bool:=
 if(decide ((iE ((fun v=>nM v)) l)<0))=true then((⟨0,0⟩:V),false)else((l.getD (iE ((fun v=>nM v)) l).toNat V0),true)
def gZ(l:List V):Bool:=
 !(l.any ((fun v=>Aj v)))
def jy(a:V)(b:V)(c:V):V×Int:=
 if(!(gZ (([a,b,c]:List V))))=true then((⟨0,0⟩:V),2)else if((a.f) != 0)=true then(a,0)else if((a.n)==0)=true then(c,0)else(b,0)
def IY(a:Int)(b:Int):V:=
 o9 (i64.wrap ((a)+(b)))
def IZ(a:Int)(b:Int):V:=
 o9 (i64.wrap ((a)-(b)))
def J3(a:Int)(b:Int):V:=
 o9 (i64.wrap ((a)*(b)))
def CZ(a:Int)(b:Int):Int:=
 a
def D5(a:Int)(b:Int):Int:=
 b
def D6(a:Int):Bool:=
 (a)==0
def D7(a:Int):Bool:=
 decide ((a)<0)
def D8(a:Int):Bool:=
 decide ((a)<=0)
def uq(a:Int)(b:Int):Int×Int:=
 if((NW .i64 (a) (b)) != 0)=true then if((decide ((NW .i64 (a) (b))<0)) != (decide ((b)<0)))=true then(i64.wrap ((Ue .i64 (a) (b))-1),i64.wrap ((NW .i64 (a) (b))+(b)))else(Ue .i64 (a) (b),NW .i64 (a) (b))else(Ue .i64 (a) (b),NW .i64 (a) (b))
def iF(g:Int->Int->Int)(a:Int)(b:Int):V:=
 if((b)==0)=true then H7 1 else o9 (g ((uq a b).1) ((uq a b).2))
def dQ(g:Int->Bool)(a:Int)(b:Int):V:=
 Om (g (IX a b))
def qV(a:V)(b:V):V×Int:=
 if(!(gZ (([a,b]:List V))))=true then((⟨0,0⟩:V),2)else if((bP (([a,b]:List V))).2)=true then((bP (([a,b]:List V))).1,0)else(IY a.n b.n,0)
def qW(a:V)(b:V):V×Int:=
 if(!(gZ (([a,b]:List V))))=true then((⟨0,0⟩:V),2)else if((bP (([a,b]:List V))).2)=true then((bP (([a,b]:List V))).1,0)else(IZ a.n b.n,0)
def qX(a:V)(b:V):V×Int:=
 if(!(gZ (([a,b]:List V))))=true then((⟨0,0⟩:V),2)else if((bP (([a,b]:List V))).2)=true then((bP (([a,b]:List V))).1,0)else(J3 a.n b.n,0)
def og(a:V)(b:V):V×Int:=
 if(!(gZ (([a,b]:List V))))=true then((⟨0,0⟩:V),2)else if((bP (([a,b]:List V))).2)=true then((bP (([a,b]:List V))).1,0)else(iF CZ (a.n) (b.n),0)
def oh(a:V)(b:V):V×Int:=
 if(!(gZ (([a,b]:List V))))=true then((⟨0,0⟩:V),2)else if((bP (([a,b]:List V))).2)=true then((bP (([a,b]:List V))).1,0)else(iF D5 (a.n) (b.n),0)
def oq(a:V)(b:V):V×Int:=
 if(!(gZ (([a,b]:List V))))=true then((⟨0,0⟩:V),2)else if((bP (([a,b]:List V))).2)=true then((bP (([a,b]:List V))).1,0)else(dQ D6 (a.n) (b.n),0)
def oz(a:V)(b:V):V×Int:=
 if(!(gZ (([a,b]:List V))))=true then((⟨0,0⟩:V),2)else if((bP (([a,b]:List V))).2)=true then((bP (([a,b]:List V))).1,0)else(dQ D7 (a.n) (b.n),0)
def oC(a:V)(b:V):V×Int:=
 if(!(gZ (([a,b]:List V))))=true then((⟨0,0⟩:V),2)else if((bP (([a,b]:List V))).2)=true then((bP (([a,b]:List V))).1,0)else(dQ D8 (a.n) (b.n),0)
def sQ(a:V)(b:V):V×Int:=
 ((jy a b (o9 0)).1,(jy a b (o9 0)).2)
def sS(a:V)(b:V):V×Int:=
 ((jy a (o9 1) b).1,(jy a (o9 1) b).2)
def gG(code:Int)(a b:V):V:=
 if code=7 then(qV a b).1 else if code=8 then(qW a b).1 else if code=9 then(qX a b).1 else if code=10 then(og a b).1 else if code=11 then(oh a b).1 else if code=12 then(oq a b).1 else if code=13 then(oz a b).1 else if code=14 then(oC a b).1 else if code=15 then(sQ a b).1 else(sS a b).1
def H8(code:Int)(a b:V):V×Int:=if code=7 then qV a b else if code=8 then qW a b else if code=9 then qX a b else if code=10 then og a b else if code=11 then oh a b else if code=12 then oq a b else if code=13 then oz a b else if code=14 then oC a b else if code=15 then sQ a b else sS a b
theorem nine{p:Int}(h:7<=p∧p<=16):p=7∨p=8∨p=9∨p=10∨p=11∨p=12∨p=13∨p=14∨p=15∨p=16:=by omega
structure kF(v:V):Prop where
 f0:0<=v.f
 f1:v.f<=4
 n:v.f=0->-9999<=v.n∧v.n<=9999
 z:v.f≠0->v.n=0
theorem X5(k:Int):zl [k] (-9999) 9999=(decide (-9999<=k)&&decide (k<=9999)):=by
 simp only[zl,wC,ado,List.any_nil,Bool.or_false];by_cases h:k < -9999
 .simp[h];omega
 by_cases h2:k>9999<;>simp[h,h2]<;>omega
theorem uw{v:V}(h:kF v):CY v=true:=by
 obtain⟨f,n⟩:=v;have h0:=h.f0;have h1:=h.f1;have h2:=h.n;have h3:=h.z;simp only at h0 h1 h2 h3;unfold CY;simp only[X5,a88];by_cases hf:f=0
 .subst hf;simp;exact h2 rfl
 simp[hf,h1,h3 hf]
theorem ao8{a b:V}(ha:kF a)(hb:kF b):(!(gZ [a,b]))=false:=by simp[gZ,Aj,uw ha,uw hb]
theorem a6d{a b c:V}(ha:kF a)(hb:kF b)(hc:kF c):(!(gZ [a,b,c]))=false:=by simp[gZ,Aj,uw ha,uw hb,uw hc]
theorem aev(a b:V):bP [a,b]=if a.f≠0 then(a,true)else if b.f≠0 then(b,true)else(⟨0,0⟩,false):=by
 by_cases h:a.f=0
 .by_cases h2:b.f=0
  .simp[bP,iE,lS,ji,nM,jK,CW,h,h2]
  simp[bP,iE,lS,ji,nM,jK,CW,h,h2]
 simp[bP,iE,lS,ji,nM,jK,CW,h]
theorem vw(k:Int):o9 k=pF k:=by
 unfold o9 pF H7 kZ fB;rw[X5];by_cases h:k < -9999
 .rw[a0h (by simp;omega),a0h (by simpa using h)]
 rw[a0g (c:=decide (k < -9999)=true) (by simpa using h)];by_cases h2:k>9999
 .rw[a0h (by simp;omega),a0h (by simpa using h2)]
 rw[a0g (by simp;omega),a0g (by simpa using h2)]
theorem sU(k:Int):kF (pF k):=by
 unfold pF kZ fB;split
 .exact⟨by decide,by decide,by simp,by simp⟩
 split
 .exact⟨by decide,by decide,by simp,by simp⟩
 rename_i h1 h2;simp at h1 h2;exact⟨by simp,by simp,fun _=>by simp only;omega,by simp⟩
theorem a2K(b:Bool):Om b=qU b:=by cases b<;>rfl
theorem J4(b:Bool):kF (qU b):=by cases b<;>exact⟨by decide,by decide,fun _=>by decide,by decide⟩
theorem a2L{a b:Int}(hb:b≠0):a.tmod b=0∨True->(gu a b=(if a.tmod b≠0∧(decide (a.tmod b<0) != decide (b<0))=true then a.tdiv b-1 else a.tdiv b))∧a-b*gu a b=(if a.tmod b≠0∧(decide (a.tmod b<0) != decide (b<0))=true then a.tmod b+b else a.tmod b)∧(a-b*gu a b).natAbs<b.natAbs:=by
 intro _;have hq:=@Int.tdiv_eq_ediv a b;have hr:=@Int.tmod_eq_emod a b;have hm:=Int.mul_ediv_add_emod a b;have h0:=agF a hb;have h1:=Int.emod_lt a hb;have hd:b ∣ a↔a%b=0:=⟨Int.emod_eq_zero_of_dvd,Int.dvd_of_emod_eq_zero⟩;generalize a.tdiv b=T at *;generalize a.tmod b=R at *;generalize hE:a/b=e at *;generalize hM:a%b=m at *;unfold gu;have cT:0<=a∨b ∣ a->T=e∧R=m:=fun h=>by rw[a0h h]at hq hr;omega
 rcases Int.lt_or_gt_of_ne hb with zJ|zJ
 .rw[a0h zJ];have hsg:b.sign=-1:=Int.sign_eq_neg_one_of_neg zJ;have hna:(b.natAbs:Int)=-b:=by omega
  have cF:¬(0<=a∨b ∣ a)->T=e-1∧R=m+b:=fun h=>by rw[a0g h]at hq hr;omega
  rw[hna]at h1;by_cases QE:m=0
  .have u:=(Int.ediv_emod_unique (a:=-a) (b:=-b) (r:=0) (q:=e) (by omega)).2 ⟨by rw[Int.neg_mul];omega,by omega,by omega⟩;rw[u.1];obtain⟨c1,c2⟩:=cT (.inr (hd.2 QE));subst c1;subst c2;rw[a0g (by simp[QE]),a0g (by simp[QE])];omega
  have je:¬b ∣ a:=fun h=>QE (hd.1 h);have e1:b*(e-1)=b*e-b:=by rw[Int.mul_sub,acX]
  have u:=(Int.ediv_emod_unique (a:=-a) (b:=-b) (r:=-b-m) (q:=e-1) (by omega)).2 ⟨by rw[Int.neg_mul,e1];omega,by omega,by omega⟩;rw[u.1,e1];by_cases ha:0<=a
  .obtain⟨c1,c2⟩:=cT (.inl ha);subst c1;subst c2;have hc:(R≠0∧(decide (R<0) != decide (b<0))=true):=⟨QE,by simp[zJ];omega⟩;rw[a0h hc,a0h hc];omega
  obtain⟨c1,c2⟩:=cF (by simp[ha,je]);have hc:¬(R≠0∧(decide (R<0) != decide (b<0))=true):=fun h=>by
   have:=h.2;simp[zJ]at this;omega
  rw[a0g hc,a0g hc];omega
 rw[a0g (by omega),hE];have hsg:b.sign=1:=Int.sign_eq_one_of_pos zJ;have hna:(b.natAbs:Int)=b:=by omega
 have cF:¬(0<=a∨b ∣ a)->T=e+1∧R=m-b:=fun h=>by rw[a0g h]at hq hr;omega
 rw[hna]at h1;by_cases hc0:0<=a∨b ∣ a
 .obtain⟨c1,c2⟩:=cT hc0;have hc:¬(R≠0∧(decide (R<0) != decide (b<0))=true):=fun h=>by
   have:=h.2;simp at this;omega
  rw[a0g hc,a0g hc];omega
 obtain⟨c1,c2⟩:=cF hc0;have QE:m≠0:=fun h=>hc0 (.inr (hd.2 h));have hc:(R≠0∧(decide (R<0) != decide (b<0))=true):=⟨by omega,by simp;omega⟩;rw[a0h hc,a0h hc];omega
theorem wr{z:Int}(h1:-1000000000<=z)(h2:z<=1000000000):i64.wrap z=z:=wrap_small (by omega) (by omega)
theorem X6{a b:Int}(a0:-9999<=a)(a1:a<=9999)(b0:-9999<=b)(b1:b<=9999)(hb:b≠0):uq a b=(gu a b,a-b*gu a b)∧(-9999<=gu a b∧gu a b<=9999)∧(-9999<=a-b*gu a b∧a-b*gu a b<=9999)∧i64.wrap (a-i64.wrap (b*gu a b))=a-b*gu a b:=by
 obtain⟨h1,h2,h3⟩:=a2L (a:=a) hb (.inr trivial);have hna:(a.tdiv b).natAbs<=a.natAbs:=by rw[Int.natAbs_tdiv];exact Nat.div_le_self _ _
 have hq:Ue .i64 a b=a.tdiv b:=wr (by omega) (by omega);have hp:(b*gu a b).natAbs=b.natAbs*(gu a b).natAbs:=Int.natAbs_mul _ _;have hQ:(gu a b).natAbs<=9999:=by
  rcases a4a 9999 (gu a b).natAbs with h|h
  .have:=Nat.mul_le_mul_left b.natAbs (show 10000<=(gu a b).natAbs from h);generalize b*gu a b=p at *;generalize b.natAbs*(gu a b).natAbs=r at *;omega
  exact h
 refine⟨?_,by omega,by generalize b*gu a b=p at *;omega,?_⟩
 .unfold uq NW;rw[hq];have hw1:i64.wrap (a.tdiv b-1)=a.tdiv b-1:=wr (by omega) (by omega);have hrb:(a.tmod b).natAbs<=9999:=by rw[Int.natAbs_tmod];exact a4A (Nat.mod_le _ _) (by omega)
  have hw2:i64.wrap (a.tmod b+b)=a.tmod b+b:=wr (by omega) (by omega);rw[h2,h1,hw1,hw2];by_cases c1:a.tmod b=0
  .rw[a0g (by simp[c1]),a0g (by simp[c1]),a0g (by simp[c1])]
  rw[a0h (by simpa using c1)];by_cases c2:(decide (a.tmod b<0) != decide (b<0))=true
  .rw[a0h c2,a0h ⟨c1,c2⟩,a0h ⟨c1,c2⟩]
  rw[a0g c2,a0g (fun h=>c2 h.2),a0g (fun h=>c2 h.2)]
 rw[wr (z:=b*gu a b) (by generalize b*gu a b=p at *;omega) (by generalize b*gu a b=p at *;omega)];exact wr (by generalize b*gu a b=p at *;omega) (by generalize b*gu a b=p at *;omega)
theorem X7{k:Int}(h1:-9999<=k)(h2:k<=9999):pF k=fB k:=by
 unfold pF;rw[a0g (by simp;omega),a0g (by simp;omega)]
theorem jq{g:Int->Int->V}{a b:V}(ha:kF a)(hb:kF b):(if(!(gZ [a,b]))=true then((⟨0,0⟩:V),(2:Int))else if(bP [a,b]).2=true then((bP [a,b]).1,0)else(g a.n b.n,0)).1=if a.f≠0 then a else if b.f≠0 then b else g a.n b.n:=by
 rw[ao8 ha hb,aev];by_cases h:a.f=0
 .by_cases h2:b.f=0<;>simp[h,h2]
 simp[h]
theorem Ak{a:V}(ha:kF a)(h:a.f≠0):decide (a.f>0)=true:=by have:=ha.f0;simp;omega
theorem Oo{k:Int}(h1:-9999<=k)(h2:k<=9999):kF (fB k):=⟨by simp[fB],by simp[fB],fun _=>⟨h1,h2⟩,fun h=>by simp[fB]at h⟩
theorem div_eq{a b:V}(ha:kF a)(hb:kF b)(h:a.f=0)(h2:b.f=0):iF CZ a.n b.n=(if(b.n==0)=true then kZ 1 else fB (gu a.n b.n))∧kF (if(b.n==0)=true then kZ 1 else fB (gu a.n b.n)):=by
 have a9:=ha.n h;have b9:=hb.n h2;unfold iF CZ;by_cases hz:b.n=0
 .rw[a0h (by simpa using hz),a0h (by simpa using hz)];exact⟨rfl,⟨by decide,by decide,by decide,by decide⟩⟩
 obtain⟨q1,q2,_,_⟩:=X6 a9.1 a9.2 b9.1 b9.2 hz;rw[a0g (by simpa using hz),a0g (by simpa using hz),q1,vw,X7 q2.1 q2.2];exact⟨rfl,Oo q2.1 q2.2⟩
theorem mod_eq{a b:V}(ha:kF a)(hb:kF b)(h:a.f=0)(h2:b.f=0):iF D5 a.n b.n=(if(b.n==0)=true then kZ 1 else fB (i64.wrap (a.n-i64.wrap (b.n*gu a.n b.n))))∧kF (if(b.n==0)=true then kZ 1 else fB (i64.wrap (a.n-i64.wrap (b.n*gu a.n b.n)))):=by
 have a9:=ha.n h;have b9:=hb.n h2;unfold iF D5;by_cases hz:b.n=0
 .rw[a0h (by simpa using hz),a0h (by simpa using hz)];exact⟨rfl,⟨by decide,by decide,by decide,by decide⟩⟩
 obtain⟨q1,_,q3,q4⟩:=X6 a9.1 a9.2 b9.1 b9.2 hz;rw[a0g (by simpa using hz),a0g (by simpa using hz),q1,vw,q4,X7 q3.1 q3.2];exact⟨rfl,Oo q3.1 q3.2⟩
theorem aew(a b:Int):dQ D6 a b=qU (a==b)∧dQ D7 a b=qU (decide (a<b))∧dQ D8 a b=qU (decide (a<=b)):=by
 unfold dQ D6 D7 D8 IX;simp only[a2K];rcases Int.lt_trichotomy a b with h|h|h
 .have:(a==b)=false:=by simp;omega
  simp[h,this,agq h]
 .subst h;simp
 have h1:¬a<b:=by omega
 have h2:(a==b)=false:=by simp;omega
 have h3:¬a<=b:=by omega
 simp[h,h1,h2,h3]
theorem aex{k:Int}(h7:7<=k∧k<=16){a b:V}(ha:kF a)(hb:kF b):gG k a b=bH k a b∧kF (bH k a b):=by
 have e15:a.f=0->gG 15 a b=bH 15 a b∧kF (bH 15 a b):=fun h=>by
  rw[show gG 15 a b=(sQ a b).1 from rfl,show bH 15 a b=(if(a.n==0)=true then a else b) by simp[bH,h]];unfold sQ jy;rw[a6d ha hb (vw 0▸sU 0)];by_cases hz:a.n=0
  .have:a=⟨0,0⟩:=by obtain⟨f,n⟩:=a;simp only at h hz;rw[h,hz]
   subst this;exact⟨rfl,ha⟩
  simp[h,hz];exact hb
 have e16:a.f=0->gG 16 a b=bH 16 a b∧kF (bH 16 a b):=fun h=>by
  rw[show gG 16 a b=(sS a b).1 from rfl,show bH 16 a b=(if(a.n != 0)=true then fB 1 else b) by simp[bH,h]];unfold sS jy;rw[a6d ha (vw 1▸sU 1) hb];by_cases hz:a.n=0
  .simp[h,hz];exact hb
  simp[h,hz];exact⟨rfl,Oo (by decide) (by decide)⟩
 by_cases h:a.f=0
 .by_cases h2:b.f=0
  .have d:=div_eq ha hb h h2;have m:=mod_eq ha hb h h2;have c:=aew a.n b.n;rcases nine h7 with rfl|rfl|rfl|rfl|rfl|rfl|rfl|rfl|rfl|rfl
   .rw[show gG 7 a b=(qV a b).1 from rfl,show bH 7 a b=pF (i64.wrap (a.n+b.n)) by simp[bH,h,h2]];unfold qV;rw[jq (g:=fun x y=>IY x y) ha hb];simp only[h,h2,ne_eq,a8t,a2Y,IY,vw];exact⟨trivial,sU _⟩
   .rw[show gG 8 a b=(qW a b).1 from rfl,show bH 8 a b=pF (i64.wrap (a.n-b.n)) by simp[bH,h,h2]];unfold qW;rw[jq (g:=fun x y=>IZ x y) ha hb];simp only[h,h2,ne_eq,a8t,a2Y,IZ,vw];exact⟨trivial,sU _⟩
   .rw[show gG 9 a b=(qX a b).1 from rfl,show bH 9 a b=pF (i64.wrap (a.n*b.n)) by simp[bH,h,h2]];unfold qX;rw[jq (g:=fun x y=>J3 x y) ha hb];simp only[h,h2,ne_eq,a8t,a2Y,J3,vw];exact⟨trivial,sU _⟩
   .rw[show gG 10 a b=(og a b).1 from rfl,show bH 10 a b=(if(b.n==0)=true then kZ 1 else fB (gu a.n b.n)) by simp[bH,h,h2]];unfold og;rw[jq (g:=fun x y=>iF CZ x y) ha hb];simp only[h,h2,ne_eq,a8t,a2Y];exact d
   .rw[show gG 11 a b=(oh a b).1 from rfl,show bH 11 a b=(if(b.n==0)=true then kZ 1 else fB (i64.wrap (a.n-i64.wrap (b.n*gu a.n b.n)))) by simp[bH,h,h2]];unfold oh;rw[jq (g:=fun x y=>iF D5 x y) ha hb];simp only[h,h2,ne_eq,a8t,a2Y];exact m
   .rw[show gG 12 a b=(oq a b).1 from rfl,show bH 12 a b=qU (a.n==b.n) by simp[bH,h,h2]];unfold oq;rw[jq (g:=fun x y=>dQ D6 x y) ha hb];simp only[h,h2,ne_eq,a8t,a2Y];exact⟨c.1,J4 _⟩
   .rw[show gG 13 a b=(oz a b).1 from rfl,show bH 13 a b=qU (decide (a.n<b.n)) by simp[bH,h,h2]];unfold oz;rw[jq (g:=fun x y=>dQ D7 x y) ha hb];simp only[h,h2,ne_eq,a8t,a2Y];exact⟨c.2.1,J4 _⟩
   .rw[show gG 14 a b=(oC a b).1 from rfl,show bH 14 a b=qU (decide (a.n<=b.n)) by simp[bH,h,h2]];unfold oC;rw[jq (g:=fun x y=>dQ D8 x y) ha hb];simp only[h,h2,ne_eq,a8t,a2Y];exact⟨c.2.2,J4 _⟩
   .exact e15 h
   exact e16 h
  rcases nine h7 with rfl|rfl|rfl|rfl|rfl|rfl|rfl|rfl|rfl|rfl
  .rw[show gG 7 a b=(qV a b).1 from rfl,show bH 7 a b=b by simp[bH,h,Ak hb h2]];unfold qV;rw[jq (g:=fun x y=>IY x y) ha hb];simp only[h,h2,ne_eq,a8t,a5H,a2Y,a2d];exact⟨trivial,hb⟩
  .rw[show gG 8 a b=(qW a b).1 from rfl,show bH 8 a b=b by simp[bH,h,Ak hb h2]];unfold qW;rw[jq (g:=fun x y=>IZ x y) ha hb];simp only[h,h2,ne_eq,a8t,a5H,a2Y,a2d];exact⟨trivial,hb⟩
  .rw[show gG 9 a b=(qX a b).1 from rfl,show bH 9 a b=b by simp[bH,h,Ak hb h2]];unfold qX;rw[jq (g:=fun x y=>J3 x y) ha hb];simp only[h,h2,ne_eq,a8t,a5H,a2Y,a2d];exact⟨trivial,hb⟩
  .rw[show gG 10 a b=(og a b).1 from rfl,show bH 10 a b=b by simp[bH,h,Ak hb h2]];unfold og;rw[jq (g:=fun x y=>iF CZ x y) ha hb];simp only[h,h2,ne_eq,a8t,a5H,a2Y,a2d];exact⟨trivial,hb⟩
  .rw[show gG 11 a b=(oh a b).1 from rfl,show bH 11 a b=b by simp[bH,h,Ak hb h2]];unfold oh;rw[jq (g:=fun x y=>iF D5 x y) ha hb];simp only[h,h2,ne_eq,a8t,a5H,a2Y,a2d];exact⟨trivial,hb⟩
  .rw[show gG 12 a b=(oq a b).1 from rfl,show bH 12 a b=b by simp[bH,h,Ak hb h2]];unfold oq;rw[jq (g:=fun x y=>dQ D6 x y) ha hb];simp only[h,h2,ne_eq,a8t,a5H,a2Y,a2d];exact⟨trivial,hb⟩
  .rw[show gG 13 a b=(oz a b).1 from rfl,show bH 13 a b=b by simp[bH,h,Ak hb h2]];unfold oz;rw[jq (g:=fun x y=>dQ D7 x y) ha hb];simp only[h,h2,ne_eq,a8t,a5H,a2Y,a2d];exact⟨trivial,hb⟩
  .rw[show gG 14 a b=(oC a b).1 from rfl,show bH 14 a b=b by simp[bH,h,Ak hb h2]];unfold oC;rw[jq (g:=fun x y=>dQ D8 x y) ha hb];simp only[h,h2,ne_eq,a8t,a5H,a2Y,a2d];exact⟨trivial,hb⟩
  .exact e15 h
  exact e16 h
 rcases nine h7 with rfl|rfl|rfl|rfl|rfl|rfl|rfl|rfl|rfl|rfl
 .rw[show gG 7 a b=(qV a b).1 from rfl,show bH 7 a b=a by simp[bH,Ak ha h]];unfold qV;rw[jq (g:=fun x y=>IY x y) ha hb];simp only[h,ne_eq,a8t,a5H,a2d];exact⟨trivial,ha⟩
 .rw[show gG 8 a b=(qW a b).1 from rfl,show bH 8 a b=a by simp[bH,Ak ha h]];unfold qW;rw[jq (g:=fun x y=>IZ x y) ha hb];simp only[h,ne_eq,a8t,a5H,a2d];exact⟨trivial,ha⟩
 .rw[show gG 9 a b=(qX a b).1 from rfl,show bH 9 a b=a by simp[bH,Ak ha h]];unfold qX;rw[jq (g:=fun x y=>J3 x y) ha hb];simp only[h,ne_eq,a8t,a5H,a2d];exact⟨trivial,ha⟩
 .rw[show gG 10 a b=(og a b).1 from rfl,show bH 10 a b=a by simp[bH,Ak ha h]];unfold og;rw[jq (g:=fun x y=>iF CZ x y) ha hb];simp only[h,ne_eq,a8t,a5H,a2d];exact⟨trivial,ha⟩
 .rw[show gG 11 a b=(oh a b).1 from rfl,show bH 11 a b=a by simp[bH,Ak ha h]];unfold oh;rw[jq (g:=fun x y=>iF D5 x y) ha hb];simp only[h,ne_eq,a8t,a5H,a2d];exact⟨trivial,ha⟩
 .rw[show gG 12 a b=(oq a b).1 from rfl,show bH 12 a b=a by simp[bH,Ak ha h]];unfold oq;rw[jq (g:=fun x y=>dQ D6 x y) ha hb];simp only[h,ne_eq,a8t,a5H,a2d];exact⟨trivial,ha⟩
 .rw[show gG 13 a b=(oz a b).1 from rfl,show bH 13 a b=a by simp[bH,Ak ha h]];unfold oz;rw[jq (g:=fun x y=>dQ D7 x y) ha hb];simp only[h,ne_eq,a8t,a5H,a2d];exact⟨trivial,ha⟩
 .rw[show gG 14 a b=(oC a b).1 from rfl,show bH 14 a b=a by simp[bH,Ak ha h]];unfold oC;rw[jq (g:=fun x y=>dQ D8 x y) ha hb];simp only[h,ne_eq,a8t,a5H,a2d];exact⟨trivial,ha⟩
 .rw[show gG 15 a b=(sQ a b).1 from rfl,show bH 15 a b=a by simp[bH,Ak ha h]];unfold sQ jy;rw[a6d ha hb (vw 0▸sU 0)];simp[h];exact ha
 rw[show gG 16 a b=(sS a b).1 from rfl,show bH 16 a b=a by simp[bH,Ak ha h]];unfold sS jy;rw[a6d ha (vw 1▸sU 1) hb];simp[h];exact ha
theorem a2M{a b c:V}(ha:kF a)(hb:kF b)(hc:kF c):(jy a b c).1=IV a b c∧kF (IV a b c):=by
 unfold jy IV;rw[a6d ha hb hc];by_cases h:a.f=0
 .by_cases hz:a.n=0
  .simp[h,hz];exact hc
  simp[h,hz];exact hb
 have:=Ak ha h;simp only[a1X]at this;simp[h,this];exact ha
end Go.Proofs.YtmobpoiejckagaaGreat
namespace Pv
open Go Tw
def jX{σ ρ:Type}(g:Nat->σ->σ⊕ρ):Nat->Nat->σ->σ⊕ρ
 | 0,_,s=>.inl s
 |m+1,k,s=>match g k s with
  |.inl s'=>jX g m (k+1) s'
  |.inr r=>.inr r
def aT{σ:Type}(g:Nat->σ->σ):Nat->Nat->σ->σ
 | 0,_,s=>s
 |m+1,k,s=>aT g m (k+1) (g k s)
theorem RY{σ ρ:Type}{g:Nat->σ->σ}:∀(m k:Nat) (s:σ),jX (ρ:=ρ) (fun k s=>.inl (g k s)) m k s=.inl (aT g m k s)
 | 0,_,_=>rfl
 |m+1,k,s=>RY m (k+1) (g k s)
theorem sV{σ:Type}{g:Nat->σ->σ}:∀(m k:Nat) (s:σ),aT g (m+1) k s=g (k+m) (aT g m k s)
 | 0,_,_=>rfl
 |m+1,k,s=>by
  rw[aT,sV m (k+1),show k+1+m=k+(m+1) by omega];rfl
theorem dO{σ:Type}{g:Nat->σ->σ}(Q:Nat->σ->Prop){m k:Nat}{s:σ}(h0:Q k s)(hs:∀j s,k<=j->j<k+m->Q j s->Q (j+1) (g j s)):Q (k+m) (aT g m k s):=by
 induction m with
 |zero=>exact h0
 |succ m ih=>rw[sV];exact hs (k+m) _ (by omega) (by omega) (ih fun j s h1 h2 h3=>hs j s h1 (by omega) h3)
theorem H9{c:Nat->Bool}{ρ:Type}{r:Nat->ρ}:∀(m k:Nat),jK (jX (σ:=Unit) (fun k _=>if c k=true then .inr (r k)else .inl ()) m k ())=true↔∀j,k<=j->j<k+m->c j=false
 | 0,k=>by simp[jX,jK];omega
 |m+1,k=>by
  simp only[jX];by_cases hc:c k=true
  .simp only[hc,a2d,jK,a2c,false_iff];intro h;have:=h k (a15 _) (by omega);rw[hc]at this;cases this
  simp only[hc,a2c,a2Y];rw[H9 m (k+1)];constructor
  .intro h j h1 h2;rcases a4a k j with h3|h3
   .exact h j h3 (by omega)
   rw[show j=k by omega];simpa using hc
  intro h j h1 h2;exact h j (by omega) (by omega)
theorem X8{c:Nat->Bool}{ρ:Type}{r:Nat->ρ}{m k:Nat}(h:jK (jX (σ:=Unit) (fun k _=>if c k=true then .inr (r k)else .inl ()) m k ())=false):∃j,k<=j∧j<k+m∧c j=true∧(∀i,k<=i->i<j->c i=false)∧jX (σ:=Unit) (fun k _=>if c k=true then .inr (r k)else .inl ()) m k ()=.inr (r j):=by
 induction m generalizing k with
 |zero=>simp[jX,jK]at h
 |succ m ih=>
  simp only[jX]at h ⊢;by_cases hc:c k=true
  .simp only[hc,a2d];exact⟨k,a15 _,by omega,hc,fun i h1 h2=>by omega,rfl⟩
  simp only[hc,a2c,a2Y]at h ⊢;obtain⟨j,h1,h2,h3,h4,h5⟩:=ih h;exact⟨j,by omega,by omega,h3,fun i hi1 JE=>by
   rcases a4a k i with h6|h6
   .exact h4 i h6 JE
   rw[show i=k by omega];simpa using hc,h5⟩
abbrev gS(c:Nat->Bool)(k:Nat)(_:Unit):Unit⊕Nat:=if c k=true then .inr k else .inl ()
abbrev bF(c:Nat->Bool)(N:Nat):Unit⊕Nat:=jX (gS c) N 0 ()
theorem dI{c:Nat->Bool}{N:Nat}:jK (bF c N)=true↔∀j,j<N->c j=false:=by
 unfold bF gS;rw[H9 (r:=fun k=>k)];exact⟨fun h j hj=>h j (by omega) (by omega),fun h j _ hj=>h j (by omega)⟩
theorem DY{c:Nat->Bool}{N:Nat}(h:jK (bF c N)=false):∃j,j<N∧c j=true∧(∀i,i<j->c i=false)∧bF c N=.inr j:=by
 obtain⟨j,_,h2,h3,h4,h5⟩:=X8 (r:=fun k=>k) h;exact⟨j,by omega,h3,fun i hi=>h4 i (by omega) hi,h5⟩
abbrev RZ(c:Nat->Bool)(a N:Nat):Unit⊕Nat:=jX (gS c) (N-a) a ()
def Oq{σ:Type}(g:Nat->σ->σ):Nat->σ->σ
 | 0,s=>s
 |k+1,s=>Oq g k (g k s)
theorem S9{σ:Type}{g:Nat->σ->σ}(Q:Nat->σ->Prop):∀{k:Nat} {s:σ},Q k s->(∀j s,j<k->Q (j+1) s->Q j (g j s))->Q 0 (Oq g k s)
 | 0,_,h,_=>h
 |k+1,s,h,hs=>S9 Q (k:=k) (hs k s (by omega) h) fun j s h1 h2=>hs j s (by omega) h2
theorem Ot{α:Type}{l:List α}{d:α}{p:α->Prop}:(∀j,j<l.length->p (l.getD j d))↔∀a∈l,p a:=by
 constructor
 .intro h a ha;obtain⟨j,hj,rfl⟩:=a4E.1 ha;simpa[List.getD,a0a hj]using h j hj
 intro h j hj;have:l.getD j d=l[j]:=by simp[List.getD,a0a hj]
 rw[this];exact h _ (a4w hj)
theorem qY{α:Type}{a b:List α}{d:α}(hl:a.length=b.length):a=b↔∀j,j<a.length->a.getD j d=b.getD j d:=by
 constructor
 .rintro rfl j _;rfl
 intro h;apply aat hl;intro j h1 h2;simpa[List.getD,a0a h1,a0a h2]using h j h1
section
variable {X:kE} {P:Program} {T:qp} {L:Nat} {f nt B:Nat} {gU:Bool} {call:aZ} {b:Code} {σ ρ:Type}
def uS(out:σ⊕ρ->Ex×aQ X.Γ)(g:Nat->σ->σ⊕ρ)(m k:Nat):σ⊕ρ->Ex×aQ X.Γ
 |.inl s=>out (jX g m k s)
 |.inr r=>out (.inr r)
theorem Ou{N:Nat}{st:Int->σ->aQ X.Γ}{g:Nat->σ->σ⊕ρ}{out:σ⊕ρ->Ex×aQ X.Γ}{s0:σ}{w:aQ X.Γ}(Inv:Nat->σ->Prop)(h0:gJ X (T.eP f (dR b)) w=st 0 s0)(hl:N<=ah)(hL:ah<L)(hi:Inv 0 s0)
  (hs:∀(k:Nat) (s:σ) (n:Nat),k<N->Inv k s->(∀s1,Inv (k+1) s1->dH X P T call L f gU nt B b n (st (i64.wrap (k+1)) s1) (uS out g (N-(k+1)) (k+1) (.inl s1)).1 (uS out g (N-(k+1)) (k+1) (.inl s1)).2) ->
   dH X P T call L f gU nt B b (n+1) (st k s) (uS out g (N-(k+1)) (k+1) (g k s)).1 (uS out g (N-(k+1)) (k+1) (g k s)).2)
  (ho:∀s,Inv N s->dH X P T call L f gU nt B b 1 (st N s) (out (.inl s)).1 (out (.inl s)).2) :
  dL X P T call L f gU nt B (.loop b) w (out (jX g N 0 s0)).1 (out (jX g N 0 s0)).2:=by
 have key:∀(m k:Nat) (s:σ),k+m=N->Inv k s->dH X P T call L f gU nt B b (m+1) (st k s) (out (jX g m k s)).1 (out (jX g m k s)).2:=by
  intro m
  induction m with
  |zero=>
   intro k s hk hr;have:k=N:=(by omega);subst this;exact ho s hr
  |succ m ih=>
   intro k s hk hr;have aS:k<N:=(by omega);have h1:=hs k s (m+1) aS hr fun s1 h=>by
    have:=ih (k+1) s1 (by omega) h;rw[xU (by omega),show N-(k+1)=m by omega];exact this
   rw[show N-(k+1)=m by omega]at h1;simp only[jX];cases hg:g k s with
   |inl s1=>rw[hg]at h1;exact h1
   |inr r=>rw[hg]at h1;exact h1
 exact zi (key N 0 s0 (by omega) hi) h0 (by omega)
theorem aey{a N:Nat}{st:Int->σ->aQ X.Γ}{g:Nat->σ->σ⊕ρ}{out:σ⊕ρ->Ex×aQ X.Γ}{s0:σ}{w:aQ X.Γ}(Inv:Nat->σ->Prop)(h0:gJ X (T.eP f (dR b)) w=st a s0)(ha:a<=N)(hl:N<=ah)(hL:ah<L)(hi:Inv a s0)
  (hs:∀(k:Nat) (s:σ) (n:Nat),a<=k->k<N->Inv k s->(∀s1,Inv (k+1) s1->dH X P T call L f gU nt B b n (st (i64.wrap (k+1)) s1) (uS out g (N-(k+1)) (k+1) (.inl s1)).1 (uS out g (N-(k+1)) (k+1) (.inl s1)).2) ->
   dH X P T call L f gU nt B b (n+1) (st k s) (uS out g (N-(k+1)) (k+1) (g k s)).1 (uS out g (N-(k+1)) (k+1) (g k s)).2)
  (ho:∀s,Inv N s->dH X P T call L f gU nt B b 1 (st N s) (out (.inl s)).1 (out (.inl s)).2) :
  dL X P T call L f gU nt B (.loop b) w (out (jX g (N-a) a s0)).1 (out (jX g (N-a) a s0)).2:=by
 have key:∀(m k:Nat) (s:σ),a<=k->k+m=N->Inv k s->dH X P T call L f gU nt B b (m+1) (st k s) (out (jX g m k s)).1 (out (jX g m k s)).2:=by
  intro m
  induction m with
  |zero=>
   intro k s _ hk hr;have:k=N:=(by omega);subst this;exact ho s hr
  |succ m ih=>
   intro k s ak hk hr;have aS:k<N:=(by omega);have h1:=hs k s (m+1) ak aS hr fun s1 h=>by
    have:=ih (k+1) s1 (by omega) (by omega) h;rw[xU (by omega),show N-(k+1)=m by omega];exact this
   rw[show N-(k+1)=m by omega]at h1;simp only[jX];cases hg:g k s with
   |inl s1=>rw[hg]at h1;exact h1
   |inr r=>rw[hg]at h1;exact h1
 exact zi (key (N-a) a s0 (a15 _) (by omega) hi) h0 (by omega)
theorem Ov{N:Nat}{st:Int->σ->aQ X.Γ}{g:Nat->σ->σ}{e:Ex}{fin:σ->aQ X.Γ}{s0:σ}{w:aQ X.Γ}(Inv:Nat->σ->Prop)(h0:gJ X (T.eP f (dR b)) w=st 0 s0)(hl:N<=ah)(hL:ah<L)(hi:Inv 0 s0)(hv:∀k s,k<N->Inv k s->Inv (k+1) (g k s))
  (hs:∀(k:Nat) (s:σ),k<N->Inv k s->∀n e1 p,dH X P T call L f gU nt B b n (st (i64.wrap (k+1)) (g k s)) e1 p->dH X P T call L f gU nt B b (n+1) (st k s) e1 p)
  (ho:∀s,Inv N s->dH X P T call L f gU nt B b 1 (st N s) e (fin s)):dL X P T call L f gU nt B (.loop b) w e (fin (aT g N 0 s0)):=by
 have:=Ou (X:=X) (P:=P) (T:=T) (call:=call) (f:=f) (gU:=gU) (nt:=nt) (B:=B) (b:=b) (ρ:=Empty) (N:=N) (st:=st) (g:=fun k s=>.inl (g k s)) (out:=fun x=>(e,fin (ao4 x))) (s0:=s0) (w:=w) Inv h0 hl hL hi
  (fun k s n hk hr h=>hs k s hk hr n _ _ (h _ (hv k s hk hr))) ho
 rw[RY]at this;exact this
theorem aif{N:Nat}{st:Int->σ->aQ X.Γ}{g:Nat->σ->σ}{e:Ex}{fin:σ->aQ X.Γ}{s0:σ}{w:aQ X.Γ}(Inv:Nat->σ->Prop)(h0:gJ X (T.eP f (dR b)) w=st (i64.wrap ((N:Int)-1)) s0)(hl:N<=ah)(hL:ah<L)(hi:Inv N s0)(hv:∀k s,k<N->Inv (k+1) s->Inv k (g k s))
  (hs:∀(k:Nat) (s:σ),k<N->Inv (k+1) s->∀n e1 p,dH X P T call L f gU nt B b n (st (i64.wrap (k-1)) (g k s)) e1 p->dH X P T call L f gU nt B b (n+1) (st k s) e1 p)
  (ho:∀s,Inv 0 s->dH X P T call L f gU nt B b 1 (st (-1) s) e (fin s)):dL X P T call L f gU nt B (.loop b) w e (fin (Oq g N s0)):=by
 have wr:∀k:Nat,k<=ah->i64.wrap ((k:Int)-1)=(k:Int)-1:=by
  intro k hk;cases k with
  |zero=>rfl
  |succ k=>
   have:=xU (k:=k) (by omega);rw[show((k+1:Nat):Int)-1=(k:Int) by omega];unfold ah at hk;simp only[IntKind.wrap,IntKind.bits,IntKind.signed];have:(k:Int)%(2^64:Int)=(k:Int):=a8w (by omega) (by omega);simp only[this];rw[a0g (by simp;omega)]
 have key:∀(k:Nat) (s:σ),k<=N->Inv k s->dH X P T call L f gU nt B b (k+1) (st ((k:Int)-1) s) e (fin (Oq g k s)):=by
  intro k
  induction k with
  |zero=>intro s _ hr;exact ho s hr
  |succ k ih=>
   intro s hk hr;have h1:=ih (g k s) (by omega) (hv k s (by omega) hr);rw[<-wr k (by omega)]at h1;rw[show((k+1:Nat):Int)-1=(k:Int) by omega];exact hs k s (by omega) hr _ _ _ h1
 rw[wr N hl]at h0;exact zi (key N s0 (a15 _) hi) h0 (by omega)
end
end Pv
namespace bW
open Go Tw Pv
def bC:List Int->Int
 | []=>1
 |a::t=>a*bC t
def mM:List Int->Int->List Int
 | [],_=>[]
 |a::t,n=>(n/bC t)%a::mM t n
def qx:List Int->List Int->Int
 |a::t,d::p=>d*bC t+qx t p
 |_,_=>0
def mO:List Int->List Int->Bool
 | [],[]=>true
 |a::t,d::p=>decide (0<=d∧d<a)&&mO t p
 |_,_=>false
def pR(s:List Int):Prop:=∀a∈s,1<=a∧a<=12
instance (s:List Int):Decidable (pR s):=inferInstanceAs (Decidable (∀a∈s,1<=a∧a<=12))
structure wE(s:List Int):Prop where
 len:s.length<=6
 sz:pR s
 many:bC s<=2000
def jY(n:Nat)(o:List Int):Bool:=decide (o.length=n∧(∀a∈o,0<=a∧a<n)∧o.Nodup)
theorem fH{z:Int}(h0:-(2^62)<=z)(h1:z<2^62):i64.wrap z=z:=by
 simp only[IntKind.wrap,IntKind.bits,IntKind.signed];rcases Int.lt_or_le z 0 with h|h
 .have:z%(2^64:Int)=z+2^64:=by
   have:=acf z (2^64) 1;rw[acX]at this;rw[<-this];exact a8w (by omega) (by omega)
  simp only[this];rw[a0h (by simp;omega)];omega
 have:z%(2^64:Int)=z:=a8w h (by omega);simp only[this];rw[a0g (by simp;omega)]
theorem pR.tail{a:Int}{t:List Int}(h:pR (a::t)):pR t:=fun b hb=>h b (a3O _ hb)
theorem iZ:∀{s:List Int},pR s->1<=bC s
 | [],_=>a9e _
 |a::t,h=>by
  have h1:=h a (a3N ..);have h2:=iZ h.tail;have:=Int.mul_le_mul h1.1 h2 (by omega) (by omega);simpa[bC]using this
theorem DZ:∀(s t:List Int),bC (s++t)=bC s*bC t
 | [],t=>by simp[bC]
 |a::s,t=>by simp[bC,DZ s t,Int.mul_assoc]
theorem Qm{s:List Int}(h:pR s)(k:Nat):bC (s.take k)<=bC s:=by
 have e:bC s=bC (s.take k)*bC (s.drop k):=by rw[<-DZ,List.take_append_drop]
 have h1:1<=bC (s.take k):=iZ fun a ha=>h a (a9f ha);have h2:1<=bC (s.drop k):=iZ fun a ha=>h a (a6r ha);have:=a8A h2 (show 0<=bC (s.take k) by omega);omega
theorem X9:∀(s:List Int) (n:Int),(mM s n).length=s.length
 | [],_=>rfl
 |_::t,n=>by simp[mM,X9 t n]
theorem Si:∀(s:List Int) (n:Int) (k:Nat),k<s.length->(mM s n).getD k 0=(n/bC (s.drop (k+1)))%s.getD k 0
 | [],_,k,h=>by simp at h
 |a::t,n,0,_=>by simp[mM]
 |a::t,n,k+1,h=>by
  have:=Si t n k (by simpa using h);simpa[mM]using this
theorem zn:∀{s p:List Int},mO s p=true->p.length=s.length
 | [],[],_=>rfl
 |a::t,d::p,h=>by
  simp only[mO,a2m]at h;simp[zn h.2]
 | [],_::_,h=>by cases h
 |_::_,[],h=>by cases h
theorem wF:∀{s p:List Int},mO s p=true↔p.length=s.length∧∀j,j<s.length->0<=p.getD j 0∧p.getD j 0<s.getD j 0
 | [],[]=>by simp[mO]
 |a::t,d::p=>by
  simp only[mO,a2m,a1X,wF (s:=t),a3V];constructor
  .rintro⟨h1,h2,h3⟩;refine⟨by omega,fun j hj=>?_⟩;cases j with
   |zero=>simpa using h1
   |succ j=>simpa using h3 j (by omega)
  rintro⟨h1,h2⟩;exact⟨by simpa using h2 0 (by omega),by omega,fun j hj=>by simpa using h2 (j+1) (by omega)⟩
 | [],_::_=>by simp[mO]
 |_::_,[]=>by simp[mO]
theorem He:∀{s p:List Int},mO s p=true->pR s->0<=qx s p∧qx s p<bC s
 | [],[],_,_=>by simp[qx,bC]
 |a::t,d::p,h,hs=>by
  simp only[mO,a2m,a1X]at h;have ih:=He h.2 hs.tail;have hp:=iZ hs.tail;simp only[qx,bC];have h1:0<=d*bC t:=agv h.1.1 (by omega);have h2:(d+1)*bC t<=a*bC t:=abo (by omega) (by omega);rw[agQ,Int.one_mul]at h2;omega
theorem J5:∀{s:List Int} (n:Int),pR s->mO s (mM s n)=true
 | [],_,_=>rfl
 |a::t,n,hs=>by
  simp only[mM,mO,a2m,a1X];have:=hs a (a3N ..);exact⟨⟨agF _ (by omega),Int.emod_lt_of_pos _ (by omega)⟩,J5 n hs.tail⟩
theorem D9:∀{s:List Int} (n:Int),pR s->mM s (n%bC s)=mM s n
 | [],_,_=>rfl
 |a::t,n,hs=>by
  have hp:=iZ hs.tail;have ha:=hs a (a3N ..);simp only[mM,bC];have e1:n%(a*bC t)/bC t%a=n/bC t%a:=by
   rw[Int.emod_def n,show n-a*bC t*(n/(a*bC t))=n+(-(a*(n/(a*bC t))))*bC t by rw[Int.neg_mul,Int.mul_right_comm];rfl,Int.add_mul_ediv_right _ _ (by omega),show n/bC t+-(a*(n/(a*bC t)))=n/bC t+a*(-(n/(a*bC t))) by rw[Int.mul_neg],acf]
  have e2:mM t (n%(a*bC t))=mM t n:=by
   rw[<-D9 (n%(a*bC t)) hs.tail,<-D9 n hs.tail,Int.emod_emod_of_dvd n (Int.dvd_mul_left a (bC t))]
  rw[e1,e2]
theorem UC:∀{s:List Int} {n:Int},pR s->0<=n->n<bC s->qx s (mM s n)=n
 | [],n,_,h0,h1=>by simp[bC]at h1;simp[mM,qx];omega
 |a::t,n,hs,h0,h1=>by
  have hp:=iZ hs.tail;have ha:=hs a (a3N ..);simp only[mM,qx];simp only[bC]at h1;have h2:0<=n/bC t:=agG h0 (by omega);have h3:n/bC t<a:=Int.ediv_lt_of_lt_mul (by omega) h1;rw[a8w h2 h3,<-D9 n hs.tail,UC hs.tail (agF _ (by omega)) (Int.emod_lt_of_pos _ (by omega))];exact Int.ediv_mul_add_emod n (bC t)
theorem UD:∀{s p:List Int},mO s p=true->pR s->mM s (qx s p)=p
 | [],[],_,_=>rfl
 |a::t,d::p,h,hs=>by
  simp only[mO,a2m,a1X]at h;have ih:=UD h.2 hs.tail;have hr:=He h.2 hs.tail;have hp:=iZ hs.tail;simp only[mM,qx];have e1:(d*bC t+qx t p)/bC t=d:=by
   rw[agH,Int.add_mul_ediv_right _ _ (by omega),Int.ediv_eq_zero_of_lt hr.1 hr.2];omega
  have e2:mM t (d*bC t+qx t p)=mM t (qx t p):=by
   rw[<-D9 _ hs.tail,agH,Int.add_mul_emod_self_right,D9 _ hs.tail]
  rw[e1,e2,ih,a8w h.1.1 h.1.2]
theorem dW{s:List Int}{k:Nat}(h:k<s.length):s.getD k 0∈s:=by
 have:s.getD k 0=s[k]:=by simp[List.getD,a0a h]
 rw[this];exact a4w h
theorem Ox{s:List Int}{k:Nat}(h:k<s.length):bC (s.drop k)=s.getD k 0*bC (s.drop (k+1)):=by
 rw[a4P h];simp[bC,List.getD,a0a h]
theorem yR{l:List Int}{i j:Nat}{a:Int}(h:i<l.length):(l.set i a).getD j 0=if i=j then a else l.getD j 0:=by
 simp only[a2X,a9p];split<;>simp_all
def a2N(s:List Int)(k:Nat)(x:Int×List Int):Int×List Int:=(Ue .i64 x.1 (s.getD k 0),x.2.set k (NW .i64 x.1 (s.getD k 0)))
theorem aez{a b:Int}(h0:0<=a)(h1:a<2^62)(hb:0<b):Ue .i64 a b=a/b:=by
 have:a/b<=a:=Int.ediv_le_self b h0;have h2:0<=a/b:=agG h0 (by omega);rw[Ue,Int.tdiv_eq_ediv_of_nonneg h0,fH (by omega) (by omega)]
theorem aeA{a b:Int}(h0:0<=a)(h1:a<2^62)(hb:0<b):NW .i64 a b=a%b:=by
 have h2:0<=a%b:=agF _ (by omega);have h3:a%b<=a:=by
  have:=Int.emod_def a b;have h4:0<=b*(a/b):=agv (by omega) (agG h0 (by omega));omega
 rw[NW,Int.tmod_eq_emod_of_nonneg h0]
theorem a6e{s:List Int}{n:Int}(hs:pR s)(h0:0<=n)(h1:n<2^62){o:List Int}(ho:o.length=s.length):(Oq (a2N s) s.length (n,o)).2=mM s n:=by
 have:=S9 (g:=a2N s) (k:=s.length) (s:=(n,o)) (fun k x=>x.1=n/bC (s.drop k)∧x.2.length=s.length∧∀j,k<=j->j<s.length->x.2.getD j 0=(mM s n).getD j 0)
  ⟨by simp[bC],ho,fun j h1 h2=>by omega⟩ (fun k x hk hx=>by
   obtain⟨e1,e2,e3⟩:=hx;have hp:1<=bC (s.drop (k+1)):=iZ fun a ha=>hs a (a6r ha);have ha:=hs _ (dW hk);have hx0:0<=x.1:=by rw[e1];exact agG h0 (by omega)
   have hx1:x.1<=n:=by rw[e1];exact Int.ediv_le_self _ h0
   simp only[a2N];rw[aez hx0 (by omega) (by omega),aeA hx0 (by omega) (by omega)];refine⟨?_,by simp[e2],fun j h2 h3=>?_⟩
   .rw[Ox hk,Int.mul_comm,<-Int.ediv_ediv_of_nonneg (by omega),e1]
   .rw[yR (by omega)];split
    .rename_i e;subst e;rw[Si s n k hk,e1]
    .exact e3 j (by omega) h3)
 obtain⟨_,e2,e3⟩:=this;rw[qY (d:=0) (by rw[e2,X9])];intro j hj;exact e3 j (a4v _) (by omega)
def EL(s:List Int):Int:=aT (fun k n=>if i64.wrap (n*s.getD k 0)<3000 then i64.wrap (n*s.getD k 0)else 3000) s.length 0 1
theorem Xa{s:List Int}(hs:pR s):EL s=min 3000 (bC s):=by
 have:=dO (g:=fun k n=>if i64.wrap (n*s.getD k 0)<3000 then i64.wrap (n*s.getD k 0)else 3000) (m:=s.length) (k:=0) (s:=(1:Int)) (fun k n=>n=min 3000 (bC (s.take k))) (by simp[bC];decide) (fun j n h1 h2 h3=>by
  have hj:j<s.length:=by omega
  have ha:=hs _ (dW hj);have hp:1<=bC (s.take j):=iZ fun a ha=>hs a (a9f ha);have e:bC (s.take (j+1))=bC (s.take j)*s.getD j 0:=by
   rw[a7I hj,DZ];simp[bC,List.getD,a0a hj]
  have hn0:1<=n:=by omega
  have hn1:n<=3000:=by omega
  have h4:n*s.getD j 0<=3000*12:=Int.mul_le_mul hn1 ha.2 (by omega) (by omega);have h5:1<=n*s.getD j 0:=by have:=Int.mul_le_mul hn0 ha.1 (by omega) (by omega);omega
  rw[fH (by omega) (by omega),e];by_cases hc:bC (s.take j)<=3000
  .have:n=bC (s.take j):=(by omega);rw[this];split<;>omega
  have:n=3000:=by omega
  subst this;have h6:3000*s.getD j 0<=bC (s.take j)*s.getD j 0:=abo (by omega) (by omega);have h7:3000<=3000*s.getD j 0:=by omega
  split<;>omega)
 rw[a3U,abu]at this;exact this
theorem wE.abL{s:List Int}(h:wE s):EL s=bC s:=by rw[Xa h.sz];have:=h.many;omega
abbrev EM(s:List Int):Nat:=(bC s).toNat
theorem wE.a9J{s:List Int}(h:wE s):((EM s:Nat):Int)=bC s:=by have:=iZ h.sz;show((bC s).toNat:Int)=_;omega
theorem wE.EM{s:List Int}(h:wE s):((EM s:Nat):Int)=EL s:=by rw[h.abL,h.a9J]
theorem wE.lt{s:List Int}(h:wE s){k:Nat}(hk:k<bW.EM s):decide ((k:Int)<EL s)=true:=by rw[<-h.EM];exact aW hk
theorem wE.no{s:List Int}(h:wE s):decide (((bW.EM s:Nat):Int)<EL s)=false:=by rw[<-h.EM];exact eX _
theorem wE.aii{s:List Int}(h:wE s):s.length<=ah:=by have:=h.len;unfold ah;omega
theorem Xb{α:Type}(f:Nat->α)(n:Nat):aT (fun k (s:List α)=>s++[f k]) n 0 []=(List.range n).map f:=by
 have:=dO (g:=fun k (s:List α)=>s++[f k]) (m:=n) (k:=0) (s:=[]) (fun k s=>s=(List.range k).map f) rfl (fun j s _ _ h=>by rw[h,abI,a3Y];rfl);simpa using this
end bW
namespace Tw
open Go Go.Proofs Go.Shelf
section
variable {P:Program} {ρ:Ren}
theorem a2O{M:Mp}{w:World}{h:List HB}(hV:Valid M uG (kL h) w){b off len cap:Nat}{ex:Bool}{y:Value}(hx:VR M.h (.slc b off len cap 1 ex) y)(h0:0<len){k:BK}{cs r:List TV}(hb:h[b]? = some (.cells k cs))(hk:k≠.ro)
  (hl:k=.last->off+cap=cs.length) (hr:sub cs off len=some r) :
  ∃ls p cap',M (.h b)=some (.cells ls)∧p∈ls∧y=.slice (some ⟨p.c,off,none⟩) len cap'∧len<=cap'∧cap<=cap'∧off+cap<=p.ext∧off+cap'<=p.tot∧cap'<2^63∧MS M.h w k cs p∧p.base=0∧(∀c∈cs,iQ c=true) ∧
   ∃xs:List Value,bV M.h r xs∧∀(j:Nat) (v:Value),xs[j]? = some v->w.cell? ⟨p.c,off+j,none⟩=some v:=by
 cases hx with
 |slc hm hp EX hle vT hex ha ao9=>
  rename_i ls p a cap';obtain⟨fV,h1,h2⟩:=hV.ok _ _ hm trivial;have hg:kL h (.h b)=some (.cells k cs):=by simp[St.get,hb]
  rw[hg]at h1;cases h1;have hp:=hp.resolve_left (by omega);have FT:=h2.2.1 p hp;have zJ:=FT.base hk;rcases ha with ha|⟨rfl,ha⟩
  .omega
  obtain⟨xs,g1,g2⟩:=FT.slice hr (by omega) (fun e=>by have:=hl e;have:=FT.ext;omega);rw[zJ]at g2 ha ⊢;simp only[a3U,agR]at g2 ha EX ⊢;exact⟨ls,p,cap',hm,hp,rfl,by omega,vT,EX,ha,ao9,FT,zJ,h2.1,xs,g1,g2⟩
end
open Go.Sort
theorem aeB{N:Np}{k:IntKind}{n:Int}{y:Value}(h:VR N (.int k n) y):y=.int k n:=by cases h;rfl
section
variable {P:Program} {M:Mp} {D:Key->Prop} {C:Ct} {w w':World}
theorem aeC(h:Valid M D C w){k:Key}{ls:List Pl}{p:Pl}{cs cs':List TV}{kk Ba:BK}
  (hk:M k=some (.cells ls)) (hd:D k) (hc:C k=some (.cells kk cs)) (hp:p∈ls) (xH:(kk=.own∧Ba=.own)∨((kk=.grow∨kk=.last)∧Ba=.last∧p.ext=cs.length))
  (hl:cs'.length=cs.length) (hn:∀c∈cs',iQ c=true) {uH:Array Value} {ty':TypeId} (yx:w'.heap[p.c]? = some (.cells uH ty' (0,0))) (hs':uH.size=p.tot)
  (W9:∀c,c<w.heap.size->c≠p.c->w'.heap[c]? = w.heap[c]?) (uN:w.heap.size<=w'.heap.size) (ho:w'.os=w.os) (hou:w'.output=w.output) (ht:w'.tape=w.tape)
  (a6f:∀(i:Nat) (c:TV) (v:Value),cs'[i]? = some c->uH[i]? = some v->VR M.h c v) :
  Valid M D (lu C k (.cells Ba cs')) w'∧Ext M C w M (lu C k (.cells Ba cs')) w' [k]:=by
 obtain⟨hb,he,h1,FT,je,huq,arr,ty,hr,hs,hle,hv⟩:=h.wrB hk hd hc hp xH;have iy:kk≠.ro:=by rcases xH with⟨e,_⟩|⟨e|e,_⟩<;>rw[e]<;>simp
 have Yf:∀b0,C k=some b0->wr b0=true:=fun b0 zJ=>by rw[hc]at zJ;cases zJ;cases kk<;>simp_all [wr]
 have qh:dJ M k (.cells ls)=M:=Il hk;have gq:∀c,c<w.heap.size->c∉aI (.cells ls)->w'.heap[c]? = w.heap[c]?:=fun c hc0 hc=>W9 c hc0 (fun e=>hc (by rw[e];exact a1f.2 ⟨p,hp,rfl⟩));have gW:∀c∈aI (.cells ls),(∃l0,M k=some l0∧c∈aI l0)∨w.heap.size<=c:=fun c hc=>.inl ⟨_,hk,hc⟩;have Ip:rV M (dJ M k (.cells ls)):=by rw[qh];exact .refl _
 have aS:∀q∈ls,q.c<w.heap.size:=fun q hq=>h.inb _ _ hk q.c (a1f.2 ⟨q,hq,rfl⟩);refine⟨?_,?_⟩
 .have:=h.upd (D':=D) (w':=w') k (.cells Ba cs') (.cells ls) (fun j hj=>.inl hj) (fun l0 h0=>by
   rw[hk]at h0;cases h0;exact⟨hd,.refl _,Yf⟩) gq gW uN (by
   rw[qh];refine⟨hn,fun q hq=>?_,fun e=>?_,fun e=>⟨je,fun q1 JD q2 FZ e1 e2=>by rw[huq q1 JD (by omega),huq q2 FZ (by omega)]⟩⟩
   .have hq0:=FT q hq;by_cases Yq:q.c=p.c
    .have:=MZ je hp hq Yq;subst this;exact⟨⟨uH,ty',(0,0),yx,hs',fun _=>rfl,fun _ i c v _ a b=>a6f i c v a (by simpa[hb]using b)⟩,by omega,by omega,fun _=>hb⟩
    .obtain⟨aoa,ty2,fz2,t1,t2,t3,t4⟩:=hq0.row;refine⟨⟨aoa,ty2,fz2,(W9 q.c (aS q hq) Yq).trans t1,t2,fun _=>t3 iy,fun hz i c v hi a b=>?_⟩,hq0.fit,by have:=hq0.ext;omega,fun _=>hq0.base iy⟩;exfalso;apply Yq;rcases xH with⟨e,_⟩|⟨_,e,_⟩
     .obtain⟨b',g1,g2⟩:=h.ok k _ hk hd;rw[hc]at g1;cases g1;obtain⟨q',g3,_⟩:=g2.2.2.1 e;rw[g3]at hq hp;simp at hq hp;rw[hq,hp]
     .rw[huq q hq (by rw[hz e];omega)]
   .rcases xH with⟨e0,_⟩|⟨_,e1,_⟩
    .obtain⟨b',g1,g2⟩:=h.ok k _ hk hd;rw[hc]at g1;cases g1;obtain⟨q',g3,g4⟩:=g2.2.2.1 e0;exact⟨q',g3,by omega⟩
    .rw[e1]at e;cases e)
  rwa [qh]at this
 .have:=Ext.upd (M:=M) (C:=C) (w:=w) (w':=w') k (.cells Ba cs') (.cells ls) [k] (.inl ⟨by simp[hc],rfl,by simp[hk],Yf⟩) Ip gq gW uN ho hou ht
  rwa [qh]at this
end
def JX:List TV->Option (List Int)
 | []=>some []
 |.int .i64 n::r=>(JX r).map (n::·)
 |_=>none
theorem Oy:∀{cs:List TV} {zs:List Int},JX cs=some zs->cs=zs.map fun n=>TV.int .i64 n
 | [],zs,h=>by simp[JX]at h;subst h;rfl
 |c::r,zs,h=>by
  unfold JX at h;split at h
  .rename_i e;cases e
  .rename_i n r' e;cases e;simp only[a09]at h;obtain⟨ys,h1,rfl⟩:=h;rw[Oy h1];rfl
  cases h
def fU(l:List Int):List Int:=l.mergeSort fun x y=>decide (x<=y)
def a6g(g:List Int->List Int)(fI:Nat):aZ
 |.fn f [] [],[d],h=>
  if f=fI then
   match d with
   |.nil .slc=>some (.dG [],h,[])
   |.slc _ _ 0 _ _ _=>some (.dG [],h,[])
   |.slc b 0 n n' 1 _=>match h[b]? with
    |some (.cells k cs)=>match zN k true,JX cs with
     |some k',some zs=>if n=n'∧cs.length=n∧0<n∧n<=2^20 then some (.dG [],h.set b (.cells k' ((g zs).map fun x=>TV.int .i64 x)),[b])else none
     |_,_=>none
    |_=>none
   |_=>none
  else none
 |_,_,_=>none
def Oz:Nat->aZ:=a6g fU
section
variable {P:Program} {ρ:Ren}
theorem Xc(L:Lays.n189 P ρ):iC P (Oz (ρ.f 189)):=by
 intro fv args h v h' ws hc M w x xs hV yN hx Nq;unfold Oz a6g at hc;split at hc
 case h_2=>cases hc
 rename_i f d;split at hc
 case isFalse=>cases hc
 rename_i hf;subst hf;cases hx with
 | @fn _ _ _ ys zs h1 h1a h3 h3a=>
 have:ys=[]:=a3W h1.symm;subst this;have:zs=[]:=a3W h3.symm;subst this;obtain⟨dv,r1,rfl,hdv,Nq⟩:=Nq.iK;have:=Nq.pq;subst this;have enters:∀{R:Value->World->Prop},Calls P (ρ.f 189) #[dv] w (KG R) ->
   ∃d,(∀w,(Deferred.ofValue (.func (.func (ρ.f 189)) [].toArray [].toArray) [dv].toArray).run P w=.ok d w)∧((L6 P d w R∧∃f a b,(TV.fn (ρ.f 189) [] [])=.fn f a b)∨(U0 P d w R∧∃l,(TV.fn (ρ.f 189) [] [])=.kC l)):=by
  intro R UE;refine⟨{ target:=.fn (.func (ρ.f 189)) #[],args:=#[dv] },fun w=>by simp[Deferred.ofValue],.inl ⟨⟨ρ.f 189,_,?_,fun n=>callsIn_wide.2 UE⟩,_,_,_,rfl⟩⟩;have e1:=L.f189;have e2 : ¬ (Body.n189 ρ).name = "runtime.NumGoroutine" := by simp [Body.n189]
  obtain⟨c,e3⟩:∃c,(Body.n189 ρ).body=some c:=⟨_,rfl⟩;simp[invoke,callFunc,program,Sem.run,e1,e2,e3]
 split at hc
 .simp only[a00,a0S]at hc;obtain⟨rfl,rfl,rfl⟩:=hc;cases hdv;refine enters ((Any.slices_Sort_int_none L none 0 w).mono fun e w' ⟨he,hw⟩=>?_);subst he;subst hw;exact⟨M,hV,yN,.refl _ _ _,.Q9 .nil⟩
 .simp only[a00,a0S]at hc;obtain⟨rfl,rfl,rfl⟩:=hc;cases hdv;refine enters ((Any.slices_Sort_int_none L _ _ w).mono fun e w' ⟨he,hw⟩=>?_);subst he;subst hw;exact⟨M,hV,yN,.refl _ _ _,.Q9 .nil⟩
 .rename_i b n n' ex _;split at hc
  case h_2=>cases hc
  rename_i k cs hb;split at hc
  case h_2=>cases hc
  rename_i k' zs nT hzs;split at hc
  case isFalse=>cases hc
  rename_i QJ;obtain⟨rfl,pJ,hn0,au1⟩:=QJ;simp only[a00,a0S]at hc;obtain⟨rfl,rfl,rfl⟩:=hc;have QM:=Oy hzs;have Yg:zs.length=n:=by rw[<-pJ,QM,a4e]
  have hk:k≠.ro:=by rintro rfl;cases nT
  have aij:sub cs 0 n=some cs:=by
   unfold sub;rw[a0h (by omega)];simp[<-pJ]
  obtain⟨ls,p,cap',k1,k2,rfl,k3,k4,k5,k6,k7,k8,k9,k10,csv,k11,k12⟩:=a2O hV hdv hn0 hb hk (fun _=>by omega) aij;have hpe:p.ext=cs.length:=by have:=k8.ext;omega
  obtain⟨arr,ty,fz,z1,z2,z3,_⟩:=k8.row;have:=z3 hk;subst this;have aS:=(a2D.1 z1).1;have hcv:csv=zs.map fun n=>Value.int .i64 n:=by
   apply a9q;intro i;by_cases hi:i<n
   .have hi1:i<cs.length:=(by omega);have JE:i<csv.length:=by rw[<-k11.len];exact hi1
    have:=k11.at_ i cs[i] csv[i] (by simp[hi1]) (by simp[JE]);have hc1:cs[i]? = (zs.map fun n=>TV.int .i64 n)[i]?:=(by rw[<-QM]);rw[a0a hi1,a4h,a0a (by omega)]at hc1;simp only[a0T,a00]at hc1;rw[hc1]at this;rw[a0a JE,a4h,a0a (by omega)];rw[aeB this];rfl
   .rw[a3X (by rw[<-k11.len];omega),a3X (by rw[a4e];omega)]
  have hH:Holds (Value.int .i64) w p.c 0 zs.toArray:=fun j hj=>by
   simp only[List.size_toArray]at hj;refine⟨?_,by simp[World.frozen?,z1]⟩;refine k12 j _ ?_;rw[hcv,a4h,a0a hj];simp[hj]
  have UE:=Any.slices_Sort_int L p.c 0 cap' zs w hH aS (by omega);rw[Yg]at UE;refine enters (UE.mono fun e w' ⟨he,N,os,hw⟩=>?_);subst he;have hsl:(fU zs).length=n:=by unfold fU;rw[abj,Yg]
  have hgb:kL h (.h b)=some (.cells k cs):=by simp[St.get,hb]
  have xH:(k=.own∧k'=.own)∨((k=.grow∨k=.last)∧k'=.last∧p.ext=cs.length):=by
   rcases JC nT with e|⟨a,b,_⟩
   .exact .inl e
   .exact .inr ⟨a,b,hpe⟩
  have yx:w'.heap[p.c]? = some (.cells (putCells (Value.int .i64) 0 (fU zs).toArray arr) ty (0,0)):=by
   rw[hw,heap_grow_old _ _ (by simp[putRow,mapBlock,Sort.ahead];exact aS)];simp only[putRow,mapBlock,Sort.ahead,abH,a2d,z1,a0T,onCells];rfl
  have W9:∀c,c<w.heap.size->c≠p.c->w'.heap[c]? = w.heap[c]?:=fun c hc0 iy=>by
   rw[hw,heap_grow_old _ _ (by simp[putRow,mapBlock,Sort.ahead];exact hc0)];simp only[putRow,mapBlock,Sort.ahead,abH];rw[a0g (fun e=>iy e.symm)]
  obtain⟨g1,g2⟩:=aeC (w':=w') (cs':=(fU zs).map fun x=>TV.int .i64 x) hV k1 trivial hgb k2 xH (by rw[a4e,hsl,pJ]) (fun c hc=>by
   obtain⟨y,_,rfl⟩:=a1f.1 hc;rfl) yx (by simp[putCells,z2]) W9 (by rw[hw];simp[putRow,mapBlock,Sort.ahead]) (by rw[hw];rfl) (by rw[hw];rfl) (by rw[hw];rfl) (fun i c u hc hu=>by
   rw[a4h]at hc;simp only[a09]at hc;obtain⟨y,hy,rfl⟩:=hc;have hi:i<(fU zs).length:=(a04.1 hy).1;have hia:i<arr.size:=(by omega);simp only[putCells,Array.getElem?_mapIdx,a3T hia,a0T,a00]at hu;rw[a0h ⟨a4v _,by simp;omega⟩]at hu;subst hu;have:(fU zs).toArray[i-0]! = y:=by
    have h9:=(a04.1 hy).2;simp[hi,h9]
   rw[this];exact .int _ _)
  have yL:=(a04.1 hb).1;have F8:kL (h.set b (.cells k' ((fU zs).map fun x=>TV.int .i64 x)))=lu (kL h) (.h b) (.cells k' ((fU zs).map fun x=>TV.int .i64 x)):=jm ⟨[],[],h,[]⟩ b _ yL [] [];exact⟨M,by rw[F8];exact g1,yN,by rw[F8];exact g2,.Q9 .nil⟩
 .cases hc
end
end Tw
namespace Go.Proofs.YtmobpoiejckagaaGreat
open Go Tw Go.Shelf
def a2P:Go.Shelf.Ren:=⟨fun| 189=>137| 125=>180| 257=>179| 128=>216| 129=>217| 294=>207| 295=>208| 296=>209| 297=>210| 298=>211| 299=>212| 216=>213| 300=>214| 301=>215| 328=>229| 329=>230| 330=>231| 331=>232| 332=>233| 215=>219| 343=>235|n=>n,fun| 28=>22| 3=>3| 46=>184| 0=>0| 51=>204| 53=>207| 4=>4| 183=>212| 182=>211| 131=>152| 5=>5| 9=>9| 218=>227| 222=>231| 228=>233| 229=>192|n=>n,fun|n=>n⟩
theorem abM:Lays.n189 Tryz.prog a2P where
 mixed:=by kernel_rfl
 f125:=Tryz.func180.trans (congrArg some (by kernel_rfl))
 f128:=Tryz.func216.trans (congrArg some (by kernel_rfl))
 f129:=Tryz.func217.trans (congrArg some (by kernel_rfl))
 f189:=Tryz.func137.trans (congrArg some (by kernel_rfl))
 f215:=Tryz.func219.trans (congrArg some (by kernel_rfl))
 f216:=Tryz.func213.trans (congrArg some (by kernel_rfl))
 f257:=Tryz.func179.trans (congrArg some (by kernel_rfl))
 f294:=Tryz.func207.trans (congrArg some (by kernel_rfl))
 f295:=Tryz.func208.trans (congrArg some (by kernel_rfl))
 f296:=Tryz.func209.trans (congrArg some (by kernel_rfl))
 f297:=Tryz.func210.trans (congrArg some (by kernel_rfl))
 f298:=Tryz.func211.trans (congrArg some (by kernel_rfl))
 f299:=Tryz.func212.trans (congrArg some (by kernel_rfl))
 f300:=Tryz.func214.trans (congrArg some (by kernel_rfl))
 f301:=Tryz.func215.trans (congrArg some (by kernel_rfl))
 f328:=Tryz.func229.trans (congrArg some (by kernel_rfl))
 f329:=Tryz.func230.trans (congrArg some (by kernel_rfl))
 f330:=Tryz.func231.trans (congrArg some (by kernel_rfl))
 f331:=Tryz.func232.trans (congrArg some (by kernel_rfl))
 f332:=Tryz.func233.trans (congrArg some (by kernel_rfl))
 f343:=Tryz.func235.trans (congrArg some (by kernel_rfl))
 t0:=Tryz.underlying0
 a0:=Tryz.isAgg0
 z0:=Tryz.sizeOf0
 v0:=Tryz.zeroValue0
 t3:=Tryz.underlying3
 a3:=Tryz.isAgg3
 z3:=Tryz.sizeOf3
 v3:=Tryz.zeroValue3
 t4:=Tryz.underlying4
 a4:=Tryz.isAgg4
 z4:=Tryz.sizeOf4
 v4:=Tryz.zeroValue4
 t5:=Tryz.underlying5
 a5:=Tryz.isAgg5
 z5:=Tryz.sizeOf5
 v5:=Tryz.zeroValue5
 t9:=Tryz.underlying9
 a9:=Tryz.isAgg9
 z9:=Tryz.sizeOf9
 v9:=Tryz.zeroValue9
 t28:=Tryz.underlying22
 a28:=Tryz.isAgg22
 z28:=Tryz.sizeOf22
 v28:=Tryz.zeroValue22
 t46:=Tryz.underlying184
 a46:=Tryz.isAgg184
 z46:=Tryz.sizeOf184
 v46:=Tryz.zeroValue184
 t51:=Tryz.underlying204
 a51:=Tryz.isAgg204
 z51:=Tryz.sizeOf204
 v51:=Tryz.zeroValue204
 t53:=Tryz.underlying207
 a53:=Tryz.isAgg207
 z53:=Tryz.sizeOf207
 v53:=Tryz.zeroValue207
 t131:=Tryz.underlying152
 a131:=Tryz.isAgg152
 z131:=Tryz.sizeOf152
 v131:=Tryz.zeroValue152
 t182:=Tryz.underlying211
 a182:=Tryz.isAgg211
 z182:=Tryz.sizeOf211
 v182:=Tryz.zeroValue211
 t183:=Tryz.underlying212
 a183:=Tryz.isAgg212
 z183:=Tryz.sizeOf212
 v183:=Tryz.zeroValue212
 t218:=Tryz.underlying227
 a218:=Tryz.isAgg227
 z218:=Tryz.sizeOf227
 v218:=Tryz.zeroValue227
 t222:=Tryz.underlying231
 a222:=Tryz.isAgg231
 z222:=Tryz.sizeOf231
 v222:=Tryz.zeroValue231
 t228:=Tryz.underlying233
 a228:=Tryz.isAgg233
 z228:=Tryz.sizeOf233
 v228:=Tryz.zeroValue233
 t229:=Tryz.underlying192
 a229:=Tryz.isAgg192
 z229:=Tryz.sizeOf192
 v229:=Tryz.zeroValue192
end Go.Proofs.YtmobpoiejckagaaGreat
namespace Tw
open Go
def OA(h h':List HB):Prop:=(∀b:Nat,(∀cs,h[b]?≠some (HB.lZ cs))->h'[b]? = h[b]?)∧∀(b:Nat) cs,h[b]? = some (HB.lZ cs)->∃cs',cs'.Perm cs∧h'[b]? = some (HB.cells .last cs')
def aeD(f:Nat)(call:aZ)(fv:TV)(args:List TV)(h:List HB)(v:TV):Prop:=(∃k n,v=.int k n)∧fv=.fn f [] []∧∀h',OA h h'->∃h2,call fv args h'=some (v,h2,[])
open Classical in
def a2Q(f:Nat)(call:aZ):aZ:=fun fv args h=>if hx:∃v,aeD f call fv args h v then some (Classical.choose hx,h,[])else none
theorem Sj{h h':List HB}(hu:OA h h'):∀b:Nat,(h'[b]?).isSome=(h[b]?).isSome:=fun b=>by
 cases e:h[b]? with
 |none=>rw[hu.1 b (fun cs=>by rw[e];nofun),e]
 |some x=>
  by_cases hb:∃cs,x=.lZ cs
  .obtain⟨cs,rfl⟩:=hb;obtain⟨cs',_,e2⟩:=hu.2 b cs e;rw[e2];rfl
  .rw[hu.1 b (fun cs=>by rw[e];intro h2;cases h2;exact hb ⟨cs,rfl⟩),e]
theorem Xd(h:List HB):∀(g:Nat->List TV),(∀(b:Nat) cs,h[b]? = some (HB.lZ cs)->(g b).Perm cs)->OA h (h.mapIdx fun b x=>match x with|HB.lZ _=>HB.cells .last (g b)|x=>x):=fun g hg=>by
 constructor
 .intro b hb;rw[agI];cases e:h[b]? with
  |none=>rfl
  |some x=>
   simp only[a0T];cases x<;>first|rfl|exact absurd e (hb _)
 .intro b cs e;exact⟨g b,hg b cs e,by rw[agI,e];rfl⟩
theorem Xe{M:Mp}{h:List HB}{w:World}(hV:Valid M uG (kL h) w):∃h',OA h h'∧Valid M uG (kL h') w:=by
 have hg:∀b:Nat,∃g:List TV,∀cs,h[b]? = some (HB.lZ cs)->g.Perm cs∧∀l,M (.h b)=some l->oP M.h w (.cells .last g) l:=fun b=>by
  by_cases hb:∃cs,h[b]? = some (HB.lZ cs)
  .obtain⟨cs,hb⟩:=hb;cases hm:M (.h b)with
   |none=>exact⟨cs,fun WE h2=>⟨by rw[hb]at h2;cases h2;exact .refl _,fun l hl=>by cases hl⟩⟩
   |some l=>
    obtain⟨bb,c1,c2⟩:=hV.ok _ _ hm trivial;have c1:h[b]? = some bb:=c1;rw[hb]at c1;cases c1;cases l with
    |obj r o=>exact c2.elim
    |cells ls=>
     obtain⟨cs',p1,p2⟩:=c2;exact⟨cs',fun WE h2=>⟨by rw[hb]at h2;cases h2;exact p1,fun l hl=>by cases hl;exact p2⟩⟩
  exact⟨[],fun cs h2=>absurd ⟨cs,h2⟩ hb⟩
 let g:Nat->List TV:=fun b=>Classical.choose (hg b)
 have hgs:∀(b:Nat) cs,h[b]? = some (HB.lZ cs)->(g b).Perm cs∧∀l,M (.h b)=some l->oP M.h w (.cells .last (g b)) l:=fun b=>a8R (hg b);have hu:=Xd h g fun b cs e=>(hgs b cs e).1;generalize hh:(h.mapIdx fun b x=>match x with|HB.lZ _=>HB.cells .last (g b)|x=>x)=h' at hu;refine⟨h',hu,?_⟩;have Wq:∀(b:Nat) cs,h[b]? = some (HB.lZ cs)->h'[b]? = some (HB.cells .last (g b)):=fun b cs e=>by rw[<-hh,agI,e];rfl
 refine⟨fun k l hk _=>?_,fun k k' l l' b iy hk nT _ hc hw=>?_,hV.inb⟩
 .obtain⟨bb,c1,c2⟩:=hV.ok k l hk trivial;cases k with
  |l k=>exact⟨bb,c1,c2⟩
  |h b=>
   have c1:h[b]? = some bb:=c1;by_cases hb:∃cs,bb=.lZ cs
   .obtain⟨cs,rfl⟩:=hb;exact⟨_,Wq b cs c1,(hgs b cs c1).2 l hk⟩
   refine⟨bb,?_,c2⟩;show h'[b]? = some bb;rw[hu.1 b (fun cs=>by rw[c1];intro h2;cases h2;exact hb ⟨cs,rfl⟩),c1]
 obtain⟨bb,c1,_⟩:=hV.ok k l hk trivial;refine hV.own k k' l l' bb iy hk nT trivial c1 ?_;cases k with
 |l k=>have hc:kL h (.l k)=some b:=hc;rw[c1]at hc;cases hc;exact hw
 |h i=>
  have c1:h[i]? = some bb:=c1;have hc:h'[i]? = some b:=hc;by_cases hb:∃cs,bb=.lZ cs
  .obtain⟨cs,rfl⟩:=hb;rfl
  rw[hu.1 i (fun cs=>by rw[c1];intro h2;cases h2;exact hb ⟨cs,rfl⟩),c1]at hc;cases hc;exact hw
theorem Zu{M:Mp}{h h1:List HB}{w w':World}{v:TV}{y:Value}(hu:OA h h1)(hv:∃k n,v=.int k n)(hR:jD M h1 w v h1 [] y w'):jD M h w v h [] y w':=by
 obtain⟨M',a1,a2,a3,a4⟩:=hR;have hs:∀k,(kL h1 k).isSome=(kL h k).isSome:=fun k=>by
  cases k with
  |l k=>rfl
  |h b=>exact Sj hu b
 have JF:∀(b:Nat) bb,h1[b]? = some bb->(h[b]? = some bb∧∀cs,bb≠HB.lZ cs)∨∃cs cs',bb=HB.cells .last cs'∧cs'.Perm cs∧h[b]? = some (HB.lZ cs):=fun b bb e=>by
  by_cases hb:∃cs,h[b]? = some (HB.lZ cs)
  .obtain⟨cs,hb⟩:=hb;obtain⟨cs',p,e2⟩:=hu.2 b cs hb;rw[e]at e2;cases e2;exact .inr ⟨cs,cs',rfl,p,hb⟩
  have:=hu.1 b fun cs h2=>hb ⟨cs,h2⟩;rw[e]at this;exact .inl ⟨this.symm,fun cs h2=>hb ⟨cs,by rw[<-this,h2]⟩⟩
 refine⟨M',⟨fun k l hk _=>?_,fun k k' l l' b iy hk nT _ hc hw=>?_,a1.inb⟩,a2,⟨a3.Ic,a3.frame,fun _ _ _=>rfl,fun k hk hn=>a3.kR k ?_ hn,a3.fresh,a3.size,fun _ h=>h,fun k hk=>(by cases hk),fun k hk=>(by cases hk),a3.os,a3.output,a3.tape⟩,a4⟩
 .obtain⟨bb,c1,c2⟩:=a1.ok k l hk trivial;cases k with
  |l k=>exact⟨bb,c1,c2⟩
  |h b=>
   rcases JF b bb c1 with⟨e,_⟩|⟨cs,cs',rfl,p,e⟩
   .exact⟨bb,e,c2⟩
   refine⟨_,e,?_⟩;cases l with
   |obj r o=>exact c2.elim
   |cells ls=>exact⟨cs',p,c2⟩
 .obtain⟨bb,c1,_⟩:=a1.ok k l hk trivial;refine a1.own k k' l l' bb iy hk nT trivial c1 ?_;cases k with
  |l k=>have hc:kL h1 (.l k)=some b:=hc;rw[c1]at hc;cases hc;exact hw
  |h i=>
   have hc:h[i]? = some b:=hc;rcases JF i bb c1 with⟨e,_⟩|⟨cs,cs',rfl,p,e⟩
   .rw[hc]at e;cases e;exact hw
   rfl
 rcases hk with hk|hk
 .exact .inl (by rw[hs];exact hk)
 refine .inr ?_;have:=hs k;rw[hk]at this;cases e:kL h1 k with
 |none=>rfl
 |some x=>rw[e]at this;cases this
theorem a9K{P:Program}{f:Nat}{call:aZ}(hC:iC P call):iC P (a2Q f call):=by
 intro fv args h v h' ws hc M w x xs hV yN hx Nq;unfold a2Q at hc;split at hc
 rotate_left
 .cases hc
 rename_i hb;have hs:=a8R hb;simp only[a00,a0S]at hc;obtain⟨rfl,rfl,rfl⟩:=hc;obtain⟨hv,hfn,F9⟩:=hs;obtain⟨h1,hu,hV1⟩:=Xe hV;obtain⟨h2,xK⟩:=F9 h1 hu;obtain⟨d,e1,e2⟩:=hC _ _ _ _ _ _ xK M w x xs hV1 yN hx Nq;refine⟨d,e1,?_⟩;rcases e2 with⟨⟨f',az,q1,q2⟩,r⟩|⟨⟨l,f',tmps,uD,body,q1,q2⟩,r⟩
 .refine .inl ⟨⟨f',az,q1,fun n=>CallsIn.mono (F:=Fence.wide) (q2 n) fun en w3 VW=>?_⟩,r⟩;cases en with
  |panicked c=>exact VW.elim
  |outgrown=>exact VW.elim
  |returned y=>
   refine Zu hu hv (jD.norm (lZ:=false) hV1 yN ?_ VW);obtain⟨k,n,e⟩:=hv;rw[e];simp[NG,Bv,vX,mX,Ci,U7,KH]
 obtain⟨l',e⟩:=r;exact absurd hfn (by rw[e];nofun)
theorem a9L{f:Nat}{call:aZ}{args:List TV}{h:List HB}{k:IntKind}{n:Int}(hb:aeD f call (.fn f [] []) args h (.int k n))(iy:∃h',OA h h'):a2Q f call (.fn f [] []) args h=some (.int k n,h,[]):=by
 have hx:∃v,aeD f call (.fn f [] []) args h v:=⟨_,hb⟩;unfold a2Q;rw[dif_pos hx];obtain⟨h',hu⟩:=iy;obtain⟨h2,h1⟩:=(a8R hx).2.2 h' hu;obtain⟨h3,h4⟩:=hb.2.2 h' hu;rw[h4]at h1;have:Classical.choose hx=.int k n:=by
  simp only[a00,a0S]at h1;exact h1.1.symm
 rw[this]
end Tw
namespace Go.Proofs.YtmobpoiejckagaaGreat
def Tb:Tw.qp:={
 live:=[(5,[(0,[0,4,5]),(1,[0,4,5,17]),(2,[6]),(3,[0,4,5,7,8]),(4,[0,4,5,7,8,9]),(5,[0,4,5,7,8,9,39]),(6,[0,4,5,7,8,9]),(7,[0,4,5,7,8,9,41]),(8,[6]),(9,[6])]),
  (18,[(0,[1]),(1,[1,21]),(2,[2]),(3,[1,3]),(4,[1,3,26]),(5,[1,3]),(6,[1,3,36]),(7,[2]),(8,[2])]),
  (19,[(0,[]),(1,[1,2]),(2,[1,2,3,4]),(3,[1,2,3,4,5,6]),(4,[1,2,3,4,5,6,7,8]),(5,[1,2,3,4,5,6,7,8,9,10]),(6,[1,2,3,4,5,6,7,8,9,10,11,12]),(7,[1,2,3,4,5,6,7,8,9,10,11,12,13,14]),(8,[1,2,3,4,5,6,7,8,9,10,11,12,13,14,15,16]),(9,[1,2,3,4,5,6,7,8,9,10,11,12,13,14,16,17,18]),(10,[1,2,3,4,5,6,7,8,9,10,11,12,13,14,16,17,18,19,20]),(11,[1,3,4,5,6,7,8,9,10,11,12,13,14,16,17,18,20,21,22]),(12,[0])]),
  (20,[(0,[1,2,3,6]),(1,[1,2,3,6,8]),(2,[1,2,3,6,8,14]),(3,[6,7]),(4,[1,2,3,6,34]),(5,[6,7]),(6,[1,2,6,9]),(7,[6,9]),(8,[6,7])]),
  (21,[(0,[1,2]),(1,[1,2,3]),(2,[1,2,3,4]),(3,[1,2,3,4,21]),(4,[1,2,3,4]),(5,[1,2,3,4]),(6,[2])]),
  (22,[(0,[1]),(1,[1,3]),(2,[1,3,7]),(3,[2]),(4,[11]),(5,[2]),(6,[2])]),
  (23,[(0,[0,1,2]),(1,[6])]),
  (25,[(0,[1,3,5]),(1,[6])]),
  (27,[(0,[2,3]),(1,[3,6,7]),(2,[3,6,7,15]),(3,[4,5]),(4,[4,5])]),
  (28,[(0,[2,3]),(1,[3,6,7]),(2,[3,6,7,17]),(3,[4,5]),(4,[3,6,21]),(5,[4,5]),(6,[3,6,29,30,31]),(7,[3,6,29,30,31,32]),(8,[3,6,8,9,29,30,31]),(9,[3,6,8,29,30,31,36,37]),(10,[3,6,8,29,30,31,36,37,38]),(11,[3,6,8,10,29,30,31,36,37]),(12,[3,6,8,29,30,31,36,37]),(13,[3,6,8,29,30,31,36,37,49]),(14,[3,6,8,29,30,31,36,37]),(15,[3,6,29,30,31]),(16,[4,5])]),
  (29,[(0,[1]),(1,[1,5]),(2,[2]),(3,[2])]),
  (32,[(0,[0,1]),(1,[0,1,10]),(2,[4]),(3,[0,1,5]),(4,[0,1,5,14]),(5,[0,1,5]),(6,[0,1,5,25]),(7,[4]),(8,[4])]),
  (33,[(0,[0,4,5,6]),(1,[0,4,5,6,8]),(2,[0,4,5,6,8,17]),(3,[6,7]),(4,[0,4,5,6,25]),(5,[6,7]),(6,[0,6,9]),(7,[0,6,9]),(8,[0,6,9,36]),(9,[6]),(10,[6,7]),(11,[0,6,9,10,11]),(12,[6,9,10,11,44]),(13,[6]),(14,[6,9,10,11,44,49]),(15,[6]),(16,[6,9,10,11,44,58]),(17,[6]),(18,[6,9,10,11,44,65]),(19,[6]),(20,[6,10,11,71]),(21,[6,10]),(22,[6,10]),(23,[6,10,81]),(24,[6]),(25,[6,7])]),
  (34,[(0,[0]),(1,[0,3]),(2,[0,3,9]),(3,[0,3]),(4,[0,3,4]),(5,[0,3,4,18]),(6,[2]),(7,[0,5]),(8,[0,5,23]),(9,[0,5]),(10,[0,5,34]),(11,[2]),(12,[2])]),
  (35,[(0,[2,3]),(1,[2,3,69]),(2,[4]),(3,[2,3,5]),(4,[2,3,5,74]),(5,[2,3,5]),(6,[2,3,5,87]),(7,[4]),(8,[4])]),
  (36,[(0,[0,1,4]),(1,[0,1,4,5]),(2,[0,1,4,5,14]),(3,[4,5]),(4,[4]),(5,[0,1,4,5,6,7]),(6,[0,1,4,5,6,7,8]),(7,[0,1,4,5,6,7,8,9]),(8,[0,1,4,5,6,7,8,9,20]),(9,[0,1,4,5,6,7,8,9]),(10,[0,1,4,5,6,7,8,9,27]),(11,[0,1,4,5,6,7,8,9]),(12,[0,1,4,5,6,7,8,9,35]),(13,[0,1,4,5,6,7,8,9]),(14,[0,1,4,5,6,7,8,9]),(15,[1,4,5,6,7,8,43]),(16,[1,4,5,6,7,8,43,44]),(17,[4,5]),(18,[4,5,6,7,8,43,51]),(19,[4,5]),(20,[4,5,6,7,8,43,56]),(21,[4,5]),(22,[4,5,7,8,43,60]),(23,[4,5,8]),(24,[4,5,8]),(25,[4,5,8,70]),(26,[4,5]),(27,[4,5,7,8,82]),(28,[4,5]),(29,[4])]),
  (37,[(0,[2,3]),(1,[2,3,5]),(2,[5,6,7]),(3,[5,6,7,8]),(4,[5,6,7,8,22]),(5,[5,6,7,8]),(6,[5,6,7,8,29]),(7,[5,6,7,8]),(8,[4])]),
  (39,[(0,[0,3,4]),(1,[0,3,4,12]),(2,[4,5]),(3,[0,3,4,5]),(4,[0,3,4,5,20]),(5,[4,5]),(6,[0,3,4,25]),(7,[4,5]),(8,[0,3,4]),(9,[3,4,31,32,33]),(10,[3,4,31,32,33,34]),(11,[3,4,6,7,31,32,33]),(12,[3,4,6,8,31,32,33]),(13,[3,4,6,8,31,32,33,45]),(14,[4]),(15,[4,5]),(16,[3,4,6,9,31,32,33]),(17,[3,4,6,9,31,32,33,59]),(18,[3,4,31,32,33]),(19,[3,4,31,32,33]),(20,[4,5])]),
  (44,[(0,[1]),(1,[1,3]),(2,[1,3,7]),(3,[2]),(4,[1,3,4]),(5,[1,3,4,12]),(6,[1,3,4]),(7,[1,3,4]),(8,[2])]),
  (45,[(0,[0,4,5,6]),(1,[0,4,5,6,11]),(2,[0,4,5,6,11,12]),(3,[6,7]),(4,[0,4,5,6,20]),(5,[6,7]),(6,[4,5,6,8]),(7,[4,5,6,8,38]),(8,[6,7]),(9,[4,5,6,8,9,10]),(10,[4,5,6,8,9,47]),(11,[6,7]),(12,[6,7])]),
  (48,[(0,[0,2]),(1,[2])]),
  (49,[(0,[0]),(1,[2])]),
  (53,[(0,[0,1]),(1,[0,1,5]),(2,[0,1,5,6]),(3,[0,1,5,6,14]),(4,[0,1,5,6]),(5,[0,1,5,6]),(6,[0,1,5,6]),(7,[4])]),
  (54,[(0,[0,1]),(1,[0,1,12]),(2,[4]),(3,[4])]),
  (57,[(0,[0,1,2,3,8]),(1,[0,1,2,3,8,10]),(2,[0,1,2,3,8,10,17]),(3,[8,9]),(4,[0,1,2,3,8,36]),(5,[8,9]),(6,[0,2,3,8,11]),(7,[3,8,11,47,48]),(8,[3,8,11,47,48,49]),(9,[3,8,11,12,47,48]),(10,[3,8,11,12,47,48]),(11,[3,8,11,47,48]),(12,[3,8,11,47,48]),(13,[8,9])]),
  (58,[(0,[0,1]),(1,[0,1,8]),(2,[4]),(3,[0,1,5]),(4,[0,1,5,12]),(5,[0,1,5]),(6,[0,1,5,20]),(7,[4]),(8,[0,1,23]),(9,[4]),(10,[27]),(11,[4]),(12,[4])]),
  (62,[(0,[3,4,5,6]),(1,[3,4,5,6,8]),(2,[3,4,5,6,8,16]),(3,[6,7]),(4,[3,4,5,6,10]),(5,[3,4,5,6,10,27]),(6,[6,7]),(7,[6,7])]),
  (63,[(0,[3,4,5,6]),(1,[3,4,5,6,8]),(2,[3,4,5,6,8,15]),(3,[6,7]),(4,[6,7])]),
  (67,[(0,[1,2]),(1,[1,2,4]),(2,[1,2,4,9]),(3,[2,3]),(4,[2,3])]),
  (70,[(0,[2,3]),(1,[4])]),
  (72,[(0,[2,3]),(1,[2,3,43]),(2,[4]),(3,[2,3,5]),(4,[2,3,5,48]),(5,[2,3,5]),(6,[2,3,5,79]),(7,[4]),(8,[4])]),
  (73,[(0,[0,1]),(1,[0,1,2]),(2,[0,1,2,3]),(3,[0,1])]),
  (74,[(0,[1,2,3]),(1,[1,2,3,7]),(2,[1,2,3,7,8]),(3,[1,2,3,7,8,12]),(4,[1,2,3,7,8]),(5,[1,2,3,7,8]),(6,[6])]),
  (75,[(0,[0,1]),(1,[0,1,10]),(2,[4]),(3,[0,1,5]),(4,[0,1,5,14]),(5,[0,1,5]),(6,[0,1,5,25]),(7,[4]),(8,[4])]),
  (76,[(0,[0]),(1,[0,6,7,8]),(2,[0,6,7,8,9]),(3,[0,4,6,7,8]),(4,[0,5,6,7,8]),(5,[0,5,6,7,8,15]),(6,[2]),(7,[0,6,7,8]),(8,[30]),(9,[2]),(10,[2])]),
  (77,[(0,[0,1,2]),(1,[6])]),
  (78,[(0,[0,1,4]),(1,[4])]),
  (79,[(0,[0,2]),(1,[2])]),
  (80,[(0,[1,2]),(1,[1,2,3]),(2,[1,2,3,4]),(3,[1,2,3,4,5]),(4,[1,2,3,5]),(5,[2,3]),(6,[2,6]),(7,[2])]),
  (81,[(0,[0]),(1,[2])]),
  (82,[(0,[0]),(1,[2])]),
  (83,[(0,[1]),(1,[1,3]),(2,[1,3,10]),(3,[2]),(4,[1,15]),(5,[2]),(6,[18]),(7,[2]),(8,[2])]),
  (84,[(0,[1]),(1,[1,3]),(2,[1,3,13]),(3,[1,3]),(4,[1,3,4]),(5,[1,3,4,18]),(6,[1,3,4]),(7,[1,3,4,31]),(8,[2]),(9,[1,5]),(10,[1,5,36]),(11,[1,5]),(12,[1,5,44]),(13,[2]),(14,[1,5,6]),(15,[1,5,6,47]),(16,[1,5,6]),(17,[1,5,6,77]),(18,[2]),(19,[1,7,8]),(20,[2])]),
  (86,[(0,[2,3,4]),(1,[2,3,4,6]),(2,[2,3,4,6,11]),(3,[4,5]),(4,[2,4,16]),(5,[4,5]),(6,[4,5])]),
  (87,[(0,[1,2]),(1,[1,2,3]),(2,[2,3,8]),(3,[3,4,10]),(4,[3,4,5]),(5,[3,4,5,15]),(6,[]),(7,[2])]),
  (88,[(0,[0,2,3]),(1,[2,3,6]),(2,[2,3,6,8]),(3,[2,3,4,6]),(4,[2,3,4,6,13]),(5,[2,3,6]),(6,[2,3,6]),(7,[2,3]),(8,[2,3])]),
  (89,[(0,[0]),(1,[0])]),
  (90,[(0,[0,2]),(1,[2,6]),(2,[2,6,8]),(3,[2,4,6]),(4,[2,6]),(5,[2])]),
  (91,[(0,[1]),(1,[2])]),
  (92,[(0,[0,1]),(1,[0,1,5]),(2,[0,1,5,6]),(3,[0,1,5,6,7]),(4,[0,1,5,6,7,11]),(5,[0,1,5,6,7]),(6,[0,1,5,6,7,23]),(7,[0,1,5,6,7]),(8,[0,1,5,6,7]),(9,[0,1,5,6,7]),(10,[1,5,45]),(11,[5]),(12,[4])]),
  (93,[(0,[0]),(1,[2])]),
  (94,[(0,[0]),(1,[0,7]),(2,[0]),(3,[0,3]),(4,[0,3,4]),(5,[0,3,4,15]),(6,[0,3,4]),(7,[0,3,4]),(8,[2])]),
  (95,[(0,[0]),(1,[2])]),
  (96,[(0,[1]),(1,[2])]),
  (98,[(0,[1,2,4]),(1,[1,2,4,5]),(2,[1,2,4,5,9]),(3,[1,2,4,5]),(4,[4])]),
  (99,[(0,[3,4,5,6]),(1,[3,4,5,6,8]),(2,[6,7]),(3,[3,4,5,6,16]),(4,[6,7]),(5,[4,5,6,21]),(6,[6,7]),(7,[6,7])]),
  (100,[(0,[0,2]),(1,[0,2,6]),(2,[2]),(3,[2])]),
  (101,[(0,[0]),(1,[3]),(2,[3,4]),(3,[2]),(4,[3,6]),(5,[2]),(6,[3,8]),(7,[2]),(8,[3,10]),(9,[2]),(10,[3,13]),(11,[2]),(12,[3,16]),(13,[2]),(14,[3,19]),(15,[2]),(16,[22]),(17,[2]),(18,[2])]),
  (102,[(0,[0]),(1,[2])]),
  (103,[(0,[0,2]),(1,[0,2,4]),(2,[0,2,4,8]),(3,[2,3]),(4,[2,3])]),
  (104,[(0,[0,1]),(1,[0,1,5]),(2,[0,5,6]),(3,[0,5,6,11]),(4,[0,5,6]),(5,[0,5,6]),(6,[4])]),
  (105,[(0,[0,1]),(1,[0,1,9]),(2,[4]),(3,[0,1,13]),(4,[4]),(5,[0,1,5]),(6,[0,1,5,17,18,19]),(7,[0,1,5,17,18,19,20]),(8,[0,1,5,7,17,18,19]),(9,[0,1,5,17,18,19]),(10,[0,1,5,17,18,19]),(11,[0,1,28]),(12,[4]),(13,[0,8]),(14,[0,8]),(15,[38]),(16,[4]),(17,[4])]),
  (106,[(0,[1]),(1,[5]),(2,[2]),(3,[2])]),
  (108,[(0,[1,2]),(1,[2,4,5]),(2,[2,4,5,12]),(3,[2,3]),(4,[2,3])]),
  (109,[(0,[0,1]),(1,[0,1,11]),(2,[4]),(3,[0,1,5]),(4,[0,1,5,15]),(5,[0,1,5]),(6,[0,1,5,26]),(7,[4]),(8,[0,1,5,6]),(9,[0,1,5,6,29]),(10,[0,1,5,6]),(11,[0,1,5,6,40]),(12,[4]),(13,[4])]),
  (112,[(0,[0,1,3]),(1,[3,4]),(2,[3])]),
  (113,[(0,[0,2]),(1,[2,3]),(2,[2])]),
  (117,[(0,[0,2]),(1,[2,4]),(2,[2]),(3,[2])]),
  (121,[(0,[1]),(1,[4]),(2,[2])]),
  (122,[(0,[1,2]),(1,[4])]),
  (123,[(0,[2,3]),(1,[4])]),
  (124,[(0,[0,1]),(1,[0,1,10]),(2,[0,1]),(3,[0,5,6]),(4,[0,6,26]),(5,[0,6]),(6,[0,7]),(7,[7,8]),(8,[7,8,37]),(9,[7,8]),(10,[4])]),
  (125,[(0,[0]),(1,[0,4]),(2,[2]),(3,[2])]),
  (126,[(0,[1,2,3,4,5,6]),(1,[1,2,3,4,5,6,32]),(2,[1,2,3,4,5,6]),(3,[1,2,3,4,5,6,40]),(4,[3]),(5,[8]),(6,[1,2,3,4,5,6,9]),(7,[1,2,3,4,5,6,9,10]),(8,[1,2,3,4,5,6,9,10,68]),(9,[8]),(10,[1,2,3,4,5,6,9,11,12]),(11,[1,2,3,4,5,6,9,11,84]),(12,[8]),(13,[1,2,3,4,5,6,9,13]),(14,[1,2,3,4,5,6,9,13,93,94]),(15,[1,2,3,4,5,6,9,13,93,94,95]),(16,[1,2,3,4,5,6,9,13,14,93,94]),(17,[1,2,3,4,5,6,9,13,93,94]),(18,[1,2,3,4,5,6,9,13,93,94]),(19,[3,5,6,13]),(20,[5,6]),(21,[8])]),
  (127,[(0,[2,3,4]),(1,[2,4,10,11,12]),(2,[2,4,10,11,12,13]),(3,[2,4,7,8,10,11,12]),(4,[2,4,10,11,12,32]),(5,[6]),(6,[2,4,10,11,12]),(7,[6])]),
  (128,[(0,[2,3,4]),(1,[3,4,8,9,10]),(2,[3,4,8,9,10,11]),(3,[3,4,5,6,8,9,10]),(4,[3,4,8,9,10]),(5,[3,4,8,9,10]),(6,[4])]),
  (129,[(0,[2,3,4,5,8]),(1,[2,3,5,8,12,13,14]),(2,[2,3,5,8,12,13,14,15]),(3,[2,3,5,8,9,10,12,13,14]),(4,[2,3,5,8,9,10,12,13,14,34]),(5,[2,3,5,8,12,13,14]),(6,[2,3,5,8,12,13,14]),(7,[8])]),
  (130,[(0,[1,2]),(1,[2,6,7,8]),(2,[2,6,7,8,9]),(3,[2,3,4,6,7,8]),(4,[2,6,7,8]),(5,[2,6,7,8]),(6,[2])]),
  (131,[(0,[1]),(1,[1,3]),(2,[1,3,11]),(3,[1,3]),(4,[1,3,20]),(5,[2]),(6,[1,4]),(7,[1,4,25]),(8,[1,4]),(9,[1,4,5]),(10,[1,4,5,52]),(11,[2]),(12,[1,4,5,6]),(13,[1,4,5,6,57]),(14,[1,4,5,6]),(15,[1,4,5,6,81]),(16,[2]),(17,[2])]),
  (132,[(0,[1]),(1,[1,3]),(2,[1,3,8]),(3,[1,3]),(4,[1,3,20]),(5,[2]),(6,[2])]),
  (133,[(0,[1,2,3,4]),(1,[1,2,3,4,13]),(2,[1,2,3,18]),(3,[2,3]),(4,[8,9]),(5,[1,2,3,4,28]),(6,[8,9]),(7,[1,2,3,4,10]),(8,[1,2,3,4,10,11]),(9,[1,2,3,4,10,11,40]),(10,[1,2,3,4,10,11]),(11,[1,2,3,4,10,11]),(12,[8,9])]),
  (134,[(0,[0,1]),(1,[0,1,5]),(2,[0,1,5,9]),(3,[0,1,5]),(4,[0,1,5,17]),(5,[4]),(6,[4])]),
  (136,[(0,[1,2]),(1,[1,2,4]),(2,[1,2,4,21,22,23]),(3,[1,2,4,21,22,23,24]),(4,[1,2,4,6,21,22,23]),(5,[1,2,4,6,7,21,22,23]),(6,[1,2,6,7,21,22,23,29]),(7,[1,2,6,7,21,22,23,29,31]),(8,[1,2,6,7,8,9,21,22,23,29]),(9,[1,2,6,7,8,9,10,21,22,23,29]),(10,[1,2,6,7,8,9,10,11,21,22,23,29]),(11,[1,2,6,7,8,9,10,11,21,22,23,29,46]),(12,[1,2,6,7,21,22,23,29]),(13,[1,2,6,7,8,9,10,21,22,23,29,60]),(14,[1,2,6,7,21,22,23,29]),(15,[1,2,6,7,8,9,21,22,23,29,75,76]),(16,[1,2,6,7,8,9,21,22,23,29,75,76,77]),(17,[1,2,6,7,8,9,12,21,22,23,29,75,76]),(18,[1,2,6,7,8,9,21,22,23,29,75,76]),(19,[1,2,6,7,8,9,21,22,23,29,75,76]),(20,[1,2,4,21,22,23]),(21,[1,2,4,21,22,23]),(22,[1,2,94]),(23,[1,2,94,96]),(24,[1,2,13,14,94]),(25,[1,2,94,106])]),
  (137,[(0,[0,2]),(1,[])]),
  (138,[(0,[1,2,4]),(1,[2,4,6]),(2,[2,5]),(3,[]),(4,[4])]),
  (139,[(0,[0,6]),(1,[0,6,8]),(2,[0,4,6]),(3,[0,6,14])]),
  (140,[(0,[2,3,4]),(1,[6])]),
  (141,[(0,[0,2]),(1,[2])]),
  (142,[(0,[0,1,4]),(1,[4])]),
  (143,[(0,[0,1,4]),(1,[4])]),
  (144,[(0,[0,1,4]),(1,[4])]),
  (145,[(0,[1]),(1,[2])]),
  (146,[(0,[0]),(1,[4])]),
  (147,[(0,[1]),(1,[4])]),
  (148,[(0,[1]),(1,[2])]),
  (149,[(0,[0]),(1,[2])]),
  (150,[(0,[0]),(1,[2])]),
  (151,[(0,[0]),(1,[2])]),
  (152,[(0,[0,1]),(1,[4])]),
  (153,[(0,[1]),(1,[2])]),
  (154,[(0,[1]),(1,[1,5]),(2,[2]),(3,[2])]),
  (155,[(0,[0,1]),(1,[0,1,7,8]),(2,[0,1,7,8,9]),(3,[0,1,5,7,8]),(4,[0,1,5,7,8,16]),(5,[4]),(6,[0,1,7,8]),(7,[4])]),
  (156,[(0,[1]),(1,[2])]),
  (157,[(0,[2,3,4]),(1,[6])]),
  (158,[(0,[0,1]),(1,[0,1,10]),(2,[4]),(3,[0,1,12,13]),(4,[0,1,12,13,14]),(5,[0,1,5,12,13]),(6,[0,1,12,13,24]),(7,[4]),(8,[0,1,12,13]),(9,[4])]),
  (159,[(0,[0]),(1,[0,3]),(2,[3,7,8]),(3,[3,7,8,9]),(4,[3,4,7,8]),(5,[3,7,8]),(6,[3,7,8]),(7,[2])]),
  (160,[(0,[1,2]),(1,[1,2,4]),(2,[1,2,4,11]),(3,[2,3]),(4,[1,2]),(5,[1,2,21]),(6,[2,3]),(7,[1,2,27]),(8,[1,2,27]),(9,[2,27]),(10,[2,3]),(11,[2,3])]),
  (161,[(0,[1,2]),(1,[1,2,3]),(2,[1,2,3,4]),(3,[1,2,3,4,5]),(4,[1,2,3,5]),(5,[2,3]),(6,[2])]),
  (168,[(0,[1,2]),(1,[4])]),
  (169,[(0,[1]),(1,[2])]),
  (172,[(0,[1,2]),(1,[1,2,3]),(2,[2,3,17]),(3,[2,3]),(4,[2,3])]),
  (173,[(0,[0,1]),(1,[4])]),
  (174,[(0,[1,2]),(1,[3])]),
  (175,[(0,[0,1]),(1,[6,7]),(2,[4,5]),(3,[8,9]),(4,[4,5])]),
  (176,[(0,[1,2,3]),(1,[1,2,3,8]),(2,[6]),(3,[6])]),
  (177,[(0,[1,2]),(1,[1,2,5]),(2,[1,2,5,14]),(3,[1,2,5]),(4,[1,2,5,28]),(5,[4]),(6,[4])]),
  (178,[(0,[0,1]),(1,[0,1,5]),(2,[0,1,5,9]),(3,[0,1,5]),(4,[0,1,5,17]),(5,[4]),(6,[4])]),
  (181,[(0,[0,1]),(1,[4])]),
  (182,[(0,[0,1,2]),(1,[4])]),
  (183,[(0,[0,1,2,5]),(1,[0,1,2,5,7]),(2,[5]),(3,[5])]),
  (184,[(0,[0,1]),(1,[1,4,5]),(2,[1,4,5,20]),(3,[4,5]),(4,[4,5])]),
  (185,[(0,[0,1,2,5]),(1,[5])]),
  (186,[(0,[0,2]),(1,[2,3]),(2,[2]),(3,[2])]),
  (187,[(0,[0,1]),(1,[0,1,5]),(2,[0,1,5,6]),(3,[0,1,6,11]),(4,[12]),(5,[4]),(6,[4]),(7,[0,1,13]),(8,[4]),(9,[0,1,16]),(10,[4]),(11,[19]),(12,[4]),(13,[4])]),
  (188,[(0,[0,1,2]),(1,[4])]),
  (189,[(0,[0,3]),(1,[4])]),
  (190,[(0,[1]),(1,[1,5]),(2,[2]),(3,[2])]),
  (191,[(0,[0,3]),(1,[4])]),
  (192,[(0,[2,3]),(1,[2,3,5]),(2,[2,3,5,34]),(3,[4]),(4,[4])]),
  (193,[(0,[1,2,3,4]),(1,[1,2,3,4,10]),(2,[8]),(3,[8])]),
  (194,[(0,[1]),(1,[2])]),
  (195,[(0,[0,1,2,3,4]),(1,[0,1,2,3,4,14]),(2,[6]),(3,[0,1,2,3,4,7,8]),(4,[0,1,2,3,4,7,30]),(5,[6]),(6,[0,1,3,4,9]),(7,[0,1,3,4,9,10]),(8,[0,1,3,4,9,10,43,44,45]),(9,[0,1,3,4,9,10,43,44,45,46]),(10,[0,1,3,4,9,10,11,12,43,44,45]),(11,[0,1,3,4,9,10,43,44,45]),(12,[0,1,3,4,9,10,43,44,45]),(13,[0,3]),(14,[6])]),
  (196,[(0,[0,3]),(1,[0,3,5,6]),(2,[0,3,5,17]),(3,[0,3,5]),(4,[0,3,5]),(5,[5]),(6,[4])]),
  (197,[(0,[0]),(1,[2])]),
  (198,[(0,[0,1,5]),(1,[0,1,5,12]),(2,[6]),(3,[0,1,5,7]),(4,[0,1,5,7]),(5,[0,1,5,7,8,9]),(6,[0,1,5,7,8,32]),(7,[0,1,5,7,8]),(8,[0,1,5,8]),(9,[8]),(10,[6])]),
  (201,[(0,[1,2]),(1,[3])]),
  (203,[(0,[2,3]),(1,[2,3,5]),(2,[4])]),
  (204,[(0,[0,1]),(1,[0,1,7,8]),(2,[0,1,7,8,9]),(3,[0,1,5,7,8]),(4,[0,1,5,7,8,16]),(5,[4]),(6,[0,1,7,8]),(7,[4])]),
  (205,[(0,[0,1]),(1,[6]),(2,[4,5])]),
  (206,[(0,[0,1]),(1,[0,1,6]),(2,[0,1,6,7]),(3,[0,1,6,7,8]),(4,[0,1,6,7,8,9]),(5,[0,1,6,7,8,9,10]),(6,[0,1,6,7,9,11]),(7,[0,1,6,7,9,11,12]),(8,[0,1,6,7,9,12,13]),(9,[0,1,7,9,12,13]),(10,[0,1,4]),(11,[4,5])]),
  (218,[(0,[0,1]),(1,[0,1,7,8]),(2,[0,1,7,8,9]),(3,[0,1,5,7,8]),(4,[0,1,5,7,8,16]),(5,[4]),(6,[0,1,7,8]),(7,[4])]),
  (219,[(0,[0]),(1,[2])]),
  (220,[(0,[1,2]),(1,[3])]),
  (221,[(0,[0,1]),(1,[3])]),
  (222,[(0,[0,1,2,3]),(1,[5])]),
  (223,[(0,[1,2]),(1,[4])]),
  (224,[(0,[0,1]),(1,[3])]),
  (226,[(0,[2,3]),(1,[4])]),
  (227,[(0,[0,1]),(1,[0,1,10]),(2,[4]),(3,[0,1,12,13]),(4,[0,1,12,13,14]),(5,[0,1,5,12,13]),(6,[0,1,12,13,24]),(7,[4]),(8,[0,1,12,13]),(9,[4])]),
  (228,[(0,[0,1,2]),(1,[0,1,2,14]),(2,[6]),(3,[1,2,15,16,17]),(4,[1,2,15,16,17,18]),(5,[1,2,7,8,15,16,17]),(6,[1,2,8,9,15,16,17]),(7,[1,2,15,16,17,30]),(8,[6]),(9,[1,2,15,16,17]),(10,[6])]),
  (234,[(0,[0,1]),(1,[0,1,7,8]),(2,[0,1,7,8,9]),(3,[0,1,5,7,8]),(4,[0,1,5,7,8,16]),(5,[4]),(6,[0,1,7,8]),(7,[4])])],
 head:=[(18,[(4,[1,3])]),
  (21,[(3,[1,2,3,4])]),
  (28,[(7,[3,6,29,30,31]),(10,[3,6,8,29,30,31,36,37])]),
  (32,[(4,[0,1,5])]),
  (34,[(2,[0,3]),(8,[0,5])]),
  (35,[(4,[2,3,5])]),
  (36,[(8,[0,1,4,5,6,7,8,9])]),
  (37,[(4,[5,6,7,8])]),
  (39,[(10,[3,4,31,32,33])]),
  (44,[(5,[1,3,4])]),
  (53,[(3,[0,1,5,6])]),
  (57,[(8,[3,8,11,47,48])]),
  (58,[(4,[0,1,5])]),
  (72,[(4,[2,3,5])]),
  (74,[(3,[1,2,3,7,8])]),
  (75,[(4,[0,1,5])]),
  (76,[(2,[0,6,7,8])]),
  (84,[(2,[1,3]),(5,[1,3,4]),(10,[1,5]),(15,[1,5,6])]),
  (88,[(2,[2,3,6])]),
  (90,[(2,[2,6])]),
  (92,[(4,[0,1,5,6,7])]),
  (94,[(5,[0,3,4])]),
  (98,[(2,[1,2,4,5])]),
  (104,[(3,[0,5,6])]),
  (105,[(7,[0,1,5,17,18,19])]),
  (109,[(4,[0,1,5]),(9,[0,1,5,6])]),
  (124,[(8,[7,8])]),
  (126,[(1,[1,2,3,4,5,6]),(15,[1,2,3,4,5,6,9,13,93,94])]),
  (127,[(2,[2,4,10,11,12])]),
  (128,[(2,[3,4,8,9,10])]),
  (129,[(2,[2,3,5,8,12,13,14])]),
  (130,[(2,[2,6,7,8])]),
  (131,[(2,[1,3]),(7,[1,4]),(13,[1,4,5,6])]),
  (132,[(2,[1,3])]),
  (133,[(9,[1,2,3,4,10,11])]),
  (134,[(2,[0,1,5])]),
  (136,[(3,[1,2,4,21,22,23]),(7,[1,2,6,7,21,22,23,29]),(16,[1,2,6,7,8,9,21,22,23,29,75,76]),(23,[1,2,94])]),
  (139,[(1,[0,6])]),
  (155,[(2,[0,1,7,8])]),
  (158,[(4,[0,1,12,13])]),
  (159,[(3,[3,7,8])]),
  (177,[(2,[1,2,5])]),
  (178,[(2,[0,1,5])]),
  (195,[(9,[0,1,3,4,9,10,43,44,45])]),
  (204,[(2,[0,1,7,8])]),
  (218,[(2,[0,1,7,8])]),
  (227,[(4,[0,1,12,13])]),
  (228,[(4,[1,2,15,16,17])]),
  (234,[(2,[0,1,7,8])])],
 site:=[(61,[2]),(62,[3]),(80,[1,3,4,5]),(87,[1,3]),(96,[1]),(122,[2]),(138,[2]),(140,[3,4]),(145,[1]),(148,[1]),(157,[3,4]),(161,[1,3,4,5]),(168,[2]),(189,[3]),(191,[3]),(192,[2,3,5]),(194,[14]),(198,[5,7]),(209,[7]),(210,[9])] }
def Tm:Tw.qp:={ Tb with exts:=[],ext:=fun _ _ _=>none }
open Tw in
def aeE:aZ:=fun fv xs h=>match fv with
 |.fn f a b=>if f=94 then a2Q 94 (kM Tryz.prog Tm (2^24) 2) (.fn f a b) xs h else Oz 137 (.fn f a b) xs h
 |fv=>Oz 137 fv xs h
def T:Tw.qp:={ Tb with exts:=[94,137],ext:=aeE,ZY:=[87,88,90,138],din:=[136,139],a8I:=[138] }
end Go.Proofs.YtmobpoiejckagaaGreat
namespace Tw
open Go Go.ChangeShapes
section
variable {H:Type} {mP:TypeId×Value->H} {P:Program} {w:World}
def Rd(mP:TypeId×Value->H)(P:Program)(w:World)(t:TypeId)(d:DataW H):Prop:=∃cs,Reads mP P w t cs d
theorem aeF{t:TypeId}{k:IntKind}{d:DataW H}(ht:P.underlying t=some (.int k))(hd:Rd mP P w t d):∃n,d=.lit (.int k n)∧(Lit.int k n).wf=true:=by
 obtain⟨cs,fuel,ps,hd⟩:=hd;cases fuel with
 |zero=>simp[DataW.trod]at hd
 |succ n=>
  unfold DataW.trod at hd;rw[ht]at hd;split at hd<;>simp_all
  obtain⟨⟨_,h1⟩,rfl,_⟩:=hd;exact⟨_,rfl,h1⟩
theorem a2R{t:TypeId}{fs:Array Field}{d:DataW H}(ht:P.underlying t=some (.struct fs))(hd:Rd mP P w t d) :
  ∃ds,d=.agg ds∧ds.length=fs.size∧∀(i:Nat) f d',fs[i]? = some f->ds[i]? = some d'->Rd mP P w f.type d':=by
 obtain⟨cs,fuel,ps,hd⟩:=hd;obtain⟨zs,n,_,hx,pJ,Yg,JF⟩:=DataW.trod_struct ht hd;simp only[a0S]at hx;refine⟨zs.map (·.1),hx.1,by simpa using Yg,fun i f d' e1 e2=>?_⟩;simp only[a4h,a09]at e2;obtain⟨z,hz,rfl⟩:=e2;exact⟨_,n,z.2,by rw[JF i f e1,hz]⟩
theorem a6h{t e:TypeId}{d:DataW H}(ht:P.underlying t=some (.slice e))(hd:Rd mP P w t d) :
  d=.nil∨∃xs ys,d=.slice xs ys∧∀y∈xs++ys,Rd mP P w e y:=by
 obtain⟨cs,fuel,ps,hd⟩:=hd;rcases Deep.open_slice ht hd with⟨rfl,hx⟩|⟨a,len,cap,m,n,Dt,Pl,rfl,_,hlc,_,hm,hx,JF⟩
 .left;cases hx;rfl
 .right;simp only[a2d]at hm;subst hm;simp only[a0S]at hx;refine⟨_,_,hx.1,fun y hy=>?_⟩;have:∃i,i<m∧y=Dt i:=by
   rcases a3K.mp hy with hy|hy
   .obtain⟨i,hi,rfl⟩:=a1f.mp hy;exact⟨i,by have:=a4f.mp hi;omega,rfl⟩
   .obtain⟨i,hi,rfl⟩:=a1f.mp hy;exact⟨len+i,by have:=a4f.mp hi;omega,rfl⟩
  obtain⟨i,hi,rfl⟩:=this;obtain⟨cs',_,e2⟩:=JF i hi;exact⟨cs',n,_,e2⟩
theorem Xf{t:TypeId}{fs:Array Field}{g:Nat}{ds:List (DataW H)}{h:List HB}(ht:P.underlying t=some (.struct fs)) :
  Cj P (g+1) t (.agg ds) h=match NR P (Cj P g) 0 fs.toList ds h with
   |some (cs,h1)=>if cs.length=P.cellsOf t then some (cs,h1)else none
   |none=>none:=by
 simp only[Cj,ht]<;>rfl
end
end Tw
namespace Go.Proofs.YtmobpoiejckagaaGreat
open Go Tw Pv
structure Rw where
 fr:List Int
 to:List Int
 cell:V
 deriving DecidableEq
structure Br where
 var:Int
 ay:List Int
 deriving DecidableEq
structure Dg where
 aA:List Int
 aH:List Int
 aO:List V
 au:List Br
 root:Int
 deriving DecidableEq
structure Ld where
 s:List Int
 cells:List V
 deriving DecidableEq
structure Fc where
 name:ByteArray
 d:Dg
 deriving DecidableEq
structure Pc where
 facts:Int
 goal:Bool
 deriving DecidableEq
abbrev kJ:Dg:=⟨[],[],[],[],0⟩
abbrev Fc0:Fc:=⟨⟨#[]⟩,kJ⟩
abbrev Pc0:Pc:=⟨0,false⟩
abbrev Rw0:Rw:=⟨[],[],V0⟩
abbrev mQ:Br:=⟨0,[]⟩
abbrev Ld0:Ld:=⟨[],[]⟩
inductive Kd where
 |i64|u8|u16|u64|b|o|k|v|rw|br|tb|vs|ld|dg|is|fc|pc|bl|bs|no
def Kd.T:Kd->Type
 |.i64|.u8|.u16|.u64=>Int
 |.dg=>Dg
 |.is=>List Int
 |.fc=>Fc
 |.pc=>Pc
 |.bl=>Bool
 |.bs=>List Bool
 |.b=>B
 |.o=>O
 |.k=>K
 |.v=>V
 |.rw=>Rw
 |.br=>Br
 |.tb=>List Rw
 |.vs=>List V
 |.ld=>Ld
 |.no=>Unit
def kd(t:Nat):Kd:=match t with
 | 3=>.i64
 | 5=>.u8
 | 900001=>.b
 | 900002=>.o
 | 900003=>.k
 | 900004=>.u16
 | 900005=>.u64
 | 26=>.dg
 | 22=>.is
 | 900006=>.fc
 | 900007=>.pc
 | 4=>.bl
 | 900008=>.bs
 | 39=>.v
 | 900009=>.rw
 | 105=>.br
 | 900010=>.tb
 | 23=>.vs
 | 900011=>.ld
 |_=>.no
def aF(t:Nat):Type:=(kd t).T
def Kd.z:(k:Kd)->k.T
 |.i64|.u8|.u16|.u64=>(0:Int)
 |.dg=>kJ
 |.is=>([]:List Int)
 |.fc=>Fc0
 |.pc=>Pc0
 |.bl=>false
 |.bs=>([]:List Bool)
 |.b=>B0
 |.o=>O0
 |.k=>K0
 |.v=>V0
 |.rw=>Rw0
 |.br=>mQ
 |.tb=>([]:List Rw)
 |.vs=>([]:List V)
 |.ld=>Ld0
 |.no=>()
abbrev lI(l:List Int):PV aF:=.dw 3 l false
abbrev lV(l:List V):PV aF:=.dw 39 l false
abbrev lRw(l:List Rw):PV aF:=.dw 900009 l false
abbrev lBr(l:List Br):PV aF:=.dw 105 l false
abbrev lDg(l:List Dg):PV aF:=.dw 26 l false
abbrev lB(l:List Bool):PV aF:=.dw 4 l false
def B.ps(b:B):List (PV aF):=[.int .i64 b.lo,.int .i64 b.hi,.int .u8 b.f]
def O.ps(o:O):List (PV aF):=[.int .u8 o.code,.int .i64 o.a,.int .i64 o.b,.int .i64 o.c,.int .i64 o.n]
def K.ps(c:K):List (PV aF):=[.str c.name,.int .i64 c.lo,.int .i64 c.hi]
def V.ps(v:V):List (PV aF):=[.int .u8 v.f,.int .i64 v.n]
def Rw.ps(r:Rw):List (PV aF):=[lI r.fr,lI r.to,.int .u8 r.cell.f,.int .i64 r.cell.n]
def Br.ps(b:Br):List (PV aF):=[.int .i64 b.var,lI b.ay]
def Ld.ps(x:Ld):List (PV aF):=[lI x.s,lV x.cells]
def Dg.ps(d:Dg):List (PV aF):=[lI d.aA,lI d.aH,lV d.aO,lBr d.au,.int .i64 d.root]
def Fc.ps(x:Fc):List (PV aF):=.str x.name::x.d.ps
def Pc.ps(x:Pc):List (PV aF):=[.int .u64 x.facts,.bool x.goal]
def B.un(l:List (PV aF)):Option B:=match l with
 | [.int .i64 a,.int .i64 b,.int .u8 c]=>some ⟨a,b,c⟩
 |_=>none
def O.un(l:List (PV aF)):Option O:=match l with
 | [.int .u8 c,.int .i64 x,.int .i64 y,.int .i64 z,.int .i64 n]=>some ⟨c,x,y,z,n⟩
 |_=>none
def K.un(l:List (PV aF)):Option K:=match l with
 | [.str c,.int .i64 x,.int .i64 y]=>some ⟨c,x,y⟩
 |_=>none
def V.un(l:List (PV aF)):Option V:=match l with
 | [.int .u8 c,.int .i64 x]=>some ⟨c,x⟩
 |_=>none
def I.un(k:IntKind)(l:List (PV aF)):Option Int:=match l with
 | [.int k' x]=>if k'=k then some x else none
 |_=>none
def L.un(t:Nat)(v:PV aF):Option (List (aF t)):=match v with
 |.dw t' l _=>Cm t t' l
 |.nil .slc=>some []
 |_=>none
def Rw.un(l:List (PV aF)):Option Rw:=match l with
 | [a,b,.int .u8 c,.int .i64 x]=>match L.un 3 a,L.un 3 b with
  |some a,some b=>some ⟨a,b,⟨c,x⟩⟩
  |_,_=>none
 |_=>none
def Br.un(l:List (PV aF)):Option Br:=match l with
 | [.int .i64 x,a]=>match L.un 3 a with
  |some a=>some ⟨x,a⟩
  |none=>none
 |_=>none
def Tb.un(l:List (PV aF)):Option (List Rw):=match l with
 | [a]=>L.un 900009 a
 |_=>none
def Vs.un(l:List (PV aF)):Option (List V):=match l with
 | [a]=>L.un 39 a
 |_=>none
def Ld.un(l:List (PV aF)):Option Ld:=match l with
 | [a,b]=>match L.un 3 a,L.un 39 b with
  |some a,some b=>some ⟨a,b⟩
  |_,_=>none
 |_=>none
def Dg.un(l:List (PV aF)):Option Dg:=match l with
 | [a,b,c,d,.int .i64 r]=>match L.un 3 a,L.un 3 b,L.un 39 c,L.un 105 d with
  |some a,some b,some c,some d=>some ⟨a,b,c,d,r⟩
  |_,_,_,_=>none
 |_=>none
def Is.un(l:List (PV aF)):Option (List Int):=match l with
 | [a]=>L.un 3 a
 |_=>none
def Fc.un(l:List (PV aF)):Option Fc:=match l with
 |.str n::r=>(Dg.un r).map (⟨n,·⟩)
 |_=>none
def Pc.un(l:List (PV aF)):Option Pc:=match l with
 | [.int .u64 n,.bool b]=>some ⟨n,b⟩
 |_=>none
def Bl.un(l:List (PV aF)):Option Bool:=match l with
 | [.bool b]=>some b
 |_=>none
def Bs.un(l:List (PV aF)):Option (List Bool):=match l with
 | [a]=>L.un 4 a
 |_=>none
def Kd.enc:(k:Kd)->k.T->List (PV aF)
 |.i64=>fun n=>[.int .i64 n]
 |.u8=>fun n=>[.int .u8 n]
 |.u16=>fun n=>[.int .u16 n]
 |.u64=>fun n=>[.int .u64 n]
 |.dg=>Dg.ps
 |.is=>fun l=>[lI l]
 |.fc=>Fc.ps
 |.pc=>Pc.ps
 |.bl=>fun b=>[.bool b]
 |.bs=>fun l=>[lB l]
 |.b=>B.ps
 |.o=>O.ps
 |.k=>K.ps
 |.v=>V.ps
 |.rw=>Rw.ps
 |.br=>Br.ps
 |.tb=>fun l=>[lRw l]
 |.vs=>fun l=>[lV l]
 |.ld=>Ld.ps
 |.no=>fun _=>[]
def Kd.dec:(k:Kd)->List (PV aF)->Option k.T
 |.i64=>I.un .i64
 |.u8=>I.un .u8
 |.u16=>I.un .u16
 |.u64=>I.un .u64
 |.dg=>Dg.un
 |.is=>Is.un
 |.fc=>Fc.un
 |.pc=>Pc.un
 |.bl=>Bl.un
 |.bs=>Bs.un
 |.b=>B.un
 |.o=>O.un
 |.k=>K.un
 |.v=>V.un
 |.rw=>Rw.un
 |.br=>Br.un
 |.tb=>Tb.un
 |.vs=>Vs.un
 |.ld=>Ld.un
 |.no=>fun _=>none
def X0:kE:=⟨aF,fun t=>(kd t).z,fun t=>(kd t).enc,fun t=>(kd t).dec⟩
theorem B.uT{l:List (PV aF)}{b:B}(h:B.un l=some b):B.ps b=l:=by
 unfold B.un at h;split at h
 .cases h;rfl
 cases h
theorem O.uT{l:List (PV aF)}{b:O}(h:O.un l=some b):O.ps b=l:=by
 unfold O.un at h;split at h
 .cases h;rfl
 cases h
theorem K.uT{l:List (PV aF)}{b:K}(h:K.un l=some b):K.ps b=l:=by
 unfold K.un at h;split at h
 .cases h;rfl
 cases h
theorem V.uT{l:List (PV aF)}{b:V}(h:V.un l=some b):V.ps b=l:=by
 unfold V.un at h;split at h
 .cases h;rfl
 cases h
theorem I.uT{k:IntKind}{l:List (PV aF)}{b:Int}(h:I.un k l=some b):[PV.int k b]=l:=by
 unfold I.un at h;split at h
 .split at h
  .rename_i e;cases h;rw[e]
  cases h
 cases h
section
variable {A:Nat->Prop} {m:List MB} {h:List HB}
theorem L.iP{t:Nat}{v:PV aF}{l:List (aF t)}(hu:L.un t v=some l){x:TV}(hv:VR X0 Tryz.prog A m h v x):VR X0 Tryz.prog A m h (.dw t l false) x:=(a5V (X:=X0) (P:=Tryz.prog) t).ok (a:=l) (v:=v) (by
 cases v with
 |nil k=>cases k<;>first|exact hu|cases hu
 |dw t' l' f=>exact hu
 |_=>cases hu) hv
theorem Rw.iP{l:List (PV aF)}{r:Rw}(hu:Rw.un l=some r){xs:List TV}(hv:bV X0 Tryz.prog A m h l xs):bV X0 Tryz.prog A m h r.ps xs:=by
 unfold Rw.un at hu;split at hu
 .split at hu
  .rename_i e1 e2;cases hu;obtain⟨x1,r1,rfl,h1,hv⟩:=hv.inv;obtain⟨x2,r2,rfl,h2,hv⟩:=hv.inv;exact .cons (L.iP e1 h1) (.cons (L.iP e2 h2) hv)
  cases hu
 cases hu
theorem Br.iP{l:List (PV aF)}{r:Br}(hu:Br.un l=some r){xs:List TV}(hv:bV X0 Tryz.prog A m h l xs):bV X0 Tryz.prog A m h r.ps xs:=by
 unfold Br.un at hu;split at hu
 .split at hu
  .rename_i e1;cases hu;obtain⟨x1,r1,rfl,h1,hv⟩:=hv.inv;obtain⟨x2,r2,rfl,h2,hv⟩:=hv.inv;exact .cons h1 (.cons (L.iP e1 h2) hv)
  cases hu
 cases hu
theorem Ld.iP{l:List (PV aF)}{r:Ld}(hu:Ld.un l=some r){xs:List TV}(hv:bV X0 Tryz.prog A m h l xs):bV X0 Tryz.prog A m h r.ps xs:=by
 unfold Ld.un at hu;split at hu
 .split at hu
  .rename_i e1 e2;cases hu;obtain⟨x1,r1,rfl,h1,hv⟩:=hv.inv;obtain⟨x2,r2,rfl,h2,hv⟩:=hv.inv;exact .cons (L.iP e1 h1) (.cons (L.iP e2 h2) hv)
  cases hu
 cases hu
theorem Tb.iP{l:List (PV aF)}{r:List Rw}(hu:Tb.un l=some r){xs:List TV}(hv:bV X0 Tryz.prog A m h l xs):bV X0 Tryz.prog A m h [lRw r] xs:=by
 rcases l with _|⟨a,_|⟨b,l⟩⟩
 .cases hu
 .obtain⟨x1,r1,rfl,h1,hv⟩:=hv.inv;exact .cons (L.iP hu h1) hv
 cases hu
theorem Vs.iP{l:List (PV aF)}{r:List V}(hu:Vs.un l=some r){xs:List TV}(hv:bV X0 Tryz.prog A m h l xs):bV X0 Tryz.prog A m h [lV r] xs:=by
 rcases l with _|⟨a,_|⟨b,l⟩⟩
 .cases hu
 .obtain⟨x1,r1,rfl,h1,hv⟩:=hv.inv;exact .cons (L.iP hu h1) hv
 cases hu
theorem Dg.iP{l:List (PV aF)}{r:Dg}(hu:Dg.un l=some r){xs:List TV}(hv:bV X0 Tryz.prog A m h l xs):bV X0 Tryz.prog A m h r.ps xs:=by
 unfold Dg.un at hu;split at hu
 .split at hu
  .rename_i e1 e2 e3 e4;cases hu;obtain⟨x1,r1,rfl,h1,hv⟩:=hv.inv;obtain⟨x2,r2,rfl,h2,hv⟩:=hv.inv;obtain⟨x3,r3,rfl,h3,hv⟩:=hv.inv;obtain⟨x4,r4,rfl,h4,hv⟩:=hv.inv;exact .cons (L.iP e1 h1) (.cons (L.iP e2 h2) (.cons (L.iP e3 h3) (.cons (L.iP e4 h4) hv)))
  cases hu
 cases hu
theorem Is.iP{l:List (PV aF)}{r:List Int}(hu:Is.un l=some r){xs:List TV}(hv:bV X0 Tryz.prog A m h l xs):bV X0 Tryz.prog A m h [lI r] xs:=by
 rcases l with _|⟨a,_|⟨b,l⟩⟩
 .cases hu
 .obtain⟨x1,r1,rfl,h1,hv⟩:=hv.inv;exact .cons (L.iP hu h1) hv
 cases hu
theorem Bs.iP{l:List (PV aF)}{r:List Bool}(hu:Bs.un l=some r){xs:List TV}(hv:bV X0 Tryz.prog A m h l xs):bV X0 Tryz.prog A m h [lB r] xs:=by
 rcases l with _|⟨a,_|⟨b,l⟩⟩
 .cases hu
 .obtain⟨x1,r1,rfl,h1,hv⟩:=hv.inv;exact .cons (L.iP hu h1) hv
 cases hu
theorem Bl.uT{l:List (PV aF)}{b:Bool}(h:Bl.un l=some b):[PV.bool b]=l:=by
 unfold Bl.un at h;split at h
 .cases h;rfl
 cases h
theorem Fc.iP{l:List (PV aF)}{r:Fc}(hu:Fc.un l=some r){xs:List TV}(hv:bV X0 Tryz.prog A m h l xs):bV X0 Tryz.prog A m h r.ps xs:=by
 unfold Fc.un at hu;split at hu
 .obtain⟨d,e1,rfl⟩:=a09.1 hu;obtain⟨x1,r1,rfl,h1,hv⟩:=hv.inv;exact .cons h1 (Dg.iP e1 hv)
 cases hu
theorem Pc.uT{l:List (PV aF)}{b:Pc}(h:Pc.un l=some b):Pc.ps b=l:=by
 unfold Pc.un at h;split at h
 .cases h;rfl
 cases h
theorem a9M:∀(k:Kd) {l:List (PV aF)} {a:k.T},k.dec l=some a->∀{xs:List TV},bV X0 Tryz.prog A m h l xs->bV X0 Tryz.prog A m h (k.enc a) xs
 |.i64,_,_,e,_,hv=>by rw[show Kd.enc .i64 _=_ from I.uT e];exact hv
 |.u8,_,_,e,_,hv=>by rw[show Kd.enc .u8 _=_ from I.uT e];exact hv
 |.u16,_,_,e,_,hv=>by rw[show Kd.enc .u16 _=_ from I.uT e];exact hv
 |.u64,_,_,e,_,hv=>by rw[show Kd.enc .u64 _=_ from I.uT e];exact hv
 |.dg,_,_,e,_,hv=>Dg.iP e hv
 |.is,_,_,e,_,hv=>Is.iP e hv
 |.fc,_,_,e,_,hv=>Fc.iP e hv
 |.pc,_,_,e,_,hv=>by rw[show Kd.enc .pc _=_ from Pc.uT e];exact hv
 |.bl,_,_,e,_,hv=>by rw[show Kd.enc .bl _=_ from Bl.uT e];exact hv
 |.bs,_,_,e,_,hv=>Bs.iP e hv
 |.b,_,_,e,_,hv=>by rw[show Kd.enc .b _=_ from B.uT e];exact hv
 |.o,_,_,e,_,hv=>by rw[show Kd.enc .o _=_ from O.uT e];exact hv
 |.k,_,_,e,_,hv=>by rw[show Kd.enc .k _=_ from K.uT e];exact hv
 |.v,_,_,e,_,hv=>by rw[show Kd.enc .v _=_ from V.uT e];exact hv
 |.rw,_,_,e,_,hv=>Rw.iP e hv
 |.br,_,_,e,_,hv=>Br.iP e hv
 |.tb,_,_,e,_,hv=>Tb.iP e hv
 |.vs,_,_,e,_,hv=>Vs.iP e hv
 |.ld,_,_,e,_,hv=>Ld.iP e hv
 |.no,_,_,e,_,_=>by cases e
end
theorem a2S:∀(k:Kd) (a:k.T),jc.Gu (k.enc a)=true:=by
 intro k a;cases k<;>rfl
theorem hX:bM X0 Tryz.prog:=⟨fun{t} vs a e {A m hh xs} hv=>a9M (kd t) e hv,fun t a=>a2S (kd t) a⟩
abbrev Arg(α:Type):=Ar X0 Tryz.prog α
def iA:Arg Int:=aem .i64
def uA:Arg Int:=aem .u8
def tA:Arg Bool:=ai5
def vA:Arg V:=ai6 hX 39
def brA:Arg Br:=ai6 hX 105
def ql:Arg (List Int):=a5V 3
def Zv:Arg (List V):=a5V 39
def a9N:Arg (List Br):=a5V 105
def aik:Arg (List Dg):=a5V 26
def pA:Arg Int:=aem .u64
def dA:Arg Dg:=aeo (a5W (KL ql (a4 ql Zv a9N iA))) (fun p=>⟨p.1,p.2.1,p.2.2.1,p.2.2.2.1,p.2.2.2.2⟩) (fun d=>(d.aA,d.aH,d.aO,d.au,d.root)) fun _=>rfl
abbrev LL:Nat:=2^24
abbrev Gd(fK:eY aF):Prop:=Pv.Good X0 Tryz.prog T LL fK
abbrev bQ(n:Nat):aZ:=kM Tryz.prog T LL n
theorem Sl:ah<LL:=by decide
abbrev Lp(n f k:Nat)(s:aQ aF)(e:Ex)(s':aQ aF):Prop:=dL X0 Tryz.prog T (bQ n) LL f false (BG Tryz.prog f) 0 (.loop (RS Tryz.prog f k)) s e s'
abbrev Ok(n:Nat)(fK:eY aF):Prop:=jr X0 Tryz.prog (bQ n) fK
abbrev xi(n:Int):PE aF:=.val (.int .i64 n)
abbrev xu(n:Int):PE aF:=.val (.int .u8 n)
abbrev xt(b:Bool):PE aF:=.val (.bool b)
abbrev xl(b:Bool):PE aF:=.val (.lit b)
abbrev xL(t:Nat)(l:List (aF t)):PE aF:=.val (.dw t l false)
abbrev xo(b:Nat):PE aF:=.val (.own b)
theorem le0:0<=ah:=by decide
theorem le1:1<=ah:=by decide
theorem Yk:2<=ah:=by decide
theorem le3:3<=ah:=by decide
theorem le8:8<=LL:=by decide
theorem fZ{n:Nat}:Ok n (a9E (X:=X0)):=fun f vs v ext ps h=>by cases h
abbrev OB(n f k B:Nat)(s:aQ aF)(e:Ex)(s':aQ aF):Prop:=dL X0 Tryz.prog T (bQ n) LL f false (BG Tryz.prog f) B (.loop (RS Tryz.prog f k)) s e s'
abbrev Qp:Program:=Tryz.prog
theorem aN{β:Type}{n f:Nat}{fK:eY aF}(hO:Ok n fK){vs:List (PV aF)}{an:PT aF}{r:Ar X0 Tryz.prog β}{s:β}{o:OT (Option (PV aF))}(ht:Fp (Is r s) an o)
  (hk:(CJ X0 Tryz.prog T fK (aX X0 Tryz.prog (bQ n)) (Bg X0 Tryz.prog T (bQ n) LL f 0) LL f vs [] an).map frz=o:=by kernel_rfl):mY X0 Tryz.prog (bQ (n+1)) f vs (r.put s) []:=ai8 hX hO hk ht
theorem jd{β:Type}{n f:Nat}{fK:eY aF}(hO:Ok n fK){first xs cap:List (PV aF)}{H H1:List (PB aF)}{an:PT aF}{r:Ar X0 Tryz.prog β}{s:β}{o:OT (PV aF×List (PB aF))}(ht:Fp (IsS r s H1) an o)
  (hk:CJ X0 Tryz.prog T fK (aX X0 Tryz.prog (bQ n)) (Bg X0 Tryz.prog T (bQ n) LL f H.length) LL f (first++xs++cap) H an=o:=by kernel_rfl):aX X0 Tryz.prog (bQ (n+1)) (.fn f first cap) xs H (r.put s) H1:=CV hX hO hk ht
theorem fP{n f:Nat}{fK:eY aF}(hO:Ok n fK){first xs cap:List (PV aF)}{H H1:List (PB aF)}{v:PV aF}{an:PT aF}{o:OT (PV aF×List (PB aF))}(ht:Fp (IsE (X:=X0) v H1) an o)
  (hk:CJ X0 Tryz.prog T fK (aX X0 Tryz.prog (bQ n)) (Bg X0 Tryz.prog T (bQ n) LL f H.length) LL f (first++xs++cap) H an=o:=by kernel_rfl):aX X0 Tryz.prog (bQ (n+1)) (.fn f first cap) xs H v H1:=qP hX hO hk ht
theorem aK{call:aZ}{fK:eY aF}{L f:Nat}{gU:Bool}{nt B:Nat}(hO:jr X0 Tryz.prog call fK){b:Code}{n:Nat}{ps:aQ aF}{an:PT aF}{e:Ex}{s:aQ aF}{o:OT (Ex×aQ aF)}(ht:Fp (Rnd X0 Tryz.prog T call L f gU nt B b n e s) an o)
  (hk:jF X0 Tryz.prog T fK (aX X0 Tryz.prog call) (dL X0 Tryz.prog T call L f gU nt B) B L f gU nt b ps an (ael (gJ X0 (T.eP f (dR b))) B)=o:=by kernel_rfl):dH X0 Tryz.prog T call L f gU nt B b (n+1) ps e s:=round hX hO hk ht
abbrev a6i(f:Nat)(a c:List (PV aF))(H:List (PB aF))(l:List Int)(i:Int)(x:List (Nat×PE aF)):aQ aF:=⟨[(0,xL 3 l),(1,.val (.fn f a c)),(7,xi l.length),(8,xi i)]++x,[],H⟩
def z218(f:Nat)(a c:List (PV aF))(H:List (PB aF))(l:List Int):Unit⊕(Nat×Int×Unit)->Ex×aQ aF
 |.inl _=>(.exit 0,a6i f a c H l l.length [(9,xl false)])
 |.inr r=>(.ret,⟨[(4,xi r.1)],[],H⟩)
theorem aog{n f:Nat}{a c:List (PV aF)}{H:List (PB aF)}{g:Int->Bool}(hf:∀x,aX X0 Qp (bQ n) (.fn f a c) [.int .i64 x] H (.bool (g x)) H)(l:List Int)(hl:l.length<=ah):aX X0 Qp (bQ (n+1)) (.fn 218 [] []) [.dw 3 l false,.fn f a c] H (iA.put (qR g l)) H:=by
 have lp:OB n 218 0 H.length (a6i f a c H l 0 []) (z218 f a c H l (lS (oU g) l 0 ())).1 (z218 f a c H l (lS (oU g) l 0 ())).2:=
  WW (st:=fun i _=>a6i f a c H l i []) (0:Int) (fun _ _=>True) (by kernel_rfl) hl Sl trivial (fun k s n hk _ ih=>aK fZ (.b (aW hk) (.o (aG hk) (.k (hf (l.getD k (0:Int))) (.ls (.ou nofun) (.nx (ih _ trivial))))))) (fun s _=>aK fZ (.b (eX l.length) (.ou nofun)))
 exact jd fZ (first:=[]) (cap:=[]) (.szh (fun h=>.w (jV lp () h) .sr) (fun h=>.w (jW lp (0,0,()) h) .sr))
theorem ail{n f:Nat}(hn:0<n){a c:List (PV aF)}{H:List (PB aF)}{g:Int->Bool}(hf:∀x,aX X0 Qp (bQ (n-1)) (.fn f a c) [.int .i64 x] H (.bool (g x)) H)(l:List Int)(hl:l.length<=ah):aX X0 Qp (bQ (n+1)) (.fn 181 [] []) [.dw 3 l false,.fn f a c] H (tA.put (lW g l)) H:=by
 have h1:=aog hf l hl;rw[show n-1+1=n by omega]at h1;exact jd fZ (first:=[]) (cap:=[]) (.k h1 .sr)
abbrev aeG(f:Nat)(a c:List (PV aF))(H:List (PB aF))(l:List V)(i:Int)(x:List (Nat×PE aF)):aQ aF:=⟨[(0,xL 39 l),(1,.val (.fn f a c)),(7,xi l.length),(8,xi i)]++x,[],H⟩
def ain(f:Nat)(a c:List (PV aF))(H:List (PB aF))(l:List V):Unit⊕(Nat×V×Unit)->Ex×aQ aF
 |.inl _=>(.exit 0,aeG f a c H l l.length [(9,xl false)])
 |.inr r=>(.ret,⟨[(4,xi r.1)],[],H⟩)
theorem aio{n f:Nat}{a c:List (PV aF)}{H:List (PB aF)}{g:V->Bool}(hf:∀x,aX X0 Qp (bQ n) (.fn f a c) [.agg x.ps] H (.bool (g x)) H)(l:List V)(hl:l.length<=ah):aX X0 Qp (bQ (n+1)) (.fn 155 [] []) [.dw 39 l false,.fn f a c] H (iA.put (iE g l)) H:=by
 have lp:OB n 155 0 H.length (aeG f a c H l 0 []) (ain f a c H l (lS (ji g) l 0 ())).1 (ain f a c H l (lS (ji g) l 0 ())).2:=
  WW (st:=fun i _=>aeG f a c H l i []) V0 (fun _ _=>True) (by kernel_rfl) hl Sl trivial (fun k s n hk _ ih=>aK fZ (.b (aW hk) (.o (aG hk) (.k (hf (l.getD k V0)) (.ls (.ou nofun) (.nx (ih _ trivial))))))) (fun s _=>aK fZ (.b (eX l.length) (.ou nofun)))
 exact jd fZ (first:=[]) (cap:=[]) (.szh (fun h=>.w (jV lp () h) .sr) (fun h=>.w (jW lp (0,V0,()) h) .sr))
theorem aeH{n f:Nat}(hn:0<n){a c:List (PV aF)}{H:List (PB aF)}{g:V->Bool}(hf:∀x,aX X0 Qp (bQ (n-1)) (.fn f a c) [.agg x.ps] H (.bool (g x)) H)(l:List V)(hl:l.length<=ah):aX X0 Qp (bQ (n+1)) (.fn 152 [] []) [.dw 39 l false,.fn f a c] H (tA.put (pG g l)) H:=by
 have h1:=aio hf l hl;rw[show n-1+1=n by omega]at h1;exact jd fZ (first:=[]) (cap:=[]) (.k h1 .sr)
end Go.Proofs.YtmobpoiejckagaaGreat
