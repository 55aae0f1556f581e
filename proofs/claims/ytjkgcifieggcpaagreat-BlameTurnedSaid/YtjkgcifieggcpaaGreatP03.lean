/- Part 4 of a proof: closed runs of the given program, and the readings of its code that they use. -/
import Derived.Shelf.Spec.SlicesInsert
import Derived.Shelf.Spec.SlicesInsertGrow
import Derived.Shelf.Sort.Plain
import Derived.Shelf.Slices.In.SortNone
import Derived.Test.YtjkgcifieggcpaaGreatProg
import Derived.KernelRfl
import Derived.Test.YtjkgcifieggcpaaGreatP02
set_option linter.constructorNameAsVariable false
set_option linter.unusedVariables false
set_option linter.unusedSimpArgs false
set_option linter.unusedSectionVars false
namespace Pv
open Go Tw
section
variable {X:iR} {P:Program} {A B F:Nat->Prop} {m m':List MB} {h h':List HB} {H H':List (PB X.Γ)}
variable {call:ay} {kX:iO X.Γ} {site:Nat->Bool} {ρ:Type} {y:ρ}
def V3 (X:iR) (P:Program) (A:Nat->Prop) (m:List MB) (call:ay) (site:Nat->Bool) (ts:St) (o:Oper) (k:PE X.Γ->aW X.Γ->PI->PT X.Γ->OT ρ) (y:ρ):Prop:=
 ∃ pe fK pi Bo,OpR X P A m call site ts o pe fK pi∧(k pe fK pi Bo).Ends y
theorem lD {ps:aW X.Γ} {ts:St} (hR:nS X P A m ps ts) {o:Oper} {k:PE X.Γ->aW X.Γ->PI->PT X.Γ->OT ρ} {r:Option (TV×St×gy)} {v:PV X.Γ} {H1:List (PB X.Γ)} {pi:PI} {an:PT X.Γ} (hm:G5 X P A m ts r v H1 pi)
  (ho:jq P call site ts o=r.map fun (v,s,i)=>(.val v,s,i)) (hk:(k (.val v) { ps with heap:=H1 } pi an).Ends y):V3 X P A m call site ts o k y:=by
 obtain⟨w,h1,ti,m1,rfl,e1,e2,e3,e4,e5,e6⟩:=hm;exact⟨.val v,_,_,_,⟨.val w,_,ti,m1,ho,rfl,rfl,hR.step e1 e3 e4,e2,e3,e4,e5,e6⟩,hk⟩
theorem dY {ps:aW X.Γ} {ts:St} (hR:nS X P A m ps ts) {o:Oper} {k:PE X.Γ->aW X.Γ->PI->PT X.Γ->OT ρ} {v:PV X.Γ} {w:TV} {pi:PI} {an:PT X.Γ} (hv:VR X P (AA A m) m ts.heap v w) (ho:jq P call site ts o=some (.val w,ts,aA)) (hk:(k (.val v) ps pi an).Ends y):V3 X P A m call site ts o k y:=
 ⟨.val v,_,_,_,nH hR ho (iQ hv),hk⟩
theorem a2d {op:BinOp} {a b v:PV X.Γ} {ta tb:TV} {ps:List Prop} {t:TypeId} {x z:Operand} (ha:VR X P A m h a ta) (hb:VR X P A m h b tb) (hd:a1J op a b=some (v,ps)) (hp:∀ p∈ps,p) :
  ∃ w,kH P op t x z ta tb=some w∧VR X P A m h v w:=by
 unfold a1J at hd;split at hd
 ·cases ha with
  | gone hi _ _=>simp[aG] at hi
  | int=>
   cases hb with
   | gone hi _ _=>simp[aG] at hi
   | int=>
    split at hd
    ·split at hd
     ·rename_i e;subst e;cases hd;exact⟨_,Uw (hp _ (.head _)),.int _ _⟩
     ·cases hd
    ·split at hd
     ·rename_i e;subst e;cases hd;exact⟨_,Ux (hp _ (.head _)),.int _ _⟩
     ·cases hd
    ·cases hd;exact⟨_,Ut (hp _ (.head _)),.int _ _⟩
    ·cases hd;exact⟨_,Uu (hp _ (.head _)),.int _ _⟩
    ·cases hd
 ·cases hd
theorem a2e (hX:aU X P) (hO:lC X P call kX) {ps:aW X.Γ} {ts:St} (hR:nS X P A m ps ts) {o:Oper} {an:PT X.Γ} {k:PE X.Γ->aW X.Γ->PI->PT X.Γ->OT ρ} (hk:(a1M X P kX (qH X P call) site ps o an k).Ends y):V3 X P A m call site ts o k y:=by
 have hE:=hR.env;unfold a1M at hk;split at hk
 ·-- move
  rename_i x ho;split at hk
  ·rename_i v hv;obtain⟨e,h1,h2⟩:=jE hE hv;exact⟨_,_,_,_,nH hR (by simp only[jq,ho,h1,Option.map_some]) h2,hk⟩
  exact hk.elim
 ·rename_i x ho;split at hk
  ·rename_i v hv;obtain⟨e,h1,h2⟩:=jE hE hv;exact⟨_,_,_,_,nH hR (by simp only[jq,ho,h1,Option.map_some]) h2,hk⟩
  exact hk.elim
 ·-- pick
  rename_i c a b ho;split at hk
  ·rename_i u hu;obtain⟨tu,h1,h2⟩:=Kz hE hu;obtain⟨t,Bo,rfl,hk⟩:=NQ hk h2;split at hk
   ·rename_i v hv;obtain⟨e,g1,g2⟩:=jE hE hv;exact⟨_,_,_,_,nH (hR.sF h1) (by simp only[jq,ho,h1,g1,Option.map_some]) g2,hk⟩
   exact hk.elim
  exact hk.elim
 ·-- alloc
  rename_i e ho;split at hk
  ·rename_i z hz;obtain⟨z',g1,g2⟩:=yQ (A:=AA A m) (m:=m) (h:=ts.heap) hz;obtain⟨m1,e1,e2,e3,e4,e5,e6⟩:=Hf hR (site:=site (o.dst.getD 0)) g2;exact⟨_,_,_,_,⟨_,_,aA,m1,by simp only[jq,ho,g1,Option.map_some],e1,e2,e3,e4,e5,e6,.none,fun b hb=>by cases hb⟩,hk⟩
  exact hk.elim
 ·-- box
  rename_i t x ho;split at hk
  ·rename_i v hv;obtain⟨w,g1,g2⟩:=fM hE hv;split at hk
   ·rename_i pW;have hc:=yO g2;obtain⟨m1,e1,e2,e3,e4,e5,e6⟩:=Hf hR (site:=site (o.dst.getD 0)) hc;exact⟨_,_,_,_,⟨_,_,aA,m1,by simp only[jq,ho,g1,vC hc,pW,if_true],e1,e2,e3,e4,e5,e6,.none,fun b hb=>by cases hb⟩,hk⟩
   exact hk.elim
  exact hk.elim
 ·-- build
  rename_i t qs ho;split at hk
  ·rename_i vs Jl;obtain⟨ws,g1,g2⟩:=NH hE Jl;split at hk
   ·rename_i v hv;obtain⟨w,g3,g4⟩:=UH g2 hv;exact dY hR g4 (by simp only[jq,ho,g1,g3,Option.map_some]) hk
   exact hk.elim
  exact hk.elim
 ·-- buildSlice
  rename_i t len qs ho;split at hk
  ·rename_i vs Jl;obtain⟨ws,g1,g2⟩:=NH hE Jl;split at hk
   ·rename_i v H1 hv;refine lD hR (oP hX hR g2 hv) ?_ hk;simp only[jq,ho,g1,Option.map_map];rfl
   exact hk.elim
  exact hk.elim
 ·-- load
  rename_i t a ho;split at hk
  ·rename_i pa ha;obtain⟨ea,g1,g2⟩:=jE hE ha;split at hk
   ·rename_i v i hv;obtain⟨w,ti,g3,g4,g5,g6⟩:=xR hX hR g2 hv;exact⟨.val v,_,_,_,⟨.val w,ts,ti,m,by simp only[jq,ho,g1,g3,Option.map_some],rfl,rfl,hR,g4,.refl,.refl,g5,fun b hb=>by rw[g6] at hb;cases hb⟩,hk⟩
   exact hk.elim
  exact hk.elim
 ·-- store
  rename_i t a x ho;split at hk
  ·rename_i pa v ha hv;obtain⟨ea,g1,g2⟩:=jE hE ha;obtain⟨w,g3,g4⟩:=fM hE hv;split at hk
   ·rename_i s i hs;obtain⟨dX,ti,m1,e1,e2,e3,e4,e5,e6,e7,e8⟩:=pV hX hR g2 g4 hs;exact⟨.undef,_,_,_,⟨.undef,dX,ti,m1,by simp only[jq,ho,g1,g3,e1,Option.map_some],e2,e3,e4,trivial,e5,e6,e7,e8⟩,hk⟩
   exact hk.elim
  exact hk.elim
 ·-- nilCheck
  rename_i x ho;have go:∀ {pe:PE X.Γ} {ev:EV},AL ts.env x=some ev->CU X P (AA A m) m ts.heap pe ev->(match ev with | .loc _ _=>True | .val (.ptr _ _ _)=>True | .val (.fn _ _ _)=>True | _=>False)->(k pe ps pO an).Ends y->V3 X P A m call site ts o k y:=by
   intro pe ev h1 h2 h3 h4;refine⟨_,_,_,_,nH hR ?_ h2,h4⟩;cases ev with
   | loc a b=>simp only[jq,ho,h1]
   | val v=>cases v<;>simp at h3<;>simp only[jq,ho,h1]
   | undef=>simp at h3
  split at hk
  ·rename_i a b ha;obtain⟨ea,g1,g2⟩:=jE hE ha;have:=vF g2;subst this;exact go g1 g2 trivial hk
  ·rename_i a b c ha;obtain⟨ea,g1,g2⟩:=jE hE ha;obtain⟨w,rfl,g3⟩:=bV g2;split at hk
   ·rename_i cs hb;obtain⟨mb,f1,f2⟩:=hR.heap.at_ a _ hb;cases mb with
    | cO cb=>
     cases g3 with
     | ptr e=>exact go g1 g2 trivial hk
     | gone hi e _=>simp only[aG,Option.some.injEq] at hi;subst hi;rw[f1] at e;cases e
    | _=>exact f2.elim
   ·rename_i cs hb;obtain⟨mb,f1,f2⟩:=hR.heap.at_ a _ hb;cases mb with
    | cZ cb=>
     cases g3 with
     | ptr e=>rw[f1] at e;cases e
     | gone hi e _=>
      simp only[aG,Option.some.injEq] at hi;subst hi;rw[f1] at e;cases e with
      | r _ e=>simp only[XF,Option.some.injEq] at e;subst e;exact go g1 g2 trivial hk
    | _=>exact f2.elim
   exact hk.elim
  ·rename_i a b c ha;obtain⟨ea,g1,g2⟩:=jE hE ha;obtain⟨w,rfl,g3⟩:=bV g2;split at hk
   ·rename_i q1 q2 q3 q4 hb;obtain⟨mb,f1,f2⟩:=hR.heap.at_ a _ hb;cases mb with
    | bK cb=>
     cases g3 with
     | row e=>exact go g1 g2 trivial hk
     | gone hi e _=>simp only[aG,Option.some.injEq] at hi;subst hi;rw[f1] at e;cases e
    | _=>exact f2.elim
   exact hk.elim
  ·rename_i a b c ha;obtain⟨ea,g1,g2⟩:=jE hE ha;obtain⟨w,rfl,g3⟩:=bV g2;cases g3 with
   | el=>exact go g1 g2 trivial hk
   | gone hi _ _=>simp[aG] at hi
  ·rename_i a b c ha;obtain⟨ea,g1,g2⟩:=jE hE ha;obtain⟨w,rfl,g3⟩:=bV g2;cases g3 with
   | fn=>exact go g1 g2 trivial hk
   | gone hi _ _=>simp[aG] at hi
  exact hk.elim
 ·-- binOp
  rename_i op t x z w0 ho;split at hk
  rotate_left
  ·exact hk.elim
  rename_i a b ha hb;obtain⟨ta,g1,g2⟩:=fM hE ha;obtain⟨tb,g3,g4⟩:=fM hE hb;split at hk
  ·split at hk
   ·rename_i v ps hd;obtain⟨hp,hk⟩:=jo hk;obtain⟨w,e1,e2⟩:=a2d (P:=P) (t:=t) (x:=x) (z:=z) g2 g4 hd hp;exact dY hR e2 (by simp only[jq,ho,g1,g3,e1,Option.map_some]) hk
   exact hk.elim
  split at hk
  ·rename_i v q hv;obtain⟨w,e1,e2⟩:=Rt (x:=x) (y:=z) hR.heap g2 g4 hv hk.1;exact dY hR e2 (by simp only[jq,ho,g1,g3,e1,Option.map_some]) hk.2
  split at hk
  ·split at hk
   ·rename_i w r;split at hk
    ·rename_i v ua ub e1 e2 e3;obtain⟨FW,hk⟩:=hk;rw[<-iP g2 e2,<-iP g4 e3] at FW;exact dY hR (nD e1) (by simp only[jq,ho,g1,g3,FW,Option.map_some]) hk
    exact hk.elim
   exact hk.elim
  split at hk
  ·rename_i v hv;obtain⟨w,e1,e2⟩:=LX g2 g4 hv;exact dY hR e2 (by simp only[jq,ho,g1,g3,e1,Option.map_some]) hk
  exact hk.elim
 ·-- unOp
  rename_i op t x ho;split at hk
  ·rename_i a ha;obtain⟨ta,g1,g2⟩:=fM hE ha;split at hk
   ·rename_i v hv;obtain⟨w,e1,e2⟩:=dR g2 hv;exact dY hR e2 (by simp only[jq,ho,g1,e1,Option.map_some]) hk
   exact hk.elim
  exact hk.elim
 ·-- convert
  rename_i s d x ho;split at hk
  ·rename_i a ha;obtain⟨ta,g1,g2⟩:=fM hE ha;split at hk
   ·split at hk
    ·rename_i w r;split at hk
     ·rename_i v ua e1 e2;obtain⟨FW,hk⟩:=hk;rw[<-iP g2 e2] at FW;exact dY hR (nD e1) (by simp only[jq,ho,g1,FW,Option.map_some]) hk
     exact hk.elim
    exact hk.elim
   split at hk
   ·rename_i v hv;obtain⟨w,e1,e2⟩:=Il g2 hv;exact dY hR e2 (by simp only[jq,ho,g1,e1,Option.map_some]) hk
   exact hk.elim
  exact hk.elim
 ·-- makeFunc
  rename_i f first cap ho
  split at hk
  ·rename_i a b ha hb;obtain⟨ta,g1,g2⟩:=J6 hE ha;obtain⟨tb,g3,g4⟩:=J6 hE hb;exact dY hR (.fn g2.1 g2.2 g4.1 g4.2) (by simp only[jq,ho,g1,g3]) hk
  exact hk.elim
 ·-- makeMap
  rename_i t r ho;have hp:=hR.heap.push (pb:=.map []) (hb:=.map []) (mb:=.cO ts.heap.length) (.inl rfl) ⟨[],by simp,rfl,fun i a b ha=>by simp at ha⟩;have go:jq P call site ts o=some (.val (.map ts.heap.length),{ ts with heap:=ts.heap++[.map []] },aA)->∀ {an:PT X.Γ},(k (.val (.map ps.heap.length)) { ps with heap:=ps.heap++[.map []] } pO an).Ends y->V3 X P A m call site ts o k y:=fun h1 an h2=>
   ⟨.val (.map ps.heap.length),_,_,_,⟨_,_,aA,_,h1,rfl,rfl,hR.step hp.1 hp.2.1 hp.2.2,iQ (.map (by rw[<-hR.heap.len];simp)),hp.2.1,hp.2.2,.none,fun b hb=>by cases hb⟩,h2⟩
  split at hk
  ·rename_i h1;obtain⟨w,g1,g2⟩:=yR hE h1;have:=kC g2;subst this;exact go (by simp only[jq,ho,g1]) hk
  ·rename_i k0 n0 kt vt h1 hu;obtain⟨w,g1,g2⟩:=yR hE h1;have:=NM g2;subst this;exact go (by simp only[jq,ho,g1,hu]) hk
  exact hk.elim
 ·-- makeSlice
  rename_i t l c ho;split at hk
  ·rename_i vl vc hl hc;obtain⟨tl,g1,g2⟩:=fM hE hl;obtain⟨tc,g3,g4⟩:=fM hE hc;split at hk
   ·rename_i v H1 qs hv;obtain⟨hq,hk⟩:=jo hk;refine lD hR (qR hX hR g2 g4 hv hq) ?_ hk;simp only[jq,ho,g1,g3,Option.map_map];rfl
   exact hk.elim
  exact hk.elim
 ·-- slice
  rename_i t x lo hi mx ho;split at hk
  rotate_left
  ·exact hk.elim
  rename_i px plo phi pmx hx JI TR hmx;obtain⟨ex,g1,g2⟩:=jE hE hx;obtain⟨G6,g3,g4⟩:=yR hE JI;obtain⟨G7,g5,g6⟩:=yR hE TR;obtain⟨UQ,g7,g8⟩:=yR hE hmx;split at hk
  ·rename_i n e hu;split at hk
   ·split at hk
    ·rename_i v hv;refine lD (H1:=ps.heap) hR (J8 hR g2 g4 g6 g8 hv) ?_ hk;simp only[jq,ho,g1,g3,g5,g7,hu,Option.map_map];rfl
    exact hk.elim
   split at hk
   ·rename_i v H1 qs hv;obtain⟨hq,hk⟩:=jo hk;refine lD hR (sU hX hR g2 g4 g6 g8 hv hq) ?_ hk;simp only[jq,ho,g1,g3,g5,g7,hu,Option.map_map];rfl
   exact hk.elim
  rename_i aeI;have AZ:∀ {w:TV},ex=.val w->jq P call site ts o=(jB P t w G6 G7 UQ).map fun v=>(.val v,ts,aA):=by
   intro w e;subst e;simp only[jq,ho,g1,g3,g5,g7]
  split at hk
  ·rename_i b;obtain⟨w,rfl,g9⟩:=bV g2;have:w=.str b:=by
    cases g9 with
    | str=>rfl
    | gone hi _ _=>simp[aG] at hi
   subst this;split at hk
   rotate_left
   ·exact hk.elim
   rename_i w r;split at hk
   rotate_left
   ·exact hk.elim
   rename_i v tl th e1 e2 e3;split at hk
   rotate_left
   ·exact hk.elim
   rename_i a5G;obtain⟨hs,hk⟩:=hk;have h7:UQ=none:=by
    cases pmx with
    | none=>exact kC g8
    | some _=>simp at a5G
   have h5:G6=tl:=by
    cases plo with
    | none=>simp at e2;rw[kC g4,e2]
    | some q=>
     obtain⟨tq,rfl⟩:=CW g4;simp only[Option.map_eq_some_iff] at e2;obtain⟨q1,q2,rfl⟩:=e2;rw[iP (show VR X P (AA A m) m ts.heap q tq from g4) q2]
   have h6:G7=th:=by
    cases phi with
    | none=>simp at e3;rw[kC g6,e3]
    | some q=>
     obtain⟨tq,rfl⟩:=CW g6;simp only[Option.map_eq_some_iff] at e3;obtain⟨q1,q2,rfl⟩:=e3;rw[iP (show VR X P (AA A m) m ts.heap q tq from g6) q2]
   subst h5;subst h6;subst h7;exact dY hR (nD e1) (by rw[AZ rfl,hs];rfl) hk
  ·rename_i px' hns;obtain⟨w,rfl,g9⟩:=bV g2;split at hk
   ·rename_i v qs hv;obtain⟨hq,hk⟩:=jo hk;obtain⟨w',e1,e2⟩:=DI hR g9 g4 g6 g8 hv hq;exact dY hR e2 (by rw[AZ rfl,e1];rfl) hk
   exact hk.elim
  exact hk.elim
 ·-- fieldAddr
  rename_i t x f ho;split at hk
  ·rename_i pa n ha hn;obtain⟨ea,g1,g2⟩:=jE hE ha;split at hk
   ·rename_i v hv;obtain⟨eb,g3,g4⟩:=Dz hR g2 hv;exact⟨_,_,_,_,nH hR (by simp only[jq,ho,g1,hn,g3,Option.map_some]) g4,hk⟩
   exact hk.elim
  exact hk.elim
 ·-- field
  rename_i t x f ho;split at hk
  ·rename_i a ha;obtain⟨ta,g1,g2⟩:=fM hE ha;split at hk
   ·rename_i v hv;obtain⟨w,e1,e2⟩:=DC g2 hv;exact dY hR e2 (by simp only[jq,ho,g1,e1,Option.map_some]) hk
   exact hk.elim
  exact hk.elim
 ·-- indexAddr
  rename_i t x i ho;split at hk
  ·rename_i pa vi ha hi;obtain⟨ea,g1,g2⟩:=jE hE ha;obtain⟨ti,g3,g4⟩:=fM hE hi;split at hk
   ·rename_i v qs hv;obtain⟨hq,hk⟩:=jo hk;obtain⟨eb,g5,g6⟩:=qO hR g2 g4 hv hq;exact⟨_,_,_,_,nH hR (by simp only[jq,ho,g1,g3,g5,Option.map_some]) g6,hk⟩
   exact hk.elim
  exact hk.elim
 ·-- index
  rename_i t x i ho;split at hk
  ·rename_i a vi ha hi;obtain⟨ta,g1,g2⟩:=fM hE ha;obtain⟨ti,g3,g4⟩:=fM hE hi;split at hk
   ·split at hk
    ·rename_i w r;split at hk
     ·rename_i v ua ui e1 e2 e3;obtain⟨FW,hk⟩:=hk;rw[<-iP g2 e2,<-iP g4 e3] at FW;exact dY hR (nD e1) (by simp only[jq,ho,g1,g3,FW,Option.map_some]) hk
     exact hk.elim
    exact hk.elim
   split at hk
   ·rename_i v hv;obtain⟨w,e1,e2⟩:=DF g2 g4 hv;exact dY hR e2 (by simp only[jq,ho,g1,g3,e1,Option.map_some]) hk
   exact hk.elim
  exact hk.elim
 ·-- lookup
  rename_i t mm i ok ho;split at hk
  ·rename_i vm vi hm hi;obtain⟨tm,g1,g2⟩:=fM hE hm;obtain⟨ti,g3,g4⟩:=fM hE hi;obtain⟨v,pi,Bo,w,e1,e2,e3,e4⟩:=XR hR g2 g4 hk;refine⟨.val v,_,_,_,⟨.val w,ts,_,m,?_,rfl,rfl,hR,e2,.refl,.refl,e4,fun b hb=>by cases hb⟩,e3⟩;simp only[jq,ho,g1,g3,e1,Option.map_some];cases tm<;>rfl
  exact hk.elim
 ·-- mapUpdate
  rename_i t mm i x ho;split at hk
  ·rename_i vm vi vx hm hi hx;obtain⟨tm,g1,g2⟩:=fM hE hm;obtain⟨ti,g3,g4⟩:=fM hE hi;obtain⟨tx,g5,g6⟩:=fM hE hx;obtain⟨fK,pi,Bo,h1,a2f,e1,e2,e3,e4,e5,e6⟩:=UU hR g2 g4 g6 hk;exact⟨.undef,_,_,_,⟨.undef,{ ts with heap:=h1 },a2f,m,by simp only[jq,ho,g1,g3,g5,e1,Option.map_some],rfl,rfl,e2,trivial,e3,.refl,e5,e6⟩,e4⟩
  exact hk.elim
 ·-- insert
  rename_i t mm i x ho;split at hk
  ·rename_i vm vi vx hm hi hx;obtain⟨tm,g1,g2⟩:=fM hE hm;obtain⟨ti,g3,g4⟩:=fM hE hi;obtain⟨tx,g5,g6⟩:=fM hE hx;obtain⟨fK,pi,Bo,h1,a2f,e1,e2,e3,e4,e5,e6⟩:=UU hR g2 g4 g6 hk;exact⟨.undef,_,_,_,⟨.undef,{ ts with heap:=h1 },a2f,m,by simp only[jq,ho,g1,g3,g5,e1,Option.map_some],rfl,rfl,e2,trivial,e3,.refl,e5,e6⟩,e4⟩
  exact hk.elim
 ·-- extract
  rename_i t i ho;split at hk
  ·rename_i vs hv;obtain⟨w,g1,g2⟩:=fM hE hv;split at hk
   ·rename_i v hvi;cases g2 with
    | bH h1 h2=>
     obtain⟨x,e1,e2⟩:=aH.get ⟨h1,h2⟩ hvi;exact dY hR e2 (by simp only[jq,ho,g1,e1,Option.map_some]) hk
    | gone hi _ _=>simp[aG] at hi
   exact hk.elim
  exact hk.elim
 ·-- call
  rename_i c ho;split at hk
  rotate_left
  ·exact hk.elim
  rename_i az has;obtain⟨tas,g1,g2⟩:=J6 hE has;have nZ:∀ {b:Builtin},c.callee=.builtin b->∀ {r:Option (TV×St×gy)},jl P b c.argTypes o.type ts tas=r->jq P call site ts o=r.map fun (v,s,i)=>(.val v,s,i):=by
   intro b hb r hr;simp only[jq,ho,AQ,hb,g1,hr]
  split at hk
  ·rename_i hb;split at hk
   ·rename_i x;obtain⟨tx,r,rfl,q1,q2⟩:=g2.inv;have:=q2.inv0;subst this;split at hk
    ·rename_i v i hv;obtain⟨w,ti,e1,e2,e3,e4⟩:=LZ hR.heap q1 hv;exact⟨.val v,_,_,_,⟨.val w,ts,ti,m,by rw[nZ hb (r:=some (w,ts,ti)) (by simp only[jl,e1,Option.map_some])];rfl,rfl,rfl,hR,iQ e2,.refl,.refl,e3,fun b hb=>by rw[e4] at hb;cases hb⟩,hk⟩
    exact hk.elim
   exact hk.elim
  ·rename_i hb;split at hk
   ·rename_i d x;obtain⟨td,r,rfl,q1,q2⟩:=g2.inv;obtain⟨tx,r,rfl,q3,q4⟩:=q2.inv;have:=q4.inv0;subst this;split at hk
    ·rename_i v H1 i qs hv;obtain⟨hq,hk⟩:=jo hk;exact lD hR (zU hX hR q1 q3 hv hq) (nZ hb rfl) hk
    split at hk
    ·split at hk
     ·rename_i v H1 i qs hv;obtain⟨hq,hk⟩:=jo hk;exact lD hR (KE hX hR q1 q3 hv hq) (nZ hb rfl) hk
     exact hk.elim
    split at hk
    ·rename_i v H1 i qs hv;obtain⟨hq,hk⟩:=jo hk;exact lD hR (NJ hX hR q1 q3 hv hq) (nZ hb rfl) hk
    exact hk.elim
   exact hk.elim
  ·rename_i hb;split at hk
   ·rename_i d x;obtain⟨td,r,rfl,q1,q2⟩:=g2.inv;obtain⟨tx,r,rfl,q3,q4⟩:=q2.inv;have:=q4.inv0;subst this;split at hk
    ·rename_i v H1 i hv;exact lD hR (Ir hX hR q1 q3 hv) (nZ hb rfl) hk
    exact hk.elim
   exact hk.elim
  ·rename_i hb;split at hk
   ·rename_i v hv;obtain⟨w,e1,e2⟩:=pY g2 hv;refine dY hR e2 ?_ hk;rw[nZ hb (r:=some (w,ts,aA)) (by simp only[jl,e1,Option.map_some])];rfl
   exact hk.elim
  ·rename_i hb;split at hk
   ·rename_i v hv;obtain⟨w,e1,e2⟩:=pY g2 hv;refine dY hR e2 ?_ hk;rw[nZ hb (r:=some (w,ts,aA)) (by simp only[jl,e1,Option.map_some])];rfl
   exact hk.elim
  ·rename_i f hb;split at hk
   rotate_left
   ·exact hk.elim
   rename_i fv hfv;obtain⟨tf,f1,f2⟩:=fM hE hfv;have AZ:∀ {w:TV} {h1:List HB} {ws:List Nat},call tf tas ts.heap=some (w,h1,ws)->jq P call site ts o=some (.val w,{ ts with heap:=h1 },⟨true,[],ws.map .h⟩):=by
    intro w h1 ws hc;simp only[jq,ho,AQ,hb,g1,f1,hc]
   unfold UD at hk;split at hk
   ·rename_i v H1 r;obtain⟨hs,hk⟩:=hk;obtain⟨w,h1,ws,m1,c1,c2,c3,c4,c5,c6⟩:=hs A m ts.heap tf tas hR.heap f2 g2;refine⟨.val v,_,_,_,⟨.val w,_,_,m1,AZ c1,rfl,rfl,hR.step c2 c4 c5,iQ c3,c4,c5,⟨fun _=>rfl,fun k hk=>(by cases hk),fun k hk=>?_,fun b hb=>?_,fun b hb=>(by cases hb),fun h=>(by cases h)⟩,fun b hb=>?_⟩,hk⟩
    ·simp at hk
    ·simp at hb;exact .inr ⟨rfl,c6 b hb⟩
    simp at hb;exact c6 b hb
   ·split at hk
    ·rename_i Hp lH hp;split at hk
     ·rename_i Hs fv1 xs1 hHs a2g a2h;split at hk
      ·rename_i v1 LH hv1 a2i;obtain⟨hs,hk⟩:=hk;simp only[Bool.and_eq_true,decide_eq_true_eq] at lH;obtain⟨w,h1,ws,m1,c1,c2,c3,c4,c5,c6⟩:=Ag hX hs.w lH.1 hp hHs a2g a2h hv1 a2i lH.2 A m ts.heap tf tas hR.heap f2 g2;refine⟨.val v1,_,_,_,⟨.val w,_,_,m1,AZ c1,rfl,rfl,hR.step c2 c4 c5,iQ c3,c4,c5,⟨fun _=>rfl,fun k hk=>(by cases hk),fun k hk=>?_,fun b hb=>?_,fun b hb=>(by cases hb),fun h=>(by cases h)⟩,fun b hb=>?_⟩,hk⟩
       ·simp at hk
       ·simp at hb;obtain⟨_,k,h8,_,h9⟩:=c6 b hb;exact .inl ⟨k,List.mem_map.2 ⟨k,List.mem_of_getElem? h8,rfl⟩,h9⟩
       simp at hb;obtain⟨_,k,_,_,mb,h8,h9⟩:=c6 b hb;exact aC h8 h9
      exact hk.elim
     exact hk.elim
    exact hk.elim
   ·split at hk
    ·rename_i Hp lH hp;split at hk
     ·rename_i Hs fv1 xs1 hHs a2g a2h;split at hk
      ·rename_i v1 LH Hs2 H2 hv1 a2i a9Q;obtain⟨hs,hk⟩:=hk;simp only[Bool.and_eq_true,decide_eq_true_eq] at lH;have hsl:Hs.length=_:=(kS hHs).1.trans (vI hp).1;obtain⟨w,h1,ws,m1,c1,c2,c3,c4,c5,c6⟩:=Ag hX (NS a9Q (by rw[hsl];exact lH.2) hs.w) lH.1 hp hHs a2g a2h hv1 a2i lH.2 A m ts.heap tf tas hR.heap f2 g2;refine⟨.val v1,_,_,_,⟨.val w,_,_,m1,AZ c1,rfl,rfl,hR.step c2 c4 c5,iQ c3,c4,c5,⟨fun _=>rfl,fun k hk=>(by cases hk),fun k hk=>?_,fun b hb=>?_,fun b hb=>(by cases hb),fun h=>(by cases h)⟩,fun b hb=>?_⟩,hk⟩
       ·simp at hk
       ·simp at hb;obtain⟨p,k,h8,h7,h9⟩:=c6 b hb;exact .inl ⟨k,List.mem_map.2 ⟨k,KJ h8 (by simpa using h7.2),rfl⟩,h9⟩
       simp at hb;obtain⟨_,k,_,_,mb,h8,h9⟩:=c6 b hb;exact aC h8 h9
      exact hk.elim
     exact hk.elim
    exact hk.elim
   split at hk
   ·rename_i g first cap _
    cases f2 with
    | gone hi _ _=>simp[aG] at hi
    | fn p1 p2 p3 p4=>
     split at hk
     ·rename_i vs Jl;split at hk
      ·rename_i v ext qs a9R;split at hk
       ·rename_i ext' vT;obtain⟨hq,hk⟩:=jo hk;obtain⟨w,h1,m1,c1,c2,c3,c4,c5⟩:=XP hX (hO _ _ _ _ _ a9R hq) hR.heap Jl vT ⟨p1,p2⟩ g2 ⟨p3,p4⟩;refine⟨.val (shift ps.heap.length v),_,_,_,⟨.val w,_,_,m1,AZ c1,rfl,rfl,hR.step c2 c4 c5,iQ c3,c4,c5,⟨fun _=>rfl,fun k hk=>(by cases hk),fun k hk=>(by simp at hk),fun b hb=>(by simp at hb),fun b hb=>(by cases hb),fun h=>(by cases h)⟩,fun b hb=>(by simp at hb)⟩,hk⟩
       exact hk.elim
      exact hk.elim
     exact hk.elim
   exact hk.elim
  exact hk.elim
 ·-- range
  rename_i t x ho;split at hk
  ·rename_i r kt et hx hu;obtain⟨tx,g1,g2⟩:=fM hE hx;split at hk
   ·rename_i es Gz;obtain⟨c,fU,q0,q3,q4,q5⟩:=uh hR.heap Gz;have htm:=PY g2 q0;subst htm;have aN:r<m.length:=by rcases q0 with q1 | ⟨q1,_⟩<;>exact (List.getElem?_eq_some_iff.1 q1).1
    have hp:=hR.heap.push (pb:=.bn r es.length []) (hb:=.bn c es.length []) (mb:=.cO ts.heap.length) (.inl rfl) ⟨c,by simp,by rw[List.getElem?_append_left aN];rcases q0 with q1 | ⟨q1,_⟩<;>rw[q1]<;>rfl,fun c' hc=>by
     rw[List.getElem?_append_left aN] at hc;rcases q0 with q1 | ⟨q1,_⟩<;>rw[q1] at hc<;>simp at hc<;>exact hc.symm⟩
    have go:jq P call site ts o=some (.val (.iter ts.heap.length),{ ts with heap:=ts.heap++[.bn c es.length []] },nT (.h c)):=by
     simp only[jq,ho,g1,hu,q3,q4]
    exact⟨.val (.iter ps.heap.length),_,_,_,⟨_,_,nT (.h c),_,go,rfl,rfl,hR.step hp.1 hp.2.1 hp.2.2,iQ (.iter (by rw[<-hR.heap.len];simp)),hp.2.1,hp.2.2,IR.reads rfl (fun b hb=>by simp[nT] at hb;subst hb;exact⟨Hu q0,(List.getElem?_eq_some_iff.1 q3).1⟩) (by simp[nT]),fun b hb=>by simp[nT] at hb⟩,hk⟩
   exact hk.elim
  exact hk.elim
 ·-- entry
  rename_i x ho;split at hk
  rotate_left
  ·exact hk.elim
  rename_i b hx;obtain⟨tx,g1,g2⟩:=fM hE hx;split at hk
  rotate_left
  ·exact hk.elim
  rename_i r n i seen hb;split at hk
  rotate_left
  ·exact hk.elim
  rename_i es Gz;split at hk
  ·rename_i kk vv _ rest;obtain⟨⟨hn,he⟩,hk⟩:=hk;obtain⟨e,rfl,rfl⟩:∃ e:PV X.Γ×PV X.Γ,e.1=kk∧e.2=vv:=⟨(kk,vv),rfl,rfl⟩;have he:es[i]? = some e:=he;obtain⟨mb,q1,q2⟩:=hR.heap.at_ b _ hb;cases mb with
   | cO cb=>
    obtain⟨c,q3,_,q5⟩:=q2;obtain⟨c',fU,z1,z3,z4,z5⟩:=uh hR.heap Gz;have:=q5 c' (by rcases z1 with z1 | ⟨z1,_⟩;exact .inl z1;exact .inr z1);subst this;cases g2 with
    | gone hi e _=>simp only[aG,Option.some.injEq] at hi;subst hi;rw[q1] at e;cases e
    | iter e1=>
     rw[q1] at e1;cases e1;have hl:i<fU.length:=by rw[<-z4];exact (List.getElem?_eq_some_iff.1 he).1
     have he':=List.getElem?_eq_getElem hl;have hv:=z5 i _ _ he he';refine⟨.val (.bH [e.1,e.2]),_,_,_,⟨.val (.bH [fU[i].1,fU[i].2]),ts,bY [.h cb,.h c'],m,?_,rfl,rfl,hR,iQ (CX (pI hv.1) (pI hv.2)),.refl,.refl,IR.reads rfl (fun b2 vZ=>?_) (by simp[bY]),fun b hb=>by simp[bY] at hb⟩,hk⟩
     ·simp only[jq,ho,g1,q3,z3];rw[if_pos (by rw[<-z4];exact hn),he'];rfl
     simp[bY] at vZ;rcases vZ with rfl | rfl
     ·exact⟨.inl ⟨b,by simp[bY],dw q1 rfl⟩,(List.getElem?_eq_some_iff.1 q3).1⟩
     refine⟨?_,(List.getElem?_eq_some_iff.1 z3).1⟩;rcases z1 with z1 | ⟨_,z1⟩
     ·exact .inl ⟨r,by simp[bY],dw z1 rfl⟩
     exact .inr z1
   | _=>exact q2.elim
  split at hk
  case isFalse=>exact hk.elim
  rename_i hn;split at hk
  case h_2=>exact hk.elim
  rename_i e he;obtain⟨mb,q1,q2⟩:=hR.heap.at_ b _ hb;cases mb with
  | cO cb=>
   obtain⟨c,q3,_,q5⟩:=q2;obtain⟨c',fU,z1,z3,z4,z5⟩:=uh hR.heap Gz;have:=q5 c' (by rcases z1 with z1 | ⟨z1,_⟩;exact .inl z1;exact .inr z1);subst this;cases g2 with
   | gone hi e _=>simp only[aG,Option.some.injEq] at hi;subst hi;rw[q1] at e;cases e
   | iter e1=>
    rw[q1] at e1;cases e1;have hl:i<fU.length:=by rw[<-z4];exact (List.getElem?_eq_some_iff.1 he).1
    have he':=List.getElem?_eq_getElem hl;have hv:=z5 i _ _ he he';refine⟨.val (.bH [e.1,e.2]),_,_,_,⟨.val (.bH [fU[i].1,fU[i].2]),ts,bY [.h cb,.h c'],m,?_,rfl,rfl,hR,iQ (CX (pI hv.1) (pI hv.2)),.refl,.refl,IR.reads rfl (fun b2 vZ=>?_) (by simp[bY]),fun b hb=>by simp[bY] at hb⟩,hk⟩
    ·simp only[jq,ho,g1,q3,z3];rw[if_pos (by rw[<-z4];exact hn),he'];rfl
    simp[bY] at vZ;rcases vZ with rfl | rfl
    ·exact⟨.inl ⟨b,by simp[bY],dw q1 rfl⟩,(List.getElem?_eq_some_iff.1 q3).1⟩
    refine⟨?_,(List.getElem?_eq_some_iff.1 z3).1⟩;rcases z1 with z1 | ⟨_,z1⟩
    ·exact .inl ⟨r,by simp[bY],dw z1 rfl⟩
    exact .inr z1
  | _=>exact q2.elim
 exact hk.elim
end
inductive IRs:List MB->List HB->List PI->List gy->Prop where
 | nil {m h}:IRs m h [] []
 | cons {m h p t m1 h1 ps ts}:(aK m).Nodup->(∀ b,b∈aK m->b<h.length)->IR m h p t->Fr m h m1 h1->Up m m1->(p.mv=false->∀ (i:Nat),i<m.length->m1[i]? = some .gone->m[i]? = some .gone)->IRs m1 h1 ps ts->IRs m h (p::ps) (t::ts)
theorem V4 {fl b c:Nat} {ws:List Nat} (h:c∈xM fl b ws):c∈ws∨(c=b∧b<fl):=by
 unfold xM at h;split at h
 ·rename_i hl;split at h
  ·exact .inl h
  rcases List.mem_cons.1 h with h | h
  ·exact .inr ⟨h,hl⟩
  exact .inl h
 exact .inl h
theorem vJ {fl c:Nat}:∀ {ks:List Key} {ws:List Nat},c∈dn fl ks ws->c∈ws∨(.h c∈ks∧c<fl)
 | [],ws,h=>.inl h
 | .h b::ks,ws,h=>by
  rcases vJ (ks:=ks) h with h | ⟨h1,h2⟩
  ·rcases V4 h with h | ⟨rfl,h⟩
   ·exact .inl h
   exact .inr ⟨List.mem_cons_self,h⟩
  exact .inr ⟨List.mem_cons_of_mem _ h1,h2⟩
 | .l _::ks,ws,h=>by
  rcases vJ (ks:=ks) h with h | ⟨h1,h2⟩
  ·exact .inl h
  exact .inr ⟨List.mem_cons_of_mem _ h1,h2⟩
theorem KL {m m1:List MB} (hU:Up m m1) (hg:∀ (i:Nat),i<m.length->m1[i]? = some .gone->m[i]? = some .gone) {i b:Nat} (h:xJ m i b):xJ m1 i b:=by
 obtain⟨mb,h1,h2⟩:=h;rcases hU i mb h1 with e | e
 ·exact⟨mb,e,h2⟩
 have:=hg i (List.getElem?_eq_some_iff.1 h1).1 e;rw[h1] at this;cases this;cases h2
theorem um {m:List MB} (hn:(aK m).Nodup) {i j b:Nat} (h1:xJ m i b) (h2:xJ m j b):i=j:=by
 obtain⟨_,a1,a2⟩:=h1;obtain⟨_,b1,b2⟩:=h2;exact dI hn a1 b1 a2 b2
theorem XY {ma mb:List MB} {ha hb:List HB} {pa pb:PI} {ta tb:gy} (na:(aK ma).Nodup) (nb:(aK mb).Nodup) (la:∀ b,b∈aK ma->b<ha.length) (hab:Fr ma ha mb hb) (A:IR ma ha pa ta) (B:IR mb hb pb tb) (hc:PD pa pb=true)
  (DJ:(∀ i b,xJ ma i b->xJ mb i b)∨pa.hp=false∨pb.hp=false):calm ta tb=true:=by
 simp only[PD,Bool.and_eq_true] at hc;obtain⟨c1,c2⟩:=hc;simp only[ND,Bool.and_eq_true,List.all_eq_true,Bool.not_eq_true',Bool.or_eq_true] at c1 c2;obtain⟨c1,c1w⟩:=c1;obtain⟨c2,c2w⟩:=c2;simp only[calm,Bool.and_eq_true];constructor
 ·simp only[Dk,List.all_eq_true,Bool.and_eq_true,Bool.not_eq_true',Bool.and_eq_false_iff];intro k hk;cases k with
  | l j=>
   have:=c1 _ (A.wl j hk);simp only[List.contains_eq_mem,decide_eq_false_iff_not] at this ⊢;exact⟨⟨.inr rfl,fun h=>this.1.1.2 (B.tl j h)⟩,fun h=>this.1.2 (B.wl j h)⟩
  | h c=>
   rcases DJ with V5 | DJ | DJ
   ·-- nothing is given up
    have hca:c∈aK ma:=by
     rcases A.wh c hk with⟨i,_,h2⟩ | ⟨_,h2⟩
     ·exact NI h2
     ·exact h2
    obtain⟨i0,hi0⟩:=fZ hca;have Tf:=V5 _ _ hi0;have hcb:c∈aK mb:=NI Tf;rcases A.wh c hk with⟨i,h1,h2⟩ | ⟨h1,h2⟩
    ·have hii:=um na hi0 h2;subst hii;have DK:=c1 _ h1;simp only[List.contains_eq_mem,decide_eq_false_iff_not,Key.Sj,Bool.and_true] at DK;refine⟨⟨.inl ?_,?_⟩,?_⟩
     ·cases hq:tb.all with
      | false=>rfl
      | true=>rw[B.all hq] at DK;simp at DK
     ·simp only[List.contains_eq_mem,decide_eq_false_iff_not];intro hq;rcases (B.th c hq).1 with⟨j,g1,g2⟩ | g1
      ·have:=um nb Tf g2;subst this;exact DK.1.1.2 g1
      ·exact g1 hcb
     ·simp only[List.contains_eq_mem,decide_eq_false_iff_not];intro hq;rcases B.wh c hq with⟨j,g1,g2⟩ | ⟨g1,g2⟩
      ·have:=um nb Tf g2;subst this;exact DK.1.2 g1
      ·rw[g1] at DK;simp at DK
    ·rw[h1] at c1w;simp only[Bool.true_eq_false,false_or] at c1w;obtain⟨⟨⟨w1,w2⟩,w3⟩,w4⟩:=c1w;refine⟨⟨.inl ?_,?_⟩,?_⟩
     ·cases hq:tb.all with
      | false=>rfl
      | true=>rw[B.all hq] at w1;cases w1
     ·simp only[List.contains_eq_mem,decide_eq_false_iff_not];intro hq;rcases (B.th c hq).1 with⟨j,g1,g2⟩ | g1
      ·have:=w3 _ g1;simp[Key.Sj] at this
      ·exact g1 hcb
     ·simp only[List.contains_eq_mem,decide_eq_false_iff_not];intro hq;rcases B.wh c hq with⟨j,g1,g2⟩ | ⟨g1,g2⟩
      ·have:=w4 _ g1;simp[Key.Sj] at this
      ·rw[g1] at w2;cases w2
   ·exact absurd hk ((A.hp DJ).2.2 c)
   ·obtain⟨g1,g2,g3⟩:=B.hp DJ;refine⟨⟨.inl g1,?_⟩,?_⟩<;>simp only[List.contains_eq_mem,decide_eq_false_iff_not]
    ·exact g2 c
    ·exact g3 c
 ·simp only[Dk,List.all_eq_true,Bool.and_eq_true,Bool.not_eq_true',Bool.and_eq_false_iff];intro k hk;cases k with
  | l j=>
   have:=c2 _ (B.wl j hk);simp only[List.contains_eq_mem,decide_eq_false_iff_not] at this ⊢;exact⟨⟨.inr rfl,fun h=>this.1.1.2 (A.tl j h)⟩,fun h=>this.1.2 (A.wl j h)⟩
  | h c=>
   rcases DJ with V5 | DJ | DJ
   ·have hcb:c∈aK mb:=by
     rcases B.wh c hk with⟨i,_,h2⟩ | ⟨_,h2⟩
     ·exact NI h2
     ·exact h2
    obtain⟨j0,hj0⟩:=fZ hcb;have back:c<ha.length->c∈aK ma:=fun aN=>by
     rcases hab.new c hcb with h1 | h1
     ·exact h1
     ·omega
    have a5J:∀ i,xJ ma i c->i=j0:=fun i hi=>um nb (V5 _ _ hi) hj0;rcases B.wh c hk with⟨j,h1,h2⟩ | ⟨h1,h2⟩
    ·have hii:=um nb hj0 h2;subst hii;have DK:=c2 _ h1;simp only[List.contains_eq_mem,decide_eq_false_iff_not,Key.Sj,Bool.and_true] at DK;refine⟨⟨.inl ?_,?_⟩,?_⟩
     ·cases hq:ta.all with
      | false=>rfl
      | true=>rw[A.all hq] at DK;simp at DK
     ·simp only[List.contains_eq_mem,decide_eq_false_iff_not];intro hq;obtain⟨g0,glt⟩:=A.th c hq;rcases g0 with⟨i,g1,g2⟩ | g1
      ·have:=a5J i g2;subst this;exact DK.1.1.2 g1
      ·exact g1 (back glt)
     ·simp only[List.contains_eq_mem,decide_eq_false_iff_not];intro hq;rcases A.wh c hq with⟨i,g1,g2⟩ | ⟨g1,g2⟩
      ·have:=a5J i g2;subst this;exact DK.1.2 g1
      ·rw[g1] at DK;simp at DK
    ·rw[h1] at c2w;simp only[Bool.true_eq_false,false_or] at c2w;obtain⟨⟨⟨w1,w2⟩,w3⟩,w4⟩:=c2w;refine⟨⟨.inl ?_,?_⟩,?_⟩
     ·cases hq:ta.all with
      | false=>rfl
      | true=>rw[A.all hq] at w1;cases w1
     ·simp only[List.contains_eq_mem,decide_eq_false_iff_not];intro hq;obtain⟨g0,glt⟩:=A.th c hq;rcases g0 with⟨i,g1,g2⟩ | g1
      ·have:=w3 _ g1;simp[Key.Sj] at this
      ·exact g1 (back glt)
     ·simp only[List.contains_eq_mem,decide_eq_false_iff_not];intro hq;rcases A.wh c hq with⟨i,g1,g2⟩ | ⟨g1,g2⟩
      ·have:=w4 _ g1;simp[Key.Sj] at this
      ·rw[g1] at w2;cases w2
   ·obtain⟨g1,g2,g3⟩:=A.hp DJ;refine⟨⟨.inl g1,?_⟩,?_⟩<;>simp only[List.contains_eq_mem,decide_eq_false_iff_not]
    ·exact g2 c
    ·exact g3 c
   ·exact absurd hk ((B.hp DJ).2.2 c)
theorem V6:∀ {ps:List PI} {ts:List gy} {m:List MB} {h:List HB},IRs m h ps ts->∀ {j:Nat} {p:PI},ps[j]? = some p->∃ t mj hj,ts[j]? = some t∧IR mj hj p t∧(aK mj).Nodup∧(∀ b,b∈aK mj->b<hj.length)∧Fr m h mj hj∧((∀ (i:Nat) q,i<j->ps[i]? = some q->q.mv=false)->∀ i b,xJ m i b->xJ mj i b)
 | _,_,_,_,.nil,j,p,hj=>by simp at hj
 | _,_,m,h,.cons n1 n2 i1 f1 u1 g1 rest,j,p,hj=>by
  cases j with
  | zero=>
   simp only[List.getElem?_cons_zero,Option.some.injEq] at hj;subst hj;exact⟨_,m,h,rfl,i1,n1,n2,.refl,fun _ i b hb=>hb⟩
  | succ j=>
   obtain⟨t,mj,BJ,e1,e2,e3,e4,e5,e6⟩:=V6 rest (j:=j) (by simpa using hj);refine⟨t,mj,BJ,by simpa using e1,e2,e3,e4,f1.trans e5,fun hq i b hb=>e6 (fun i q hl hi=>hq (i+1) q (by omega) (by simpa using hi)) i b ?_⟩;exact KL u1 (g1 (hq 0 _ (by omega) rfl)) hb
theorem Q5:∀ {ps:List PI} {ts:List gy} {m:List MB} {h:List HB},IRs m h ps ts->∀ {i j:Nat} {p q:PI},i<j->ps[i]? = some p->ps[j]? = some q->PD p q=true->((∀ (k:Nat) q,i<=k->k<j->ps[k]? = some q->q.mv=false)∨p.hp=false∨q.hp=false)->∃ a b,ts[i]? = some a∧ts[j]? = some b∧calm a b=true
 | _,_,_,_,.nil,i,j,p,q,_,hi,_,_,_=>by simp at hi
 | _,_,m,h,.cons n1 n2 i1 f1 u1 g1 rest,i,j,p,q,BN,hi,hj,hc,DJ=>by
  cases j with
  | zero=>omega
  | succ j=>
   cases i with
   | zero=>
    simp only[List.getElem?_cons_zero,Option.some.injEq] at hi;subst hi;obtain⟨t,mj,BJ,e1,e2,e3,e4,e5,e6⟩:=V6 rest (j:=j) (by simpa using hj);refine⟨_,t,rfl,by simpa using e1,XY n1 e3 n2 (f1.trans e5) i1 e2 hc ?_⟩;refine DJ.imp_left fun hq i b hb=>e6 (fun i q hl hi=>hq (i+1) q (by omega) (by omega) (by simpa using hi)) i b (KL u1 (g1 (hq 0 _ (by omega) (by omega) rfl)) hb)
   | succ i=>
    obtain⟨a,b,e1,e2,e3⟩:=Q5 rest (i:=i) (j:=j) (by omega) (by simpa using hi) (by simpa using hj) hc (DJ.imp_left fun hq k q h1 h2 hi=>hq (k+1) q (by omega) (by omega) (by simpa using hi));exact⟨a,b,by simpa using e1,by simpa using e2,e3⟩
theorem V7 {ps:List PI} {ts:List gy} {m:List MB} {h:List HB} (hI:IRs m h ps ts):∀ {prs:List (Nat×Nat)},(∀ q∈prs,q.1<q.2)->IY ps prs=true->lN ts prs=true
 | [],_,_=>rfl
 | (i,j)::r,aN,hd=>by
  simp only[IY,Bool.and_eq_true] at hd;obtain⟨h1,h2⟩:=hd;split at h1
  ·rename_i a b ha hb;simp only[Bool.and_eq_true,Bool.or_eq_true,Bool.not_eq_true'] at h1;obtain⟨x,y,e1,e2,e3⟩:=Q5 hI (aN _ List.mem_cons_self) ha hb h1.1 (by
    rcases h1.2 with (h3 | h3) | h3
    ·exact .inr (.inl h3)
    ·exact .inr (.inr h3)
    left;intro k q Lr Cb hk;cases hq:q.mv with
    | false=>rfl
    | true=>
     refine absurd (List.any_eq_true.2 ⟨q,List.mem_of_getElem? (i:=k-i) ?_,hq⟩) (by rw[h3];simp);rw[List.getElem?_take,if_pos (by omega),List.getElem?_drop,<-hk];congr 1;omega)
   simp only[lN,e1,e2,e3,Bool.true_and];exact V7 hI (fun q hq=>aN q (List.mem_cons_of_mem _ hq)) h2
  cases h1
theorem a2k {ops:List Oper}:∀ q∈eH ops,q.1<q.2:=by
 intro q hq;unfold eH at hq;have:=(List.mem_filter.1 hq).1;unfold gQ at this;simp only[List.mem_flatMap,List.mem_map,List.mem_filter,List.mem_range] at this;obtain⟨j,_,i,⟨hi,_⟩,rfl⟩:=this;exact hi
theorem Hy {ts:List gy} (hw:∀ t∈ts,t.ws=[]):∀ {prs:List (Nat×Nat)},(∀ q∈prs,q.1<ts.length∧q.2<ts.length)->lN ts prs=true
 | [],_=>rfl
 | (i,j)::r,hl=>by
  obtain⟨h1,h2⟩:=hl _ List.mem_cons_self;simp only[lN,List.getElem?_eq_getElem h1,List.getElem?_eq_getElem h2,Bool.and_eq_true];refine⟨?_,Hy hw fun q hq=>hl q (List.mem_cons_of_mem _ hq)⟩;simp[calm,Dk,hw _ (List.getElem_mem h1),hw _ (List.getElem_mem h2)]
theorem a2l {ops:List Oper}:∀ q∈eH ops,q.1<ops.length∧q.2<ops.length:=by
 intro q hq;unfold eH at hq;have:=(List.mem_filter.1 hq).1;unfold gQ at this;simp only[List.mem_flatMap,List.mem_map,List.mem_filter,List.mem_range] at this;obtain⟨j,hj,i,⟨hi,_⟩,rfl⟩:=this;exact⟨by simp only;omega,hj⟩
section
variable {X:iR} {P:Program} {A W:Nat->Prop} {m m':List MB} {h:List HB}
structure SR (X:iR) (P:Program) (A W:Nat->Prop) (fl:Nat) (m:List MB) (ps:aW X.Γ) (ts:St):Prop where
 st:nS X P A m ps ts
 own:∀ b,b∈aK m->W b∨fl<=b
 ws:∀ b,b∈ts.ws->W b
 fl:fl<=ts.heap.length
def FP (B:Nat) (m m1:List MB):Prop:=∀ (i:Nat) mb,i<B->m[i]? = some mb->m1[i]? = some mb∨m1[i]? = some .gone
theorem Up.b {B:Nat} {m m1:List MB} (h:Up m m1):FP B m m1:=fun i mb _ hi=>h i mb hi
theorem FP.trans {B:Nat} {m m1 m2:List MB} (a:FP B m m1) (b:FP B m1 m2):FP B m m2:=fun i mb hB hi=>by
 rcases a i mb hB hi with h | h
 ·exact b i mb hB h
 ·rcases b i _ hB h with h | h<;>exact .inr h
theorem FP.refl {B:Nat} {m:List MB}:FP B m m:=fun _ _ _ h=>.inl h
def uo (X:iR) (P:Program) (B:Nat) (ps fK:aW X.Γ):Prop:=
 ∀ (A W:Nat->Prop) (fl:Nat) (m:List MB) (ts:St),SR X P A W fl m ps ts->∃ m1,SR X P A W fl m1 fK ts∧Fr m ts.heap m1 ts.heap∧FP B m m1
theorem uo.refl {B:Nat} {ps:aW X.Γ}:uo X P B ps ps:=fun _ _ _ m _ hS=>⟨m,hS,.refl,.refl⟩
theorem uo.trans {B:Nat} {a b c:aW X.Γ} (h1:uo X P B a b) (h2:uo X P B b c):uo X P B a c:=fun A W fl m ts hS=>by
 obtain⟨m1,g1,g2,g3⟩:=h1 A W fl m ts hS;obtain⟨m2,g4,g5,g6⟩:=h2 A W fl m1 ts g1;exact⟨m2,g4,g2.trans g5,g3.trans g6⟩
theorem XZ {env:List (Nat×PE X.Γ)} {env':List (Nat×EV)} (he:gG X P A m h env env'):gG X P A m h (XD env) env':=by
 induction he with
 | nil=>exact .nil
 | cons h1 _ ih=>
  rename_i k v x r r' _;cases v with
  | val v=>obtain⟨y,rfl,h2⟩:=bV h1;exact .cons (iQ (yN h2)) ih
  | loc=>exact .cons h1 ih
  | undef=>exact .cons h1 ih
theorem Ya {t i:Nat} (hi:m[i]? = some (.bK (.nil .slc))):∀ {env:List (Nat×PE X.Γ)} {env':List (Nat×EV)} {r:List (Nat×PE X.Γ)},gG X P A m h env env'->Nv t i env=some r->gG X P A m h r env':=by
 intro env env' r he
 induction he generalizing r with
 | nil=>intro h;cases h
 | cons h1 h2 ih=>
  rename_i k v x q q';intro hn;simp only[Nv] at hn;split at hn
  ·split at hn
   ·cases hn;obtain⟨y,rfl,h3⟩:=bV h1;have:y=.nil .slc:=by
     cases h3 with
     | nil=>rfl
     | gone hi _ _=>simp[aG] at hi
    subst this;exact .cons (iQ (.own hi rfl)) h2
   cases hn
  simp only[Option.map_eq_some_iff] at hn;obtain⟨q2,h3,rfl⟩:=hn;exact .cons h1 (ih h3)
theorem Q7 {i off:Nat} (hi:m[i]? = some (.bK (.nil .slc))) {cs r:List (PV X.Γ)} {xs:List TV} (hv:aH X P A m h cs xs) (hn:XE off i cs=some r):aH X P A m h r xs:=by
 unfold XE at hn;split at hn
 ·rename_i hc;cases hn;refine⟨by rw[List.length_set,hv.1],fun j a b ha hb=>?_⟩;by_cases e:off=j
  ·subst e;rw[List.getElem?_set_self',hc] at ha;cases ha;have:b=.nil .slc:=by
    cases hv.2 _ _ _ hc hb with
    | nil=>rfl
    | gone hi _ _=>simp[aG] at hi
   subst this;exact .own hi rfl
  rw[List.getElem?_set_ne e] at ha;exact hv.2 j a b ha hb
 cases hn
theorem SR.J9 {fl:Nat} {ps:aW X.Γ} {ts:St} (hS:SR X P A W fl m ps ts) (e:Nat):∃ m1,HR X P A m1 (ps.heap++[.list false false e []]) ts.heap∧Fr m ts.heap m1 ts.heap∧Up m m1∧m1[ps.heap.length]? = some (.bK (.nil .slc))∧(∀ b,b∈aK m1->b∈aK m):=by
 obtain⟨h1,h2,h3⟩:=hS.st.heap.a0C (pb:=.list false false e []) (mb:=.bK (.nil .slc)) rfl LR.nil;refine⟨_,h1,h2,h3,by rw[<-hS.st.heap.len];simp,fun b hb=>?_⟩;rw[dK,List.mem_append,fH] at hb;simpa[MB.own] using hb
theorem V8 (hX:aU X P) {H:List (PB X.Γ)} (hr:HR X P A m H h) {i:Nat} {v w:PV X.Γ} {x:TV} (hv:VR X P (AA A m) m h v x) (hw:fzV H i v=some w):VR X P (AA A (aP [i] m)) (aP [i] m) h w x:=by
 unfold fzV at hw;split at hw
 ·cases hw;exact hv.step (eU (h:=h) [i] m).1 (eU (h:=h) [i] m).2
 split at hw
 ·rename_i ha;refine (PU (m':=aP [i] m) hX hr hv hw (is:=[i]) fun j hj=>?_).mono fun b hb=>FA.gone hr hb;have:=List.all_eq_true.1 ha j hj;rw[Nat.eq_of_beq_eq_true this];exact List.mem_singleton.2 rfl
 cases hw
theorem Q8 (hX:aU X P) {H:List (PB X.Γ)} (hr:HR X P A m H h) {i:Nat}:∀ {v w:List (PV X.Γ)} {x:List TV},aH X P (AA A m) m h v x->Uy H i v=some w->aH X P (AA A (aP [i] m)) (aP [i] m) h w x
 | [],w,x,hv,hw=>by
  cases hw;rw[hv.inv0];exact .nil
 | v::vs,w,x,hv,hw=>by
  obtain⟨y,r,rfl,h1,h2⟩:=hv.inv;simp only[Uy] at hw;split at hw
  ·rename_i w1 ws e1 e2;cases hw;exact .cons (V8 hX hr h1 e1) (Q8 hX hr h2 e2)
  cases hw
theorem a2m (hX:aU X P) {H:List (PB X.Γ)} (hr:HR X P A m H h) {i:Nat} {v:List (Nat×PE X.Γ)} {x:List (Nat×EV)} (hv:gG X P (AA A m) m h v x):∀ {w:List (Nat×PE X.Γ)},fzE H i v=some w->gG X P (AA A (aP [i] m)) (aP [i] m) h w x:=by
 induction hv with
 | nil=>intro w hw;cases hw;exact .nil
 | cons h1 h2 ih=>
  rename_i k v x q q';intro w hw;cases v with
  | val v=>
   simp only[fzE] at hw;split at hw
   ·rename_i w1 ws e1 e2;cases hw;obtain⟨y,rfl,h3⟩:=bV h1;exact .cons (iQ (V8 hX hr h3 e1)) (ih e2)
   cases hw
  | loc k o=>
   simp only[fzE,Option.map_eq_some_iff] at hw;obtain⟨ws,e2,rfl⟩:=hw;exact .cons (by cases x<;>exact h1) (ih e2)
  | undef=>
   simp only[fzE,Option.map_eq_some_iff] at hw;obtain⟨ws,e2,rfl⟩:=hw;exact .cons (by cases x<;>exact h1) (ih e2)
theorem Q9 {Γ:Nat->Type} {H:List (PB Γ)} {i:Nat}:∀ {l r:List (List (PV Γ))},fzL H i l=some r->r.length=l.length∧∀ (k:Nat) ds,r[k]? = some ds->∃ cs,l[k]? = some cs∧Uy H i cs=some ds
 | [],r,h=>by cases h;exact⟨rfl,fun k ds hk=>by simp at hk⟩
 | c::l,r,h=>by
  simp only[fzL] at h;split at h
  ·rename_i w ws e1 e2;cases h;obtain⟨q1,q2⟩:=Q9 e2;refine⟨by simp[q1],fun k ds hk=>?_⟩;cases k with
   | zero=>simp at hk;subst hk;exact⟨c,rfl,e1⟩
   | succ k=>exact q2 k ds (by simpa using hk)
  cases h
theorem V9 (hX:aU X P) {B:Nat} {g:G} {ps fK:aW X.Γ} (hg:rQ B ps g=some fK):uo X P B ps fK:=by
 intro A W fl m ts hS;cases g with
 | lit=>
  simp only[rQ,Option.some.injEq] at hg;subst hg;exact⟨m,⟨⟨hS.st.heap,hS.st.llen,hS.st.loc,XZ hS.st.env⟩,hS.own,hS.ws,hS.fl⟩,.refl,.refl⟩
 | Nv t e=>
  simp only[rQ,Option.map_eq_some_iff] at hg;obtain⟨env,h1,rfl⟩:=hg;obtain⟨m1,e1,e2,e3,e4,e5⟩:=hS.J9 e;exact⟨m1,⟨⟨e1,hS.st.llen,fun k cs hk=>let ⟨cs',q1,q2⟩:=hS.st.loc k cs hk;⟨cs',q1,q2.step e2 e3⟩,Ya e4 (hS.st.env.step e2 e3) h1⟩,fun b hb=>hS.own b (e5 b hb),hS.ws,hS.fl⟩,e2,e3.b⟩
 | a5f k off e=>
  simp only[rQ] at hg;split at hg
  ·rename_i cs hk;simp only[Option.map_eq_some_iff] at hg;obtain⟨Jq,h1,rfl⟩:=hg;obtain⟨m1,e1,e2,e3,e4,e5⟩:=hS.J9 e;refine⟨m1,⟨⟨e1,by simp[hS.st.llen],fun j ds hj=>?_,hS.st.env.step e2 e3⟩,fun b hb=>hS.own b (e5 b hb),hS.ws,hS.fl⟩,e2,e3.b⟩;by_cases e0:k=j
   ·subst e0;rw[List.getElem?_set_self',hk] at hj;cases hj;obtain⟨cs',q1,q2⟩:=hS.st.loc k cs hk;exact⟨cs',q1,Q7 e4 (q2.step e2 e3) h1⟩
   rw[List.getElem?_set_ne e0] at hj;obtain⟨cs',q1,q2⟩:=hS.st.loc j ds hj;exact⟨cs',q1,q2.step e2 e3⟩
  cases hg
 | a5g i off e=>
  simp only[rQ] at hg;split at hg
  rotate_left
  ·cases hg
  rename_i cs hi;simp only[Option.map_eq_some_iff] at hg;obtain⟨Jq,h1,rfl⟩:=hg;obtain⟨m1,e1,e2,e3,e4,e5⟩:=hS.J9 e;have aN:i<ps.heap.length:=(List.getElem?_eq_some_iff.1 hi).1;have hr2:HR X P A m1 (ps.heap.set i (.cells Jq)++[.list false false e []]) ts.heap:=by
   refine e1.next .refl .refl (by simp[e1.len]) e1.nodup fun j b hj=>?_;by_cases e0:i=j
   ·subst e0;right;rw[List.getElem?_append_left (by simpa using aN),List.getElem?_set_self',hi] at hj;cases hj;obtain⟨mb,q1,q2⟩:=e1.at_ i (.cells cs) (by rw[List.getElem?_append_left aN];exact hi);refine⟨mb,q1,?_⟩;cases mb with
    | cO c=>obtain⟨xs,q3,q4⟩:=q2;exact⟨xs,q3,Q7 e4 q4 h1⟩
    | _=>exact q2.elim
   left;have:(ps.heap++[PB.list false false e []])[j]? = some b:=by
    rw[<-hj];rcases Nat.lt_or_ge j ps.heap.length with h9 | h9
    ·rw[List.getElem?_append_left h9,List.getElem?_append_left (by simpa using h9),List.getElem?_set_ne e0]
    rw[List.getElem?_append_right h9,List.getElem?_append_right (by simpa using h9),List.length_set]
   obtain⟨mb,q1,_⟩:=e1.at_ j b this;exact⟨mb,this,q1,q1,fun _ _=>rfl⟩
  exact⟨m1,⟨⟨hr2,hS.st.llen,fun k cs hk=>let ⟨cs',q1,q2⟩:=hS.st.loc k cs hk;⟨cs',q1,q2.step e2 e3⟩,hS.st.env.step e2 e3⟩,fun b hb=>hS.own b (e5 b hb),hS.ws,hS.fl⟩,e2,e3.b⟩
 | flag i=>
  simp only[rQ] at hg;split at hg
  rotate_left
  ·cases hg
  rename_i k ex t l hi;cases hg;have hr:=hS.st.heap;refine⟨m,⟨⟨?_,hS.st.llen,hS.st.loc,hS.st.env⟩,hS.own,hS.ws,hS.fl⟩,.refl,.refl⟩;refine hr.next .refl .refl (by simp[hr.len]) hr.nodup fun j b hj=>?_;by_cases e0:i=j
  ·subst e0;right;rw[List.getElem?_set_self',hi] at hj;cases hj;obtain⟨mb,q1,q2⟩:=hr.at_ i _ hi;refine⟨mb,q1,?_⟩;cases mb with
   | bK y=>
    cases (q2:LR X P _ _ _ _ _ _ _ y) with
    | nil=>exact LR.nil
    | emp p0 p1 p2 p3 p4=>exact LR.emp p0 p1 p2 p3 p4
    | some p1 p2 p3 p4 p5 p6 p7 p8 p9=>exact LR.some p1 p2 p3 p4 p5 (by simp) (by simp) p8 p9
   | _=>exact q2.elim
  left;rw[List.getElem?_set_ne e0] at hj;obtain⟨mb,q1,_⟩:=hr.at_ j b hj;exact⟨mb,hj,q1,q1,fun _ _=>rfl⟩
 | gc ks=>
  simp only[rQ] at hg;split at hg
  rotate_left
  ·cases hg
  rename_i hc;simp only[Bool.and_eq_true,decide_eq_true_eq,List.all_eq_true] at hc;obtain⟨⟨DN,lH⟩,hB⟩:=hc;split at hg
  rotate_left
  ·cases hg
  rename_i env loc b1 b2 h1 h2 h3 h4;split at hg
  rotate_left
  ·cases hg
  rename_i b3 h5;cases hg;have hr:=hS.st.heap;have hp:=vI h4;have a9W:∀ k∈ks,k<m.length:=fun k hk=>by
   obtain⟨i,hi⟩:=List.getElem?_of_mem hk;obtain⟨b,q1,_⟩:=hp.2 hi;rw[hr.len];exact (List.getElem?_eq_some_iff.1 q1).1
  have hBm:B<=m.length:=by rw[hr.len];exact hB
  let m1:List MB:=m.take B++ks.map fun k=>m.getD k .gone
  have a2n:(m.take B).length=B:=by rw[List.length_take];omega
  have JI:∀ i,i<B->m1[i]? = m[i]?:=fun i hi=>by
   show (m.take B++_)[i]? = _;rw[List.getElem?_append_left (by omega),List.getElem?_take,if_pos hi]
  have TR:∀ p k,ks[p]? = some k->m1[p+B]? = m[k]?:=fun p k hp=>by
   show (m.take B++_)[p+B]? = _;rw[List.getElem?_append_right (by omega),a2n,Nat.add_sub_cancel,List.getElem?_map,hp];have:=a9W k (List.mem_of_getElem? hp);simp[List.getD_eq_getElem?_getD,this]
  have hg:∀ i j,(fun i=>if i<B then some i else (ni ks i).map (·+B)) i=some j->m1[j]? = m[i]?:=fun i j BN=>by
   simp only at BN;split at BN
   ·rename_i hi;cases BN;exact JI i hi
   simp only[Option.map_eq_some_iff] at BN;obtain⟨p,hp,rfl⟩:=BN;exact TR p i (EJ hp)
  have hold:∀ j mb,m1[j]? = some mb->∃ i,m[i]? = some mb∧((j<B∧i=j)∨∃ p,j=p+B∧ks[p]? = some i):=fun j mb hj=>by
   rcases Nat.lt_or_ge j B with aN | zF
   ·exact⟨j,by rw[<-JI j aN];exact hj,.inl ⟨aN,rfl⟩⟩
   have LD:j-B<ks.length:=by
    have:=(List.getElem?_eq_some_iff.1 hj).1;have h9:m1.length=B+ks.length:=by show (m.take B++_).length=_;rw[List.length_append,a2n,List.length_map]
    omega
   have hp:=List.getElem?_eq_getElem LD;have hh:=TR (j-B) _ hp;rw[show j-B+B=j by omega,hj] at hh;exact⟨_,hh.symm,.inr ⟨j-B,by omega,hp⟩⟩
  have mD:∀ b,b∈aK m1->b∈aK m:=fun b hb=>by
   obtain⟨j,mb,q1,q2⟩:=fZ hb;obtain⟨i,q3,_⟩:=hold j mb q1;exact aC q3 q2
  have hA:∀ b,AA A m b->AA A m1 b:=fun b hb=>⟨hb.1,fun hm=>hb.2 (mD b hm)⟩;have a2o:(aK m1).Nodup:=eY fun i j c q1 q2=>by
   obtain⟨ma,a1,a2⟩:=q1;obtain⟨mc,c1,c2⟩:=q2;obtain⟨i',a3,a4⟩:=hold i ma a1;obtain⟨j',c3,c4⟩:=hold j mc c1;have e:=dI hr.nodup a3 c3 a2 c2;subst e;rcases a4 with⟨a5,a6⟩ | ⟨p,a5,a6⟩<;>rcases c4 with⟨c5,c6⟩ | ⟨q,c5,c6⟩
   ·omega
   ·have:=DN _ (List.mem_of_getElem? c6);omega
   ·have:=DN _ (List.mem_of_getElem? a6);omega
   have qN:=(List.getElem?_eq_some_iff.1 a6).1;have:p=q:=(List.getElem?_inj qN lH).1 (by rw[a6,c6]);omega
  have hFr:Fr m ts.heap m1 ts.heap:=⟨Nat.le_refl _,fun _ _ _=>rfl,fun b hb=>.inl (mD b hb),fun b cs hc=>⟨cs,hc,Nat.le_refl _⟩⟩;have uU:=kS h3;have TB:=kS h5;have SA:=EL h2;refine⟨m1,⟨⟨⟨?_,fun j b hj=>?_,a2o,hr.up,fun b hb=>hr.yK b (mD b hb)⟩,by rw[SA.1];exact hS.st.llen,fun k cs hk=>?_,EK hX hg hA hS.st.env h1⟩,fun b hb=>hS.own b (mD b hb),hS.ws,hS.fl⟩,hFr,fun i mb hi hm=>.inl (by rw[JI i hi];exact hm)⟩
  ·show (m.take B++_).length=_;rw[List.length_append,List.length_append,List.length_map,uU.1,TB.1,hp.1,a2n,List.length_take];omega
  ·have OZ:b1.length=B:=by rw[uU.1,List.length_take];omega
   rcases Nat.lt_or_ge j B with aN | zF
   ·rw[List.getElem?_append_left (by omega)] at hj;obtain⟨b0,q1,q2⟩:=uU.2 hj;rw[List.getElem?_take,if_pos aN] at q1;obtain⟨mb,q3,q4⟩:=hr.at_ j b0 q1;exact⟨mb,by rw[JI j aN];exact q3,vH hX hg hA (fun c _ h9 h8=>h9 (mD c h8)) q4 q2⟩
   rw[List.getElem?_append_right (by omega),OZ] at hj;obtain⟨b0,q1,q2⟩:=TB.2 hj;have LD:j-B<ks.length:=by rw[<-hp.1];exact (List.getElem?_eq_some_iff.1 q1).1
   obtain⟨b9,q5,q6⟩:=hp.2 (List.getElem?_eq_getElem LD);rw[q1] at q6;cases q6;obtain⟨mb,q3,q4⟩:=hr.at_ _ _ q5;refine⟨mb,?_,vH hX hg hA (fun c _ h9 h8=>h9 (mD c h8)) q4 q2⟩;have:=TR (j-B) _ (List.getElem?_eq_getElem LD);rw[show j-B+B=j by omega] at this;rw[this];exact q3
  obtain⟨cs0,q1,q2⟩:=SA.2 hk;obtain⟨cs',q3,q4⟩:=hS.st.loc k cs0 q1;exact⟨cs',q3,qp hX hg hA q4 q2⟩
 | fz i=>
  simp only[rQ] at hg;split at hg
  ·rename_i env loc e1 e2;cases hg;have hr:=hS.st.heap;have hF:=eU (h:=ts.heap) [i] m;obtain⟨q1,q2⟩:=Q9 e2;refine⟨aP [i] m,⟨⟨hr.aI [i],by rw[q1];exact hS.st.llen,fun k ds hk=>?_,a2m hX hr hS.st.env e1⟩,fun b hb=>?_,hS.ws,hS.fl⟩,hF.1,hF.2.b⟩
   ·obtain⟨cs,h1,h2⟩:=q2 k ds hk;obtain⟨cs',h3,h4⟩:=hS.st.loc k cs h1;exact⟨cs',h3,Q8 hX hr h4 h2⟩
   obtain⟨j,mb,_,h2,h3⟩:=nG hb;exact hS.own b (aC h2 h3)
  cases hg
 | mv i=>
  simp only[rQ] at hg;split at hg
  rotate_left
  ·cases hg
  rename_i b0 hi;split at hg
  rotate_left
  ·cases hg
  rename_i env loc b1 b2 h1 h2 h3 h4;cases hg;have hr:=hS.st.heap;have aN:i<ps.heap.length:=(List.getElem?_eq_some_iff.1 hi).1;obtain⟨mi,mi1,mi2⟩:=hr.at_ i b0 hi
  let m1:List MB:=m.set i .gone++[mi]
  have kF:(m.set i .gone).length=ps.heap.length:=by rw[List.length_set,hr.len]
  have JI:∀ j,j<ps.heap.length->j≠i->m1[j]? = m[j]?:=fun j hj hn=>by
   show (m.set i .gone++[mi])[j]? = _;rw[List.getElem?_append_left (by omega),List.getElem?_set_ne (fun e=>hn e.symm)]
  have Ij:m1[i]? = some .gone:=by
   show (m.set i .gone++[mi])[i]? = _;rw[List.getElem?_append_left (by omega),List.getElem?_set_self',mi1];rfl
  have TR:m1[ps.heap.length]? = some mi:=by
   show (m.set i .gone++[mi])[ps.heap.length]? = _;rw[List.getElem?_append_right (by omega),kF,Nat.sub_self];rfl
  have hg:∀ a b,(fun j=>if j=i then some ps.heap.length else if j<ps.heap.length then some j else none) a=some b->m1[b]? = m[a]?:=fun a b hab=>by
   simp only at hab;split at hab
   ·rename_i e;subst e;cases hab;rw[TR,mi1]
   split at hab
   ·rename_i e1 e2;cases hab;exact JI a e2 e1
   cases hab
  have hold:∀ j mb,m1[j]? = some mb->mb=.gone∨∃ k,m[k]? = some mb∧((j<ps.heap.length∧k=j∧j≠i)∨(j=ps.heap.length∧k=i)):=fun j mb hj=>by
   have LD:j<ps.heap.length+1:=by
    have:=(List.getElem?_eq_some_iff.1 hj).1;have h9:m1.length=ps.heap.length+1:=by show (m.set i .gone++[mi]).length=_;rw[List.length_append,kF];rfl
    omega
   by_cases e:j=i
   ·subst e;rw[Ij] at hj;cases hj;exact .inl rfl
   rcases Nat.lt_or_ge j ps.heap.length with h5 | h5
   ·exact .inr ⟨j,by rw[<-JI j h5 e];exact hj,.inl ⟨h5,rfl,e⟩⟩
   have:j=ps.heap.length:=(by omega);subst this;rw[TR] at hj;cases hj;exact .inr ⟨i,mi1,.inr ⟨rfl,rfl⟩⟩
  have mD:∀ b,b∈aK m1->b∈aK m:=fun b hb=>by
   obtain⟨j,mb,q1,q2⟩:=fZ hb;rcases hold j mb q1 with rfl | ⟨k,q3,_⟩
   ·cases q2
   exact aC q3 q2
  have hA:∀ b,AA A m b->AA A m1 b:=fun b hb=>⟨hb.1,fun hm=>hb.2 (mD b hm)⟩;have a2o:(aK m1).Nodup:=eY fun j k c q1 q2=>by
   obtain⟨ma,a1,a2⟩:=q1;obtain⟨mc,c1,c2⟩:=q2;rcases hold j ma a1 with rfl | ⟨j',a3,a4⟩
   ·cases a2
   rcases hold k mc c1 with rfl | ⟨k',c3,c4⟩
   ·cases c2
   have e:=dI hr.nodup a3 c3 a2 c2;subst e;rcases a4 with⟨a5,a6,a7⟩ | ⟨a5,a6⟩<;>rcases c4 with⟨c5,c6,c7⟩ | ⟨c5,c6⟩<;>omega
  have hFr:Fr m ts.heap m1 ts.heap:=⟨Nat.le_refl _,fun _ _ _=>rfl,fun b hb=>.inl (mD b hb),fun b cs hc=>⟨cs,hc,Nat.le_refl _⟩⟩;have uU:=kS h3;have SA:=EL h2;have a5K:b1.length=ps.heap.length:=by rw[uU.1,List.length_set]
  refine⟨m1,⟨⟨⟨?_,fun j b hj=>?_,a2o,hr.up,fun b hb=>hr.yK b (mD b hb)⟩,by rw[SA.1];exact hS.st.llen,fun k cs hk=>?_,EK hX hg hA hS.st.env h1⟩,fun b hb=>hS.own b (mD b hb),hS.ws,hS.fl⟩,hFr,fun j mb _ hj=>?_⟩
  ·show (m.set i .gone++[mi]).length=_;rw[List.length_append,List.length_append,kF,a5K];rfl
  ·rcases Nat.lt_or_ge j ps.heap.length with h5 | h5
   ·rw[List.getElem?_append_left (by omega)] at hj;obtain⟨b9,q1,q2⟩:=uU.2 hj;by_cases e:j=i
    ·subst e;rw[List.getElem?_set_self',hi] at q1;cases q1;have q2:some (PB.gone (Γ:=X.Γ))=some b:=q2;cases q2;exact⟨.gone,Ij,trivial⟩
    rw[List.getElem?_set_ne (fun e2=>e e2.symm)] at q1;obtain⟨mb,q3,q4⟩:=hr.at_ j b9 q1;exact⟨mb,by rw[JI j h5 e];exact q3,vH hX hg hA (fun c _ h9 h8=>h9 (mD c h8)) q4 q2⟩
   rw[List.getElem?_append_right (by omega),a5K] at hj;have:j-ps.heap.length=0:=by
    have:=(List.getElem?_eq_some_iff.1 hj).1;simp at this;omega
   rw[this] at hj;cases hj;refine⟨mi,?_,vH hX hg hA (fun c _ h9 h8=>h9 (mD c h8)) mi2 h4⟩;rw[show j=ps.heap.length by omega];exact TR
  ·obtain⟨cs0,q1,q2⟩:=SA.2 hk;obtain⟨cs',q3,q4⟩:=hS.st.loc k cs0 q1;exact⟨cs',q3,qp hX hg hA q4 q2⟩
  by_cases e:j=i
  ·subst e;exact .inr Ij
  have:j<ps.heap.length:=by rw[<-hr.len];exact (List.getElem?_eq_some_iff.1 hj).1
  exact .inl (by rw[JI j this e];exact hj)
theorem je (hX:aU X P) {B:Nat}:∀ {gs:List G} {ps fK:aW X.Γ},jX B gs ps=some fK->uo X P B ps fK
 | [],ps,fK,h=>by simp only[jX,Option.some.injEq] at h;subst h;exact .refl
 | g::gs,ps,fK,h=>by
  simp only[jX] at h;split at h
  ·rename_i s hs;exact (V9 hX hs).trans (je hX h)
  cases h
end
section
variable {X:iR} {P:Program} {T:iF} {A W:Nat->Prop} {m m':List MB}
variable {call:ay} {kX:iO X.Γ} {ρ:Type} {y:ρ}
theorem SR.sF {fl:Nat} {ps:aW X.Γ} {ts:St} (hS:SR X P A W fl m ps ts) {x:Operand} {b:Bool} (hb:lJ ts.env x=some (.bool b)):SR X P A W fl m (ps.sF x b) ts:=⟨hS.st.sF hb,hS.own,hS.ws,hS.fl⟩
theorem nS.put {ps:aW X.Γ} {ts:St} (hR:nS X P A m ps ts) {d:Option Nat} {pe:PE X.Γ} {ev:EV} (h:CU X P (AA A m) m ts.heap pe ev):nS X P A m (ps.put d pe) (ts.put d ev):=by
 cases d with
 | none=>exact hR
 | some d=>exact⟨hR.heap,hR.llen,hR.loc,.cons h hR.env⟩
theorem qw {ts:St} {d:Option Nat} {ev:EV}:(ts.put d ev).heap=ts.heap∧(ts.put d ev).ws=ts.ws:=by cases d<;>exact⟨rfl,rfl⟩
theorem KN {H:List (PB X.Γ)} {h:List HB} (hr:HR X P A m H h) {i:Nat} {b:PB X.Γ} (hb:H[i]? = some b):jY b=true↔m[i]? = some .gone:=by
 obtain⟨mb,h1,h2⟩:=hr.at_ i b hb;cases b with
 | gone=>
  cases mb with
  | gone=>exact⟨fun _=>h1,fun _=>rfl⟩
  | _=>exact h2.elim
 | cells cs=>cases mb with
  | gone=>exact h2.elim
  | _=>simp[jY,h1]
 | fG cs=>cases mb with
  | gone=>exact h2.elim
  | _=>simp[jY,h1]
 | list k ex t l=>cases mb with
  | gone=>exact h2.elim
  | _=>simp[jY,h1]
 | map es=>cases mb with
  | gone=>exact h2.elim
  | _=>simp[jY,h1]
 | mark=>cases mb with
  | gone=>exact h2.elim
  | _=>simp[jY,h1]
 | rV=>cases mb with
  | gone=>exact h2.elim
  | _=>simp[jY,h1]
 | vV=>cases mb with
  | gone=>exact h2.elim
  | _=>simp[jY,h1]
 | bn=>cases mb with
  | gone=>exact h2.elim
  | _=>simp[jY,h1]
 | loop=>cases mb with
  | gone=>exact h2.elim
  | _=>simp[jY,h1]
theorem Bv:∀ {H H1:List (PB X.Γ)},qj H H1=true->∀ {i:Nat} {b:PB X.Γ},H[i]? = some b->∃ b1,H1[i]? = some b1∧jY b=jY b1
 | [],H1,_,i,b,hi=>by simp at hi
 | a::H,[],h,i,b,hi=>by simp[qj] at h
 | a::H,a1::H1,h,i,b,hi=>by
  simp only[qj,Bool.and_eq_true,beq_iff_eq] at h;cases i with
  | zero=>simp only[List.getElem?_cons_zero,Option.some.injEq] at hi;subst hi;exact⟨a1,rfl,h.1⟩
  | succ i=>obtain⟨b1,e1,e2⟩:=Bv h.2 (i:=i) (by simpa using hi);exact⟨b1,by simpa using e1,e2⟩
theorem a2p {H H1:List (PB X.Γ)} {h h1:List HB} {m1:List MB} (hr:HR X P A m H h) (hr1:HR X P A m1 H1 h1) (hs:(!qj H H1)=false):∀ (i:Nat),i<m.length->m1[i]? = some .gone->m[i]? = some .gone:=by
 intro i hi hg;have nP:i<H.length:=by rw[<-hr.len];exact hi
 have hb:=List.getElem?_eq_getElem nP;obtain⟨b1,e1,e2⟩:=Bv (by simpa using hs) hb;have:=(KN hr1 e1).2 hg;rw[<-e2] at this;exact (KN hr hb).1 this
theorem Ci {fl:Nat} {ops:Array Oper} {ps:aW X.Γ} {ts:St} (hS:SR X P A W fl m ps ts) {o:Oper} {an:PT X.Γ} {k:Bool->aW X.Γ->PT X.Γ->OT ρ} (hk:(NC X ops ps o an k).Ends y) :
  ∃ w fK Bo,rM ops ts.env o=some w∧SR X P A W fl m fK ts∧(k w fK Bo).Ends y∧fK.heap=ps.heap:=by
 unfold NC at hk;unfold rM;split at hk
 ·rename_i hg;exact⟨true,ps,an,by simp only[hg],hS,hk,rfl⟩
 ·rename_i j want hg;simp only[hg];split at hk
  ·rename_i d hd;simp only[hd];split at hk
   ·rename_i b hb;obtain⟨ev,h1,h2⟩:=iZ hS.st.env hb;obtain⟨tv,rfl,h3⟩:=bV h2;obtain⟨t,Bo,rfl,hk⟩:=NQ hk h3;exact⟨t==want,_,Bo,by simp only[h1],hS.sF (x:=.tmp d) (by simp only[lJ,AL,h1]),hk,rfl⟩
   ·rename_i hb;obtain⟨ev,h1,h2⟩:=iZ hS.st.env hb;have:=Ac h2;subst this;exact⟨false,ps,an,by simp only[h1],hS,hk,rfl⟩
   ·exact hk.elim
  ·exact hk.elim
theorem Eh (hX:aU X P) (hO:lC X P call kX) {site:Nat->Bool} {fl nt:Nat} {ops:Array Oper}:∀ {os:List Oper} {m:List MB} {ps:aW X.Γ} {ts:St} {an:PT X.Γ} {k:aW X.Γ->List PI->PT X.Γ->OT ρ},SR X P A W fl m ps ts->(Ku X P kX (qH X P call) site nt ops os ps an k).Ends y ->
  ∃ dX is pis fK Bo m1,dN P call site fl nt ops os ts=some (dX,is)∧(k fK pis Bo).Ends y∧SR X P A W fl m1 fK dX∧Fr m ts.heap m1 dX.heap∧Up m m1∧IRs m ts.heap pis is∧is.length=os.length
 | [],m,ps,ts,an,k,hS,hk=>⟨ts,[],[],ps,an,m,rfl,hk,hS,.refl,.refl,.nil,rfl⟩
 | o::os,m,ps,ts,an,k,hS,hk=>by
  simp only[Ku] at hk;split at hk
  ·exact hk.elim
  ·rename_i hd;obtain⟨w,fK,Bz,hw,hS1,hk,hh⟩:=Ci hS hk;cases w with
   | true=>
    simp only at hk;obtain⟨pe,rY,pi,an2,⟨ev,Rz,ti,m2,e1,e2,e3,e4,e5,e6,e7,e8,e9⟩,hk⟩:=a2e hX hO hS1.st hk;have hS2:SR X P A W fl m2 (rY.put o.dst pe) (({ Rz with ws:=dn fl ti.ws ts.ws }).put o.dst ev):=by
     refine⟨nS.put (ts:={ Rz with ws:=dn fl ti.ws ts.ws }) ⟨e4.heap,e4.llen,e4.loc,e4.env⟩ e5,fun b hb=>?_,fun b hb=>?_,?_⟩
     ·rcases e6.new b hb with h1 | h1
      ·exact hS.own b h1
      ·exact .inr (Nat.le_trans hS.fl h1)
     ·rw[qw.2] at hb;rcases vJ hb with h1 | ⟨h1,h2⟩
      ·exact hS.ws b h1
      ·rcases hS.own b (e9 b h1) with h3 | h3
       ·exact h3
       ·omega
     ·rw[qw.1];exact Nat.le_trans hS.fl e6.len
    obtain⟨ts3,is,pis,ps3,an3,m3,g1,g2,g3,g4,g5,g6,g7⟩:=Eh hX hO (os:=os) hS2 hk;rw[qw.1] at g4 g6;refine⟨ts3,ti::is,_,ps3,an3,m3,?_,g2,g3,e6.trans g4,e7.trans g5,.cons hS.st.heap.nodup (fun b hb=>hS.st.heap.inb hb) ⟨e8.all,e8.tl,e8.wl,e8.wh,e8.th,e8.hp⟩ e6 e7 (a2p hS1.st.heap e4.heap) g6,by simp[g7]⟩;simp only[dN,hd,hw,e1,g1];rfl
   | false=>
    simp only at hk;have hS2:SR X P A W fl m (fK.put o.dst .undef) (ts.put o.dst .undef):=by
     refine⟨hS1.st.put trivial,hS.own,fun b hb=>?_,?_⟩
     ·rw[qw.2] at hb;exact hS.ws b hb
     ·rw[qw.1];exact hS.fl
    obtain⟨ts3,is,pis,ps3,an3,m3,g1,g2,g3,g4,g5,g6,g7⟩:=Eh hX hO (os:=os) hS2 hk;rw[qw.1] at g4 g6;refine⟨ts3,aA::is,_,ps3,an3,m3,?_,g2,g3,g4,g5,.cons hS.st.heap.nodup (fun b hb=>hS.st.heap.inb hb) .none .refl .refl (fun _ i _ hg=>hg) g6,by simp[g7]⟩;simp only[dN,hd,hw,g1];rfl
def iq (X:iR) (P:Program) (T:iF) (call:ay) (L f:Nat) (eu:Bool) (nt B:Nat) (c:Code) (ps:aW X.Γ) (e:Ex) (fK:aW X.Γ):Prop:=
 ∀ (A W:Nat->Prop) (fl:Nat) (m:List MB) (ts:St),SR X P A W fl m ps ts->∃ dX m1,exec P T call L f eu fl nt c ts=some (e,dX)∧SR X P A W fl m1 fK dX∧Fr m ts.heap m1 dX.heap∧FP B m m1
theorem nS.pick {ps:aW X.Γ} {ts:St} (hR:nS X P A m ps ts) (live:List Nat):nS X P A m { ps with env:=iL live ps.env } { ts with env:=Tw.pick live ts.env }:=
 ⟨hR.heap,hR.llen,hR.loc,J7 hR.env live⟩
theorem SR.pick {fl:Nat} {ps:aW X.Γ} {ts:St} (hS:SR X P A W fl m ps ts) (live:List Nat):SR X P A W fl m { ps with env:=iL live ps.env } { ts with env:=Tw.pick live ts.env }:=⟨hS.st.pick live,hS.own,hS.ws,hS.fl⟩
theorem SR.head {fl:Nat} {ps:aW X.Γ} {ts:St} (hS:SR X P A W fl m ps ts) (live:List Nat):SR X P A W fl m (kY X live ps) (dO live ts):=by
 have h1:=hS.pick live;have ht:=a1O h1.st.env;refine⟨⟨h1.st.heap,?_,fun k cs hk=>?_,h1.st.env⟩,h1.own,h1.ws,h1.fl⟩
 ·simp only[kY,dO,List.length_take];have:=h1.st.llen;simp only at this ht;omega
 simp only[kY,dO] at hk ⊢;rw[List.getElem?_take] at hk;split at hk
 ·rename_i aN;obtain⟨cs',g1,g2⟩:=h1.st.loc k cs hk;refine⟨cs',?_,g2⟩;rw[List.getElem?_take,if_pos (by simp only at ht;omega)];exact g1
 cases hk
theorem CS {g:St->Option (Ex×St)}:∀ {k j:Nat} {s:St} {r:Ex×St},iter g k s=some r->k<=j->iter g j s=some r
 | 0,_,s,r,h,_=>by simp[iter] at h
 | k+1,j,s,r,h,hj=>by
  obtain⟨j,rfl⟩:∃ i,j=i+1:=⟨j-1,by omega⟩;simp only[iter] at h ⊢;split at h
  ·rename_i s1 hs;exact CS h (by omega)
  rename_i hn;exact h
section
variable {L f:Nat} {eu:Bool} {nt B:Nat}
theorem Cj (hX:aU X P) {c:Code} {A W:Nat->Prop} {fl:Nat} {m:List MB} {ps:aW X.Γ} {ts:St} {k:Ex->aW X.Γ->PT X.Γ->OT ρ} (hS:SR X P A W fl m ps ts):∀ {an:PT X.Γ},(pz X (iq X P T call L f eu nt B) B c ps k an).Ends y ->
  ∃ e dX fK Bo m1,exec P T call L f eu fl nt c ts=some (e,dX)∧(k e fK Bo).Ends y∧SR X P A W fl m1 fK dX∧Fr m ts.heap m1 dX.heap∧FP B m m1:=by
 intro an
 induction an with
 | a x r=>
  intro hk;cases x with
  | loop e s'=>
   simp only[pz] at hk;obtain⟨JI,hk⟩:=hk;obtain⟨dX,m1,h1,h2,h3,h4⟩:=JI A W fl m ts hS;exact⟨_,dX,_,_,m1,h1,hk,h2,h3,h4⟩
  | lg gs e s'=>
   simp only[pz] at hk;split at hk
   ·rename_i hgs;obtain⟨JI,hk⟩:=hk;obtain⟨m0,e1,e2,e3⟩:=je hX hgs A W fl m ts hS;obtain⟨dX,m1,h1,h2,h3,h4⟩:=JI A W fl m0 ts e1;exact⟨_,dX,_,_,m1,h1,hk,h2,e2.trans h3,e3.trans h4⟩
   ·exact hk.elim
  | _=>simp only[pz] at hk;exact hk.elim
 | z c' a b iha ihb=>
  intro hk;simp only[pz] at hk;rcases hk with⟨_,hk⟩ | ⟨_,hk⟩
  ·exact iha hk
  ·exact ihb hk
 | _=>intro hk;simp only[pz] at hk;exact hk.elim
theorem jV (hX:aU X P) (hO:lC X P call kX):∀ (c:Code) {A W:Nat->Prop} {fl:Nat} {m:List MB} {ps:aW X.Γ} {ts:St} {an:PT X.Γ} {k:Ex->aW X.Γ->PT X.Γ->OT ρ},SR X P A W fl m ps ts->(fP X P T kX (qH X P call) (iq X P T call L f eu nt B) B L f eu nt c ps an k).Ends y ->
  ∃ e dX fK Bo m1,exec P T call L f eu fl nt c ts=some (e,dX)∧(k e fK Bo).Ends y∧SR X P A W fl m1 fK dX∧Fr m ts.heap m1 dX.heap∧FP B m m1:=by
 intro c
 induction c with
 | skip=>intro A W fl m ps ts an k hS hk;exact⟨.norm,ts,ps,an,m,rfl,hk,hS,.refl,.refl⟩
 | label=>intro A W fl m ps ts an k hS hk;exact⟨.norm,ts,ps,an,m,rfl,hk,hS,.refl,.refl⟩
 | exit id=>intro A W fl m ps ts an k hS hk;exact⟨.exit id,ts,ps,an,m,rfl,hk,hS,.refl,.refl⟩
 | ret=>intro A W fl m ps ts an k hS hk;exact⟨.ret,ts,ps,an,m,rfl,hk,hS,.refl,.refl⟩
 | region id ops draw=>
  intro A W fl m ps ts an k hS hk;simp only[fP] at hk;obtain⟨dX,is,pis,fK,Bz,m1,g1,hk,g3,g4,g5,g6,g7⟩:=Eh hX hO hS hk;have fin:∀ {an2:PT X.Γ},(!draw||(fF ops.toList&&lN is (eH ops.toList)))=true->(k .norm { fK with env:=iL (T.fO f id) fK.env } an2).Ends y->∃ e dX fK Bo m1,exec P T call L f eu fl nt (.region id ops draw) ts=some (e,dX)∧(k e fK Bo).Ends y∧SR X P A W fl m1 fK dX∧Fr m ts.heap m1 dX.heap∧FP B m m1:=by
   intro an2 hc hk;exact⟨.norm,{ dX with env:=Tw.pick (T.fO f id) dX.env },_,an2,m1,by simp only[exec,g1,hc,if_true],hk,g3.pick _,g4,g5.b⟩
  cases draw with
  | false=>exact fin rfl hk
  | true=>
   simp only at hk;split at hk
   ·rename_i r;split at hk
    ·rename_i DR;obtain⟨jT,hk⟩:=hk;refine fin ?_ hk;rw[jT];simp only[Bool.not_true,Bool.false_or,Bool.true_and];refine Hy (fun t ht=>?_) fun q hq=>by rw[g7];exact a2l q hq
     have key:∀ {ps:List PI} {ts:List gy} {m:List MB} {h:List HB},IRs m h ps ts->(ps.all fun i=>i.i.ws.isEmpty&&!i.wall)=true->∀ t∈ts,t.ws=[]:=by
      intro ps ts m h hI
      induction hI with
      | nil=>intro _ t ht;cases ht
      | cons _ _ i1 _ _ _ _ ih=>
       intro ha t ht;simp only[List.all_cons,Bool.and_eq_true,List.isEmpty_iff,Bool.not_eq_true'] at ha;rcases List.mem_cons.1 ht with rfl | ht
       ·refine List.eq_nil_iff_forall_not_mem.2 fun x hx=>?_;cases x with
        | l j=>have:=i1.wl j hx;rw[ha.1.1] at this;cases this
        | h b=>
         rcases i1.wh b hx with⟨i,h1,_⟩ | ⟨h1,_⟩
         ·rw[ha.1.1] at h1;cases h1
         ·rw[ha.1.2] at h1;cases h1
       ·exact ih ha.2 t ht
     exact key g6 DR t ht
    ·exact hk.elim
   ·split at hk
    ·rename_i hc;simp only[Bool.and_eq_true] at hc;refine fin ?_ hk;rw[hc.1,V7 g6 a2k hc.2];rfl
    ·exact hk.elim
 | seq a b iha ihb=>
  intro A W fl m ps ts an k hS hk;simp only[fP] at hk;obtain⟨e,dX,fK,Bz,m1,h1,hk,h3,h4,h5⟩:=iha hS hk;cases e with
  | norm=>
   obtain⟨e2,Rz,rY,an2,m2,g1,g2,g3,g4,g5⟩:=ihb h3 hk;exact⟨e2,Rz,rY,an2,m2,by simp only[exec,h1,g1],g2,g3,h4.trans g4,h5.trans g5⟩
  | exit id=>exact⟨_,dX,fK,Bz,m1,by simp only[exec,h1],hk,h3,h4,h5⟩
  | ret=>exact⟨_,dX,fK,Bz,m1,by simp only[exec,h1],hk,h3,h4,h5⟩
 | cond c a b iha ihb=>
  intro A W fl m ps ts an k hS hk;simp only[fP] at hk;split at hk
  ·rename_i u hu;obtain⟨tu,h1,h2⟩:=Kz hS.st.env hu;obtain⟨t,Bo,rfl,hk⟩:=NQ hk h2;cases t with
   | true=>
    obtain⟨e,dX,fK,Bz,m1,g1,g2,g3,g4,g5⟩:=iha (hS.sF h1) hk;exact⟨e,dX,fK,Bz,m1,by simp only[exec,h1,g1],g2,g3,g4,g5⟩
   | false=>
    obtain⟨e,dX,fK,Bz,m1,g1,g2,g3,g4,g5⟩:=ihb (hS.sF h1) hk;exact⟨e,dX,fK,Bz,m1,by simp only[exec,h1,g1],g2,g3,g4,g5⟩
  ·exact hk.elim
 | block id b ih=>
  intro A W fl m ps ts an k hS hk;simp only[fP] at hk;obtain⟨e,dX,fK,Bz,m1,h1,hk,h3,h4,h5⟩:=ih hS hk;cases e with
  | norm=>exact⟨_,dX,fK,Bz,m1,by simp only[exec,h1],hk,h3,h4,h5⟩
  | ret=>exact⟨_,dX,fK,Bz,m1,by simp only[exec,h1],hk,h3,h4,h5⟩
  | exit i=>exact⟨_,dX,fK,Bz,m1,by simp only[exec,h1],hk,h3,h4,h5⟩
 | scope b ih=>
  intro A W fl m ps ts an k hS hk;simp only[fP] at hk;obtain⟨e,dX,fK,Bz,m1,h1,hk,h3,h4,h5⟩:=ih hS hk;exact⟨e,dX,fK,Bz,m1,by simp only[exec,h1],hk,h3,h4,h5⟩
 | loop b ih=>
  intro A W fl m ps ts an k hS hk;simp only[fP] at hk;split at hk
  ·rename_i j r;obtain⟨hj,hk⟩:=hk;have go:∀ (j:Nat) {m:List MB} {ps:aW X.Γ} {ts:St} {an:PT X.Γ},SR X P A W fl m ps ts->(IZ X (fun s an k=>fP X P T kX (qH X P call) (iq X P T call L f eu nt B) B L f eu nt b (kY X (T.dG f (bZ b)) s) an k) j ps an k).Ends y ->
     ∃ e dX fK Bo m1,iter (fun s=>exec P T call L f eu fl nt b (dO (T.dG f (bZ b)) s)) j ts=some (e,dX)∧(k e fK Bo).Ends y∧SR X P A W fl m1 fK dX∧Fr m ts.heap m1 dX.heap∧FP B m m1:=by
    intro j
    induction j with
    | zero=>intro m ps ts an _ hk;exact hk.elim
    | succ j ihj=>
     intro m ps ts an hS hk;simp only[IZ] at hk;obtain⟨e,dX,fK,Bz,m1,h1,hk,h3,h4,h5⟩:=ih (hS.head _) hk;cases e with
     | norm=>
      obtain⟨e2,Rz,rY,an2,m2,g1,g2,g3,g4,g5⟩:=ihj h3 hk;exact⟨e2,Rz,rY,an2,m2,by simp only[iter,h1,g1],g2,g3,h4.trans g4,h5.trans g5⟩
     | exit id=>exact⟨_,dX,fK,Bz,m1,by simp only[iter,h1],hk,h3,h4,h5⟩
     | ret=>exact⟨_,dX,fK,Bz,m1,by simp only[iter,h1],hk,h3,h4,h5⟩
   obtain⟨e,dX,fK,Bz,m1,h1,h2,h3,h4,h5⟩:=go j hS hk;exact⟨e,dX,fK,Bz,m1,by simp only[exec];exact CS h1 hj,h2,h3,h4,h5⟩
  ·exact Cj hX hS hk
 | rangeFunc g qs mG body iha ihb=>
  intro A W fl m ps ts an k hS hk;simp only[fP] at hk;exact Cj hX hS hk
 | _=>intro A W fl m ps ts an k hS hk;simp only[fP] at hk;exact hk.elim
end
end
section
variable {X:iR} {P:Program} {T:iF} {A W:Nat->Prop} {m m':List MB}
variable {call:ay} {kX:iO X.Γ} {L:Nat}
def ntP (P:Program) (f:Nat):Nat:=match FU P f with
 | some t=>t.nt
 | none=>0
abbrev KO (X:iR) (P:Program) (T:iF) (call:ay) (L f B:Nat):PG X.Γ:=iq X P T call L f false (ntP P f) B
theorem Ja {A:Nat->Prop} {h:List HB}:∀ {k:Nat} {vs:List (PV X.Γ)} {xs:List TV},aH X P A m h vs xs->gG X P A m h (vw X k vs) (gu k xs)
 | k,[],xs,hv=>by rw[hv.inv0];exact .nil
 | k,v::vs,xs,hv=>by
  obtain⟨x,r,rfl,h1,h2⟩:=hv.inv;exact .cons h1 (Ja h2)
theorem E5 (hX:aU X P) {ps:aW X.Γ} {ts:St} (hR:nS X P A m ps ts):∀ {rs:List ResultVar} {vs:List (PV X.Γ)},Eu X P ps rs=some vs->∃ ws,l9 P ts rs=some ws∧aH X P (AA A m) m ts.heap vs ws
 | [],vs,h=>by simp only[Eu,Option.some.injEq] at h;subst h;exact⟨[],rfl,.nil⟩
 | r::rs,vs,h=>by
  simp only[Eu] at h;split at h
  rotate_left
  ·cases h
  rename_i v vs' h1 h2;cases h;obtain⟨ws,g1,g2⟩:=E5 hX hR h2;have:∃ w,SV P ts r=some w∧VR X P (AA A m) m ts.heap v w:=by
   unfold a5k at h1;unfold SV;split at h1
   ·rename_i t;split at h1
    ·rename_i u hu;cases h1;obtain⟨ev,e1,e2⟩:=iZ hR.env hu;obtain⟨w,rfl,e3⟩:=bV e2;exact⟨w,by simp only[e1],yN e3⟩
    cases h1
   rename_i a t;split at h1
   ·rename_i pa ha;simp only[Option.map_eq_some_iff] at h1;obtain⟨⟨u,i⟩,e1,rfl⟩:=h1;obtain⟨ev,e2,e3⟩:=iZ hR.env ha;obtain⟨w,ti,e4,e5,_,_⟩:=xR hX hR e3 e1;exact⟨w,by simp only[e2,e4,Option.map_some],e5⟩
   cases h1
  obtain⟨w,g3,g4⟩:=this;exact⟨w::ws,by simp only[l9,g3,g1],.cons g4 g2⟩
theorem Qa {A:Nat->Prop} {h:List HB} {vs:List (PV X.Γ)} {ws:List TV} (hv:aH X P A m h vs ws):VR X P A m h (UE X vs) (one ws):=by
 match vs,ws,hv with
 | [],ws,hv=>rw[hv.inv0];exact .bH rfl (by simp)
 | [v],ws,hv=>
  obtain⟨x,r,rfl,h1,h2⟩:=hv.inv;have:=h2.inv0;subst this;exact h1
 | v::u::vs,ws,hv=>
  obtain⟨x,r,rfl,h1,h2⟩:=hv.inv;obtain⟨z,r,rfl,h3,h4⟩:=h2.inv;exact .bH hv.1 hv.2
theorem E8 (hX:aU X P) (hO:lC X P call kX) {f:Nat} {vs:List (PV X.Γ)} {H:List (PB X.Γ)} {an:PT X.Γ} {v:PV X.Γ} {H1:List (PB X.Γ)} (hk:(PK X P T kX (qH X P call) (KO X P T call L f H.length) L f vs H an).Ends (v,H1))
  {h:List HB} (hr:HR X P A m H h) {xs:List TV} (hv:aH X P (AA A m) m h vs xs):∃ w h1 ws m1,QY P T call L f xs h=some (w,h1,ws)∧HR X P A m1 H1 h1∧VR X P (AA A m1) m1 h1 v w∧Fr m h m1 h1∧FP H.length m m1∧(∀ b∈ws,b∈aK m)∧¬(T.exts.contains f||T.Lm.contains f)=true:=by
 unfold PK at hk;split at hk
 ·rename_i t ht;have hnx:¬(T.exts.contains f||T.Lm.contains f)=true:=fun hx=>by rw[if_pos hx] at ht;cases ht
  rw[if_neg hnx] at ht;have hnt:ntP P f=t.nt:=by unfold ntP;rw[ht]
  have hS:SR X P A (fun b=>b∈aK m) h.length m ⟨vw X 0 vs,[],H⟩ ⟨gu 0 xs,[],h,[]⟩:=
   ⟨⟨hr,rfl,fun k cs hk=>by simp at hk,Ja hv⟩,fun b hb=>.inl hb,fun b hb=>(by cases hb),Nat.le_refl _⟩
  rw[show KO X P T call L f H.length=iq X P T call L f false t.nt H.length by unfold KO;rw[hnt]] at hk;obtain⟨e,dX,fK,Bz,m1,h1,hk,h3,h4,h5⟩:=jV hX hO t.body hS hk;have fin:∀ {e:Ex},exec P T call L f false h.length t.nt t.body ⟨gu 0 xs,[],h,[]⟩=some (e,dX)->(e=.norm∨e=.ret)->∀ {us:List (PV X.Γ)},Eu X P fK t.results=some us->(UE X us,fK.heap)=(v,H1)->∃ w h1 ws m1,QY P T call L f xs h=some (w,h1,ws)∧HR X P A m1 H1 h1∧VR X P (AA A m1) m1 h1 v w∧Fr m h m1 h1∧FP H.length m m1∧(∀ b∈ws,b∈aK m)∧¬(T.exts.contains f||T.Lm.contains f)=true:=by
   intro e he hee us Xc hv;cases hv;obtain⟨ws,g1,g2⟩:=E5 hX h3.st Xc;refine⟨one ws,dX.heap,dX.ws,m1,?_,h3.st.heap,Qa g2,h4,h5,h3.ws,hnx⟩;unfold QY;rcases hee with rfl | rfl<;>simp only[ht,he,g1]
  cases e with
  | exit id=>exact hk.elim
  | norm=>
   cases Bz with
   | n=>
    simp only at hk;split at hk
    ·rename_i us Xc;exact fin h1 (.inl rfl) Xc hk
    ·exact hk.elim
   | _=>exact hk.elim
  | ret=>
   cases Bz with
   | n=>
    simp only at hk;split at hk
    ·rename_i us Xc;exact fin h1 (.inr rfl) Xc hk
    ·exact hk.elim
   | _=>exact hk.elim
 ·exact hk.elim
theorem a2r (hX:aU X P) {n f:Nat} (hn:0<n) (hO:lC X P (Bd P T L (n-1)) kX) {first xs cap:List (PV X.Γ)} {H H1:List (PB X.Γ)} {an:PT X.Γ} {v:PV X.Γ}
  (hk:(PK X P T kX (qH X P (Bd P T L (n-1))) (KO X P T (Bd P T L (n-1)) L f H.length) L f (first++xs++cap) H an).Ends (v,H1)):qH X P (Bd P T L n) (.fn f first cap) xs H v H1:=by
 intro A m h tf nI hr hf hx;obtain⟨n,rfl⟩:∃ j,n=j+1:=⟨n-1,by omega⟩;cases hf with
 | gone hi _ _=>simp[aG] at hi
 | fn p1 p2 p3 p4=>
  obtain⟨w,h1,ws,m1,g1,g2,g3,g4,g5,g6,g7⟩:=E8 hX hO hk hr ((aH.app ⟨p1,p2⟩ hx).app ⟨p3,p4⟩);refine⟨w,h1,ws,m1,by simp only[Bd];simp only[Bool.or_eq_true,not_or] at g7;rw[if_neg g7.1,if_neg g7.2];exact g1,g2,g3,g4,fun i mb hi=>g5 i mb ?_ hi,g6⟩;rw[<-hr.len];exact (List.getElem?_eq_some_iff.1 hi).1
def a2s:Ex->aW X.Γ->PT X.Γ->OT (Ex×aW X.Γ):=fun e s an=>match an with
 | .n=>.ret (e,s)
 | _=>.bad
section
variable {f nt B:Nat} {eu:Bool}
theorem Va (hX:aU X P) (hO:lC X P call kX) {c:Code} {ps:aW X.Γ} {an:PT X.Γ} {e:Ex} {fK:aW X.Γ} (hk:(fP X P T kX (qH X P call) (iq X P T call L f eu nt B) B L f eu nt c ps an a2s).Ends (e,fK)):iq X P T call L f eu nt B c ps e fK:=by
 intro A W fl m ts hS;obtain⟨e1,dX,rY,Bz,m1,h1,h2,h3,h4,h5⟩:=jV hX hO c hS hk;cases Bz with
 | n=>cases h2;exact⟨dX,m1,h1,h3,h4,h5⟩
 | _=>exact h2.elim
end
end
def OT.map {ρ σ:Type} (f:ρ->σ):OT ρ->OT σ
 | .bad=>.bad
 | .ret r=>.ret (f r)
 | .o p r=>.o p (r.map f)
 | .br c t e=>.br c (t.map f) (e.map f)
inductive Fp {Γ:Nat->Type} {ρ:Type} (R:ρ->Prop):PT Γ->OT ρ->Prop where
 | r {v:ρ} (h:R v):Fp R .n (.ret v)
 | g {v:ρ} (gs:List G) (h:R v):Fp R (.a (.lg gs .norm ⟨[],[],[]⟩) .n) (.ret v)
 | o {p:Prop} {an:PT Γ} {o:OT ρ} (h:p) (f:Fp R an o):Fp R an (.o p o)
 | s {c:Bool} {a b:PT Γ} {x y:OT ρ} (f:c=true->Fp R a x) (g:c=false->Fp R b y):Fp R (.s a b) (.br c x y)
 | z {c:Bool} {a b:PT Γ} {x y:OT ρ} (f:c=true->Fp R a x) (g:c=false->Fp R b y):Fp R (.z c a b) (.br c x y)
 | b {c t:Bool} {an:PT Γ} {o:OT ρ} (h:c=t) (f:Fp R an o):Fp R (.a (.br t) an) (.o (c=t) o)
 | q {p:Prop} {an:PT Γ} {o:OT ρ} (w:TV) (h:p) (f:Fp R an o):Fp R (.a (.rd w) an) (.o p o)
 | c {p:Prop} {an:PT Γ} {o:OT ρ} (v:PV Γ) (H:List (PB Γ)) (h:p) (f:Fp R an o):Fp R (.a (.call v H) an) (.o p o)
 | kf {p:Prop} {an:PT Γ} {o:OT ρ} (ks:List Nat) (v:PV Γ) (H:List (PB Γ)) (h:p) (f:Fp R an o):Fp R (.a (.fr ks v H) an) (.o p o)
 | kg {p:Prop} {an:PT Γ} {o:OT ρ} (ks rs:List Nat) (v:PV Γ) (H:List (PB Γ)) (h:p) (f:Fp R an o):Fp R (.a (.frR ks rs v H) an) (.o p o)
 | l {p:Prop} {an:PT Γ} {o:OT ρ} (gs:List G) (e:Ex) (s:aW Γ) (h:p) (f:Fp R an o):Fp R (.a (.lg gs e s) an) (.o p o)
 | f {p:Prop} {an:PT Γ} {o:OT ρ} (e:Ex) (s:aW Γ) (h:p) (f:Fp R an o):Fp R (.a (.loop e s) an) (.o p o)
 | m {p:Prop} {an:PT Γ} {o:OT ρ} (k:Nat) (h:p) (f:Fp R an o):Fp R (.l k an) (.o p o)
 | a {an:PT Γ} {o:OT ρ} (x:PA Γ) (f:Fp R an o):Fp R (.a x an) o
theorem Fp.ends {Γ:Nat->Type} {ρ:Type} {R:ρ->Prop} {an:PT Γ} {o:OT ρ} (h:Fp R an o):∃ y,o.Ends y∧R y:=by
 induction h with
 | r h=>exact⟨_,rfl,h⟩
 | g _ h=>exact⟨_,rfl,h⟩
 | s _ _ i1 i2=>
  rename_i c _ _ _ _ _ _;cases c with
  | true=>obtain⟨y,h1,h2⟩:=i1 rfl;exact⟨y,.inl ⟨rfl,h1⟩,h2⟩
  | false=>obtain⟨y,h1,h2⟩:=i2 rfl;exact⟨y,.inr ⟨rfl,h1⟩,h2⟩
 | z _ _ i1 i2=>
  rename_i c _ _ _ _ _ _;cases c with
  | true=>obtain⟨y,h1,h2⟩:=i1 rfl;exact⟨y,.inl ⟨rfl,h1⟩,h2⟩
  | false=>obtain⟨y,h1,h2⟩:=i2 rfl;exact⟨y,.inr ⟨rfl,h1⟩,h2⟩
 | a _ _ i=>exact i
 | o h _ i=>obtain⟨y,h1,h2⟩:=i;exact⟨y,⟨h,h1⟩,h2⟩
 | b h _ i=>obtain⟨y,h1,h2⟩:=i;exact⟨y,⟨h,h1⟩,h2⟩
 | q _ h _ i=>obtain⟨y,h1,h2⟩:=i;exact⟨y,⟨h,h1⟩,h2⟩
 | c _ _ h _ i=>obtain⟨y,h1,h2⟩:=i;exact⟨y,⟨h,h1⟩,h2⟩
 | kg _ _ _ _ h _ i=>obtain⟨y,h1,h2⟩:=i;exact⟨y,⟨h,h1⟩,h2⟩
 | kf _ _ _ h _ i=>obtain⟨y,h1,h2⟩:=i;exact⟨y,⟨h,h1⟩,h2⟩
 | l _ _ _ h _ i=>obtain⟨y,h1,h2⟩:=i;exact⟨y,⟨h,h1⟩,h2⟩
 | f _ _ h _ i=>obtain⟨y,h1,h2⟩:=i;exact⟨y,⟨h,h1⟩,h2⟩
 | m _ h _ i=>obtain⟨y,h1,h2⟩:=i;exact⟨y,⟨h,h1⟩,h2⟩
section
variable {X:iR} {P:Program} {T:iF} {L:Nat}
def a5M (hd:aW X.Γ->aW X.Γ) (B:Nat):Ex->aW X.Γ->PT X.Γ->OT (Ex×aW X.Γ):=fun e s an=>match an with
 | .n=>match e with
  | .norm=>.ret (.norm,hd s)
  | e=>.ret (e,s)
 | .a (.lg gs _ _) .n=>match e with
  | .norm=>match jX B gs (hd s) with
   | some s=>.ret (.norm,s)
   | none=>.bad
  | e=>match jX B gs s with
   | some s=>.ret (e,s)
   | none=>.bad
 | _=>.bad
section
variable {f nt B:Nat} {eu:Bool} {call:ay} {kX:iO X.Γ}
def vK (X:iR) (P:Program) (T:iF) (call:ay) (L f:Nat) (eu:Bool) (nt B:Nat) (b:Code) (n:Nat) (ps:aW X.Γ) (e:Ex) (fK:aW X.Γ):Prop:=
 ∀ (A W:Nat->Prop) (fl:Nat) (m:List MB) (ts:St),SR X P A W fl m ps (dO (T.dG f (bZ b)) ts)->∃ dX m1,iter (fun s=>exec P T call L f eu fl nt b (dO (T.dG f (bZ b)) s)) n ts=some (e,dX)∧SR X P A W fl m1 fK dX∧Fr m ts.heap m1 dX.heap∧FP B m m1
def Rnd (X:iR) (P:Program) (T:iF) (call:ay) (L f:Nat) (eu:Bool) (nt B:Nat) (b:Code) (n:Nat) (e:Ex) (s:aW X.Γ):Ex×aW X.Γ->Prop
 | (.norm,s')=>vK X P T call L f eu nt B b n s' e s
 | (e',s')=>e'=e∧s'=s
theorem Qb {b:Code} {n:Nat} {e e':Ex} {s s':aW X.Γ} (hn:e'≠.norm) (h:Rnd X P T call L f eu nt B b n e s (e',s')):e'=e∧s'=s:=by
 cases e' with
 | norm=>exact absurd rfl hn
 | exit id=>exact h
 | ret=>exact h
theorem round (hX:aU X P) (hO:lC X P call kX) {b:Code} {n:Nat} {ps:aW X.Γ} {an:PT X.Γ} {e:Ex} {s:aW X.Γ} {o:OT (Ex×aW X.Γ)}
  (hk:fP X P T kX (qH X P call) (iq X P T call L f eu nt B) B L f eu nt b ps an (a5M (kY X (T.dG f (bZ b))) B)=o) (ht:Fp (Rnd X P T call L f eu nt B b n e s) an o):vK X P T call L f eu nt B b (n+1) ps e s:=by
 obtain⟨⟨e',s'⟩,h1,h2⟩:=ht.ends;rw[<-hk] at h1;intro A W fl m ts hS;obtain⟨e1,dX,rY,Bz,m1,g1,g2,g3,g4,g5⟩:=jV hX hO b hS h1;have out:∀ {e1:Ex} {m2:List MB},exec P T call L f eu fl nt b (dO (T.dG f (bZ b)) ts)=some (e1,dX)->e1≠.norm->e1=e∧s'=s->SR X P A W fl m2 s' dX->Fr m ts.heap m2 dX.heap->FP B m m2->∃ dX m1,iter (fun s=>exec P T call L f eu fl nt b (dO (T.dG f (bZ b)) s)) (n+1) ts=some (e,dX)∧SR X P A W fl m1 s dX∧Fr m ts.heap m1 dX.heap∧FP B m m1:=by
  intro e1 m2 ge hn hh q1 q2 q3;obtain⟨rfl,rfl⟩:=hh;refine⟨dX,m2,?_,q1,q2,q3⟩;cases e1 with
  | norm=>exact absurd rfl hn
  | exit id=>simp only[iter,ge]
  | ret=>simp only[iter,ge]
 have on:∀ {m2:List MB},exec P T call L f eu fl nt b (dO (T.dG f (bZ b)) ts)=some (.norm,dX)->SR X P A W fl m2 s' (dO (T.dG f (bZ b)) dX)->Fr m ts.heap m2 dX.heap->FP B m m2->vK X P T call L f eu nt B b n s' e s->∃ dX m1,iter (fun s=>exec P T call L f eu fl nt b (dO (T.dG f (bZ b)) s)) (n+1) ts=some (e,dX)∧SR X P A W fl m1 s dX∧Fr m ts.heap m1 dX.heap∧FP B m m1:=by
  intro m2 ge q1 q2 q3 hr;obtain⟨Rz,m3,r1,r2,r3,r4⟩:=hr A W fl m2 dX q1;exact⟨Rz,m3,by simp only[iter,ge,r1],r2,q2.trans r3,q3.trans r4⟩
 unfold a5M at g2;split at g2
 ·split at g2
  ·cases g2;exact on g1 (g3.head _) g4 g5 h2
  ·rename_i e1 dZ;cases g2;exact out g1 (fun h=>dZ h) (Qb (fun h=>dZ h) h2) g3 g4 g5
 ·split at g2
  ·split at g2
   ·rename_i hg;cases g2;obtain⟨m2,q1,q2,q3⟩:=je hX hg _ _ _ _ _ (g3.head _);exact on g1 q1 (g4.trans q2) (g5.trans q3) h2
   ·exact g2.elim
  ·rename_i e1 dZ;split at g2
   ·rename_i hg;cases g2;obtain⟨m2,q1,q2,q3⟩:=je hX hg _ _ _ _ _ g3;exact out g1 (fun h=>dZ h) (Qb (fun h=>dZ h) h2) q1 (g4.trans q2) (g5.trans q3)
   ·exact g2.elim
 ·exact g2.elim
end
structure Ar (X:iR) (P:Program) (α:Type) where
 put:α->PV X.Γ
 get:PV X.Γ->Option α
 ok:∀ {v:PV X.Γ} {a:α},get v=some a->∀ {A:Nat->Prop} {m:List MB} {h:List HB} {x:TV},VR X P A m h v x->VR X P A m h (put a) x
structure NV (X:iR) (P:Program) (α:Type) where
 put:α->List (PV X.Γ)
 get:List (PV X.Γ)->Option α
 ok:∀ {v:List (PV X.Γ)} {a:α},get v=some a->∀ {A:Nat->Prop} {m:List MB} {h:List HB} {x:List TV},aH X P A m h v x->aH X P A m h (put a) x
def a2t (k:IntKind):Ar X P Int where
 put n:=.int k n
 get v:=match v with
  | .int k' n=>if k'=k then some n else none
  | _=>none
 ok:=by
  intro v a hg A m h x hv;split at hg
  ·split at hg
   ·rename_i e;subst e;cases hg;exact hv
   ·cases hg
  ·cases hg
def a5O:Ar X P Bool where
 put n:=.bool n
 get v:=match v with
  | .bool n=>some n
  | .lit n=>some n
  | _=>none
 ok:=by
  intro v a hg A m h x hv;split at hg
  ·cases hg;exact hv
  ·cases hg;exact yN hv
  ·cases hg
theorem VR.less {A:Nat->Prop} {m:List MB} {h:List HB} {t:Nat} {l:List (X.Γ t)} {fu:Bool} {x:TV} (hv:VR X P A m h (.bK t l fu) x):VR X P A m h (.bK t l false) x:=by
 cases hv with
 | gone hi _ _=>simp[aG] at hi
 | jZ=>exact .jZ
 | bK a c c2 s z o k f e r=>exact .bK a c c2 s z o k (fun h=>by cases h) e r
def RD (t:Nat):Ar X P (List (X.Γ t)) where
 put l:=.bK t l false
 get v:=match v with
  | .bK t' l _=>qc t t' l
  | .nil .slc=>some []
  | _=>none
 ok:=by
  intro v a hg A m h x hv;split at hg
  ·obtain⟨rfl,rfl⟩:=jm hg;exact hv.less
  ·cases hg;cases hv with
   | nil=>exact .jZ
   | gone hi _ _=>simp[aG] at hi
  ·cases hg
def a5P (hX:aU X P) (t:Nat):Ar X P (X.Γ t) where
 put a:=.agg (X.enc t a)
 get v:=match v with
  | .agg cs=>X.dec t cs
  | _=>none
 ok:=by
  intro v a hg A m h x hv;split at hg
  ·cases hv with
   | gone hi _ _=>simp[aG] at hi
   | agg h1 h2=>obtain⟨h3,h4⟩:=hX.dec hg ⟨h1,h2⟩;exact .agg h3 h4
  ·cases hg
def fnA (f:FuncId):Ar X P Unit where
 put _:=.fn f [] []
 get v:=match v with
  | .fn g [] []=>if g=f then some () else none
  | _=>none
 ok:=by
  intro v a hg A m h x hv;split at hg
  ·split at hg
   ·rename_i e;subst e;exact hv
   ·cases hg
  ·cases hg
def aa2:NV X P Unit where
 put _:=[]
 get v:=match v with
  | []=>some ()
  | _=>none
 ok:=by
  intro v a hg A m h x hv;split at hg
  ·exact hv
  ·cases hg
def NW {α β:Type} (a:Ar X P α) (l:NV X P β):NV X P (α×β) where
 put x:=a.put x.1::l.put x.2
 get v:=match v with
  | v::vs=>match a.get v,l.get vs with
   | some x,some y=>some (x,y)
   | _,_=>none
  | _=>none
 ok:=by
  intro v x hg A m h xs hv;split at hg
  ·split at hg
   ·rename_i e1 e2;cases hg;obtain⟨y,r,rfl,h1,h2⟩:=hv.inv;exact .cons (a.ok e1 h1) (l.ok e2 h2)
   ·cases hg
  ·cases hg
def a5Q {α:Type} (a:Ar X P α):NV X P α where
 put x:=[a.put x]
 get v:=match v with
  | [v]=>a.get v
  | _=>none
 ok:=by
  intro v x hg A m h xs hv;split at hg
  ·obtain⟨y,r,rfl,h1,h2⟩:=hv.inv;have:=h2.inv0;subst this;exact .cons (a.ok hg h1) .nil
  ·cases hg
def Vb {α:Type} (l:NV X P α):Ar X P α where
 put x:=.bH (l.put x)
 get v:=match v with
  | .bH cs=>l.get cs
  | _=>none
 ok:=by
  intro v x hg A m h xs hv;split at hg
  ·cases hv with
   | gone hi _ _=>simp[aG] at hi
   | bH h1 h2=>obtain⟨h3,h4⟩:=l.ok hg ⟨h1,h2⟩;exact .bH h3 h4
  ·cases hg
def Yb {α:Type} (l:NV X P α):Ar X P α where
 put x:=.agg (l.put x)
 get v:=match v with
  | .agg cs=>l.get cs
  | _=>none
 ok:=by
  intro v x hg A m h xs hv;split at hg
  ·cases hv with
   | gone hi _ _=>simp[aG] at hi
   | agg h1 h2=>obtain⟨h3,h4⟩:=l.ok hg ⟨h1,h2⟩;exact .agg h3 h4
  ·cases hg
def a5R {α β:Type} (a:Ar X P α) (f:α->β) (g:β->α) (hgf:∀ x,g (f x)=x):Ar X P β where
 put x:=a.put (g x)
 get v:=match a.get v with
  | some x=>some (f x)
  | none=>none
 ok:=by
  intro v x hg A m h xs hv;split at hg
  ·rename_i y hy;cases hg;rw[hgf];exact a.ok hy hv
  ·cases hg
def Good (X:iR) (P:Program) (T:iF) (L:Nat) (kX:iO X.Γ):Prop:=∃ N,∀ n,N<=n->lC X P (Bd P T L n) kX
def NY:iO X.Γ:=fun _ _=>none
def dL {α β:Type} (f:FuncId) (a:NV X P α) (r:Ar X P β) (S:α->β) (pre:α->List Prop) (kX:iO X.Γ):iO X.Γ:=fun g vs=>
 match Nat.beq g f with
 | true=>match a.get vs with
  | some x=>some (r.put (S x),[],pre x)
  | none=>kX g vs
 | false=>kX g vs
theorem Good.nil:Good X P T L (NY (X:=X)):=⟨0,fun n _ f vs v ext ps h=>by cases h⟩
theorem Good.add {α β:Type} {f:FuncId} {a:NV X P α} {r:Ar X P β} {S:α->β} {pre:α->List Prop} {kX:iO X.Γ} (hg:Good X P T L kX)
  (hf:∀ n,lC X P (Bd P T L n) kX->∀ x,(∀ p∈pre x,p)->Con X P (Bd P T L (n+1)) f (a.put x) (r.put (S x)) []):Good X P T L (dL f a r S pre kX):=by
 obtain⟨N,hN⟩:=hg;refine⟨N+1,fun n hn=>?_⟩;obtain⟨k,rfl⟩:∃ k,n=k+1:=⟨n-1,by omega⟩;intro g vs v ext ps ho hp;unfold dL at ho;split at ho
 ·rename_i e;have e:=Nat.eq_of_beq_eq_true e;subst e;split at ho
  ·rename_i x hx;cases ho;intro A h first args cap hup hv
   exact hf k (hN k (by omega)) x hp A h first args cap hup (a.ok hx hv)
  ·exact hN (k+1) (by omega) g vs v ext ps ho hp
 ·exact hN (k+1) (by omega) g vs v ext ps ho hp
def Is {β:Type} (r:Ar X P β) (s:β):Option (PV X.Γ)->Prop:=fun v=>v=some (r.put s)∨∃ w,v=some w∧r.get w=some s
theorem Fp.v {β:Type} {r:Ar X P β} {s:β} (u:β) (h:u=s):Fp (Is r s) (.n:PT X.Γ) (.ret (some (r.put u))):=.r (.inl (by rw[h]))
theorem Fp.k {τ:Type} {R:τ->Prop} {call:ay} {fv v:PV X.Γ} {xs:List (PV X.Γ)} {H H1:List (PB X.Γ)} {an:PT X.Γ} {o:OT τ} (h:qH X P call fv xs H v H1) (t:Fp R an o):Fp R (.a (.call v H1) an) (.o (qH X P call fv xs H v H1) o):=.c v H1 h t
theorem Fp.fr {τ:Type} {R:τ->Prop} {call:ay} {fv v:PV X.Γ} {xs:List (PV X.Γ)} {H H1:List (PB X.Γ)} {an:PT X.Γ} {o:OT τ} (ks:List Nat) (h:qH X P call fv xs H v H1) (t:Fp R an o):Fp R (.a (.fr ks v H1) an) (.o (qH X P call fv xs H v H1) o):=.kf ks v H1 h t
theorem Fp.frR {τ:Type} {R:τ->Prop} {call:ay} {fv v:PV X.Γ} {xs:List (PV X.Γ)} {H H1 H2:List (PB X.Γ)} {an:PT X.Γ} {o:OT τ} (ks rs:List Nat) (h:qH X P call fv xs H v H1) (t:Fp R an o):Fp R (.a (.frR ks rs v H2) an) (.o (qH X P call fv xs H v H1) o):=.kg ks rs v H2 h t
def a1 {α:Type} (a:Ar X P α):NV X P α:=a5Q a
def a2 {α β:Type} (a:Ar X P α) (b:Ar X P β):NV X P (α×β):=NW a (a5Q b)
def a3 {α β γ:Type} (a:Ar X P α) (b:Ar X P β) (c:Ar X P γ):NV X P (α×β×γ):=NW a (a2 b c)
def a4 {α β γ δ:Type} (a:Ar X P α) (b:Ar X P β) (c:Ar X P γ) (d:Ar X P δ):NV X P (α×β×γ×δ):=NW a (a3 b c d)
def np {α:Type}:α->List Prop:=fun _=>[]
end
end Pv
namespace Tw
def G8 {σ ρ:Type}:σ⊕ρ->Bool
 | .inl _=>true
 | .inr _=>false
def a2u {σ ρ:Type} (d:ρ):σ⊕ρ->ρ
 | .inl _=>d
 | .inr r=>r
end Tw
namespace Pv
open Go Tw
def kZ:Code->List Code
 | .seq a b=>kZ a++kZ b
 | .cond _ a b=>kZ a++kZ b
 | .block _ b=>kZ b
 | .loop b=>b::kZ b
 | .scope b=>kZ b
 | .rangeFunc _ _ a b=>kZ a++kZ b
 | _=>[]
def a5T (P:Program) (f k:Nat):Code:=
 match FU P f with
 | some t=>(kZ t.body).getD k .skip
 | none=>.skip
theorem Yc {k:Nat} (h:k<=aO):IntKind.i64.wrap ((k:Int)+1)=((k+1:Nat):Int):=by
 simp only[IntKind.wrap,IntKind.bits,IntKind.signed];unfold aO at h;have:((k:Int)+1)%(2^64:Int)=(k:Int)+1:=Int.emod_eq_of_lt (by omega) (by omega);simp only[this];rw[if_neg (by simp;omega)];omega
theorem a2v {k n:Nat} (h:k<n):decide ((k:Int)<(n:Int))=true:=by simp[h]
theorem a5U (n:Nat):decide ((n:Int)<(n:Int))=false:=by simp
section
variable {X:iR} {P:Program} {T:iF} {L:Nat} {f nt B:Nat} {eu:Bool} {call:ay} {b:Code} {σ α ρ:Type}
theorem Fp.w {τ:Type} {R:τ->Prop} {c:Code} {e:Ex} {s s':aW X.Γ} {an:PT X.Γ} {o:OT τ} (h:iq X P T call L f eu nt B c s e s') (t:Fp R an o):Fp R (.a (.lg [] e s') an) (.o (iq X P T call L f eu nt B c s e s') o):=.l [] e s' h t
theorem Fp.go {n:Nat} {e:Ex} {s s':aW X.Γ} (h:vK X P T call L f eu nt B b n s' e s):Fp (Rnd X P T call L f eu nt B b n e s) (.n:PT X.Γ) (.ret (.norm,s')):=Fp.r (v:=(Ex.norm,s')) h
theorem Fp.ex {n i:Nat} {s:aW X.Γ}:Fp (Rnd X P T call L f eu nt B b n (.exit i) s) (.n:PT X.Γ) (.ret (.exit i,s)):=Fp.r (v:=(Ex.exit i,s)) ⟨rfl,rfl⟩
def Rn (X:iR) (P:Program) (T:iF) (call:ay) (L f:Nat) (eu:Bool) (nt B:Nat) (b:Code) (n:Nat) {τ:Type} (K:τ->Ex×aW X.Γ) (x:τ):Ex×aW X.Γ->Prop:=Rnd X P T call L f eu nt B b n (K x).1 (K x).2
section
variable {τ:Type} {K:τ->Ex×aW X.Γ} {n:Nat}
theorem Fp.ls {c:Bool} {t e:τ} {a d:PT X.Γ} {x y:OT (Ex×aW X.Γ)} (h1:Fp (Rn X P T call L f eu nt B b n K t) a x) (h2:Fp (Rn X P T call L f eu nt B b n K e) d y):Fp (Rn X P T call L f eu nt B b n K (if c=true then t else e)) (.s a d) (.br c x y):=
 .s (fun h=>by subst h;exact h1) (fun h=>by subst h;exact h2)
theorem Fp.nx {x:τ} {s':aW X.Γ} (h:vK X P T call L f eu nt B b n s' (K x).1 (K x).2):Fp (Rn X P T call L f eu nt B b n K x) (.n:PT X.Γ) (.ret (.norm,s')):=Fp.r (v:=(Ex.norm,s')) h
end
end
def NZ {Γ:Nat->Type}:PE Γ->Bool
 | .val _=>true
 | _=>false
section
variable {X:iR} {P:Program} {T:iF} {A W:Nat->Prop} {m m':List MB} {h h':List HB} {L f nt B:Nat}
theorem Vd {env:List (Nat×PE X.Γ)} {env':List (Nat×EV)} (he:gG X P A m h env env') (hv:(env.all fun p=>NZ p.2)=true):env'.all isVal=true:=by
 induction he with
 | nil=>rfl
 | cons h1 _ ih=>
  rename_i k v x r r' _;simp only[List.all_cons,Bool.and_eq_true] at hv ⊢;refine⟨?_,ih hv.2⟩;cases v with
  | val v=>obtain⟨y,rfl,_⟩:=bV h1;rfl
  | _=>simp[NZ] at hv
abbrev gB (B:Nat):Nat->Option Nat:=fun i=>if i<B then some i else (ni [] i).map (·+B)
theorem qx {g:Nat->Option Nat}:∀ {a:List (PV X.Γ)},(∀ (i:Nat) x,a[i]? = some x->bT g x=some x)->bT.jg g a=some a
 | [],_=>rfl
 | c::cs,h=>by
  simp only[bT.jg,h 0 c rfl,qx (a:=cs) fun i x hi=>h (i+1) x (by simpa using hi)]
theorem yX {α β:Type} {a:List α} {b:List β} (hl:a.length=b.length) {i:Nat} {x:α} (hi:a[i]? = some x):∃ y,b[i]? = some y:=by
 have:i<b.length:=by rw[<-hl];exact (List.getElem?_eq_some_iff.1 hi).1
 exact⟨b[i],List.getElem?_eq_getElem this⟩
theorem Ve {v:PV X.Γ} {x:TV} (hv:VR X P A m h v x) {B:Nat} (hB:m.length<=B):bT (gB B) v=some v:=by
 have key:∀ {b:Nat} {mb:MB},m[b]? = some mb->gB B b=some b:=fun e=>by
  have:=(List.getElem?_eq_some_iff.1 e).1;simp only[gB];rw[if_pos (by omega)]
 induction hv with
 | bool=>rfl
 | lit=>rfl
 | int=>rfl
 | str=>rfl
 | nil=>rfl
 | ptr e=>simp only[bT,key e,Option.map_some]
 | slc e=>simp only[bT,key e,Option.map_some]
 | own e _=>simp only[bT,key e,Option.map_some]
 | win e _ _=>simp only[bT,key e,Option.map_some]
 | ql e=>simp only[bT,key e,Option.map_some]
 | map e=>simp only[bT,key e,Option.map_some]
 | iter e=>simp only[bT,key e,Option.map_some]
 | jk e=>simp only[bT,key e,Option.map_some]
 | row e _ _=>simp only[bT,key e,Option.map_some]
 | jZ=>rfl
 | bK=>rfl
 | el=>rfl
 | fn h1 _ h3 _ i2 i4=>
  simp only[bT];rw[qx fun i x hi=>let ⟨y,hy⟩:=yX h1 hi;i2 i x y hi hy,qx fun i x hi=>let ⟨y,hy⟩:=yX h3 hi;i4 i x y hi hy]
 | agg h1 _ i2=>simp only[bT];rw[qx fun i x hi=>let ⟨y,hy⟩:=yX h1 hi;i2 i x y hi hy];rfl
 | bH h1 _ i2=>simp only[bT];rw[qx fun i x hi=>let ⟨y,hy⟩:=yX h1 hi;i2 i x y hi hy];rfl
 | @gone v i x hi e _=>
  have:=key (b:=i) (mb:=(m[i]?).getD .gone) (by cases q:m[i]? with | none=>rw[q] at e;cases e | some y=>rfl);cases v<;>simp only[aG,Option.some.injEq] at hi<;>first | (subst hi;simp only[bT,this,Option.map_some]) | cases hi
theorem Qc {v:List (PV X.Γ)} {x:List TV} (hv:aH X P A m h v x) {B:Nat} (hB:m.length<=B):bT.jg (gB B) v=some v:=
 qx fun i a hi=>let ⟨y,hy⟩:=yX hv.1 hi;Ve (hv.2 i a y hi hy) hB
theorem Vf {v:List (Nat×PE X.Γ)} {x:List (Nat×EV)} (hv:gG X P A m h v x) {B:Nat} (hB:m.length<=B):jG (gB B) v=some v:=by
 induction hv with
 | nil=>rfl
 | cons h1 _ ih=>
  rename_i k v x r r' _;simp only[jG,ih];cases v with
  | val v=>obtain⟨y,rfl,h2⟩:=bV h1;simp only[Nw,Ve h2 hB,Option.map_some]
  | _=>rfl
theorem Yd {b:PB X.Γ} {mb:MB} (hb:BR X P A m h b mb) {B:Nat} (hB:m.length<=B):qh (gB B) b=some b:=by
 cases b with
 | cells cs=>
  cases mb with
  | cO c=>obtain⟨_,_,h2⟩:=hb;simp only[qh,Qc h2 hB,Option.map_some]
  | _=>exact hb.elim
 | fG cs=>
  cases mb with
  | cZ c=>obtain⟨_,_,_,h2⟩:=hb;simp only[qh,Qc h2 hB,Option.map_some]
  | _=>exact hb.elim
 | map es=>rfl
 | bn r n seen=>
  cases mb with
  | cO c=>
   obtain⟨_,_,h2,_⟩:=hb;obtain⟨mb,h3⟩:=Option.isSome_iff_exists.1 h2;have aN:r<B:=Nat.lt_of_lt_of_le (List.getElem?_eq_some_iff.1 h3).1 hB;have:gB B r=some r:=(by simp[gB,aN]);simp only[qh,this,Option.map_some]
  | _=>exact hb.elim
 | loop=>
  cases mb with
  | cO c=>obtain⟨_,_,h2⟩:=hb;simp only[qh,Vf h2 hB,Option.map_some]
  | _=>exact hb.elim
 | _=>rfl
theorem KP {B:Nat}:∀ {H:List (PB X.Γ)},(∀ (i:Nat) b,H[i]? = some b->qh (gB B) b=some b)->iM (gB B) H=some H
 | [],_=>rfl
 | c::cs,h=>by
  simp only[iM,h 0 c rfl,KP (H:=cs) fun i x hi=>h (i+1) x (by simpa using hi)]
theorem qH.drop (hX:aU X P) {call:ay} {fv:PV X.Γ} {xs:List (PV X.Γ)} {H H1:List (PB X.Γ)} {v:PV X.Γ} (hs:qH X P call fv xs H v H1) (h1:H1.take H.length=H) (hv:bT (gB H.length) v=some v):qH X P call fv xs H v H:=by
 intro A m h tf nI hr hf hx;obtain⟨w,h',ws,m1,c1,c2,c3,c4,c5,c6⟩:=hs A m h tf nI hr hf hx;have hg:jX H.length [.gc []] (⟨[(0,.val v)],[],H1⟩:aW X.Γ)=some ⟨[(0,.val v)],[],H⟩:=by
  have hb:iM (gB H.length) H=some H:=KP fun i b hi=>let ⟨mb,_,h2⟩:=hr.at_ i b hi;Yd h2 (Nat.le_of_eq hr.len)
  have hl:H.length<=H1.length:=by have:=congrArg List.length h1;simp at this;omega
  have e:jG (gB H.length) [(0,PE.val v)]=some [(0,.val v)]:=by simp only[jG,Nw,hv,Option.map_some]
  have rO:iM (fun i=>if i<H.length then some i else (ni [] i).map (·+H.length)) H=some H:=hb;have e':jG (fun i=>if i<H.length then some i else (ni [] i).map (·+H.length)) [(0,PE.val v)]=some [(0,.val v)]:=e;simp only[jX,rQ,List.all_nil,List.nodup_nil,decide_true,Bool.and_self,Bool.true_and,hl,if_true,e',Kt,h1,rO,tV,iM,List.append_nil]
 obtain⟨m2,q1,q2,q3⟩:=je hX hg A (fun _=>True) 0 m1 ⟨[(0,.val w)],[],h',[]⟩ ⟨⟨c2,rfl,fun k cs hk=>by simp at hk,.cons c3 .nil⟩,fun b _=>.inl trivial,fun b hb=>(by cases hb),Nat.zero_le _⟩;obtain⟨w',e1,e2⟩:=iZ q1.st.env (t:=0) (v:=.val v) rfl;simp only[aT,if_true,Option.some.injEq] at e1;subst e1;refine⟨w,h',ws,m2,c1,q1.st.heap,e2,c4.trans q2,fun i mb hi=>?_,c6⟩;have aN:i<H.length:=by rw[<-hr.len];exact (List.getElem?_eq_some_iff.1 hi).1
 rcases c5 i mb hi with g | g
 ·exact q3 i mb aN g
 rcases q3 i _ aN g with g | g<;>exact .inr g
end
section
variable {X:iR} {P:Program}
theorem qH.frame (hX:aU X P) {call:ay} {ks:List Nat} {H' Hp H H1 LH:List (PB X.Γ)} {fv fv' v v':PV X.Γ} {xs xs':List (PV X.Γ)} (hs:qH X P call fv xs H v H1)
  (lH:ks.Nodup) (hp:tV H' ks=some Hp) (hH:iM (ni ks) Hp=some H) (hf:bT (ni ks) fv'=some fv) (hx:bT.jg (ni ks) xs'=some xs)
  (hv:bT (bk ks H'.length) v=some v') (hH1:iM (bk ks H'.length) H1=some LH) (SE:A8 (H1.drop ks.length)=true) :
  qH X P call fv' xs' H' v' (putAt ks LH H'++LH.drop ks.length):=fun A m' h tf nI hr hf' FX=>by
 obtain⟨w,h1,ws,m1,c1,c2,c3,c4,c5,c6⟩:=Ag hX hs.w lH hp hH hf hx hv hH1 SE A m' h tf nI hr hf' FX;exact⟨w,h1,ws,m1,c1,c2,c3,c4,c5,fun b hb=>by obtain⟨_,k,_,_,mb,h8,h9⟩:=c6 b hb;exact aC h8 h9⟩
end
section
variable {X:iR} {P:Program} {T:iF} {L:Nat}
def aa3 {α:Type} (f:FuncId) (a:NV X P α) (v:α->PV X.Γ) (ext:α->List (PB X.Γ)) (pre:α->List Prop) (kX:iO X.Γ):iO X.Γ:=fun g vs=>
 match Nat.beq g f with
 | true=>match a.get vs with
  | some x=>some (v x,ext x,pre x)
  | none=>kX g vs
 | false=>kX g vs
def IsE (v:PV X.Γ) (H:List (PB X.Γ)):PV X.Γ×List (PB X.Γ)->Prop:=fun y=>y=(v,H)
theorem Fp.er {v:PV X.Γ} {H:List (PB X.Γ)}:Fp (IsE v H) (.n:PT X.Γ) (.ret (v,H)):=.r rfl
end
section
variable {X:iR} {P:Program} {T:iF} {L:Nat}
theorem a2w (hX:aU X P) {n f:Nat} {kX:iO X.Γ} (hO:lC X P (Bd P T L n) kX) {first xs cap:List (PV X.Γ)} {H H1:List (PB X.Γ)} {v:PV X.Γ} {an:PT X.Γ} {o:OT (PV X.Γ×List (PB X.Γ))}
  (hk:PK X P T kX (qH X P (Bd P T L n)) (KO X P T (Bd P T L n) L f H.length) L f (first++xs++cap) H an=o) (ht:Fp (IsE v H1) an o):qH X P (Bd P T L (n+1)) (.fn f first cap) xs H v H1:=by
 obtain⟨y,h1,h2⟩:=ht.ends;cases h2;rw[<-hk] at h1;exact a2r hX (n:=n+1) (by omega) hO h1
end
section
variable {X:iR} {P:Program}
theorem qH.gs (hX:aU X P) {call:ay} {fv:PV X.Γ} {xs:List (PV X.Γ)} {H H1 H2:List (PB X.Γ)} {v v':PV X.Γ} (hs:qH X P call fv xs H v H1) (gs:List G) (hg:jX H.length gs (⟨[(0,.val v)],[],H1⟩:aW X.Γ)=some ⟨[(0,.val v')],[],H2⟩):qH X P call fv xs H v' H2:=by
 intro A m h tf nI hr hf hx;obtain⟨w,h',ws,m1,c1,c2,c3,c4,c5,c6⟩:=hs A m h tf nI hr hf hx;obtain⟨m2,q1,q2,q3⟩:=je hX hg A (fun _=>True) 0 m1 ⟨[(0,.val w)],[],h',[]⟩ ⟨⟨c2,rfl,fun k cs hk=>by simp at hk,.cons c3 .nil⟩,fun b _=>.inl trivial,fun b hb=>(by cases hb),Nat.zero_le _⟩;obtain⟨w',e1,e2⟩:=iZ q1.st.env (t:=0) (v:=.val v') rfl;simp only[aT,if_true,Option.some.injEq] at e1;subst e1;refine⟨w,h',ws,m2,c1,q1.st.heap,e2,c4.trans q2,fun i mb hi=>?_,c6⟩;have aN:i<H.length:=by rw[<-hr.len];exact (List.getElem?_eq_some_iff.1 hi).1
 rcases c5 i mb hi with g | g
 ·exact q3 i mb aN g
 rcases q3 i _ aN g with g | g<;>exact .inr g
theorem qH.cut (hX:aU X P) {call:ay} {fv:PV X.Γ} {xs:List (PV X.Γ)} {H H1 H2:List (PB X.Γ)} {v:PV X.Γ} (hs:qH X P call fv xs H v H1) (h1:H1.take H.length=H2) (hb:iM (gB H.length) H2=some H2) (hl:decide (H.length<=H1.length)=true) (hv:bT (gB H.length) v=some v):qH X P call fv xs H v H2:=by
 intro A m h tf nI hr hf hx;obtain⟨w,h',ws,m1,c1,c2,c3,c4,c5,c6⟩:=hs A m h tf nI hr hf hx;have hl:=of_decide_eq_true hl;have hg:jX H.length [.gc []] (⟨[(0,.val v)],[],H1⟩:aW X.Γ)=some ⟨[(0,.val v)],[],H2⟩:=by
  have e:jG (gB H.length) [(0,PE.val v)]=some [(0,.val v)]:=by simp only[jG,Nw,hv,Option.map_some]
  have rO:iM (fun i=>if i<H.length then some i else (ni [] i).map (·+H.length)) H2=some H2:=hb;have e':jG (fun i=>if i<H.length then some i else (ni [] i).map (·+H.length)) [(0,PE.val v)]=some [(0,.val v)]:=e;simp only[jX,rQ,List.all_nil,List.nodup_nil,decide_true,Bool.and_self,Bool.true_and,hl,if_true,e',Kt,h1,rO,tV,iM,List.append_nil]
 obtain⟨m2,q1,q2,q3⟩:=je hX hg A (fun _=>True) 0 m1 ⟨[(0,.val w)],[],h',[]⟩ ⟨⟨c2,rfl,fun k cs hk=>by simp at hk,.cons c3 .nil⟩,fun b _=>.inl trivial,fun b hb=>(by cases hb),Nat.zero_le _⟩;obtain⟨w',e1,e2⟩:=iZ q1.st.env (t:=0) (v:=.val v) rfl;simp only[aT,if_true,Option.some.injEq] at e1;subst e1;refine⟨w,h',ws,m2,c1,q1.st.heap,e2,c4.trans q2,fun i mb hi=>?_,c6⟩;have aN:i<H.length:=by rw[<-hr.len];exact (List.getElem?_eq_some_iff.1 hi).1
 rcases c5 i mb hi with g | g
 ·exact q3 i mb aN g
 rcases q3 i _ aN g with g | g<;>exact .inr g
end
section
variable {X:iR} {P:Program} {T:iF} {L f nt B:Nat} {eu:Bool} {call:ay} {kX:iO X.Γ}
theorem Fp.xx {y:Ex×aW X.Γ}:Fp (fun z=>z=y) (.n:PT X.Γ) (.ret y):=.r rfl
end
theorem lC.as {X:iR} {P:Program} {call:ay} {α β:Type} {f:FuncId} {a:NV X P α} {r:Ar X P β} {S:α->β} {pre:α->List Prop} {kX:iO X.Γ} (hO:lC X P call kX)
  (h:∀ x,(∀ p∈pre x,p)->Con X P call f (a.put x) (r.put (S x)) []):lC X P call (dL f a r S pre kX):=by
 intro g vs v ext ps ho hp;unfold dL at ho;split at ho
 ·rename_i e;have e:=Nat.eq_of_beq_eq_true e;subst e;split at ho
  ·rename_i x hx;cases ho;intro A hh first args cap hup hv
   exact h x hp A hh first args cap hup (a.ok hx hv)
  ·exact hO g vs v ext ps ho hp
 ·exact hO g vs v ext ps ho hp
section
variable {X:iR} {P:Program}
theorem Con.gs (hX:aU X P) {call:ay} {f:FuncId} {vs:List (PV X.Γ)} {v v':PV X.Γ} {ext ext':List (PB X.Γ)} (hc:Con X P call f vs v ext) (gs:List G) (hg:jX 0 gs (⟨[(0,.val v)],[],ext⟩:aW X.Γ)=some ⟨[(0,.val v')],[],ext'⟩):Con X P call f vs v' ext':=by
 intro A h first args cap hup hv
 obtain⟨w,h',m',c1,c2,c3,c4⟩:=hc A h first args cap hup hv
 obtain⟨m2,q1,q2,q3⟩:=je hX hg A (fun _=>True) 0 m' ⟨[(0,.val w)],[],h',[]⟩ ⟨⟨c2,rfl,fun k cs hk=>by simp at hk,.cons c3 .nil⟩,fun b _=>.inl trivial,fun b hb=>(by cases hb),Nat.zero_le _⟩;obtain⟨w',e1,e2⟩:=iZ q1.st.env (t:=0) (v:=.val v') rfl;simp only[aT,if_true,Option.some.injEq] at e1;subst e1;exact⟨w,h',m2,c1,q1.st.heap,e2,c4.trans q2⟩
end
end Pv
namespace Go.Proofs.YtjkgcifieggcpaaGreat
open Go Tw
structure B where
 lo:Int
 hi:Int
 f:Int
 deriving DecidableEq
structure O where
 code:Int
 a:Int
 b:Int
 c:Int
 n:Int
 deriving DecidableEq
structure K where
 name:ByteArray
 lo:Int
 hi:Int
structure V where
 f:Int
 n:Int
 deriving DecidableEq
abbrev B0:B:=⟨0,0,0⟩
abbrev O0:O:=⟨0,0,0,0,0⟩
abbrev K0:K:=⟨ByteArray.empty,0,0⟩
abbrev V0:V:=⟨0,0⟩
structure C where
 cs:List K
 os:List O
 rs:List Int
def RF (x:Int) (lo:Int) (hi:Int):Bool:=
 if (decide ((x)<(lo)))=true then true else decide ((x)>(hi))
def EO (l:List Int) (lo:Int) (hi:Int):Bool:=
 !(l.any ((fun x=>RF x lo hi)))
theorem wrap_small {z:Int} (h0:-(2^62)<=z) (h1:z<2^62):IntKind.i64.wrap z=z:=by
 simp only[IntKind.wrap,IntKind.bits,IntKind.signed];rcases Int.lt_or_le z 0 with h | h
 ·have:z%(2^64:Int)=z+2^64:=by
   have:=Int.add_mul_emod_self_left z (2^64) 1;rw[Int.mul_one] at this;rw[<-this];exact Int.emod_eq_of_lt (by omega) (by omega)
  simp only[this];rw[if_pos (by simp;omega)];omega
 have:z%(2^64:Int)=z:=Int.emod_eq_of_lt h (by omega);simp only[this];rw[if_neg (by simp;omega)]
def yY (k:Int) (least:Int) (aO:Int):Bool:=
 if (decide ((k)>=(least)))=true then decide ((k)<=(aO)) else false
theorem vM {x y:Int} (hx0:-20000<=x) (Xj:x<=20000) (X6:0<=y) (hy1:y<=20000):IntKind.i64.wrap (x*y)=x*y:=by
 have h1:x*y<=20000*y:=Int.mul_le_mul_of_nonneg_right Xj X6;have h2:-20000*y<=x*y:=Int.mul_le_mul_of_nonneg_right hx0 X6;exact wrap_small (by omega) (by omega)
def O1 (x:Int) (lo:Int) (hi:Int):Bool:=
 if (decide ((x)<(lo)))=true then true else decide ((x)>(hi))
def Hz (l:List Int) (lo:Int) (hi:Int):Bool:=
 !(l.any ((fun x=>O1 x lo hi)))
def Vg (v:V):Bool:=
 if ((v.f)==0)=true then Hz (([v.n]:List Int)) (-9999) 9999 else if (decide ((v.f)<=4))=true then (v.n)==0 else false
abbrev szK (k:K):Int:=IntKind.i64.wrap (IntKind.i64.wrap (k.hi-k.lo)+1)
structure Good (r:B):Prop where
 num:-9999<=r.lo∧r.lo<=r.hi∧r.hi<=9999∨r.lo=1∧r.hi=0
 f0:0<=r.f
 f1:r.f<=15
theorem wr {z:Int} (h1:-1000000000<=z) (h2:z<=1000000000):IntKind.i64.wrap z=z:=wrap_small (by omega) (by omega)
def szN (k:K):Nat:=(k.hi-k.lo+1).toNat
structure KOk (k:K):Prop where
 lo:-9999<=k.lo
 le:k.lo<=k.hi
 hi:k.hi<=9999
 sz:k.hi-k.lo+1<=12
theorem KOk.n {k:K} (h:KOk k):szK k=szN k∧0<szN k∧szN k<=12:=by
 have:=h.le;have:=h.sz;have:=h.lo;have:=h.hi;unfold szK szN;rw[wr (z:=k.hi-k.lo) (by omega) (by omega),wr (by omega) (by omega)];omega
end Go.Proofs.YtjkgcifieggcpaaGreat
namespace Pv
open Go Tw
def RG {σ ρ:Type} (g:Nat->σ->σ⊕ρ):Nat->Nat->σ->σ⊕ρ
 | 0,_,s=>.inl s
 | m+1,k,s=>match g k s with
  | .inl s'=>RG g m (k+1) s'
  | .inr r=>.inr r
def uq {σ:Type} (g:Nat->σ->σ):Nat->Nat->σ->σ
 | 0,_,s=>s
 | m+1,k,s=>uq g m (k+1) (g k s)
theorem EP {σ:Type} {g:Nat->σ->σ}:∀ (m k:Nat) (s:σ),uq g (m+1) k s=g (k+m) (uq g m k s)
 | 0,_,_=>rfl
 | m+1,k,s=>by
  rw[uq,EP m (k+1),show k+1+m=k+(m+1) by omega];rfl
theorem RH {σ:Type} {g:Nat->σ->σ} (Q:Nat->σ->Prop) {m k:Nat} {s:σ} (h0:Q k s) (hs:∀ j s,k<=j->j<k+m->Q j s->Q (j+1) (g j s)):Q (k+m) (uq g m k s):=by
 induction m with
 | zero=>exact h0
 | succ m ih=>rw[EP];exact hs (k+m) _ (by omega) (by omega) (ih fun j s h1 h2 h3=>hs j s h1 (by omega) h3)
theorem KQ {c:Nat->Bool} {ρ:Type} {r:Nat->ρ}:∀ (m k:Nat),G8 (RG (σ:=Unit) (fun k _=>if c k=true then .inr (r k) else .inl ()) m k ())=true↔∀ j,k<=j->j<k+m->c j=false
 | 0,k=>by simp[RG,G8];omega
 | m+1,k=>by
  simp only[RG];by_cases hc:c k=true
  ·simp only[hc,if_true,G8,Bool.false_eq_true,false_iff];intro h;have:=h k (Nat.le_refl _) (by omega);rw[hc] at this;cases this
  simp only[hc,Bool.false_eq_true,if_false];rw[KQ m (k+1)];constructor
  ·intro h j h1 h2;rcases Nat.lt_or_ge k j with h3 | h3
   ·exact h j h3 (by omega)
   rw[show j=k by omega];simpa using hc
  intro h j h1 h2;exact h j (by omega) (by omega)
abbrev gS (c:Nat->Bool) (k:Nat) (_:Unit):Unit⊕Nat:=if c k=true then .inr k else .inl ()
abbrev pJ (c:Nat->Bool) (N:Nat):Unit⊕Nat:=RG (gS c) N 0 ()
theorem Jb {c:Nat->Bool} {N:Nat}:G8 (pJ c N)=true↔∀ j,j<N->c j=false:=by
 unfold pJ gS;rw[KQ (r:=fun k=>k)];exact⟨fun h j hj=>h j (by omega) (by omega),fun h j _ hj=>h j (by omega)⟩
abbrev a5V (c:Nat->Bool) (a N:Nat):Unit⊕Nat:=RG (gS c) (N-a) a ()
theorem Vh {α:Type} {l:List α} {d:α} {p:α->Prop}:(∀ j,j<l.length->p (l.getD j d))↔∀ a∈l,p a:=by
 constructor
 ·intro h a ha;obtain⟨j,hj,rfl⟩:=List.mem_iff_getElem.1 ha;simpa[List.getD,List.getElem?_eq_getElem hj] using h j hj
 intro h j hj;have:l.getD j d=l[j]:=by simp[List.getD,List.getElem?_eq_getElem hj]
 rw[this];exact h _ (List.getElem_mem hj)
end Pv
namespace gq
open Go Tw Pv
def dD:List Int->Int
 | []=>1
 | a::t=>a*dD t
def a2x:List Int->Int->List Int
 | [],_=>[]
 | a::t,n=>(n/dD t)%a::a2x t n
def Ye:List Int->List Int->Int
 | a::t,d::p=>d*dD t+Ye t p
 | _,_=>0
def Ah:List Int->List Int->Bool
 | [],[]=>true
 | a::t,d::p=>decide (0<=d∧d<a)&&Ah t p
 | _,_=>false
def BQ (s:List Int):Prop:=∀ a∈s,1<=a∧a<=12
instance (s:List Int):Decidable (BQ s):=inferInstanceAs (Decidable (∀ a∈s,1<=a∧a<=12))
structure nJ (s:List Int):Prop where
 len:s.length<=6
 sz:BQ s
 many:dD s<=2000
def ES (n:Nat) (o:List Int):Bool:=decide (o.length=n∧(∀ a∈o,0<=a∧a<n)∧o.Nodup)
theorem D5 {z:Int} (h0:-(2^62)<=z) (h1:z<2^62):IntKind.i64.wrap z=z:=by
 simp only[IntKind.wrap,IntKind.bits,IntKind.signed];rcases Int.lt_or_le z 0 with h | h
 ·have:z%(2^64:Int)=z+2^64:=by
   have:=Int.add_mul_emod_self_left z (2^64) 1;rw[Int.mul_one] at this;rw[<-this];exact Int.emod_eq_of_lt (by omega) (by omega)
  simp only[this];rw[if_pos (by simp;omega)];omega
 have:z%(2^64:Int)=z:=Int.emod_eq_of_lt h (by omega);simp only[this];rw[if_neg (by simp;omega)]
theorem BQ.tail {a:Int} {t:List Int} (h:BQ (a::t)):BQ t:=fun b hb=>h b (List.mem_cons_of_mem _ hb)
theorem qy:∀ {s:List Int},BQ s->1<=dD s
 | [],_=>Int.le_refl _
 | a::t,h=>by
  have h1:=h a (List.mem_cons_self ..);have h2:=qy h.tail;have:=Int.mul_le_mul h1.1 h2 (by omega) (by omega);simpa[dD] using this
theorem HY:∀ (s t:List Int),dD (s++t)=dD s*dD t
 | [],t=>by simp[dD]
 | a::s,t=>by simp[dD,HY s t,Int.mul_assoc]
theorem KT:∀ {s p:List Int},Ah s p=true↔p.length=s.length∧∀ j,j<s.length->0<=p.getD j 0∧p.getD j 0<s.getD j 0
 | [],[]=>by simp[Ah]
 | a::t,d::p=>by
  simp only[Ah,Bool.and_eq_true,decide_eq_true_eq,KT (s:=t),List.length_cons];constructor
  ·rintro⟨h1,h2,h3⟩;refine⟨by omega,fun j hj=>?_⟩;cases j with
   | zero=>simpa using h1
   | succ j=>simpa using h3 j (by omega)
  rintro⟨h1,h2⟩;exact⟨by simpa using h2 0 (by omega),by omega,fun j hj=>by simpa using h2 (j+1) (by omega)⟩
 | [],_::_=>by simp[Ah]
 | _::_,[]=>by simp[Ah]
theorem KU {s:List Int} {k:Nat} (h:k<s.length):s.getD k 0∈s:=by
 have:s.getD k 0=s[k]:=by simp[List.getD,List.getElem?_eq_getElem h]
 rw[this];exact List.getElem_mem h
theorem DY {l:List Int} {i j:Nat} {a:Int} (h:i<l.length):(l.set i a).getD j 0=if i=j then a else l.getD j 0:=by
 simp only[List.getD_eq_getElem?_getD,List.getElem?_set];split<;>simp_all
def BA (s:List Int):Int:=uq (fun k n=>if IntKind.i64.wrap (n*s.getD k 0)<3000 then IntKind.i64.wrap (n*s.getD k 0) else 3000) s.length 0 1
theorem KW {s:List Int} (hs:BQ s):BA s=min 3000 (dD s):=by
 have:=RH (g:=fun k n=>if IntKind.i64.wrap (n*s.getD k 0)<3000 then IntKind.i64.wrap (n*s.getD k 0) else 3000) (m:=s.length) (k:=0) (s:=(1:Int)) (fun k n=>n=min 3000 (dD (s.take k))) (by simp[dD];decide) (fun j n h1 h2 h3=>by
  have hj:j<s.length:=by omega
  have ha:=hs _ (KU hj);have hp:1<=dD (s.take j):=qy fun a ha=>hs a (List.mem_of_mem_take ha);have e:dD (s.take (j+1))=dD (s.take j)*s.getD j 0:=by
   rw[List.take_succ_eq_append_getElem hj,HY];simp[dD,List.getD,List.getElem?_eq_getElem hj]
  have OC:1<=n:=by omega
  have hn1:n<=3000:=by omega
  have h4:n*s.getD j 0<=3000*12:=Int.mul_le_mul hn1 ha.2 (by omega) (by omega);have h5:1<=n*s.getD j 0:=by have:=Int.mul_le_mul OC ha.1 (by omega) (by omega);omega
  rw[D5 (by omega) (by omega),e];by_cases hc:dD (s.take j)<=3000
  ·have:n=dD (s.take j):=(by omega);rw[this];split<;>omega
  have:n=3000:=by omega
  subst this;have h6:3000*s.getD j 0<=dD (s.take j)*s.getD j 0:=Int.mul_le_mul_of_nonneg_right (by omega) (by omega);have h7:3000<=3000*s.getD j 0:=by omega
  split<;>omega)
 rw[Nat.zero_add,List.take_length] at this;exact this
theorem nJ.a5W {s:List Int} (h:nJ s):BA s=dD s:=by rw[KW h.sz];have:=h.many;omega
abbrev cnt (s:List Int):Nat:=(dD s).toNat
theorem nJ.aa4 {s:List Int} (h:nJ s):((cnt s:Nat):Int)=dD s:=by have:=qy h.sz;show ((dD s).toNat:Int)=_;omega
theorem nJ.cnt {s:List Int} (h:nJ s):((cnt s:Nat):Int)=BA s:=by rw[h.a5W,h.aa4]
theorem nJ.lt {s:List Int} (h:nJ s) {k:Nat} (hk:k<gq.cnt s):decide ((k:Int)<BA s)=true:=by rw[<-h.cnt];exact a2v hk
theorem nJ.no {s:List Int} (h:nJ s):decide (((gq.cnt s:Nat):Int)<BA s)=false:=by rw[<-h.cnt];exact a5U _
theorem nJ.aa5 {s:List Int} (h:nJ s):s.length<=aO:=by have:=h.len;unfold aO;omega
end gq
namespace Tw
open Go Go.Proofs Go.Shelf
section
variable {P:Program} {ρ:Ren}
theorem RI {M:Mp} {w:World} {h:List HB} (hV:Valid M mg (iD h) w) {b off len cap:Nat} {ex:Bool} {y:Value} (hx:VR M.h (.slc b off len cap 1 ex) y) (h0:0<len) {k:BK} {cs r:List TV} (hb:h[b]? = some (.cells k cs)) (hk:k≠.ro)
  (hl:k=.last->off+cap=cs.length) (hr:sub cs off len=some r) :
  ∃ ls p cap',M (.h b)=some (.cells ls)∧p∈ls∧y=.slice (some ⟨p.c,off,none⟩) len cap'∧len<=cap'∧cap<=cap'∧off+cap<=p.ext∧off+cap'<=p.tot∧cap'<2^63∧Dp M.h w k cs p∧p.base=0∧(∀ c∈cs,bW c=true) ∧
   ∃ xs:List Value,aH M.h r xs∧∀ (j:Nat) (v:Value),xs[j]? = some v->w.cell? ⟨p.c,off+j,none⟩=some v:=by
 cases hx with
 | slc hm hp vT hle qP hex ha aa6=>
  rename_i ls p a cap';obtain⟨cO,h1,h2⟩:=hV.ok _ _ hm trivial;have hg:iD h (.h b)=some (.cells k cs):=by simp[St.get,hb]
  rw[hg] at h1;cases h1;have hp:=hp.resolve_left (by omega);have qN:=h2.2.1 p hp;have lQ:=qN.base hk;rcases ha with ha | ⟨rfl,ha⟩
  ·omega
  obtain⟨xs,g1,g2⟩:=qN.slice hr (by omega) (fun e=>by have:=hl e;have:=qN.ext;omega);rw[lQ] at g2 ha ⊢;simp only[Nat.zero_add,Nat.mul_one] at g2 ha vT ⊢;exact⟨ls,p,cap',hm,hp,rfl,by omega,qP,vT,ha,aa6,qN,lQ,h2.1,xs,g1,g2⟩
end
open Go.Sort
theorem a2y {N:Np} {k:IntKind} {n:Int} {y:Value} (h:VR N (.int k n) y):y=.int k n:=by cases h;rfl
section
variable {P:Program} {M:Mp} {D:Key->Prop} {C:Ct} {w w':World}
theorem a2z (h:Valid M D C w) {k:Key} {ls:List Pl} {p:Pl} {cs cs':List TV} {kk oN:BK}
  (hk:M k=some (.cells ls)) (hd:D k) (hc:C k=some (.cells kk cs)) (hp:p∈ls) (qM:(kk=.own∧oN=.own)∨((kk=.grow∨kk=.last)∧oN=.last∧p.ext=cs.length))
  (hl:cs'.length=cs.length) (hn:∀ c∈cs',bW c=true) {jP:Array Value} {Sv:TypeId} (oV:w'.heap[p.c]? = some (.cells jP Sv (0,0))) (hs':jP.size=p.tot)
  (MX:∀ c,c<w.heap.size->c≠p.c->w'.heap[c]? = w.heap[c]?) (nR:w.heap.size<=w'.heap.size) (ho:w'.os=w.os) (hou:w'.output=w.output) (ht:w'.tape=w.tape)
  (aa7:∀ (i:Nat) (c:TV) (v:Value),cs'[i]? = some c->jP[i]? = some v->VR M.h c v) :
  Valid M D (gU C k (.cells oN cs')) w'∧Ext M C w M (gU C k (.cells oN cs')) w' [k]:=by
 obtain⟨hb,he,h1,qN,lH,huq,arr,ty,hr,hs,hle,hv⟩:=h.wrB hk hd hc hp qM;have dZ:kk≠.ro:=by rcases qM with⟨e,_⟩ | ⟨e | e,_⟩<;>rw[e]<;>simp
 have Sr:∀ b0,C k=some b0->wr b0=true:=fun b0 lQ=>by rw[hc] at lQ;cases lQ;cases kk<;>simp_all [wr]
 have jf:aQ M k (.cells ls)=M:=zO hk;have bg:∀ c,c<w.heap.size->c∉ah (.cells ls)->w'.heap[c]? = w.heap[c]?:=fun c XA hc=>MX c XA (fun e=>hc (by rw[e];exact List.mem_map.2 ⟨p,hp,rfl⟩));have dh:∀ c∈ah (.cells ls),(∃ l0,M k=some l0∧c∈ah l0)∨w.heap.size<=c:=fun c hc=>.inl ⟨_,hk,hc⟩;have mQ:lG M (aQ M k (.cells ls)):=by rw[jf];exact .refl _
 have aN:∀ q∈ls,q.c<w.heap.size:=fun q hq=>h.inb _ _ hk q.c (List.mem_map.2 ⟨q,hq,rfl⟩);refine⟨?_,?_⟩
 ·have:=h.upd (D':=D) (w':=w') k (.cells oN cs') (.cells ls) (fun j hj=>.inl hj) (fun l0 h0=>by
   rw[hk] at h0;cases h0;exact⟨hd,.refl _,Sr⟩) bg dh nR (by
   rw[jf];refine⟨hn,fun q hq=>?_,fun e=>?_,fun e=>⟨lH,fun q1 lS q2 FM e1 e2=>by rw[huq q1 lS (by omega),huq q2 FM (by omega)]⟩⟩
   ·have Jm:=qN q hq;by_cases Qx:q.c=p.c
    ·have:=Dw lH hp hq Qx;subst this;exact⟨⟨jP,Sv,(0,0),oV,hs',fun _=>rfl,fun _ i c v _ a b=>aa7 i c v a (by simpa[hb] using b)⟩,by omega,by omega,fun _=>hb⟩
    ·obtain⟨aa8,ty2,fz2,t1,t2,t3,t4⟩:=Jm.row;refine⟨⟨aa8,ty2,fz2,(MX q.c (aN q hq) Qx).trans t1,t2,fun _=>t3 dZ,fun hz i c v hi a b=>?_⟩,Jm.fit,by have:=Jm.ext;omega,fun _=>Jm.base dZ⟩;exfalso;apply Qx;rcases qM with⟨e,_⟩ | ⟨_,e,_⟩
     ·obtain⟨b',g1,g2⟩:=h.ok k _ hk hd;rw[hc] at g1;cases g1;obtain⟨q',g3,_⟩:=g2.2.2.1 e;rw[g3] at hq hp;simp at hq hp;rw[hq,hp]
     ·rw[huq q hq (by rw[hz e];omega)]
   ·rcases qM with⟨e0,_⟩ | ⟨_,e1,_⟩
    ·obtain⟨b',g1,g2⟩:=h.ok k _ hk hd;rw[hc] at g1;cases g1;obtain⟨q',g3,g4⟩:=g2.2.2.1 e0;exact⟨q',g3,by omega⟩
    ·rw[e1] at e;cases e)
  rwa [jf] at this
 ·have:=Ext.upd (M:=M) (C:=C) (w:=w) (w':=w') k (.cells oN cs') (.cells ls) [k] (.inl ⟨by simp[hc],rfl,by simp[hk],Sr⟩) mQ bg dh nR ho hou ht
  rwa [jf] at this
end
def KY:List TV->Option (List Int)
 | []=>some []
 | .int .i64 n::r=>(KY r).map (n::·)
 | _=>none
theorem ET:∀ {cs:List TV} {zs:List Int},KY cs=some zs->cs=zs.map fun n=>TV.int .i64 n
 | [],zs,h=>by simp[KY] at h;subst h;rfl
 | c::r,zs,h=>by
  unfold KY at h;split at h
  ·rename_i e;cases e
  ·rename_i n r' e;cases e;simp only[Option.map_eq_some_iff] at h;obtain⟨ys,h1,rfl⟩:=h;rw[ET h1];rfl
  cases h
def wJ (l:List Int):List Int:=l.mergeSort fun x y=>decide (x<=y)
def Vj (g:List Int->List Int) (fI:Nat):ay
 | .fn f [] [],[d],h=>
  if f=fI then
   match d with
   | .nil .slc=>some (.bH [],h,[])
   | .slc _ _ 0 _ _ _=>some (.bH [],h,[])
   | .slc b 0 n n' 1 _=>match h[b]? with
    | some (.cells k cs)=>match sK k true,KY cs with
     | some k',some zs=>if n=n'∧cs.length=n∧0<n∧n<=2^20 then some (.bH [],h.set b (.cells k' ((g zs).map fun x=>TV.int .i64 x)),[b]) else none
     | _,_=>none
    | _=>none
   | _=>none
  else none
 | _,_,_=>none
def Vk:Nat->ay:=Vj wJ
section
variable {P:Program} {ρ:Ren}
theorem Vl (L:Lays.n189 P ρ):aj P (Vk (ρ.f 189)):=by
 intro fv args h v h' ws hc M w x xs hV y7 hx yj;unfold Vk Vj at hc;split at hc
 case h_2=>cases hc
 rename_i f d;split at hc
 case isFalse=>cases hc
 rename_i hf;subst hf;cases hx with
 | @fn _ _ _ ys zs h1 h1a h3 h3a=>
 have:ys=[]:=List.eq_nil_of_length_eq_zero h1.symm;subst this;have:zs=[]:=List.eq_nil_of_length_eq_zero h3.symm;subst this;obtain⟨dv,r1,rfl,hdv,yj⟩:=yj.dJ;have:=yj.jr;subst this;have enters:∀ {R:Value->World->Prop},Calls P (ρ.f 189) #[dv] w (yh R) ->
   ∃ d,(∀ w,(Deferred.ofValue (.func (.func (ρ.f 189)) [].toArray [].toArray) [dv].toArray).run P w=.ok d w)∧((Cc P d w R∧∃ f a b,(TV.fn (ρ.f 189) [] [])=.fn f a b)∨(Iy P d w R∧∃ l,(TV.fn (ρ.f 189) [] [])=.jk l)):=by
  intro R Jc;refine⟨{ target:=.fn (.func (ρ.f 189)) #[],args:=#[dv] },fun w=>by simp[Deferred.ofValue],.inl ⟨⟨ρ.f 189,_,?_,fun n=>callsIn_wide.2 Jc⟩,_,_,_,rfl⟩⟩;have e1:=L.f189;have e2 : ¬ (Body.n189 ρ).name = "runtime.NumGoroutine" := by simp [Body.n189]
  obtain⟨c,e3⟩:∃ c,(Body.n189 ρ).body=some c:=⟨_,rfl⟩;simp[invoke,callFunc,program,Sem.run,e1,e2,e3]
 split at hc
 ·simp only[Option.some.injEq,Prod.mk.injEq] at hc;obtain⟨rfl,rfl,rfl⟩:=hc;cases hdv;refine enters ((Any.slices_Sort_int_none L none 0 w).mono fun e w' ⟨he,hw⟩=>?_);subst he;subst hw;exact⟨M,hV,y7,.refl _ _ _,.FV .nil⟩
 ·simp only[Option.some.injEq,Prod.mk.injEq] at hc;obtain⟨rfl,rfl,rfl⟩:=hc;cases hdv;refine enters ((Any.slices_Sort_int_none L _ _ w).mono fun e w' ⟨he,hw⟩=>?_);subst he;subst hw;exact⟨M,hV,y7,.refl _ _ _,.FV .nil⟩
 ·rename_i b n n' ex _;split at hc
  case h_2=>cases hc
  rename_i k cs hb;split at hc
  case h_2=>cases hc
  rename_i k' zs jH hzs;split at hc
  case isFalse=>cases hc
  rename_i xX;obtain⟨rfl,pK,OC,aeU⟩:=xX;simp only[Option.some.injEq,Prod.mk.injEq] at hc;obtain⟨rfl,rfl,rfl⟩:=hc;have QA:=ET hzs;have OD:zs.length=n:=by rw[<-pK,QA,List.length_map]
  have hk:k≠.ro:=by rintro rfl;cases jH
  have a5X:sub cs 0 n=some cs:=by
   unfold sub;rw[if_pos (by omega)];simp[<-pK]
  obtain⟨ls,p,cap',k1,k2,rfl,k3,k4,k5,k6,k7,k8,k9,k10,csv,k11,k12⟩:=RI hV hdv OC hb hk (fun _=>by omega) a5X;have hpe:p.ext=cs.length:=by have:=k8.ext;omega
  obtain⟨arr,ty,fz,z1,z2,z3,_⟩:=k8.row;have:=z3 hk;subst this;have aN:=(Array.getElem?_eq_some_iff.1 z1).1;have hcv:csv=zs.map fun n=>Value.int .i64 n:=by
   apply List.ext_getElem?;intro i;by_cases hi:i<n
   ·have Tf:i<cs.length:=(by omega);have WS:i<csv.length:=by rw[<-k11.len];exact Tf
    have:=k11.at_ i cs[i] csv[i] (by simp[Tf]) (by simp[WS]);have Sm:cs[i]? = (zs.map fun n=>TV.int .i64 n)[i]?:=(by rw[<-QA]);rw[List.getElem?_eq_getElem Tf,List.getElem?_map,List.getElem?_eq_getElem (by omega)] at Sm;simp only[Option.map_some,Option.some.injEq] at Sm;rw[Sm] at this;rw[List.getElem?_eq_getElem WS,List.getElem?_map,List.getElem?_eq_getElem (by omega)];rw[a2y this];rfl
   ·rw[List.getElem?_eq_none (by rw[<-k11.len];omega),List.getElem?_eq_none (by rw[List.length_map];omega)]
  have hH:Holds (Value.int .i64) w p.c 0 zs.toArray:=fun j hj=>by
   simp only[List.size_toArray] at hj;refine⟨?_,by simp[World.frozen?,z1]⟩;refine k12 j _ ?_;rw[hcv,List.getElem?_map,List.getElem?_eq_getElem hj];simp[hj]
  have Jc:=Any.slices_Sort_int L p.c 0 cap' zs w hH aN (by omega);rw[OD] at Jc;refine enters (Jc.mono fun e w' ⟨he,N,os,hw⟩=>?_);subst he;have hsl:(wJ zs).length=n:=by unfold wJ;rw[List.length_mergeSort,OD]
  have hgb:iD h (.h b)=some (.cells k cs):=by simp[St.get,hb]
  have qM:(k=.own∧k'=.own)∨((k=.grow∨k=.last)∧k'=.last∧p.ext=cs.length):=by
   rcases AV jH with e | ⟨a,b,_⟩
   ·exact .inl e
   ·exact .inr ⟨a,b,hpe⟩
  have oV:w'.heap[p.c]? = some (.cells (putCells (Value.int .i64) 0 (wJ zs).toArray arr) ty (0,0)):=by
   rw[hw,heap_grow_old _ _ (by simp[putRow,mapBlock,Sort.ahead];exact aN)];simp only[putRow,mapBlock,Sort.ahead,Array.getElem?_modify,if_true,z1,Option.map_some,onCells];rfl
  have MX:∀ c,c<w.heap.size->c≠p.c->w'.heap[c]? = w.heap[c]?:=fun c XA dZ=>by
   rw[hw,heap_grow_old _ _ (by simp[putRow,mapBlock,Sort.ahead];exact XA)];simp only[putRow,mapBlock,Sort.ahead,Array.getElem?_modify];rw[if_neg (fun e=>dZ e.symm)]
  obtain⟨g1,g2⟩:=a2z (w':=w') (cs':=(wJ zs).map fun x=>TV.int .i64 x) hV k1 trivial hgb k2 qM (by rw[List.length_map,hsl,pK]) (fun c hc=>by
   obtain⟨y,_,rfl⟩:=List.mem_map.1 hc;rfl) oV (by simp[putCells,z2]) MX (by rw[hw];simp[putRow,mapBlock,Sort.ahead]) (by rw[hw];rfl) (by rw[hw];rfl) (by rw[hw];rfl) (fun i c u hc hu=>by
   rw[List.getElem?_map] at hc;simp only[Option.map_eq_some_iff] at hc;obtain⟨y,hy,rfl⟩:=hc;have hi:i<(wJ zs).length:=(List.getElem?_eq_some_iff.1 hy).1;have hia:i<arr.size:=(by omega);simp only[putCells,Array.getElem?_mapIdx,Array.getElem?_eq_getElem hia,Option.map_some,Option.some.injEq] at hu;rw[if_pos ⟨Nat.zero_le _,by simp;omega⟩] at hu;subst hu;have:(wJ zs).toArray[i-0]! = y:=by
    have h9:=(List.getElem?_eq_some_iff.1 hy).2;simp[hi,h9]
   rw[this];exact .int _ _)
  have mD:=(List.getElem?_eq_some_iff.1 hb).1;have JF:iD (h.set b (.cells k' ((wJ zs).map fun x=>TV.int .i64 x)))=gU (iD h) (.h b) (.cells k' ((wJ zs).map fun x=>TV.int .i64 x)):=dU ⟨[],[],h,[]⟩ b _ mD [] [];exact⟨M,by rw[JF];exact g1,y7,by rw[JF];exact g2,.FV .nil⟩
 ·cases hc
theorem aj.or {P:Program} {c1 c2:ay} (h1:aj P c1) (h2:aj P c2):aj P (fun f xs h=>(c1 f xs h).orElse fun _=>c2 f xs h):=by
 intro fv args h v h' ws hc;cases he:c1 fv args h with
 | some r=>
  simp only[he,Option.orElse_some,Option.some.injEq] at hc;subst hc;exact h1 _ _ _ _ _ _ he
 | none=>
  simp only[he,Option.orElse_none] at hc;exact h2 _ _ _ _ _ _ hc
end
def O4 (x:Int):List Int->List Int
 | []=>[x]
 | y::l=>match decide (x<=y) with
  | true=>x::y::l
  | false=>y::O4 x l
def RJ:List Int->List Int
 | []=>[]
 | x::l=>O4 x (RJ l)
theorem Ai (x:Int):∀ l,(O4 x l).Perm (x::l)
 | []=>.refl _
 | y::l=>by
  unfold O4;split
  ·exact .refl _
  exact ((Ai x l).cons y).trans (.swap x y l)
theorem I4:∀ l,(RJ l).Perm l
 | []=>.refl _
 | x::l=>(Ai x (RJ l)).trans ((I4 l).cons x)
theorem BD (x:Int):∀ {l:List Int},l.Pairwise (·<=·)->(O4 x l).Pairwise (·<=·)
 | [],_=>by simp[O4]
 | y::l,h=>by
  unfold O4;have h1:=List.pairwise_cons.1 h;split
  ·rename_i e;have e:=of_decide_eq_true e;exact List.pairwise_cons.2 ⟨fun a ha=>by
    rcases List.mem_cons.1 ha with rfl | ha
    ·exact e
    exact Int.le_trans e (h1.1 a ha),h⟩
  rename_i e;have e:=of_decide_eq_false e;exact List.pairwise_cons.2 ⟨fun a ha=>by
   rcases List.mem_cons.1 ((Ai x l).mem_iff.1 ha) with rfl | ha
   ·omega
   exact h1.1 a ha,BD x h1.2⟩
theorem BF:∀ l,(RJ l).Pairwise (·<=·)
 | []=>.nil
 | x::l=>BD x (BF l)
theorem Yf:RJ=wJ:=by
 funext l
 refine List.Perm.eq_of_pairwise (le:=(·<=·)) (fun a b _ _ h1 h2=>by omega) (BF l) ?_ ((I4 l).trans (List.mergeSort_perm l _).symm);have:=List.pairwise_mergeSort (le:=fun x y:Int=>decide (x<=y)) (fun a b c h1 h2=>by simp at *;omega) (fun a b=>by simp;omega) l;exact this.imp fun h=>by simpa using h
def a5Y (f:Nat) (b:Bool):ay:=fun fv args h=>match fv,args with
 | .fn g [] [],[]=>if g=f then some (.bool b,h,[]) else none
 | _,_=>none
def isT:Option (TV×List HB×List Nat)->Bool
 | some (.bool true,_,[])=>true
 | _=>false
end Tw
namespace Go.Proofs.YtjkgcifieggcpaaGreat
open Go Tw Go.Shelf
def RN:Go.Shelf.Ren:=⟨fun | 189=>104 | 125=>141 | 257=>140 | 128=>193 | 129=>194 | 294=>184 | 295=>185 | 296=>186 | 297=>187 | 298=>188 | 299=>189 | 216=>190 | 300=>191 | 301=>192 | 328=>227 | 329=>228 | 330=>229 | 331=>230 | 332=>231 | 215=>232 | 343=>253 | n=>n,fun | 28=>22 | 3=>3 | 46=>71 | 0=>0 | 51=>220 | 53=>222 | 4=>4 | 183=>212 | 182=>211 | 131=>217 | 5=>5 | 9=>9 | 218=>249 | 222=>253 | 228=>273 | 229=>274 | n=>n,fun | n=>n⟩
theorem a5Z:Go.Proofs.Lays.n189 Tryz.prog RN where
 mixed:=by kernel_rfl
 f125:=Tryz.func141.trans (congrArg some (by kernel_rfl))
 f128:=Tryz.func193.trans (congrArg some (by kernel_rfl))
 f129:=Tryz.func194.trans (congrArg some (by kernel_rfl))
 f189:=Tryz.func104.trans (congrArg some (by kernel_rfl))
 f215:=Tryz.func232.trans (congrArg some (by kernel_rfl))
 f216:=Tryz.func190.trans (congrArg some (by kernel_rfl))
 f257:=Tryz.func140.trans (congrArg some (by kernel_rfl))
 f294:=Tryz.func184.trans (congrArg some (by kernel_rfl))
 f295:=Tryz.func185.trans (congrArg some (by kernel_rfl))
 f296:=Tryz.func186.trans (congrArg some (by kernel_rfl))
 f297:=Tryz.func187.trans (congrArg some (by kernel_rfl))
 f298:=Tryz.func188.trans (congrArg some (by kernel_rfl))
 f299:=Tryz.func189.trans (congrArg some (by kernel_rfl))
 f300:=Tryz.func191.trans (congrArg some (by kernel_rfl))
 f301:=Tryz.func192.trans (congrArg some (by kernel_rfl))
 f328:=Tryz.func227.trans (congrArg some (by kernel_rfl))
 f329:=Tryz.func228.trans (congrArg some (by kernel_rfl))
 f330:=Tryz.func229.trans (congrArg some (by kernel_rfl))
 f331:=Tryz.func230.trans (congrArg some (by kernel_rfl))
 f332:=Tryz.func231.trans (congrArg some (by kernel_rfl))
 f343:=Tryz.func253.trans (congrArg some (by kernel_rfl))
 t0:=Tryz.underlying0
 a0:=Tryz.isAgg0
 z0:=Tryz.sizeOf0
 v0:=Tryz.zeroValue0
 t3:=Tryz.underlying3
 a3:=Tryz.isAgg3
 z3:=Tryz.sizeOf3
 v3:=Tryz.zeroValue3
 t4:=Tryz.underlying4
 a4:=Tryz.isAgg4
 z4:=Tryz.sizeOf4
 v4:=Tryz.zeroValue4
 t5:=Tryz.underlying5
 a5:=Tryz.isAgg5
 z5:=Tryz.sizeOf5
 v5:=Tryz.zeroValue5
 t9:=Tryz.underlying9
 a9:=Tryz.isAgg9
 z9:=Tryz.sizeOf9
 v9:=Tryz.zeroValue9
 t28:=Tryz.underlying22
 a28:=Tryz.isAgg22
 z28:=Tryz.sizeOf22
 v28:=Tryz.zeroValue22
 t46:=Tryz.underlying71
 a46:=Tryz.isAgg71
 z46:=Tryz.sizeOf71
 v46:=Tryz.zeroValue71
 t51:=Tryz.underlying220
 a51:=Tryz.isAgg220
 z51:=Tryz.sizeOf220
 v51:=Tryz.zeroValue220
 t53:=Tryz.underlying222
 a53:=Tryz.isAgg222
 z53:=Tryz.sizeOf222
 v53:=Tryz.zeroValue222
 t131:=Tryz.underlying217
 a131:=Tryz.isAgg217
 z131:=Tryz.sizeOf217
 v131:=Tryz.zeroValue217
 t182:=Tryz.underlying211
 a182:=Tryz.isAgg211
 z182:=Tryz.sizeOf211
 v182:=Tryz.zeroValue211
 t183:=Tryz.underlying212
 a183:=Tryz.isAgg212
 z183:=Tryz.sizeOf212
 v183:=Tryz.zeroValue212
 t218:=Tryz.underlying249
 a218:=Tryz.isAgg249
 z218:=Tryz.sizeOf249
 v218:=Tryz.zeroValue249
 t222:=Tryz.underlying253
 a222:=Tryz.isAgg253
 z222:=Tryz.sizeOf253
 v222:=Tryz.zeroValue253
 t228:=Tryz.underlying273
 a228:=Tryz.isAgg273
 z228:=Tryz.sizeOf273
 v228:=Tryz.zeroValue273
 t229:=Tryz.underlying274
 a229:=Tryz.isAgg274
 z229:=Tryz.sizeOf274
 v229:=Tryz.zeroValue274
def aae:ay:=fun f xs h=>(a5Y 17 true f xs h).orElse fun _=>Vk 104 f xs h
def Tb:Tw.iF:={
 live:=[(3,[(0,[1]),(1,[1,12]),(2,[2]),(3,[1,3,4]),(4,[1,3,4,5,6]),(5,[1,3,4,5,6,7]),(6,[1,3,4,5,6,7,37]),(7,[2]),(8,[1,3,4,5,6,7,39]),(9,[2]),(10,[1,3,4,5,6,8,9]),(11,[1,5,6,88]),(12,[2]),(13,[2])]),
  (4,[(0,[1]),(1,[1,10]),(2,[2]),(3,[1,3,4]),(4,[1,3,4,5]),(5,[1,3,4,5,20]),(6,[2]),(7,[1,3,4,7]),(8,[1,3,4,39]),(9,[2]),(10,[2])]),
  (6,[(0,[1,2]),(1,[1,2,22]),(2,[4]),(3,[1,2,5]),(4,[1,2,5,6]),(5,[1,2,5,6,31]),(6,[1,2,5,6]),(7,[1,2,5,6]),(8,[2,5,7]),(9,[2,5,7,55]),(10,[2,5,7]),(11,[2,5,7]),(12,[2,5]),(13,[2,5,87]),(14,[4]),(15,[2,5,8,9]),(16,[2,5,8,9,10,11]),(17,[2,5,8,9,10,11,12,13]),(18,[2,5,8,9,10,11,12,13,14,15]),(19,[5,8,9,10,11,12,13,14,15,16,17]),(20,[8,9,10,11,12,13,14,15,16,17,18,19]),(21,[4])]),
  (7,[(0,[1]),(1,[1,12]),(2,[2]),(3,[1,3,4]),(4,[1,3,4,5,6]),(5,[1,3,4,5,6,7]),(6,[1,3,4,5,6,7,27]),(7,[2]),(8,[1,3,4,5,6,8,9]),(9,[1,5,6,76]),(10,[2]),(11,[2])]),
  (8,[(0,[1]),(1,[1,12]),(2,[2]),(3,[1,3,4]),(4,[1,3,4,5,6]),(5,[1,3,4,5,6,7]),(6,[1,3,4,5,6,7,27]),(7,[2]),(8,[1,3,4,5,6,8,9]),(9,[2])]),
  (16,[(0,[1]),(1,[1,31]),(2,[2]),(3,[1,3]),(4,[1,3,36]),(5,[1,3]),(6,[1,3,46]),(7,[2]),(8,[2])]),
  (17,[(0,[]),(1,[1,2]),(2,[1,2,3,4]),(3,[1,2,3,4,5,6]),(4,[1,2,3,4,5,6,7,8]),(5,[1,2,3,4,5,6,7,8,9,10]),(6,[1,2,3,4,5,6,7,8,9,10,11,12]),(7,[0])]),
  (18,[(0,[1]),(1,[2,3])]),
  (19,[(0,[1]),(1,[2,3])]),
  (20,[(0,[1]),(1,[2])]),
  (21,[(0,[0,1,2]),(1,[0,1,2,7]),(2,[0,1,2,7,16]),(3,[6]),(4,[0,1,2,20]),(5,[6]),(6,[0,1,2,22,23,24]),(7,[0,1,2,22,23,24,25]),(8,[0,1,2,9,22,23,24]),(9,[0,1,2,10,22,23,24]),(10,[0,1,2,10,22,23,24,31]),(11,[6]),(12,[0,1,2,22,23,24]),(13,[2,11]),(14,[42]),(15,[6]),(16,[6])]),
  (22,[(0,[0]),(1,[2])]),
  (23,[(0,[0]),(1,[0,3]),(2,[0,3,4]),(3,[0,3,4,8]),(4,[0,3,4]),(5,[0,3,4]),(6,[2])]),
  (24,[(0,[1,2]),(1,[1,2,6]),(2,[1,2,6,7]),(3,[1,2,6,7,8]),(4,[1,2,6,7,8,16]),(5,[1,2,6,7,8]),(6,[1,2,6,7,8,9]),(7,[1,2,6,7,8,9,33]),(8,[1,2,6,7,8]),(9,[4,5])]),
  (25,[(0,[1,2]),(1,[2])]),
  (26,[(0,[0,1]),(1,[0,1,10]),(2,[4]),(3,[0,1,5]),(4,[0,1,5,14]),(5,[0,1,5]),(6,[0,1,5,25]),(7,[4]),(8,[4])]),
  (27,[(0,[0,1]),(1,[0,1,10]),(2,[4]),(3,[0,1,5]),(4,[0,1,5,14]),(5,[0,1,5]),(6,[0,1,5,26]),(7,[4]),(8,[4])]),
  (28,[(0,[1,2]),(1,[1,2,5]),(2,[1,2,5,6]),(3,[1,2,5,6,18]),(4,[1,2,5,6]),(5,[1,2,5,6,7]),(6,[1,2,5,6,7,8]),(7,[1,2,5,6,7,8,29]),(8,[1,2,5,6,7,8]),(9,[1,2,5,6,7,8]),(10,[1,2,5,6,53]),(11,[1,2,5,6,9]),(12,[1,2,5,6,9,10]),(13,[1,2,5,6,9,10,67]),(14,[1,2,5,6,9,10]),(15,[1,2,5,6,9,10,11]),(16,[1,2,5,6]),(17,[4])]),
  (29,[(0,[1]),(1,[2,3])]),
  (30,[(0,[1]),(1,[2])]),
  (31,[(0,[1,2]),(1,[2])]),
  (32,[(0,[1]),(1,[1,3]),(2,[1,3,4]),(3,[1,3,4,17]),(4,[1,3,4]),(5,[1,3,4,22]),(6,[1,3,4]),(7,[2])]),
  (33,[(0,[1]),(1,[1,25]),(2,[2]),(3,[1,3]),(4,[1,3,30]),(5,[1,3]),(6,[1,3,40]),(7,[2]),(8,[2])]),
  (34,[(0,[1,2]),(1,[4,5])]),
  (35,[(0,[1,2,3]),(1,[6])]),
  (37,[(0,[1,2]),(1,[1,2,5]),(2,[1,2,5,12]),(3,[1,2,5]),(4,[1,2,5,6]),(5,[1,2,5,6,7]),(6,[1,2,5,6,7,19]),(7,[1,2,5,6,7]),(8,[1,2,5,6,7]),(9,[1,2,5,49]),(10,[4]),(11,[4])]),
  (40,[(0,[0,1]),(1,[0,1,10]),(2,[4]),(3,[0,1,5]),(4,[0,1,5,14]),(5,[0,1,5]),(6,[0,1,5,26]),(7,[4]),(8,[4])]),
  (41,[(0,[1]),(1,[2])]),
  (42,[(0,[0,1,2,6]),(1,[0,2,6,7]),(2,[6,7]),(3,[6])]),
  (43,[(0,[1]),(1,[1,3]),(2,[1,3,7]),(3,[2]),(4,[1,3,4]),(5,[1,3,4,12]),(6,[1,3,4]),(7,[1,3,4]),(8,[2])]),
  (44,[(0,[1]),(1,[2,3])]),
  (45,[(0,[1]),(1,[2,3])]),
  (46,[(0,[1]),(1,[2,3])]),
  (47,[(0,[1]),(1,[2,3])]),
  (48,[(0,[0,3,4]),(1,[0,3,4,5]),(2,[4])]),
  (49,[(0,[0]),(1,[0])]),
  (50,[(0,[0,2]),(1,[0,2,3]),(2,[0,2,3,4]),(3,[0,2,3,4,8]),(4,[0,2,3,4]),(5,[0,2,3,4]),(6,[2])]),
  (51,[(0,[0]),(1,[0,3]),(2,[0,3,4]),(3,[0,3,4,9]),(4,[0,3,4]),(5,[0,3,4,17]),(6,[0,3,4]),(7,[2])]),
  (55,[(0,[0,1]),(1,[0,1,10]),(2,[4]),(3,[0,1,5]),(4,[0,1,5,19]),(5,[0,1,5]),(6,[0,1,5,30]),(7,[4]),(8,[4])]),
  (56,[(0,[0,1,5,6]),(1,[0,1,5,6,7]),(2,[0,1,5,6,7,8]),(3,[0,1,5,6,7,8,12]),(4,[0,1,5,6,7,8]),(5,[0,1,5,6,7,8]),(6,[6])]),
  (59,[(0,[0]),(1,[0,3]),(2,[0,3,4]),(3,[0,3,4,8]),(4,[0,3,4]),(5,[0,3,4]),(6,[2])]),
  (60,[(0,[1,2]),(1,[1,2,3]),(2,[1,2,3,4]),(3,[1,2,3,4,21]),(4,[1,2,3,4]),(5,[1,2,3,4]),(6,[2])]),
  (61,[(0,[2,3]),(1,[2,3,43]),(2,[4]),(3,[2,3,5]),(4,[2,3,5,48]),(5,[2,3,5]),(6,[2,3,5,79]),(7,[4]),(8,[4])]),
  (62,[(0,[0,1]),(1,[0,1,8]),(2,[4]),(3,[0,1,5]),(4,[0,1,5,12]),(5,[0,1,5]),(6,[0,1,5,20]),(7,[4]),(8,[0,1,23]),(9,[4]),(10,[27]),(11,[4]),(12,[4])]),
  (63,[(0,[0]),(1,[2])]),
  (64,[(0,[0,1,2]),(1,[8,9]),(2,[8,9,18]),(3,[6,7]),(4,[6,7])]),
  (65,[(0,[0,1,2]),(1,[8,9]),(2,[8,9,18]),(3,[6,7]),(4,[6,7])]),
  (66,[(0,[0,1,2]),(1,[0,1,2,7]),(2,[0,1,2,7,15]),(3,[6]),(4,[0,1,2,19]),(5,[6]),(6,[0,1,2,8]),(7,[0,1,2,8,23]),(8,[0,1,2,8]),(9,[0,1,2,8,9]),(10,[0,1,2,8,9,33]),(11,[6]),(12,[0,1,2,10]),(13,[0,1,2,10,38]),(14,[0,1,2,10]),(15,[0,1,2,10,60]),(16,[6]),(17,[6])]),
  (67,[(0,[0,1]),(1,[0,1,9]),(2,[4]),(3,[0,1,13]),(4,[4]),(5,[0,1,5]),(6,[0,1,5,17,18,19]),(7,[0,1,5,17,18,19,20]),(8,[0,1,5,7,17,18,19]),(9,[0,1,5,17,18,19]),(10,[0,1,5,17,18,19]),(11,[0,1,28]),(12,[4]),(13,[0,8]),(14,[0,8]),(15,[38]),(16,[4]),(17,[4])]),
  (68,[(0,[0,2]),(1,[2,5,6,7]),(2,[2,5,6,7,8]),(3,[2,4,5,6,7]),(4,[2,5,6,7]),(5,[2,5,6,7]),(6,[2])]),
  (69,[(0,[1]),(1,[4]),(2,[2])]),
  (70,[(0,[2,3]),(1,[4])]),
  (71,[(0,[0,3]),(1,[4])]),
  (72,[(0,[1,2,3]),(1,[1,3,7]),(2,[6]),(3,[6])]),
  (73,[(0,[0,3,4]),(1,[0,3,4,5]),(2,[0,3,4,5,6]),(3,[0,3,4,5,6,10]),(4,[0,3,4,5,6]),(5,[0,3,4,5,6]),(6,[4,5]),(7,[4])]),
  (74,[(0,[0,1,4]),(1,[4])]),
  (75,[(0,[0,1,2,7]),(1,[2,10,11]),(2,[2,10,11,23]),(3,[8,9]),(4,[2,10,27]),(5,[8,9]),(6,[2,10,12]),(7,[10,12,34,35]),(8,[10,12,34,35,36]),(9,[10,12,13,34,35]),(10,[10,12,14,34,35]),(11,[10,12,14,34,35,46]),(12,[10,12,34,35]),(13,[10,12,34,35]),(14,[8,9])]),
  (76,[(0,[0,1,2,7]),(1,[0,1,7,9]),(2,[0,1,7,9,16]),(3,[8]),(4,[0,1,7,10]),(5,[0,1,7,10,21]),(6,[8]),(7,[34]),(8,[8]),(9,[8])]),
  (77,[(0,[0,1,2,4,8]),(1,[4,12,13]),(2,[4,12,13,25]),(3,[10,11]),(4,[4,12,14,15]),(5,[4,12,14,33]),(6,[10,11]),(7,[4,12,36]),(8,[10,11]),(9,[10,11])]),
  (78,[(0,[0,1,2,4,5,9]),(1,[5,13,14]),(2,[12])]),
  (83,[(0,[1,2,3,4,8]),(1,[1,2,3,4,8,21]),(2,[4,8,10]),(3,[4,8,10,11]),(4,[4,8,10,11,33]),(5,[4,8,10,11]),(6,[4,8,10,11,42]),(7,[8,9]),(8,[4,8]),(9,[8,9]),(10,[1,2,3,4,8,12]),(11,[1,2,3,4,8,12,13]),(12,[1,2,3,4,8,12,13,70]),(13,[1,2,3,4,8,12,13]),(14,[1,2,3,4,8,12,13,14]),(15,[1,2,3,4,8,12,13,14]),(16,[1,2,3,4,8,12,13,14]),(17,[1,2,3,4,8,12,13,15]),(18,[1,2,3,4,8,12,13]),(19,[4,8,12,96]),(20,[8,9]),(21,[4,8,12,16]),(22,[4,8,12,16,106]),(23,[4,8,12,16]),(24,[4,8,12,16,128]),(25,[8,9]),(26,[4,8]),(27,[8,9])]),
  (84,[(0,[1]),(1,[1,3]),(2,[1,3,10]),(3,[2]),(4,[1,15]),(5,[2]),(6,[18]),(7,[2]),(8,[2])]),
  (85,[(0,[1,2,4]),(1,[1,2,4,5]),(2,[1,2,4,5,9]),(3,[1,2,4,5]),(4,[4])]),
  (86,[(0,[0,1]),(1,[0,1,5]),(2,[0,1,5,6]),(3,[0,1,5,6,14]),(4,[0,1,5,6]),(5,[0,1,5,6]),(6,[0,1,5,6]),(7,[4])]),
  (87,[(0,[0,1,2,7]),(1,[10,11]),(2,[10,11,21]),(3,[8,9]),(4,[8,9])]),
  (88,[(0,[0,1,2]),(1,[8,9]),(2,[8,9,18]),(3,[6,7]),(4,[6,7])]),
  (89,[(0,[0,1,2,7]),(1,[10,11]),(2,[10,11,21]),(3,[8,9]),(4,[8,9])]),
  (90,[(0,[0,1,2]),(1,[8,9]),(2,[8,9,18]),(3,[6,7]),(4,[6,7])]),
  (92,[(0,[0,1]),(1,[0,1,10]),(2,[4]),(3,[0,1,5]),(4,[0,1,5,14]),(5,[0,1,5]),(6,[0,1,5,25]),(7,[4]),(8,[4])]),
  (93,[(0,[0,1,2]),(1,[6])]),
  (94,[(0,[0,1]),(1,[0,1,5]),(2,[0,5,6]),(3,[0,5,6,11]),(4,[0,5,6]),(5,[0,5,6]),(6,[4])]),
  (95,[(0,[0,1]),(1,[0,1,11]),(2,[4]),(3,[0,1,5]),(4,[0,1,5,15]),(5,[0,1,5]),(6,[0,1,5,26]),(7,[4]),(8,[0,1,5,6]),(9,[0,1,5,6,29]),(10,[0,1,5,6]),(11,[0,1,5,6,40]),(12,[4]),(13,[4])]),
  (96,[(0,[0,1,2]),(1,[0,1,2,8]),(2,[0,1,2,8,16]),(3,[6,7]),(4,[0,1,2,9,10]),(5,[0,1,2,9,10,26]),(6,[6,7]),(7,[6,7])]),
  (97,[(0,[0,1]),(1,[1,10]),(2,[1,10,12]),(3,[1,5,10]),(4,[1,10,18]),(5,[4]),(6,[4])]),
  (98,[(0,[2,3,4,5]),(1,[2,3,4,5,8]),(2,[2,3,4,5,6]),(3,[4,5,6,14]),(4,[4,5]),(5,[4,5])]),
  (99,[(0,[0,2]),(1,[2,5,6,7]),(2,[2,5,6,7,8]),(3,[2,4,5,6,7]),(4,[2,5,6,7]),(5,[2,5,6,7]),(6,[2])]),
  (100,[(0,[2,3,4]),(1,[2,3,4,8]),(2,[2,3,4,5]),(3,[2,3,4,5,6]),(4,[4,5,21]),(5,[]),(6,[4])]),
  (101,[(0,[1]),(1,[1,3]),(2,[1,3,7]),(3,[2]),(4,[11]),(5,[2]),(6,[2])]),
  (102,[(0,[2,3,4]),(1,[6])]),
  (103,[(0,[0]),(1,[0,4]),(2,[2]),(3,[2])]),
  (104,[(0,[0,2]),(1,[])]),
  (105,[(0,[0,1]),(1,[0,1,10]),(2,[4]),(3,[0,1,12,13]),(4,[0,1,12,13,14]),(5,[0,1,5,12,13]),(6,[0,1,12,13,24]),(7,[4]),(8,[0,1,12,13]),(9,[4])]),
  (106,[(0,[0]),(1,[0,3]),(2,[3,7,8]),(3,[3,7,8,9]),(4,[3,4,7,8]),(5,[3,7,8]),(6,[3,7,8]),(7,[2])]),
  (107,[(0,[1,2]),(1,[1,2,3]),(2,[2,3,17]),(3,[2,3]),(4,[2,3])]),
  (108,[(0,[0,1]),(1,[4])]),
  (109,[(0,[1,2]),(1,[3])]),
  (110,[(0,[1,2]),(1,[4])]),
  (111,[(0,[1]),(1,[1,3]),(2,[3,4]),(3,[3,4,5]),(4,[3,4,5,11]),(5,[3,4,5]),(6,[3,4,5]),(7,[2])]),
  (112,[(0,[0,1,2,7]),(1,[0,1,2,7,10]),(2,[0,1,2,7,10,30]),(3,[8,9]),(4,[2,7,11]),(5,[2,7,11,12,13]),(6,[2,7,11,12,13,45]),(7,[8,9]),(8,[2,11,12,49]),(9,[8,9]),(10,[2,11,12,14]),(11,[2,11,14,60,61,62]),(12,[2,11,14,60,61,62,63]),(13,[2,11,14,15,16,60,61,62]),(14,[2,11,14,60,61,62]),(15,[2,11,14,60,61,62]),(16,[11,14,75,76,77]),(17,[11,14,75,76,77,78]),(18,[11,14,17,18,75,76,77]),(19,[11,14,17,19,75,76,77]),(20,[11,14,17,75,76,77,87,88,89]),(21,[11,14,17,75,76,77,87,88,89,90]),(22,[11,14,17,21,22,75,76,77,87,88,89]),(23,[11,14,17,21,75,76,77,87,88,89,95]),(24,[11,14,17,75,76,77,87,88,89]),(25,[11,14,17,75,76,77,87,88,89]),(26,[11,14,75,76,77]),(27,[11,108,109,110]),(28,[11,108,109,110,111]),(29,[11,24,108,109,110]),(30,[11,108,109,110]),(31,[11,108,109,110]),(32,[8,9])]),
  (113,[(0,[0,1]),(1,[1,10]),(2,[1,10,12]),(3,[1,5,10]),(4,[1,10,23]),(5,[4]),(6,[4])]),
  (114,[(0,[0]),(1,[2])]),
  (115,[(0,[0,1]),(1,[4])]),
  (116,[(0,[0]),(1,[0,3]),(2,[0,3,6]),(3,[0,3,6,7]),(4,[0,3,4,6]),(5,[0,3,4,6,11]),(6,[0,3,6]),(7,[0,3,6]),(8,[2])]),
  (117,[(0,[0,1,4]),(1,[0,4,8,9,10]),(2,[0,4,8,9,10,11]),(3,[0,4,7,8,9,10]),(4,[0,4,7,8,9,10,30]),(5,[4,5]),(6,[0,4,8,9,10]),(7,[0,4,8,9,10]),(8,[4,5])]),
  (118,[(0,[0,1]),(1,[0,1,5]),(2,[0,1,5,7]),(3,[0,5,7,30,31,32]),(4,[0,5,7,30,31,32,33]),(5,[0,5,7,9,30,31,32]),(6,[0,5,7,10,30,31,32]),(7,[0,5,7,30,31,32]),(8,[0,5,7,30,31,32]),(9,[0,5,7,30,31,32]),(10,[5,7,12]),(11,[5,7,12]),(12,[5,7]),(13,[4])]),
  (119,[(0,[0,1,2]),(1,[0,1,2,14]),(2,[6]),(3,[1,2,15,16,17]),(4,[1,2,15,16,17,18]),(5,[1,2,7,8,15,16,17]),(6,[1,2,8,9,15,16,17]),(7,[1,2,15,16,17,30]),(8,[6]),(9,[1,2,15,16,17]),(10,[6])]),
  (120,[(0,[2,3]),(1,[2,3,5]),(2,[2,3,5,6]),(3,[4])]),
  (121,[(0,[1]),(1,[2])]),
  (122,[(0,[1,2,4]),(1,[1,2,4,14]),(2,[4]),(3,[4])]),
  (124,[(0,[0,4,5,6]),(1,[0,4,5,6,8]),(2,[6]),(3,[0,4,5,6,13]),(4,[6]),(5,[0,4,5,6,22]),(6,[6]),(7,[0,4,5,6,31]),(8,[6]),(9,[0,4,5,6,39]),(10,[6]),(11,[0,4,5,6,44]),(12,[0,4,5,6,44,45]),(13,[6]),(14,[0,4,5,6,44,53]),(15,[6]),(16,[0,4,5,6,44,61]),(17,[6]),(18,[0,4,5,6,44,69]),(19,[6]),(20,[0,4,5,6,44,77]),(21,[6]),(22,[0,4,5,6,85]),(23,[6]),(24,[0,4,5,6,95]),(25,[6]),(26,[0,4,5,6,7]),(27,[4,5,6,7,103]),(28,[6]),(29,[6])]),
  (125,[(0,[0,3,4]),(1,[0,3,4,5]),(2,[4]),(3,[3,4,10]),(4,[4]),(5,[4])]),
  (126,[(0,[0,1]),(1,[0,1,5]),(2,[0,1,5,6]),(3,[0,1,5,6,10]),(4,[0,1,5,6]),(5,[0,1,5,6]),(6,[4])]),
  (127,[(0,[1]),(1,[1,3]),(2,[1,3,8]),(3,[1,3]),(4,[1,3,20]),(5,[2]),(6,[2])]),
  (128,[(0,[1]),(1,[1,3]),(2,[1,3,11]),(3,[1,3]),(4,[1,3,20]),(5,[2]),(6,[1,4]),(7,[1,4,25]),(8,[1,4]),(9,[1,4,5]),(10,[1,4,5,52]),(11,[2]),(12,[1,4,5,6]),(13,[1,4,5,6,57]),(14,[1,4,5,6]),(15,[1,4,5,6,81]),(16,[2]),(17,[2])]),
  (129,[(0,[0,1]),(1,[4])]),
  (130,[(0,[0,1,2,6]),(1,[0,1,2,6,8]),(2,[0,1,2,6,8,17]),(3,[6,7]),(4,[2,6,9]),(5,[2,6,9,10]),(6,[2,6,9,10,31]),(7,[6,7]),(8,[6,9,34,35,36]),(9,[6,9,34,35,36,37]),(10,[6,9,12,34,35,36]),(11,[6,9,34,35,36]),(12,[6,9,34,35,36]),(13,[6,7])]),
  (132,[(0,[0,1,5,6]),(1,[0,1,5,6,8]),(2,[0,1,5,6,8,13]),(3,[6,7]),(4,[0,1,5,6,18]),(5,[6,7]),(6,[6,7])]),
  (133,[(0,[0,1]),(1,[4])]),
  (134,[(0,[1]),(1,[2])]),
  (135,[(0,[0,1]),(1,[3])]),
  (136,[(0,[0,1]),(1,[4])]),
  (137,[(0,[1]),(1,[1,3]),(2,[1,3,13]),(3,[1,3]),(4,[1,3,4]),(5,[1,3,4,18]),(6,[1,3,4]),(7,[1,3,4,31]),(8,[2]),(9,[1,5]),(10,[1,5,36]),(11,[1,5]),(12,[1,5,44]),(13,[2]),(14,[1,5,6]),(15,[1,5,6,47]),(16,[1,5,6]),(17,[1,5,6,77]),(18,[2]),(19,[1,7,8]),(20,[2])]),
  (138,[(0,[0,1]),(1,[4])]),
  (139,[(0,[0,1,2]),(1,[4])]),
  (140,[(0,[0,1,2,3,8]),(1,[0,1,2,3,8,9]),(2,[0,1,2,3,8,9,10]),(3,[0,1,2,3,8,9,10,23]),(4,[]),(5,[0,1,2,3,8,9,10,29]),(6,[]),(7,[0,1,2,3,8,9,10,35]),(8,[0,1,2,3,8,9,10]),(9,[0,1,2,3,8,9,10]),(10,[0,1,2,3,8,9,10,11,12]),(11,[0,1,2,3,8,9,10,11,12,50]),(12,[0,1,2,3,8,9,10,11]),(13,[0,1,2,3,8,9,10,11]),(14,[0,1,2,3,8,9,10,11,12]),(15,[0,1,2,3,8,9,10,11,68]),(16,[0,1,2,3,8,9,10,11,72]),(17,[0,1,2,3,8,9,10,11,87]),(18,[0,2,3,8,9,13]),(19,[0,1,2,3,8,9]),(20,[0,1,2,3,10,14,15]),(21,[0,1,2,3,9,10,14]),(22,[0,1,2,3,9,10,14,16,17]),(23,[0,1,2,3,9,14,16,17,18]),(24,[0,1,2,3,9,14,16,17,18,113]),(25,[0,1,2,3,8,9,14]),(26,[0,2,3,8,9,14]),(27,[0,1,2,3,8,9]),(28,[0,1,2,3,8,9,14]),(29,[0,1,3,8,9,14]),(30,[0,1,2,3,8,9])]),
  (141,[(0,[0]),(1,[2]),(2,[2])]),
  (142,[(0,[1,2]),(1,[1,2,4]),(2,[1,2,4,11]),(3,[2,3]),(4,[1,2]),(5,[1,2,21]),(6,[2,3]),(7,[1,2,27]),(8,[1,2,27]),(9,[2,27]),(10,[2,3]),(11,[2,3])]),
  (143,[(0,[2,3]),(1,[2,3,5]),(2,[4])]),
  (144,[(0,[1,2]),(1,[1,2,3]),(2,[1,2,3,4]),(3,[1,2,3,4,5]),(4,[1,2,3,5]),(5,[2,3]),(6,[2])]),
  (145,[(0,[0,1]),(1,[0,1,7,8]),(2,[0,1,7,8,9]),(3,[0,1,5,7,8]),(4,[0,1,5,7,8,16]),(5,[4]),(6,[0,1,7,8]),(7,[4])]),
  (146,[(0,[1]),(1,[4,5]),(2,[4,5,12]),(3,[2,3]),(4,[2,3])]),
  (147,[(0,[1]),(1,[2])]),
  (148,[(0,[0,1]),(1,[4])]),
  (149,[(0,[1,2]),(1,[1,2,4]),(2,[1,2,4,9]),(3,[2,3]),(4,[2,3])]),
  (150,[(0,[3,4,5,6]),(1,[3,4,5,6,8]),(2,[3,4,5,6,8,16]),(3,[6,7]),(4,[3,4,5,6,10]),(5,[3,4,5,6,10,27]),(6,[6,7]),(7,[6,7])]),
  (151,[(0,[2,3,4]),(1,[2,3,4,6]),(2,[2,3,4,6,13]),(3,[4,5]),(4,[2,3,4,8]),(5,[2,3,4,8,23]),(6,[4,5]),(7,[4,5])]),
  (152,[(0,[1,2]),(1,[2])]),
  (153,[(0,[2,3]),(1,[4])]),
  (154,[(0,[0,1]),(1,[0,1,10]),(2,[4]),(3,[0,1,12,13]),(4,[0,1,12,13,14]),(5,[0,1,5,12,13]),(6,[0,1,12,13,24]),(7,[4]),(8,[0,1,12,13]),(9,[4])]),
  (155,[(0,[0,1,2]),(1,[0,1,2,14]),(2,[6]),(3,[1,2,15,16,17]),(4,[1,2,15,16,17,18]),(5,[1,2,7,8,15,16,17]),(6,[1,2,8,9,15,16,17]),(7,[1,2,15,16,17,30]),(8,[6]),(9,[1,2,15,16,17]),(10,[6])]),
  (156,[(0,[0,1]),(1,[0,1,10]),(2,[4]),(3,[0,1,5]),(4,[0,1,5,14]),(5,[0,1,5]),(6,[0,1,5,27]),(7,[4]),(8,[4])]),
  (157,[(0,[0,2]),(1,[2])]),
  (158,[(0,[0,2]),(1,[0,2,8]),(2,[2]),(3,[2])]),
  (159,[(0,[0,2]),(1,[2,3]),(2,[2]),(3,[2])]),
  (160,[(0,[0,2]),(1,[2])]),
  (161,[(0,[0,1]),(1,[0,1,7]),(2,[0,1]),(3,[0,1,5]),(4,[0,1,5,17]),(5,[0,1,5]),(6,[0,1,5,24]),(7,[0,1,5]),(8,[4])]),
  (162,[(0,[1]),(1,[1,5]),(2,[2]),(3,[2])]),
  (163,[(0,[1,2,3]),(1,[1,2,3,8]),(2,[6]),(3,[6])]),
  (164,[(0,[1,2]),(1,[1,2,5]),(2,[1,2,5,14]),(3,[1,2,5]),(4,[1,2,5,28]),(5,[4]),(6,[4])]),
  (165,[(0,[0,1,5,6]),(1,[6])]),
  (166,[(0,[0]),(1,[0])]),
  (167,[(0,[0]),(1,[0,6,7,8]),(2,[0,6,7,8,9]),(3,[0,4,6,7,8]),(4,[0,5,6,7,8]),(5,[0,5,6,7,8,15]),(6,[2]),(7,[0,6,7,8]),(8,[30]),(9,[2]),(10,[2])]),
  (168,[(0,[0,1,2]),(1,[0,1,2]),(2,[0,1,2,7]),(3,[0,1,2,7,16]),(4,[6]),(5,[0,1,2,7,8]),(6,[0,1,2,7,8,22]),(7,[6]),(8,[0,1,2,7,8,31]),(9,[0,1,2,7,9]),(10,[0,1,7,9]),(11,[9]),(12,[6]),(13,[0,1,2,7,8]),(14,[0,1,2,7,8,68]),(15,[0,1,2]),(16,[0]),(17,[6]),(18,[0,1,7]),(19,[0]),(20,[6])]),
  (169,[(0,[0]),(1,[0,4]),(2,[2]),(3,[2])]),
  (170,[(0,[0,1,4]),(1,[4])]),
  (171,[(0,[0,2]),(1,[2,4]),(2,[2]),(3,[2])]),
  (172,[(0,[1,2]),(1,[1,2,3]),(2,[1,2,3,4]),(3,[1,2,3,4,5]),(4,[1,2,3,5]),(5,[2,3]),(6,[2,6]),(7,[2])]),
  (177,[(0,[1]),(1,[5]),(2,[2]),(3,[2])]),
  (178,[(0,[1,2]),(1,[1,2,3]),(2,[1,3]),(3,[3,11,12]),(4,[3,11,12,13]),(5,[3,4,11,12]),(6,[3,11,12,18]),(7,[3,11,12])]),
  (179,[(0,[0,1,2,3,4,5]),(1,[0,1,2,3,4,5,12]),(2,[9]),(3,[0,2,4,5,10]),(4,[0,2,4,5,10,25]),(5,[0,2,4,5,10]),(6,[0,2,4,5,10,38]),(7,[9]),(8,[9])]),
  (180,[(0,[0,1]),(1,[0,1,7,8]),(2,[0,1,7,8,9]),(3,[0,1,5,7,8]),(4,[0,1,5,7,8,16]),(5,[4]),(6,[0,1,7,8]),(7,[4])]),
  (181,[(0,[1,2,3,4]),(1,[1,2,3,4,13]),(2,[1,2,3,18]),(3,[2,3]),(4,[8,9]),(5,[1,2,3,4,28]),(6,[8,9]),(7,[1,2,3,4,10]),(8,[1,2,3,4,10,11]),(9,[1,2,3,4,10,11,40]),(10,[1,2,3,4,10,11]),(11,[1,2,3,4,10,11]),(12,[8,9])]),
  (182,[(0,[0,1]),(1,[0,1,5]),(2,[0,1,5,9]),(3,[0,1,5]),(4,[0,1,5,17]),(5,[4]),(6,[4])]),
  (183,[(0,[0,1]),(1,[0,1,7,8]),(2,[0,1,7,8,9]),(3,[0,1,5,7,8]),(4,[0,1,5,7,8,16]),(5,[4]),(6,[0,1,7,8]),(7,[4])]),
  (184,[(0,[0,1,2,6]),(1,[0,1,2,6,12]),(2,[0,1,2,6]),(3,[0,1,2,6,7]),(4,[0,1,2,6,7,30]),(5,[0,1,2,6,7]),(6,[0,1,2,6,7])]),
  (185,[(0,[0,1,2,6]),(1,[0,1,2,6,7]),(2,[0,6,7,8]),(3,[0,6,7,8,9]),(4,[0,6,7,8,9,19]),(5,[0,6,7,8,9]),(6,[0,6,7,8,9]),(7,[0,6,7,10]),(8,[0,6,7,10,30]),(9,[0,6,7,10]),(10,[0,6,7,10]),(11,[0,6,7,10])]),
  (186,[(0,[0,1,6]),(1,[0,1,6,15]),(2,[0,1,6,7]),(3,[0,1,6,7,8]),(4,[0,1,6,7,8,9]),(5,[0,1,6,7,8,9,33]),(6,[0,1,6,7,8,9]),(7,[0,1,6,7,8,9,10]),(8,[0,1,6,7,8,9,10,43]),(9,[0,1,6,7,8,9,10]),(10,[0,1,6,7,8,9])]),
  (187,[(0,[0,1,2]),(1,[0,1,8]),(2,[0,1,8,9]),(3,[0,1,8,9,10]),(4,[0,1,8,9,10,11]),(5,[0,8,9,10,11,12]),(6,[0,8,9,10,11,12,32]),(7,[0,9,10,11,12,34]),(8,[0,9,10,11,12]),(9,[0,9,10,11,12]),(10,[0,9,10,11,12]),(11,[9,11]),(12,[11,49]),(13,[6,7]),(14,[11,49,51]),(15,[6,7]),(16,[11,54]),(17,[6,7])]),
  (188,[(0,[0,2,6]),(1,[0,6,7]),(2,[0,6,7,13]),(3,[0,6,7]),(4,[0,6,7]),(5,[0,6,7])]),
  (189,[(0,[0,1,2]),(1,[0,1,2,7]),(2,[0,1,2,7,8]),(3,[0,1,2,7,8,14]),(4,[0,1,2,7,8]),(5,[0,1,2,7,8,32]),(6,[0,1,2,7,8]),(7,[0,1,2,7,8,37]),(8,[6]),(9,[0,1,2,7,8,41]),(10,[6]),(11,[0,1,2,7,8]),(12,[0,1,2,7,8,61]),(13,[0,1,2,7,8,9]),(14,[0,1,2,7,8,9,65]),(15,[0,1,2,7,8,9]),(16,[0,1,2,7,8,9,78]),(17,[0,1,2,7,8,9]),(18,[0,1,2,7,8,98]),(19,[0,1,2,7,8,10]),(20,[0,1,2,7,8,10,103]),(21,[0,1,2,7,8,10]),(22,[0,1,2,7,8,10,116]),(23,[0,1,2,7,8,10]),(24,[6])]),
  (190,[(0,[0,1]),(1,[4])]),
  (191,[(0,[0,1,2,3]),(1,[0,1,2]),(2,[0,1,9,10]),(3,[0,1,9,10,43]),(4,[0,1,9,10]),(5,[0,1,9,10,59]),(6,[0,1,9,10]),(7,[0,1,9,10,64]),(8,[0,1,9,10]),(9,[0,1,9,10]),(10,[0,1,9,10]),(11,[8])]),
  (192,[(0,[0,1,2,3]),(1,[0,1,2]),(2,[0,1,10,11]),(3,[0,1,10,11,43]),(4,[0,1,10,11]),(5,[0,1,10,11,60]),(6,[0,1,10,11]),(7,[0,1,10,11,65]),(8,[11]),(9,[8,9]),(10,[0,1,10,11]),(11,[0,1,10,11]),(12,[0,1,10,11]),(13,[0,1,10,11,112]),(14,[0,1,10,11]),(15,[0,1,10,11,129]),(16,[0,1,10,11]),(17,[0,1,10,11,134]),(18,[0,1,10,11]),(19,[0,1,10,11]),(20,[0,1,10,11]),(21,[11]),(22,[8,9])]),
  (193,[(0,[0,2]),(1,[0,2,4]),(2,[0]),(3,[0,2]),(4,[0,2,8]),(5,[0,2]),(6,[0,2]),(7,[2])]),
  (194,[(0,[0,2]),(1,[0,2,4]),(2,[0]),(3,[0,2]),(4,[0,2,8]),(5,[0,2]),(6,[0,2]),(7,[0,2,14]),(8,[0,2]),(9,[0,2]),(10,[2])]),
  (195,[(0,[0,3]),(1,[4])]),
  (196,[(0,[1]),(1,[1,5]),(2,[2]),(3,[2])]),
  (197,[(0,[0,3]),(1,[4])]),
  (198,[(0,[2,3]),(1,[2,3,5]),(2,[2,3,5,34]),(3,[4]),(4,[4])]),
  (199,[(0,[1,2,3,4]),(1,[1,2,3,4,10]),(2,[8]),(3,[8])]),
  (200,[(0,[2,3]),(1,[4])]),
  (201,[(0,[1]),(1,[2])]),
  (202,[(0,[0,1,2,3,4]),(1,[0,1,2,3,4,14]),(2,[6]),(3,[0,1,2,3,4,7,8]),(4,[0,1,2,3,4,7,30]),(5,[6]),(6,[0,1,3,4,9]),(7,[0,1,3,4,9,10]),(8,[0,1,3,4,9,10,43,44,45]),(9,[0,1,3,4,9,10,43,44,45,46]),(10,[0,1,3,4,9,10,11,12,43,44,45]),(11,[0,1,3,4,9,10,43,44,45]),(12,[0,1,3,4,9,10,43,44,45]),(13,[0,3]),(14,[6])]),
  (203,[(0,[0,3]),(1,[0,3,5,6]),(2,[0,3,5,17]),(3,[0,3,5]),(4,[0,3,5]),(5,[5]),(6,[4])]),
  (204,[(0,[0]),(1,[2])]),
  (205,[(0,[0,1,5]),(1,[0,1,5,12]),(2,[6]),(3,[0,1,5,7]),(4,[0,1,5,7]),(5,[0,1,5,7,8,9]),(6,[0,1,5,7,8,32]),(7,[0,1,5,7,8]),(8,[0,1,5,8]),(9,[8]),(10,[6])]),
  (206,[(0,[1,2]),(1,[1,2,7]),(2,[1,2,4]),(3,[]),(4,[2])]),
  (207,[(0,[0,4,5,6]),(1,[0,4,5,6,11]),(2,[0,4,5,6,11,12]),(3,[6,7]),(4,[0,4,5,6,20]),(5,[6,7]),(6,[4,5,6,8]),(7,[4,5,6,8,38]),(8,[6,7]),(9,[4,5,6,8,9,10]),(10,[4,5,6,8,9,47]),(11,[6,7]),(12,[6,7])]),
  (208,[(0,[0,1,3]),(1,[3,4]),(2,[3])]),
  (209,[(0,[0,3,4]),(1,[3,4,6]),(2,[3,4,6,17]),(3,[4,5]),(4,[3,4,6,7,8]),(5,[3,4,6,7,25]),(6,[4,5]),(7,[4,5])]),
  (210,[(0,[0,1,3]),(1,[3,4]),(2,[3])]),
  (211,[(0,[1,2]),(1,[4])]),
  (212,[(0,[2,3]),(1,[4])]),
  (214,[(0,[])]),
  (215,[(0,[0,1]),(1,[0,1,10]),(2,[0,1]),(3,[0,5,6]),(4,[0,6,26]),(5,[0,6]),(6,[0,7]),(7,[7,8]),(8,[7,8,37]),(9,[7,8]),(10,[4])]),
  (216,[(0,[1,2]),(1,[4])]),
  (217,[(0,[1]),(1,[2])]),
  (218,[(0,[1,2,3,4,5,6]),(1,[1,2,3,4,5,6,32]),(2,[1,2,3,4,5,6]),(3,[1,2,3,4,5,6,40]),(4,[3]),(5,[8]),(6,[1,2,3,4,5,6,9]),(7,[1,2,3,4,5,6,9,10]),(8,[1,2,3,4,5,6,9,10,68]),(9,[8]),(10,[1,2,3,4,5,6,9,11,12]),(11,[1,2,3,4,5,6,9,11,84]),(12,[8]),(13,[1,2,3,4,5,6,9,13]),(14,[1,2,3,4,5,6,9,13,93,94]),(15,[1,2,3,4,5,6,9,13,93,94,95]),(16,[1,2,3,4,5,6,9,13,14,93,94]),(17,[1,2,3,4,5,6,9,13,93,94]),(18,[1,2,3,4,5,6,9,13,93,94]),(19,[3,5,6,13]),(20,[5,6]),(21,[8])]),
  (219,[(0,[2,3,4]),(1,[2,4,10,11,12]),(2,[2,4,10,11,12,13]),(3,[2,4,7,8,10,11,12]),(4,[2,4,10,11,12,32]),(5,[6]),(6,[2,4,10,11,12]),(7,[6])]),
  (220,[(0,[2,3,4]),(1,[3,4,8,9,10]),(2,[3,4,8,9,10,11]),(3,[3,4,5,6,8,9,10]),(4,[3,4,8,9,10]),(5,[3,4,8,9,10]),(6,[4])]),
  (221,[(0,[2,3,4,5,8]),(1,[2,3,5,8,12,13,14]),(2,[2,3,5,8,12,13,14,15]),(3,[2,3,5,8,9,10,12,13,14]),(4,[2,3,5,8,9,10,12,13,14,34]),(5,[2,3,5,8,12,13,14]),(6,[2,3,5,8,12,13,14]),(7,[8])]),
  (222,[(0,[1,2]),(1,[2,6,7,8]),(2,[2,6,7,8,9]),(3,[2,3,4,6,7,8]),(4,[2,6,7,8]),(5,[2,6,7,8]),(6,[2])]),
  (223,[(0,[1,2]),(1,[2,4,5]),(2,[2,4,5,12]),(3,[2,3]),(4,[2,3])]),
  (225,[(0,[1]),(1,[1,5]),(2,[2]),(3,[2])]),
  (226,[(0,[0,1]),(1,[0,1,5]),(2,[0,1,5,9]),(3,[0,1,5]),(4,[0,1,5,17]),(5,[4]),(6,[4])]),
  (227,[(0,[0,2,3,8]),(1,[0,2,3,8,9]),(2,[0,2,3,8,9,16]),(3,[0,2,3,8,9,36]),(4,[0,2,3,8,9]),(5,[0,2,3,8,9,52]),(6,[0,2,3,9]),(7,[0,2,3,8])]),
  (228,[(0,[0]),(1,[2])]),
  (229,[(0,[0]),(1,[0]),(2,[0]),(3,[0]),(4,[2])]),
  (230,[(0,[0,1,2]),(1,[6])]),
  (231,[(0,[0,1,2,3,4]),(1,[0,1,2,3,4]),(2,[0,1,2,4]),(3,[2]),(4,[10])]),
  (232,[(0,[0]),(1,[2])]),
  (233,[(0,[0,1]),(1,[4])]),
  (234,[(0,[1,2]),(1,[3])]),
  (235,[(0,[0,1]),(1,[3])]),
  (236,[(0,[0,1,2,3]),(1,[5])]),
  (237,[(0,[1,2]),(1,[4])]),
  (238,[(0,[0,1]),(1,[3])]),
  (239,[(0,[1,2]),(1,[1,2,4]),(2,[1,2,4,5]),(3,[1,2,4,5]),(4,[1,2,4,5,17]),(5,[1,2,4,5,6]),(6,[1,2,4,5,6,35]),(7,[1,2,4,5,6]),(8,[1,2,4,5,6]),(9,[1,2,4,5,6,42]),(10,[1,2,4,5])]),
  (240,[(0,[1,2,3]),(1,[1,2,3,7]),(2,[1,2,3,7,12]),(3,[1,2,3,7]),(4,[1,2,3,7]),(5,[6])]),
  (241,[]),
  (242,[(0,[3,4,5,6]),(1,[3,4,5,6,8]),(2,[6,7]),(3,[3,4,5,6,16]),(4,[6,7]),(5,[4,5,6,21]),(6,[6,7]),(7,[6,7])]),
  (243,[(0,[0,2]),(1,[0,2,6]),(2,[2]),(3,[2])]),
  (244,[(0,[0]),(1,[3]),(2,[3,4]),(3,[2]),(4,[3,6]),(5,[2]),(6,[3,8]),(7,[2]),(8,[3,10]),(9,[2]),(10,[3,13]),(11,[2]),(12,[3,16]),(13,[2]),(14,[3,19]),(15,[2]),(16,[22]),(17,[2]),(18,[2])]),
  (245,[(0,[0]),(1,[2])]),
  (246,[(0,[0,2]),(1,[0,2,4]),(2,[0,2,4,8]),(3,[2,3]),(4,[2,3])]),
  (247,[(0,[0]),(1,[3]),(2,[3,4]),(3,[2]),(4,[6]),(5,[2]),(6,[2])]),
  (248,[(0,[1,2]),(1,[3])]),
  (249,[(0,[0,1]),(1,[0]),(2,[])]),
  (250,[(0,[0,1]),(1,[6,7]),(2,[4,5]),(3,[8,9]),(4,[4,5])]),
  (251,[(0,[1,2]),(1,[3])]),
  (252,[(0,[2,3,4]),(1,[6])]),
  (253,[(0,[0,1,2,3]),(1,[1,2,3,18]),(2,[1,2]),(3,[8,9]),(4,[8,9])]),
  (254,[(0,[0,1]),(1,[0,1,7,8]),(2,[0,1,7,8,9]),(3,[0,1,5,7,8]),(4,[0,1,5,7,8,16]),(5,[4]),(6,[0,1,7,8]),(7,[4])]),
  (255,[(0,[0,1]),(1,[0,1,7,8]),(2,[0,1,7,8,9]),(3,[0,1,5,7,8]),(4,[0,1,5,7,8,16]),(5,[4]),(6,[0,1,7,8]),(7,[4])]),
  (256,[(0,[0,2]),(1,[2])]),
  (257,[(0,[0,1,4]),(1,[4])]),
  (258,[(0,[0,1,4]),(1,[4])]),
  (259,[(0,[0,1,4]),(1,[4])]),
  (260,[(0,[1]),(1,[2])]),
  (261,[(0,[0]),(1,[4])]),
  (262,[(0,[1]),(1,[4])]),
  (263,[(0,[1]),(1,[2])]),
  (264,[(0,[0]),(1,[2])]),
  (265,[(0,[0]),(1,[2])]),
  (266,[(0,[0]),(1,[2])]),
  (267,[(0,[1]),(1,[2])]),
  (268,[(0,[1]),(1,[2])]),
  (269,[(0,[0,2]),(1,[2])]),
  (270,[(0,[0,2]),(1,[2])]),
  (271,[(0,[0,2]),(1,[2,3]),(2,[2]),(3,[2])]),
  (272,[(0,[0,2,3]),(1,[0,2,3,9]),(2,[0,2,3]),(3,[0,2,3])]),
  (273,[(0,[0,1]),(1,[6]),(2,[4,5])]),
  (274,[(0,[0,1]),(1,[0,1,6]),(2,[0,1,6,7]),(3,[0,1,6,7,8]),(4,[0,1,6,7,8,9]),(5,[0,1,6,7,8,9,10]),(6,[0,1,6,7,9,11]),(7,[0,1,6,7,9,11,12]),(8,[0,1,6,7,9,12,13]),(9,[0,1,7,9,12,13]),(10,[0,1,4]),(11,[4,5])]),
  (275,[(0,[0,1,2]),(1,[4])]),
  (276,[(0,[0,1,2,5]),(1,[0,1,2,5,7]),(2,[5]),(3,[5])]),
  (277,[(0,[0,1]),(1,[1,4,5]),(2,[1,4,5,20]),(3,[4,5]),(4,[4,5])]),
  (278,[(0,[0,1,2,5]),(1,[5])]),
  (279,[(0,[0,1]),(1,[0,1,5]),(2,[0,1,5,6]),(3,[0,1,6,11]),(4,[12]),(5,[4]),(6,[4]),(7,[0,1,13]),(8,[4]),(9,[0,1,16]),(10,[4]),(11,[19]),(12,[4]),(13,[4])])],
 head:=[(6,[(5,[1,2,5,6]),(9,[2,5,7])]),
  (16,[(4,[1,3])]),
  (21,[(7,[0,1,2,22,23,24])]),
  (23,[(3,[0,3,4])]),
  (24,[(4,[1,2,6,7,8])]),
  (26,[(4,[0,1,5])]),
  (27,[(4,[0,1,5])]),
  (28,[(3,[1,2,5,6]),(7,[1,2,5,6,7,8]),(13,[1,2,5,6,9,10])]),
  (32,[(3,[1,3,4])]),
  (33,[(4,[1,3])]),
  (37,[(2,[1,2,5]),(6,[1,2,5,6,7])]),
  (40,[(4,[0,1,5])]),
  (43,[(5,[1,3,4])]),
  (50,[(3,[0,2,3,4])]),
  (51,[(3,[0,3,4])]),
  (55,[(4,[0,1,5])]),
  (56,[(3,[0,1,5,6,7,8])]),
  (59,[(3,[0,3,4])]),
  (60,[(3,[1,2,3,4])]),
  (61,[(4,[2,3,5])]),
  (62,[(4,[0,1,5])]),
  (66,[(7,[0,1,2,8]),(13,[0,1,2,10])]),
  (67,[(7,[0,1,5,17,18,19])]),
  (68,[(2,[2,5,6,7])]),
  (73,[(3,[0,3,4,5,6])]),
  (75,[(8,[10,12,34,35])]),
  (83,[(4,[4,8,10,11]),(12,[1,2,3,4,8,12,13]),(22,[4,8,12,16])]),
  (85,[(2,[1,2,4,5])]),
  (86,[(3,[0,1,5,6])]),
  (92,[(4,[0,1,5])]),
  (94,[(3,[0,5,6])]),
  (95,[(4,[0,1,5]),(9,[0,1,5,6])]),
  (97,[(2,[1,10])]),
  (99,[(2,[2,5,6,7])]),
  (105,[(4,[0,1,12,13])]),
  (106,[(3,[3,7,8])]),
  (111,[(4,[3,4,5])]),
  (112,[(12,[2,11,14,60,61,62]),(17,[11,14,75,76,77]),(21,[11,14,17,75,76,77,87,88,89]),(28,[11,108,109,110])]),
  (113,[(2,[1,10])]),
  (116,[(3,[0,3,6])]),
  (117,[(2,[0,4,8,9,10])]),
  (118,[(4,[0,5,7,30,31,32])]),
  (119,[(4,[1,2,15,16,17])]),
  (126,[(3,[0,1,5,6])]),
  (127,[(2,[1,3])]),
  (128,[(2,[1,3]),(7,[1,4]),(13,[1,4,5,6])]),
  (130,[(9,[6,9,34,35,36])]),
  (137,[(2,[1,3]),(5,[1,3,4]),(10,[1,5]),(15,[1,5,6])]),
  (140,[(2,[0,1,2,3,8,9])]),
  (145,[(2,[0,1,7,8])]),
  (154,[(4,[0,1,12,13])]),
  (155,[(4,[1,2,15,16,17])]),
  (156,[(4,[0,1,5])]),
  (161,[(4,[0,1,5]),(6,[0,1,5])]),
  (164,[(2,[1,2,5])]),
  (167,[(2,[0,6,7,8])]),
  (178,[(4,[3,11,12])]),
  (179,[(4,[0,2,4,5,10])]),
  (180,[(2,[0,1,7,8])]),
  (181,[(9,[1,2,3,4,10,11])]),
  (182,[(2,[0,1,5])]),
  (183,[(2,[0,1,7,8])]),
  (184,[(1,[0,1,2,6]),(4,[0,1,2,6,7])]),
  (185,[(4,[0,6,7,8,9]),(8,[0,6,7,10])]),
  (186,[(5,[0,1,6,7,8,9])]),
  (188,[(2,[0,6,7])]),
  (189,[(3,[0,1,2,7,8]),(5,[0,1,2,7,8]),(14,[0,1,2,7,8,9]),(20,[0,1,2,7,8,10])]),
  (191,[(3,[0,1,9,10]),(5,[0,1,9,10])]),
  (192,[(3,[0,1,10,11]),(5,[0,1,10,11]),(13,[0,1,10,11]),(15,[0,1,10,11])]),
  (202,[(9,[0,1,3,4,9,10,43,44,45])]),
  (215,[(8,[7,8])]),
  (218,[(1,[1,2,3,4,5,6]),(15,[1,2,3,4,5,6,9,13,93,94])]),
  (219,[(2,[2,4,10,11,12])]),
  (220,[(2,[3,4,8,9,10])]),
  (221,[(2,[2,3,5,8,12,13,14])]),
  (222,[(2,[2,6,7,8])]),
  (226,[(2,[0,1,5])]),
  (227,[(1,[0,2,3,8])]),
  (239,[(4,[1,2,4,5]),(6,[1,2,4,5,6])]),
  (240,[(2,[1,2,3,7])]),
  (254,[(2,[0,1,7,8])]),
  (255,[(2,[0,1,7,8])]),
  (272,[(1,[0,2,3])])],
 site:=[(71,[3]),(98,[2,3,4,5]),(100,[2,3,4,5]),(102,[3,4]),(112,[39]),(134,[1]),(144,[1,3,4,5]),(150,[3]),(151,[2]),(172,[1,3,4,5]),(174,[1,3]),(178,[2,3]),(186,[7]),(187,[9]),(195,[3]),(197,[3]),(198,[2,3,5]),(201,[14]),(205,[5,7]),(206,[1,2]),(211,[2]),(216,[2]),(252,[3,4]),(260,[1]),(263,[1])] }
def T:Tw.iF:={ Tb with exts:=[17,104],ext:=aae,Lm:=[97,113] }
open Pv
structure Rw where
 fr:List Int
 to:List Int
 cell:V
 deriving DecidableEq
structure Br where
 var:Int
 kids:List Int
 deriving DecidableEq
structure Dg where
 sizes:List Int
 order:List Int
 ends:List V
 nodes:List Br
 root:Int
 deriving DecidableEq
structure Ld where
 s:List Int
 cells:List V
 deriving DecidableEq
structure Fc where
 name:ByteArray
 d:Dg
 deriving DecidableEq
structure Pc where
 facts:Int
 goal:Bool
 deriving DecidableEq
abbrev Dg0:Dg:=⟨[],[],[],[],0⟩
abbrev Fc0:Fc:=⟨⟨#[]⟩,Dg0⟩
abbrev Aj:Pc:=⟨0,false⟩
abbrev Rw0:Rw:=⟨[],[],V0⟩
abbrev SK:Br:=⟨0,[]⟩
abbrev Ld0:Ld:=⟨[],[]⟩
inductive Kd where
 | i64 | u8 | u16 | u64 | b | o | k | v | rw | br | tb | vs | ld | dg | is | fc | pc | bl | bs | no
def Kd.T:Kd->Type
 | .i64 | .u8 | .u16 | .u64=>Int
 | .dg=>Dg
 | .is=>List Int
 | .fc=>Fc
 | .pc=>Pc
 | .bl=>Bool
 | .bs=>List Bool
 | .b=>B
 | .o=>O
 | .k=>K
 | .v=>V
 | .rw=>Rw
 | .br=>Br
 | .tb=>List Rw
 | .vs=>List V
 | .ld=>Ld
 | .no=>Unit
def kd (t:Nat):Kd:=match t with
 | 3=>.i64
 | 5=>.u8
 | 900001=>.b
 | 900002=>.o
 | 900003=>.k
 | 82=>.u16
 | 141=>.u64
 | 27=>.dg
 | 22=>.is
 | 66=>.fc
 | 164=>.pc
 | 4=>.bl
 | 45=>.bs
 | 79=>.v
 | 900004=>.rw
 | 102=>.br
 | 900005=>.tb
 | 24=>.vs
 | 900006=>.ld
 | _=>.no
def bM (t:Nat):Type:=(kd t).T
def Kd.z:(k:Kd)->k.T
 | .i64 | .u8 | .u16 | .u64=>(0:Int)
 | .dg=>Dg0
 | .is=>([]:List Int)
 | .fc=>Fc0
 | .pc=>Aj
 | .bl=>false
 | .bs=>([]:List Bool)
 | .b=>B0
 | .o=>O0
 | .k=>K0
 | .v=>V0
 | .rw=>Rw0
 | .br=>SK
 | .tb=>([]:List Rw)
 | .vs=>([]:List V)
 | .ld=>Ld0
 | .no=>()
abbrev lI (l:List Int):PV bM:=.bK 3 l false
abbrev lV (l:List V):PV bM:=.bK 79 l false
abbrev lRw (l:List Rw):PV bM:=.bK 900004 l false
abbrev lBr (l:List Br):PV bM:=.bK 102 l false
abbrev lDg (l:List Dg):PV bM:=.bK 27 l false
abbrev lB (l:List Bool):PV bM:=.bK 4 l false
def B.ps (b:B):List (PV bM):=[.int .i64 b.lo,.int .i64 b.hi,.int .u8 b.f]
def O.ps (o:O):List (PV bM):=[.int .u8 o.code,.int .i64 o.a,.int .i64 o.b,.int .i64 o.c,.int .i64 o.n]
def K.ps (c:K):List (PV bM):=[.str c.name,.int .i64 c.lo,.int .i64 c.hi]
def V.ps (v:V):List (PV bM):=[.int .u8 v.f,.int .i64 v.n]
def Rw.ps (r:Rw):List (PV bM):=[lI r.fr,lI r.to,.int .u8 r.cell.f,.int .i64 r.cell.n]
def Br.ps (b:Br):List (PV bM):=[.int .i64 b.var,lI b.kids]
def Ld.ps (x:Ld):List (PV bM):=[lI x.s,lV x.cells]
def Dg.ps (d:Dg):List (PV bM):=[lI d.sizes,lI d.order,lV d.ends,lBr d.nodes,.int .i64 d.root]
def Fc.ps (x:Fc):List (PV bM):=.str x.name::x.d.ps
def Pc.ps (x:Pc):List (PV bM):=[.int .u64 x.facts,.bool x.goal]
def B.un (l:List (PV bM)):Option B:=match l with
 | [.int .i64 a,.int .i64 b,.int .u8 c]=>some ⟨a,b,c⟩
 | _=>none
def O.un (l:List (PV bM)):Option O:=match l with
 | [.int .u8 c,.int .i64 x,.int .i64 y,.int .i64 z,.int .i64 n]=>some ⟨c,x,y,z,n⟩
 | _=>none
def K.un (l:List (PV bM)):Option K:=match l with
 | [.str c,.int .i64 x,.int .i64 y]=>some ⟨c,x,y⟩
 | _=>none
def V.un (l:List (PV bM)):Option V:=match l with
 | [.int .u8 c,.int .i64 x]=>some ⟨c,x⟩
 | _=>none
def I.un (k:IntKind) (l:List (PV bM)):Option Int:=match l with
 | [.int k' x]=>if k'=k then some x else none
 | _=>none
def L.un (t:Nat) (v:PV bM):Option (List (bM t)):=match v with
 | .bK t' l _=>qc t t' l
 | .nil .slc=>some []
 | _=>none
def Rw.un (l:List (PV bM)):Option Rw:=match l with
 | [a,b,.int .u8 c,.int .i64 x]=>match L.un 3 a,L.un 3 b with
  | some a,some b=>some ⟨a,b,⟨c,x⟩⟩
  | _,_=>none
 | _=>none
def Br.un (l:List (PV bM)):Option Br:=match l with
 | [.int .i64 x,a]=>match L.un 3 a with
  | some a=>some ⟨x,a⟩
  | none=>none
 | _=>none
def Tb.un (l:List (PV bM)):Option (List Rw):=match l with
 | [a]=>L.un 900004 a
 | _=>none
def Vs.un (l:List (PV bM)):Option (List V):=match l with
 | [a]=>L.un 79 a
 | _=>none
def Ld.un (l:List (PV bM)):Option Ld:=match l with
 | [a,b]=>match L.un 3 a,L.un 79 b with
  | some a,some b=>some ⟨a,b⟩
  | _,_=>none
 | _=>none
def Dg.un (l:List (PV bM)):Option Dg:=match l with
 | [a,b,c,d,.int .i64 r]=>match L.un 3 a,L.un 3 b,L.un 79 c,L.un 102 d with
  | some a,some b,some c,some d=>some ⟨a,b,c,d,r⟩
  | _,_,_,_=>none
 | _=>none
def Is.un (l:List (PV bM)):Option (List Int):=match l with
 | [a]=>L.un 3 a
 | _=>none
def Fc.un (l:List (PV bM)):Option Fc:=match l with
 | .str n::r=>(Dg.un r).map (⟨n,·⟩)
 | _=>none
def Pc.un (l:List (PV bM)):Option Pc:=match l with
 | [.int .u64 n,.bool b]=>some ⟨n,b⟩
 | _=>none
def Bl.un (l:List (PV bM)):Option Bool:=match l with
 | [.bool b]=>some b
 | _=>none
def Bs.un (l:List (PV bM)):Option (List Bool):=match l with
 | [a]=>L.un 4 a
 | _=>none
def Kd.enc:(k:Kd)->k.T->List (PV bM)
 | .i64=>fun n=>[.int .i64 n]
 | .u8=>fun n=>[.int .u8 n]
 | .u16=>fun n=>[.int .u16 n]
 | .u64=>fun n=>[.int .u64 n]
 | .dg=>Dg.ps
 | .is=>fun l=>[lI l]
 | .fc=>Fc.ps
 | .pc=>Pc.ps
 | .bl=>fun b=>[.bool b]
 | .bs=>fun l=>[lB l]
 | .b=>B.ps
 | .o=>O.ps
 | .k=>K.ps
 | .v=>V.ps
 | .rw=>Rw.ps
 | .br=>Br.ps
 | .tb=>fun l=>[lRw l]
 | .vs=>fun l=>[lV l]
 | .ld=>Ld.ps
 | .no=>fun _=>[]
def Kd.dec:(k:Kd)->List (PV bM)->Option k.T
 | .i64=>I.un .i64
 | .u8=>I.un .u8
 | .u16=>I.un .u16
 | .u64=>I.un .u64
 | .dg=>Dg.un
 | .is=>Is.un
 | .fc=>Fc.un
 | .pc=>Pc.un
 | .bl=>Bl.un
 | .bs=>Bs.un
 | .b=>B.un
 | .o=>O.un
 | .k=>K.un
 | .v=>V.un
 | .rw=>Rw.un
 | .br=>Br.un
 | .tb=>Tb.un
 | .vs=>Vs.un
 | .ld=>Ld.un
 | .no=>fun _=>none
noncomputable def X0:iR:=⟨bM,fun t=>(kd t).z,fun t=>(kd t).enc,fun t=>(kd t).dec⟩
theorem B.lU {l:List (PV bM)} {b:B} (h:B.un l=some b):B.ps b=l:=by
 unfold B.un at h;split at h
 ·cases h;rfl
 cases h
theorem O.lU {l:List (PV bM)} {b:O} (h:O.un l=some b):O.ps b=l:=by
 unfold O.un at h;split at h
 ·cases h;rfl
 cases h
theorem K.lU {l:List (PV bM)} {b:K} (h:K.un l=some b):K.ps b=l:=by
 unfold K.un at h;split at h
 ·cases h;rfl
 cases h
theorem V.lU {l:List (PV bM)} {b:V} (h:V.un l=some b):V.ps b=l:=by
 unfold V.un at h;split at h
 ·cases h;rfl
 cases h
theorem I.lU {k:IntKind} {l:List (PV bM)} {b:Int} (h:I.un k l=some b):[PV.int k b]=l:=by
 unfold I.un at h;split at h
 ·split at h
  ·rename_i e;cases h;rw[e]
  cases h
 cases h
section
variable {A:Nat->Prop} {m:List MB} {h:List HB}
theorem L.dR {t:Nat} {v:PV bM} {l:List (bM t)} (hu:L.un t v=some l) {x:TV} (hv:VR X0 Tryz.prog A m h v x):VR X0 Tryz.prog A m h (.bK t l false) x:=(RD (X:=X0) (P:=Tryz.prog) t).ok (a:=l) (v:=v) (by
 cases v with
 | nil k=>cases k<;>first | exact hu | cases hu
 | bK t' l' f=>exact hu
 | _=>cases hu) hv
theorem Rw.dR {l:List (PV bM)} {r:Rw} (hu:Rw.un l=some r) {xs:List TV} (hv:aH X0 Tryz.prog A m h l xs):aH X0 Tryz.prog A m h r.ps xs:=by
 unfold Rw.un at hu;split at hu
 ·split at hu
  ·rename_i e1 e2;cases hu;obtain⟨x1,r1,rfl,h1,hv⟩:=hv.inv;obtain⟨x2,r2,rfl,h2,hv⟩:=hv.inv;exact .cons (L.dR e1 h1) (.cons (L.dR e2 h2) hv)
  cases hu
 cases hu
theorem Br.dR {l:List (PV bM)} {r:Br} (hu:Br.un l=some r) {xs:List TV} (hv:aH X0 Tryz.prog A m h l xs):aH X0 Tryz.prog A m h r.ps xs:=by
 unfold Br.un at hu;split at hu
 ·split at hu
  ·rename_i e1;cases hu;obtain⟨x1,r1,rfl,h1,hv⟩:=hv.inv;obtain⟨x2,r2,rfl,h2,hv⟩:=hv.inv;exact .cons h1 (.cons (L.dR e1 h2) hv)
  cases hu
 cases hu
theorem Ld.dR {l:List (PV bM)} {r:Ld} (hu:Ld.un l=some r) {xs:List TV} (hv:aH X0 Tryz.prog A m h l xs):aH X0 Tryz.prog A m h r.ps xs:=by
 unfold Ld.un at hu;split at hu
 ·split at hu
  ·rename_i e1 e2;cases hu;obtain⟨x1,r1,rfl,h1,hv⟩:=hv.inv;obtain⟨x2,r2,rfl,h2,hv⟩:=hv.inv;exact .cons (L.dR e1 h1) (.cons (L.dR e2 h2) hv)
  cases hu
 cases hu
theorem Tb.dR {l:List (PV bM)} {r:List Rw} (hu:Tb.un l=some r) {xs:List TV} (hv:aH X0 Tryz.prog A m h l xs):aH X0 Tryz.prog A m h [lRw r] xs:=by
 rcases l with _ | ⟨a,_ | ⟨b,l⟩⟩
 ·cases hu
 ·obtain⟨x1,r1,rfl,h1,hv⟩:=hv.inv;exact .cons (L.dR hu h1) hv
 cases hu
theorem Vs.dR {l:List (PV bM)} {r:List V} (hu:Vs.un l=some r) {xs:List TV} (hv:aH X0 Tryz.prog A m h l xs):aH X0 Tryz.prog A m h [lV r] xs:=by
 rcases l with _ | ⟨a,_ | ⟨b,l⟩⟩
 ·cases hu
 ·obtain⟨x1,r1,rfl,h1,hv⟩:=hv.inv;exact .cons (L.dR hu h1) hv
 cases hu
theorem Dg.dR {l:List (PV bM)} {r:Dg} (hu:Dg.un l=some r) {xs:List TV} (hv:aH X0 Tryz.prog A m h l xs):aH X0 Tryz.prog A m h r.ps xs:=by
 unfold Dg.un at hu;split at hu
 ·split at hu
  ·rename_i e1 e2 e3 e4;cases hu;obtain⟨x1,r1,rfl,h1,hv⟩:=hv.inv;obtain⟨x2,r2,rfl,h2,hv⟩:=hv.inv;obtain⟨x3,r3,rfl,h3,hv⟩:=hv.inv;obtain⟨x4,r4,rfl,h4,hv⟩:=hv.inv;exact .cons (L.dR e1 h1) (.cons (L.dR e2 h2) (.cons (L.dR e3 h3) (.cons (L.dR e4 h4) hv)))
  cases hu
 cases hu
theorem Is.dR {l:List (PV bM)} {r:List Int} (hu:Is.un l=some r) {xs:List TV} (hv:aH X0 Tryz.prog A m h l xs):aH X0 Tryz.prog A m h [lI r] xs:=by
 rcases l with _ | ⟨a,_ | ⟨b,l⟩⟩
 ·cases hu
 ·obtain⟨x1,r1,rfl,h1,hv⟩:=hv.inv;exact .cons (L.dR hu h1) hv
 cases hu
theorem Bs.dR {l:List (PV bM)} {r:List Bool} (hu:Bs.un l=some r) {xs:List TV} (hv:aH X0 Tryz.prog A m h l xs):aH X0 Tryz.prog A m h [lB r] xs:=by
 rcases l with _ | ⟨a,_ | ⟨b,l⟩⟩
 ·cases hu
 ·obtain⟨x1,r1,rfl,h1,hv⟩:=hv.inv;exact .cons (L.dR hu h1) hv
 cases hu
theorem Bl.lU {l:List (PV bM)} {b:Bool} (h:Bl.un l=some b):[PV.bool b]=l:=by
 unfold Bl.un at h;split at h
 ·cases h;rfl
 cases h
theorem Fc.dR {l:List (PV bM)} {r:Fc} (hu:Fc.un l=some r) {xs:List TV} (hv:aH X0 Tryz.prog A m h l xs):aH X0 Tryz.prog A m h r.ps xs:=by
 unfold Fc.un at hu;split at hu
 ·obtain⟨d,e1,rfl⟩:=Option.map_eq_some_iff.1 hu;obtain⟨x1,r1,rfl,h1,hv⟩:=hv.inv;exact .cons h1 (Dg.dR e1 hv)
 cases hu
theorem Pc.lU {l:List (PV bM)} {b:Pc} (h:Pc.un l=some b):Pc.ps b=l:=by
 unfold Pc.un at h;split at h
 ·cases h;rfl
 cases h
theorem Yg:∀ (k:Kd) {l:List (PV bM)} {a:k.T},k.dec l=some a->∀ {xs:List TV},aH X0 Tryz.prog A m h l xs->aH X0 Tryz.prog A m h (k.enc a) xs
 | .i64,_,_,e,_,hv=>by rw[show Kd.enc .i64 _=_ from I.lU e];exact hv
 | .u8,_,_,e,_,hv=>by rw[show Kd.enc .u8 _=_ from I.lU e];exact hv
 | .u16,_,_,e,_,hv=>by rw[show Kd.enc .u16 _=_ from I.lU e];exact hv
 | .u64,_,_,e,_,hv=>by rw[show Kd.enc .u64 _=_ from I.lU e];exact hv
 | .dg,_,_,e,_,hv=>Dg.dR e hv
 | .is,_,_,e,_,hv=>Is.dR e hv
 | .fc,_,_,e,_,hv=>Fc.dR e hv
 | .pc,_,_,e,_,hv=>by rw[show Kd.enc .pc _=_ from Pc.lU e];exact hv
 | .bl,_,_,e,_,hv=>by rw[show Kd.enc .bl _=_ from Bl.lU e];exact hv
 | .bs,_,_,e,_,hv=>Bs.dR e hv
 | .b,_,_,e,_,hv=>by rw[show Kd.enc .b _=_ from B.lU e];exact hv
 | .o,_,_,e,_,hv=>by rw[show Kd.enc .o _=_ from O.lU e];exact hv
 | .k,_,_,e,_,hv=>by rw[show Kd.enc .k _=_ from K.lU e];exact hv
 | .v,_,_,e,_,hv=>by rw[show Kd.enc .v _=_ from V.lU e];exact hv
 | .rw,_,_,e,_,hv=>Rw.dR e hv
 | .br,_,_,e,_,hv=>Br.dR e hv
 | .tb,_,_,e,_,hv=>Tb.dR e hv
 | .vs,_,_,e,_,hv=>Vs.dR e hv
 | .ld,_,_,e,_,hv=>Ld.dR e hv
 | .no,_,_,e,_,_=>by cases e
end
theorem RP:∀ (k:Kd) (a:k.T),dW.wH (k.enc a)=true:=by
 intro k a;cases k<;>rfl
theorem hX:aU X0 Tryz.prog:=⟨fun {t} vs a e {A m hh xs} hv=>Yg (kd t) e hv,fun t a=>RP (kd t) a⟩
abbrev Arg (α:Type):=Ar X0 Tryz.prog α
noncomputable def iA:Arg Int:=a2t .i64
noncomputable def hA:Arg Int:=a2t .u16
noncomputable def tA:Arg Bool:=a5O
noncomputable def vA:Arg V:=a5P hX 79
noncomputable def brA:Arg Br:=a5P hX 102
noncomputable def qA:Arg (List Int):=RD 3
noncomputable def vsA:Arg (List V):=RD 79
noncomputable def Yh:Arg (List Br):=RD 102
noncomputable def aag:Arg (List Dg):=RD 27
noncomputable def a6a:Arg (List Fc):=RD 66
noncomputable def pA:Arg Int:=a2t .u64
noncomputable def dA:Arg Dg:=a5R (Yb (NW qA (a4 qA vsA Yh iA))) (fun p=>⟨p.1,p.2.1,p.2.2.1,p.2.2.2.1,p.2.2.2.2⟩) (fun d=>(d.sizes,d.order,d.ends,d.nodes,d.root)) fun _=>rfl
abbrev LL:Nat:=2^24
noncomputable abbrev ApN (n:Nat):ay:=Bd Tryz.prog T LL n
abbrev Ok (n:Nat) (kX:iO bM):Prop:=lC X0 Tryz.prog (ApN n) kX
abbrev xi (n:Int):PE bM:=.val (.int .i64 n)
abbrev xt (b:Bool):PE bM:=.val (.bool b)
abbrev xl (b:Bool):PE bM:=.val (.lit b)
abbrev xv (v:V):PE bM:=.val (.agg v.ps)
abbrev xL (t:Nat) (l:List (bM t)):PE bM:=.val (.bK t l false)
abbrev Rh (n f k m:Nat) (s:aW bM) (e:Ex) (p:aW bM):Prop:=vK X0 Tryz.prog T (ApN n) LL f false (ntP Tryz.prog f) 0 (a5T Tryz.prog f k) m s e p
abbrev wQ (a b v:Int) (x:List (Nat×PE bM)):aW bM:=⟨[(0,xi a),(1,xi b),(5,xi v)]++x,[],[]⟩
theorem q0 {n:Nat} (hO:Ok n (NY (X:=X0))) (a b:Int) (lQ:0<b) (uU:b<=10000) (ha0:0<=a) (ha1:a<=10000):∀ (d:Nat),(d:Int)<=a/b->Rh n 161 0 (d+1) (wQ a b (a/b-d) []) (.exit 0) (wQ a b (a/b) [(17,xl false)]):=by
 have lS:a/b<=a:=Int.ediv_le_self b ha0;have aN:a<(a/b+1)*b:=by have:=Int.lt_ediv_add_one_mul_self a lQ;exact this
 have hle:a/b*b<=a:=Int.ediv_mul_le a (by omega);intro d
 induction d with
 | zero=>
  intro hd;rw[show a/b-((0:Nat):Int)=a/b by omega];exact round hX hO (by kernel_rfl) (.b (show decide (IntKind.i64.wrap (IntKind.i64.wrap (a/b+1)*b)<=a)=false by rw[wrap_small (z:=a/b+1) (by omega) (by omega),vM (by omega) (by omega) (by omega) (by omega)];simp only[decide_eq_false_iff_not];omega) .ex)
 | succ d ih=>
  intro hd;have Xh:(d:Int)+1<=a/b:=by omega
  have Io:(a/b-d)*b<=a:=by
   have:(a/b-d)*b<=(a/b)*b:=Int.mul_le_mul_of_nonneg_right (by omega) (by omega);omega
  have h:=ih (by omega);rw[<-show IntKind.i64.wrap (a/b-((d+1:Nat):Int)+1)=a/b-d by rw[wrap_small (by omega) (by omega)];omega] at h;exact round hX hO (by kernel_rfl) (.b (show decide (IntKind.i64.wrap (IntKind.i64.wrap (a/b-((d+1:Nat):Int)+1)*b)<=a)=true by
   rw[wrap_small (z:=a/b-((d+1:Nat):Int)+1) (by omega) (by omega),show a/b-((d+1:Nat):Int)+1=a/b-d by omega,vM (by omega) (by omega) (by omega) (by omega)];simp only[decide_eq_true_eq];exact Io) (.go h))
theorem q1 {n:Nat} (hO:Ok n (NY (X:=X0))) (a b:Int) (lQ:0<b) (uU:b<=10000) (ha0:-10000<=a) (ha1:a<=10000):∀ (d:Nat),(d:Int)<=10000->Rh n 161 1 (d+1) (wQ a b (a/b+d) []) (.exit 2) (wQ a b (a/b) [(24,xl false)]):=by
 have lS:a/b<=10000:=by
  rcases Int.lt_or_le a 0 with h | h
  ·have:=Int.ediv_neg_of_neg_of_pos h lQ;omega
  have:=Int.ediv_le_self b h;omega
 have aN:a<(a/b+1)*b:=by have:=Int.lt_ediv_add_one_mul_self a lQ;exact this
 have hle:a/b*b<=a:=Int.ediv_mul_le a (by omega);have Jm:-10000<=a/b:=by
  have h1:(-10000:Int)*b<=a:=by
   have:(-10000:Int)*b<=(-10000)*1:=(by omega);omega
  exact (Int.le_ediv_iff_mul_le lQ).mpr h1
 intro d
 induction d with
 | zero=>
  intro hd;rw[show a/b+((0:Nat):Int)=a/b by omega];exact round hX hO (by kernel_rfl) (.b (show decide (IntKind.i64.wrap (a/b*b)>a)=false by rw[vM (by omega) (by omega) (by omega) (by omega)];simp only[decide_eq_false_iff_not];omega) .ex)
 | succ d ih=>
  intro hd;have Io:a<(a/b+(d+1:Nat))*b:=by
   have:(a/b+1)*b<=(a/b+(d+1:Nat))*b:=Int.mul_le_mul_of_nonneg_right (by omega) (by omega);omega
  have h:=ih (by omega);rw[<-show IntKind.i64.wrap (a/b+((d+1:Nat):Int)-1)=a/b+d by rw[wrap_small (by omega) (by omega)];omega] at h;exact round hX hO (by kernel_rfl) (.b (show decide (IntKind.i64.wrap ((a/b+((d+1:Nat):Int))*b)>a)=true by
   rw[vM (by omega) (by omega) (by omega) (by omega)];simp only[decide_eq_true_eq];exact Io) (.go h))
abbrev inN (x:Int):Prop:=-10000<=x∧x<=10000
theorem oH {α:Type} {l:List α} {k:Nat} (h:k<l.length) (d:α):l[k]? = some (l.getD k d):=by simp[List.getD,List.getElem?_eq_getElem h]
abbrev aah (f:Nat) (a c:List (PV bM)) (H:List (PB bM)) (l:List Int) (i:Int) (x:List (Nat×PE bM)):aW bM:=⟨[(0,xL 3 l),(1,.val (.fn f a c)),(7,xi l.length),(8,xi i)]++x,[],H⟩
def z183 (f:Nat) (a c:List (PV bM)) (H:List (PB bM)) (l:List Int):Unit⊕(Nat×Int×Unit)->Ex×aW bM
 | .inl _=>(.exit 0,aah f a c H l l.length [(9,xl false)])
 | .inr r=>(.ret,⟨[(4,xi r.1)],[],H⟩)
noncomputable def a6b:iO bM:=dL 252 (a3 iA iA qA) tA (fun p=>Hz p.2.2 p.1 p.2.1) (fun p=>[p.2.2.length<=aO]) (NY (X:=X0))
noncomputable def a6c:iO bM:=dL 225 (a1 vA) tA (fun p=>Vg p) np a6b
open Go Tw Pv gq
noncomputable def aai:iO bM:=dL 93 (a3 iA iA iA) tA (fun p=>yY p.1 p.2.1 p.2.2) np a6c
noncomputable def aaj:iO bM:=dL 26 (a2 qA qA) tA (fun p=>decide (p.1=p.2)) (fun p=>[p.1.length<=aO]) aai
noncomputable def aak:iO bM:=dL 94 (a2 qA iA) iA (fun p=>BA p.1) (fun p=>[p.1.length<=aO,p.2=0]) aaj
noncomputable def aal:iO bM:=dL 63 (a1 qA) iA (fun p=>BA p) (fun p=>[p.length<=aO]) aak
abbrev xw (s:List Int):Int:=IntKind.i64.wrap ((s.length:Int)-1)
theorem a6d {s:List Int} (h:s.length<=aO):xw s=(s.length:Int)-1:=by unfold xw;unfold aO at h;exact D5 (by omega) (by omega)
theorem Jd {k lo hi:Int}:yY k lo hi=true↔lo<=k∧k<=hi:=by
 unfold yY;split
 ·rename_i h;simp at h ⊢;omega
 rename_i h;simp at h ⊢;omega
noncomputable def aam:iO bM:=dL 95 (a2 qA qA) tA (fun p=>ES p.1.length p.2) (fun p=>[p.1.length<=aO,p.2.length<=aO]) aal
abbrev cSz (a:List Int) (k:Nat):Bool:=!(yY (a.getD k 0) 1 12)
theorem Yi {a:List Int}:G8 (pJ (cSz a) a.length)=decide (BQ a):=by
 rw[Bool.eq_iff_iff,Jb,decide_eq_true_eq,BQ,<-Vh (d:=0)];refine forall_congr' fun j=>forall_congr' fun hj=>?_;simp only[cSz,Bool.not_eq_false',Jd]
def jy (s o:List Int):Int:=if decide ((s.length:Int)>6)=true then 5 else if G8 (pJ (cSz s) s.length)=true then (if decide (BA s>2000)=true then 5 else if (!(ES s.length o))=true then 4 else 0) else 3
noncomputable def aao:iO bM:=dL 62 (a2 qA qA) iA (fun p=>jy p.1 p.2) (fun p=>[p.2.length<=aO]) aam
theorem O5 (s o:List Int):jy s o=if 6<s.length then 5 else if BQ s then (if 2000<dD s then 5 else if ES s.length o=true then 0 else 4) else 3:=by
 unfold jy;rw[Yi];by_cases h1:6<s.length
 ·rw[if_pos h1,if_pos (by simp;omega)]
 rw[if_neg h1,if_neg (by simp;omega)];by_cases h2:BQ s
 ·rw[if_pos (by simpa using h2),if_pos h2,KW h2];by_cases h3:2000<dD s
  ·rw[if_pos h3,if_pos (by simp;omega)]
  rw[if_neg h3,if_neg (by simp;omega)];cases ES s.length o<;>simp
 rw[if_neg (by simpa using h2),if_neg h2]
theorem O6 {s o:List Int}:jy s o=0↔nJ s∧ES s.length o=true:=by
 rw[O5];constructor
 ·intro h;split at h
  ·cases h
  split at h
  ·split at h
   ·cases h
   split at h
   ·exact⟨⟨by omega,by assumption,by omega⟩,by assumption⟩
   cases h
  cases h
 rintro⟨⟨h1,h2,h3⟩,h4⟩;rw[if_neg (by omega),if_pos h2,if_neg (by omega),if_pos h4]
noncomputable def aap:iO bM:=dL 86 (a2 qA iA) qA (fun p=>a2x p.1 p.2) (fun p=>[p.1.length<=aO,BQ p.1,0<=p.2,p.2<2^62]) aao
noncomputable def a6e:iO bM:=dL 126 (a2 qA qA) iA (fun p=>Ye p.1 p.2) (fun p=>[Ah p.1 p.2=true,nJ p.1]) aap
def vOk (v:V):Bool:=if (v.f==0)=true then yY v.n (-9999) 9999 else if (decide (v.f<=4))=true then v.n==0 else false
noncomputable def a6f:iO bM:=dL 162 (a1 vA) tA (fun p=>vOk p) np a6e
open Go Tw Pv gq
def a0L (n:Nat):List Int:=(List.range n).map fun (k:Nat)=>(k:Int)
abbrev aaq (r:Rw) (p:List Int) (k:Nat):Bool:=if decide (p.getD k 0<r.fr.getD k 0)=true then true else decide (p.getD k 0>r.to.getD k 0)
def aar (r:Rw) (p:List Int):Bool:=G8 (pJ (aaq r p) p.length)
def aas (t:List Rw) (p:List Int) (k:Nat) (x:Int×Int):Int×Int:=if aar (t.getD k Rw0) p=true then (IntKind.i64.wrap (x.1+1),(k:Int)) else x
def Vm (t:List Rw) (p:List Int):Int×Int:=uq (aas t p) t.length 0 (0,-1)
def a6g (t:List Rw) (n:Nat):Prop:=∀ r∈t,r.fr.length=n∧r.to.length=n
structure Laid (s:List Int) (t:List Rw):Prop where
 vW:nJ s
 len:t.length<=4000
 rows:a6g t s.length
 own:∀ p,Ah s p=true->CO (Vm t p).2 t.length
open Go Tw Pv gq
abbrev V.tv (v:V):TV:=.agg [.int .u8 v.f,.int .i64 v.n]
abbrev B.tv (b:B):TV:=.agg [.int .i64 b.lo,.int .i64 b.hi,.int .u8 b.f]
theorem aat:Tryz.prog.underlying 3=some (.int .i64):=by kernel_rfl
theorem uU8:Tryz.prog.underlying 5=some (.int .u8):=by kernel_rfl
theorem aau : Tryz.prog.underlying 79 = some (.struct #[⟨"Fault", 5, 0, false, "", "", 0⟩, ⟨"N", 3, 1, false, "", "", 8⟩]) := by kernel_rfl
theorem a6h (d:Nat) (a b:V):au Tryz.prog (Op.equalIn (d+2) 79 (.agg #[.int .u8 a.f,.int .i64 a.n]) (.agg #[.int .u8 b.f,.int .i64 b.n]))=some (decide (a=b)):=by
 rw[oD (d+1) 79 _ _ _ aau (by kernel_rfl)];have p0:∀ x y:Value,au Tryz.prog (part 5 #[x,y] 0)=some x:=by intro x y;kernel_rfl
 have p1:∀ x y:Value,au Tryz.prog (part 3 #[x,y] 1)=some y:=by intro x y;kernel_rfl
 have n1 : ("Fault" : String) ≠ "_" := by decide
 have n2 : ("N" : String) ≠ "_" := by decide
 have q1 := iY (f := ⟨"Fault", 5, 0, false, "", "", 0⟩) (fs := [⟨"N", 3, 1, false, "", "", 8⟩]) n1 (p0 (.int .u8 a.f) (.int .i64 a.n)) (p0 (.int .u8 b.f) (.int .i64 b.n)) (ng d _ _ _ _ _ uU8);have q2 := iY (f := ⟨"N", 3, 1, false, "", "", 8⟩) (fs := []) n2 (p1 (.int .u8 a.f) (.int .i64 a.n)) (p1 (.int .u8 b.f) (.int .i64 b.n)) (ng d _ _ _ _ _ aat);rw[q1,q2];rw[show au Tryz.prog (Op.eqFields (d+1) #[.int .u8 a.f,.int .i64 a.n] #[.int .u8 b.f,.int .i64 b.n] [])=some true from rfl];rcases a with⟨a1,a2⟩;rcases b with⟨b1,b2⟩;by_cases h1:a1=b1<;>by_cases h2:a2=b2<;>simp[h1,h2]
theorem G9 (x y:Operand) (a b:V):kH Tryz.prog .eql 79 x y (V.tv a) (V.tv b)=some (.bool (decide (a=b))):=(IV rfl rfl (by kernel_rfl) (by decide) (a6h 9998 a b)).1
open Go Tw Pv gq
def cO (l:List V) (w j:Nat):List V:=(l.take ((j+1)*w)).drop (j*w)
theorem Qd {l:List V} {w n j:Nat} (hl:l.length=n*w) (hj:j<n):(cO l w j).length=w:=by
 unfold cO;have h1:(j+1)*w<=n*w:=Nat.mul_le_mul_right w hj;rw[List.length_drop,List.length_take,Nat.min_eq_left (by omega),Nat.add_mul];omega
structure Vo (s:List Int) (l:List V):Prop where
 vW:nJ s
 len:(l.length:Int)=dD s
theorem Vo.w {a:Int} {s:List Int} {l:List V} (h:Vo (a::s) l):l.length=a.toNat*(l.length/a.toNat)∧((l.length/a.toNat:Nat):Int)=dD s∧1<=a∧a<=12:=by
 have ha:=h.vW.sz a (List.mem_cons_self ..);have hl:=h.len;have hp:=qy h.vW.sz.tail;simp only[dD] at hl;have e:l.length=a.toNat*(dD s).toNat:=by
  have:((a.toNat*(dD s).toNat:Nat):Int)=a*dD s:=by
   rw[Int.natCast_mul,Int.toNat_of_nonneg (by omega),Int.toNat_of_nonneg (by omega)]
  omega
 have e2:l.length/a.toNat=(dD s).toNat:=by rw[e,Nat.mul_div_cancel_left _ (by omega)]
 rw[e2];exact⟨e,by omega,ha⟩
theorem Vo.cO {a:Int} {s:List Int} {l:List V} (h:Vo (a::s) l) {j:Nat} (hj:j<a.toNat):Vo s (cO l (l.length/a.toNat) j):=by
 obtain⟨h1,h2,h3⟩:=h.w;refine⟨⟨?_,h.vW.sz.tail,?_⟩,?_⟩
 ·have:=h.vW.len;simp at this;omega
 ·have:=h.vW.many;have hp:=qy h.vW.sz.tail;simp only[dD] at this;have:1*dD s<=a*dD s:=Int.mul_le_mul_of_nonneg_right h3.1 (by omega);omega
 rw[Qd h1 hj];exact h2
open Go Tw Pv gq
theorem a0M {j:Nat} (h:j<=aO):IntKind.i64.wrap ((j:Int)+1)=((j+1:Nat):Int):=Yc h
theorem Yj {j w:Nat} (hj:j<=20) (hw:w<=5000):IntKind.i64.wrap ((j:Int)*(w:Int))=((j*w:Nat):Int):=by
 have:j*w<=20*5000:=Nat.mul_le_mul hj hw;rw[<-Int.natCast_mul,D5 (by omega) (by omega)]
theorem m20 {j:Nat} (h:j<=20):j<=aO:=by unfold aO;omega
structure Prt (l:List V) (w n:Nat):Prop where
 n12:n<=12
 w2:w<=5000
 len:l.length=n*w
section
variable {l:List V} {w n j:Nat} (h:Prt l w n)
include h
theorem Prt.b1 (hj:j<=20):0<=IntKind.i64.wrap ((j:Int)*(w:Int)):=by rw[Yj hj h.w2];omega
theorem Prt.b2 (hj:j<20):IntKind.i64.wrap ((j:Int)*(w:Int))<=IntKind.i64.wrap (IntKind.i64.wrap ((j:Int)+1)*(w:Int)):=by
 rw[a0M (m20 (by omega)),Yj (by omega) h.w2,Yj (by omega) h.w2,Nat.add_mul];omega
theorem Prt.b3 (hj:j<n):IntKind.i64.wrap (IntKind.i64.wrap ((j:Int)+1)*(w:Int))<=(l.length:Int):=by
 have:=h.n12;rw[a0M (m20 (by omega)),Yj (by omega) h.w2,h.len];have:(j+1)*w<=n*w:=Nat.mul_le_mul_right w hj;omega
theorem Prt.mo (hj:j<n):(cO l w j).length<=aO:=by rw[Qd h.len hj];have:=h.w2;unfold aO;omega
end
open Go Tw Pv gq
structure wV (s:List Int) (ts:List (List Rw)):Prop where
 vW:nJ s
 laid:∀ t∈ts,Laid s t
 inn:∀ t∈ts,∀ r∈t,inN r.cell.n
 len:1<=ts.length∧ts.length<=3
open Go Tw Pv gq
abbrev iG (d:Dg) (r:Int):Br:=d.nodes.getD r.toNat SK
abbrev a0N (d:Dg) (r:Int) (k:Nat):Bool:=d.order.getD k 0==(iG d r).var
def O7 (d:Dg) (r:Int):Int:=if decide (r<0)=true then (d.order.length:Int) else if G8 (pJ (a0N d r) d.order.length)=true then (d.order.length:Int) else ((a2u 0 (pJ (a0N d r) d.order.length):Nat):Int)
noncomputable def a6j:iO bM:=dL 164 (a2 dA iA) iA (fun p=>O7 p.1 p.2) (fun p=>[p.1.order.length<=aO,0<=p.2->CO p.2 p.1.nodes.length]) a6f
def yZ (d:Dg) (r below:Int):Bool:=if decide (r>=0)=true then decide (r<below) else yY (IntKind.i64.wrap (-1-r)) 0 (IntKind.i64.wrap ((d.ends.length:Int)-1))
noncomputable def a6k:iO bM:=dL 163 (a3 dA iA iA) tA (fun p=>yZ p.1 p.2.1 p.2.2) np a6j
abbrev a6l (b:Br) (k:Nat):Bool:=b.kids.getD k 0 != b.kids.getD 0 0
def Vp (b:Br):Bool:=if G8 (a5V (a6l b) 1 (max 1 b.kids.length))=true then true else false
noncomputable def a6m:iO bM:=dL 127 (a1 brA) tA (fun p=>Vp p) (fun p=>[p.kids.length<=aO]) a6k
noncomputable def a6n:iO bM:=dL 226 (a2 qA iA) tA (fun p=>decide (p.2∈p.1)) (fun p=>[p.1.length<=aO]) a6m
abbrev aav (l:List Int) (k:Nat):Bool:=l.getD k 0 != (k:Int)
abbrev aaw (l:List Int) (m i:Int) (x:List (Nat×PE bM)):aW bM:=⟨[(0,xL 3 l),(1,xi m),(5,xi i)]++x,[],[]⟩
def z182 (l:List Int) (m:Int):Unit⊕Nat->Ex×aW bM
 | .inl _=>(.exit 0,aaw l m l.length [(9,xl false)])
 | .inr _=>(.ret,⟨[(4,xl false)],[],[]⟩)
def EU (l:List Int) (m:Int):Bool:=if G8 (pJ (aav l) l.length)=true then ((l.length:Int)==m) else false
noncomputable def a6o:iO bM:=dL 182 (a2 qA iA) tA (fun p=>EU p.1 p.2) (fun p=>[p.1.length<=aO]) a6n
abbrev cLk (d:Dg) (i k:Nat):Bool:=if (!(yZ d ((d.nodes.getD i SK).kids.getD k 0) i))=true then true else decide (O7 d ((d.nodes.getD i SK).kids.getD k 0)<=O7 d i)
abbrev D6 (d:Dg) (i:Nat):Br:=d.nodes.getD i SK
structure DgL (d:Dg):Prop where
 order:d.order.length<=aO
 nodes:d.nodes.length<=aO
 ends:d.ends.length<=aO
 vW:nJ d.sizes
abbrev cLn (d:Dg) (i:Nat):Bool:=if (!(yY (D6 d i).var 0 (xw d.sizes)))=true then true else if (((D6 d i).kids.length:Int) != d.sizes.getD (D6 d i).var.toNat 0)=true then true else if G8 (pJ (cLk d i) (D6 d i).kids.length)=true then false else true
theorem Vq {d:Dg} (h:nJ d.sizes) {v:Int} (e:yY v 0 (xw d.sizes)=true):CO v d.sizes.length:=by
 rw[Jd,a6d h.aa5] at e;exact⟨e.1,by omega⟩
theorem Vr {d:Dg} (h:nJ d.sizes) {v:Int} (e:CO v d.sizes.length) {l:List Int} (hl:(((l.length:Int)) != d.sizes.getD v.toNat 0)=false):l.length<=12:=by
 have:=h.sz _ (KU (s:=d.sizes) (k:=v.toNat) (by have:=e.2;have:=e.1;omega));have hl:(l.length:Int)=d.sizes.getD v.toNat 0:=by simpa using hl
 omega
abbrev cLe (d:Dg) (k:Nat):Bool:=!(vOk (d.ends.getD k V0))
def vN (d:Dg):Bool:=if G8 (pJ (cLe d) d.ends.length)=true then (if G8 (pJ (cLn d) d.nodes.length)=true then yZ d d.root d.nodes.length else false) else false
noncomputable def a6p:iO bM:=dL 128 (a1 dA) tA (fun p=>vN p) (fun p=>[DgL p]) a6o
def iE (d:Dg):Int:=if (jy d.sizes d.order != 0)=true then jy d.sizes d.order else if decide ((d.nodes.length:Int)>6000)=true then 5 else if (!(vN d))=true then 4 else 0
theorem a2B {k:Nat} (h:decide ((k:Int)>6000)=false):k<=aO:=by simp at h;unfold aO;omega
theorem O8 {s o:List Int} (h:(jy s o != 0)=false):nJ s:=(O6.1 (by simpa using h)).1
noncomputable def aaz:iO bM:=dL 84 (a1 dA) iA (fun p=>iE p) (fun p=>[p.order.length<=aO,p.ends.length<=aO]) a6p
open Go Tw Pv gq
abbrev BU (r:Int):Int:=IntKind.i64.wrap (-1-r)
def Yk (d:Dg):Nat->Int->List Int×List Int->List Int×List Int
 | 0,_,x=>x
 | F+1,r,x=>if decide (r<0)=true then (if (!(decide (BU r∈x.2)))=true then (x.1,x.2++[BU r]) else x) else if decide (r∈x.1)=true then x
  else ((uq (fun k y=>Yk d F ((iG d r).kids.getD k 0) y) (iG d r).kids.length 0 x).1++[r],(uq (fun k y=>Yk d F ((iG d r).kids.getD k 0) y) (iG d r).kids.length 0 x).2)
def EW (d:Dg) (r:Int) (b:Nat):Prop:=r<b∧(r<0->CO (BU r) d.ends.length)
structure SL (d:Dg):Prop extends DgL d where
 kid:∀ i,i<d.nodes.length->∀ k,k<(D6 d i).kids.length->EW d ((D6 d i).kids.getD k 0) i
 aaA:∀ i,i<d.nodes.length->(D6 d i).kids.length<=12
 var:∀ i,i<d.nodes.length->CO (D6 d i).var d.sizes.length
 ksz:∀ i,i<d.nodes.length->((D6 d i).kids.length:Int)=d.sizes.getD (D6 d i).var.toNat 0
 root:EW d d.root d.nodes.length
structure a6q (d:Dg) (x:List Int×List Int):Prop where
 n1:x.1.Nodup
 n2:∀ a∈x.1,CO a d.nodes.length
 e1:x.2.Nodup
 e2:∀ a∈x.2,CO a d.ends.length
theorem vO:∀ (N:Nat) (l:List Int),l.Nodup->(∀ a∈l,CO a N)->l.length<=N
 | 0,[],_,_=>Nat.le_refl _
 | 0,a::l,_,h=>by obtain⟨h1,h2⟩:=h a (List.mem_cons_self ..);omega
 | N+1,l,hn,h=>by
  have h1:=vO N (l.erase (N:Int)) (hn.erase _) fun a ha=>by
   have h2:=(List.Nodup.mem_erase_iff hn).1 ha;have h3:=h a h2.2;exact⟨h3.1,by have:=h3.2;have:=h2.1;omega⟩
  by_cases hm:(N:Int)∈l
  ·rw[List.length_erase_of_mem hm] at h1;omega
  rw[List.erase_of_not_mem hm] at h1;omega
theorem a6q.len {d:Dg} {x:List Int×List Int} (h:a6q d x):x.1.length<=d.nodes.length∧x.2.length<=d.ends.length:=⟨vO _ _ h.n1 h.n2,vO _ _ h.e1 h.e2⟩
abbrev ls (l:List Int):PB bM:=.list false false 3 l
noncomputable def nlA:Arg Unit where
 put _:=.nil .slc
 get v:=match v with
  | .nil .slc=>some ()
  | _=>none
 ok:=by
  intro v a hg A m h x hv;split at hg
  ·exact hv
  ·cases hg
def srN (d:Dg) (r:Int):List Int:=(Yk d 6002 r ([],[])).1
def srE (d:Dg) (r:Int):List Int:=(Yk d 6002 r ([],[])).2
noncomputable def a6r:iO bM:=dL 181 (a4 dA iA nlA nlA) (Vb (a2 qA qA)) (fun p=>(srN p.1 p.2.1,srE p.1 p.2.1)) (fun p=>[SL p.1,EW p.1 p.2.1 p.1.nodes.length,p.1.nodes.length<=6000]) aaz
open Go Tw Pv gq
abbrev cD1 (d:Dg) (i j:Nat):Bool:=decide (d.ends.getD j V0=d.ends.getD i V0)
abbrev cD0 (d:Dg) (i:Nat):Bool:=if G8 (pJ (cD1 d i) i)=true then false else true
abbrev cD3 (d:Dg) (i j:Nat):Bool:=if ((D6 d j).var==(D6 d i).var)=true then decide ((D6 d j).kids=(D6 d i).kids) else false
abbrev cD2 (d:Dg) (i:Nat):Bool:=if Vp (D6 d i)=true then true else if G8 (pJ (cD3 d i) i)=true then false else true
def KZ (d:Dg):Bool:=if G8 (pJ (cD0 d) d.ends.length)=true then (if G8 (pJ (cD2 d) d.nodes.length)=true then (if EU (srN d d.root) (d.nodes.length:Int)=true then EU (srE d d.root) (d.ends.length:Int) else false) else false) else false
noncomputable def a6s:iO bM:=dL 137 (a1 dA) tA (fun p=>KZ p) (fun p=>[SL p,p.nodes.length<=6000]) a6r
theorem L6 {d:Dg} (hm:d.ends.length<=aO) {r:Int} {b:Nat} (h:yZ d r b=true):EW d r b:=by
 unfold yZ at h;by_cases c:0<=r
 ·rw[if_pos (by simpa using c)] at h;exact⟨by simpa using h,fun h2=>by omega⟩
 rw[if_neg (by simpa using c),Jd] at h;have e:IntKind.i64.wrap ((d.ends.length:Int)-1)=(d.ends.length:Int)-1:=by unfold aO at hm;exact D5 (by omega) (by omega)
 rw[e] at h;obtain⟨h1,h2⟩:=h;exact⟨by omega,fun _=>⟨h1,show BU r<_ by show IntKind.i64.wrap (-1-r)<_;omega⟩⟩
theorem Vt {d:Dg} (h:DgL d) (hl:vN d=true):SL d:=by
 unfold vN at hl;split at hl
 rotate_left
 ·cases hl
 split at hl
 rotate_left
 ·cases hl
 rename_i h1 h2;have h2:=Jb.1 h2;have key:∀ i,i<d.nodes.length->yY (D6 d i).var 0 (xw d.sizes)=true∧(((D6 d i).kids.length:Int) != d.sizes.getD (D6 d i).var.toNat 0)=false∧G8 (pJ (cLk d i) (D6 d i).kids.length)=true:=fun i hi=>by
  have:=h2 i hi;unfold cLn at this;split at this
  ·cases this
  split at this
  ·cases this
  split at this
  ·rename_i a b c;exact⟨by simpa using a,by simpa using b,c⟩
  cases this
 refine⟨h,fun i hi k hk=>?_,fun i hi=>?_,fun i hi=>?_,fun i hi=>?_,L6 h.ends hl⟩
 ·have:=Jb.1 (key i hi).2.2 k hk;unfold cLk at this;split at this
  ·cases this
  rename_i a;exact L6 h.ends (by simpa using a)
 ·exact Vr h.vW (Vq h.vW (key i hi).1) (key i hi).2.1
 ·exact Vq h.vW (key i hi).1
 simpa using (key i hi).2.1
theorem wK {d:Dg} (ho:d.order.length<=aO) (he:d.ends.length<=aO) (h:(iE d != 0)=false):SL d∧d.nodes.length<=6000:=by
 unfold iE at h;split at h
 ·rename_i h1;simp at h h1;exact absurd h h1
 split at h
 ·cases h
 split at h
 ·cases h
 rename_i h1 h2 h3;have h2:decide ((d.nodes.length:Int)>6000)=false:=by simpa using h2
 exact⟨Vt ⟨ho,a2B h2,he,O8 (by simpa using h1)⟩ (by simpa using h3),by simp at h2;omega⟩
def a6t (d:Dg):Int:=if (iE d != 0)=true then iE d else if (!(KZ d))=true then 4 else 0
noncomputable def a6u:iO bM:=dL 101 (a1 dA) iA (fun p=>a6t p) (fun p=>[p.order.length<=aO,p.ends.length<=aO]) a6s
open Go Tw Pv gq
def atF (d:Dg) (p:List Int):Nat->Int->Int
 | 0,r=>r
 | F+1,r=>if r<0 then r else atF d p F ((iG d r).kids.getD (p.getD (iG d r).var.toNat 0).toNat 0)
theorem Vu {d:Dg} (h:SL d) {p:List Int} (hp:Ah d.sizes p=true) {r:Int} (hr:CO r d.nodes.length):CO (iG d r).var p.length∧CO (p.getD (iG d r).var.toNat 0) (iG d r).kids.length∧EW d ((iG d r).kids.getD (p.getD (iG d r).var.toNat 0).toNat 0) r.toNat:=by
 obtain⟨r1,r2⟩:=hr;have hl:r.toNat<d.nodes.length:=by omega
 have hv:=h.var r.toNat hl;have hk:=h.ksz r.toNat hl;obtain⟨v1,v2⟩:=hv;obtain⟨p1,p2⟩:=KT.1 hp;have p3:=p2 (iG d r).var.toNat (by show (D6 d r.toNat).var.toNat<_;omega);have k1:CO (p.getD (iG d r).var.toNat 0) (iG d r).kids.length:=⟨p3.1,by show _<((D6 d r.toNat).kids.length:Int);rw[hk];exact p3.2⟩;refine⟨⟨v1,by rw[p1];exact v2⟩,k1,h.kid r.toNat hl _ ?_⟩;obtain⟨k2,k3⟩:=k1;show _<(iG d r).kids.length;omega
abbrev atR (d:Dg) (p:List Int):Int:=atF d p 6001 d.root
def a6v (d:Dg) (p:List Int):V:=d.ends.getD (BU (atR d p)).toNat V0
noncomputable def aaB:iO bM:=dL 85 (a2 dA qA) vA (fun p=>a6v p.1 p.2) (fun p=>[SL p.1,p.1.nodes.length<=6000,Ah p.1.sizes p.2=true]) a6u
structure DgU (d:Dg):Prop where
 t:SL d
 nodes:d.nodes.length<=6000
 ok:(iE d != 0)=false
theorem DgU.of {d:Dg} (ho:d.order.length<=aO) (he:d.ends.length<=aO) (h:(iE d != 0)=false):DgU d:=⟨(wK ho he h).1,(wK ho he h).2,h⟩
open Go Tw Pv gq
abbrev lsI (l:List Int):List (PB bM):=[.list false false 3 l]
noncomputable def a6w:iO bM:=aa3 103 (a1 qA) (fun _=>.own 0) (fun p=>lsI p) (fun p=>[p.length<=aO]) aaB
noncomputable def a6x:iO bM:=dL 106 (a1 iA) qA (fun p=>a0L p.toNat) (fun p=>[0<=p,p<=(aO:Int)]) a6w
noncomputable def a6y:iO bM:=dL 105 (a2 qA qA) tA (fun p=>decide (p.1=p.2)) (fun p=>[p.1.length<=aO]) a6x
noncomputable def a6z:iO bM:=dL 102 (a3 iA iA qA) tA (fun p=>EO p.2.2 p.1 p.2.1) (fun p=>[p.2.2.length<=aO]) a6y
noncomputable def aaC:iO bM:=dL 67 (a2 qA qA) iA (fun p=>jy p.1 p.2) (fun p=>[p.1.length<=aO,p.2.length<=2^20]) a6z
open Go Tw Pv gq
def I5 (v:V):Bool:=if decide (v.f>0)=true then (if decide (v.f<=4)=true then v.n==0 else false) else EO [v.n] (-9999) 9999
noncomputable def a6A:iO bM:=dL 196 (a1 vA) tA (fun p=>I5 p) np aaC
noncomputable abbrev frA:NV X0 Tryz.prog (List Int×List Int):=a2 qA qA
abbrev cIx (l:List Int) (v:Int) (k:Nat):Bool:=v==l.getD k 0
def D7 (l:List Int) (v:Int):Int:=if G8 (pJ (cIx l v) l.length)=true then -1 else ((a2u 0 (pJ (cIx l v) l.length):Nat):Int)
noncomputable def a6B:iO bM:=dL 255 (a2 qA iA) iA (fun p=>D7 p.1 p.2) (fun p=>[p.1.length<=aO]) a6A
noncomputable def a6C:iO bM:=dL 237 (a2 (Yb (a2 qA qA)) iA) iA (fun p=>D7 p.1.2 p.2) (fun p=>[p.1.2.length<=aO]) a6B
noncomputable def a6D:iO bM:=dL 204 (a1 iA) iA (fun p=>IntKind.i64.wrap (-1-p)) np a6C
structure Lo where
 s:List Int
 o:List Int
 d:Dg
abbrev Lo.ps (l:Lo):List (PV bM):=[.bK 3 l.s false,.bK 3 l.o false]++l.d.ps
noncomputable def loA:Arg Lo:=a5R (Yb (NW qA (NW qA (NW qA (a4 qA vsA Yh iA))))) (fun p=>⟨p.1,p.2.1,⟨p.2.2.1,p.2.2.2.1,p.2.2.2.2.1,p.2.2.2.2.2.1,p.2.2.2.2.2.2⟩⟩) (fun l=>(l.s,l.o,l.d.sizes,l.d.order,l.d.ends,l.d.nodes,l.d.root)) fun _=>rfl
def Je (l:Lo) (kid below aaD:Int):Bool:=if decide (kid<0)=true then decide (IntKind.i64.wrap (-1-kid)<(l.d.ends.length:Int)) else if decide (kid<below)=true then decide (D7 l.o (l.d.nodes.getD kid.toNat SK).var>aaD) else false
noncomputable def a6E:iO bM:=dL 199 (a4 loA iA iA iA) tA (fun p=>Je p.1 p.2.1 p.2.2.1 p.2.2.2) (fun p=>[p.1.o.length<=aO,0<=p.2.1->p.2.1<p.2.2.1->CO p.2.1 p.1.d.nodes.length]) a6D
abbrev Vw (l:Lo) (i:Int):Br:=l.d.nodes.getD i.toNat SK
def a2E (l:Lo) (i:Int):Bool:=if (!(EO [(Vw l i).var] 0 (xw l.s)))=true then false else if (((Vw l i).kids.length:Int) != l.s.getD (Vw l i).var.toNat 0)=true then false else (Vw l i).kids.all fun x=>Je l x i (D7 l.o (Vw l i).var)
abbrev loD (d:Dg):Lo:=⟨d.sizes,d.order,d⟩
abbrev lo0:Lo:=⟨[],[],⟨[],[],[],[],0⟩⟩
def qC (d:Dg):Lo×Int:=if (jy d.sizes d.order != 0)=true then (lo0,jy d.sizes d.order) else if decide ((d.nodes.length:Int)>6000)=true then (loD d,5) else if (!(d.ends.all I5))=true then (loD d,4) else if (!((a0L d.nodes.length).all (a2E (loD d))))=true then (loD d,4) else if (!(Je (loD d) d.root d.nodes.length (-1)))=true then (loD d,4) else (loD d,0)
noncomputable def a6F:iO bM:=dL 142 (a1 dA) (Vb (a2 loA iA)) (fun p=>qC p) (fun p=>[p.sizes.length<=aO,p.order.length<=2^20,p.ends.length<=aO]) a6E
open Go Tw Pv gq
def W64 (x:Int):Prop:=-(2^63)<=x∧x<2^63
structure DgR (d:Dg):Prop where
 kid:∀ i,i<d.nodes.length->∀ k,k<(D6 d i).kids.length->W64 ((D6 d i).kids.getD k 0)
 root:W64 d.root
 fault:∀ v∈d.ends,0<=v.f
end Go.Proofs.YtjkgcifieggcpaaGreat
namespace Pv
open Go Tw
structure Gf (X:iR) (P:Program) (kt:TypeId) (α:Type) [DecidableEq α] where
 pv:α->PV X.Γ
 tv:α->TV
 v:α->Value
 hp:∀ x,tJ (pv x)=some (tv x)
 ht:∀ x,(tv x).rW=some (v x)
 hc:∀ em x,au P (Instr.checkKey em 10000 kt (v x))=some ()
 hf:∀ (x:α) (l:List α),au P (Instr.findKey kt (v x) (l.map fun y=>⟨v y,.bool false,0⟩))=some ((l.findIdx? fun y=>decide (x=y)).map fun i=>(i,.bool false))
 hk:∃ kind,au P (underlying kt)=some kind∧((∀ x y,Instr.sameNow kind (v x) (v y)=some (decide (x=y)))∨∀ x y,Instr.sameNow kind (v x) (v y)=none∧au P (Op.equal kt (v x) (v y))=some (decide (x=y)))
variable {X:iR} {P:Program} {kt:TypeId} {α:Type} [DecidableEq α] (C:Gf X P kt α)
abbrev Gf.es (l:List (α×PV X.Γ)):List (PV X.Γ×PV X.Γ):=l.map fun e=>(C.pv e.1,e.2)
theorem Gf.Rq:∀ l:List α,Tw.rX (l.map C.tv)=some (l.map C.v)
 | []=>rfl
 | a::l=>by
  show (match (C.tv a).rW,Tw.rX (l.map C.tv) with | some v,some vs=>some (v::vs) | _,_=>none)=_;rw[C.ht,Gf.Rq l];rfl
theorem Gf.find (x:α) (l:List α) (r:Option Nat) (hr:(l.findIdx? fun y=>decide (x=y))=r) (hs:∀ (i:Nat) y,l[i]? = some y->decide (x=y)=(some i==r)):oC P kt (C.v x) (l.map C.tv)=some r:=by
 unfold oC;rw[C.Rq];simp only[];rw[aY,C.hc,Option.bind_some,List.map_map];show (match au P (Instr.findKey kt (C.v x) (l.map fun y=>⟨C.v y,.bool false,0⟩)) with | some r=>if Jt P kt (C.v x) (l.map C.v) (Option.map (fun (q:Nat×Value)=>q.1) r) then some (Option.map (fun (q:Nat×Value)=>q.1) r) else none | none=>none)=_;rw[C.hf,hr];have e:Option.map (fun (q:Nat×Value)=>q.1) (r.map fun i=>(i,Value.bool false))=r:=by cases r<;>rfl
 simp only[e];rw[if_pos];obtain⟨kind,h1,h2⟩:=C.hk;simp only[Jt,h1,Bool.and_eq_true,Bool.or_eq_true,List.all_eq_true];constructor
 ·cases r with
  | none=>rfl
  | some j=>
   have:=(List.findIdx?_eq_some_iff_getElem.1 hr).1;simpa using this
 have hz:∀ p∈(l.map C.v).zipIdx,∃ y,p.1=C.v y∧decide (x=y)=(some p.2==r):=fun p hp=>by
  have:=List.mem_zipIdx_iff_getElem?.1 hp;rw[List.getElem?_map,Option.map_eq_some_iff] at this;obtain⟨y,hy,e⟩:=this;exact⟨y,e.symm,hs _ _ hy⟩
 rcases h2 with h2 | h2
 ·left;intro p hp;obtain⟨y,e1,e2⟩:=hz p hp;rw[e1,h2,e2];simp
 right;intro p hp;obtain⟨y,e1,e2⟩:=hz p hp;rw[e1,(h2 x y).1,(h2 x y).2,e2];simp
theorem Gf.pk:∀ l:List (α×PV X.Γ),oz X (C.es l)=some ((l.map (·.1)).map C.tv)
 | []=>rfl
 | a::l=>by
  show (match tJ (C.pv a.1),oz X (C.es l) with | some v,some vs=>some (v::vs) | _,_=>none)=_;rw[C.hp,Gf.pk l];rfl
theorem Gf.ck (x:α):∃ kv,(C.tv x).rW=some kv∧au P (Instr.checkKey false 10000 kt kv)=some ():=⟨C.v x,C.ht x,C.hc false x⟩
theorem Gf.fresh {l:List (α×PV X.Γ)} {x:α} (h:x∉l.map (·.1)):Et X P kt (C.es l) (C.tv x):=by
 refine⟨C.v x,_,C.ht x,C.pk l,?_⟩;have hno:∀ y∈l.map (·.1),decide (x=y)=false:=fun y hy=>by
  simp only[decide_eq_false_iff_not];intro e;exact h (e▸hy)
 exact C.find x _ none (List.findIdx?_eq_none_iff.2 hno) fun i y hy=>by rw[hno y (List.mem_of_getElem? hy)];rfl
theorem Vx {t:TypeId} {d:TypeDesc} (h:P.underlying t=some d):au P (underlying t)=some d:=by
 simp only[underlying,aY];show Option.bind (some P) _=_;simp[h];rfl
theorem Vy {v:α->Value} (he:∀ x y,au P (Op.equal kt (v x) (v y))=some (decide (x=y))) (x:α):∀ (l:List α) (i:Nat),au P (Instr.findAsking kt (v x) (l.map fun y=>⟨v y,.bool false,0⟩) i)=some ((l.findIdx? fun y=>decide (x=y)).map fun j=>(j+i,.bool false))
 | [],i=>rfl
 | y::l,i=>by
  simp only[List.map_cons,Instr.findAsking];rw[aY,he,Option.bind_some,List.findIdx?_cons];cases decide (x=y) with
  | true=>simp only[if_true,Option.map_some,Nat.zero_add];rfl
  | false=>
   simp only[Bool.false_eq_true,if_false];rw[Vy he x l (i+1)];cases l.findIdx? fun y=>decide (x=y) with
   | none=>rfl
   | some j=>simp;omega
theorem Yl {v:α->Value} {fs:Array Field} (hu:P.underlying kt=some (.struct fs)) (he:∀ x y,au P (Op.equal kt (v x) (v y))=some (decide (x=y))) (x:α) (l:List α):au P (Instr.findKey kt (v x) (l.map fun y=>⟨v y,.bool false,0⟩))=some ((l.findIdx? fun y=>decide (x=y)).map fun i=>(i,.bool false)):=by
 have h:=Vy he x l 0;unfold Instr.findKey;rw[aY,Vx hu,Option.bind_some];cases l with
 | nil=>rfl
 | cons y l=>
  rw[show Instr.findNow (.struct fs) (v x) ((y::l).map fun y=>⟨v y,.bool false,0⟩) 0=none by simp[Instr.findNow,Instr.sameNow]];exact h
theorem Ym {v:α->Value} {fs:Array Field} (hu:P.underlying kt=some (.struct fs)) (he:∀ x y,au P (Op.equal kt (v x) (v y))=some (decide (x=y))) :
  ∃ kind,au P (underlying kt)=some kind∧((∀ x y,Instr.sameNow kind (v x) (v y)=some (decide (x=y)))∨∀ x y,Instr.sameNow kind (v x) (v y)=none∧au P (Op.equal kt (v x) (v y))=some (decide (x=y))):=
 ⟨_,Vx hu,.inr fun x y=>⟨by simp[Instr.sameNow],he x y⟩⟩
end Pv
namespace Go.Proofs.YtjkgcifieggcpaaGreat
open Go Tw Pv gq
def Vz (E:List V) (v:V):List V:=if v∈E then E else E++[v]
open Go Tw Pv gq
abbrev Ky:=Int×{l:List Int // l.length=12}
abbrev Ky.l (x:Ky):List Int:=x.1::x.2.val
open Go Tw Pv gq
def a2G (l:List Int):List Int:=(l++[0,0,0,0,0,0,0,0,0,0,0,0]).take 12
theorem VA (l:List Int):(a2G l).length=12:=by unfold a2G;simp
def a2H (c:Int) (ks:List Int):Ky:=(c,⟨a2G ks,VA ks⟩)
abbrev kyB (b:Br):Ky:=a2H b.var b.kids
def Yn (nd:List Br) (c:Int) (ks:List Int):List Br:=if (ks.all fun x=>x==ks.getD 0 0)=true then nd else if a2H c ks∈nd.map kyB then nd else nd++[⟨c,ks⟩]
def Qe (nd:List Br) (c:Int) (ks:List Int):Int:=if (ks.all fun x=>x==ks.getD 0 0)=true then ks.getD 0 0 else ((nd.map kyB).idxOf (a2H c ks):Nat)
open Go Tw Pv gq
structure Cs where
 e:List V
 n:List Br
 k:List (Int×Int)
def a2I (d:Dg) (r:Int):V:=d.ends.getD (IntKind.i64.wrap (-1-r)).toNat V0
def knV (k:List (Int×Int)) (r:Int):Int:=((k.find? fun p=>p.1==r).getD (0,0)).2
def VD (d:Dg):Nat->Int->Cs->Int×Cs
 | 0,_,x=>(0,x)
 | F+1,r,x=>if decide (r<0)=true then (IntKind.i64.wrap (-1-(x.e.idxOf (a2I d r):Nat)),⟨Vz x.e (a2I d r),x.n,x.k⟩) else if decide (r∈x.k.map (·.1))=true then (knV x.k r,x)
  else
   let y:=uq (fun j (y:List Int×Cs)=>(y.1.set j (VD d F ((iG d r).kids.getD j 0) y.2).1,(VD d F ((iG d r).kids.getD j 0) y.2).2)) (iG d r).kids.length 0 (List.replicate (iG d r).kids.length 0,x)
   (Qe y.2.n (iG d r).var y.1,⟨y.2.e,Yn y.2.n (iG d r).var y.1,y.2.k++[(r,Qe y.2.n (iG d r).var y.1)]⟩)
structure a6G (d:Dg) (x:Cs):Prop where
 e1:x.e.Nodup
 e2:∀ v∈x.e,v∈d.ends
 n1:(x.n.map kyB).Nodup
 n2:x.n.length<=x.k.length
 k1:(x.k.map (·.1)).Nodup
 k2:∀ a∈x.k.map (·.1),CO a d.nodes.length
theorem a6G.aaA {d:Dg} {x:Cs} (h:a6G d x):x.k.length<=d.nodes.length:=by
 have:=vO _ _ h.k1 h.k2;simpa using this
open Go Tw Pv gq
noncomputable def a6H:iO bM:=dL 154 (a2 vsA vsA) tA (fun p=>decide (p.1=p.2)) (fun p=>[p.1.length<=aO]) a6F
def VE (x y:Br):Bool:=if (x.var==y.var)=true then decide (x.kids=y.kids) else false
noncomputable def a6I:iO bM:=dL 200 (a2 brA brA) tA (fun p=>VE p.1 p.2) (fun p=>[p.1.kids.length<=aO]) a6H
abbrev cEB (a b:List Br) (k:Nat):Bool:=!(VE (a.getD k SK) (b.getD k SK))
def Qg (a b:List Br):Bool:=if ((a.length:Int) != (b.length:Int))=true then false else if G8 (pJ (cEB a b) a.length)=true then true else false
noncomputable def a6J:iO bM:=dL 155 (a3 Yh Yh (fnA 200)) tA (fun p=>Qg p.1 p.2.1) (fun p=>[p.1.length<=aO,∀ k,k<p.1.length->(p.1.getD k SK).kids.length<=aO]) a6I
def a0O (a b:Dg):Bool:=if decide (a.sizes=b.sizes)=true then (if decide (a.order=b.order)=true then (if decide (a.ends=b.ends)=true then (if Qg a.nodes b.nodes=true then a.root==b.root else false) else false) else false) else false
noncomputable def a6K:iO bM:=dL 143 (a2 dA dA) tA (fun p=>a0O p.1 p.2) (fun p=>[p.1.sizes.length<=aO,p.1.order.length<=aO,p.1.ends.length<=aO,p.1.nodes.length<=aO,∀ k,k<p.1.nodes.length->(p.1.nodes.getD k SK).kids.length<=aO]) a6J
open Go Tw Pv gq
def phi (s:List Int×List Int) (x:Int):Int:=if x<0 then IntKind.i64.wrap (-1-(s.2.idxOf (BU x):Nat)) else (s.1.idxOf x:Nat)
def Cov (s:List Int×List Int) (x:Int):Prop:=(x<0->BU x∈s.2)∧(0<=x->x∈s.1)
open Go Tw Pv gq
def Ext (s t:List Int×List Int):Prop:=∃ a b,t=(s.1++a,s.2++b)
theorem Ext.refl (s:List Int×List Int):Ext s s:=⟨[],[],by simp⟩
theorem Ext.trans {s t u:List Int×List Int} (h:Ext s t) (h2:Ext t u):Ext s u:=by
 obtain⟨a,b,rfl⟩:=h;obtain⟨c,e,rfl⟩:=h2;exact⟨a++c,b++e,by simp⟩
theorem Cov.ext {s t:List Int×List Int} {x:Int} (h:Cov s x) (he:Ext s t):Cov t x:=by
 obtain⟨a,b,rfl⟩:=he;exact⟨fun c=>List.mem_append_left _ (h.1 c),fun c=>List.mem_append_left _ (h.2 c)⟩
open Go Tw Pv gq
abbrev cl0:Cs:=⟨[],[],[]⟩
def Qh (d:Dg):Dg:=⟨d.sizes,d.order,(VD d 6002 d.root cl0).2.e,(VD d 6002 d.root cl0).2.n,(VD d 6002 d.root cl0).1⟩
open Go Tw Pv gq
structure ClP (l:Lo):Prop where
 s:l.s=l.d.sizes
 o:l.o=l.d.order
 t:SL l.d
 e:l.d.ends.length+1<=aO
 n:l.d.nodes.length<=6000
 k:∀ i,i<l.d.nodes.length->1<=(D6 l.d i).kids.length
 sl:l.d.sizes.length<=aO
 ol:l.d.order.length<=aO
noncomputable def a6L:iO bM:=dL 144 (a1 loA) dA (fun l=>Qh l.d) (fun l=>[ClP l]) a6K
open Go Tw Pv gq
def oJ (d:Dg):Lo×Int:=if (qC d).2==0 then (if (!(a0O (Qh (qC d).1.d) d))=true then ((qC d).1,4) else qC d) else qC d
noncomputable def a6M:iO bM:=dL 107 (a1 dA) (Vb (a2 loA iA)) (fun p=>oJ p) (fun p=>[DgR p,p.sizes.length<=aO,p.order.length<=2^20,p.ends.length+1<=aO]) a6L
end Go.Proofs.YtjkgcifieggcpaaGreat
namespace gq
def I7:List Int->List Int->List Int->Option (List Int)
 | f::fs,t::ts,x::p=>match I7 fs ts p with
  | some q=>some (x::q)
  | none=>if x=t then none else some ((x+1)::fs)
 | _,_,_=>none
def LeB:List Int->List Int->Prop
 | t::ts,x::p=>x<=t∧LeB ts p
 | [],[]=>True
 | _,_=>False
theorem LeB.len:∀ {t p:List Int},LeB t p->p.length=t.length
 | [],[],_=>rfl
 | t::ts,x::p,h=>by simp[LeB.len h.2]
 | [],_::_,h=>h.elim
 | _::_,[],h=>h.elim
theorem LeB.next:∀ {f t p q:List Int},LeB t p->LeB t f->I7 f t p=some q->LeB t q
 | f::fs,t::ts,x::p,q,h,hf,e=>by
  simp only[I7] at e;split at e
  ·rename_i r h1;cases e;exact⟨h.1,h.2.next hf.2 h1⟩
  split at e
  ·cases e
  cases e;exact⟨by have:=h.1;omega,hf.2⟩
 | [],_,_,_,_,_,e=>by simp[I7] at e
 | _::_,[],_,_,_,_,e=>by simp[I7] at e
 | _::_,_::_,[],_,_,_,e=>by simp[I7] at e
def car (f t:List Int):Nat->List Int->Nat×List Int
 | 0,p=>(0,p)
 | k+1,p=>if p.getD k 0=t.getD k 0 then car f t k (p.set k (f.getD k 0)) else (k+1,p)
end gq
namespace Go.Proofs.YtjkgcifieggcpaaGreat
open Go Tw Pv gq
noncomputable def a6N:iO bM:=dL 241 (a1 iA) (Vb aa2) (fun p=>()) np a6M
noncomputable def a6O:iO bM:=dL 240 (a3 loA qA (fnA 241)) iA (fun p=>BU (atR p.1.d p.2.1)) (fun p=>[SL p.1.d,p.1.d.nodes.length<=6000,Ah p.1.d.sizes p.2.1=true]) a6N
abbrev zsI (s:List Int):List Int:=s.map fun _=>(0:Int)
abbrev esI (s:List Int):List Int:=s.map (·-1)
abbrev cr (s p:List Int):Nat×List Int:=car (zsI s) (esI s) p.length p
def cellsD (d:Dg):List V:=(List.range (cnt d.sizes)).map fun (k:Nat)=>a6v d (a2x d.sizes k)
structure LsP (l:Lo):Prop where
 s:l.s=l.d.sizes
 o:l.o=l.d.order
 t:SL l.d
 n:l.d.nodes.length<=6000
noncomputable def a6P:iO bM:=dL 206 (a1 loA) vsA (fun l=>cellsD l.d) (fun l=>[LsP l]) a6O
def Yo (p:Dg):List V×Int:=if ((oJ p).2 != 0)=true then ([],(oJ p).2) else (cellsD (oJ p).1.d,0)
noncomputable def a6Q:iO bM:=dL 146 (a1 dA) (Vb (a2 vsA iA)) (fun p=>Yo p) (fun p=>[DgR p,p.sizes.length<=aO,p.order.length<=2^20,p.ends.length+1<=aO]) a6P
open Go Tw Pv gq
def aaH (N:List Br) (c:Int) (ks:List Int):Int:=if (ks.all fun x=>x==ks.getD 0 0)=true then ks.getD 0 0 else (N.idxOf (⟨c,ks⟩:Br):Nat)
def aaI (N:List Br) (c:Int) (ks:List Int):List Br:=if (ks.all fun x=>x==ks.getD 0 0)=true then N else if (⟨c,ks⟩:Br)∈N then N else N++[⟨c,ks⟩]
abbrev EN:Type:=List V×List Br
def gPt (f:List Int->EN->Int×EN) (c:Int) (p:List Int) (j:Nat) (y:List Int×EN):List Int×EN:=(y.1++[(f (p.set c.toNat j) y.2).1],(f (p.set c.toNat j) y.2).2)
def Yp (s:List Int) (l:List V):List Int->List Int->EN->Int×EN
 | [],p,x=>(IntKind.i64.wrap (-1-(x.1.idxOf (l.getD (Ye s p).toNat V0):Nat)),(Vz x.1 (l.getD (Ye s p).toNat V0),x.2))
 | c::r,p,x=>
  let y:=uq (gPt (Yp s l r) c p) (s.getD c.toNat 0).toNat 0 ([],x)
  (aaH y.2.2 c y.1,(y.2.1,aaI y.2.2 c y.1))
def wO (s:List Int):List Int->Nat
 | []=>1
 | c::r=>(s.getD c.toNat 0).toNat*wO s r
structure PtP (s o:List Int) (l:List V):Prop where
 vW:nJ s
 ord:∀ c∈o,CO c s.length
 len:(l.length:Int)=dD s
 afl:o.length<=aO
 slen:s.length<=aO
end Go.Proofs.YtjkgcifieggcpaaGreat
namespace Pv
open Go Tw
section
variable {X:iR} {P:Program}
theorem qH.pre (hX:aU X P) {call:ay} {f:FuncId} {cs Jq xs:List (PV X.Γ)} {H H0 H1:List (PB X.Γ)} {v:PV X.Γ} (gs:List G) (hs:qH X P call (.fn f [] []) (.agg Jq::xs) H0 v H1) (hg:jX H.length gs (⟨[],[cs],H⟩:aW X.Γ)=some ⟨[],[Jq],H0⟩):qH X P call (.fn f [] []) (.agg cs::xs) H v H1:=by
 intro A m h tf nI hr hf hx;obtain⟨x0,r,rfl,v0,vr⟩:=hx.inv;cases v0 with
 | gone hi _ _=>simp[aG] at hi
 | agg a1 a2=>
  rename_i cs';obtain⟨m2,q1,q2,q3⟩:=je hX hg A (fun b=>b∈aK m) h.length m ⟨[],[cs'],h,[]⟩ ⟨⟨hr,rfl,fun k c hk=>by
   cases k with
   | zero=>simp only[List.getElem?_cons_zero,Option.some.injEq] at hk;subst hk;exact⟨cs',rfl,a1,a2⟩
   | succ k=>simp at hk,.nil⟩,fun b hb=>.inl hb,fun b hb=>(by cases hb),Nat.le_refl _⟩
  have up:Up m m2:=fun i mb hi=>q3 i mb (by rw[<-hr.len];exact (List.getElem?_eq_some_iff.1 hi).1) hi;obtain⟨c2,e1,w1⟩:=q1.st.loc 0 Jq rfl;simp only[List.getElem?_cons_zero,Option.some.injEq] at e1;subst e1;obtain⟨w,h',ws,m1,k1,k2,k3,k4,k5,k6⟩:=hs A m2 h tf (.agg cs'::r) q1.st.heap (hf.step q2 up) (.cons (.agg w1.1 w1.2) (vr.step q2 up));refine⟨w,h',ws,m1,k1,k2,k3,q2.trans k4,fun i mb hi=>?_,fun b hb=>?_⟩
  ·rcases up i mb hi with g | g
   ·exact k5 i mb g
   rcases k5 i _ g with g | g<;>exact .inr g
  have hb:=k6 b hb;rcases q1.own b hb with g | g
  ·exact g
  have:=q1.st.heap.inb hb;have:b<h.length:=this;omega
end
section
variable {X:iR} {P:Program}
theorem I8 {A:Nat->Prop} {m:List MB} {h:List HB}:∀ {a b:List (PV X.Γ)} {z:List TV},aH X P A m h (a++b) z->∃ x y,z=x++y∧aH X P A m h a x∧aH X P A m h b y
 | [],b,z,hz=>⟨[],z,rfl,.nil,hz⟩
 | v::a,b,z,hz=>by
  obtain⟨x0,r,rfl,v0,vr⟩:=aH.inv (v:=v) (vs:=a++b) hz;obtain⟨x,y,rfl,h1,h2⟩:=I8 vr;exact⟨x0::x,y,rfl,.cons v0 h1,h2⟩
theorem qH.fz (hX:aU X P) {call:ay} {f:FuncId} {cs ws rest xs:List (PV X.Γ)} {H H1:List (PB X.Γ)} {v:PV X.Γ} (is:List Nat) (hs:qH X P call (.fn f [] []) (.agg (ws++rest)::xs) (aI is H) v H1) (hv:views H cs=some ws) (ho:∀ i,i∈oW.mZ cs->i∈is):qH X P call (.fn f [] []) (.agg (cs++rest)::xs) H v H1:=by
 intro A m h tf nI hr hf hx;obtain⟨x0,r,rfl,v0,vr⟩:=hx.inv;cases v0 with
 | gone hi _ _=>simp[aG] at hi
 | agg a1 a2=>
  rename_i cs';have ha:aH X P (AA A m) m h (cs++rest) cs':=⟨a1,a2⟩;obtain⟨c1,c2,rfl,b1,b2⟩:=I8 ha;have hF:=eU (h:=h) is m;have w1:=(ku (m':=aP is m) hX hr b1 hv ho).mono fun b hb=>FA.gone hr hb;have w2:=b2.step hF.1 hF.2;have w3:=w1.app w2;obtain⟨w,h',FK,m1,k1,k2,k3,k4,k5,k6⟩:=hs A (aP is m) h tf (.agg (c1++c2)::r) (hr.aI is) (hf.step hF.1 hF.2) (.cons (.agg w3.1 w3.2) (vr.step hF.1 hF.2));refine⟨w,h',FK,m1,k1,k2,k3,hF.1.trans k4,hF.2.trans k5,fun b hb=>?_⟩;rcases hF.1.new b (k6 b hb) with g | g
  ·exact g
  have:=(hr.aI is).inb (k6 b hb);omega
end
section
variable {X:iR} {P:Program} {A:Nat->Prop} {m:List MB} {H:List (PB X.Γ)} {h:List HB}
theorem HR.fz (hX:aU X P) (hr:HR X P A m H h) {i k t:Nat} {ko ex:Bool} {l:List (X.Γ t)} (hi:H[i]? = some (.fG [.own k])) (hk:H[k]? = some (.list ko ex t l)):HR X P A (aP [k] m) ((H.set i (.fG [.bK t l false])).set k .gone) h:=by
 have hg:=hr.aI [k];have dZ:i≠k:=fun e=>by subst e;rw[hi] at hk;cases hk
 refine⟨by rw[fV,hr.len];simp,fun j b hj=>?_,hg.nodup,hg.up,hg.yK⟩;by_cases e:j=i
 ·subst e;obtain⟨mb,h1,h2⟩:=hr.at_ j _ hi;have aN:j<H.length:=(List.getElem?_eq_some_iff.1 hi).1;rw[List.getElem?_set_ne (Ne.symm dZ),List.getElem?_set_self aN] at hj;cases hj;refine⟨mb,?_,?_⟩
  ·rw[tZ [k] h1];simp[dZ]
  cases mb with
  | cZ b0=>
   obtain⟨g1,cs',g2,g3⟩:=h2;refine⟨fun hm=>?_,cs',g2,?_⟩
   ·obtain⟨i2,mb2,_,g5,g6⟩:=nG hm;exact g1 (aC g5 g6)
   have hv:views H [(.own k:PV X.Γ)]=some [.bK t l false]:=(by simp[view.views,view,hk]);exact (ku (m':=aP [k] m) hX hr g3 hv (is:=[k]) (fun i hi=>by simpa[oW.mZ,oW] using hi)).mono fun b hb=>FA.gone hr hb
  | _=>exact h2.elim
 have:(Pv.aI [k] H)[j]? = some b:=by
  show (H.set k .gone)[j]? = some b;by_cases e2:j=k
  ·subst e2;have aN:j<H.length:=(List.getElem?_eq_some_iff.1 hk).1;rw[List.getElem?_set_self (by simpa using aN)] at hj;rw[List.getElem?_set_self aN];exact hj
  rw[List.getElem?_set_ne (Ne.symm e2),List.getElem?_set_ne (Ne.symm e)] at hj;rw[List.getElem?_set_ne (Ne.symm e2)];exact hj
 exact hg.at_ j b this
end
end Pv

namespace Go.Proofs.YtjkgcifieggcpaaGreat
open Go Tw Pv gq
def aaJ (s o:List Int) (l:List V):Dg:=⟨s,o,(Yp s l o (List.replicate s.length 0) ([],[])).2.1,(Yp s l o (List.replicate s.length 0) ([],[])).2.2,(Yp s l o (List.replicate s.length 0) ([],[])).1⟩
noncomputable def aaK:iO bM:=dL 42 (a3 qA qA vsA) dA (fun p=>aaJ p.1 p.2.1 p.2.2) (fun p=>[PtP p.1 p.2.1 p.2.2,p.2.1.length<=6,wO p.1 p.2.1<=aO]) a6Q
open Go Tw Pv gq
inductive To (d:Dg) (q:List Int):Int->V->Prop
 | fin {r:Int} (h:r<0):To d q r (d.ends.getD (BU r).toNat V0)
 | step {r:Int} {c:V} (h:0<=r) (t:To d q ((iG d r).kids.getD (q.getD (iG d r).var.toNat 0).toNat 0) c):To d q r c
theorem To.at_ {d:Dg} (h:SL d) {q:List Int} (hq:Ah d.sizes q=true) {r:Int} {c:V} (t:To d q r c):∀ F:Nat,r<F->EW d r d.nodes.length->c=d.ends.getD (BU (atF d q F r)).toNat V0:=by
 induction t with
 | fin hr=>
  intro F _ _;cases F with
  | zero=>rfl
  | succ F=>rw[atF,if_pos hr]
 | step hr _ ih=>
  intro F hF hk;cases F with
  | zero=>omega
  | succ F=>
   rw[atF,if_neg (by omega)];have:=(Vu h hq ⟨hr,hk.1⟩).2.2;exact ih F (by have:=this.1;omega) ⟨by have:=this.1;have:=hk.1;omega,this.2⟩
theorem To.of {d:Dg} (h:SL d) {q:List Int} (hq:Ah d.sizes q=true):∀ (F:Nat) (r:Int),r<F->EW d r d.nodes.length->To d q r (d.ends.getD (BU (atF d q F r)).toNat V0)
 | 0,r,hr,_=>.fin (by omega)
 | F+1,r,hr,hk=>by
  rw[atF];split
  ·rename_i c;exact .fin c
  rename_i c;have:=(Vu h hq ⟨by omega,hk.1⟩).2.2;exact .step (by omega) (To.of h hq F _ (by have:=this.1;omega) ⟨by have:=this.1;have:=hk.1;omega,this.2⟩)
def Pre (x y:EN):Prop:=x.1 <+: y.1∧x.2 <+: y.2
theorem Pre.rfl {x:EN}:Pre x x:=⟨List.prefix_rfl,List.prefix_rfl⟩
theorem Pre.trans {x y z:EN} (a:Pre x y) (b:Pre y z):Pre x z:=⟨a.1.trans b.1,a.2.trans b.2⟩
theorem VF {α:Type} {a b:List α} {d:α} (h:a <+: b) {k:Nat} (hk:k<a.length):b.getD k d=a.getD k d:=by
 obtain⟨t,rfl⟩:=h;simp[List.getD,List.getElem?_append_left hk]
def Agr (s r q p:List Int):Prop:=∀ k:Nat,k<s.length->(k:Int)∉r->q.getD k 0=p.getD k 0
theorem Agr.set {s r q p:List Int} {c:Int} (hc:CO c s.length) (hp:p.length=s.length) (h:Agr s (c::r) q p):Agr s r q (p.set c.toNat (q.getD c.toNat 0)):=fun k hk hr=>by
 by_cases e:k=c.toNat
 ·subst e;have e2:(p.set c.toNat (q.getD c.toNat 0)).getD c.toNat 0=q.getD c.toNat 0:=by
   simp[List.getD,List.getElem?_set_self (show c.toNat<p.length by omega)]
  exact e2.symm
 ·rw[show (p.set c.toNat (q.getD c.toNat 0)).getD k 0=p.getD k 0 by rw[List.getD,List.getElem?_set_ne (Ne.symm e)];rfl];exact h k hk (by simp only[List.mem_cons,not_or];exact⟨fun e2=>e (by omega),hr⟩)
theorem Agr.back {s r q p:List Int} {c j:Int} (hc:CO c s.length) (h:Agr s r q (p.set c.toNat j)):Agr s (c::r) q p:=fun k hk hr=>by
 simp only[List.mem_cons,not_or] at hr;have hc:=hc.1;have e:k≠c.toNat:=fun e=>hr.1 (by omega);have:=h k hk hr.2;rw[this,List.getD,List.getElem?_set_ne (Ne.symm e)];rfl
open Go Tw Pv gq
def rkN (o:List Int) (N:List Br) (r:Int):Nat:=if r<0 then o.length else o.idxOf (N.getD r.toNat SK).var
def a2K (o:List Int) (x:EN) (v:Int) (b a:Nat):Prop:=(v<0->CO (BU v) x.1.length)∧v<(b:Int)∧a<=rkN o x.2 v
theorem a2K.mono {o:List Int} {x y:EN} {v:Int} {b b' a a':Nat} (h:a2K o x v b a) (hp:Pre x y) (hb:b<=b') (hx:b<=x.2.length) (ha:a'<=a):a2K o y v b' a':=by
 obtain⟨h1,h2,h3⟩:=h;refine⟨fun hv=>⟨(h1 hv).1,by have:=(h1 hv).2;have:=hp.1.length_le;omega⟩,by omega,?_⟩;unfold rkN at h3 ⊢;split
 ·rename_i c;rw[if_pos c] at h3;omega
 rename_i c;rw[if_neg c] at h3;rw[VF hp.2 (by omega)];omega
open Go Tw Pv gq
structure OfP (s o:List Int) (l:List V):Prop where
 vW:nJ s
 ord:ES s.length o=true
 len:(l.length:Int)=dD s
theorem OfP.p {s o:List Int} {l:List V} (h:OfP s o l):PtP s o l∧o.Nodup∧o.length=s.length:=by
 have ho:=h.ord;unfold ES at ho;rw[decide_eq_true_eq] at ho;have:=h.vW.len;exact⟨⟨h.vW,fun c hc=>⟨(ho.2.1 c hc).1,(ho.2.1 c hc).2⟩,h.len,by unfold aO;omega,by unfold aO;omega⟩,ho.2.2,ho.1⟩
open Go Tw Pv gq
def Kn (d:Dg) (x:Cs) (v:Int):Prop:=if v<0 then a2I d v∈x.e else v∈x.k.map (·.1)
def O9 (x y:Cs):Prop:=x.e <+: y.e∧x.n <+: y.n∧x.k <+: y.k
theorem O9.rfl {x:Cs}:O9 x x:=⟨List.prefix_rfl,List.prefix_rfl,List.prefix_rfl⟩
theorem O9.trans {x y z:Cs} (a:O9 x y) (b:O9 y z):O9 x z:=⟨a.1.trans b.1,a.2.1.trans b.2.1,a.2.2.trans b.2.2⟩
theorem Kn.mono {d:Dg} {x y:Cs} {v:Int} (h:Kn d x v) (hp:O9 x y):Kn d y v:=by
 unfold Kn at h ⊢;split
 ·rename_i c;rw[if_pos c] at h;exact hp.1.subset h
 rename_i c;rw[if_neg c] at h;obtain⟨t,ht⟩:=hp.2.2;rw[<-ht,List.map_append,List.mem_append];exact .inl h
open Go Tw Pv gq
noncomputable def aaL:iO bM:=dL 69 (a1 dA) iA (fun p=>(oJ p).2) (fun p=>[DgR p,p.sizes.length<=aO,p.order.length<=2^20,p.ends.length+1<=aO]) aaK
open Go Tw Pv gq
theorem VG {α:Type} {l:List α} {k:Nat} {d:α} (h:k<l.length):l.getD k d∈l:=by simp[List.getD,List.getElem?_eq_getElem h]
def a0Q (f:List Int×List Int) (d:Dg):Bool:=if decide (d.sizes=f.1)=true then decide (d.order=f.2) else false
structure DgP (d:Dg):Prop where
 r:DgR d
 s:d.sizes.length<=aO
 o:d.order.length<=2^20
 e:d.ends.length+1<=aO
abbrev cCk (l:List Dg) (k:Nat):Bool:=(oJ (l.getD k Dg0)).2 != 0
open Go Tw Pv gq
def lW (l:List Fc):List Dg:=l.map (·.d)
noncomputable def aaN:iO bM:=dL 68 (a1 a6a) aag (fun l=>lW l) (fun l=>[l.length<=aO]) aaL
noncomputable def aaO:iO bM:=dL 70 (a2 (Yb frA) dA) tA (fun p=>(if decide (p.2.sizes=p.1.1)=true then decide (p.2.order=p.1.2) else false)) (fun p=>[p.2.sizes.length<=aO,p.2.order.length<=aO]) aaN
abbrev wBc (s o:List Int) (f:List Fc) (i:Int) (x:List (Nat×PE bM)):aW bM:=⟨[(0,xL 3 s),(1,xL 3 o),(2,xL 66 f),(22,xL 27 (lW f)),(23,xi (lW f).length),(24,xi i)]++x,[],[]⟩
def zBc (s o:List Int) (f:List Fc):Unit⊕Nat->Ex×aW bM
 | .inl _=>(.exit 0,wBc s o f (lW f).length [(25,xl false)])
 | .inr k=>(.ret,⟨[(6,xi (oJ ((lW f).getD k Dg0)).2)],[((lW f).getD k Dg0).ps],[]⟩)
def a6R (s o:List Int) (f:List Fc):Int:=if (jy s o != 0)=true then jy s o else if decide ((f.length:Int)>8)=true then 5 else if G8 (pJ (cCk (lW f)) (lW f).length)=true then (if (!((lW f).all (a0Q (s,o))))=true then 2 else 0) else (oJ ((lW f).getD (a2u 0 (pJ (cCk (lW f)) (lW f).length)) Dg0)).2
abbrev Bz (s o:List Int) (f:List Fc) (k:Nat) (c:Bool):PT bM:=(.s .n (.s .n (.z c (.a (.lg [] (zBc s o f (.inl ())).1 (zBc s o f (.inl ())).2) (.a (.fr [] (lDg (lW f)) []) (.a (.fr [] (.bool ((lW f).all (a0Q (s,o)))) []) (.s .n .n)))) (.a (.lg [] (zBc s o f (.inr k)).1 (zBc s o f (.inr k)).2) .n))))
noncomputable def aaP:iO bM:=dL 21 (a3 qA qA a6a) iA (fun p=>a6R p.1 p.2.1 p.2.2) (fun p=>[p.1.length<=aO,p.2.1.length<=2^20,p.2.2.length<=aO,∀ d∈lW p.2.2,DgP d]) aaO
open Go Tw Pv gq
theorem aaQ:Tryz.prog.underlying 141=some (.int .u64):=by kernel_rfl
theorem a6S:Tryz.prog.underlying 4=some .bool:=by kernel_rfl
theorem uPc : Tryz.prog.underlying 164 = some (.struct #[⟨"facts", 141, 0, false, "", "mist/blame", 0⟩, ⟨"goal", 4, 1, false, "", "mist/blame", 8⟩]) := by kernel_rfl
theorem RQ {P:Program} (d:Nat) (t:TypeId) (a b:Bool) (h:P.underlying t=some .bool):au P (Op.equalIn (d+1) t (.bool a) (.bool b))=some (decide (a=b)):=by
 have hu:au P (underlying t)=some .bool:=by
  simp only[underlying,aY,show au P program=some P from rfl,Option.bind_some,h];rfl
 simp only[Op.equalIn,aY,hu,Option.bind_some,if_true];cases a<;>cases b<;>rfl
theorem a6T (d:Nat) (a b:Pc):au Tryz.prog (Op.equalIn (d+2) 164 (.agg #[.int .u64 a.facts,.bool a.goal]) (.agg #[.int .u64 b.facts,.bool b.goal]))=some (decide (a=b)):=by
 rw[oD (d+1) 164 _ _ _ uPc (by kernel_rfl)];have p0:∀ x y:Value,au Tryz.prog (part 141 #[x,y] 0)=some x:=by intro x y;kernel_rfl
 have p1:∀ x y:Value,au Tryz.prog (part 4 #[x,y] 1)=some y:=by intro x y;kernel_rfl
 have n1 : ("facts" : String) ≠ "_" := by decide
 have n2 : ("goal" : String) ≠ "_" := by decide
 have q1 := iY (f := ⟨"facts", 141, 0, false, "", "mist/blame", 0⟩) (fs := [⟨"goal", 4, 1, false, "", "mist/blame", 8⟩]) n1 (p0 (.int .u64 a.facts) (.bool a.goal)) (p0 (.int .u64 b.facts) (.bool b.goal)) (ng d _ _ _ _ _ aaQ);have q2 := iY (f := ⟨"goal", 4, 1, false, "", "mist/blame", 8⟩) (fs := []) n2 (p1 (.int .u64 a.facts) (.bool a.goal)) (p1 (.int .u64 b.facts) (.bool b.goal)) (RQ d _ _ _ a6S);rw[q1,q2];rw[show au Tryz.prog (Op.eqFields (d+1) #[.int .u64 a.facts,.bool a.goal] #[.int .u64 b.facts,.bool b.goal] [])=some true from rfl];rcases a with⟨a1,a2⟩;rcases b with⟨b1,b2⟩;by_cases h1:a1=b1<;>by_cases h2:a2=b2<;>simp[h1,h2]
noncomputable def kP:Gf X0 Tryz.prog 164 Pc where
 pv x:=.agg x.ps
 tv x:=.agg [.int .u64 x.facts,.bool x.goal]
 v x:=.agg #[.int .u64 x.facts,.bool x.goal]
 hp _:=rfl
 ht _:=rfl
 hc em x:=by kernel_rfl
 hf x l:=Yl uPc (fun a b=>a6T 9998 a b) x l
 hk:=Ym uPc fun a b=>a6T 9998 a b
abbrev V1:V:=⟨0,1⟩
noncomputable def a6U:iO bM:=dL 147 (a1 vA) tA (fun p=>decide (p=V1)) np aaP
noncomputable def a6V:iO bM:=dL 121 (a1 vA) tA (fun p=>decide (p=V1)) np a6U
def L8 (a b:Int):Int:=IntKind.u64.wrap (((BitVec.ofInt 64 a &&& ~~~BitVec.ofInt 64 b).toNat:Nat):Int)
def a6W (a b:Int):Bool:=IntKind.u64.wrap (((BitVec.ofInt 64 (a1H .u64 a b) &&& BitVec.ofInt 64 1).toNat:Nat):Int)==1
noncomputable def a6X:iO bM:=dL 133 (a2 pA pA) tA (fun p=>(L8 p.1 p.2==0)) np a6V
noncomputable def a6Y:iO bM:=dL 148 (a2 pA iA) tA (fun p=>a6W p.1 p.2) (fun p=>[0<=p.2]) a6X
noncomputable def a0R:iO bM:=dL 115 (a2 pA pA) pA (fun p=>L8 p.1 p.2) np a6Y
open Go Tw Pv gq
noncomputable abbrev D8 (m:List Pc):List (PV bM×PV bM):=kP.es (m.map fun e=>(e,.bool true))
open Go Tw Pv gq
structure aaS (s o:List Int) (f:List Fc) (g:Dg):Prop where
 ls:s.length<=aO
 lo:o.length<=2^20
 lf:f.length<=aO
 ld:∀ d∈lW f,DgP d
 lg:DgP g
section
variable {n:Nat} (hO:Ok n a0R) {s o:List Int} {f:List Fc} {g:Dg} (hp:aaS s o f g)
include hO hp
end
end Go.Proofs.YtjkgcifieggcpaaGreat
namespace Pv
open Go Tw
section
variable {P:Program} {T:iF} {call:ay} {cd:og} {L f:Nat} {fl nt:Nat}
def gX:Code->Bool
 | .rangeFunc ..=>false
 | .region _ ops _=>(qW ops).isNone
 | .seq a b=>gX a&&gX b
 | .cond _ a b=>gX a&&gX b
 | .block _ b=>gX b
 | .scope b=>gX b
 | .loop b=>gX b
 | _=>true
theorem VH:∀ (c:Code) {s s':St} {e:Ex} {Q:Ex->St->Prop},gX c=true->exec P T call L f false fl nt c s=some (e,s')->Q e s'->bJ P T call cd L f fl nt c s Q:=by
 intro c
 induction c with
 | region id ops draw=>
  intro s s' e Q hn h hq;simp only[gX,Option.isNone_iff_eq_none] at hn;simp only[bJ,hn];exact⟨_,_,h,hq⟩
 | seq x y JO ihy=>
  intro s s' e Q hn h hq;simp only[gX,Bool.and_eq_true] at hn;simp only[bJ];simp only[exec] at h;split at h
  ·rename_i s1 hx;exact JO hn.1 hx (ihy hn.2 h hq)
  rename_i dZ;refine JO hn.1 h ?_;cases e with
  | norm=>exact (dZ s' h).elim
  | exit i=>exact hq
  | ret=>exact hq
 | cond c x y JO ihy=>
  intro s s' e Q hn h hq;simp only[gX,Bool.and_eq_true] at hn;simp only[bJ];simp only[exec] at h;split at h
  ·rename_i hc;simp only[hc];exact JO hn.1 h hq
  ·rename_i hc;simp only[hc];exact ihy hn.2 h hq
  cases h
 | block id b ih=>
  intro s s' e Q hn h hq;simp only[gX] at hn;simp only[bJ];simp only[exec] at h;split at h
  ·rename_i i s1 hb;cases h;exact ih hn hb hq
  rename_i dZ;refine ih hn h ?_;cases e with
  | exit i=>exact (dZ i s' h).elim
  | norm=>exact hq
  | ret=>exact hq
 | scope b ih=>
  intro s s' e Q hn h hq;simp only[gX] at hn;simp only[bJ];simp only[exec] at h;exact ih hn h hq
 | loop b ih=>
  intro s s' e Q hn h hq;simp only[gX] at hn;simp only[bJ];simp only[exec] at h;have:∀ (k:Nat) {s:St},iter (fun s=>exec P T call L f false fl nt b (dO (T.dG f (bZ b)) s)) k s=some (e,s')->yF (fun s Q=>bJ P T call cd L f fl nt b (dO (T.dG f (bZ b)) s) Q) k s Q:=by
   intro k
   induction k with
   | zero=>intro s h;simp[iter] at h
   | succ k ihk=>
    intro s h;simp only[iter] at h;split at h
    ·rename_i s1 h1;exact ih hn h1 (ihk h)
    rename_i dZ;refine ih hn h ?_;cases e with
    | norm=>exact (dZ s' h).elim
    | exit i=>exact hq
    | ret=>exact hq
  exact this L h
 | rangeFunc=>intro s s' e Q hn;cases hn
 | _=>
  intro s s' e Q hn h hq;simp only[bJ];exact⟨_,_,h,hq⟩
end
section
variable {X:iR} {P:Program} {T:iF} {call:ay} {cd:og} {L f nt B:Nat}
def bf (X:iR) (P:Program) (T:iF) (call:ay) (cd:og) (L f nt B:Nat) (c:Code) (ps:aW X.Γ) (Q:Ex->aW X.Γ->Prop):Prop:=
 ∀ (A W:Nat->Prop) (fl:Nat) (m:List MB) (ts:St) (R:Ex->St->Prop),SR X P A W fl m ps ts->(∀ e dX fK m1,Q e fK->SR X P A W fl m1 fK dX->Fr m ts.heap m1 dX.heap->FP B m m1->R e dX)->bJ P T call cd L f fl nt c ts R
theorem bf.mono {c:Code} {ps:aW X.Γ} {Q Q':Ex->aW X.Γ->Prop} (hq:∀ e s,Q e s->Q' e s) (h:bf X P T call cd L f nt B c ps Q):bf X P T call cd L f nt B c ps Q':=fun A W fl m ts R hS hR=>
 h A W fl m ts R hS fun e dX fK m1 a1=>hR e dX fK m1 (hq _ _ a1)
theorem iq.Lm {c:Code} {ps fK:aW X.Γ} {e:Ex} {Q:Ex->aW X.Γ->Prop} (hn:gX c=true) (h:iq X P T call L f false nt B c ps e fK) (hq:Q e fK):bf X P T call cd L f nt B c ps Q:=fun A W fl m ts R hS hR=>by
 obtain⟨dX,m1,h1,h2,h3,h4⟩:=h A W fl m ts hS;exact VH c hn h1 (hR _ _ fK m1 hq h2 h3 h4)
theorem bf.seq {a b:Code} {ps:aW X.Γ} {Q R:Ex->aW X.Γ->Prop} (ha:bf X P T call cd L f nt B a ps R) (hb:∀ s,R .norm s->bf X P T call cd L f nt B b s Q) (he:∀ i s,R (.exit i) s->Q (.exit i) s) (hr:∀ s,R .ret s->Q .ret s):bf X P T call cd L f nt B (.seq a b) ps Q:=fun A W fl m ts R' hS hR=>by
 simp only[bJ];refine ha A W fl m ts _ hS fun e dX fK m1 a1 a2 a3 a4=>?_;cases e with
 | norm=>exact hb fK a1 A W fl m1 dX R' a2 fun e Rz rY m2 b1 b2 b3 b4=>hR e Rz rY m2 b1 b2 (a3.trans b3) (a4.trans b4)
 | exit i=>exact hR _ _ fK m1 (he _ _ a1) a2 a3 a4
 | ret=>exact hR _ _ fK m1 (hr _ a1) a2 a3 a4
theorem bf.block {id:Nat} {b:Code} {ps:aW X.Γ} {Q:Ex->aW X.Γ->Prop} (h:bf X P T call cd L f nt B b ps fun e s=>Q (match e with | .exit i=>if i=id then .norm else .exit i | e=>e) s):bf X P T call cd L f nt B (.block id b) ps Q:=fun A W fl m ts R hS hR=>by
 simp only[bJ];exact h A W fl m ts _ hS fun e dX fK m1 a1 a2 a3 a4=>hR _ dX fK m1 a1 a2 a3 a4
theorem bf.scope {b:Code} {ps:aW X.Γ} {Q:Ex->aW X.Γ->Prop} (h:bf X P T call cd L f nt B b ps Q):bf X P T call cd L f nt B (.scope b) ps Q:=fun A W fl m ts R hS=>by
 simp only[bJ];exact h A W fl m ts R hS
theorem bf.loop {b:Code} {Q:Ex->aW X.Γ->Prop} (I:Nat->aW X.Γ->Prop)
  (h:∀ k s,I k s->bf X P T call cd L f nt B b (kY X (T.dG f (bZ b)) s) fun e s=>match e with | .norm=>∃ j,j<k∧I j s | e=>Q e s) {k:Nat} {ps:aW X.Γ} (hi:I k ps) (hk:k<L):bf X P T call cd L f nt B (.loop b) ps Q:=fun A W fl m ts R hS hR=>by
 simp only[bJ];have key:∀ (n k:Nat) (ps:aW X.Γ) (m1:List MB) (dX:St),k<n->I k ps->SR X P A W fl m1 ps dX->Fr m ts.heap m1 dX.heap->FP B m m1->yF (fun s Q=>bJ P T call cd L f fl nt b (dO (T.dG f (bZ b)) s) Q) n dX R:=by
  intro n
  induction n with
  | zero=>intro k ps m ts hk;omega
  | succ n ih=>
   intro k ps m1 dX hk hi hS hF hU;simp only[yF];refine h k ps hi A W fl m1 _ _ (hS.head _) fun e Rz rY m2 a1 a2 a3 a4=>?_;have a3:Fr m1 dX.heap m2 Rz.heap:=a3;cases e with
   | norm=>
    obtain⟨j,hj,BN⟩:=a1;exact ih j rY m2 Rz (by omega) BN a2 (hF.trans a3) (hU.trans a4)
   | exit i=>exact hR _ _ rY m2 a1 a2 (hF.trans a3) (hU.trans a4)
   | ret=>exact hR _ _ rY m2 a1 a2 (hF.trans a3) (hU.trans a4)
 exact key L k ps m ts hk hi hS .refl Up.refl.b
theorem bf.cond {c:Operand} {a b:Code} {ps:aW X.Γ} {t:Bool} {Q:Ex->aW X.Γ->Prop} (hc:wF ps.env c=some (.bool t)) (h:bf X P T call cd L f nt B (if t then a else b) ps Q):bf X P T call cd L f nt B (.cond c a b) ps Q:=fun A W fl m ts R hS=>by
 obtain⟨x,g1,g2⟩:=fM hS.st.env hc;have hx:x=.bool t:=by
  cases g2 with
  | bool=>rfl
  | gone hi _ _=>simp[aG] at hi
 subst hx;simp only[bJ,g1];cases t with
 | true=>exact h A W fl m ts R hS
 | false=>exact h A W fl m ts R hS
theorem bf.next {id it nx mo b r n:Nat} {seen:List Nat} {ops:Array Oper} {draw:Bool} {o1 o2:Oper} {ps:aW X.Γ} {es:List (PV X.Γ×PV X.Γ)} {Q:Ex->aW X.Γ->Prop} (hn:qW ops=some (it,nx,o1,o2)) (hd:nx<nt) (hd2:mo<nt)
  (h2:o2.op=.extract (.tmp nx) 0) (h3:o2.dst=some mo) (h4:o2.guard=none)
  (JM:wF ps.env (.tmp it)=some (.iter b)) (hb:ps.heap[b]? = some (.bn r n seen)) (hr:Es X ps.heap r=some es) (hl:es.length=n)
  (lX:(∀ j,j<n->j∈seen)->Q .norm { ps with env:=iL (T.fO f id) ((mo,.val (.bool false))::(nx,.val (.bH [.bool false]))::ps.env) })
  (pick:∀ j e,j∉seen->es[j]? = some e->Q .norm { ps with env:=iL (T.fO f id) ((mo,.val (.bool true))::(nx,.val (.bH [.bool true,e.1,e.2]))::ps.env),heap:=ps.heap.set b (.bn r n (j::seen)) }) :
  bf X P T call cd L f nt B (.region id ops draw) ps Q:=fun A W fl m ts R hS SG=>by
 obtain⟨x,g1,g2⟩:=fM hS.st.env JM;obtain⟨mb,q1,q2⟩:=hS.st.heap.at_ b _ hb;obtain⟨cr,fU,q3,z1,z2,z3⟩:=uh hS.st.heap hr;cases mb with
 | cO cb=>
   obtain⟨c,p1,p2,p3⟩:=q2;have:=p3 cr (by rcases q3 with q | ⟨q,_⟩;exact .inl q;exact .inr q);subst this;cases g2 with
   | gone hi e _=>simp only[aG,Option.some.injEq] at hi;subst hi;rw[q1] at e;cases e
   | iter e1=>
    rw[q1] at e1;cases e1;have aaT:aT it ts.env=some (.val (.iter cb)):=by
     unfold lJ at g1;split at g1
     ·rename_i v hv;cases g1;exact hv
     ·cases g1
    have run:∀ (s:St) (t:Bool) (vs:List TV),dN P call (fun d=>T.zL f d) fl nt ops [o2] (s.put (some nx) (.val (.bH (.bool t::vs))))=some ({ s with env:=(mo,.val (.bool t))::(nx,.val (.bH (.bool t::vs)))::s.env },[aA]):=by
     intro s t vs;have e1:vX nt o2=true:=(by simp[vX,h3,hd2]);have e2:∀ env,rM ops env o2=some true:=fun env=>(by simp[rM,h4]);simp only[dN,e1,e2,Bool.not_true,Bool.false_eq_true,if_false,jq,h2];simp[St.put,lJ,AL,aT,h3,dn,aA]
    simp only[bJ,hn];refine⟨hd,cb,cr,n,seen,fU,aaT,p1,z1,by rw[<-z2];exact hl,fun DR=>?_,fun j e hj he=>?_⟩
    ·refine⟨_,_,run ts false [],SG _ _ { ps with env:=_ } m (lX DR) ?_ .refl Up.refl.b⟩;have hS2:nS X P A m { ps with env:=(mo,.val (.bool false))::(nx,.val (.bH [.bool false]))::ps.env } { ts with env:=(mo,.val (.bool false))::(nx,.val (.bH [.bool false]))::ts.env }:=
      ⟨hS.st.heap,hS.st.llen,hS.st.loc,.cons (.bool false) (.cons (aH.cons (.bool false) .nil |> fun h=>.bH h.1 h.2) hS.st.env)⟩
     exact SR.pick ⟨hS2,hS.own,hS.ws,hS.fl⟩ _
    ·have aN:j<es.length:=by rw[z2];exact (List.getElem?_eq_some_iff.1 he).1
     have hej:=List.getElem?_eq_getElem aN;have hv:=z3 j _ _ hej he;have hcb:=(List.getElem?_eq_some_iff.1 p1).1;obtain⟨u1,u2⟩:=hS.st.heap.set (pb:=.bn r n (j::seen)) (hb:=.bn cr n (j::seen)) q1 (c:=cb) rfl (fun cs hc=>by simp[aB,p1] at hc) fun hF=>⟨cr,by simp[hcb],p2,p3⟩;refine⟨_,_,run _ true [e.1,e.2],SG _ _ { ps with env:=_,heap:=_ } m (pick j _ hj hej) ?_ u2 Up.refl.b⟩;have hS1:=hS.st.step u1 u2 .refl;have hS2:nS X P A m { ps with env:=(mo,.val (.bool true))::(nx,.val (.bH [.bool true,es[j].1,es[j].2]))::ps.env,heap:=ps.heap.set b (.bn r n (j::seen)) } { ts with env:=(mo,.val (.bool true))::(nx,.val (.bH [.bool true,e.1,e.2]))::ts.env,heap:=ts.heap.set cb (.bn cr n (j::seen)),ws:=dn fl [.h cb] ts.ws }:=
      ⟨hS1.heap,hS1.llen,hS1.loc,.cons (.bool true) (.cons (aH.cons (.bool true) (aH.cons (pI hv.1) (aH.cons (pI hv.2) .nil)) |> fun h=>.bH h.1 h.2) hS1.env)⟩
     refine SR.pick ⟨hS2,hS.own,fun b2 vZ=>?_,by simpa using hS.fl⟩ _;rcases iW.1 vZ with h5 | ⟨h5,h6⟩
     ·exact hS.ws b2 h5
     ·simp at h5;subst h5;exact (hS.own _ (aC q1 rfl)).resolve_right (by omega)
 | _=>exact q2.elim
def aaU (X:iR) (P:Program) (cd:og) (fv:PV X.Γ) (xs:List (PV X.Γ)) (H:List (PB X.Γ)) (K:PV X.Γ->List (PB X.Γ)->Prop):Prop:=
 ∀ (A:Nat->Prop) (m:List MB) (h:List HB) (tf:TV) (nI:List TV) (R:TV->List HB->List Nat->Prop),HR X P A m H h->VR X P (AA A m) m h fv tf->aH X P (AA A m) m h xs nI ->
  (∀ w h1 ws m1 v H1,K v H1->HR X P A m1 H1 h1->VR X P (AA A m1) m1 h1 v w->Fr m h m1 h1->Up m m1->(∀ b∈ws,b∈aK m)->R w h1 ws)->cd tf nI h R
theorem bf.range (hX:aU X P) {g:Operand} {qs:Array Nat} {mG body:Code} {ps:aW X.Γ} {f1:FuncId} {a1 b1:List (PV X.Γ)} {K:PV X.Γ->List (PB X.Γ)->Prop} {Q:Ex->aW X.Γ->Prop}
  (hg:wF ps.env g=some (.fn f1 a1 b1)) (hd:T.din.contains f1=true) (DR:(ps.env.all fun p=>NZ p.2)=true)
  (aaV:aaU X P cd (.fn f1 a1 b1) [.jk (ps.heap.length+1)] (ps.heap++[.mark]++[.loop true f nt ps.env qs.toList mG body none]) K)
  (hk:∀ v H1,K v H1->∃ rd f2 Dn e2 rY a2 b2 gK e,H1[ps.heap.length+1]? = some (.loop rd f2 Dn e2 rY a2 b2 gK)∧Dl rd gK=some e∧Q e { ps with heap:=H1.set (ps.heap.length+1) (.loop false f2 Dn e2 rY a2 b2 (some .skip)) }) :
  bf X P T call cd L f nt B (.rangeFunc g qs mG body) ps Q:=by
 intro A W fl m ts R hS hR;obtain⟨tg,g1,g2⟩:=fM hS.st.env hg;have hm:=hS.st.heap.len;obtain⟨p1,p2,p3⟩:=hS.st.heap.push (pb:=.mark) (hb:=.mark) (mb:=.cO ts.heap.length) (.inl rfl) (by simp[BR]);obtain⟨q1,q2,q3⟩:=p1.push (pb:=.loop true f nt ps.env qs.toList mG body none) (hb:=.loop true f nt ts.env qs.toList mG body none) (mb:=.cO (ts.heap.length+1)) (.inl (by simp[MB.own])) (by
  refine⟨ts.env,by simp,?_⟩;refine gG.step (m:=m) (h:=ts.heap) (A:=A) ?_ ?_ hS.st.env
  ·have r2:Fr (m++[MB.cO ts.heap.length]) (ts.heap++[HB.mark]) (m++[MB.cO ts.heap.length]++[MB.cO (ts.heap.length+1)]) (ts.heap++[HB.mark]++[HB.loop true f nt ts.env qs.toList mG body none]):=by
    refine⟨by simp,fun b hb _=>by rw[List.getElem?_append_left hb],fun b hb=>?_,fun b cs hc=>⟨cs,?_,Nat.le_refl _⟩⟩
    ·rw[dK,List.mem_append,fH] at hb;rcases hb with hb | hb
     ·exact .inl hb
     ·simp[MB.own] at hb;subst hb;exact .inr (by simp)
    ·rw[cu (List.getElem?_append_left (bU hc)),hc]
   exact p2.trans r2
  ·exact p3.trans (nC _))
 have hF:=p2.trans q2;have hU:=p3.trans q3;have hyl:VR X P (AA A (m++[MB.cO ts.heap.length]++[MB.cO (ts.heap.length+1)])) (m++[MB.cO ts.heap.length]++[MB.cO (ts.heap.length+1)]) (ts.heap++[HB.mark]++[HB.loop true f nt ts.env qs.toList mG body none]) (.jk (ps.heap.length+1)) (.jk (ts.heap.length+1)):=by
  refine .jk ?_;rw[<-hm,List.getElem?_append_right (by simp)];simp
 have hg':∃ a1' b1',tg=.fn f1 a1' b1':=by
  cases g2 with
  | gone hi _ _=>simp[aG] at hi
  | fn _ _ _ _=>exact⟨_,_,rfl⟩
 obtain⟨a1',b1',rfl⟩:=hg';have aaY:Ub T ts.env g=true:=by unfold Ub;rw[g1];exact hd
 simp only[bJ,aaY,if_true];refine⟨f1,a1',b1',g1,Vd hS.st.env DR,?_⟩;rw[show ts.heap++[HB.mark,HB.loop true f nt ts.env qs.toList mG body none]=ts.heap++[HB.mark]++[HB.loop true f nt ts.env qs.toList mG body none] by simp];refine aaV A _ _ _ [.jk (ts.heap.length+1)] _ q1 (g2.step hF hU) (.cons hyl .nil) fun w h1 ws m1 v H1 NR c2 c3 c4 c5 c6=>?_;obtain⟨rd,f2,Dn,e2,rY,a2,b2,gK,e,hl,hj,hq⟩:=hk v H1 NR;have Io:m1[ps.heap.length+1]? = some (.cO (ts.heap.length+1)):=by
  rcases c5 (ps.heap.length+1) (.cO (ts.heap.length+1)) (by rw[<-hm,List.getElem?_append_right (by simp)];simp) with e | e
  ·exact e
  ·obtain⟨mb,k1,k2⟩:=c2.at_ _ _ hl;rw[e] at k1;cases k1;exact k2.elim
 obtain⟨mb,k1,k2⟩:=c2.at_ _ _ hl;rw[Io] at k1;cases k1;obtain⟨OI,k3,k4⟩:=k2;obtain⟨s1,s2⟩:=c2.set (i:=ps.heap.length+1) (c:=ts.heap.length+1) (pb:=.loop false f2 Dn e2 rY a2 b2 (some .skip)) (hb:=.loop false f2 Dn OI rY a2 b2 (some .skip)) Io rfl (fun cs hc=>by unfold aB at hc;rw[k3] at hc;cases hc) (fun hF=>⟨OI,by rw[List.getElem?_set_self (List.getElem?_eq_some_iff.1 k3).1],k4.step hF .refl⟩);have hF2:=hF.trans (c4.trans s2);have hU2:=hU.trans c5;refine⟨_,_,_,_,_,_,_,_,e,k3,hj,hR _ _ _ m1 hq ⟨?_,fun b hb=>?_,fun b hb=>?_,?_⟩ hF2 hU2.b⟩
 ·have q:=hS.st.step s1 hF2 hU2;exact⟨q.heap,q.llen,q.loc,q.env⟩
 ·rcases hF2.new b hb with k | k
  ·exact hS.own b k
  ·exact .inr (Nat.le_trans hS.fl k)
 ·rcases vJ hb with k | ⟨k,k'⟩
  ·exact hS.ws b k
  ·obtain⟨b',rO,e⟩:=List.mem_map.1 k;cases e;rcases hF.new b (c6 b rO) with k2 | k2
   ·rcases hS.own b k2 with k3 | k3
    ·exact k3
    ·omega
   ·have:=hS.fl;omega
 ·exact Nat.le_trans hS.fl hF2.len
end
section
variable {X:iR} {P:Program} {A B:Nat->Prop} {m m' m1:List MB} {h h':List HB} {g:Nat->Option Nat}
def wL:List (PB X.Γ)->Bool
 | []=>true
 | .fG _::H=>wL H
 | .vV _::H=>wL H
 | .gone::H=>wL H
 | _=>false
theorem L9:∀ {H:List (PB X.Γ)},wL H=true->∀ (i:Nat) b,H[i]? = some b->wL [b]=true
 | [],_,i,b,h=>by simp at h
 | a::H,hn,i,b,h=>by
  cases i with
  | zero=>simp at h;subst h;cases a<;>simp_all [wL]
  | succ i=>
   have Td:wL H=true:=by cases a<;>simp_all [wL]
   exact L9 Td i b (by simpa using h)
theorem Oa {H:List (PB X.Γ)} (hn:wL H=true) (hr:HR X P A m H h):aK m=[]:=by
 refine List.eq_nil_iff_forall_not_mem.2 fun b hb=>?_;obtain⟨i,mb,h1,h2⟩:=fZ hb;have hl:i<H.length:=by rw[<-hr.len];exact (List.getElem?_eq_some_iff.1 h1).1
 obtain⟨BP,g1,g2⟩:=hr.at_ i _ (List.getElem?_eq_getElem hl);rw[h1] at g1;cases g1;have h3:=L9 hn i _ (List.getElem?_eq_getElem hl);generalize H[i]=b9 at g2 h3;cases b9<;>first | (cases h3;done) | skip
 all_goals (cases mb<;>first | exact g2.elim | cases h2)
theorem EX {v:PV X.Γ} {t:TV} (h:mY v=some t):(∀ l,zW t l=l)∧(∀ g,jI g t=some t)∧∀ fl,QM fl t=t:=by
 cases v<;>simp only[mY,Option.some.injEq,reduceCtorEq] at h<;>subst h<;>exact⟨fun _=>rfl,fun _=>rfl,fun _=>rfl⟩
theorem BG:∀ {vs:List (PV X.Γ)} {ts:List TV},jW vs=some ts->(∀ l,zW.Ba ts l=l)∧∀ g,jI.tC g ts=some ts
 | [],ts,h=>by simp only[jW,Option.some.injEq] at h;subst h;exact⟨fun _=>rfl,fun _=>rfl⟩
 | v::vs,ts,h=>by
  simp only[jW] at h;split at h
  ·rename_i a b h1 h2;cases h;have e1:=EX h1;have e2:=BG h2;exact⟨fun l=>by simp only[zW.Ba,e2.1,e1.1],fun g=>by simp only[jI.tC,e1.2.1,e2.2]⟩
  cases h
theorem Yq {v:PV X.Γ} {t:TV} (h:tJ v=some t):(∀ l,zW t l=l)∧(∀ g,jI g t=some t)∧∀ fl,QM fl t=t:=by
 unfold tJ at h;split at h
 ·simp only[Option.map_eq_some_iff] at h;obtain⟨ts,h1,rfl⟩:=h;have e:=BG h1;exact⟨fun l=>by simp only[zW,e.1],fun g=>by simp only[jI,e.2,Option.map_some],fun _=>rfl⟩
 exact EX h
def a6Z (X:iR) (P:Program) (rV:Bool) (u:PV X.Γ) (Hs:List (PB X.Γ)) (tv:Nat->TV) (tN:List HB):Prop:=
 ∀ (A:Nat->Prop) (m:List MB) (h h1:List HB) (w:TV),HR X P A m Hs h1->VR X P (AA A m) m h1 u w->(∀ b,b∈aK m->h.length<=b)->QN rV h w h1=some (tv h.length,h++tN)
theorem Ob {rV:Bool} {u:PV X.Γ} {Hs:List (PB X.Γ)} {tu:TV} (hu:tJ u=some tu) (ht:∀ cs,tu≠.bH cs):a6Z X P rV u Hs (fun _=>tu) []:=fun A m h h1 w hr hw _=>by
 have:=iP hw hu;subst this;obtain⟨e1,e2,e3⟩:=Yq hu;have e4:Xv h.length w=w:=by
  cases w with
  | bH cs=>exact absurd rfl (ht cs)
  | _=>exact e3 h.length
 unfold QN;simp only[e1,tH,e2,Eb,e4,List.map_nil,List.append_nil]
end
end Pv
