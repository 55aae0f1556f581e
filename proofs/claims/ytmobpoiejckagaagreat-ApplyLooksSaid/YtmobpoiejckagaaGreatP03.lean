/- Part 4 of a proof: ApplyLooks -/
import Derived.Shelf.Spec.SlicesInsert
import Derived.Shelf.Spec.SlicesInsertGrow
import Derived.Shelf.Sort.Plain
import Derived.Shelf.Slices.In.SortNone
import Derived.Test.YtmobpoiejckagaaGreatP02
set_option linter.constructorNameAsVariable false
set_option linter.unusedVariables false
set_option linter.unusedSimpArgs false
set_option linter.unusedSectionVars false
open Go.IntKind (i64)
noncomputable section
namespace Pv
open Go Tw
section
variable {X:kJ} {P:LI1} {A B F:Nat->Prop} {m m':List MB} {h h':List HB} {H H':List (PB X.Γ)}
variable {call:aY} {fO:eY X.Γ} {site:Nat->Bool} {ρ:Type} {y:ρ}
def a5V(X:kJ)(P:LI1)(A:Nat->Prop)(m:List MB)(call:aY)(site:Nat->Bool)(ts:St)(o:Oper)(k:PE X.Γ->aS X.Γ->PI->PT X.Γ->OT ρ)(y:ρ):Prop:=
 ∃pe ps1 pi GZ,OpR X P A m call site ts o pe ps1 pi∧(k pe ps1 pi GZ).Ends y
theorem wF{ps:aS X.Γ}{ts:St}(hR:uQ X P A m ps ts){o:Oper}{k:PE X.Γ->aS X.Γ->PI->PT X.Γ->OT ρ}{r:Option (TV×St×lN)}{v:PV X.Γ}{H1:List (PB X.Γ)}{pi:PI}{an:PT X.Γ}(hm:WG X P A m ts r v H1 pi)
  (ho:oP P call site ts o=r.map fun(v,s,i)=>(.val v,s,i)) (hk:(k (.val v) { ps with heap:=H1 } pi an).Ends y):a5V X P A m call site ts o k y:=by
 obtain⟨w,h1,ti,m1,rfl,e1,e2,e3,e4,e5,e6⟩:=hm;exact⟨.val v,_,_,_,⟨.val w,_,ti,m1,ho,rfl,rfl,hR.step e1 e3 e4,e2,e3,e4,e5,e6⟩,hk⟩
theorem iP{ps:aS X.Γ}{ts:St}(hR:uQ X P A m ps ts){o:Oper}{k:PE X.Γ->aS X.Γ->PI->PT X.Γ->OT ρ}{v:PV X.Γ}{w:TV}{pi:PI}{an:PT X.Γ}(hv:VR X P (AA A m) m ts.heap v w)(ho:oP P call site ts o=some (.val w,ts,bY))(hk:(k (.val v) ps pi an).Ends y):a5V X P A m call site ts o k y:=
 ⟨.val v,_,_,_,uw hR ho (nP hv),hk⟩
theorem aek{op:BinOp}{a b v:PV X.Γ}{ta tb:TV}{ps:List Prop}{t:LI2}{x z:Operand}(ha:VR X P A m h a ta)(hb:VR X P A m h b tb)(hd:ae1 op a b=some (v,ps))(hp:∀p∈ps,p) :
  ∃w,su P op t x z ta tb=some w∧VR X P A m h v w:=by
 unfold ae1 at hd;split at hd
 .cases ha with
  |gone hi _ _=>simp[bn]at hi
  |int=>
   cases hb with
   |gone hi _ _=>simp[bn]at hi
   |int=>
    split at hd
    .split at hd
     .rename_i e;subst e;cases hd;exact⟨_,a5x (hp _ (.head _)),.int _ _⟩
     .cases hd
    .split at hd
     .rename_i e;subst e;cases hd;exact⟨_,a5y (hp _ (.head _)),.int _ _⟩
     .cases hd
    .cases hd;exact⟨_,a5v (hp _ (.head _)),.int _ _⟩
    .cases hd;exact⟨_,a5w (hp _ (.head _)),.int _ _⟩
    .cases hd
 .cases hd
theorem ael(hX:bP X P)(hO:jD X P call fO){ps:aS X.Γ}{ts:St}(hR:uQ X P A m ps ts){o:Oper}{an:PT X.Γ}{k:PE X.Γ->aS X.Γ->PI->PT X.Γ->OT ρ}(hk:(ae4 X P fO (dD X P call) site ps o an k).Ends y):a5V X P A m call site ts o k y:=by
 have hE:=hR.env;unfold ae4 at hk;split at hk
 .-- move
  rename_i x ho;split at hk
  .rename_i v hv;obtain⟨e,h1,h2⟩:=mX hE hv;exact⟨_,_,_,_,uw hR (by simp only[oP,ho,h1,a0j]) h2,hk⟩
  exact hk.elim
 .rename_i x ho;split at hk
  .rename_i v hv;obtain⟨e,h1,h2⟩:=mX hE hv;exact⟨_,_,_,_,uw hR (by simp only[oP,ho,h1,a0j]) h2,hk⟩
  exact hk.elim
 .-- pick
  rename_i c a b ho;split at hk
  .rename_i u hu;obtain⟨tu,h1,h2⟩:=WA hE hu;obtain⟨t,GZ,rfl,hk⟩:=Zh hk h2;split at hk
   .rename_i v hv;obtain⟨e,g1,g2⟩:=mX hE hv;exact⟨_,_,_,_,uw (hR.BD h1) (by simp only[oP,ho,h1,g1,a0j]) g2,hk⟩
   exact hk.elim
  exact hk.elim
 .-- alloc
  rename_i e ho;split at hk
  .rename_i z hz;obtain⟨z',g1,g2⟩:=GL (A:=AA A m) (m:=m) (h:=ts.heap) hz;obtain⟨m1,e1,e2,e3,e4,e5,e6⟩:=RD hR (site:=site (o.dst.getD 0)) g2;exact⟨_,_,_,_,⟨_,_,bY,m1,by simp only[oP,ho,g1,a0j],e1,e2,e3,e4,e5,e6,.none,fun b hb=>by cases hb⟩,hk⟩
  exact hk.elim
 .-- box
  rename_i t x ho;split at hk
  .rename_i v hv;obtain⟨w,g1,g2⟩:=jm hE hv;split at hk
   .rename_i ES;have hc:=GI g2;obtain⟨m1,e1,e2,e3,e4,e5,e6⟩:=RD hR (site:=site (o.dst.getD 0)) hc;exact⟨_,_,_,_,⟨_,_,bY,m1,by simp only[oP,ho,g1,DL hc,ES,a1U],e1,e2,e3,e4,e5,e6,.none,fun b hb=>by cases hb⟩,hk⟩
   exact hk.elim
  exact hk.elim
 .-- build
  rename_i t qs ho;split at hk
  .rename_i vs hvs;obtain⟨ws,g1,g2⟩:=Zc hE hvs;split at hk
   .rename_i v hv;obtain⟨w,g3,g4⟩:=a5I g2 hv;exact iP hR g4 (by simp only[oP,ho,g1,g3,a0j]) hk
   exact hk.elim
  exact hk.elim
 .-- buildSlice
  rename_i t len qs ho;split at hk
  .rename_i vs hvs;obtain⟨ws,g1,g2⟩:=Zc hE hvs;split at hk
   .split at hk
    .rename_i v H1 hv;refine wF hR (tX hX hR g2 hv) ?_ hk;simp only[oP,ho,g1,afq];rfl
    exact hk.elim
   split at hk
   .rename_i v H1 hv;refine wF hR (tX hX hR g2 hv) ?_ hk;simp only[oP,ho,g1,afq];rfl
   exact hk.elim
  exact hk.elim
 .-- load
  rename_i t a ho;split at hk
  .rename_i pa ha;obtain⟨ea,g1,g2⟩:=mX hE ha;split at hk
   .rename_i v i hv;obtain⟨w,ti,g3,g4,g5,g6⟩:=G7 hX hR g2 hv;exact⟨.val v,_,_,_,⟨.val w,ts,ti,m,by simp only[oP,ho,g1,g3,a0j],rfl,rfl,hR,g4,.refl,.refl,g5,fun b hb=>by rw[g6]at hb;cases hb⟩,hk⟩
   exact hk.elim
  exact hk.elim
 .-- store
  rename_i t a x ho;split at hk
  .rename_i pa v ha hv;obtain⟨ea,g1,g2⟩:=mX hE ha;obtain⟨w,g3,g4⟩:=jm hE hv;split at hk
   .rename_i s i hs;obtain⟨iH,ti,m1,e1,e2,e3,e4,e5,e6,e7,e8⟩:=yL hX hR g2 g4 hs;exact⟨.undef,_,_,_,⟨.undef,iH,ti,m1,by simp only[oP,ho,g1,g3,e1,a0j],e2,e3,e4,trivial,e5,e6,e7,e8⟩,hk⟩
   exact hk.elim
  exact hk.elim
 .-- nilCheck
  rename_i x ho;have go:∀{pe:PE X.Γ} {ev:EV},Il ts.env x=some ev->Iu X P (AA A m) m ts.heap pe ev->(match ev with|.loc _ _=>True|.val (.ptr _ _ _)=>True|.val (.fn _ _ _)=>True|_=>False)->(k pe ps xq an).Ends y->a5V X P A m call site ts o k y:=by
   intro pe ev h1 h2 h3 h4;refine⟨_,_,_,_,uw hR ?_ h2,h4⟩;cases ev with
   |loc a b=>simp only[oP,ho,h1]
   |val v=>cases v<;>simp at h3<;>simp only[oP,ho,h1]
   |undef|ent|Ee=>simp at h3
  split at hk
  .rename_i a b ha;obtain⟨ea,g1,g2⟩:=mX hE ha;have:=DN g2;subst this;exact go g1 g2 trivial hk
  .rename_i a b c ha;obtain⟨ea,g1,g2⟩:=mX hE ha;obtain⟨w,rfl,g3⟩:=fQ g2;split at hk
   .rename_i cs hb;obtain⟨mb,f1,f2⟩:=hR.heap.at_ a _ hb;cases mb with
    |fV cb=>
     cases g3 with
     |ptr e=>exact go g1 g2 trivial hk
     |gone hi e _=>simp only[bn,a00]at hi;subst hi;rw[f1]at e;cases e
    |_=>exact f2.elim
   .rename_i cs hb;obtain⟨mb,f1,f2⟩:=hR.heap.at_ a _ hb;cases mb with
    |jl cb=>
     cases g3 with
     |ptr e=>rw[f1]at e;cases e
     |gone hi e _=>
      simp only[bn,a00]at hi;subst hi;rw[f1]at e;cases e with
      |r _ e=>simp only[roV,a00]at e;subst e;exact go g1 g2 trivial hk
    |_=>exact f2.elim
   exact hk.elim
  .rename_i a b c ha;obtain⟨ea,g1,g2⟩:=mX hE ha;obtain⟨w,rfl,g3⟩:=fQ g2;split at hk
   .rename_i q1 q2 q3 q4 hb;obtain⟨mb,f1,f2⟩:=hR.heap.at_ a _ hb;cases mb with
    |dB cb=>
     cases g3 with
     |row e=>exact go g1 g2 trivial hk
     |gone hi e _=>simp only[bn,a00]at hi;subst hi;rw[f1]at e;cases e
    |_=>exact f2.elim
   exact hk.elim
  .rename_i a b c ha;obtain⟨ea,g1,g2⟩:=mX hE ha;obtain⟨w,rfl,g3⟩:=fQ g2;cases g3 with
   |el=>exact go g1 g2 trivial hk
   |gone hi _ _=>simp[bn]at hi
  .rename_i a b c ha;obtain⟨ea,g1,g2⟩:=mX hE ha;obtain⟨w,rfl,g3⟩:=fQ g2;cases g3 with
   |fn=>exact go g1 g2 trivial hk
   |gone hi _ _=>simp[bn]at hi
  exact hk.elim
 .-- binOp
  rename_i op t x z w0 ho;split at hk
  rotate_left
  .exact hk.elim
  rename_i a b ha hb;obtain⟨ta,g1,g2⟩:=jm hE ha;obtain⟨tb,g3,g4⟩:=jm hE hb;split at hk
  .split at hk
   .rename_i v ps hd;obtain⟨hp,hk⟩:=uz hk;obtain⟨w,e1,e2⟩:=aek (P:=P) (t:=t) (x:=x) (z:=z) g2 g4 hd hp;exact iP hR e2 (by simp only[oP,ho,g1,g3,e1,a0j]) hk
   exact hk.elim
  split at hk
  .rename_i v q hv;obtain⟨w,e1,e2⟩:=a2J (x:=x) (y:=z) hR.heap g2 g4 hv hk.1;exact iP hR e2 (by simp only[oP,ho,g1,g3,e1,a0j]) hk.2
  split at hk
  .split at hk
   .rename_i w r;split at hk
    .rename_i v ua ub e1 e2 e3;obtain⟨Q8,hk⟩:=hk;rw[<-jM g2 e2,<-jM g4 e3]at Q8;exact iP hR (wE e1) (by simp only[oP,ho,g1,g3,Q8,a0j]) hk
    exact hk.elim
   exact hk.elim
  split at hk
  .rename_i v hv;obtain⟨w,e1,e2⟩:=Yu g2 g4 hv;exact iP hR e2 (by simp only[oP,ho,g1,g3,e1,a0j]) hk
  exact hk.elim
 .-- unOp
  rename_i op t x ho;split at hk
  .rename_i a ha;obtain⟨ta,g1,g2⟩:=jm hE ha;split at hk
   .rename_i v hv;obtain⟨w,e1,e2⟩:=iR g2 hv;exact iP hR e2 (by simp only[oP,ho,g1,e1,a0j]) hk
   exact hk.elim
  exact hk.elim
 .-- convert
  rename_i s d x ho;split at hk
  .rename_i a ha;obtain⟨ta,g1,g2⟩:=jm hE ha;split at hk
   .split at hk
    .rename_i w r;split at hk
     .rename_i v ua e1 e2;obtain⟨Q8,hk⟩:=hk;rw[<-jM g2 e2]at Q8;exact iP hR (wE e1) (by simp only[oP,ho,g1,Q8,a0j]) hk
     exact hk.elim
    exact hk.elim
   split at hk
   .rename_i v hv;obtain⟨w,e1,e2⟩:=TJ g2 hv;exact iP hR e2 (by simp only[oP,ho,g1,e1,a0j]) hk
   exact hk.elim
  exact hk.elim
 .-- makeFunc
  rename_i f first cap ho
  split at hk
  .rename_i a b ha hb;obtain⟨ta,g1,g2⟩:=Ui hE ha;obtain⟨tb,g3,g4⟩:=Ui hE hb;exact iP hR (.fn g2.1 g2.2 g4.1 g4.2) (by simp only[oP,ho,g1,g3]) hk
  exact hk.elim
 .-- makeMap
  rename_i t r ho;have hp:=hR.heap.push (pb:=.map []) (hb:=.map []) (mb:=.fV ts.heap.length) (.inl rfl) ⟨[],by simp,rfl,fun i a b ha=>by simp at ha⟩;have go:oP P call site ts o=some (.val (.map ts.heap.length),{ ts with heap:=ts.heap++[.map []] },bY)->∀{an:PT X.Γ},(k (.val (.map ps.heap.length)) { ps with heap:=ps.heap++[.map []] } xq an).Ends y->a5V X P A m call site ts o k y:=fun h1 an h2=>
   ⟨.val (.map ps.heap.length),_,_,_,⟨_,_,bY,_,h1,rfl,rfl,hR.step hp.1 hp.2.1 hp.2.2,nP (.map (by rw[<-hR.heap.len];simp)),hp.2.1,hp.2.2,.none,fun b hb=>by cases hb⟩,h2⟩
  split at hk
  .rename_i h1;obtain⟨w,g1,g2⟩:=GN hE h1;have:=qR g2;subst this;exact go (by simp only[oP,ho,g1]) hk
  .rename_i k0 n0 kt vt h1 hu;obtain⟨w,g1,g2⟩:=GN hE h1;have:=Oi g2;subst this;exact go (by simp only[oP,ho,g1,hu]) hk
  exact hk.elim
 .-- makeSlice
  rename_i t l c ho;split at hk
  .rename_i vl vc hl hc;obtain⟨tl,g1,g2⟩:=jm hE hl;obtain⟨tc,g3,g4⟩:=jm hE hc;split at hk
   .rename_i v H1 qs hv;obtain⟨hq,hk⟩:=uz hk;refine wF hR (zV hX hR g2 g4 hv hq) ?_ hk;simp only[oP,ho,g1,g3,afq];rfl
   exact hk.elim
  exact hk.elim
 .-- slice
  rename_i t x lo hi mx ho;split at hk
  rotate_left
  .exact hk.elim
  rename_i px plo wV pmx hx Gm hhi hmx;obtain⟨ex,g1,g2⟩:=mX hE hx;obtain⟨Qh,g3,g4⟩:=GN hE Gm;obtain⟨Qi,g5,g6⟩:=GN hE hhi;obtain⟨tmx,g7,g8⟩:=GN hE hmx;split at hk
  .rename_i n e hu;split at hk
   .split at hk
    .rename_i v hv;refine wF (H1:=ps.heap) hR (Um hR g2 g4 g6 g8 hv) ?_ hk;simp only[oP,ho,g1,g3,g5,g7,hu,afq];rfl
    exact hk.elim
   split at hk
   .rename_i v H1 qs hv;obtain⟨hq,hk⟩:=uz hk;refine wF hR (Cb hX hR g2 g4 g6 g8 hv hq) ?_ hk;simp only[oP,ho,g1,g3,g5,g7,hu,afq];rfl
   exact hk.elim
  rename_i aem;have kH:∀{w:TV},ex=.val w->oP P call site ts o=(qH P t w Qh Qi tmx).map fun v=>(.val v,ts,bY):=by intro w e;subst e;simp only[oP,ho,g1,g3,g5,g7]
  split at hk
  .rename_i b;obtain⟨w,rfl,g9⟩:=fQ g2;have:w=.str b:=by
    cases g9 with
    |str=>rfl
    |gone hi _ _=>simp[bn]at hi
   subst this;split at hk
   rotate_left
   .exact hk.elim
   rename_i w r;split at hk
   rotate_left
   .exact hk.elim
   rename_i v tl th e1 e2 e3;split at hk
   rotate_left
   .exact hk.elim
   rename_i aij;obtain⟨hs,hk⟩:=hk;have h7:tmx=none:=by
    cases pmx with
    |none=>exact qR g8
    |some _=>simp at aij
   have h5:Qh=tl:=by
    cases plo with
    |none=>simp at e2;rw[qR g4,e2]
    |some q=>
     obtain⟨tq,rfl⟩:=LV g4;simp only[a05]at e2;obtain⟨q1,q2,rfl⟩:=e2;rw[jM (show VR X P (AA A m) m ts.heap q tq from g4) q2]
   have h6:Qi=th:=by
    cases wV with
    |none=>simp at e3;rw[qR g6,e3]
    |some q=>
     obtain⟨tq,rfl⟩:=LV g6;simp only[a05]at e3;obtain⟨q1,q2,rfl⟩:=e3;rw[jM (show VR X P (AA A m) m ts.heap q tq from g6) q2]
   subst h5;subst h6;subst h7;exact iP hR (wE e1) (by rw[kH rfl,hs];rfl) hk
  .rename_i px' hns;obtain⟨w,rfl,g9⟩:=fQ g2;split at hk
   .rename_i v qs hv;obtain⟨hq,hk⟩:=uz hk;obtain⟨w',e1,e2⟩:=Ns hR g9 g4 g6 g8 hv hq;exact iP hR e2 (by rw[kH rfl,e1];rfl) hk
   exact hk.elim
  exact hk.elim
 .-- fieldAddr
  rename_i t x f ho;split at hk
  .rename_i pa n ha hn;obtain⟨ea,g1,g2⟩:=mX hE ha;split at hk
   .rename_i v hv;obtain⟨eb,g3,g4⟩:=Nl hR g2 hv;exact⟨_,_,_,_,uw hR (by simp only[oP,ho,g1,hn,g3,a0j]) g4,hk⟩
   exact hk.elim
  exact hk.elim
 .-- field
  rename_i t x f ho;split at hk
  .rename_i a ha;obtain⟨ta,g1,g2⟩:=jm hE ha;split at hk
   .rename_i v hv;obtain⟨w,e1,e2⟩:=Nq g2 hv;exact iP hR e2 (by simp only[oP,ho,g1,e1,a0j]) hk
   exact hk.elim
  exact hk.elim
 .-- indexAddr
  rename_i t x i ho;split at hk
  .rename_i pa vi ha hi;obtain⟨ea,g1,g2⟩:=mX hE ha;obtain⟨ti,g3,g4⟩:=jm hE hi;split at hk
   .rename_i v qs hv;obtain⟨hq,hk⟩:=uz hk;obtain⟨eb,g5,g6⟩:=zT hR g2 g4 hv hq;exact⟨_,_,_,_,uw hR (by simp only[oP,ho,g1,g3,g5,a0j]) g6,hk⟩
   exact hk.elim
  exact hk.elim
 .-- index
  rename_i t x i ho;split at hk
  .rename_i a vi ha hi;obtain⟨ta,g1,g2⟩:=jm hE ha;obtain⟨ti,g3,g4⟩:=jm hE hi;split at hk
   .split at hk
    .rename_i w r;split at hk
     .rename_i v ua ui e1 e2 e3;obtain⟨Q8,hk⟩:=hk;rw[<-jM g2 e2,<-jM g4 e3]at Q8;exact iP hR (wE e1) (by simp only[oP,ho,g1,g3,Q8,a0j]) hk
     exact hk.elim
    exact hk.elim
   split at hk
   .rename_i v hv;obtain⟨w,e1,e2⟩:=Nr g2 g4 hv;exact iP hR e2 (by simp only[oP,ho,g1,g3,e1,a0j]) hk
   exact hk.elim
  exact hk.elim
 .-- lookup
  rename_i t mm i ok ho;split at hk
  .rename_i vm vi hm hi;obtain⟨tm,g1,g2⟩:=jm hE hm;obtain⟨ti,g3,g4⟩:=jm hE hi;obtain⟨v,pi,GZ,w,e1,e2,e3,e4⟩:=a9B hR g2 g4 hk;refine⟨.val v,_,_,_,⟨.val w,ts,_,m,?_,rfl,rfl,hR,e2,.refl,.refl,e4,fun b hb=>by cases hb⟩,e3⟩;simp only[oP,ho,g1,g3,e1,a0j];cases tm<;>rfl
  exact hk.elim
 .-- mapUpdate
  rename_i t mm i x ho;split at hk
  .rename_i vm vi vx hm hi hx;obtain⟨tm,g1,g2⟩:=jm hE hm;obtain⟨ti,g3,g4⟩:=jm hE hi;obtain⟨tx,g5,g6⟩:=jm hE hx;obtain⟨ps1,pi,GZ,h1,Zn,e1,e2,e3,e4,e5,e6⟩:=a5S hR g2 g4 g6 hk;exact⟨.undef,_,_,_,⟨.undef,{ ts with heap:=h1 },Zn,m,by simp only[oP,ho,g1,g3,g5,e1,a0j],rfl,rfl,e2,trivial,e3,.refl,e5,e6⟩,e4⟩
  exact hk.elim
 .-- insert
  rename_i t mm i x ho;split at hk
  .rename_i vm vi vx hm hi hx;obtain⟨tm,g1,g2⟩:=jm hE hm;obtain⟨ti,g3,g4⟩:=jm hE hi;obtain⟨tx,g5,g6⟩:=jm hE hx;obtain⟨ps1,pi,GZ,h1,Zn,e1,e2,e3,e4,e5,e6⟩:=a5S hR g2 g4 g6 hk;exact⟨.undef,_,_,_,⟨.undef,{ ts with heap:=h1 },Zn,m,by simp only[oP,ho,g1,g3,g5,e1,a0j],rfl,rfl,e2,trivial,e3,.refl,e5,e6⟩,e4⟩
  exact hk.elim
 .-- mapEntry
  rename_i t mm i ho;split at hk
  .rename_i vm vi hm hi;obtain⟨tm,g1,g2⟩:=jm hE hm;obtain⟨ti,g3,g4⟩:=jm hE hi;obtain⟨e,e',ps1,pi,GZ,h1,Zn,e1,e0,e2,e3,e4,e5,e6⟩:=a9D hR g2 g4 hk;exact⟨e,_,_,_,⟨e',{ ts with heap:=h1 },Zn,m,by simp only[oP,ho,g1,g3,e1],rfl,rfl,e2,e0,e3,.refl,e5,e6⟩,e4⟩
  exact hk.elim
 .-- entryStore
  rename_i t mm i x ho;split at hk
  .rename_i vm vi vx hm hi hx;obtain⟨tm,g1,g2⟩:=jm hE hm;obtain⟨ti,g3,g4⟩:=mX hE hi;obtain⟨tx,g5,g6⟩:=jm hE hx;obtain⟨ps1,pi,h1,Zn,e1,e2,e3,e4,e5,e6⟩:=a9F hR g2 g4 g6 hk;exact⟨.undef,_,_,_,⟨.undef,{ ts with heap:=h1 },Zn,m,by simp only[oP,ho,g1,g3,g5,e1,a0j],rfl,rfl,e2,trivial,e3,.refl,e5,e6⟩,e4⟩
  exact hk.elim
 .-- extract
  rename_i t i ho;split at hk
  .rename_i vs hv;obtain⟨w,g1,g2⟩:=mX hE hv;obtain⟨w,rfl,g2⟩:=fQ g2;split at hk
   .rename_i v hvi;cases g2 with
    |dG h1 h2=>
     obtain⟨x,e1,e2⟩:=bU.get ⟨h1,h2⟩ hvi;exact iP hR e2 (by simp only[oP,ho,g1,yK,e1,a0j]) hk
    |gone hi _ _=>simp[bn]at hi
   exact hk.elim
  .rename_i r j v hv;obtain⟨w,g1,g2⟩:=mX hE hv;obtain⟨c,y0,rfl,q1,q2⟩:=LQ g2;split at hk
   .exact iP hR (nO q2) (by simp only[oP,ho,g1,yK,a0j]) hk
   .exact⟨_,_,_,_,uw hR (pe:=.Ee r j) (ev:=.Ee c j) (by simp only[oP,ho,g1,yK,a0j]) ⟨q1,rfl⟩,hk⟩
   exact hk.elim
  exact hk.elim
 .-- call
  rename_i c ho;split at hk
  rotate_left
  .exact hk.elim
  rename_i az has;obtain⟨tas,g1,g2⟩:=Ui hE has;have xO:∀{b:Builtin},c.callee=.builtin b->∀{r:Option (TV×St×lN)},qI P b c.argTypes o.type ts tas=r->oP P call site ts o=r.map fun(v,s,i)=>(.val v,s,i):=by intro b hb r hr;simp only[oP,ho,MV,hb,g1,hr]
  split at hk
  .rename_i hb;split at hk
   .rename_i x;obtain⟨tx,r,rfl,q1,q2⟩:=g2.inv;have:=q2.inv0;subst this;split at hk
    .rename_i v i hv;obtain⟨w,ti,e1,e2,e3,e4⟩:=Yw hR.heap q1 hv;exact⟨.val v,_,_,_,⟨.val w,ts,ti,m,by rw[xO hb (r:=some (w,ts,ti)) (by simp only[qI,e1,a0j])];rfl,rfl,rfl,hR,nP e2,.refl,.refl,e3,fun b hb=>by rw[e4]at hb;cases hb⟩,hk⟩
    exact hk.elim
   exact hk.elim
  .rename_i hb;split at hk
   .rename_i d x;obtain⟨td,r,rfl,q1,q2⟩:=g2.inv;obtain⟨tx,r,rfl,q3,q4⟩:=q2.inv;have:=q4.inv0;subst this;split at hk
    .rename_i v H1 i qs hv;obtain⟨hq,hk⟩:=uz hk;exact wF hR (II hX hR q1 q3 hv hq) (xO hb rfl) hk
    exact hk.elim
   exact hk.elim
  .rename_i hb;split at hk
   .rename_i d x;obtain⟨td,r,rfl,q1,q2⟩:=g2.inv;obtain⟨tx,r,rfl,q3,q4⟩:=q2.inv;have:=q4.inv0;subst this;split at hk
    .rename_i v H1 i hv;exact wF hR (TN hX hR q1 q3 hv) (xO hb rfl) hk
    exact hk.elim
   exact hk.elim
  .rename_i hb;split at hk
   .rename_i v hv;obtain⟨w,e1,e2⟩:=yN g2 hv;refine iP hR e2 ?_ hk;rw[xO hb (r:=some (w,ts,bY)) (by simp only[qI,e1,a0j])];rfl
   exact hk.elim
  .rename_i hb;split at hk
   .rename_i v hv;obtain⟨w,e1,e2⟩:=yN g2 hv;refine iP hR e2 ?_ hk;rw[xO hb (r:=some (w,ts,bY)) (by simp only[qI,e1,a0j])];rfl
   exact hk.elim
  .rename_i f hb;split at hk
   rotate_left
   .exact hk.elim
   rename_i fv hfv;obtain⟨tf,f1,f2⟩:=jm hE hfv;have kH:∀{w:TV} {h1:List HB} {ws:List Nat},call tf tas ts.heap=some (w,h1,ws)->oP P call site ts o=some (.val w,{ ts with heap:=h1 },⟨true,[],ws.map .h⟩):=by intro w h1 ws hc;simp only[oP,ho,MV,hb,g1,f1,hc]
   unfold a5F at hk;split at hk
   .rename_i v H1 r;obtain⟨hs,hk⟩:=hk;obtain⟨w,h1,ws,m1,c1,c2,c3,c4,c5,c6⟩:=hs A m ts.heap tf tas hR.heap f2 g2;refine⟨.val v,_,_,_,⟨.val w,_,_,m1,kH c1,rfl,rfl,hR.step c2 c4 c5,nP c3,c4,c5,⟨fun _=>rfl,fun k hk=>(by cases hk),fun k hk=>?_,fun b hb=>?_,fun b hb=>(by cases hb),fun h=>(by cases h)⟩,fun b hb=>?_⟩,hk⟩
    .simp at hk
    .simp at hb;exact .inr ⟨rfl,c6 b hb⟩
    simp at hb;exact c6 b hb
   .split at hk
    .rename_i Hp jy hp;split at hk
     .rename_i Hs fv1 xs1 hHs aen aeo;split at hk
      .rename_i v1 Qj Yi aep;obtain⟨hs,hk⟩:=hk;simp only[a2f,a1o]at jy;obtain⟨w,h1,ws,m1,c1,c2,c3,c4,c5,c6⟩:=J7 hX hs.w jy.1 hp hHs aen aeo Yi aep jy.2 A m ts.heap tf tas hR.heap f2 g2;refine⟨.val v1,_,_,_,⟨.val w,_,_,m1,kH c1,rfl,rfl,hR.step c2 c4 c5,nP c3,c4,c5,⟨fun _=>rfl,fun k hk=>(by cases hk),fun k hk=>?_,fun b hb=>?_,fun b hb=>(by cases hb),fun h=>(by cases h)⟩,fun b hb=>?_⟩,hk⟩
       .simp at hk
       .simp at hb;obtain⟨_,k,h8,_,h9⟩:=c6 b hb;exact .inl ⟨k,a1g.2 ⟨k,a4m h8,rfl⟩,h9⟩
       simp at hb;obtain⟨_,k,_,_,mb,h8,h9⟩:=c6 b hb;exact aZ h8 h9
      exact hk.elim
     exact hk.elim
    exact hk.elim
   .split at hk
    .rename_i Hp jy hp;split at hk
     .rename_i Hs fv1 xs1 hHs aen aeo;split at hk
      .rename_i v1 Qj Hs2 H2 Yi aep ao2;obtain⟨hs,hk⟩:=hk;simp only[a2f,a1o]at jy;have hsl:Hs.length=_:=(sQ hHs).1.trans (DV hp).1;obtain⟨w,h1,ws,m1,c1,c2,c3,c4,c5,c6⟩:=J7 hX (Zk ao2 (by rw[hsl];exact jy.2) hs.w) jy.1 hp hHs aen aeo Yi aep jy.2 A m ts.heap tf tas hR.heap f2 g2;refine⟨.val v1,_,_,_,⟨.val w,_,_,m1,kH c1,rfl,rfl,hR.step c2 c4 c5,nP c3,c4,c5,⟨fun _=>rfl,fun k hk=>(by cases hk),fun k hk=>?_,fun b hb=>?_,fun b hb=>(by cases hb),fun h=>(by cases h)⟩,fun b hb=>?_⟩,hk⟩
       .simp at hk
       .simp at hb;obtain⟨p,k,h8,h7,h9⟩:=c6 b hb;exact .inl ⟨k,a1g.2 ⟨k,WQ h8 (by simpa using h7.2),rfl⟩,h9⟩
       simp at hb;obtain⟨_,k,_,_,mb,h8,h9⟩:=c6 b hb;exact aZ h8 h9
      exact hk.elim
     exact hk.elim
    exact hk.elim
   split at hk
   .rename_i g first cap _
    cases f2 with
    |gone hi _ _=>simp[bn]at hi
    |fn p1 p2 p3 p4=>
     split at hk
     .rename_i vs hvs;split at hk
      .rename_i v ext qs ao3;split at hk
       .rename_i ext' EU;obtain⟨hq,hk⟩:=uz hk;obtain⟨w,h1,m1,c1,c2,c3,c4,c5⟩:=GY hX (hO _ _ _ _ _ ao3 hq) hR.heap hvs EU ⟨p1,p2⟩ g2 ⟨p3,p4⟩;refine⟨.val (shift ps.heap.length v),_,_,_,⟨.val w,_,_,m1,kH c1,rfl,rfl,hR.step c2 c4 c5,nP c3,c4,c5,⟨fun _=>rfl,fun k hk=>(by cases hk),fun k hk=>(by simp at hk),fun b hb=>(by simp at hb),fun b hb=>(by cases hb),fun h=>(by cases h)⟩,fun b hb=>(by simp at hb)⟩,hk⟩
       exact hk.elim
      exact hk.elim
     exact hk.elim
   exact hk.elim
  exact hk.elim
 .-- range
  rename_i t x ho;split at hk
  .rename_i r kt et hx hu;obtain⟨tx,g1,g2⟩:=jm hE hx;split at hk
   .rename_i es Lh;obtain⟨c,fU,q0,q3,q4,q5⟩:=CS hR.heap Lh;have htm:=a0T g2 q0;subst htm;have aT:r<m.length:=by rcases q0 with q1|⟨q1,_⟩<;>exact(a01.1 q1).1
    have hp:=hR.heap.push (pb:=.cO r es.length []) (hb:=.cO c es.length []) (mb:=.fV ts.heap.length) (.inl rfl) ⟨c,by simp,by rw[a0b aT];rcases q0 with q1|⟨q1,_⟩<;>rw[q1]<;>rfl,fun c' hc=>by rw[a0b aT]at hc;rcases q0 with q1|⟨q1,_⟩<;>rw[q1]at hc<;>simp at hc<;>exact hc.symm⟩
    have go:oP P call site ts o=some (.val (.iter ts.heap.length),{ ts with heap:=ts.heap++[.cO c es.length []] },wW (.h c)):=by simp only[oP,ho,g1,hu,q3,q4]
    exact⟨.val (.iter ps.heap.length),_,_,_,⟨_,_,wW (.h c),_,go,rfl,rfl,hR.step hp.1 hp.2.1 hp.2.2,nP (.iter (by rw[<-hR.heap.len];simp)),hp.2.1,hp.2.2,IR.reads rfl (fun b hb=>by simp[wW]at hb;subst hb;exact⟨RJ q0,(a01.1 q3).1⟩) (by simp[wW]),fun b hb=>by simp[wW]at hb⟩,hk⟩
   exact hk.elim
  exact hk.elim
 .-- entry
  rename_i x ho;split at hk
  rotate_left
  .exact hk.elim
  rename_i b hx;obtain⟨tx,g1,g2⟩:=jm hE hx;split at hk
  rotate_left
  .exact hk.elim
  rename_i r n i seen hb;split at hk
  rotate_left
  .exact hk.elim
  rename_i es Lh;split at hk
  .rename_i kk vv _ rest;obtain⟨⟨hn,he⟩,hk⟩:=hk;obtain⟨e,rfl,rfl⟩:∃e:PV X.Γ×PV X.Γ,e.1=kk∧e.2=vv:=⟨(kk,vv),rfl,rfl⟩;have he:es[i]? = some e:=he;obtain⟨mb,q1,q2⟩:=hR.heap.at_ b _ hb;cases mb with
   |fV cb=>
    obtain⟨c,q3,_,q5⟩:=q2;obtain⟨c',fU,z1,z3,z4,z5⟩:=CS hR.heap Lh;have:=q5 c' (by rcases z1 with z1|⟨z1,_⟩;exact .inl z1;exact .inr z1);subst this;cases g2 with
    |gone hi e _=>simp only[bn,a00]at hi;subst hi;rw[q1]at e;cases e
    |iter e1=>
     rw[q1]at e1;cases e1;have hl:i<fU.length:=by rw[<-z4];exact(a01.1 he).1
     have he':=a0a hl;have hv:=z5 i _ _ he he';refine⟨.val (.dG [e.1,e.2]),_,_,_,⟨.val (.dG [fU[i].1,fU[i].2]),ts,fJ [.h cb,.h c'],m,?_,rfl,rfl,hR,nP (LW (nO hv.1) (nO hv.2)),.refl,.refl,IR.reads rfl (fun b2 xM=>?_) (by simp[fJ]),fun b hb=>by simp[fJ]at hb⟩,hk⟩
     .simp only[oP,ho,g1,q3,z3];rw[a0g (by rw[<-z4];exact hn),he'];rfl
     simp[fJ]at xM;rcases xM with rfl|rfl
     .exact⟨.inl ⟨b,by simp[fJ],iI q1 rfl⟩,(a01.1 q3).1⟩
     refine⟨?_,(a01.1 z3).1⟩;rcases z1 with z1|⟨_,z1⟩
     .exact .inl ⟨r,by simp[fJ],iI z1 rfl⟩
     exact .inr z1
   |_=>exact q2.elim
  split at hk
  case isFalse=>exact hk.elim
  rename_i hn;split at hk
  case h_2=>exact hk.elim
  rename_i e he;obtain⟨mb,q1,q2⟩:=hR.heap.at_ b _ hb;cases mb with
  |fV cb=>
   obtain⟨c,q3,_,q5⟩:=q2;obtain⟨c',fU,z1,z3,z4,z5⟩:=CS hR.heap Lh;have:=q5 c' (by rcases z1 with z1|⟨z1,_⟩;exact .inl z1;exact .inr z1);subst this;cases g2 with
   |gone hi e _=>simp only[bn,a00]at hi;subst hi;rw[q1]at e;cases e
   |iter e1=>
    rw[q1]at e1;cases e1;have hl:i<fU.length:=by rw[<-z4];exact(a01.1 he).1
    have he':=a0a hl;have hv:=z5 i _ _ he he';refine⟨.val (.dG [e.1,e.2]),_,_,_,⟨.val (.dG [fU[i].1,fU[i].2]),ts,fJ [.h cb,.h c'],m,?_,rfl,rfl,hR,nP (LW (nO hv.1) (nO hv.2)),.refl,.refl,IR.reads rfl (fun b2 xM=>?_) (by simp[fJ]),fun b hb=>by simp[fJ]at hb⟩,hk⟩
    .simp only[oP,ho,g1,q3,z3];rw[a0g (by rw[<-z4];exact hn),he'];rfl
    simp[fJ]at xM;rcases xM with rfl|rfl
    .exact⟨.inl ⟨b,by simp[fJ],iI q1 rfl⟩,(a01.1 q3).1⟩
    refine⟨?_,(a01.1 z3).1⟩;rcases z1 with z1|⟨_,z1⟩
    .exact .inl ⟨r,by simp[fJ],iI z1 rfl⟩
    exact .inr z1
  |_=>exact q2.elim
 exact hk.elim
end
inductive IRs:List MB->List HB->List PI->List lN->Prop where
 |nil {m h}:IRs m h [] []
 |cons {m h p t m1 h1 ps ts}:(bg m).Nodup->(∀b,b∈bg m->b<h.length)->IR m h p t->Fr m h m1 h1->Up m m1->(p.mv=false->∀(i:Nat),i<m.length->m1[i]? = some .gone->m[i]? = some .gone)->IRs m1 h1 ps ts->IRs m h (p::ps) (t::ts)
theorem a5W{fl b c:Nat}{ws:List Nat}(h:c∈Ef fl b ws):c∈ws∨(c=b∧b<fl):=by
 unfold Ef at h;split at h
 .rename_i hl;split at h
  .exact .inl h
  rcases a2d.1 h with h|h
  .exact .inr ⟨h,hl⟩
  exact .inl h
 exact .inl h
theorem vM{fl c:Nat}:∀{ks:List Key} {ws:List Nat},c∈jT fl ks ws->c∈ws∨(.h c∈ks∧c<fl)
 | [],ws,h=>.inl h
 |.h b::ks,ws,h=>by
  rcases vM (ks:=ks) h with h|⟨h1,h2⟩
  .rcases a5W h with h|⟨rfl,h⟩
   .exact .inl h
   exact .inr ⟨a2O,h⟩
  exact .inr ⟨a2P _ h1,h2⟩
 |.l _::ks,ws,h=>by
  rcases vM (ks:=ks) h with h|⟨h1,h2⟩
  .exact .inl h
  exact .inr ⟨a2P _ h1,h2⟩
theorem WR{m m1:List MB}(hU:Up m m1)(hg:∀(i:Nat),i<m.length->m1[i]? = some .gone->m[i]? = some .gone){i b:Nat}(h:FC m i b):FC m1 i b:=by
 obtain⟨mb,h1,h2⟩:=h;rcases hU i mb h1 with e|e
 .exact⟨mb,e,h2⟩
 have:=hg i (a01.1 h1).1 e;rw[h1]at this;cases this;cases h2
theorem CU{m:List MB}(hn:(bg m).Nodup){i j b:Nat}(h1:FC m i b)(h2:FC m j b):i=j:=by obtain⟨_,a1,a2⟩:=h1;obtain⟨_,b1,b2⟩:=h2;exact iV hn a1 b1 a2 b2
theorem a9K{ma mb:List MB}{ha hb:List HB}{pa pb:PI}{ta tb:lN}(na:(bg ma).Nodup)(nb:(bg mb).Nodup)(la:∀b,b∈bg ma->b<ha.length)(hab:Fr ma ha mb hb)(A:IR ma ha pa ta)(B:IR mb hb pb tb)(hc:a0J pa pb=true)
  (Q9:(∀i b,FC ma i b->FC mb i b)∨pa.hp=false∨pb.hp=false):calm ta tb=true:=by
 simp only[a0J,a2f]at hc;obtain⟨c1,c2⟩:=hc;simp only[Za,a2f,a4o,a8C,a8Q]at c1 c2;obtain⟨c1,c1w⟩:=c1;obtain⟨c2,c2w⟩:=c2;simp only[calm,a2f];constructor
 .simp only[N7,a4o,a2f,a8C,agp];intro k hk;cases k with
  |l j=>
   have:=c1 _ (A.wl j hk);simp only[a4N,a2I]at this ⊢;exact⟨⟨.inr rfl,fun h=>this.1.1.2 (B.tl j h)⟩,fun h=>this.1.2 (B.wl j h)⟩
  |h c=>
   rcases Q9 with a5X|Q9|Q9
   .-- nothing is given up
    have hca:c∈bg ma:=by
     rcases A.wh c hk with⟨i,_,h2⟩|⟨_,h2⟩
     .exact Zd h2
     .exact h2
    obtain⟨i0,hi0⟩:=jZ hca;have hi1:=a5X _ _ hi0;have hcb:c∈bg mb:=Zd hi1;rcases A.wh c hk with⟨i,h1,h2⟩|⟨h1,h2⟩
    .have hii:=CU na hi0 h2;subst hii;have Nv:=c1 _ h1;simp only[a4N,a2I,Key.isH,ah0]at Nv;refine⟨⟨.inl ?_,?_⟩,?_⟩
     .cases hq:tb.all with
      |false=>rfl
      |true=>rw[B.all hq]at Nv;simp at Nv
     .simp only[a4N,a2I];intro hq;rcases(B.th c hq).1 with⟨j,g1,g2⟩|g1
      .have:=CU nb hi1 g2;subst this;exact Nv.1.1.2 g1
      .exact g1 hcb
     .simp only[a4N,a2I];intro hq;rcases B.wh c hq with⟨j,g1,g2⟩|⟨g1,g2⟩
      .have:=CU nb hi1 g2;subst this;exact Nv.1.2 g1
      .rw[g1]at Nv;simp at Nv
    .rw[h1]at c1w;simp only[aec,false_or]at c1w;obtain⟨⟨⟨w1,w2⟩,w3⟩,w4⟩:=c1w;refine⟨⟨.inl ?_,?_⟩,?_⟩
     .cases hq:tb.all with
      |false=>rfl
      |true=>rw[B.all hq]at w1;cases w1
     .simp only[a4N,a2I];intro hq;rcases(B.th c hq).1 with⟨j,g1,g2⟩|g1
      .have:=w3 _ g1;simp[Key.isH]at this
      .exact g1 hcb
     .simp only[a4N,a2I];intro hq;rcases B.wh c hq with⟨j,g1,g2⟩|⟨g1,g2⟩
      .have:=w4 _ g1;simp[Key.isH]at this
      .rw[g1]at w2;cases w2
   .exact absurd hk ((A.hp Q9).2.2 c)
   .obtain⟨g1,g2,g3⟩:=B.hp Q9;refine⟨⟨.inl g1,?_⟩,?_⟩<;>simp only[a4N,a2I]
    .exact g2 c
    .exact g3 c
 .simp only[N7,a4o,a2f,a8C,agp];intro k hk;cases k with
  |l j=>
   have:=c2 _ (B.wl j hk);simp only[a4N,a2I]at this ⊢;exact⟨⟨.inr rfl,fun h=>this.1.1.2 (A.tl j h)⟩,fun h=>this.1.2 (A.wl j h)⟩
  |h c=>
   rcases Q9 with a5X|Q9|Q9
   .have hcb:c∈bg mb:=by
     rcases B.wh c hk with⟨i,_,h2⟩|⟨_,h2⟩
     .exact Zd h2
     .exact h2
    obtain⟨j0,hj0⟩:=jZ hcb;have back:c<ha.length->c∈bg ma:=fun aT=>by
     rcases hab.new c hcb with h1|h1
     .exact h1
     .omega
    have ain:∀i,FC ma i c->i=j0:=fun i hi=>CU nb (a5X _ _ hi) hj0;rcases B.wh c hk with⟨j,h1,h2⟩|⟨h1,h2⟩
    .have hii:=CU nb hj0 h2;subst hii;have Nv:=c2 _ h1;simp only[a4N,a2I,Key.isH,ah0]at Nv;refine⟨⟨.inl ?_,?_⟩,?_⟩
     .cases hq:ta.all with
      |false=>rfl
      |true=>rw[A.all hq]at Nv;simp at Nv
     .simp only[a4N,a2I];intro hq;obtain⟨g0,glt⟩:=A.th c hq;rcases g0 with⟨i,g1,g2⟩|g1
      .have:=ain i g2;subst this;exact Nv.1.1.2 g1
      .exact g1 (back glt)
     .simp only[a4N,a2I];intro hq;rcases A.wh c hq with⟨i,g1,g2⟩|⟨g1,g2⟩
      .have:=ain i g2;subst this;exact Nv.1.2 g1
      .rw[g1]at Nv;simp at Nv
    .rw[h1]at c2w;simp only[aec,false_or]at c2w;obtain⟨⟨⟨w1,w2⟩,w3⟩,w4⟩:=c2w;refine⟨⟨.inl ?_,?_⟩,?_⟩
     .cases hq:ta.all with
      |false=>rfl
      |true=>rw[A.all hq]at w1;cases w1
     .simp only[a4N,a2I];intro hq;obtain⟨g0,glt⟩:=A.th c hq;rcases g0 with⟨i,g1,g2⟩|g1
      .have:=w3 _ g1;simp[Key.isH]at this
      .exact g1 (back glt)
     .simp only[a4N,a2I];intro hq;rcases A.wh c hq with⟨i,g1,g2⟩|⟨g1,g2⟩
      .have:=w4 _ g1;simp[Key.isH]at this
      .rw[g1]at w2;cases w2
   .obtain⟨g1,g2,g3⟩:=A.hp Q9;refine⟨⟨.inl g1,?_⟩,?_⟩<;>simp only[a4N,a2I]
    .exact g2 c
    .exact g3 c
   .exact absurd hk ((B.hp Q9).2.2 c)
theorem a5Y:∀{ps:List PI} {ts:List lN} {m:List MB} {h:List HB},IRs m h ps ts->∀{j:Nat} {p:PI},ps[j]? = some p->∃t mj hj,ts[j]? = some t∧IR mj hj p t∧(bg mj).Nodup∧(∀b,b∈bg mj->b<hj.length)∧Fr m h mj hj∧((∀(i:Nat) q,i<j->ps[i]? = some q->q.mv=false)->∀i b,FC m i b->FC mj i b)
 |_,_,_,_,.nil,j,p,hj=>by simp at hj
 |_,_,m,h,.cons n1 n2 i1 f1 u1 g1 rest,j,p,hj=>by
  cases j with
  |zero=>
   simp only[a2r,a00]at hj;subst hj;exact⟨_,m,h,rfl,i1,n1,n2,.refl,fun _ i b hb=>hb⟩
  |succ j=>
   obtain⟨t,mj,Eu,e1,e2,e3,e4,e5,e6⟩:=a5Y rest (j:=j) (by simpa using hj);refine⟨t,mj,Eu,by simpa using e1,e2,e3,e4,f1.trans e5,fun hq i b hb=>e6 (fun i q hl hi=>hq (i+1) q (by omega) (by simpa using hi)) i b ?_⟩;exact WR u1 (g1 (hq 0 _ (by omega) rfl)) hb
theorem a0W:∀{ps:List PI} {ts:List lN} {m:List MB} {h:List HB},IRs m h ps ts->∀{i j:Nat} {p q:PI},i<j->ps[i]? = some p->ps[j]? = some q->a0J p q=true->((∀(k:Nat) q,i<=k->k<j->ps[k]? = some q->q.mv=false)∨p.hp=false∨q.hp=false)->∃a b,ts[i]? = some a∧ts[j]? = some b∧calm a b=true
 |_,_,_,_,.nil,i,j,p,q,_,hi,_,_,_=>by simp at hi
 |_,_,m,h,.cons n1 n2 i1 f1 u1 g1 rest,i,j,p,q,zW,hi,hj,hc,Q9=>by
  cases j with
  |zero=>omega
  |succ j=>
   cases i with
   |zero=>
    simp only[a2r,a00]at hi;subst hi;obtain⟨t,mj,Eu,e1,e2,e3,e4,e5,e6⟩:=a5Y rest (j:=j) (by simpa using hj);refine⟨_,t,rfl,by simpa using e1,a9K n1 e3 n2 (f1.trans e5) i1 e2 hc ?_⟩;refine Q9.imp_left fun hq i b hb=>e6 (fun i q hl hi=>hq (i+1) q (by omega) (by omega) (by simpa using hi)) i b (WR u1 (g1 (hq 0 _ (by omega) (by omega) rfl)) hb)
   |succ i=>
    obtain⟨a,b,e1,e2,e3⟩:=a0W rest (i:=i) (j:=j) (by omega) (by simpa using hi) (by simpa using hj) hc (Q9.imp_left fun hq k q h1 h2 hi=>hq (k+1) q (by omega) (by omega) (by simpa using hi));exact⟨a,b,by simpa using e1,by simpa using e2,e3⟩
theorem a5Z{ps:List PI}{ts:List lN}{m:List MB}{h:List HB}(hI:IRs m h ps ts):∀{prs:List (Nat×Nat)},(∀q∈prs,q.1<q.2)->Ue ps prs=true->Ba ts prs=true
 | [],_,_=>rfl
 |(i,j)::r,aT,hd=>by
  simp only[Ue,a2f]at hd;obtain⟨h1,h2⟩:=hd;split at h1
  .rename_i a b ha hb;simp only[a2f,a8Q,a8C]at h1;obtain⟨x,y,e1,e2,e3⟩:=a0W hI (aT _ a2O) ha hb h1.1 (by
    rcases h1.2 with(h3|h3)|h3
    .exact .inr (.inl h3)
    .exact .inr (.inr h3)
    left;intro k q QC kN hk;cases hq:q.mv with
    |false=>rfl
    |true=>
     refine absurd (agl.2 ⟨q,a4m (i:=k-i) ?_,hq⟩) (by rw[h3];simp);rw[a4g,a0g (by omega),a4e,<-hk];congr 1;omega)
   simp only[Ba,e1,e2,e3,adf];exact a5Z hI (fun q hq=>aT q (a2P _ hq)) h2
  cases h1
theorem aer{ops:List Oper}:∀q∈mG ops,q.1<q.2:=by intro q hq;unfold mG at hq;have:=(a7S.1 hq).1;unfold nZ at this;simp only[adF,a1g,a7S,a4i]at this;obtain⟨j,_,i,⟨hi,_⟩,rfl⟩:=this;exact hi
theorem RQ{ts:List lN}(hw:∀t∈ts,t.ws=[]):∀{prs:List (Nat×Nat)},(∀q∈prs,q.1<ts.length∧q.2<ts.length)->Ba ts prs=true
 | [],_=>rfl
 |(i,j)::r,hl=>by obtain⟨h1,h2⟩:=hl _ a2O;simp only[Ba,a0a h1,a0a h2,a2f];refine⟨?_,RQ hw fun q hq=>hl q (a2P _ hq)⟩;simp[calm,N7,hw _ (a4q h1),hw _ (a4q h2)]
theorem aes{ops:List Oper}:∀q∈mG ops,q.1<ops.length∧q.2<ops.length:=by intro q hq;unfold mG at hq;have:=(a7S.1 hq).1;unfold nZ at this;simp only[adF,a1g,a7S,a4i]at this;obtain⟨j,hj,i,⟨hi,_⟩,rfl⟩:=this;exact⟨by simp only;omega,hj⟩
section
variable {X:kJ} {P:LI1} {A W:Nat->Prop} {m m':List MB} {h:List HB}
structure SR(X:kJ)(P:LI1)(A W:Nat->Prop)(fl:Nat)(m:List MB)(ps:aS X.Γ)(ts:St):Prop where
 st:uQ X P A m ps ts
 own:∀b,b∈bg m->W b∨fl<=b
 ws:∀b,b∈ts.ws->W b
 fl:fl<=ts.heap.length
def LY(B:Nat)(m m1:List MB):Prop:=∀(i:Nat) mb,i<B->m[i]? = some mb->m1[i]? = some mb∨m1[i]? = some .gone
theorem Up.b{B:Nat}{m m1:List MB}(h:Up m m1):LY B m m1:=fun i mb _ hi=>h i mb hi
theorem LY.trans{B:Nat}{m m1 m2:List MB}(a:LY B m m1)(b:LY B m1 m2):LY B m m2:=fun i mb hB hi=>by
 rcases a i mb hB hi with h|h
 .exact b i mb hB h
 .rcases b i _ hB h with h|h<;>exact .inr h
theorem LY.refl{B:Nat}{m:List MB}:LY B m m:=fun _ _ _ h=>.inl h
def CV(X:kJ)(P:LI1)(B:Nat)(ps ps1:aS X.Γ):Prop:=
 ∀(A W:Nat->Prop) (fl:Nat) (m:List MB) (ts:St),SR X P A W fl m ps ts->∃m1,SR X P A W fl m1 ps1 ts∧Fr m ts.heap m1 ts.heap∧LY B m m1
theorem CV.refl{B:Nat}{ps:aS X.Γ}:CV X P B ps ps:=fun _ _ _ m _ hS=>⟨m,hS,.refl,.refl⟩
theorem CV.trans{B:Nat}{a b c:aS X.Γ}(h1:CV X P B a b)(h2:CV X P B b c):CV X P B a c:=fun A W fl m ts hS=>by obtain⟨m1,g1,g2,g3⟩:=h1 A W fl m ts hS;obtain⟨m2,g4,g5,g6⟩:=h2 A W fl m1 ts g1;exact⟨m2,g4,g2.trans g5,g3.trans g6⟩
theorem a9L{env:List (Nat×PE X.Γ)}{env':List (Nat×EV)}(he:jS X P A m h env env'):jS X P A m h (a9n env) env':=by
 induction he with
 |nil=>exact .nil
 |cons h1 _ ih=>
  rename_i k v x r r' _;cases v with
  |val v=>obtain⟨y,rfl,h2⟩:=fQ h1;exact .cons (nP (GH h2)) ih
  |_=>exact .cons h1 ih
theorem a9M{t i:Nat}(hi:m[i]? = some (.dB (.nil .aP))):∀{env:List (Nat×PE X.Γ)} {env':List (Nat×EV)} {r:List (Nat×PE X.Γ)},jS X P A m h env env'->Ej t i env=some r->jS X P A m h r env':=by
 intro env env' r he
 induction he generalizing r with
 |nil=>intro h;cases h
 |cons h1 h2 ih=>
  rename_i k v x q q';intro hn;simp only[Ej]at hn;split at hn
  .split at hn
   .cases hn;obtain⟨y,rfl,h3⟩:=fQ h1;have:y=.nil .aP:=by
     cases h3 with
     |nil=>rfl
     |gone hi _ _=>simp[bn]at hi
    subst this;exact .cons (nP (.own hi rfl)) h2
   cases hn
  simp only[a05]at hn;obtain⟨q2,h3,rfl⟩:=hn;exact .cons h1 (ih h3)
theorem a0X{i off:Nat}(hi:m[i]? = some (.dB (.nil .aP))){cs r:List (PV X.Γ)}{xs:List TV}(hv:bU X P A m h cs xs)(hn:a9o off i cs=some r):bU X P A m h r xs:=by
 unfold a9o at hn;split at hn
 .rename_i hc;cases hn;refine⟨by rw[a4n,hv.1],fun j a b ha hb=>?_⟩;by_cases e:off=j
  .subst e;rw[a4f,hc]at ha;cases ha;have:b=.nil .aP:=by
    cases hv.2 _ _ _ hc hb with
    |nil=>rfl
    |gone hi _ _=>simp[bn]at hi
   subst this;exact .own hi rfl
  rw[a1l e]at ha;exact hv.2 j a b ha hb
 cases hn
theorem SR.Un{fl:Nat}{ps:aS X.Γ}{ts:St}(hS:SR X P A W fl m ps ts)(e:Nat):∃m1,HR X P A m1 (ps.heap++[.list false false e []]) ts.heap∧Fr m ts.heap m1 ts.heap∧Up m m1∧m1[ps.heap.length]? = some (.dB (.nil .aP))∧(∀b,b∈bg m1->b∈bg m):=by obtain⟨h1,h2,h3⟩:=hS.st.heap.abO (pb:=.list false false e []) (mb:=.dB (.nil .aP)) rfl LR.nil;refine⟨_,h1,h2,h3,by rw[<-hS.st.heap.len];simp,fun b hb=>?_⟩;rw[iY,a3k,jY]at hb;simpa[MB.own]using hb
theorem a6a(hX:bP X P){H:List (PB X.Γ)}(hr:HR X P A m H h){i:Nat}{v w:PV X.Γ}{x:TV}(hv:VR X P (AA A m) m h v x)(hw:fzV H i v=some w):VR X P (AA A (cu [i] m)) (cu [i] m) h w x:=by
 unfold fzV at hw;split at hw
 .cases hw;exact hv.step (iE (h:=h) [i] m).1 (iE (h:=h) [i] m).2
 split at hw
 .rename_i ha;refine(Uk (m':=cu [i] m) hX hr hv hw (is:=[i]) fun j hj=>?_).mono fun b hb=>FA.gone hr hb;have:=a4o.1 ha j hj;rw[a8K this];exact a2p.2 rfl
 cases hw
theorem a0Y(hX:bP X P){H:List (PB X.Γ)}(hr:HR X P A m H h){i:Nat}:∀{v w:List (PV X.Γ)} {x:List TV},bU X P (AA A m) m h v x->a5z H i v=some w->bU X P (AA A (cu [i] m)) (cu [i] m) h w x
 | [],w,x,hv,hw=>by cases hw;rw[hv.inv0];exact .nil
 |v::vs,w,x,hv,hw=>by
  obtain⟨y,r,rfl,h1,h2⟩:=hv.inv;simp only[a5z]at hw;split at hw
  .rename_i w1 ws e1 e2;cases hw;exact .cons (a6a hX hr h1 e1) (a0Y hX hr h2 e2)
  cases hw
theorem aeu(hX:bP X P){H:List (PB X.Γ)}(hr:HR X P A m H h){i:Nat}{v:List (Nat×PE X.Γ)}{x:List (Nat×EV)}(hv:jS X P (AA A m) m h v x):∀{w:List (Nat×PE X.Γ)},fzE H i v=some w->jS X P (AA A (cu [i] m)) (cu [i] m) h w x:=by
 induction hv with
 |nil=>intro w hw;cases hw;exact .nil
 |cons h1 h2 ih=>
  rename_i k v x q q';intro w hw;cases v with
  |val v=>
   simp only[fzE]at hw;split at hw
   .rename_i w1 ws e1 e2;cases hw;obtain⟨y,rfl,h3⟩:=fQ h1;exact .cons (nP (a6a hX hr h3 e1)) (ih e2)
   cases hw
  |loc k o=>
   simp only[fzE,a05]at hw;obtain⟨ws,e2,rfl⟩:=hw;exact .cons (by cases x<;>exact h1) (ih e2)
  |undef=>
   simp only[fzE,a05]at hw;obtain⟨ws,e2,rfl⟩:=hw;exact .cons (by cases x<;>exact h1) (ih e2)
  |ent|Ee=>simp[fzE]at hw
theorem a0Z{Γ:Nat->Type}{H:List (PB Γ)}{i:Nat}:∀{l r:List (List (PV Γ))},fzL H i l=some r->r.length=l.length∧∀(k:Nat) ds,r[k]? = some ds->∃cs,l[k]? = some cs∧a5z H i cs=some ds
 | [],r,h=>by cases h;exact⟨rfl,fun k ds hk=>by simp at hk⟩
 |c::l,r,h=>by
  simp only[fzL]at h;split at h
  .rename_i w ws e1 e2;cases h;obtain⟨q1,q2⟩:=a0Z e2;refine⟨by simp[q1],fun k ds hk=>?_⟩;cases k with
   |zero=>simp at hk;subst hk;exact⟨c,rfl,e1⟩
   |succ k=>exact q2 k ds (by simpa using hk)
  cases h
theorem a6b(hX:bP X P){B:Nat}{g:G}{ps ps1:aS X.Γ}(hg:Bh B ps g=some ps1):CV X P B ps ps1:=by
 intro A W fl m ts hS;cases g with
 |lit=>
  simp only[Bh,a00]at hg;subst hg;exact⟨m,⟨⟨hS.st.heap,hS.st.llen,hS.st.loc,a9L hS.st.env⟩,hS.own,hS.ws,hS.fl⟩,.refl,.refl⟩
 |Ej t e=>
  simp only[Bh,a05]at hg;obtain⟨env,h1,rfl⟩:=hg;obtain⟨m1,e1,e2,e3,e4,e5⟩:=hS.Un e;exact⟨m1,⟨⟨e1,hS.st.llen,fun k cs hk=>let ⟨cs',q1,q2⟩:=hS.st.loc k cs hk;⟨cs',q1,q2.step e2 e3⟩,a9M e4 (hS.st.env.step e2 e3) h1⟩,fun b hb=>hS.own b (e5 b hb),hS.ws,hS.fl⟩,e2,e3.b⟩
 |a2E k off e=>
  simp only[Bh]at hg;split at hg
  .rename_i cs hk;simp only[a05]at hg;obtain⟨RG,h1,rfl⟩:=hg;obtain⟨m1,e1,e2,e3,e4,e5⟩:=hS.Un e;refine⟨m1,⟨⟨e1,by simp[hS.st.llen],fun j ds hj=>?_,hS.st.env.step e2 e3⟩,fun b hb=>hS.own b (e5 b hb),hS.ws,hS.fl⟩,e2,e3.b⟩;by_cases e0:k=j
   .subst e0;rw[a4f,hk]at hj;cases hj;obtain⟨cs',q1,q2⟩:=hS.st.loc k cs hk;exact⟨cs',q1,a0X e4 (q2.step e2 e3) h1⟩
   rw[a1l e0]at hj;obtain⟨cs',q1,q2⟩:=hS.st.loc j ds hj;exact⟨cs',q1,q2.step e2 e3⟩
  cases hg
 |Uc i off e=>
  simp only[Bh]at hg;split at hg
  rotate_left
  .cases hg
  rename_i cs hi;simp only[a05]at hg;obtain⟨RG,h1,rfl⟩:=hg;obtain⟨m1,e1,e2,e3,e4,e5⟩:=hS.Un e;have aT:i<ps.heap.length:=(a01.1 hi).1;have xg:HR X P A m1 (ps.heap.set i (.cells RG)++[.list false false e []]) ts.heap:=by
   refine e1.next .refl .refl (by simp[e1.len]) e1.nodup fun j b hj=>?_;by_cases e0:i=j
   .subst e0;right;rw[a0b (by simpa using aT),a4f,hi]at hj;cases hj;obtain⟨mb,q1,q2⟩:=e1.at_ i (.cells cs) (by rw[a0b aT];exact hi);refine⟨mb,q1,?_⟩;cases mb with
    |fV c=>obtain⟨xs,q3,q4⟩:=q2;exact⟨xs,q3,a0X e4 q4 h1⟩
    |_=>exact q2.elim
   left;have:(ps.heap++[PB.list false false e []])[j]? = some b:=by
    rw[<-hj];rcases a4d j ps.heap.length with h9|h9
    .rw[a0b h9,a0b (by simpa using h9),a1l e0]
    rw[a0S h9,a0S (by simpa using h9),a4n]
   obtain⟨mb,q1,_⟩:=e1.at_ j b this;exact⟨mb,this,q1,q1,fun _ _=>rfl⟩
  exact⟨m1,⟨⟨xg,hS.st.llen,fun k cs hk=>let ⟨cs',q1,q2⟩:=hS.st.loc k cs hk;⟨cs',q1,q2.step e2 e3⟩,hS.st.env.step e2 e3⟩,fun b hb=>hS.own b (e5 b hb),hS.ws,hS.fl⟩,e2,e3.b⟩
 |flag i=>
  simp only[Bh]at hg;split at hg
  rotate_left
  .cases hg
  rename_i k ex t l hi;cases hg;have hr:=hS.st.heap;refine⟨m,⟨⟨?_,hS.st.llen,hS.st.loc,hS.st.env⟩,hS.own,hS.ws,hS.fl⟩,.refl,.refl⟩;refine hr.next .refl .refl (by simp[hr.len]) hr.nodup fun j b hj=>?_;by_cases e0:i=j
  .subst e0;right;rw[a4f,hi]at hj;cases hj;obtain⟨mb,q1,q2⟩:=hr.at_ i _ hi;refine⟨mb,q1,?_⟩;cases mb with
   |dB y=>
    cases(q2:LR X P _ _ _ _ _ _ _ y)with
    |nil=>exact LR.nil
    |emp p0 p1 p2 p3 p4=>exact LR.emp p0 p1 p2 p3 p4
    |some p1 p2 p3 p4 p5 p6 p7 p8 p9=>exact LR.some p1 p2 p3 p4 p5 (by simp) (by simp) p8 p9
   |_=>exact q2.elim
  left;rw[a1l e0]at hj;obtain⟨mb,q1,_⟩:=hr.at_ j b hj;exact⟨mb,hj,q1,q1,fun _ _=>rfl⟩
 |gc ks=>
  simp only[Bh]at hg;split at hg
  rotate_left
  .cases hg
  rename_i hc;simp only[a2f,a1o,a4o]at hc;obtain⟨⟨Ez,jy⟩,hB⟩:=hc;split at hg
  rotate_left
  .cases hg
  rename_i env loc b1 b2 h1 h2 h3 h4;split at hg
  rotate_left
  .cases hg
  rename_i b3 h5;cases hg;have hr:=hS.st.heap;have hp:=DV h4;have ao8:∀k∈ks,k<m.length:=fun k hk=>by obtain⟨i,hi⟩:=a8E hk;obtain⟨b,q1,_⟩:=hp.2 hi;rw[hr.len];exact(a01.1 q1).1
  have hBm:B<=m.length:=by rw[hr.len];exact hB
  let m1:List MB:=m.take B++ks.map fun k=>m.getD k .gone
  have aev:(m.take B).length=B:=by rw[a3E];omega
  have Gm:∀i,i<B->m1[i]? = m[i]?:=fun i hi=>by show(m.take B++_)[i]? = _;rw[a0b (by omega),a4g,a0g hi]
  have hhi:∀p k,ks[p]? = some k->m1[p+B]? = m[k]?:=fun p k hp=>by show(m.take B++_)[p+B]? = _;rw[a0S (by omega),aev,Nat.add_sub_cancel,a4j,hp];have:=ao8 k (a4m hp);simp[a2N,this]
  have hg:∀i j,(fun i=>if i<B then some i else(wu ks i).map (·+B)) i=some j->m1[j]? = m[i]?:=fun i j zW=>by
   simp only at zW;split at zW
   .rename_i hi;cases zW;exact Gm i hi
   simp only[a05]at zW;obtain⟨p,hp,rfl⟩:=zW;exact hhi p i (Oo hp)
  have hold:∀j mb,m1[j]? = some mb->∃i,m[i]? = some mb∧((j<B∧i=j)∨∃p,j=p+B∧ks[p]? = some i):=fun j mb hj=>by
   rcases a4d j B with aT|Et
   .exact⟨j,by rw[<-Gm j aT];exact hj,.inl ⟨aT,rfl⟩⟩
   have rU:j-B<ks.length:=by
    have:=(a01.1 hj).1;have h9:m1.length=B+ks.length:=by show(m.take B++_).length=_;rw[a1I,aev,a4h]
    omega
   have hp:=a0a rU;have hh:=hhi (j-B) _ hp;rw[show j-B+B=j by omega,hj]at hh;exact⟨_,hh.symm,.inr ⟨j-B,by omega,hp⟩⟩
  have yO:∀b,b∈bg m1->b∈bg m:=fun b hb=>by obtain⟨j,mb,q1,q2⟩:=jZ hb;obtain⟨i,q3,_⟩:=hold j mb q1;exact aZ q3 q2
  have hA:∀b,AA A m b->AA A m1 b:=fun b hb=>⟨hb.1,fun hm=>hb.2 (yO b hm)⟩;have aew:(bg m1).Nodup:=jA fun i j c q1 q2=>by
   obtain⟨ma,a1,a2⟩:=q1;obtain⟨mc,c1,c2⟩:=q2;obtain⟨i',a3,a4⟩:=hold i ma a1;obtain⟨j',c3,c4⟩:=hold j mc c1;have e:=iV hr.nodup a3 c3 a2 c2;subst e;rcases a4 with⟨a5,a6⟩|⟨p,a5,a6⟩<;>rcases c4 with⟨c5,c6⟩|⟨q,c5,c6⟩
   .omega
   .have:=Ez _ (a4m c6);omega
   .have:=Ez _ (a4m a6);omega
   have FT:=(a01.1 a6).1;have:p=q:=(List.getElem?_inj FT jy).1 (by rw[a6,c6]);omega
  have hFr:Fr m ts.heap m1 ts.heap:=⟨a0U _,fun _ _ _=>rfl,fun b hb=>.inl (yO b hb),fun b cs hc=>⟨cs,hc,a0U _⟩⟩;have C9:=sQ h3;have hb3:=sQ h5;have TG:=Ot h2;refine⟨m1,⟨⟨⟨?_,fun j b hj=>?_,aew,hr.up,fun b hb=>hr.CQ b (yO b hb)⟩,by rw[TG.1];exact hS.st.llen,fun k cs hk=>?_,Oq hX hg hA hS.st.env h1⟩,fun b hb=>hS.own b (yO b hb),hS.ws,hS.fl⟩,hFr,fun i mb hi hm=>.inl (by rw[Gm i hi];exact hm)⟩
  .show(m.take B++_).length=_;rw[a1I,a1I,a4h,C9.1,hb3.1,hp.1,aev,a3E];omega
  .have a0t:b1.length=B:=by rw[C9.1,a3E];omega
   rcases a4d j B with aT|Et
   .rw[a0b (by omega)]at hj;obtain⟨b0,q1,q2⟩:=C9.2 hj;rw[a4g,a0g aT]at q1;obtain⟨mb,q3,q4⟩:=hr.at_ j b0 q1;exact⟨mb,by rw[Gm j aT];exact q3,DU hX hg hA (fun c _ h9 h8=>h9 (yO c h8)) q4 q2⟩
   rw[a0S (by omega),a0t]at hj;obtain⟨b0,q1,q2⟩:=hb3.2 hj;have rU:j-B<ks.length:=by rw[<-hp.1];exact(a01.1 q1).1
   obtain⟨b9,q5,q6⟩:=hp.2 (a0a rU);rw[q1]at q6;cases q6;obtain⟨mb,q3,q4⟩:=hr.at_ _ _ q5;refine⟨mb,?_,DU hX hg hA (fun c _ h9 h8=>h9 (yO c h8)) q4 q2⟩;have:=hhi (j-B) _ (a0a rU);rw[show j-B+B=j by omega]at this;rw[this];exact q3
  obtain⟨cs0,q1,q2⟩:=TG.2 hk;obtain⟨cs',q3,q4⟩:=hS.st.loc k cs0 q1;exact⟨cs',q3,zk hX hg hA q4 q2⟩
 |fz i=>
  simp only[Bh]at hg;split at hg
  .rename_i env loc e1 e2;cases hg;have hr:=hS.st.heap;have hF:=iE (h:=ts.heap) [i] m;obtain⟨q1,q2⟩:=a0Z e2;refine⟨cu [i] m,⟨⟨hr.bf [i],by rw[q1];exact hS.st.llen,fun k ds hk=>?_,aeu hX hr hS.st.env e1⟩,fun b hb=>?_,hS.ws,hS.fl⟩,hF.1,hF.2.b⟩
   .obtain⟨cs,h1,h2⟩:=q2 k ds hk;obtain⟨cs',h3,h4⟩:=hS.st.loc k cs h1;exact⟨cs',h3,a0Y hX hr h4 h2⟩
   obtain⟨j,mb,_,h2,h3⟩:=Af hb;exact hS.own b (aZ h2 h3)
  cases hg
 |mv i=>
  simp only[Bh]at hg;split at hg
  rotate_left
  .cases hg
  rename_i b0 hi;split at hg
  rotate_left
  .cases hg
  rename_i env loc b1 b2 h1 h2 h3 h4;cases hg;have hr:=hS.st.heap;have aT:i<ps.heap.length:=(a01.1 hi).1;obtain⟨mi,mi1,mi2⟩:=hr.at_ i b0 hi
  let m1:List MB:=m.set i .gone++[mi]
  have qB:(m.set i .gone).length=ps.heap.length:=by rw[a4n,hr.len]
  have Gm:∀j,j<ps.heap.length->j≠i->m1[j]? = m[j]?:=fun j hj hn=>by show(m.set i .gone++[mi])[j]? = _;rw[a0b (by omega),a1l (fun e=>hn e.symm)]
  have Iq:m1[i]? = some .gone:=by show(m.set i .gone++[mi])[i]? = _;rw[a0b (by omega),a4f,mi1];rfl
  have hhi:m1[ps.heap.length]? = some mi:=by show(m.set i .gone++[mi])[ps.heap.length]? = _;rw[a0S (by omega),qB,agI];rfl
  have hg:∀a b,(fun j=>if j=i then some ps.heap.length else if j<ps.heap.length then some j else none) a=some b->m1[b]? = m[a]?:=fun a b hab=>by
   simp only at hab;split at hab
   .rename_i e;subst e;cases hab;rw[hhi,mi1]
   split at hab
   .rename_i e1 e2;cases hab;exact Gm a e2 e1
   cases hab
  have hold:∀j mb,m1[j]? = some mb->mb=.gone∨∃k,m[k]? = some mb∧((j<ps.heap.length∧k=j∧j≠i)∨(j=ps.heap.length∧k=i)):=fun j mb hj=>by
   have rU:j<ps.heap.length+1:=by
    have:=(a01.1 hj).1;have h9:m1.length=ps.heap.length+1:=by show(m.set i .gone++[mi]).length=_;rw[a1I,qB];rfl
    omega
   by_cases e:j=i
   .subst e;rw[Iq]at hj;cases hj;exact .inl rfl
   rcases a4d j ps.heap.length with h5|h5
   .exact .inr ⟨j,by rw[<-Gm j h5 e];exact hj,.inl ⟨h5,rfl,e⟩⟩
   have:j=ps.heap.length:=(by omega);subst this;rw[hhi]at hj;cases hj;exact .inr ⟨i,mi1,.inr ⟨rfl,rfl⟩⟩
  have yO:∀b,b∈bg m1->b∈bg m:=fun b hb=>by
   obtain⟨j,mb,q1,q2⟩:=jZ hb;rcases hold j mb q1 with rfl|⟨k,q3,_⟩
   .cases q2
   exact aZ q3 q2
  have hA:∀b,AA A m b->AA A m1 b:=fun b hb=>⟨hb.1,fun hm=>hb.2 (yO b hm)⟩;have aew:(bg m1).Nodup:=jA fun j k c q1 q2=>by
   obtain⟨ma,a1,a2⟩:=q1;obtain⟨mc,c1,c2⟩:=q2;rcases hold j ma a1 with rfl|⟨j',a3,a4⟩
   .cases a2
   rcases hold k mc c1 with rfl|⟨k',c3,c4⟩
   .cases c2
   have e:=iV hr.nodup a3 c3 a2 c2;subst e;rcases a4 with⟨a5,a6,a7⟩|⟨a5,a6⟩<;>rcases c4 with⟨c5,c6,c7⟩|⟨c5,c6⟩<;>omega
  have hFr:Fr m ts.heap m1 ts.heap:=⟨a0U _,fun _ _ _=>rfl,fun b hb=>.inl (yO b hb),fun b cs hc=>⟨cs,hc,a0U _⟩⟩;have C9:=sQ h3;have TG:=Ot h2;have aio:b1.length=ps.heap.length:=by rw[C9.1,a4n]
  refine⟨m1,⟨⟨⟨?_,fun j b hj=>?_,aew,hr.up,fun b hb=>hr.CQ b (yO b hb)⟩,by rw[TG.1];exact hS.st.llen,fun k cs hk=>?_,Oq hX hg hA hS.st.env h1⟩,fun b hb=>hS.own b (yO b hb),hS.ws,hS.fl⟩,hFr,fun j mb _ hj=>?_⟩
  .show(m.set i .gone++[mi]).length=_;rw[a1I,a1I,qB,aio];rfl
  .rcases a4d j ps.heap.length with h5|h5
   .rw[a0b (by omega)]at hj;obtain⟨b9,q1,q2⟩:=C9.2 hj;by_cases e:j=i
    .subst e;rw[a4f,hi]at q1;cases q1;have q2:some (PB.gone (Γ:=X.Γ))=some b:=q2;cases q2;exact⟨.gone,Iq,trivial⟩
    rw[a1l (fun e2=>e e2.symm)]at q1;obtain⟨mb,q3,q4⟩:=hr.at_ j b9 q1;exact⟨mb,by rw[Gm j h5 e];exact q3,DU hX hg hA (fun c _ h9 h8=>h9 (yO c h8)) q4 q2⟩
   rw[a0S (by omega),aio]at hj;have:j-ps.heap.length=0:=by have:=(a01.1 hj).1;simp at this;omega
   rw[this]at hj;cases hj;refine⟨mi,?_,DU hX hg hA (fun c _ h9 h8=>h9 (yO c h8)) mi2 h4⟩;rw[show j=ps.heap.length by omega];exact hhi
  .obtain⟨cs0,q1,q2⟩:=TG.2 hk;obtain⟨cs',q3,q4⟩:=hS.st.loc k cs0 q1;exact⟨cs',q3,zk hX hg hA q4 q2⟩
  by_cases e:j=i
  .subst e;exact .inr Iq
  have:j<ps.heap.length:=by rw[<-hr.len];exact(a01.1 hj).1
  exact .inl (by rw[Gm j this e];exact hj)
theorem mQ(hX:bP X P){B:Nat}:∀{gs:List G} {ps ps1:aS X.Γ},l7 B gs ps=some ps1->CV X P B ps ps1
 | [],ps,ps1,h=>by simp only[l7,a00]at h;subst h;exact .refl
 |g::gs,ps,ps1,h=>by
  simp only[l7]at h;split at h
  .rename_i s hs;exact(a6b hX hs).trans (mQ hX h)
  cases h
end
section
variable {X:kJ} {P:LI1} {T:qx} {A W:Nat->Prop} {m m':List MB}
variable {call:aY} {fO:eY X.Γ} {ρ:Type} {y:ρ}
theorem SR.BD{fl:Nat}{ps:aS X.Γ}{ts:St}(hS:SR X P A W fl m ps ts){x:Operand}{b:Bool}(hb:qE ts.env x=some (.bool b)):SR X P A W fl m (ps.BD x b) ts:=⟨hS.st.BD hb,hS.own,hS.ws,hS.fl⟩
theorem uQ.put{ps:aS X.Γ}{ts:St}(hR:uQ X P A m ps ts){d:Option Nat}{pe:PE X.Γ}{ev:EV}(h:Iu X P (AA A m) m ts.heap pe ev):uQ X P A m (ps.put d pe) (ts.put d ev):=by
 cases d with
 |none=>exact hR
 |some d=>exact⟨hR.heap,hR.llen,hR.loc,.cons h hR.env⟩
theorem zl{ts:St}{d:Option Nat}{ev:EV}:(ts.put d ev).heap=ts.heap∧(ts.put d ev).ws=ts.ws:=by cases d<;>exact⟨rfl,rfl⟩
theorem WS{H:List (PB X.Γ)}{h:List HB}(hr:HR X P A m H h){i:Nat}{b:PB X.Γ}(hb:H[i]? = some b):qP b=true↔m[i]? = some .gone:=by
 obtain⟨mb,h1,h2⟩:=hr.at_ i b hb;cases b with
 |gone=>
  cases mb with
  |gone=>exact⟨fun _=>h1,fun _=>rfl⟩
  |_=>exact h2.elim
 |cells cs=>cases mb with
  |gone=>exact h2.elim
  |_=>simp[qP,h1]
 |aF cs=>cases mb with
  |gone=>exact h2.elim
  |_=>simp[qP,h1]
 |list k ex t l=>cases mb with
  |gone=>exact h2.elim
  |_=>simp[qP,h1]
 |map es=>cases mb with
  |gone=>exact h2.elim
  |_=>simp[qP,h1]
 |mark=>cases mb with
  |gone=>exact h2.elim
  |_=>simp[qP,h1]
 |mP=>cases mb with
  |gone=>exact h2.elim
  |_=>simp[qP,h1]
 |iD=>cases mb with
  |gone=>exact h2.elim
  |_=>simp[qP,h1]
 |cO=>cases mb with
  |gone=>exact h2.elim
  |_=>simp[qP,h1]
 |loop=>cases mb with
  |gone=>exact h2.elim
  |_=>simp[qP,h1]
theorem Kt:∀{H H1:List (PB X.Γ)},zi H H1=true->∀{i:Nat} {b:PB X.Γ},H[i]? = some b->∃b1,H1[i]? = some b1∧qP b=qP b1
 | [],H1,_,i,b,hi=>by simp at hi
 |a::H,[],h,i,b,hi=>by simp[zi]at h
 |a::H,a1::H1,h,i,b,hi=>by
  simp only[zi,a2f,a7r]at h;cases i with
  |zero=>simp only[a2r,a00]at hi;subst hi;exact⟨a1,rfl,h.1⟩
  |succ i=>obtain⟨b1,e1,e2⟩:=Kt h.2 (i:=i) (by simpa using hi);exact⟨b1,by simpa using e1,e2⟩
theorem aex{H H1:List (PB X.Γ)}{h h1:List HB}{m1:List MB}(hr:HR X P A m H h)(hr1:HR X P A m1 H1 h1)(hs:(!zi H H1)=false):∀(i:Nat),i<m.length->m1[i]? = some .gone->m[i]? = some .gone:=by
 intro i hi hg;have wY:i<H.length:=by rw[<-hr.len];exact hi
 have hb:=a0a wY;obtain⟨b1,e1,e2⟩:=Kt (by simpa using hs) hb;have:=(WS hr1 e1).2 hg;rw[<-e2]at this;exact(WS hr hb).1 this
theorem Lm{fl:Nat}{ops:Array Oper}{ps:aS X.Γ}{ts:St}(hS:SR X P A W fl m ps ts){o:Oper}{an:PT X.Γ}{k:Bool->aS X.Γ->PT X.Γ->OT ρ}(hk:(Z9 X ops ps o an k).Ends y) :
  ∃w ps1 GZ,BU ops ts.env o=some w∧SR X P A W fl m ps1 ts∧(k w ps1 GZ).Ends y∧ps1.heap=ps.heap:=by
 unfold Z9 at hk;unfold BU;split at hk
 .rename_i hg;exact⟨true,ps,an,by simp only[hg],hS,hk,rfl⟩
 .rename_i j want hg;simp only[hg];split at hk
  .rename_i d hd;simp only[hd];split at hk
   .rename_i b hb;obtain⟨ev,h1,h2⟩:=oz hS.st.env hb;obtain⟨tv,rfl,h3⟩:=fQ h2;obtain⟨t,GZ,rfl,hk⟩:=Zh hk h3;exact⟨t==want,_,GZ,by simp only[h1],hS.BD (x:=.tmp d) (by simp only[qE,Il,h1]),hk,rfl⟩
   .rename_i hb;obtain⟨ev,h1,h2⟩:=oz hS.st.env hb;have:=J3 h2;subst this;exact⟨false,ps,an,by simp only[h1],hS,hk,rfl⟩
   .exact hk.elim
  .exact hk.elim
theorem Zo(hX:bP X P)(hO:jD X P call fO){site:Nat->Bool}{fl nt:Nat}{ops:Array Oper}:∀{os:List Oper} {m:List MB} {ps:aS X.Γ} {ts:St} {an:PT X.Γ} {k:aS X.Γ->List PI->PT X.Γ->OT ρ},SR X P A W fl m ps ts->(Wv X P fO (dD X P call) site nt ops os ps an k).Ends y ->
  ∃iH is pis ps1 GZ m1,kW P call site fl nt ops os ts=some (iH,is)∧(k ps1 pis GZ).Ends y∧SR X P A W fl m1 ps1 iH∧Fr m ts.heap m1 iH.heap∧Up m m1∧IRs m ts.heap pis is∧is.length=os.length
 | [],m,ps,ts,an,k,hS,hk=>⟨ts,[],[],ps,an,m,rfl,hk,hS,.refl,.refl,.nil,rfl⟩
 |o::os,m,ps,ts,an,k,hS,hk=>by
  simp only[Wv]at hk;split at hk
  .exact hk.elim
  .rename_i hd;obtain⟨w,ps1,KR,hw,hS1,hk,hh⟩:=Lm hS hk;cases w with
   |true=>
    simp only at hk;obtain⟨pe,BZ,pi,an2,⟨ev,ts2,ti,m2,e1,e2,e3,e4,e5,e6,e7,e8,e9⟩,hk⟩:=ael hX hO hS1.st hk;have hS2:SR X P A W fl m2 (BZ.put o.dst pe) (({ ts2 with ws:=jT fl ti.ws ts.ws }).put o.dst ev):=by
     refine⟨uQ.put (ts:={ ts2 with ws:=jT fl ti.ws ts.ws }) ⟨e4.heap,e4.llen,e4.loc,e4.env⟩ e5,fun b hb=>?_,fun b hb=>?_,?_⟩
     .rcases e6.new b hb with h1|h1
      .exact hS.own b h1
      .exact .inr (a4A hS.fl h1)
     .rw[zl.2]at hb;rcases vM hb with h1|⟨h1,h2⟩
      .exact hS.ws b h1
      .rcases hS.own b (e9 b h1)with h3|h3
       .exact h3
       .omega
     .rw[zl.1];exact a4A hS.fl e6.len
    obtain⟨ts3,is,pis,ps3,an3,m3,g1,g2,g3,g4,g5,g6,g7⟩:=Zo hX hO (os:=os) hS2 hk;rw[zl.1]at g4 g6;refine⟨ts3,ti::is,_,ps3,an3,m3,?_,g2,g3,e6.trans g4,e7.trans g5,.cons hS.st.heap.nodup (fun b hb=>hS.st.heap.inb hb) ⟨e8.all,e8.tl,e8.wl,e8.wh,e8.th,e8.hp⟩ e6 e7 (aex hS1.st.heap e4.heap) g6,by simp[g7]⟩;simp only[kW,hd,hw,e1,g1];rfl
   |false=>
    simp only at hk;have hS2:SR X P A W fl m (ps1.put o.dst .undef) (ts.put o.dst .undef):=by
     refine⟨hS1.st.put trivial,hS.own,fun b hb=>?_,?_⟩
     .rw[zl.2]at hb;exact hS.ws b hb
     .rw[zl.1];exact hS.fl
    obtain⟨ts3,is,pis,ps3,an3,m3,g1,g2,g3,g4,g5,g6,g7⟩:=Zo hX hO (os:=os) hS2 hk;rw[zl.1]at g4 g6;refine⟨ts3,bY::is,_,ps3,an3,m3,?_,g2,g3,g4,g5,.cons hS.st.heap.nodup (fun b hb=>hS.st.heap.inb hb) .none .refl .refl (fun _ i _ hg=>hg) g6,by simp[g7]⟩;simp only[kW,hd,hw,g1];rfl
def dM(X:kJ)(P:LI1)(T:qx)(call:aY)(L f:Nat)(gQ:Bool)(nt B:Nat)(c:Code)(ps:aS X.Γ)(e:Ex)(ps1:aS X.Γ):Prop:=
 ∀(A W:Nat->Prop) (fl:Nat) (m:List MB) (ts:St),SR X P A W fl m ps ts->∃iH m1,exec P T call L f gQ fl nt c ts=some (e,iH)∧SR X P A W fl m1 ps1 iH∧Fr m ts.heap m1 iH.heap∧LY B m m1
theorem uQ.pick{ps:aS X.Γ}{ts:St}(hR:uQ X P A m ps ts)(live:List Nat):uQ X P A m { ps with env:=jd live ps.env } { ts with env:=Tw.pick live ts.env }:=
 ⟨hR.heap,hR.llen,hR.loc,Uj hR.env live⟩
theorem SR.pick{fl:Nat}{ps:aS X.Γ}{ts:St}(hS:SR X P A W fl m ps ts)(live:List Nat):SR X P A W fl m { ps with env:=jd live ps.env } { ts with env:=Tw.pick live ts.env }:=⟨hS.st.pick live,hS.own,hS.ws,hS.fl⟩
theorem SR.head{fl:Nat}{ps:aS X.Γ}{ts:St}(hS:SR X P A W fl m ps ts)(live:List Nat):SR X P A W fl m (gJ X live ps) (jU live ts):=by
 have h1:=hS.pick live;have ht:=ae6 h1.st.env;refine⟨⟨h1.st.heap,?_,fun k cs hk=>?_,h1.st.env⟩,h1.own,h1.ws,h1.fl⟩
 .simp only[gJ,jU,a3E];have:=h1.st.llen;simp only at this ht;omega
 simp only[gJ,jU]at hk ⊢;rw[a4g]at hk;split at hk
 .rename_i aT;obtain⟨cs',g1,g2⟩:=h1.st.loc k cs hk;refine⟨cs',?_,g2⟩;rw[a4g,a0g (by simp only at ht;omega)];exact g1
 cases hk
theorem Uo{g:St->Option (Ex×St)}:∀{k j:Nat} {s:St} {r:Ex×St},iter g k s=some r->k<=j->iter g j s=some r
 | 0,_,s,r,h,_=>by simp[iter]at h
 |k+1,j,s,r,h,hj=>by
  obtain⟨j,rfl⟩:∃i,j=i+1:=⟨j-1,by omega⟩;simp only[iter]at h ⊢;split at h
  .rename_i s1 hs;exact Uo h (by omega)
  rename_i hn;exact h
section
variable {L f:Nat} {gQ:Bool} {nt B:Nat}
theorem Lu(hX:bP X P){c:Code}{A W:Nat->Prop}{fl:Nat}{m:List MB}{ps:aS X.Γ}{ts:St}{k:Ex->aS X.Γ->PT X.Γ->OT ρ}(hS:SR X P A W fl m ps ts):∀{an:PT X.Γ},(yF X (dM X P T call L f gQ nt B) B c ps k an).Ends y ->
  ∃e iH ps1 GZ m1,exec P T call L f gQ fl nt c ts=some (e,iH)∧(k e ps1 GZ).Ends y∧SR X P A W fl m1 ps1 iH∧Fr m ts.heap m1 iH.heap∧LY B m m1:=by
 intro an
 induction an with
 |a x r=>
  intro hk;cases x with
  |loop e s'=>
   simp only[yF]at hk;obtain⟨Gm,hk⟩:=hk;obtain⟨iH,m1,h1,h2,h3,h4⟩:=Gm A W fl m ts hS;exact⟨_,iH,_,_,m1,h1,hk,h2,h3,h4⟩
  |lg gs e s'=>
   simp only[yF]at hk;split at hk
   .rename_i hgs;obtain⟨Gm,hk⟩:=hk;obtain⟨m0,e1,e2,e3⟩:=mQ hX hgs A W fl m ts hS;obtain⟨iH,m1,h1,h2,h3,h4⟩:=Gm A W fl m0 ts e1;exact⟨_,iH,_,_,m1,h1,hk,h2,e2.trans h3,e3.trans h4⟩
   .exact hk.elim
  |_=>simp only[yF]at hk;exact hk.elim
 |z c' a b iha ihb=>
  intro hk;simp only[yF]at hk;rcases hk with⟨_,hk⟩|⟨_,hk⟩
  .exact iha hk
  .exact ihb hk
 |_=>intro hk;simp only[yF]at hk;exact hk.elim
theorem vC(hX:bP X P)(hO:jD X P call fO):∀(c:Code) {A W:Nat->Prop} {fl:Nat} {m:List MB} {ps:aS X.Γ} {ts:St} {an:PT X.Γ} {k:Ex->aS X.Γ->PT X.Γ->OT ρ},SR X P A W fl m ps ts->(jL X P T fO (dD X P call) (dM X P T call L f gQ nt B) B L f gQ nt c ps an k).Ends y ->
  ∃e iH ps1 GZ m1,exec P T call L f gQ fl nt c ts=some (e,iH)∧(k e ps1 GZ).Ends y∧SR X P A W fl m1 ps1 iH∧Fr m ts.heap m1 iH.heap∧LY B m m1:=by
 intro c
 induction c with
 |skip=>intro A W fl m ps ts an k hS hk;exact⟨.norm,ts,ps,an,m,rfl,hk,hS,.refl,.refl⟩
 |label=>intro A W fl m ps ts an k hS hk;exact⟨.norm,ts,ps,an,m,rfl,hk,hS,.refl,.refl⟩
 |exit id=>intro A W fl m ps ts an k hS hk;exact⟨.exit id,ts,ps,an,m,rfl,hk,hS,.refl,.refl⟩
 |ret=>intro A W fl m ps ts an k hS hk;exact⟨.ret,ts,ps,an,m,rfl,hk,hS,.refl,.refl⟩
 |region id ops draw=>
  intro A W fl m ps ts an k hS hk;simp only[jL]at hk;obtain⟨iH,is,pis,ps1,KR,m1,g1,hk,g3,g4,g5,g6,g7⟩:=Zo hX hO hS hk;have fin:∀{an2:PT X.Γ},(!draw||(nH ops.toList&&Ba is (mG ops.toList)))=true->(k .norm { ps1 with env:=jd (T.iw f id) ps1.env } an2).Ends y->∃e iH ps1 GZ m1,exec P T call L f gQ fl nt (.region id ops draw) ts=some (e,iH)∧(k e ps1 GZ).Ends y∧SR X P A W fl m1 ps1 iH∧Fr m ts.heap m1 iH.heap∧LY B m m1:=by intro an2 hc hk;exact⟨.norm,{ iH with env:=Tw.pick (T.iw f id) iH.env },_,an2,m1,by simp only[exec,g1,hc,a1U],hk,g3.pick _,g4,g5.b⟩
  cases draw with
  |false=>exact fin rfl hk
  |true=>
   simp only at hk;split at hk
   .rename_i r;split at hk
    .rename_i F8;obtain⟨uN,hk⟩:=hk;refine fin ?_ hk;rw[uN];simp only[a8N,ag6,adf];refine RQ (fun t ht=>?_) fun q hq=>by rw[g7];exact aes q hq
     have key:∀{ps:List PI} {ts:List lN} {m:List MB} {h:List HB},IRs m h ps ts->(ps.all fun i=>i.i.ws.isEmpty&&!i.wall)=true->∀t∈ts,t.ws=[]:=by
      intro ps ts m h hI
      induction hI with
      |nil=>intro _ t ht;cases ht
      |cons _ _ i1 _ _ _ _ ih=>
       intro ha t ht;simp only[abC,a2f,List.isEmpty_iff,a8C]at ha;rcases a2d.1 ht with rfl|ht
       .refine a4Y.2 fun x hx=>?_;cases x with
        |l j=>have:=i1.wl j hx;rw[ha.1.1]at this;cases this
        |h b=>
         rcases i1.wh b hx with⟨i,h1,_⟩|⟨h1,_⟩
         .rw[ha.1.1]at h1;cases h1
         .rw[ha.1.2]at h1;cases h1
       .exact ih ha.2 t ht
     exact key g6 F8 t ht
    .exact hk.elim
   .split at hk
    .rename_i hc;simp only[a2f]at hc;refine fin ?_ hk;rw[hc.1,a5Z g6 aer hc.2];rfl
    .exact hk.elim
 |seq a b iha ihb=>
  intro A W fl m ps ts an k hS hk;simp only[jL]at hk;obtain⟨e,iH,ps1,KR,m1,h1,hk,h3,h4,h5⟩:=iha hS hk;cases e with
  |norm=>
   obtain⟨e2,ts2,BZ,an2,m2,g1,g2,g3,g4,g5⟩:=ihb h3 hk;exact⟨e2,ts2,BZ,an2,m2,by simp only[exec,h1,g1],g2,g3,h4.trans g4,h5.trans g5⟩
  |exit id=>exact⟨_,iH,ps1,KR,m1,by simp only[exec,h1],hk,h3,h4,h5⟩
  |ret=>exact⟨_,iH,ps1,KR,m1,by simp only[exec,h1],hk,h3,h4,h5⟩
 |cond c a b iha ihb=>
  intro A W fl m ps ts an k hS hk;simp only[jL]at hk;split at hk
  .rename_i u hu;obtain⟨tu,h1,h2⟩:=WA hS.st.env hu;obtain⟨t,GZ,rfl,hk⟩:=Zh hk h2;cases t with
   |true=>
    obtain⟨e,iH,ps1,KR,m1,g1,g2,g3,g4,g5⟩:=iha (hS.BD h1) hk;exact⟨e,iH,ps1,KR,m1,by simp only[exec,h1,g1],g2,g3,g4,g5⟩
   |false=>
    obtain⟨e,iH,ps1,KR,m1,g1,g2,g3,g4,g5⟩:=ihb (hS.BD h1) hk;exact⟨e,iH,ps1,KR,m1,by simp only[exec,h1,g1],g2,g3,g4,g5⟩
  .exact hk.elim
 |block id b ih=>
  intro A W fl m ps ts an k hS hk;simp only[jL]at hk;obtain⟨e,iH,ps1,KR,m1,h1,hk,h3,h4,h5⟩:=ih hS hk;cases e with
  |norm=>exact⟨_,iH,ps1,KR,m1,by simp only[exec,h1],hk,h3,h4,h5⟩
  |ret=>exact⟨_,iH,ps1,KR,m1,by simp only[exec,h1],hk,h3,h4,h5⟩
  |exit i=>exact⟨_,iH,ps1,KR,m1,by simp only[exec,h1],hk,h3,h4,h5⟩
 |scope b ih=>
  intro A W fl m ps ts an k hS hk;simp only[jL]at hk;obtain⟨e,iH,ps1,KR,m1,h1,hk,h3,h4,h5⟩:=ih hS hk;exact⟨e,iH,ps1,KR,m1,by simp only[exec,h1],hk,h3,h4,h5⟩
 |loop b ih=>
  intro A W fl m ps ts an k hS hk;simp only[jL]at hk;split at hk
  .rename_i j r;obtain⟨hj,hk⟩:=hk;have go:∀(j:Nat) {m:List MB} {ps:aS X.Γ} {ts:St} {an:PT X.Γ},SR X P A W fl m ps ts->(Ug X (fun s an k=>jL X P T fO (dD X P call) (dM X P T call L f gQ nt B) B L f gQ nt b (gJ X (T.eX f (dQ b)) s) an k) j ps an k).Ends y ->
     ∃e iH ps1 GZ m1,iter (fun s=>exec P T call L f gQ fl nt b (jU (T.eX f (dQ b)) s)) j ts=some (e,iH)∧(k e ps1 GZ).Ends y∧SR X P A W fl m1 ps1 iH∧Fr m ts.heap m1 iH.heap∧LY B m m1:=by
    intro j
    induction j with
    |zero=>intro m ps ts an _ hk;exact hk.elim
    |succ j ihj=>
     intro m ps ts an hS hk;simp only[Ug]at hk;obtain⟨e,iH,ps1,KR,m1,h1,hk,h3,h4,h5⟩:=ih (hS.head _) hk;cases e with
     |norm=>
      obtain⟨e2,ts2,BZ,an2,m2,g1,g2,g3,g4,g5⟩:=ihj h3 hk;exact⟨e2,ts2,BZ,an2,m2,by simp only[iter,h1,g1],g2,g3,h4.trans g4,h5.trans g5⟩
     |exit id=>exact⟨_,iH,ps1,KR,m1,by simp only[iter,h1],hk,h3,h4,h5⟩
     |ret=>exact⟨_,iH,ps1,KR,m1,by simp only[iter,h1],hk,h3,h4,h5⟩
   obtain⟨e,iH,ps1,KR,m1,h1,h2,h3,h4,h5⟩:=go j hS hk;exact⟨e,iH,ps1,KR,m1,by simp only[exec];exact Uo h1 hj,h2,h3,h4,h5⟩
  .exact Lu hX hS hk
 |rangeFunc g qs uJ body iha ihb=>
  intro A W fl m ps ts an k hS hk;simp only[jL]at hk;exact Lu hX hS hk
 |_=>intro A W fl m ps ts an k hS hk;simp only[jL]at hk;exact hk.elim
end
end
section
variable {X:kJ} {P:LI1} {T:qx} {A W:Nat->Prop} {m m':List MB}
variable {call:aY} {fO:eY X.Γ} {L:Nat}
def BJ(P:LI1)(f:Nat):Nat:=match TA P f with
 |some t=>t.nt
 |none=>0
abbrev Bj(X:kJ)(P:LI1)(T:qx)(call:aY)(L f B:Nat):a0K X.Γ:=dM X P T call L f false (BJ P f) B
theorem LZ{A:Nat->Prop}{h:List HB}:∀{k:Nat} {vs:List (PV X.Γ)} {xs:List TV},bU X P A m h vs xs->jS X P A m h (kT X k vs) (nI k xs)
 |k,[],xs,hv=>by rw[hv.inv0];exact .nil
 |k,v::vs,xs,hv=>by obtain⟨x,r,rfl,h1,h2⟩:=hv.inv;exact .cons h1 (LZ h2)
theorem IL(hX:bP X P){ps:aS X.Γ}{ts:St}(hR:uQ X P A m ps ts):∀{rs:List ResultVar} {vs:List (PV X.Γ)},EI X P ps rs=some vs->∃ws,xG P ts rs=some ws∧bU X P (AA A m) m ts.heap vs ws
 | [],vs,h=>by simp only[EI,a00]at h;subst h;exact⟨[],rfl,.nil⟩
 |r::rs,vs,h=>by
  simp only[EI]at h;split at h
  rotate_left
  .cases h
  rename_i v vs' h1 h2;cases h;obtain⟨ws,g1,g2⟩:=IL hX hR h2;have:∃w,a4t P ts r=some w∧VR X P (AA A m) m ts.heap v w:=by
   unfold ai0 at h1;unfold a4t;split at h1
   .rename_i t;split at h1
    .rename_i u hu;cases h1;obtain⟨ev,e1,e2⟩:=oz hR.env hu;obtain⟨w,rfl,e3⟩:=fQ e2;exact⟨w,by simp only[e1],GH e3⟩
    cases h1
   rename_i a t;split at h1
   .rename_i pa ha;simp only[a05]at h1;obtain⟨⟨u,i⟩,e1,rfl⟩:=h1;obtain⟨ev,e2,e3⟩:=oz hR.env ha;obtain⟨w,ti,e4,e5,_,_⟩:=G7 hX hR e3 e1;exact⟨w,by simp only[e2,e4,a0j],e5⟩
   cases h1
  obtain⟨w,g3,g4⟩:=this;exact⟨w::ws,by simp only[xG,g3,g1],.cons g4 g2⟩
theorem Ur{A:Nat->Prop}{h:List HB}{vs:List (PV X.Γ)}{ws:List TV}(hv:bU X P A m h vs ws):VR X P A m h (Zb X vs) (one ws):=by
 match vs,ws,hv with
 | [],ws,hv=>rw[hv.inv0];exact .dG rfl (by simp)
 | [v],ws,hv=>
  obtain⟨x,r,rfl,h1,h2⟩:=hv.inv;have:=h2.inv0;subst this;exact h1
 |v::u::vs,ws,hv=>
  obtain⟨x,r,rfl,h1,h2⟩:=hv.inv;obtain⟨z,r,rfl,h3,h4⟩:=h2.inv;exact .dG hv.1 hv.2
theorem a6c(hX:bP X P)(hO:jD X P call fO){f:Nat}{vs:List (PV X.Γ)}{H:List (PB X.Γ)}{an:PT X.Γ}{v:PV X.Γ}{H1:List (PB X.Γ)}(hk:(CO X P T fO (dD X P call) (Bj X P T call L f H.length) L f vs H an).Ends (v,H1))
  {h:List HB} (hr:HR X P A m H h) {xs:List TV} (hv:bU X P (AA A m) m h vs xs):∃w h1 ws m1,U6 P T call L f xs h=some (w,h1,ws)∧HR X P A m1 H1 h1∧VR X P (AA A m1) m1 h1 v w∧Fr m h m1 h1∧LY H.length m m1∧(∀b∈ws,b∈bg m)∧¬(T.exts.contains f||T.dem.contains f)=true:=by
 unfold CO at hk;split at hk
 .rename_i t ht;have hnx:¬(T.exts.contains f||T.dem.contains f)=true:=fun hx=>by rw[a0g hx]at ht;cases ht
  rw[a0c hnx]at ht;have hnt:BJ P f=t.nt:=by unfold BJ;rw[ht]
  have hS:SR X P A (fun b=>b∈bg m) h.length m ⟨kT X 0 vs,[],H⟩ ⟨nI 0 xs,[],h,[]⟩:=
   ⟨⟨hr,rfl,fun k cs hk=>by simp at hk,LZ hv⟩,fun b hb=>.inl hb,fun b hb=>(by cases hb),a0U _⟩
  rw[show Bj X P T call L f H.length=dM X P T call L f false t.nt H.length by unfold Bj;rw[hnt]]at hk;obtain⟨e,iH,ps1,KR,m1,h1,hk,h3,h4,h5⟩:=vC hX hO t.body hS hk;have fin:∀{e:Ex},exec P T call L f false h.length t.nt t.body ⟨nI 0 xs,[],h,[]⟩=some (e,iH)->(e=.norm∨e=.ret)->∀{us:List (PV X.Γ)},EI X P ps1 t.results=some us->(Zb X us,ps1.heap)=(v,H1)->∃w h1 ws m1,U6 P T call L f xs h=some (w,h1,ws)∧HR X P A m1 H1 h1∧VR X P (AA A m1) m1 h1 v w∧Fr m h m1 h1∧LY H.length m m1∧(∀b∈ws,b∈bg m)∧¬(T.exts.contains f||T.dem.contains f)=true:=by intro e he hee us hus hv;cases hv;obtain⟨ws,g1,g2⟩:=IL hX h3.st hus;refine⟨one ws,iH.heap,iH.ws,m1,?_,h3.st.heap,Ur g2,h4,h5,h3.ws,hnx⟩;unfold U6;rcases hee with rfl|rfl<;>simp only[ht,he,g1]
  cases e with
  |exit id=>exact hk.elim
  |norm=>
   cases KR with
   |n=>
    simp only at hk;split at hk
    .rename_i us hus;exact fin h1 (.inl rfl) hus hk
    .exact hk.elim
   |_=>exact hk.elim
  |ret=>
   cases KR with
   |n=>
    simp only at hk;split at hk
    .rename_i us hus;exact fin h1 (.inr rfl) hus hk
    .exact hk.elim
   |_=>exact hk.elim
 .exact hk.elim
theorem Zp(hX:bP X P){n f:Nat}(hn:0<n)(hO:jD X P (kR P T L (n-1)) fO){vs:List (PV X.Γ)}{an:PT X.Γ}{v:PV X.Γ}{ext:List (PB X.Γ)}
  (hk:(CO X P T fO (dD X P (kR P T L (n-1))) (Bj X P T (kR P T L (n-1)) L f 0) L f vs [] an).Ends (v,ext)):nY X P (kR P T L n) f vs v ext:=by
 intro A h first args cap Ir hv
 have hr:HR X P A [] [] h:=⟨rfl,fun i b hb=>by simp at hb,by simp[bg],Ir,fun b hb=>by simp[bg]at hb⟩;obtain⟨w,h1,ws,m1,g1,g2,g3,g4,_,g6,g7⟩:=a6c hX hO (H:=[]) hk hr (hv.mono fun b hb=>⟨hb,by simp[bg]⟩);obtain⟨n,rfl⟩:∃j,n=j+1:=⟨n-1,by omega⟩;have:ws=[]:=a4Y.2 fun x hx=>by have:=g6 x hx;simp[bg]at this
 subst this;exact⟨w,h1,m1,by simp only[kR];simp only[a8Q,adl]at g7;rw[a0c g7.1,a0c g7.2];exact g1,g2,g3,g4⟩
theorem a6d(hX:bP X P){n f:Nat}(hn:0<n)(hO:jD X P (kR P T L (n-1)) fO){first xs cap:List (PV X.Γ)}{H H1:List (PB X.Γ)}{an:PT X.Γ}{v:PV X.Γ}
  (hk:(CO X P T fO (dD X P (kR P T L (n-1))) (Bj X P T (kR P T L (n-1)) L f H.length) L f (first++xs++cap) H an).Ends (v,H1)):dD X P (kR P T L n) (.fn f first cap) xs H v H1:=by
 intro A m h tf qU hr hf hx;obtain⟨n,rfl⟩:∃j,n=j+1:=⟨n-1,by omega⟩;cases hf with
 |gone hi _ _=>simp[bn]at hi
 |fn p1 p2 p3 p4=>
  obtain⟨w,h1,ws,m1,g1,g2,g3,g4,g5,g6,g7⟩:=a6c hX hO hk hr ((bU.app ⟨p1,p2⟩ hx).app ⟨p3,p4⟩);refine⟨w,h1,ws,m1,by simp only[kR];simp only[a8Q,adl]at g7;rw[a0c g7.1,a0c g7.2];exact g1,g2,g3,g4,fun i mb hi=>g5 i mb ?_ hi,g6⟩;rw[<-hr.len];exact(a01.1 hi).1
def aez:Ex->aS X.Γ->PT X.Γ->OT (Ex×aS X.Γ):=fun e s an=>match an with
 |.n=>.ret (e,s)
 |_=>.bad
section
variable {f nt B:Nat} {gQ:Bool}
theorem WT(hX:bP X P)(hO:jD X P call fO){c:Code}{ps:aS X.Γ}{an:PT X.Γ}{e:Ex}{ps1:aS X.Γ}(hk:(jL X P T fO (dD X P call) (dM X P T call L f gQ nt B) B L f gQ nt c ps an aez).Ends (e,ps1)):dM X P T call L f gQ nt B c ps e ps1:=by
 intro A W fl m ts hS;obtain⟨e1,iH,BZ,KR,m1,h1,h2,h3,h4,h5⟩:=vC hX hO c hS hk;cases KR with
 |n=>cases h2;exact⟨iH,m1,h1,h3,h4,h5⟩
 |_=>exact h2.elim
end
end
def OT.map{ρ σ:Type}(f:ρ->σ):OT ρ->OT σ
 |.bad=>.bad
 |.ret r=>.ret (f r)
 |.o p r=>.o p (r.map f)
 |.br c t e=>.br c (t.map f) (e.map f)
theorem OT.H6{ρ σ:Type}{f:ρ->σ}{y:σ}:∀{o:OT ρ},(o.map f).Ends y->∃r,o.Ends r∧f r=y
 |.bad,h=>h.elim
 |.ret r,h=>⟨r,rfl,h⟩
 |.o p r,h=>by obtain⟨x,h1,h2⟩:=OT.H6 h.2;exact⟨x,⟨h.1,h1⟩,h2⟩
 |.br c t e,h=>by
  rcases h with⟨h0,h⟩|⟨h0,h⟩
  .obtain⟨x,h1,h2⟩:=OT.H6 h;exact⟨x,.inl ⟨h0,h1⟩,h2⟩
  obtain⟨x,h1,h2⟩:=OT.H6 h;exact⟨x,.inr ⟨h0,h1⟩,h2⟩
inductive Fp{Γ:Nat->Type}{ρ:Type}(R:ρ->Prop):PT Γ->OT ρ->Prop where
 |r {v:ρ} (h:R v):Fp R .n (.ret v)
 |g {v:ρ} (gs:List G) (h:R v):Fp R (.a (.lg gs .norm ⟨[],[],[]⟩) .n) (.ret v)
 |o {p:Prop} {an:PT Γ} {o:OT ρ} (h:p) (f:Fp R an o):Fp R an (.o p o)
 |s {c:Bool} {a b:PT Γ} {x y:OT ρ} (f:c=true->Fp R a x) (g:c=false->Fp R b y):Fp R (.s a b) (.br c x y)
 |z {c:Bool} {a b:PT Γ} {x y:OT ρ} (f:c=true->Fp R a x) (g:c=false->Fp R b y):Fp R (.z c a b) (.br c x y)
 |b {c t:Bool} {an:PT Γ} {o:OT ρ} (h:c=t) (f:Fp R an o):Fp R (.a (.br t) an) (.o (c=t) o)
 |q {p:Prop} {an:PT Γ} {o:OT ρ} (w:TV) (h:p) (f:Fp R an o):Fp R (.a (.rd w) an) (.o p o)
 |c {p:Prop} {an:PT Γ} {o:OT ρ} (v:PV Γ) (H:List (PB Γ)) (h:p) (f:Fp R an o):Fp R (.a (.call v H) an) (.o p o)
 |kf {p:Prop} {an:PT Γ} {o:OT ρ} (ks:List Nat) (v:PV Γ) (H:List (PB Γ)) (h:p) (f:Fp R an o):Fp R (.a (.fr ks v H) an) (.o p o)
 |kg {p:Prop} {an:PT Γ} {o:OT ρ} (ks rs:List Nat) (v:PV Γ) (H:List (PB Γ)) (h:p) (f:Fp R an o):Fp R (.a (.Qe ks rs v H) an) (.o p o)
 |l {p:Prop} {an:PT Γ} {o:OT ρ} (gs:List G) (e:Ex) (s:aS Γ) (h:p) (f:Fp R an o):Fp R (.a (.lg gs e s) an) (.o p o)
 |f {p:Prop} {an:PT Γ} {o:OT ρ} (e:Ex) (s:aS Γ) (h:p) (f:Fp R an o):Fp R (.a (.loop e s) an) (.o p o)
 |m {p:Prop} {an:PT Γ} {o:OT ρ} (k:Nat) (h:p) (f:Fp R an o):Fp R (.l k an) (.o p o)
 |a {an:PT Γ} {o:OT ρ} (x:PA Γ) (f:Fp R an o):Fp R (.a x an) o
theorem Fp.aO{Γ:Nat->Type}{ρ:Type}{R:ρ->Prop}{an:PT Γ}{o:OT ρ}(h:Fp R an o):∃y,o.Ends y∧R y:=by
 induction h with
 |r h=>exact⟨_,rfl,h⟩
 |g _ h=>exact⟨_,rfl,h⟩
 |s _ _ i1 i2=>
  rename_i c _ _ _ _ _ _;cases c with
  |true=>obtain⟨y,h1,h2⟩:=i1 rfl;exact⟨y,.inl ⟨rfl,h1⟩,h2⟩
  |false=>obtain⟨y,h1,h2⟩:=i2 rfl;exact⟨y,.inr ⟨rfl,h1⟩,h2⟩
 |z _ _ i1 i2=>
  rename_i c _ _ _ _ _ _;cases c with
  |true=>obtain⟨y,h1,h2⟩:=i1 rfl;exact⟨y,.inl ⟨rfl,h1⟩,h2⟩
  |false=>obtain⟨y,h1,h2⟩:=i2 rfl;exact⟨y,.inr ⟨rfl,h1⟩,h2⟩
 |a _ _ i=>exact i
 |o h _ i=>obtain⟨y,h1,h2⟩:=i;exact⟨y,⟨h,h1⟩,h2⟩
 |b h _ i=>obtain⟨y,h1,h2⟩:=i;exact⟨y,⟨h,h1⟩,h2⟩
 |q _ h _ i=>obtain⟨y,h1,h2⟩:=i;exact⟨y,⟨h,h1⟩,h2⟩
 |c _ _ h _ i=>obtain⟨y,h1,h2⟩:=i;exact⟨y,⟨h,h1⟩,h2⟩
 |kg _ _ _ _ h _ i=>obtain⟨y,h1,h2⟩:=i;exact⟨y,⟨h,h1⟩,h2⟩
 |kf _ _ _ h _ i=>obtain⟨y,h1,h2⟩:=i;exact⟨y,⟨h,h1⟩,h2⟩
 |l _ _ _ h _ i=>obtain⟨y,h1,h2⟩:=i;exact⟨y,⟨h,h1⟩,h2⟩
 |f _ _ h _ i=>obtain⟨y,h1,h2⟩:=i;exact⟨y,⟨h,h1⟩,h2⟩
 |m _ h _ i=>obtain⟨y,h1,h2⟩:=i;exact⟨y,⟨h,h1⟩,h2⟩
section
variable {X:kJ} {P:LI1} {T:qx} {L:Nat}
def frz(r:PV X.Γ×List (PB X.Γ)):Option (PV X.Γ):=view r.2 r.1
theorem WU(hX:bP X P){call:aY}{f:FuncId}{vs:List (PV X.Γ)}{v w:PV X.Γ}{ext:List (PB X.Γ)}(hc:nY X P call f vs v ext)(hw:view ext v=some w):nY X P call f vs w []:=by
 intro A h first args cap Ir hv
 obtain⟨x,h',m',c1,c2,c3,c4⟩:=hc A h first args cap Ir hv
 refine⟨x,h',[],c1,⟨rfl,fun i b hb=>by simp at hb,by simp[bg],c2.up,fun b hb=>by simp[bg]at hb⟩,?_,?_⟩
 .refine(Uk (m':=[]) hX c2 c3 hw (is:=kP v) fun i hi=>hi).mono fun b hb=>⟨?_,by simp[bg]⟩;rcases hb with hb|⟨i,mb,h1,h2,h3⟩
  .exact hb.1
  exact c2.CQ b (aZ h2 h3)
 exact⟨c4.len,fun b hb hn=>c4.same b hb hn,fun b hb=>by simp[bg]at hb,c4.grow⟩
def aeA(hd:aS X.Γ->aS X.Γ)(B:Nat):Ex->aS X.Γ->PT X.Γ->OT (Ex×aS X.Γ):=fun e s an=>match an with
 |.n=>match e with
  |.norm=>.ret (.norm,hd s)
  |e=>.ret (e,s)
 |.a (.lg gs _ _) .n=>match e with
  |.norm=>match l7 B gs (hd s)with
   |some s=>.ret (.norm,s)
   |none=>.bad
  |e=>match l7 B gs s with
   |some s=>.ret (e,s)
   |none=>.bad
 |_=>.bad
section
variable {f nt B:Nat} {gQ:Bool} {call:aY} {fO:eY X.Γ}
def dI(X:kJ)(P:LI1)(T:qx)(call:aY)(L f:Nat)(gQ:Bool)(nt B:Nat)(b:Code)(n:Nat)(ps:aS X.Γ)(e:Ex)(ps1:aS X.Γ):Prop:=
 ∀(A W:Nat->Prop) (fl:Nat) (m:List MB) (ts:St),SR X P A W fl m ps (jU (T.eX f (dQ b)) ts)->∃iH m1,iter (fun s=>exec P T call L f gQ fl nt b (jU (T.eX f (dQ b)) s)) n ts=some (e,iH)∧SR X P A W fl m1 ps1 iH∧Fr m ts.heap m1 iH.heap∧LY B m m1
theorem Us{b:Code}{n k:Nat}{ps:aS X.Γ}{e:Ex}{ps1:aS X.Γ}(h:dI X P T call L f gQ nt B b n ps e ps1)(hk:n<=k):dI X P T call L f gQ nt B b k ps e ps1:=fun A W fl m ts hS=>by obtain⟨iH,m1,h1,h2⟩:=h A W fl m ts hS;exact⟨iH,m1,Uo h1 hk,h2⟩
theorem zn{b:Code}{n:Nat}{s0 ps:aS X.Γ}{e:Ex}{ps1:aS X.Γ}(h:dI X P T call L f gQ nt B b n ps e ps1)(h0:gJ X (T.eX f (dQ b)) s0=ps)(hn:n<=L):dM X P T call L f gQ nt B (.loop b) s0 e ps1:=fun A W fl m ts hS=>by obtain⟨iH,m1,h1,h2⟩:=Us h hn A W fl m ts (by rw[<-h0];exact hS.head _);exact⟨iH,m1,by simp only[exec];exact h1,h2⟩
def Rnd(X:kJ)(P:LI1)(T:qx)(call:aY)(L f:Nat)(gQ:Bool)(nt B:Nat)(b:Code)(n:Nat)(e:Ex)(s:aS X.Γ):Ex×aS X.Γ->Prop
 |(.norm,s')=>dI X P T call L f gQ nt B b n s' e s
 |(e',s')=>e'=e∧s'=s
theorem a13{b:Code}{n:Nat}{e e':Ex}{s s':aS X.Γ}(hn:e'≠.norm)(h:Rnd X P T call L f gQ nt B b n e s (e',s')):e'=e∧s'=s:=by
 cases e' with
 |norm=>exact absurd rfl hn
 |exit id=>exact h
 |ret=>exact h
theorem round(hX:bP X P)(hO:jD X P call fO){b:Code}{n:Nat}{ps:aS X.Γ}{an:PT X.Γ}{e:Ex}{s:aS X.Γ}{o:OT (Ex×aS X.Γ)}
  (hk:jL X P T fO (dD X P call) (dM X P T call L f gQ nt B) B L f gQ nt b ps an (aeA (gJ X (T.eX f (dQ b))) B)=o) (ht:Fp (Rnd X P T call L f gQ nt B b n e s) an o):dI X P T call L f gQ nt B b (n+1) ps e s:=by
 obtain⟨⟨e',s'⟩,h1,h2⟩:=ht.aO;rw[<-hk]at h1;intro A W fl m ts hS;obtain⟨e1,iH,BZ,KR,m1,g1,g2,g3,g4,g5⟩:=vC hX hO b hS h1;have out:∀{e1:Ex} {m2:List MB},exec P T call L f gQ fl nt b (jU (T.eX f (dQ b)) ts)=some (e1,iH)->e1≠.norm->e1=e∧s'=s->SR X P A W fl m2 s' iH->Fr m ts.heap m2 iH.heap->LY B m m2->∃iH m1,iter (fun s=>exec P T call L f gQ fl nt b (jU (T.eX f (dQ b)) s)) (n+1) ts=some (e,iH)∧SR X P A W fl m1 s iH∧Fr m ts.heap m1 iH.heap∧LY B m m1:=by
  intro e1 m2 ge hn hh q1 q2 q3;obtain⟨rfl,rfl⟩:=hh;refine⟨iH,m2,?_,q1,q2,q3⟩;cases e1 with
  |norm=>exact absurd rfl hn
  |exit id=>simp only[iter,ge]
  |ret=>simp only[iter,ge]
 have on:∀{m2:List MB},exec P T call L f gQ fl nt b (jU (T.eX f (dQ b)) ts)=some (.norm,iH)->SR X P A W fl m2 s' (jU (T.eX f (dQ b)) iH)->Fr m ts.heap m2 iH.heap->LY B m m2->dI X P T call L f gQ nt B b n s' e s->∃iH m1,iter (fun s=>exec P T call L f gQ fl nt b (jU (T.eX f (dQ b)) s)) (n+1) ts=some (e,iH)∧SR X P A W fl m1 s iH∧Fr m ts.heap m1 iH.heap∧LY B m m1:=by intro m2 ge q1 q2 q3 hr;obtain⟨ts2,m3,r1,r2,r3,r4⟩:=hr A W fl m2 iH q1;exact⟨ts2,m3,by simp only[iter,ge,r1],r2,q2.trans r3,q3.trans r4⟩
 unfold aeA at g2;split at g2
 .split at g2
  .cases g2;exact on g1 (g3.head _) g4 g5 h2
  .rename_i e1 iq;cases g2;exact out g1 (fun h=>iq h) (a13 (fun h=>iq h) h2) g3 g4 g5
 .split at g2
  .split at g2
   .rename_i hg;cases g2;obtain⟨m2,q1,q2,q3⟩:=mQ hX hg _ _ _ _ _ (g3.head _);exact on g1 q1 (g4.trans q2) (g5.trans q3) h2
   .exact g2.elim
  .rename_i e1 iq;split at g2
   .rename_i hg;cases g2;obtain⟨m2,q1,q2,q3⟩:=mQ hX hg _ _ _ _ _ g3;exact out g1 (fun h=>iq h) (a13 (fun h=>iq h) h2) q1 (g4.trans q2) (g5.trans q3)
   .exact g2.elim
 .exact g2.elim
end
structure Ar(X:kJ)(P:LI1)(α:Type) where
 put:α->PV X.Γ
 get:PV X.Γ->Option α
 ok:∀{v:PV X.Γ} {a:α},get v=some a->∀{A:Nat->Prop} {m:List MB} {h:List HB} {x:TV},VR X P A m h v x->VR X P A m h (put a) x
structure Ut(X:kJ)(P:LI1)(α:Type) where
 put:α->List (PV X.Γ)
 get:List (PV X.Γ)->Option α
 ok:∀{v:List (PV X.Γ)} {a:α},get v=some a->∀{A:Nat->Prop} {m:List MB} {h:List HB} {x:List TV},bU X P A m h v x->bU X P A m h (put a) x
def aeB(k:IntKind):Ar X P Int where
 put n:=.int k n
 get v:=match v with
  |.int k' n=>if k'=k then some n else none
  |_=>none
 ok:=by
  intro v a hg A m h x hv;split at hg
  .split at hg
   .rename_i e;subst e;cases hg;exact hv
   .cases hg
  .cases hg
def aiq:Ar X P Bool where
 put n:=.bool n
 get v:=match v with
  |.bool n=>some n
  |.lit n=>some n
  |_=>none
 ok:=by
  intro v a hg A m h x hv;split at hg
  .cases hg;exact hv
  .cases hg;exact GH hv
  .cases hg
theorem VR.less{A:Nat->Prop}{m:List MB}{h:List HB}{t:Nat}{l:List (X.Γ t)}{fu:Bool}{x:TV}(hv:VR X P A m h (.dB t l fu) x):VR X P A m h (.dB t l false) x:=by
 cases hv with
 |gone hi _ _=>simp[bn]at hi
 |oW=>exact .oW
 |dB a c c2 s z o k f e r=>exact .dB a c c2 s z o k (fun h=>by cases h) e r
def a6e(t:Nat):Ar X P (List (X.Γ t)) where
 put l:=.dB t l false
 get v:=match v with
  |.dB t' l _=>Bg t t' l
  |.nil .aP=>some []
  |_=>none
 ok:=by
  intro v a hg A m h x hv;split at hg
  .obtain⟨rfl,rfl⟩:=qQ hg;exact hv.less
  .cases hg;cases hv with
   |nil=>exact .oW
   |gone hi _ _=>simp[bn]at hi
  .cases hg
def air(hX:bP X P)(t:Nat):Ar X P (X.Γ t) where
 put a:=.agg (X.enc t a)
 get v:=match v with
  |.agg cs=>X.dec t cs
  |_=>none
 ok:=by
  intro v a hg A m h x hv;split at hg
  .cases hv with
   |gone hi _ _=>simp[bn]at hi
   |agg h1 h2=>obtain⟨h3,h4⟩:=hX.dec hg ⟨h1,h2⟩;exact .agg h3 h4
  .cases hg
def fnA(f:FuncId):Ar X P Unit where
 put _:=.fn f [] []
 get v:=match v with
  |.fn g [] []=>if g=f then some ()else none
  |_=>none
 ok:=by
  intro v a hg A m h x hv;split at hg
  .split at hg
   .rename_i e;subst e;exact hv
   .cases hg
  .cases hg
def aeC:Ut X P Unit where
 put _:=[]
 get v:=match v with
  | []=>some ()
  |_=>none
 ok:=by
  intro v a hg A m h x hv;split at hg
  .exact hv
  .cases hg
def KT{α β:Type}(a:Ar X P α)(l:Ut X P β):Ut X P (α×β) where
 put x:=a.put x.1::l.put x.2
 get v:=match v with
  |v::vs=>match a.get v,l.get vs with
   |some x,some y=>some (x,y)
   |_,_=>none
  |_=>none
 ok:=by
  intro v x hg A m h xs hv;split at hg
  .split at hg
   .rename_i e1 e2;cases hg;obtain⟨y,r,rfl,h1,h2⟩:=hv.inv;exact .cons (a.ok e1 h1) (l.ok e2 h2)
   .cases hg
  .cases hg
def ais{α:Type}(a:Ar X P α):Ut X P α where
 put x:=[a.put x]
 get v:=match v with
  | [v]=>a.get v
  |_=>none
 ok:=by
  intro v x hg A m h xs hv;split at hg
  .obtain⟨y,r,rfl,h1,h2⟩:=hv.inv;have:=h2.inv0;subst this;exact .cons (a.ok hg h1) .nil
  .cases hg
def dR{α:Type}(l:Ut X P α):Ar X P α where
 put x:=.dG (l.put x)
 get v:=match v with
  |.dG cs=>l.get cs
  |_=>none
 ok:=by
  intro v x hg A m h xs hv;split at hg
  .cases hv with
   |gone hi _ _=>simp[bn]at hi
   |dG h1 h2=>obtain⟨h3,h4⟩:=l.ok hg ⟨h1,h2⟩;exact .dG h3 h4
  .cases hg
def a6f{α:Type}(l:Ut X P α):Ar X P α where
 put x:=.agg (l.put x)
 get v:=match v with
  |.agg cs=>l.get cs
  |_=>none
 ok:=by
  intro v x hg A m h xs hv;split at hg
  .cases hv with
   |gone hi _ _=>simp[bn]at hi
   |agg h1 h2=>obtain⟨h3,h4⟩:=l.ok hg ⟨h1,h2⟩;exact .agg h3 h4
  .cases hg
def aeD{α β:Type}(a:Ar X P α)(f:α->β)(g:β->α)(hgf:∀x,g (f x)=x):Ar X P β where
 put x:=a.put (g x)
 get v:=match a.get v with
  |some x=>some (f x)
  |none=>none
 ok:=by
  intro v x hg A m h xs hv;split at hg
  .rename_i y hy;cases hg;rw[hgf];exact a.ok hy hv
  .cases hg
def Good(X:kJ)(P:LI1)(T:qx)(L:Nat)(fO:eY X.Γ):Prop:=∃N,∀n,N<=n->jD X P (kR P T L n) fO
def a9O:eY X.Γ:=fun _ _=>none
def bT{α β:Type}(f:FuncId)(a:Ut X P α)(r:Ar X P β)(S:α->β)(pre:α->List Prop)(fO:eY X.Γ):eY X.Γ:=fun g vs=>
 match Nat.beq g f with
 |true=>match a.get vs with
  |some x=>some (r.put (S x),[],pre x)
  |none=>fO g vs
 |false=>fO g vs
theorem Good.nil:Good X P T L (a9O (X:=X)):=⟨0,fun n _ f vs v ext ps h=>by cases h⟩
theorem Good.add{α β:Type}{f:FuncId}{a:Ut X P α}{r:Ar X P β}{S:α->β}{pre:α->List Prop}{fO:eY X.Γ}(hg:Good X P T L fO)
  (hf:∀n,jD X P (kR P T L n) fO->∀x,(∀p∈pre x,p)->nY X P (kR P T L (n+1)) f (a.put x) (r.put (S x)) []):Good X P T L (bT f a r S pre fO):=by
 obtain⟨N,hN⟩:=hg;refine⟨N+1,fun n hn=>?_⟩;obtain⟨k,rfl⟩:∃k,n=k+1:=⟨n-1,by omega⟩;intro g vs v ext ps ho hp;unfold bT at ho;split at ho
 .rename_i e;have e:=a8K e;subst e;split at ho
  .rename_i x hx;cases ho;intro A h first args cap Ir hv
   exact hf k (hN k (by omega)) x hp A h first args cap Ir (a.ok hx hv)
  .exact hN (k+1) (by omega) g vs v ext ps ho hp
 .exact hN (k+1) (by omega) g vs v ext ps ho hp
theorem Good.deep{α β:Type}{f:FuncId}{a:Ut X P α}{r:Ar X P β}{S:α->β}{pre:α->List Prop}{fO:eY X.Γ}(d:Nat)(hg:Good X P T L fO)
  (hf:∀n,d<=n->(∀m,n-d<=m->jD X P (kR P T L m) fO)->∀x,(∀p∈pre x,p)->nY X P (kR P T L (n+1)) f (a.put x) (r.put (S x)) []):Good X P T L (bT f a r S pre fO):=by
 obtain⟨N,hN⟩:=hg;refine⟨N+d+1,fun n hn=>?_⟩;obtain⟨k,rfl⟩:∃k,n=k+1:=⟨n-1,by omega⟩;intro g vs v ext ps ho hp;unfold bT at ho;split at ho
 .rename_i e;have e:=a8K e;subst e;split at ho
  .rename_i x hx;cases ho;intro A h first args cap Ir hv
   exact hf k (by omega) (fun m hm=>hN m (by omega)) x hp A h first args cap Ir (a.ok hx hv)
  .exact hN (k+1) (by omega) g vs v ext ps ho hp
 .exact hN (k+1) (by omega) g vs v ext ps ho hp
def Is{β:Type}(r:Ar X P β)(s:β):Option (PV X.Γ)->Prop:=fun v=>v=some (r.put s)∨∃w,v=some w∧r.get w=some s
theorem ait{β:Type}(hX:bP X P){n f:Nat}{fO:eY X.Γ}(hO:jD X P (kR P T L n) fO){vs:List (PV X.Γ)}{an:PT X.Γ}{r:Ar X P β}{s:β}{o:OT (Option (PV X.Γ))}
  (hk:(CO X P T fO (dD X P (kR P T L n)) (Bj X P T (kR P T L n) L f 0) L f vs [] an).map frz=o) (ht:Fp (Is r s) an o):nY X P (kR P T L (n+1)) f vs (r.put s) []:=
 by
 obtain⟨v,h1,h2⟩:=ht.aO;rw[<-hk]at h1;obtain⟨⟨v,H⟩,h3,rfl⟩:=OT.H6 h1;rcases h2 with h2|⟨w,h2,h4⟩
 .exact WU hX (Zp hX (n:=n+1) (by omega) hO h3) h2
 .intro A h first args cap Ir hv
  obtain⟨x,h',m',c1,c2,c3,c4⟩:=WU hX (Zp hX (n:=n+1) (by omega) hO h3) h2 A h first args cap Ir hv
  exact⟨x,h',m',c1,c2,r.ok h4 c3,c4⟩
theorem Fp.rr{β:Type}{r:Ar X P β}{s:β}:Fp (Is r s) (.n:PT X.Γ) (.ret (some (r.put s))):=.r (.inl rfl)
theorem Fp.rn{β:Type}{r:Ar X P β}{s:β}(w:PV X.Γ)(h:r.get w=some s):Fp (Is r s) (.n:PT X.Γ) (.ret (some w)):=.r (.inr ⟨w,rfl,h⟩)
theorem Fp.ss{β:Type}{r:Ar X P β}{c:Bool}{t e:β}{a b:PT X.Γ}{x y:OT (Option (PV X.Γ))}(h1:Fp (Is r t) a x)(h2:Fp (Is r e) b y):Fp (Is r (if c=true then t else e)) (.s a b) (.br c x y):=
 .s (fun h=>by subst h;exact h1) (fun h=>by subst h;exact h2)
theorem Fp.sh{β:Type}{r:Ar X P β}{c:Bool}{t e:β}{a b:PT X.Γ}{x y:OT (Option (PV X.Γ))}(h1:c=true->Fp (Is r t) a x)(h2:c=false->Fp (Is r e) b y):Fp (Is r (if c=true then t else e)) (.s a b) (.br c x y):=
 .s (fun h=>by rw[a0g h];exact h1 h) (fun h=>by rw[a0c (by rw[h];simp)];exact h2 h)
theorem Fp.zh{β:Type}{r:Ar X P β}{c:Bool}{t e:β}{a b:PT X.Γ}{x y:OT (Option (PV X.Γ))}(h1:c=true->Fp (Is r t) a x)(h2:c=false->Fp (Is r e) b y):Fp (Is r (if c=true then t else e)) (.z c a b) (.br c x y):=
 .z (fun h=>by rw[a0g h];exact h1 h) (fun h=>by rw[a0c (by rw[h];simp)];exact h2 h)
theorem Fp.v{β:Type}{r:Ar X P β}{s:β}(u:β)(h:u=s):Fp (Is r s) (.n:PT X.Γ) (.ret (some (r.put u))):=.r (.inl (by rw[h]))
theorem Fp.k{τ:Type}{R:τ->Prop}{call:aY}{fv v:PV X.Γ}{xs:List (PV X.Γ)}{H H1:List (PB X.Γ)}{an:PT X.Γ}{o:OT τ}(h:dD X P call fv xs H v H1)(t:Fp R an o):Fp R (.a (.call v H1) an) (.o (dD X P call fv xs H v H1) o):=.c v H1 h t
theorem Fp.fr{τ:Type}{R:τ->Prop}{call:aY}{fv v:PV X.Γ}{xs:List (PV X.Γ)}{H H1:List (PB X.Γ)}{an:PT X.Γ}{o:OT τ}(ks:List Nat)(h:dD X P call fv xs H v H1)(t:Fp R an o):Fp R (.a (.fr ks v H1) an) (.o (dD X P call fv xs H v H1) o):=.kf ks v H1 h t
theorem Fp.Qe{τ:Type}{R:τ->Prop}{call:aY}{fv v:PV X.Γ}{xs:List (PV X.Γ)}{H H1 H2:List (PB X.Γ)}{an:PT X.Γ}{o:OT τ}(ks rs:List Nat)(h:dD X P call fv xs H v H1)(t:Fp R an o):Fp R (.a (.Qe ks rs v H2) an) (.o (dD X P call fv xs H v H1) o):=.kg ks rs v H2 h t
def IsS{β:Type}(r:Ar X P β)(s:β)(H:List (PB X.Γ)):PV X.Γ×List (PB X.Γ)->Prop:=fun v=>v=(r.put s,H)
theorem Fp.sr{β:Type}{r:Ar X P β}{s:β}{H:List (PB X.Γ)}:Fp (IsS r s H) (.n:PT X.Γ) (.ret (r.put s,H)):=.r rfl
theorem Fp.szh{β:Type}{r:Ar X P β}{H:List (PB X.Γ)}{c:Bool}{t e:β}{a b:PT X.Γ}{x y:OT (PV X.Γ×List (PB X.Γ))}(h1:c=true->Fp (IsS r t H) a x)(h2:c=false->Fp (IsS r e H) b y):Fp (IsS r (if c=true then t else e) H) (.z c a b) (.br c x y):=
 .z (fun h=>by rw[a0g h];exact h1 h) (fun h=>by rw[a0c (by rw[h];simp)];exact h2 h)
theorem Fp.ssh{β:Type}{r:Ar X P β}{H:List (PB X.Γ)}{c:Bool}{t e:β}{a b:PT X.Γ}{x y:OT (PV X.Γ×List (PB X.Γ))}(h1:c=true->Fp (IsS r t H) a x)(h2:c=false->Fp (IsS r e H) b y):Fp (IsS r (if c=true then t else e) H) (.s a b) (.br c x y):=
 .s (fun h=>by rw[a0g h];exact h1 h) (fun h=>by rw[a0c (by rw[h];simp)];exact h2 h)
theorem CW{β:Type}(hX:bP X P){n f:Nat}{fO:eY X.Γ}(hO:jD X P (kR P T L n) fO){first xs cap:List (PV X.Γ)}{H H1:List (PB X.Γ)}{an:PT X.Γ}{r:Ar X P β}{s:β}{o:OT (PV X.Γ×List (PB X.Γ))}
  (hk:CO X P T fO (dD X P (kR P T L n)) (Bj X P T (kR P T L n) L f H.length) L f (first++xs++cap) H an=o) (ht:Fp (IsS r s H1) an o):dD X P (kR P T L (n+1)) (.fn f first cap) xs H (r.put s) H1:=by
 obtain⟨y,h1,h2⟩:=ht.aO;cases h2;rw[<-hk]at h1;exact a6d hX (n:=n+1) (by omega) hO h1
theorem Mc(hX:bP X P){call:aY}{fO:eY X.Γ}(hO:jD X P call fO){f:FuncId}{first xs cap vs:List (PV X.Γ)}{v:PV X.Γ}{ps:List Prop}{H:List (PB X.Γ)}(hv:views H (first++xs++cap)=some vs)(ho:fO f vs=some (v,[],ps))(hp:∀p∈ps,p)(hl:xk v=false) :
  dD X P call (.fn f first cap) xs H (shift H.length v) H:=by
 intro A m h tf qU hr hf hx;cases hf with
 |gone hi _ _=>simp[bn]at hi
 |fn p1 p2 p3 p4=>
  obtain⟨w,h1,m1,e1,e2,e3,e4,e5⟩:=GY hX (hO f vs v [] ps ho hp) hr hv (ext':=[]) rfl ⟨p1,p2⟩ hx ⟨p3,p4⟩;simp only[hl,List.any_nil,Bool.or_self,a2i,a3g,a6L]at e2;exact⟨w,h1,[],m1,e1,e2,e3,e4,e5,fun b hb=>by cases hb⟩
def a1{α:Type}(a:Ar X P α):Ut X P α:=ais a
def a2{α β:Type}(a:Ar X P α)(b:Ar X P β):Ut X P (α×β):=KT a (ais b)
def a3{α β γ:Type}(a:Ar X P α)(b:Ar X P β)(c:Ar X P γ):Ut X P (α×β×γ):=KT a (a2 b c)
def a4{α β γ δ:Type}(a:Ar X P α)(b:Ar X P β)(c:Ar X P γ)(d:Ar X P δ):Ut X P (α×β×γ×δ):=KT a (a3 b c d)
def np{α:Type}:α->List Prop:=fun _=>[]
end
end Pv
namespace Tw
def mg{α σ ρ:Type}(step:Nat->α->σ->σ⊕ρ):List α->Nat->σ->σ⊕ρ
 | [],_,s=>.inl s
 |a::l,i,s=>match step i a s with
  |.inl s'=>mg step l (i+1) s'
  |.inr r=>.inr r
def jP{σ ρ:Type}:σ⊕ρ->Bool
 |.inl _=>true
 |.inr _=>false
def aiv{σ ρ:Type}(d:σ):σ⊕ρ->σ
 |.inl s=>s
 |.inr _=>d
def CX{σ ρ:Type}(d:ρ):σ⊕ρ->ρ
 |.inl _=>d
 |.inr r=>r
def aoe{σ:Type}:σ⊕Empty->σ
 |.inl s=>s
end Tw
namespace Pv
open Go Tw
def tZ:Code->List Code
 |.seq a b=>tZ a++tZ b
 |.cond _ a b=>tZ a++tZ b
 |.block _ b=>tZ b
 |.loop b=>b::tZ b
 |.scope b=>tZ b
 |.rangeFunc _ _ a b=>tZ a++tZ b
 |_=>[]
def RS(P:LI1)(f k:Nat):Code:=
 match TA P f with
 |some t=>(tZ t.body).getD k .skip
 |none=>.skip
theorem xY{k:Nat}(h:k<=ah):i64.wrap ((k:Int)+1)=((k+1:Nat):Int):=by simp only[IntKind.wrap,IntKind.bits,IntKind.signed];unfold ah at h;have:((k:Int)+1)%(2^64:Int)=(k:Int)+1:=a8B (by omega) (by omega);simp only[this];rw[a0c (by simp;omega)];omega
theorem aG{k n:Nat}(h:k<n):gW k n:=⟨by omega,by omega⟩
theorem aW{k n:Nat}(h:k<n):decide ((k:Int)<(n:Int))=true:=by simp[h]
theorem eH(n:Nat):decide ((n:Int)<(n:Int))=false:=by simp
section
variable {X:kJ} {P:LI1} {T:qx} {L:Nat} {f nt B:Nat} {gQ:Bool} {call:aY} {b:Code} {σ α ρ:Type}
theorem Fp.w{τ:Type}{R:τ->Prop}{c:Code}{e:Ex}{s s':aS X.Γ}{an:PT X.Γ}{o:OT τ}(h:dM X P T call L f gQ nt B c s e s')(t:Fp R an o):Fp R (.a (.lg [] e s') an) (.o (dM X P T call L f gQ nt B c s e s') o):=.l [] e s' h t
theorem Fp.wG{τ:Type}{R:τ->Prop}(gs:List G){c:Code}{e:Ex}{s s':aS X.Γ}{an:PT X.Γ}{o:OT τ}(h:dM X P T call L f gQ nt B c s e s')(t:Fp R an o):Fp R (.a (.lg gs e s') an) (.o (dM X P T call L f gQ nt B c s e s') o):=.l gs e s' h t
theorem Fp.go{n:Nat}{e:Ex}{s s':aS X.Γ}(h:dI X P T call L f gQ nt B b n s' e s):Fp (Rnd X P T call L f gQ nt B b n e s) (.n:PT X.Γ) (.ret (.norm,s')):=Fp.r (v:=(Ex.norm,s')) h
theorem Fp.goG{n:Nat}{e:Ex}{s s':aS X.Γ}(gs:List G)(h:dI X P T call L f gQ nt B b n s' e s):Fp (Rnd X P T call L f gQ nt B b n e s) (.a (.lg gs .norm ⟨[],[],[]⟩) .n:PT X.Γ) (.ret (.norm,s')):=Fp.g (v:=(Ex.norm,s')) gs h
theorem Fp.ex{n i:Nat}{s:aS X.Γ}:Fp (Rnd X P T call L f gQ nt B b n (.exit i) s) (.n:PT X.Γ) (.ret (.exit i,s)):=Fp.r (v:=(Ex.exit i,s)) ⟨rfl,rfl⟩
def cont(out:σ⊕ρ->Ex×aS X.Γ)(g:Nat->α->σ->σ⊕ρ)(l:List α)(i:Nat):σ⊕ρ->Ex×aS X.Γ
 |.inl s=>out (mg g l i s)
 |.inr r=>out (.inr r)
def Rn(X:kJ)(P:LI1)(T:qx)(call:aY)(L f:Nat)(gQ:Bool)(nt B:Nat)(b:Code)(n:Nat){τ:Type}(K:τ->Ex×aS X.Γ)(x:τ):Ex×aS X.Γ->Prop:=Rnd X P T call L f gQ nt B b n (K x).1 (K x).2
section
variable {τ:Type} {K:τ->Ex×aS X.Γ} {n:Nat}
theorem Fp.ls{c:Bool}{t e:τ}{a d:PT X.Γ}{x y:OT (Ex×aS X.Γ)}(h1:Fp (Rn X P T call L f gQ nt B b n K t) a x)(h2:Fp (Rn X P T call L f gQ nt B b n K e) d y):Fp (Rn X P T call L f gQ nt B b n K (if c=true then t else e)) (.s a d) (.br c x y):=
 .s (fun h=>by subst h;exact h1) (fun h=>by subst h;exact h2)
theorem Fp.nx{x:τ}{s':aS X.Γ}(h:dI X P T call L f gQ nt B b n s' (K x).1 (K x).2):Fp (Rn X P T call L f gQ nt B b n K x) (.n:PT X.Γ) (.ret (.norm,s')):=Fp.r (v:=(Ex.norm,s')) h
theorem Fp.nxG{x:τ}{s':aS X.Γ}(gs:List G)(h:dI X P T call L f gQ nt B b n s' (K x).1 (K x).2):Fp (Rn X P T call L f gQ nt B b n K x) (.a (.lg gs .norm ⟨[],[],[]⟩) .n:PT X.Γ) (.ret (.norm,s')):=Fp.g (v:=(Ex.norm,s')) gs h
theorem Fp.ou{x:τ}(h:(K x).1≠.norm):Fp (Rn X P T call L f gQ nt B b n K x) (.n:PT X.Γ) (.ret (K x)):=by
 refine Fp.r ?_;unfold Rn Rnd;split
 .rename_i e;rw[e]at h;exact absurd rfl h
 rename_i e;rw[e];exact⟨rfl,rfl⟩
theorem Fp.ouG{x:τ}(gs:List G)(h:(K x).1≠.norm):Fp (Rn X P T call L f gQ nt B b n K x) (.a (.lg gs .norm ⟨[],[],[]⟩) .n:PT X.Γ) (.ret (K x)):=by
 refine Fp.g gs ?_;unfold Rn Rnd;split
 .rename_i e;rw[e]at h;exact absurd rfl h
 rename_i e;rw[e];exact⟨rfl,rfl⟩
end
theorem WV{l:List α}(d:α){st:Int->σ->aS X.Γ}{g:Nat->α->σ->σ⊕ρ}{out:σ⊕ρ->Ex×aS X.Γ}{s0:σ}{w:aS X.Γ}(Inv:Nat->σ->Prop)(h0:gJ X (T.eX f (dQ b)) w=st 0 s0)(hl:l.length<=ah)(hL:ah<L)(hi:Inv 0 s0)
  (hs:∀(k:Nat) (s:σ) (n:Nat),k<l.length->Inv k s->(∀s1,Inv (k+1) s1->dI X P T call L f gQ nt B b n (st (i64.wrap (k+1)) s1) (cont out g (l.drop (k+1)) (k+1) (.inl s1)).1 (cont out g (l.drop (k+1)) (k+1) (.inl s1)).2) ->
   dI X P T call L f gQ nt B b (n+1) (st k s) (cont out g (l.drop (k+1)) (k+1) (g k (l.getD k d) s)).1 (cont out g (l.drop (k+1)) (k+1) (g k (l.getD k d) s)).2)
  (ho:∀s,Inv l.length s->dI X P T call L f gQ nt B b 1 (st l.length s) (out (.inl s)).1 (out (.inl s)).2) :
  dM X P T call L f gQ nt B (.loop b) w (out (mg g l 0 s0)).1 (out (mg g l 0 s0)).2:=by
 have key:∀(m k:Nat) (s:σ),k+m=l.length->Inv k s->dI X P T call L f gQ nt B b (m+1) (st k s) (out (mg g (l.drop k) k s)).1 (out (mg g (l.drop k) k s)).2:=by
  intro m
  induction m with
  |zero=>
   intro k s hk hr;have:k=l.length:=(by omega);subst this;rw[List.drop_length];exact ho s hr
  |succ m ih=>
   intro k s hk hr;have aT:k<l.length:=(by omega);have h1:=hs k s (m+1) aT hr fun s1 h=>by have:=ih (k+1) s1 (by omega) h;rw[xY (by omega)];exact this
   have hd:l.getD k d=l[k]:=(by simp[List.getD,a0a aT]);rw[a7E aT];simp only[mg];rw[hd]at h1;cases hg:g k l[k] s with
   |inl s1=>rw[hg]at h1;exact h1
   |inr r=>rw[hg]at h1;exact h1
 exact zn (key l.length 0 s0 (by omega) hi) h0 (by omega)
theorem ku{c:Code}{w:aS X.Γ}{R:σ⊕ρ}{out:σ⊕ρ->Ex×aS X.Γ}(h:dM X P T call L f gQ nt B c w (out R).1 (out R).2)(d:σ)(hR:jP R=true):dM X P T call L f gQ nt B c w (out (.inl (aiv d R))).1 (out (.inl (aiv d R))).2:=by
 cases R with
 |inl s=>exact h
 |inr r=>cases hR
theorem kC{c:Code}{w:aS X.Γ}{R:σ⊕ρ}{out:σ⊕ρ->Ex×aS X.Γ}(h:dM X P T call L f gQ nt B c w (out R).1 (out R).2)(d:ρ)(hR:jP R=false):dM X P T call L f gQ nt B c w (out (.inr (CX d R))).1 (out (.inr (CX d R))).2:=by
 cases R with
 |inl s=>cases hR
 |inr r=>exact h
end
def Zq{Γ:Nat->Type}:PE Γ->Bool
 |.val _=>true
 |_=>false
def uf{Γ:Nat->Type}(env:List (Nat×PE Γ)):List Nat->List (PV Γ)->List (Nat×PE Γ)
 |p::ps,v::vs=>uf ((p,.val v)::env) ps vs
 |_,_=>env
section
variable {X:kJ} {P:LI1} {T:qx} {A W:Nat->Prop} {m m':List MB} {h h':List HB} {L f nt B:Nat}
theorem a6g{env:List (Nat×PE X.Γ)}{env':List (Nat×EV)}(he:jS X P A m h env env')(hv:(env.all fun p=>Zq p.2)=true):env'.all isVal=true:=by
 induction he with
 |nil=>rfl
 |cons h1 _ ih=>
  rename_i k v x r r' _;simp only[abC,a2f]at hv ⊢;refine⟨?_,ih hv.2⟩;cases v with
  |val v=>obtain⟨y,rfl,_⟩:=fQ h1;rfl
  |_=>simp[Zq]at hv
theorem RU:∀{ps:List Nat} {vs:List (PV X.Γ)} {xs:List TV} {env:List (Nat×PE X.Γ)} {env':List (Nat×EV)},jS X P A m h env env'->bU X P A m h vs xs->jS X P A m h (uf env ps vs) (sF env' ps xs)
 | [],vs,xs,_,_,he,hv=>by simpa[uf,sF]using he
 |p::ps,[],xs,_,_,he,hv=>by rw[hv.inv0];simpa[uf,sF]using he
 |p::ps,v::vs,xs,_,_,he,hv=>by obtain⟨x,r,rfl,h1,h2⟩:=hv.inv;simp only[uf,sF];exact RU (jS.cons (v:=.val v) (x:=.val x) h1 he) h2
theorem H7(hX:bP X P){n l:Nat}{xs:List (PV X.Γ)}{H:List (PB X.Γ)}{env:List (Nat×PE X.Γ)}{ps:List Nat}{uJ body:Code}{jI:Option Code}{s1 s2:aS X.Γ}{e:Ex}
  {f' nt':Nat} {env':List (Nat×PE X.Γ)} {ps':List Nat} {a' b':Code} {abK:Option Code} {f'' aeE:Nat} {abU:List (Nat×PE X.Γ)} {aeF:List Nat} {a'' b'':Code}
  (hl:H[l]? = some (.loop true f nt env ps uJ body jI)) (hlen:xs.length=ps.length) (hps:(ps.all fun p=>decide (p<nt))=true)
  (h1:dM X P T (kR P T L n) L f true nt H.length uJ ⟨uf env ps xs,[],H⟩ .norm s1) (hl1:s1.heap[l]? = some (.loop true f' nt' env' ps' a' b' abK))
  (h2:dM X P T (kR P T L n) L f true nt H.length body { s1 with heap:=s1.heap.set l (.loop false f' nt' env' ps' a' b' none) } e s2)
  (TG:s2.heap[l]? = some (.loop false f'' aeE abU aeF a'' b'' none)) :
  dD X P (kR P T L (n+1)) (.kG l) xs H (.bool (oQ e)) (s2.heap.set l (.loop (oQ e) f'' aeE abU aeF a'' b'' (sG e))):=by
 intro A m h tf qU hr hf hx;have aT:l<H.length:=(a01.1 hl).1;obtain⟨mb,k1,k2⟩:=hr.at_ l _ hl;cases mb with
 |dB _=>exact k2.elim
 |jl _=>exact k2.elim
 |gone=>exact k2.elim
 |fV c=>
 obtain⟨te,k3,k4⟩:=k2;have GU:c∈bg m:=aZ k1 rfl;cases hf with
 |gone hi JO _=>simp only[bn,a00]at hi;subst hi;rw[k1]at JO;cases JO
 |kG hy=>
 rw[k1]at hy;cases hy;have hS:SR X P A (fun b=>b∈bg m) h.length m ⟨uf env ps xs,[],H⟩ ⟨sF te ps qU,[],h,[]⟩:=
  ⟨⟨hr,rfl,fun k cs hk=>by simp at hk,RU (env:=env) (env':=te) k4 hx⟩,fun b hb=>.inl hb,fun b hb=>(by cases hb),a0U _⟩
 obtain⟨t1,m1,x1,x2,x3,x4⟩:=h1 A _ _ m _ hS;have at1:∀{M:List MB} {S:aS X.Γ} {TS:St} {W:Nat->Prop} {rd:Bool} {f0 n0:Nat} {ee:List (Nat×PE X.Γ)} {pp:List Nat} {aa bb:Code} {pe:Option Code},SR X P A W h.length M S TS->LY H.length m M->S.heap[l]? = some (.loop rd f0 n0 ee pp aa bb pe)->M[l]? = some (.fV c)∧∃te,TS.heap[c]? = some (.loop rd f0 n0 te pp aa bb pe)∧jS X P (AA A M) M TS.heap ee te:=by
  intro M S TS W rd f0 n0 ee pp aa bb pe hS hU hh;obtain⟨mb,j1,j2⟩:=hS.st.heap.at_ l _ hh;rcases hU l _ aT k1 with e|e
  .rw[e]at j1;cases j1;obtain⟨te,j3,j4⟩:=j2;exact⟨e,te,j3,j4⟩
  .rw[e]at j1;cases j1;exact j2.elim
 have aix:∀{M:List MB} {S:aS X.Γ} {TS:St} {W:Nat->Prop} {rd:Bool} {f0 n0:Nat} {ee:List (Nat×PE X.Γ)} {pp:List Nat} {aa bb:Code} {pe:Option Code} (rd':Bool) (pe':Option Code),SR X P A W h.length M S TS->LY H.length m M->S.heap[l]? = some (.loop rd f0 n0 ee pp aa bb pe)->∃te,TS.heap[c]? = some (.loop rd f0 n0 te pp aa bb pe)∧HR X P A M (S.heap.set l (.loop rd' f0 n0 ee pp aa bb pe')) (TS.heap.set c (.loop rd' f0 n0 te pp aa bb pe'))∧Fr M TS.heap M (TS.heap.set c (.loop rd' f0 n0 te pp aa bb pe')):=by intro M S TS W rd f0 n0 ee pp aa bb pe rd' pe' hS hU hh;obtain⟨j1,te,j3,j4⟩:=at1 hS hU hh;obtain⟨s1,s2⟩:=hS.st.heap.set (i:=l) (c:=c) (pb:=.loop rd' f0 n0 ee pp aa bb pe') (hb:=.loop rd' f0 n0 te pp aa bb pe') j1 rfl (fun cs hc=>by unfold aX at hc;rw[j3]at hc;cases hc) (fun hF=>⟨te,by rw[a2c (a01.1 j3).1],j4.step hF .refl⟩);exact⟨te,j3,s1,s2⟩
 obtain⟨te1,y1,y2,y3⟩:=aix false none x2 x4 hl1;have hS1:SR X P A (fun b=>b∈bg m) h.length m1 { s1 with heap:=s1.heap.set l (.loop false f' nt' env' ps' a' b' none) } { t1 with heap:=t1.heap.set c (.loop false f' nt' te1 ps' a' b' none),ws:=Ef h.length c t1.ws }:=by
  have q:=x2.st.step y2 y3 .refl;refine⟨⟨q.heap,q.llen,q.loc,q.env⟩,x2.own,fun b hb=>?_,a4A x2.fl y3.len⟩;rcases vM (ks:=[.h c]) hb with k|⟨k,_⟩
  .exact x2.ws b k
  .simp at k;subst k;exact GU
 obtain⟨t2,m2,z1,z2,z3,z4⟩:=h2 A _ _ m1 _ hS1;obtain⟨te2,u1,u2,u3⟩:=aix (oQ e) (sG e) z2 (x4.trans z4) TG;have hF:=(x3.trans y3).trans (z3.trans u3);refine⟨.bool (oQ e),t2.heap.set c (.loop (oQ e) f'' aeE te2 aeF a'' b'' (sG e)),Ef h.length c t2.ws,m2,?_,u2,.bool _,hF,fun i mb hi=>(x4.trans z4) i mb ?_ hi,fun b hb=>?_⟩
 .have hl':qU.length=ps.length:=by rw[<-hx.1,hlen]
  simp only[kR,ap,N8,k3,hl',hps,acP,a1U,x1,y1,z1,u1]
 .rw[<-hr.len];exact(a01.1 hi).1
 .rcases vM (ks:=[.h c]) hb with k|⟨k,_⟩
  .exact z2.ws b k
  .simp at k;subst k;exact GU
abbrev gB(B:Nat):Nat->Option Nat:=fun i=>if i<B then some i else(wu [] i).map (·+B)
theorem zo{g:Nat->Option Nat}:∀{a:List (PV X.Γ)},(∀(i:Nat) x,a[i]? = some x->fE g x=some x)->fE.oN g a=some a
 | [],_=>rfl
 |c::cs,h=>by simp only[fE.oN,h 0 c rfl,zo (a:=cs) fun i x hi=>h (i+1) x (by simpa using hi)]
theorem H8{α β:Type}{a:List α}{b:List β}(hl:a.length=b.length){i:Nat}{x:α}(hi:a[i]? = some x):∃y,b[i]? = some y:=by
 have:i<b.length:=by rw[<-hl];exact(a01.1 hi).1
 exact⟨b[i],a0a this⟩
theorem Uu{v:PV X.Γ}{x:TV}(hv:VR X P A m h v x){B:Nat}(hB:m.length<=B):fE (gB B) v=some v:=by
 have key:∀{b:Nat} {mb:MB},m[b]? = some mb->gB B b=some b:=fun e=>by have:=(a01.1 e).1;simp only[gB];rw[a0g (by omega)]
 induction hv with
 |bool=>rfl
 |lit=>rfl
 |int=>rfl
 |str=>rfl
 |nil=>rfl
 |ptr e=>simp only[fE,key e,a0j]
 |aP e=>simp only[fE,key e,a0j]
 |own e _=>simp only[fE,key e,a0j]
 |win e _ _=>simp only[fE,key e,a0j]
 |BF e=>simp only[fE,key e,a0j]
 |FU e=>simp only[fE,key e,a0j]
 |IY e=>simp only[fE,key e,a0j]
 |map e=>simp only[fE,key e,a0j]
 |iter e=>simp only[fE,key e,a0j]
 |kG e=>simp only[fE,key e,a0j]
 |row e _ _=>simp only[fE,key e,a0j]
 |oW=>rfl
 |dB=>rfl
 |el=>rfl
 |fn h1 _ h3 _ i2 i4=>
  simp only[fE];rw[zo fun i x hi=>let ⟨y,hy⟩:=H8 h1 hi;i2 i x y hi hy,zo fun i x hi=>let ⟨y,hy⟩:=H8 h3 hi;i4 i x y hi hy]
 |agg h1 _ i2=>simp only[fE];rw[zo fun i x hi=>let ⟨y,hy⟩:=H8 h1 hi;i2 i x y hi hy];rfl
 |dG h1 _ i2=>simp only[fE];rw[zo fun i x hi=>let ⟨y,hy⟩:=H8 h1 hi;i2 i x y hi hy];rfl
 | @gone v i x hi e _=>
  have:=key (b:=i) (mb:=(m[i]?).getD .gone) (by cases q:m[i]? with|none=>rw[q]at e;cases e|some y=>rfl);cases v<;>simp only[bn,a00]at hi<;>first|(subst hi;simp only[fE,this,a0j])|cases hi
theorem a14{v:List (PV X.Γ)}{x:List TV}(hv:bU X P A m h v x){B:Nat}(hB:m.length<=B):fE.oN (gB B) v=some v:=
 zo fun i a hi=>let ⟨y,hy⟩:=H8 hv.1 hi;Uu (hv.2 i a y hi hy) hB
theorem a6h{v:List (Nat×PE X.Γ)}{x:List (Nat×EV)}(hv:jS X P A m h v x){B:Nat}(hB:m.length<=B):oM (gB B) v=some v:=by
 induction hv with
 |nil=>rfl
 |cons h1 _ ih=>
  rename_i k v x r r' _;simp only[oM,ih];cases v with
  |val v=>obtain⟨y,rfl,h2⟩:=fQ h1;simp only[O7,Uu h2 hB,a0j]
  |ent r j v=>
   obtain⟨c,y,rfl,h2,_⟩:=LQ h1;have:=Uu h2 hB;simp only[fE,a05,PV.map.injEq,exists_eq_right]at this;simp only[O7,this,a0j]
  |Ee r j=>
   obtain⟨c,rfl,h2⟩:=LU h1;have:=Uu h2 hB;simp only[fE,a05,PV.map.injEq,exists_eq_right]at this;simp only[O7,this,a0j]
  |_=>rfl
theorem a9Q{b:PB X.Γ}{mb:MB}(hb:BR X P A m h b mb){B:Nat}(hB:m.length<=B):zf (gB B) b=some b:=by
 cases b with
 |cells cs=>
  cases mb with
  |fV c=>obtain⟨_,_,h2⟩:=hb;simp only[zf,a14 h2 hB,a0j]
  |_=>exact hb.elim
 |aF cs=>
  cases mb with
  |jl c=>obtain⟨_,_,_,h2⟩:=hb;simp only[zf,a14 h2 hB,a0j]
  |_=>exact hb.elim
 |map es=>rfl
 |cO r n seen=>
  cases mb with
  |fV c=>
   obtain⟨_,_,h2,_⟩:=hb;obtain⟨mb,h3⟩:=a4J.1 h2;have aT:r<B:=a8W (a01.1 h3).1 hB;have:gB B r=some r:=(by simp[gB,aT]);simp only[zf,this,a0j]
  |_=>exact hb.elim
 |loop=>
  cases mb with
  |fV c=>obtain⟨_,_,h2⟩:=hb;simp only[zf,a6h h2 hB,a0j]
  |_=>exact hb.elim
 |_=>rfl
theorem WW{B:Nat}:∀{H:List (PB X.Γ)},(∀(i:Nat) b,H[i]? = some b->zf (gB B) b=some b)->nK (gB B) H=some H
 | [],_=>rfl
 |c::cs,h=>by simp only[nK,h 0 c rfl,WW (H:=cs) fun i x hi=>h (i+1) x (by simpa using hi)]
theorem dD.drop(hX:bP X P){call:aY}{fv:PV X.Γ}{xs:List (PV X.Γ)}{H H1:List (PB X.Γ)}{v:PV X.Γ}(hs:dD X P call fv xs H v H1)(h1:H1.take H.length=H)(hv:fE (gB H.length) v=some v):dD X P call fv xs H v H:=by
 intro A m h tf qU hr hf hx;obtain⟨w,h',ws,m1,c1,c2,c3,c4,c5,c6⟩:=hs A m h tf qU hr hf hx;have hg:l7 H.length [.gc []] (⟨[(0,.val v)],[],H1⟩:aS X.Γ)=some ⟨[(0,.val v)],[],H⟩:=by
  have hb:nK (gB H.length) H=some H:=WW fun i b hi=>let ⟨mb,_,h2⟩:=hr.at_ i b hi;a9Q h2 (agH hr.len)
  have hl:H.length<=H1.length:=by have:=congrArg List.length h1;simp at this;omega
  have e:oM (gB H.length) [(0,PE.val v)]=some [(0,.val v)]:=by simp only[oM,O7,hv,a0j]
  have qy:nK (fun i=>if i<H.length then some i else(wu [] i).map (·+H.length)) H=some H:=hb;have e':oM (fun i=>if i<H.length then some i else(wu [] i).map (·+H.length)) [(0,PE.val v)]=some [(0,.val v)]:=e;simp only[l7,Bh,List.all_nil,a5O,decide_true,Bool.and_self,adf,hl,a1U,e',Wu,h1,qy,CJ,nK,a6L]
 obtain⟨m2,q1,q2,q3⟩:=mQ hX hg A (fun _=>True) 0 m1 ⟨[(0,.val w)],[],h',[]⟩ ⟨⟨c2,rfl,fun k cs hk=>by simp at hk,.cons c3 .nil⟩,fun b _=>.inl trivial,fun b hb=>(by cases hb),a4E _⟩;obtain⟨w',e1,e2⟩:=oz q1.st.env (t:=0) (v:=.val v) rfl;simp only[dL,a1U,a00]at e1;subst e1;refine⟨w,h',ws,m2,c1,q1.st.heap,e2,c4.trans q2,fun i mb hi=>?_,c6⟩;have aT:i<H.length:=by rw[<-hr.len];exact(a01.1 hi).1
 rcases c5 i mb hi with g|g
 .exact q3 i mb aT g
 rcases q3 i _ aT g with g|g<;>exact .inr g
end
section
variable {X:kJ} {P:LI1}
theorem dD.frame(hX:bP X P){call:aY}{ks:List Nat}{H' Hp H H1 Qj:List (PB X.Γ)}{fv fv' v v':PV X.Γ}{xs xs':List (PV X.Γ)}(hs:dD X P call fv xs H v H1)
  (jy:ks.Nodup) (hp:CJ H' ks=some Hp) (hH:nK (wu ks) Hp=some H) (hf:fE (wu ks) fv'=some fv) (hx:fE.oN (wu ks) xs'=some xs)
  (hv:fE (bk ks H'.length) v=some v') (hH1:nK (bk ks H'.length) H1=some Qj) (hro:IW (H1.drop ks.length)=true) :
  dD X P call fv' xs' H' v' (putAt ks Qj H'++Qj.drop ks.length):=fun A m' h tf qU hr hf' EW=>by
 obtain⟨w,h1,ws,m1,c1,c2,c3,c4,c5,c6⟩:=J7 hX hs.w jy hp hH hf hx hv hH1 hro A m' h tf qU hr hf' EW;exact⟨w,h1,ws,m1,c1,c2,c3,c4,c5,fun b hb=>by obtain⟨_,k,_,_,mb,h8,h9⟩:=c6 b hb;exact aZ h8 h9⟩
end
def itF{σ ρ:Type}(g:σ->σ⊕ρ):Nat->σ->Option ρ
 | 0,_=>none
 |k+1,s=>match g s with
  |.inl s1=>itF g k s1
  |.inr r=>some r
section
variable {X:kJ} {P:LI1} {T:qx} {L:Nat} {f nt B:Nat} {gQ:Bool} {call:aY} {b:Code} {σ ρ:Type}
def CY(out:ρ->Ex×aS X.Γ)(r:ρ):σ⊕ρ->Ex×aS X.Γ
 |.inl _=>out r
 |.inr r'=>out r'
theorem a6i{st:σ->aS X.Γ}{g:σ->σ⊕ρ}{out:ρ->Ex×aS X.Γ}(Inv:σ->Prop)(hi:∀s s1,Inv s->g s=.inl s1->Inv s1)
  (hs:∀s n r,Inv s->(∀s1,g s=.inl s1->dI X P T call L f gQ nt B b n (st s1) (out r).1 (out r).2)->dI X P T call L f gQ nt B b (n+1) (st s) (CY out r (g s)).1 (CY out r (g s)).2) :
  ∀{k:Nat} {s:σ} {r:ρ},Inv s->itF g k s=some r->dI X P T call L f gQ nt B b k (st s) (out r).1 (out r).2
 | 0,s,r,_,h=>by cases h
 |k+1,s,r,hv,h=>by
  simp only[itF]at h;have h1:=hs s k r hv fun s1 h1=>by rw[h1]at h;exact a6i Inv hi hs (hi s s1 hv h1) h
  cases hg:g s with
  |inl s1=>rw[hg]at h1;exact h1
  |inr r'=>rw[hg]at h1 h;simp only[a00]at h;subst h;exact h1
theorem aeG{st:σ->aS X.Γ}{g:σ->σ⊕ρ}{out:ρ->Ex×aS X.Γ}(Inv:σ->Prop){k:Nat}{s:σ}{r:ρ}{w:aS X.Γ}(hr:itF g k s=some r)(h0:gJ X (T.eX f (dQ b)) w=st s)(hk:k<=L)(hv:Inv s)(hi:∀s s1,Inv s->g s=.inl s1->Inv s1)
  (hs:∀s n r,Inv s->(∀s1,g s=.inl s1->dI X P T call L f gQ nt B b n (st s1) (out r).1 (out r).2)->dI X P T call L f gQ nt B b (n+1) (st s) (CY out r (g s)).1 (CY out r (g s)).2) :
  dM X P T call L f gQ nt B (.loop b) w (out r).1 (out r).2:=zn (a6i Inv hi hs hv hr) h0 hk
end
section
variable {X:kJ} {P:LI1} {T:qx} {L:Nat}
def Zr{α:Type}(f:FuncId)(a:Ut X P α)(v:α->PV X.Γ)(ext:α->List (PB X.Γ))(pre:α->List Prop)(fO:eY X.Γ):eY X.Γ:=fun g vs=>
 match Nat.beq g f with
 |true=>match a.get vs with
  |some x=>some (v x,ext x,pre x)
  |none=>fO g vs
 |false=>fO g vs
theorem Good.WX{α:Type}{f:FuncId}{a:Ut X P α}{v:α->PV X.Γ}{ext:α->List (PB X.Γ)}{pre:α->List Prop}{fO:eY X.Γ}(d:Nat)(hg:Good X P T L fO)
  (hf:∀n,d<=n->(∀m,n-d<=m->jD X P (kR P T L m) fO)->∀x,(∀p∈pre x,p)->nY X P (kR P T L (n+1)) f (a.put x) (v x) (ext x)):Good X P T L (Zr f a v ext pre fO):=by
 obtain⟨N,hN⟩:=hg;refine⟨N+d+1,fun n hn=>?_⟩;obtain⟨k,rfl⟩:∃k,n=k+1:=⟨n-1,by omega⟩;intro g vs v ext ps ho hp;unfold Zr at ho;split at ho
 .rename_i e;have e:=a8K e;subst e;split at ho
  .rename_i x hx;cases ho;intro A h first args cap Ir hv
   exact hf k (by omega) (fun m hm=>hN m (by omega)) x hp A h first args cap Ir (a.ok hx hv)
  .exact hN (k+1) (by omega) g vs v ext ps ho hp
 .exact hN (k+1) (by omega) g vs v ext ps ho hp
def IsE(v:PV X.Γ)(H:List (PB X.Γ)):PV X.Γ×List (PB X.Γ)->Prop:=fun y=>y=(v,H)
theorem Fp.er{v:PV X.Γ}{H:List (PB X.Γ)}:Fp (IsE v H) (.n:PT X.Γ) (.ret (v,H)):=.r rfl
theorem Bo(hX:bP X P){n f:Nat}{fO:eY X.Γ}(hO:jD X P (kR P T L n) fO){vs:List (PV X.Γ)}{an:PT X.Γ}{v:PV X.Γ}{H:List (PB X.Γ)}{o:OT (PV X.Γ×List (PB X.Γ))}
  (hk:CO X P T fO (dD X P (kR P T L n)) (Bj X P T (kR P T L n) L f 0) L f vs [] an=o) (ht:Fp (IsE v H) an o):nY X P (kR P T L (n+1)) f vs v H:=by
 obtain⟨y,h1,h2⟩:=ht.aO;cases h2;rw[<-hk]at h1;exact Zp hX (n:=n+1) (by omega) hO h1
end
section
variable {X:kJ} {P:LI1} {T:qx} {L:Nat}
theorem mZ(hX:bP X P){n f:Nat}{fO:eY X.Γ}(hO:jD X P (kR P T L n) fO){first xs cap:List (PV X.Γ)}{H H1:List (PB X.Γ)}{v:PV X.Γ}{an:PT X.Γ}{o:OT (PV X.Γ×List (PB X.Γ))}
  (hk:CO X P T fO (dD X P (kR P T L n)) (Bj X P T (kR P T L n) L f H.length) L f (first++xs++cap) H an=o) (ht:Fp (IsE v H1) an o):dD X P (kR P T L (n+1)) (.fn f first cap) xs H v H1:=by
 obtain⟨y,h1,h2⟩:=ht.aO;cases h2;rw[<-hk]at h1;exact a6d hX (n:=n+1) (by omega) hO h1
end
theorem Good.WY{X:kJ}{P:LI1}{T:qx}{L:Nat}{α β:Type}{f:FuncId}{a:Ut X P α}{r:Ar X P β}{S:α->β}{pre:α->List Prop}{fO WZ:eY X.Γ}(d:Nat)(hg:Good X P T L fO)(hg2:Good X P T L WZ)
  (hf:∀n,d<=n->(∀m,n-d<=m->jD X P (kR P T L m) fO)->(∀m,n-d<=m->jD X P (kR P T L m) WZ)->∀x,(∀p∈pre x,p)->nY X P (kR P T L (n+1)) f (a.put x) (r.put (S x)) []):Good X P T L (bT f a r S pre fO):=by
 obtain⟨N2,hN2⟩:=hg2;obtain⟨M,hM⟩:=hg;refine⟨M+N2+d+1,fun n hn=>?_⟩;obtain⟨k,rfl⟩:∃k,n=k+1:=⟨n-1,by omega⟩;intro g vs v ext ps ho hp;unfold bT at ho;split at ho
 .rename_i e;have e:=a8K e;subst e;split at ho
  .rename_i x hx;cases ho;intro A h first args cap Ir hv
   exact hf k (by omega) (fun m hm=>hM m (by omega)) (fun m hm=>hN2 m (by omega)) x hp A h first args cap Ir (a.ok hx hv)
  .exact hM (k+1) (by omega) g vs v ext ps ho hp
 .exact hM (k+1) (by omega) g vs v ext ps ho hp
section
variable {X:kJ} {P:LI1}
theorem dD.gs(hX:bP X P){call:aY}{fv:PV X.Γ}{xs:List (PV X.Γ)}{H H1 H2:List (PB X.Γ)}{v v':PV X.Γ}(hs:dD X P call fv xs H v H1)(gs:List G)(hg:l7 H.length gs (⟨[(0,.val v)],[],H1⟩:aS X.Γ)=some ⟨[(0,.val v')],[],H2⟩):dD X P call fv xs H v' H2:=by
 intro A m h tf qU hr hf hx;obtain⟨w,h',ws,m1,c1,c2,c3,c4,c5,c6⟩:=hs A m h tf qU hr hf hx;obtain⟨m2,q1,q2,q3⟩:=mQ hX hg A (fun _=>True) 0 m1 ⟨[(0,.val w)],[],h',[]⟩ ⟨⟨c2,rfl,fun k cs hk=>by simp at hk,.cons c3 .nil⟩,fun b _=>.inl trivial,fun b hb=>(by cases hb),a4E _⟩;obtain⟨w',e1,e2⟩:=oz q1.st.env (t:=0) (v:=.val v') rfl;simp only[dL,a1U,a00]at e1;subst e1;refine⟨w,h',ws,m2,c1,q1.st.heap,e2,c4.trans q2,fun i mb hi=>?_,c6⟩;have aT:i<H.length:=by rw[<-hr.len];exact(a01.1 hi).1
 rcases c5 i mb hi with g|g
 .exact q3 i mb aT g
 rcases q3 i _ aT g with g|g<;>exact .inr g
theorem dD.cut(hX:bP X P){call:aY}{fv:PV X.Γ}{xs:List (PV X.Γ)}{H H1 H2:List (PB X.Γ)}{v:PV X.Γ}(hs:dD X P call fv xs H v H1)(h1:H1.take H.length=H2)(hb:nK (gB H.length) H2=some H2)(hl:decide (H.length<=H1.length)=true)(hv:fE (gB H.length) v=some v):dD X P call fv xs H v H2:=by
 intro A m h tf qU hr hf hx;obtain⟨w,h',ws,m1,c1,c2,c3,c4,c5,c6⟩:=hs A m h tf qU hr hf hx;have hl:=a6N hl;have hg:l7 H.length [.gc []] (⟨[(0,.val v)],[],H1⟩:aS X.Γ)=some ⟨[(0,.val v)],[],H2⟩:=by
  have e:oM (gB H.length) [(0,PE.val v)]=some [(0,.val v)]:=by simp only[oM,O7,hv,a0j]
  have qy:nK (fun i=>if i<H.length then some i else(wu [] i).map (·+H.length)) H2=some H2:=hb;have e':oM (fun i=>if i<H.length then some i else(wu [] i).map (·+H.length)) [(0,PE.val v)]=some [(0,.val v)]:=e;simp only[l7,Bh,List.all_nil,a5O,decide_true,Bool.and_self,adf,hl,a1U,e',Wu,h1,qy,CJ,nK,a6L]
 obtain⟨m2,q1,q2,q3⟩:=mQ hX hg A (fun _=>True) 0 m1 ⟨[(0,.val w)],[],h',[]⟩ ⟨⟨c2,rfl,fun k cs hk=>by simp at hk,.cons c3 .nil⟩,fun b _=>.inl trivial,fun b hb=>(by cases hb),a4E _⟩;obtain⟨w',e1,e2⟩:=oz q1.st.env (t:=0) (v:=.val v) rfl;simp only[dL,a1U,a00]at e1;subst e1;refine⟨w,h',ws,m2,c1,q1.st.heap,e2,c4.trans q2,fun i mb hi=>?_,c6⟩;have aT:i<H.length:=by rw[<-hr.len];exact(a01.1 hi).1
 rcases c5 i mb hi with g|g
 .exact q3 i mb aT g
 rcases q3 i _ aT g with g|g<;>exact .inr g
end
section
variable {X:kJ} {P:LI1} {T:qx} {L f nt B:Nat} {gQ:Bool} {call:aY} {fO:eY X.Γ}
theorem xZ(hX:bP X P)(hO:jD X P call fO){c:Code}{ps ps1:aS X.Γ}{an:PT X.Γ}{e:Ex}{o:OT (Ex×aS X.Γ)}
  (hk:jL X P T fO (dD X P call) (dM X P T call L f gQ nt B) B L f gQ nt c ps an aez=o) (ht:Fp (fun y=>y=(e,ps1)) an o):dM X P T call L f gQ nt B c ps e ps1:=by
 obtain⟨y,h1,rfl⟩:=ht.aO;rw[<-hk]at h1;exact WT hX hO h1
theorem Fp.xx{y:Ex×aS X.Γ}:Fp (fun z=>z=y) (.n:PT X.Γ) (.ret y):=.r rfl
end
theorem dD.forget{X:kJ}{P:LI1}{call:aY}{fv:PV X.Γ}{xs:List (PV X.Γ)}{H H1:List (PB X.Γ)}{v:PV X.Γ}(hs:dD X P call fv xs H v H1)(i:Nat):dD X P call fv xs H v (H1.set i .gone):=by intro A m h tf qU hr hf hx;obtain⟨w,h',ws,m1,c1,c2,c3,c4,c5,c6⟩:=hs A m h tf qU hr hf hx;have hg:=c2.bf [i];have hf2:=iE (h:=h') [i] m1;exact⟨w,h',ws,_,c1,hg,c3.step hf2.1 hf2.2,c4.trans hf2.1,c5.trans hf2.2,c6⟩
theorem qW{X:kJ}{P:LI1}(hX:bP X P){call:aY}{fO:eY X.Γ}(hO:jD X P call fO){f:FuncId}{first xs cap vs:List (PV X.Γ)}{v:PV X.Γ}{ps:List Prop}{H:List (PB X.Γ)}(hv:views H (first++xs++cap)=some vs)(ho:fO f vs=some (v,[],ps))(hp:∀p∈ps,p)(hl:xk v=true) :
  dD X P call (.fn f first cap) xs H (shift H.length v) (bf (kP.jX (first++xs++cap)) H):=by
 intro A m h tf qU hr hf hx;cases hf with
 |gone hi _ _=>simp[bn]at hi
 |fn p1 p2 p3 p4=>
  obtain⟨w,h1,m1,e1,e2,e3,e4,e5⟩:=GY hX (hO f vs v [] ps ho hp) hr hv (ext':=[]) rfl ⟨p1,p2⟩ hx ⟨p3,p4⟩;simp only[hl,List.any_nil,Bool.true_or,a1U,a6L]at e2;exact⟨w,h1,[],m1,e1,e2,e3,e4,e5,fun b hb=>by cases hb⟩
section
variable {X:kJ} {P:LI1} {A:Nat->Prop} {m:List MB} {h:List HB}
theorem VR.a15{k:IntKind}{n:Int}{y:TV}(hy:VR X P A m h (.int k n) y):y=.int k n:=by
 cases hy with
 |int=>rfl
 |gone hi _ _=>simp[bn]at hi
theorem VR.Uw{f:FuncId}{y:TV}(hy:VR X P A m h (.fn f [] []) y):y=.fn f [] []:=by
 cases hy with
 |gone hi _ _=>simp[bn]at hi
 |fn p1 _ p3 _=>rw[a3Y p1.symm,a3Y p3.symm]
theorem aeH{k ex:Bool}{t:Nat}{l:List (X.Γ t)}{x:TV}(hl:LR X P A m h k ex t l x):(l=[]∧x=.nil .aP)∨(l=[]∧∃b off sz cs,x=.aP b off 0 0 sz true∧A b∧aX h b=some cs∧off<=cs.length∧dw P t=some sz∧0<sz) ∨
  (l≠[]∧∃b sz e kk cs,x=.aP b 0 l.length l.length sz e∧dw P t=some sz∧0<sz∧h[b]? = some (.cells kk cs)∧kk≠.ro∧(k=true->kk=.own)∧(ex=true->e=true)∧cs.length=l.length*sz∧dW X P A m h t l cs 0 sz):=by
 cases hl with
 |nil=>exact .inl ⟨rfl,rfl⟩
 |emp p0 p1 p2 p3 p4=>exact .inr (.inl ⟨rfl,_,_,_,_,rfl,p0,p1,p2,p3,p4⟩)
 |some p1 p2 p3 p4 p5 p6 p7 p8 p9=>exact .inr (.inr ⟨p1,_,_,_,_,_,rfl,p2,p3,p4,p5,p6,p7,p8,p9⟩)
theorem a9S{H:List (PB X.Γ)}{i:Nat}{x:TV}{k ex:Bool}{t:Nat}{l:List (X.Γ t)}(hr:HR X P A m H h)(hi:H[i]? = some (.list k ex t l))(hv:VR X P (AA A m) m h (.own i) x):m[i]? = some (.dB x)∧LR X P (AA A m) m h k ex t l x:=by
 obtain⟨mb,g1,g2⟩:=hr.at_ i _ hi;cases hv with
 |own e _=>
  rw[g1]at e;cases e;exact⟨g1,g2⟩
 |gone JO e _=>
  simp only[bn,a00]at JO;subst JO;rw[g1]at e;cases e<;>exact g2.elim
end
section
variable {X:kJ} {P:LI1}
theorem nY.gs(hX:bP X P){call:aY}{f:FuncId}{vs:List (PV X.Γ)}{v v':PV X.Γ}{ext ext':List (PB X.Γ)}(hc:nY X P call f vs v ext)(gs:List G)(hg:l7 0 gs (⟨[(0,.val v)],[],ext⟩:aS X.Γ)=some ⟨[(0,.val v')],[],ext'⟩):nY X P call f vs v' ext':=by
 intro A h first args cap Ir hv
 obtain⟨w,h',m',c1,c2,c3,c4⟩:=hc A h first args cap Ir hv
 obtain⟨m2,q1,q2,q3⟩:=mQ hX hg A (fun _=>True) 0 m' ⟨[(0,.val w)],[],h',[]⟩ ⟨⟨c2,rfl,fun k cs hk=>by simp at hk,.cons c3 .nil⟩,fun b _=>.inl trivial,fun b hb=>(by cases hb),a4E _⟩;obtain⟨w',e1,e2⟩:=oz q1.st.env (t:=0) (v:=.val v') rfl;simp only[dL,a1U,a00]at e1;subst e1;exact⟨w,h',m2,c1,q1.st.heap,e2,c4.trans q2⟩
theorem a6j{A:Nat->Prop}{m:List MB}{h:List HB}{t:Nat}{fu:Bool}{x:TV}(hv:VR X P A m h (.dB t [] fu) x):x=.nil .aP∨∃b off cap sz ex cs,x=.aP b off 0 cap sz ex∧A b∧aX h b=some cs∧dw P t=some sz∧0<sz∧off<=cs.length:=by
 generalize hl:([]:List (X.Γ t))=l at hv;cases hv with
 |oW=>exact .inl rfl
 |dB a c c2 s z o k f e r=>
  subst hl;exact .inr ⟨_,_,_,_,_,_,rfl,a,c,s,z,by simpa using o⟩
 |gone hi _ _=>simp[bn]at hi
theorem X3{A:Nat->Prop}{h:List HB}{t:Nat}{x:TV}(Ir:∀b,h.length<=b->A b)(hx:LR X P (AA A [.dB x]) [.dB x] h false false t [] x)(ho:(MB.dB x).own=none):HR X P A [.dB x] [.list false false t []] h:=by
 have hb:bg [MB.dB x]=[]:=by simp[bg,ho]
 refine⟨rfl,fun i b hi=>?_,by rw[hb];exact a5O,Ir,fun b qy=>by rw[hb]at qy;cases qy⟩;cases i with
 |zero=>simp only[a2r,a00]at hi;subst hi;exact⟨.dB x,rfl,hx⟩
 |succ i=>simp at hi
end
def iZ{σ ρ:Type}(g:Nat->σ->σ⊕ρ):Nat->Nat->σ->σ⊕ρ
 | 0,_,s=>.inl s
 |m+1,k,s=>match g k s with
  |.inl s'=>iZ g m (k+1) s'
  |.inr r=>.inr r
def aU{σ:Type}(g:Nat->σ->σ):Nat->Nat->σ->σ
 | 0,_,s=>s
 |m+1,k,s=>aU g m (k+1) (g k s)
theorem RV{σ ρ:Type}{g:Nat->σ->σ}:∀(m k:Nat) (s:σ),iZ (ρ:=ρ) (fun k s=>.inl (g k s)) m k s=.inl (aU g m k s)
 | 0,_,_=>rfl
 |m+1,k,s=>RV m (k+1) (g k s)
theorem sU{σ:Type}{g:Nat->σ->σ}:∀(m k:Nat) (s:σ),aU g (m+1) k s=g (k+m) (aU g m k s)
 | 0,_,_=>rfl
 |m+1,k,s=>by rw[aU,sU m (k+1),show k+1+m=k+(m+1) by omega];rfl
theorem dU{σ:Type}{g:Nat->σ->σ}(Q:Nat->σ->Prop){m k:Nat}{s:σ}(h0:Q k s)(hs:∀j s,k<=j->j<k+m->Q j s->Q (j+1) (g j s)):Q (k+m) (aU g m k s):=by
 induction m with
 |zero=>exact h0
 |succ m ih=>rw[sU];exact hs (k+m) _ (by omega) (by omega) (ih fun j s h1 h2 h3=>hs j s h1 (by omega) h3)
theorem H9{c:Nat->Bool}{ρ:Type}{r:Nat->ρ}:∀(m k:Nat),jP (iZ (σ:=Unit) (fun k _=>if c k=true then .inr (r k)else .inl ()) m k ())=true↔∀j,k<=j->j<k+m->c j=false
 | 0,k=>by simp[iZ,jP];omega
 |m+1,k=>by
  simp only[iZ];by_cases hc:c k=true
  .simp only[hc,a1U,jP,a2i,false_iff];intro h;have:=h k (a0U _) (by omega);rw[hc]at this;cases this
  simp only[hc,a2i,a3g];rw[H9 m (k+1)];constructor
  .intro h j h1 h2;rcases a4d k j with h3|h3
   .exact h j h3 (by omega)
   rw[show j=k by omega];simpa using hc
  intro h j h1 h2;exact h j (by omega) (by omega)
theorem X4{c:Nat->Bool}{ρ:Type}{r:Nat->ρ}{m k:Nat}(h:jP (iZ (σ:=Unit) (fun k _=>if c k=true then .inr (r k)else .inl ()) m k ())=false):∃j,k<=j∧j<k+m∧c j=true∧(∀i,k<=i->i<j->c i=false)∧iZ (σ:=Unit) (fun k _=>if c k=true then .inr (r k)else .inl ()) m k ()=.inr (r j):=by
 induction m generalizing k with
 |zero=>simp[iZ,jP]at h
 |succ m ih=>
  simp only[iZ]at h ⊢;by_cases hc:c k=true
  .simp only[hc,a1U];exact⟨k,a0U _,by omega,hc,fun i h1 h2=>by omega,rfl⟩
  simp only[hc,a2i,a3g]at h ⊢;obtain⟨j,h1,h2,h3,h4,h5⟩:=ih h;exact⟨j,by omega,by omega,h3,fun i hi1 JO=>by
   rcases a4d k i with h6|h6
   .exact h4 i h6 JO
   rw[show i=k by omega];simpa using hc,h5⟩
abbrev gS(c:Nat->Bool)(k:Nat)(_:Unit):Unit⊕Nat:=if c k=true then .inr k else .inl ()
abbrev bC(c:Nat->Bool)(N:Nat):Unit⊕Nat:=iZ (gS c) N 0 ()
theorem dH{c:Nat->Bool}{N:Nat}:jP (bC c N)=true↔∀j,j<N->c j=false:=by unfold bC gS;rw[H9 (r:=fun k=>k)];exact⟨fun h j hj=>h j (by omega) (by omega),fun h j _ hj=>h j (by omega)⟩
theorem DW{c:Nat->Bool}{N:Nat}(h:jP (bC c N)=false):∃j,j<N∧c j=true∧(∀i,i<j->c i=false)∧bC c N=.inr j:=by obtain⟨j,_,h2,h3,h4,h5⟩:=X4 (r:=fun k=>k) h;exact⟨j,by omega,h3,fun i hi=>h4 i (by omega) hi,h5⟩
abbrev RX(c:Nat->Bool)(a N:Nat):Unit⊕Nat:=iZ (gS c) (N-a) a ()
def Ov{σ:Type}(g:Nat->σ->σ):Nat->σ->σ
 | 0,s=>s
 |k+1,s=>Ov g k (g k s)
theorem RY{σ:Type}{g:Nat->σ->σ}(Q:Nat->σ->Prop):∀{k:Nat} {s:σ},Q k s->(∀j s,j<k->Q (j+1) s->Q j (g j s))->Q 0 (Ov g k s)
 | 0,_,h,_=>h
 |k+1,s,h,hs=>RY Q (k:=k) (hs k s (by omega) h) fun j s h1 h2=>hs j s (by omega) h2
theorem Ox{α:Type}{l:List α}{d:α}{p:α->Prop}:(∀j,j<l.length->p (l.getD j d))↔∀a∈l,p a:=by
 constructor
 .intro h a ha;obtain⟨j,hj,rfl⟩:=a4v.1 ha;simpa[List.getD,a0a hj]using h j hj
 intro h j hj;have:l.getD j d=l[j]:=by simp[List.getD,a0a hj]
 rw[this];exact h _ (a4q hj)
theorem qX{α:Type}{a b:List α}{d:α}(hl:a.length=b.length):a=b↔∀j,j<a.length->a.getD j d=b.getD j d:=by
 constructor
 .rintro rfl j _;rfl
 intro h;apply a9R hl;intro j h1 h2;simpa[List.getD,a0a h1,a0a h2]using h j h1
section
variable {X:kJ} {P:LI1} {T:qx} {L:Nat} {f nt B:Nat} {gQ:Bool} {call:aY} {b:Code} {σ ρ:Type}
def uY(out:σ⊕ρ->Ex×aS X.Γ)(g:Nat->σ->σ⊕ρ)(m k:Nat):σ⊕ρ->Ex×aS X.Γ
 |.inl s=>out (iZ g m k s)
 |.inr r=>out (.inr r)
theorem Oy{N:Nat}{st:Int->σ->aS X.Γ}{g:Nat->σ->σ⊕ρ}{out:σ⊕ρ->Ex×aS X.Γ}{s0:σ}{w:aS X.Γ}(Inv:Nat->σ->Prop)(h0:gJ X (T.eX f (dQ b)) w=st 0 s0)(hl:N<=ah)(hL:ah<L)(hi:Inv 0 s0)
  (hs:∀(k:Nat) (s:σ) (n:Nat),k<N->Inv k s->(∀s1,Inv (k+1) s1->dI X P T call L f gQ nt B b n (st (i64.wrap (k+1)) s1) (uY out g (N-(k+1)) (k+1) (.inl s1)).1 (uY out g (N-(k+1)) (k+1) (.inl s1)).2) ->
   dI X P T call L f gQ nt B b (n+1) (st k s) (uY out g (N-(k+1)) (k+1) (g k s)).1 (uY out g (N-(k+1)) (k+1) (g k s)).2)
  (ho:∀s,Inv N s->dI X P T call L f gQ nt B b 1 (st N s) (out (.inl s)).1 (out (.inl s)).2) :
  dM X P T call L f gQ nt B (.loop b) w (out (iZ g N 0 s0)).1 (out (iZ g N 0 s0)).2:=by
 have key:∀(m k:Nat) (s:σ),k+m=N->Inv k s->dI X P T call L f gQ nt B b (m+1) (st k s) (out (iZ g m k s)).1 (out (iZ g m k s)).2:=by
  intro m
  induction m with
  |zero=>
   intro k s hk hr;have:k=N:=(by omega);subst this;exact ho s hr
  |succ m ih=>
   intro k s hk hr;have aT:k<N:=(by omega);have h1:=hs k s (m+1) aT hr fun s1 h=>by have:=ih (k+1) s1 (by omega) h;rw[xY (by omega),show N-(k+1)=m by omega];exact this
   rw[show N-(k+1)=m by omega]at h1;simp only[iZ];cases hg:g k s with
   |inl s1=>rw[hg]at h1;exact h1
   |inr r=>rw[hg]at h1;exact h1
 exact zn (key N 0 s0 (by omega) hi) h0 (by omega)
theorem aeI{a N:Nat}{st:Int->σ->aS X.Γ}{g:Nat->σ->σ⊕ρ}{out:σ⊕ρ->Ex×aS X.Γ}{s0:σ}{w:aS X.Γ}(Inv:Nat->σ->Prop)(h0:gJ X (T.eX f (dQ b)) w=st a s0)(ha:a<=N)(hl:N<=ah)(hL:ah<L)(hi:Inv a s0)
  (hs:∀(k:Nat) (s:σ) (n:Nat),a<=k->k<N->Inv k s->(∀s1,Inv (k+1) s1->dI X P T call L f gQ nt B b n (st (i64.wrap (k+1)) s1) (uY out g (N-(k+1)) (k+1) (.inl s1)).1 (uY out g (N-(k+1)) (k+1) (.inl s1)).2) ->
   dI X P T call L f gQ nt B b (n+1) (st k s) (uY out g (N-(k+1)) (k+1) (g k s)).1 (uY out g (N-(k+1)) (k+1) (g k s)).2)
  (ho:∀s,Inv N s->dI X P T call L f gQ nt B b 1 (st N s) (out (.inl s)).1 (out (.inl s)).2) :
  dM X P T call L f gQ nt B (.loop b) w (out (iZ g (N-a) a s0)).1 (out (iZ g (N-a) a s0)).2:=by
 have key:∀(m k:Nat) (s:σ),a<=k->k+m=N->Inv k s->dI X P T call L f gQ nt B b (m+1) (st k s) (out (iZ g m k s)).1 (out (iZ g m k s)).2:=by
  intro m
  induction m with
  |zero=>
   intro k s _ hk hr;have:k=N:=(by omega);subst this;exact ho s hr
  |succ m ih=>
   intro k s ak hk hr;have aT:k<N:=(by omega);have h1:=hs k s (m+1) ak aT hr fun s1 h=>by have:=ih (k+1) s1 (by omega) (by omega) h;rw[xY (by omega),show N-(k+1)=m by omega];exact this
   rw[show N-(k+1)=m by omega]at h1;simp only[iZ];cases hg:g k s with
   |inl s1=>rw[hg]at h1;exact h1
   |inr r=>rw[hg]at h1;exact h1
 exact zn (key (N-a) a s0 (a0U _) (by omega) hi) h0 (by omega)
theorem Oz{N:Nat}{st:Int->σ->aS X.Γ}{g:Nat->σ->σ}{e:Ex}{fin:σ->aS X.Γ}{s0:σ}{w:aS X.Γ}(Inv:Nat->σ->Prop)(h0:gJ X (T.eX f (dQ b)) w=st 0 s0)(hl:N<=ah)(hL:ah<L)(hi:Inv 0 s0)(hv:∀k s,k<N->Inv k s->Inv (k+1) (g k s))
  (hs:∀(k:Nat) (s:σ),k<N->Inv k s->∀n e1 p,dI X P T call L f gQ nt B b n (st (i64.wrap (k+1)) (g k s)) e1 p->dI X P T call L f gQ nt B b (n+1) (st k s) e1 p)
  (ho:∀s,Inv N s->dI X P T call L f gQ nt B b 1 (st N s) e (fin s)):dM X P T call L f gQ nt B (.loop b) w e (fin (aU g N 0 s0)):=by
 have:=Oy (X:=X) (P:=P) (T:=T) (call:=call) (f:=f) (gQ:=gQ) (nt:=nt) (B:=B) (b:=b) (ρ:=Empty) (N:=N) (st:=st) (g:=fun k s=>.inl (g k s)) (out:=fun x=>(e,fin (aoe x))) (s0:=s0) (w:=w) Inv h0 hl hL hi
  (fun k s n hk hr h=>hs k s hk hr n _ _ (h _ (hv k s hk hr))) ho
 rw[RV]at this;exact this
theorem aiz{N:Nat}{st:Int->σ->aS X.Γ}{g:Nat->σ->σ}{e:Ex}{fin:σ->aS X.Γ}{s0:σ}{w:aS X.Γ}(Inv:Nat->σ->Prop)(h0:gJ X (T.eX f (dQ b)) w=st (i64.wrap ((N:Int)-1)) s0)(hl:N<=ah)(hL:ah<L)(hi:Inv N s0)(hv:∀k s,k<N->Inv (k+1) s->Inv k (g k s))
  (hs:∀(k:Nat) (s:σ),k<N->Inv (k+1) s->∀n e1 p,dI X P T call L f gQ nt B b n (st (i64.wrap (k-1)) (g k s)) e1 p->dI X P T call L f gQ nt B b (n+1) (st k s) e1 p)
  (ho:∀s,Inv 0 s->dI X P T call L f gQ nt B b 1 (st (-1) s) e (fin s)):dM X P T call L f gQ nt B (.loop b) w e (fin (Ov g N s0)):=by
 have wr:∀k:Nat,k<=ah->i64.wrap ((k:Int)-1)=(k:Int)-1:=by
  intro k hk;cases k with
  |zero=>rfl
  |succ k=>
   have:=xY (k:=k) (by omega);rw[show((k+1:Nat):Int)-1=(k:Int) by omega];unfold ah at hk;simp only[IntKind.wrap,IntKind.bits,IntKind.signed];have:(k:Int)%(2^64:Int)=(k:Int):=a8B (by omega) (by omega);simp only[this];rw[a0c (by simp;omega)]
 have key:∀(k:Nat) (s:σ),k<=N->Inv k s->dI X P T call L f gQ nt B b (k+1) (st ((k:Int)-1) s) e (fin (Ov g k s)):=by
  intro k
  induction k with
  |zero=>intro s _ hr;exact ho s hr
  |succ k ih=>
   intro s hk hr;have h1:=ih (g k s) (by omega) (hv k s (by omega) hr);rw[<-wr k (by omega)]at h1;rw[show((k+1:Nat):Int)-1=(k:Int) by omega];exact hs k s (by omega) hr _ _ _ h1
 rw[wr N hl]at h0;exact zn (key N s0 (a0U _) hi) h0 (by omega)
end
end Pv
namespace bQ
open Go Tw Pv
def bD:LI0->Int
 | []=>1
 |a::t=>a*bD t
def ng:LI0->Int->LI0
 | [],_=>[]
 |a::t,n=>(n/bD t)%a::ng t n
def qA:LI0->LI0->Int
 |a::t,d::p=>d*bD t+qA t p
 |_,_=>0
def ni:LI0->LI0->Bool
 | [],[]=>true
 |a::t,d::p=>decide (0<=d∧d<a)&&ni t p
 |_,_=>false
def qh(s:LI0):Prop:=∀a∈s,1<=a∧a<=12
instance (s:LI0):Decidable (qh s):=inferInstanceAs (Decidable (∀a∈s,1<=a∧a<=12))
structure wH(s:LI0):Prop where
 len:s.length<=6
 sz:qh s
 many:bD s<=2000
def kD(n:Nat)(o:LI0):Bool:=decide (o.length=n∧(∀a∈o,0<=a∧a<n)∧o.Nodup)
theorem fK{z:Int}(h0:-(2^62)<=z)(h1:z<2^62):i64.wrap z=z:=by
 simp only[IntKind.wrap,IntKind.bits,IntKind.signed];rcases Int.lt_or_le z 0 with h|h
 .have:z%(2^64:Int)=z+2^64:=by have:=abE z (2^64) 1;rw[abS]at this;rw[<-this];exact a8B (by omega) (by omega)
  simp only[this];rw[a0g (by simp;omega)];omega
 have:z%(2^64:Int)=z:=a8B h (by omega);simp only[this];rw[a0c (by simp;omega)]
theorem qh.tail{a:Int}{t:LI0}(h:qh (a::t)):qh t:=fun b hb=>h b (a2P _ hb)
theorem je:∀{s:LI0},qh s->1<=bD s
 | [],_=>a8M _
 |a::t,h=>by have h1:=h a (a2O ..);have h2:=je h.tail;have:=Int.mul_le_mul h1.1 h2 (by omega) (by omega);simpa[bD]using this
theorem DX:∀(s t:LI0),bD (s++t)=bD s*bD t
 | [],t=>by simp[bD]
 |a::s,t=>by simp[bD,DX s t,Int.mul_assoc]
theorem Qk{s:LI0}(h:qh s)(k:Nat):bD (s.take k)<=bD s:=by
 have e:bD s=bD (s.take k)*bD (s.drop k):=by rw[<-DX,List.take_append_drop]
 have h1:1<=bD (s.take k):=je fun a ha=>h a (a95 ha);have h2:1<=bD (s.drop k):=je fun a ha=>h a (a5s ha);have:=a8G h2 (show 0<=bD (s.take k) by omega);omega
theorem X5:∀(s:LI0) (n:Int),(ng s n).length=s.length
 | [],_=>rfl
 |_::t,n=>by simp[ng,X5 t n]
theorem RZ:∀(s:LI0) (n:Int) (k:Nat),k<s.length->(ng s n).getD k 0=(n/bD (s.drop (k+1)))%s.getD k 0
 | [],_,k,h=>by simp at h
 |a::t,n,0,_=>by simp[ng]
 |a::t,n,k+1,h=>by have:=RZ t n k (by simpa using h);simpa[ng]using this
theorem zq:∀{s p:LI0},ni s p=true->p.length=s.length
 | [],[],_=>rfl
 |a::t,d::p,h=>by simp only[ni,a2f]at h;simp[zq h.2]
 | [],_::_,h=>by cases h
 |_::_,[],h=>by cases h
theorem wI:∀{s p:LI0},ni s p=true↔p.length=s.length∧∀j,j<s.length->0<=p.getD j 0∧p.getD j 0<s.getD j 0
 | [],[]=>by simp[ni]
 |a::t,d::p=>by
  simp only[ni,a2f,a1o,wI (s:=t),a4b];constructor
  .rintro⟨h1,h2,h3⟩;refine⟨by omega,fun j hj=>?_⟩;cases j with
   |zero=>simpa using h1
   |succ j=>simpa using h3 j (by omega)
  rintro⟨h1,h2⟩;exact⟨by simpa using h2 0 (by omega),by omega,fun j hj=>by simpa using h2 (j+1) (by omega)⟩
 | [],_::_=>by simp[ni]
 |_::_,[]=>by simp[ni]
theorem He:∀{s p:LI0},ni s p=true->qh s->0<=qA s p∧qA s p<bD s
 | [],[],_,_=>by simp[qA,bD]
 |a::t,d::p,h,hs=>by simp only[ni,a2f,a1o]at h;have ih:=He h.2 hs.tail;have hp:=je hs.tail;simp only[qA,bD];have h1:0<=d*bD t:=afB h.1.1 (by omega);have h2:(d+1)*bD t<=a*bD t:=aaK (by omega) (by omega);rw[agV,Int.one_mul]at h2;omega
theorem J8:∀{s:LI0} (n:Int),qh s->ni s (ng s n)=true
 | [],_,_=>rfl
 |a::t,n,hs=>by simp only[ng,ni,a2f,a1o];have:=hs a (a2O ..);exact⟨⟨agJ _ (by omega),Int.emod_lt_of_pos _ (by omega)⟩,J8 n hs.tail⟩
theorem CZ:∀{s:LI0} (n:Int),qh s->ng s (n%bD s)=ng s n
 | [],_,_=>rfl
 |a::t,n,hs=>by
  have hp:=je hs.tail;have ha:=hs a (a2O ..);simp only[ng,bD];have e1:n%(a*bD t)/bD t%a=n/bD t%a:=by rw[Int.emod_def n,show n-a*bD t*(n/(a*bD t))=n+(-(a*(n/(a*bD t))))*bD t by rw[Int.neg_mul,Int.mul_right_comm];rfl,Int.add_mul_ediv_right _ _ (by omega),show n/bD t+-(a*(n/(a*bD t)))=n/bD t+a*(-(n/(a*bD t))) by rw[Int.mul_neg],abE]
  have e2:ng t (n%(a*bD t))=ng t n:=by rw[<-CZ (n%(a*bD t)) hs.tail,<-CZ n hs.tail,Int.emod_emod_of_dvd n (Int.dvd_mul_left a (bD t))]
  rw[e1,e2]
theorem Ux:∀{s:LI0} {n:Int},qh s->0<=n->n<bD s->qA s (ng s n)=n
 | [],n,_,h0,h1=>by simp[bD]at h1;simp[ng,qA];omega
 |a::t,n,hs,h0,h1=>by have hp:=je hs.tail;have ha:=hs a (a2O ..);simp only[ng,qA];simp only[bD]at h1;have h2:0<=n/bD t:=agK h0 (by omega);have h3:n/bD t<a:=Int.ediv_lt_of_lt_mul (by omega) h1;rw[a8B h2 h3,<-CZ n hs.tail,Ux hs.tail (agJ _ (by omega)) (Int.emod_lt_of_pos _ (by omega))];exact Int.ediv_mul_add_emod n (bD t)
theorem Uy:∀{s p:LI0},ni s p=true->qh s->ng s (qA s p)=p
 | [],[],_,_=>rfl
 |a::t,d::p,h,hs=>by
  simp only[ni,a2f,a1o]at h;have ih:=Uy h.2 hs.tail;have hr:=He h.2 hs.tail;have hp:=je hs.tail;simp only[ng,qA];have e1:(d*bD t+qA t p)/bD t=d:=by rw[agL,Int.add_mul_ediv_right _ _ (by omega),Int.ediv_eq_zero_of_lt hr.1 hr.2];omega
  have e2:ng t (d*bD t+qA t p)=ng t (qA t p):=by rw[<-CZ _ hs.tail,agL,Int.add_mul_emod_self_right,CZ _ hs.tail]
  rw[e1,e2,ih,a8B h.1.1 h.1.2]
theorem eu{s:LI0}{k:Nat}(h:k<s.length):s.getD k 0∈s:=by
 have:s.getD k 0=s[k]:=by simp[List.getD,a0a h]
 rw[this];exact a4q h
theorem OA{s:LI0}{k:Nat}(h:k<s.length):bD (s.drop k)=s.getD k 0*bD (s.drop (k+1)):=by rw[a7E h];simp[bD,List.getD,a0a h]
theorem yV{l:LI0}{i j:Nat}{a:Int}(h:i<l.length):(l.set i a).getD j 0=if i=j then a else l.getD j 0:=by simp only[a2N,a9q];split<;>simp_all
def a2Q(s:LI0)(k:Nat)(x:Int×LI0):Int×LI0:=(Ub .i64 x.1 (s.getD k 0),x.2.set k (O6 .i64 x.1 (s.getD k 0)))
theorem aeJ{a b:Int}(h0:0<=a)(h1:a<2^62)(hb:0<b):Ub .i64 a b=a/b:=by have:a/b<=a:=Int.ediv_le_self b h0;have h2:0<=a/b:=agK h0 (by omega);rw[Ub,Int.tdiv_eq_ediv_of_nonneg h0,fK (by omega) (by omega)]
theorem aeK{a b:Int}(h0:0<=a)(h1:a<2^62)(hb:0<b):O6 .i64 a b=a%b:=by
 have h2:0<=a%b:=agJ _ (by omega);have h3:a%b<=a:=by have:=Int.emod_def a b;have h4:0<=b*(a/b):=afB (by omega) (agK h0 (by omega));omega
 rw[O6,Int.tmod_eq_emod_of_nonneg h0]
theorem a6k{s:LI0}{n:Int}(hs:qh s)(h0:0<=n)(h1:n<2^62){o:LI0}(ho:o.length=s.length):(Ov (a2Q s) s.length (n,o)).2=ng s n:=by
 have:=RY (g:=a2Q s) (k:=s.length) (s:=(n,o)) (fun k x=>x.1=n/bD (s.drop k)∧x.2.length=s.length∧∀j,k<=j->j<s.length->x.2.getD j 0=(ng s n).getD j 0)
  ⟨by simp[bD],ho,fun j h1 h2=>by omega⟩ (fun k x hk hx=>by
   obtain⟨e1,e2,e3⟩:=hx;have hp:1<=bD (s.drop (k+1)):=je fun a ha=>hs a (a5s ha);have ha:=hs _ (eu hk);have hx0:0<=x.1:=by rw[e1];exact agK h0 (by omega)
   have hx1:x.1<=n:=by rw[e1];exact Int.ediv_le_self _ h0
   simp only[a2Q];rw[aeJ hx0 (by omega) (by omega),aeK hx0 (by omega) (by omega)];refine⟨?_,by simp[e2],fun j h2 h3=>?_⟩
   .rw[OA hk,Int.mul_comm,<-Int.ediv_ediv_of_nonneg (by omega),e1]
   .rw[yV (by omega)];split
    .rename_i e;subst e;rw[RZ s n k hk,e1]
    .exact e3 j (by omega) h3)
 obtain⟨_,e2,e3⟩:=this;rw[qX (d:=0) (by rw[e2,X5])];intro j hj;exact e3 j (a4E _) (by omega)
def EK(s:LI0):Int:=aU (fun k n=>if i64.wrap (n*s.getD k 0)<3000 then i64.wrap (n*s.getD k 0)else 3000) s.length 0 1
theorem X6{s:LI0}(hs:qh s):EK s=min 3000 (bD s):=by
 have:=dU (g:=fun k n=>if i64.wrap (n*s.getD k 0)<3000 then i64.wrap (n*s.getD k 0)else 3000) (m:=s.length) (k:=0) (s:=(1:Int)) (fun k n=>n=min 3000 (bD (s.take k))) (by simp[bD];decide) (fun j n h1 h2 h3=>by
  have hj:j<s.length:=by omega
  have ha:=hs _ (eu hj);have hp:1<=bD (s.take j):=je fun a ha=>hs a (a95 ha);have e:bD (s.take (j+1))=bD (s.take j)*s.getD j 0:=by rw[a5K hj,DX];simp[bD,List.getD,a0a hj]
  have hn0:1<=n:=by omega
  have hn1:n<=3000:=by omega
  have h4:n*s.getD j 0<=3000*12:=Int.mul_le_mul hn1 ha.2 (by omega) (by omega);have h5:1<=n*s.getD j 0:=by have:=Int.mul_le_mul hn0 ha.1 (by omega) (by omega);omega
  rw[fK (by omega) (by omega),e];by_cases hc:bD (s.take j)<=3000
  .have:n=bD (s.take j):=(by omega);rw[this];split<;>omega
  have:n=3000:=by omega
  subst this;have h6:3000*s.getD j 0<=bD (s.take j)*s.getD j 0:=aaK (by omega) (by omega);have h7:3000<=3000*s.getD j 0:=by omega
  split<;>omega)
 rw[a3T,aae]at this;exact this
theorem wH.abV{s:LI0}(h:wH s):EK s=bD s:=by rw[X6 h.sz];have:=h.many;omega
abbrev FD(s:LI0):Nat:=(bD s).toNat
theorem wH.a6l{s:LI0}(h:wH s):((FD s:Nat):Int)=bD s:=by have:=je h.sz;show((bD s).toNat:Int)=_;omega
theorem wH.FD{s:LI0}(h:wH s):((FD s:Nat):Int)=EK s:=by rw[h.abV,h.a6l]
theorem wH.lt{s:LI0}(h:wH s){k:Nat}(hk:k<bQ.FD s):decide ((k:Int)<EK s)=true:=by rw[<-h.FD];exact aW hk
theorem wH.no{s:LI0}(h:wH s):decide (((bQ.FD s:Nat):Int)<EK s)=false:=by rw[<-h.FD];exact eH _
theorem wH.aiA{s:LI0}(h:wH s):s.length<=ah:=by have:=h.len;unfold ah;omega
theorem OB{α:Type}(f:Nat->α)(n:Nat):aU (fun k (s:List α)=>s++[f k]) n 0 []=(List.range n).map f:=by have:=dU (g:=fun k (s:List α)=>s++[f k]) (m:=n) (k:=0) (s:=[]) (fun k s=>s=(List.range k).map f) rfl (fun j s _ _ h=>by rw[h,abA,a3Z];rfl);simpa using this
end bQ
namespace Tw
open Go Go.Proofs Go.Shelf
section
variable {P:LI1} {ρ:Ren}
theorem a2R{M:Mp}{w:LI4}{h:List HB}(hV:Valid M uK (kQ h) w){b off len cap:Nat}{ex:Bool}{y:LI3}(hx:VR M.h (.aP b off len cap 1 ex) y)(h0:0<len){k:BK}{cs r:List TV}(hb:h[b]? = some (.cells k cs))(hk:k≠.ro)
  (hl:k=.last->off+cap=cs.length) (hr:sub cs off len=some r) :
  ∃ls p cap',M (.h b)=some (.cells ls)∧p∈ls∧y=.slice (some ⟨p.c,off,none⟩) len cap'∧len<=cap'∧cap<=cap'∧off+cap<=p.ext∧off+cap'<=p.tot∧cap'<2^63∧N9 M.h w k cs p∧p.base=0∧(∀c∈cs,iT c=true) ∧
   ∃xs:List LI3,bU M.h r xs∧∀(j:Nat) (v:LI3),xs[j]? = some v->w.cell? ⟨p.c,off+j,none⟩=some v:=by
 cases hx with
 |aP hm hp EU hle vW hex ha aoi=>
  rename_i ls p a cap';obtain⟨fV,h1,h2⟩:=hV.ok _ _ hm trivial;have hg:kQ h (.h b)=some (.cells k cs):=by simp[St.get,hb]
  rw[hg]at h1;cases h1;have hp:=hp.resolve_left (by omega);have FT:=h2.2.1 p hp;have zL:=FT.base hk;rcases ha with ha|⟨rfl,ha⟩
  .omega
  obtain⟨xs,g1,g2⟩:=FT.slice hr (by omega) (fun e=>by have:=hl e;have:=FT.ext;omega);rw[zL]at g2 ha ⊢;simp only[a3T,agW]at g2 ha EU ⊢;exact⟨ls,p,cap',hm,hp,rfl,by omega,vW,EU,ha,aoi,FT,zL,h2.1,xs,g1,g2⟩
end
open Go.Sort
theorem aeL{N:Np}{k:IntKind}{n:Int}{y:LI3}(h:VR N (.int k n) y):y=.int k n:=by cases h;rfl
section
variable {P:LI1} {M:Mp} {D:Key->Prop} {C:Ct} {w w':LI4}
theorem aeM(h:Valid M D C w){k:Key}{ls:List Pl}{p:Pl}{cs cs':List TV}{kk Bc:BK}
  (hk:M k=some (.cells ls)) (hd:D k) (hc:C k=some (.cells kk cs)) (hp:p∈ls) (xJ:(kk=.own∧Bc=.own)∨((kk=.grow∨kk=.last)∧Bc=.last∧p.ext=cs.length))
  (hl:cs'.length=cs.length) (hn:∀c∈cs',iT c=true) {uM:Array LI3} {ty':LI2} (yD:w'.heap[p.c]? = some (.cells uM ty' (0,0))) (hs':uM.size=p.tot)
  (VZ:∀c,c<w.heap.size->c≠p.c->w'.heap[c]? = w.heap[c]?) (uT:w.heap.size<=w'.heap.size) (ho:w'.os=w.os) (hou:w'.output=w.output) (ht:w'.tape=w.tape)
  (a6m:∀(i:Nat) (c:TV) (v:LI3),cs'[i]? = some c->uM[i]? = some v->VR M.h c v) :
  Valid M D (lJ C k (.cells Bc cs')) w'∧Ext M C w M (lJ C k (.cells Bc cs')) w' [k]:=by
 obtain⟨hb,he,h1,FT,jy,huq,arr,ty,hr,hs,hle,hv⟩:=h.wrB hk hd hc hp xJ;have iq:kk≠.ro:=by rcases xJ with⟨e,_⟩|⟨e|e,_⟩<;>rw[e]<;>simp
 have Ye:∀b0,C k=some b0->wr b0=true:=fun b0 zL=>by rw[hc]at zL;cases zL;cases kk<;>simp_all [wr]
 have qp:dJ M k (.cells ls)=M:=IB hk;have gq:∀c,c<w.heap.size->c∉aI (.cells ls)->w'.heap[c]? = w.heap[c]?:=fun c hc0 hc=>VZ c hc0 (fun e=>hc (by rw[e];exact a1g.2 ⟨p,hp,rfl⟩));have gV:∀c∈aI (.cells ls),(∃l0,M k=some l0∧c∈aI l0)∨w.heap.size<=c:=fun c hc=>.inl ⟨_,hk,hc⟩;have IE:rX M (dJ M k (.cells ls)):=by rw[qp];exact .refl _
 have aT:∀q∈ls,q.c<w.heap.size:=fun q hq=>h.inb _ _ hk q.c (a1g.2 ⟨q,hq,rfl⟩);refine⟨?_,?_⟩
 .have:=h.upd (D':=D) (w':=w') k (.cells Bc cs') (.cells ls) (fun j hj=>.inl hj) (fun l0 h0=>by
   rw[hk]at h0;cases h0;exact⟨hd,.refl _,Ye⟩) gq gV uT (by
   rw[qp];refine⟨hn,fun q hq=>?_,fun e=>?_,fun e=>⟨jy,fun q1 Ip q2 G5 e1 e2=>by rw[huq q1 Ip (by omega),huq q2 G5 (by omega)]⟩⟩
   .have hq0:=FT q hq;by_cases Yp:q.c=p.c
    .have:=Nh jy hp hq Yp;subst this;exact⟨⟨uM,ty',(0,0),yD,hs',fun _=>rfl,fun _ i c v _ a b=>a6m i c v a (by simpa[hb]using b)⟩,by omega,by omega,fun _=>hb⟩
    .obtain⟨aoj,ty2,fz2,t1,t2,t3,t4⟩:=hq0.row;refine⟨⟨aoj,ty2,fz2,(VZ q.c (aT q hq) Yp).trans t1,t2,fun _=>t3 iq,fun hz i c v hi a b=>?_⟩,hq0.fit,by have:=hq0.ext;omega,fun _=>hq0.base iq⟩;exfalso;apply Yp;rcases xJ with⟨e,_⟩|⟨_,e,_⟩
     .obtain⟨b',g1,g2⟩:=h.ok k _ hk hd;rw[hc]at g1;cases g1;obtain⟨q',g3,_⟩:=g2.2.2.1 e;rw[g3]at hq hp;simp at hq hp;rw[hq,hp]
     .rw[huq q hq (by rw[hz e];omega)]
   .rcases xJ with⟨e0,_⟩|⟨_,e1,_⟩
    .obtain⟨b',g1,g2⟩:=h.ok k _ hk hd;rw[hc]at g1;cases g1;obtain⟨q',g3,g4⟩:=g2.2.2.1 e0;exact⟨q',g3,by omega⟩
    .rw[e1]at e;cases e)
  rwa [qp]at this
 .have:=Ext.upd (M:=M) (C:=C) (w:=w) (w':=w') k (.cells Bc cs') (.cells ls) [k] (.inl ⟨by simp[hc],rfl,by simp[hk],Ye⟩) IE gq gV uT ho hou ht
  rwa [qp]at this
end
def Ku:List TV->Option LI0
 | []=>some []
 |.int .i64 n::r=>(Ku r).map (n::·)
 |_=>none
theorem OC:∀{cs:List TV} {zs:LI0},Ku cs=some zs->cs=zs.map fun n=>TV.int .i64 n
 | [],zs,h=>by simp[Ku]at h;subst h;rfl
 |c::r,zs,h=>by
  unfold Ku at h;split at h
  .rename_i e;cases e
  .rename_i n r' e;cases e;simp only[a05]at h;obtain⟨ys,h1,rfl⟩:=h;rw[OC h1];rfl
  cases h
def gK(l:LI0):LI0:=l.mergeSort fun x y=>decide (x<=y)
def a6n(g:LI0->LI0)(fI:Nat):aY
 |.fn f [] [],[d],h=>
  if f=fI then
   match d with
   |.nil .aP=>some (.dG [],h,[])
   |.aP _ _ 0 _ _ _=>some (.dG [],h,[])
   |.aP b 0 n n' 1 _=>match h[b]? with
    |some (.cells k cs)=>match zO k true,Ku cs with
     |some k',some zs=>if n=n'∧cs.length=n∧0<n∧n<=2^20 then some (.dG [],h.set b (.cells k' ((g zs).map fun x=>TV.int .i64 x)),[b])else none
     |_,_=>none
    |_=>none
   |_=>none
  else none
 |_,_,_=>none
def OD:Nat->aY:=a6n gK
section
variable {P:LI1} {ρ:Ren}
theorem X7(L:Lays.n189 P ρ):iC P (OD (ρ.f 189)):=by
 intro fv args h v h' ws hc M w x xs hV yQ hx Nz;unfold OD a6n at hc;split at hc
 case h_2=>cases hc
 rename_i f d;split at hc
 case isFalse=>cases hc
 rename_i hf;subst hf;cases hx with
 | @fn _ _ _ ys zs h1 h1a h3 h3a=>
 have:ys=[]:=a3Y h1.symm;subst this;have:zs=[]:=a3Y h3.symm;subst this;obtain⟨dv,r1,rfl,hdv,Nz⟩:=Nz.iM;have:=Nz.pR;subst this;have enters:∀{R:LI3->LI4->Prop},Calls P (ρ.f 189) #[dv] w (KO R) ->
   ∃d,(∀w,(Deferred.ofValue (.func (.func (ρ.f 189)) [].toArray [].toArray) [dv].toArray).run P w=.ok d w)∧((Lj P d w R∧∃f a b,(TV.fn (ρ.f 189) [] [])=.fn f a b)∨(TR P d w R∧∃l,(TV.fn (ρ.f 189) [] [])=.kG l)):=by
  intro R Uz;refine⟨{ target:=.fn (.func (ρ.f 189)) #[],args:=#[dv] },fun w=>by simp[Deferred.ofValue],.inl ⟨⟨ρ.f 189,_,?_,fun n=>callsIn_wide.2 Uz⟩,_,_,_,rfl⟩⟩;have e1:=L.f189;have e2 : ¬ (Body.n189 ρ).name = "runtime.NumGoroutine" := by simp [Body.n189]
  obtain⟨c,e3⟩:∃c,(Body.n189 ρ).body=some c:=⟨_,rfl⟩;simp[invoke,callFunc,program,Sem.run,e1,e2,e3]
 split at hc
 .simp only[a00,a0i]at hc;obtain⟨rfl,rfl,rfl⟩:=hc;cases hdv;refine enters ((Any.slices_Sort_int_none L none 0 w).mono fun e w' ⟨he,hw⟩=>?_);subst he;subst hw;exact⟨M,hV,yQ,.refl _ _ _,.Q7 .nil⟩
 .simp only[a00,a0i]at hc;obtain⟨rfl,rfl,rfl⟩:=hc;cases hdv;refine enters ((Any.slices_Sort_int_none L _ _ w).mono fun e w' ⟨he,hw⟩=>?_);subst he;subst hw;exact⟨M,hV,yQ,.refl _ _ _,.Q7 .nil⟩
 .rename_i b n n' ex _;split at hc
  case h_2=>cases hc
  rename_i k cs hb;split at hc
  case h_2=>cases hc
  rename_i k' zs o8 hzs;split at hc
  case isFalse=>cases hc
  rename_i QJ;obtain⟨rfl,pF,hn0,aue⟩:=QJ;simp only[a00,a0i]at hc;obtain⟨rfl,rfl,rfl⟩:=hc;have QM:=OC hzs;have VH:zs.length=n:=by rw[<-pF,QM,a4h]
  have hk:k≠.ro:=by rintro rfl;cases o8
  have aiB:sub cs 0 n=some cs:=by unfold sub;rw[a0g (by omega)];simp[<-pF]
  obtain⟨ls,p,cap',k1,k2,rfl,k3,k4,k5,k6,k7,k8,k9,k10,csv,k11,k12⟩:=a2R hV hdv hn0 hb hk (fun _=>by omega) aiB;have hpe:p.ext=cs.length:=by have:=k8.ext;omega
  obtain⟨arr,ty,fz,z1,z2,z3,_⟩:=k8.row;have:=z3 hk;subst this;have aT:=(a2h.1 z1).1;have hcv:csv=zs.map fun n=>Value.int .i64 n:=by
   apply a9r;intro i;by_cases hi:i<n
   .have hi1:i<cs.length:=(by omega);have JO:i<csv.length:=by rw[<-k11.len];exact hi1
    have:=k11.at_ i cs[i] csv[i] (by simp[hi1]) (by simp[JO]);have hc1:cs[i]? = (zs.map fun n=>TV.int .i64 n)[i]?:=(by rw[<-QM]);rw[a0a hi1,a4j,a0a (by omega)]at hc1;simp only[a0j,a00]at hc1;rw[hc1]at this;rw[a0a JO,a4j,a0a (by omega)];rw[aeL this];rfl
   .rw[a4a (by rw[<-k11.len];omega),a4a (by rw[a4h];omega)]
  have hH:Holds (Value.int .i64) w p.c 0 zs.toArray:=fun j hj=>by simp only[List.size_toArray]at hj;refine⟨?_,by simp[World.frozen?,z1]⟩;refine k12 j _ ?_;rw[hcv,a4j,a0a hj];simp[hj]
  have Uz:=Any.slices_Sort_int L p.c 0 cap' zs w hH aT (by omega);rw[VH]at Uz;refine enters (Uz.mono fun e w' ⟨he,N,os,hw⟩=>?_);subst he;have hsl:(gK zs).length=n:=by unfold gK;rw[aaB,VH]
  have hgb:kQ h (.h b)=some (.cells k cs):=by simp[St.get,hb]
  have xJ:(k=.own∧k'=.own)∨((k=.grow∨k=.last)∧k'=.last∧p.ext=cs.length):=by
   rcases JM o8 with e|⟨a,b,_⟩
   .exact .inl e
   .exact .inr ⟨a,b,hpe⟩
  have yD:w'.heap[p.c]? = some (.cells (putCells (Value.int .i64) 0 (gK zs).toArray arr) ty (0,0)):=by rw[hw,heap_grow_old _ _ (by simp[putRow,mapBlock,Sort.ahead];exact aT)];simp only[putRow,mapBlock,Sort.ahead,abz,a1U,z1,a0j,onCells];rfl
  have VZ:∀c,c<w.heap.size->c≠p.c->w'.heap[c]? = w.heap[c]?:=fun c hc0 iq=>by rw[hw,heap_grow_old _ _ (by simp[putRow,mapBlock,Sort.ahead];exact hc0)];simp only[putRow,mapBlock,Sort.ahead,abz];rw[a0c (fun e=>iq e.symm)]
  obtain⟨g1,g2⟩:=aeM (w':=w') (cs':=(gK zs).map fun x=>TV.int .i64 x) hV k1 trivial hgb k2 xJ (by rw[a4h,hsl,pF]) (fun c hc=>by
   obtain⟨y,_,rfl⟩:=a1g.1 hc;rfl) yD (by simp[putCells,z2]) VZ (by rw[hw];simp[putRow,mapBlock,Sort.ahead]) (by rw[hw];rfl) (by rw[hw];rfl) (by rw[hw];rfl) (fun i c u hc hu=>by
   rw[a4j]at hc;simp only[a05]at hc;obtain⟨y,hy,rfl⟩:=hc;have hi:i<(gK zs).length:=(a01.1 hy).1;have hia:i<arr.size:=(by omega);simp only[putCells,Array.getElem?_mapIdx,a3Q hia,a0j,a00]at hu;rw[a0g ⟨a4E _,by simp;omega⟩]at hu;subst hu;have:(gK zs).toArray[i-0]! = y:=by have h9:=(a01.1 hy).2;simp[hi,h9]
   rw[this];exact .int _ _)
  have yO:=(a01.1 hb).1;have EZ:kQ (h.set b (.cells k' ((gK zs).map fun x=>TV.int .i64 x)))=lJ (kQ h) (.h b) (.cells k' ((gK zs).map fun x=>TV.int .i64 x)):=jw ⟨[],[],h,[]⟩ b _ yO [] [];exact⟨M,by rw[EZ];exact g1,yQ,by rw[EZ];exact g2,.Q7 .nil⟩
 .cases hc
end
def OE(h h':List HB):Prop:=(∀b:Nat,(∀cs,h[b]?≠some (HB.mP cs))->h'[b]? = h[b]?)∧∀(b:Nat) cs,h[b]? = some (HB.mP cs)->∃cs',cs'.Perm cs∧h'[b]? = some (HB.cells .last cs')
def aeN(f:Nat)(call:aY)(fv:TV)(args:List TV)(h:List HB)(v:TV):Prop:=(∃k n,v=.int k n)∧fv=.fn f [] []∧∀h',OE h h'->∃h2,call fv args h'=some (v,h2,[])
open Classical in
def a2S(f:Nat)(call:aY):aY:=fun fv args h=>if hx:∃v,aeN f call fv args h v then some (Classical.choose hx,h,[])else none
theorem S9{h h':List HB}(hu:OE h h'):∀b:Nat,(h'[b]?).isSome=(h[b]?).isSome:=fun b=>by
 cases e:h[b]? with
 |none=>rw[hu.1 b (fun cs=>by rw[e];nofun),e]
 |some x=>
  by_cases hb:∃cs,x=.mP cs
  .obtain⟨cs,rfl⟩:=hb;obtain⟨cs',_,e2⟩:=hu.2 b cs e;rw[e2];rfl
  .rw[hu.1 b (fun cs=>by rw[e];intro h2;cases h2;exact hb ⟨cs,rfl⟩),e]
theorem X8(h:List HB):∀(g:Nat->List TV),(∀(b:Nat) cs,h[b]? = some (HB.mP cs)->(g b).Perm cs)->OE h (h.mapIdx fun b x=>match x with|HB.mP _=>HB.cells .last (g b)|x=>x):=fun g hg=>by
 constructor
 .intro b hb;rw[agM];cases e:h[b]? with
  |none=>rfl
  |some x=>
   simp only[a0j];cases x<;>first|rfl|exact absurd e (hb _)
 .intro b cs e;exact⟨g b,hg b cs e,by rw[agM,e];rfl⟩
theorem X9{M:Mp}{h:List HB}{w:LI4}(hV:Valid M uK (kQ h) w):∃h',OE h h'∧Valid M uK (kQ h') w:=by
 have hg:∀b:Nat,∃g:List TV,∀cs,h[b]? = some (HB.mP cs)->g.Perm cs∧∀l,M (.h b)=some l->pz M.h w (.cells .last g) l:=fun b=>by
  by_cases hb:∃cs,h[b]? = some (HB.mP cs)
  .obtain⟨cs,hb⟩:=hb;cases hm:M (.h b)with
   |none=>exact⟨cs,fun WC h2=>⟨by rw[hb]at h2;cases h2;exact .refl _,fun l hl=>by cases hl⟩⟩
   |some l=>
    obtain⟨bb,c1,c2⟩:=hV.ok _ _ hm trivial;have c1:h[b]? = some bb:=c1;rw[hb]at c1;cases c1;cases l with
    |obj r o=>exact c2.elim
    |cells ls=>
     obtain⟨cs',p1,p2⟩:=c2;exact⟨cs',fun WC h2=>⟨by rw[hb]at h2;cases h2;exact p1,fun l hl=>by cases hl;exact p2⟩⟩
  exact⟨[],fun cs h2=>absurd ⟨cs,h2⟩ hb⟩
 let g:Nat->List TV:=fun b=>Classical.choose (hg b)
 have hgs:∀(b:Nat) cs,h[b]? = some (HB.mP cs)->(g b).Perm cs∧∀l,M (.h b)=some l->pz M.h w (.cells .last (g b)) l:=fun b=>a8V (hg b);have hu:=X8 h g fun b cs e=>(hgs b cs e).1;generalize hh:(h.mapIdx fun b x=>match x with|HB.mP _=>HB.cells .last (g b)|x=>x)=h' at hu;refine⟨h',hu,?_⟩;have Wp:∀(b:Nat) cs,h[b]? = some (HB.mP cs)->h'[b]? = some (HB.cells .last (g b)):=fun b cs e=>by rw[<-hh,agM,e];rfl
 refine⟨fun k l hk _=>?_,fun k k' l l' b iq hk o8 _ hc hw=>?_,hV.inb⟩
 .obtain⟨bb,c1,c2⟩:=hV.ok k l hk trivial;cases k with
  |l k=>exact⟨bb,c1,c2⟩
  |h b=>
   have c1:h[b]? = some bb:=c1;by_cases hb:∃cs,bb=.mP cs
   .obtain⟨cs,rfl⟩:=hb;exact⟨_,Wp b cs c1,(hgs b cs c1).2 l hk⟩
   refine⟨bb,?_,c2⟩;show h'[b]? = some bb;rw[hu.1 b (fun cs=>by rw[c1];intro h2;cases h2;exact hb ⟨cs,rfl⟩),c1]
 obtain⟨bb,c1,_⟩:=hV.ok k l hk trivial;refine hV.own k k' l l' bb iq hk o8 trivial c1 ?_;cases k with
 |l k=>have hc:kQ h (.l k)=some b:=hc;rw[c1]at hc;cases hc;exact hw
 |h i=>
  have c1:h[i]? = some bb:=c1;have hc:h'[i]? = some b:=hc;by_cases hb:∃cs,bb=.mP cs
  .obtain⟨cs,rfl⟩:=hb;rfl
  rw[hu.1 i (fun cs=>by rw[c1];intro h2;cases h2;exact hb ⟨cs,rfl⟩),c1]at hc;cases hc;exact hw
theorem Zt{M:Mp}{h h1:List HB}{w w':LI4}{v:TV}{y:LI3}(hu:OE h h1)(hv:∃k n,v=.int k n)(hR:jJ M h1 w v h1 [] y w'):jJ M h w v h [] y w':=by
 obtain⟨M',a1,a2,a3,a4⟩:=hR;have hs:∀k,(kQ h1 k).isSome=(kQ h k).isSome:=fun k=>by
  cases k with
  |l k=>rfl
  |h b=>exact S9 hu b
 have Iq:∀(b:Nat) bb,h1[b]? = some bb->(h[b]? = some bb∧∀cs,bb≠HB.mP cs)∨∃cs cs',bb=HB.cells .last cs'∧cs'.Perm cs∧h[b]? = some (HB.mP cs):=fun b bb e=>by
  by_cases hb:∃cs,h[b]? = some (HB.mP cs)
  .obtain⟨cs,hb⟩:=hb;obtain⟨cs',p,e2⟩:=hu.2 b cs hb;rw[e]at e2;cases e2;exact .inr ⟨cs,cs',rfl,p,hb⟩
  have:=hu.1 b fun cs h2=>hb ⟨cs,h2⟩;rw[e]at this;exact .inl ⟨this.symm,fun cs h2=>hb ⟨cs,by rw[<-this,h2]⟩⟩
 refine⟨M',⟨fun k l hk _=>?_,fun k k' l l' b iq hk o8 _ hc hw=>?_,a1.inb⟩,a2,⟨a3.Io,a3.frame,fun _ _ _=>rfl,fun k hk hn=>a3.kX k ?_ hn,a3.fresh,a3.size,fun _ h=>h,fun k hk=>(by cases hk),fun k hk=>(by cases hk),a3.os,a3.output,a3.tape⟩,a4⟩
 .obtain⟨bb,c1,c2⟩:=a1.ok k l hk trivial;cases k with
  |l k=>exact⟨bb,c1,c2⟩
  |h b=>
   rcases Iq b bb c1 with⟨e,_⟩|⟨cs,cs',rfl,p,e⟩
   .exact⟨bb,e,c2⟩
   refine⟨_,e,?_⟩;cases l with
   |obj r o=>exact c2.elim
   |cells ls=>exact⟨cs',p,c2⟩
 .obtain⟨bb,c1,_⟩:=a1.ok k l hk trivial;refine a1.own k k' l l' bb iq hk o8 trivial c1 ?_;cases k with
  |l k=>have hc:kQ h1 (.l k)=some b:=hc;rw[c1]at hc;cases hc;exact hw
  |h i=>
   have hc:h[i]? = some b:=hc;rcases Iq i bb c1 with⟨e,_⟩|⟨cs,cs',rfl,p,e⟩
   .rw[hc]at e;cases e;exact hw
   rfl
 rcases hk with hk|hk
 .exact .inl (by rw[hs];exact hk)
 refine .inr ?_;have:=hs k;rw[hk]at this;cases e:kQ h1 k with
 |none=>rfl
 |some x=>rw[e]at this;cases this
theorem a9T{P:LI1}{f:Nat}{call:aY}(hC:iC P call):iC P (a2S f call):=by
 intro fv args h v h' ws hc M w x xs hV yQ hx Nz;unfold a2S at hc;split at hc
 rotate_left
 .cases hc
 rename_i hb;have hs:=a8V hb;simp only[a00,a0i]at hc;obtain⟨rfl,rfl,rfl⟩:=hc;obtain⟨hv,hfn,F8⟩:=hs;obtain⟨h1,hu,hV1⟩:=X9 hV;obtain⟨h2,xO⟩:=F8 h1 hu;obtain⟨d,e1,e2⟩:=hC _ _ _ _ _ _ xO M w x xs hV1 yQ hx Nz;refine⟨d,e1,?_⟩;rcases e2 with⟨⟨f',az,q1,q2⟩,r⟩|⟨⟨l,f',tmps,uJ,body,q1,q2⟩,r⟩
 .refine .inl ⟨⟨f',az,q1,fun n=>CallsIn.mono (F:=Fence.wide) (q2 n) fun en w3 VU=>?_⟩,r⟩;cases en with
  |panicked c=>exact VU.elim
  |outgrown=>exact VU.elim
  |returned y=>
   refine Zt hu hv (jJ.norm (mP:=false) hV1 yQ ?_ VU);obtain⟨k,n,e⟩:=hv;rw[e];simp[NS,BA,wo,nG,CB,U2,KP]
 obtain⟨l',e⟩:=r;exact absurd hfn (by rw[e];nofun)
theorem a9U{f:Nat}{call:aY}{args:List TV}{h:List HB}{k:IntKind}{n:Int}(hb:aeN f call (.fn f [] []) args h (.int k n))(iq:∃h',OE h h'):a2S f call (.fn f [] []) args h=some (.int k n,h,[]):=by
 have hx:∃v,aeN f call (.fn f [] []) args h v:=⟨_,hb⟩;unfold a2S;rw[dif_pos hx];obtain⟨h',hu⟩:=iq;obtain⟨h2,h1⟩:=(a8V hx).2.2 h' hu;obtain⟨h3,h4⟩:=hb.2.2 h' hu;rw[h4]at h1;have:Classical.choose hx=.int k n:=by simp only[a00,a0i]at h1;exact h1.1.symm
 rw[this]
open Go.ChangeShapes
section
variable {H:Type} {mD:LI2×LI3->H} {P:LI1} {w:LI4}
def Rd(mD:LI2×LI3->H)(P:LI1)(w:LI4)(t:LI2)(d:DataW H):Prop:=∃cs,Reads mD P w t cs d
theorem aeO{t:LI2}{k:IntKind}{d:DataW H}(ht:P.underlying t=some (.int k))(hd:Rd mD P w t d):∃n,d=.lit (.int k n)∧(Lit.int k n).wf=true:=by
 obtain⟨cs,fuel,ps,hd⟩:=hd;cases fuel with
 |zero=>simp[DataW.trod]at hd
 |succ n=>
  unfold DataW.trod at hd;rw[ht]at hd;split at hd<;>simp_all
  obtain⟨⟨_,h1⟩,rfl,_⟩:=hd;exact⟨_,rfl,h1⟩
theorem a2T{t:LI2}{fs:Array Field}{d:DataW H}(ht:P.underlying t=some (.struct fs))(hd:Rd mD P w t d) :
  ∃ds,d=.agg ds∧ds.length=fs.size∧∀(i:Nat) f d',fs[i]? = some f->ds[i]? = some d'->Rd mD P w f.type d':=by
 obtain⟨cs,fuel,ps,hd⟩:=hd;obtain⟨zs,n,_,hx,pF,VH,Iq⟩:=DataW.trod_struct ht hd;simp only[a0i]at hx;refine⟨zs.map (·.1),hx.1,by simpa using VH,fun i f d' e1 e2=>?_⟩;simp only[a4j,a05]at e2;obtain⟨z,hz,rfl⟩:=e2;exact⟨_,n,z.2,by rw[Iq i f e1,hz]⟩
theorem a6o{t e:LI2}{d:DataW H}(ht:P.underlying t=some (.slice e))(hd:Rd mD P w t d) :
  d=.nil∨∃xs ys,d=.slice xs ys∧∀y∈xs++ys,Rd mD P w e y:=by
 obtain⟨cs,fuel,ps,hd⟩:=hd;rcases Deep.open_slice ht hd with⟨rfl,hx⟩|⟨a,len,cap,m,n,Dt,Pl,rfl,_,hlc,_,hm,hx,Iq⟩
 .left;cases hx;rfl
 .right;simp only[a1U]at hm;subst hm;simp only[a0i]at hx;refine⟨_,_,hx.1,fun y hy=>?_⟩;have:∃i,i<m∧y=Dt i:=by
   rcases a3k.mp hy with hy|hy
   .obtain⟨i,hi,rfl⟩:=a1g.mp hy;exact⟨i,by have:=a4i.mp hi;omega,rfl⟩
   .obtain⟨i,hi,rfl⟩:=a1g.mp hy;exact⟨len+i,by have:=a4i.mp hi;omega,rfl⟩
  obtain⟨i,hi,rfl⟩:=this;obtain⟨cs',_,e2⟩:=Iq i hi;exact⟨cs',n,_,e2⟩
theorem Xa{t:LI2}{fs:Array Field}{g:Nat}{ds:List (DataW H)}{h:List HB}(ht:P.underlying t=some (.struct fs)) :
  CG P (g+1) t (.agg ds) h=match KQ P (CG P g) 0 fs.toList ds h with
   |some (cs,h1)=>if cs.length=P.cellsOf t then some (cs,h1)else none
   |none=>none:=by
 simp only[CG,ht]<;>rfl
end
end Tw
namespace Pv
open Go Tw
structure oC(X:kJ)(P:LI1)(kt:LI2)(α:Type)[DecidableEq α] where
 pv:α->PV X.Γ
 tv:α->TV
 v:α->LI3
 hp:∀x,pU (pv x)=some (tv x)
 ht:∀x,(tv x).yt=some (v x)
 hc:∀em x,aB P (Instr.checkKey em 10000 kt (v x))=some ()
 hf:∀(x:α) (l:List α),aB P (Instr.findKey kt (v x) (l.map fun y=>⟨v y,.bool false,0⟩))=some ((l.findIdx? fun y=>decide (x=y)).map fun i=>(i,.bool false))
 hk:∃kind,aB P (underlying kt)=some kind∧((∀x y,Instr.sameNow kind (v x) (v y)=some (decide (x=y)))∨∀x y,Instr.sameNow kind (v x) (v y)=none∧aB P (Op.equal kt (v x) (v y))=some (decide (x=y)))
variable {X:kJ} {P:LI1} {kt:LI2} {α:Type} [DecidableEq α] (C:oC X P kt α)
abbrev oC.es(l:List (α×PV X.Γ)):List (PV X.Γ×PV X.Γ):=l.map fun e=>(C.pv e.1,e.2)
theorem oC.tvs:∀l:List α,Tw.Bz (l.map C.tv)=some (l.map C.v)
 | []=>rfl
 |a::l=>by show(match(C.tv a).yt,Tw.Bz (l.map C.tv)with|some v,some vs=>some (v::vs)|_,_=>none)=_;rw[C.ht,oC.tvs l];rfl
theorem oC.find(x:α)(l:List α)(r:Option Nat)(hr:(l.findIdx? fun y=>decide (x=y))=r)(hs:∀(i:Nat) y,l[i]? = some y->decide (x=y)=(some i==r)):uX P kt (C.v x) (l.map C.tv)=some r:=by
 unfold uX;rw[C.tvs];simp only[];rw[bI,C.hc,a4l,a7m];show(match aB P (Instr.findKey kt (C.v x) (l.map fun y=>⟨C.v y,.bool false,0⟩))with|some r=>if Vw P kt (C.v x) (l.map C.v) (Option.map (fun(q:Nat×LI3)=>q.1) r)then some (Option.map (fun(q:Nat×LI3)=>q.1) r)else none|none=>none)=_;rw[C.hf,hr];have e:Option.map (fun(q:Nat×LI3)=>q.1) (r.map fun i=>(i,Value.bool false))=r:=by cases r<;>rfl
 simp only[e];rw[a0g];obtain⟨kind,h1,h2⟩:=C.hk;simp only[Vw,h1,a2f,a8Q,a4o];constructor
 .cases r with
  |none=>rfl
  |some j=>
   have:=(a9E.1 hr).1;simpa using this
 have hz:∀p∈(l.map C.v).zipIdx,∃y,p.1=C.v y∧decide (x=y)=(some p.2==r):=fun p hp=>by have:=a96.1 hp;rw[a4j,a05]at this;obtain⟨y,hy,e⟩:=this;exact⟨y,e.symm,hs _ _ hy⟩
 rcases h2 with h2|h2
 .left;intro p hp;obtain⟨y,e1,e2⟩:=hz p hp;rw[e1,h2,e2];simp
 right;intro p hp;obtain⟨y,e1,e2⟩:=hz p hp;rw[e1,(h2 x y).1,(h2 x y).2,e2];simp
theorem oC.pk:∀l:List (α×PV X.Γ),uV X (C.es l)=some ((l.map (·.1)).map C.tv)
 | []=>rfl
 |a::l=>by show(match pU (C.pv a.1),uV X (C.es l)with|some v,some vs=>some (v::vs)|_,_=>none)=_;rw[C.hp,oC.pk l];rfl
theorem oC.ck(x:α):∃kv,(C.tv x).yt=some kv∧aB P (Instr.checkKey false 10000 kt kv)=some ():=⟨C.v x,C.ht x,C.hc false x⟩
theorem oC.fresh{l:List (α×PV X.Γ)}{x:α}(h:x∉l.map (·.1)):nM X P kt (C.es l) (C.tv x):=by
 refine⟨C.v x,_,C.ht x,C.pk l,?_⟩;have hno:∀y∈l.map (·.1),decide (x=y)=false:=fun y hy=>by simp only[a2I];intro e;exact h (e▸hy)
 exact C.find x _ none (List.findIdx?_eq_none_iff.2 hno) fun i y hy=>by rw[hno y (a4m hy)];rfl
theorem oC.found{l:List (α×PV X.Γ)}{x:α}{v:PV X.Γ}(hn:(l.map (·.1)).Nodup)(h:(x,v)∈l):qg X P kt (C.es l) (C.tv x) v:=by
 obtain⟨j,hj,e⟩:=a4v.1 h;refine⟨C.v x,_,j,C.pv x,C.ht x,C.pk l,?_,?_⟩
 .have hxj:(l.map (·.1))[j]? = some x:=by simp[a0a hj,e]
  have hu:∀(i:Nat) y,(l.map (·.1))[i]? = some y->decide (x=y)=(some i==some j):=fun i y hy=>by
   rw[a4u];simp only[a1o,a7r,a00];constructor
   .rintro rfl;have i1:=a01.1 hy;have i2:=a01.1 hxj;exact(a9P hn (h₀:=i1.1) (h₁:=i2.1)).1 (i1.2.trans i2.2.symm)
   rintro rfl;rw[hxj]at hy;exact a8R hy
  refine C.find x _ (some j) ?_ hu;rw[a9E];refine⟨by simpa using hj,by simp[e],fun i hi=>?_⟩;have hil:i<(l.map (·.1)).length:=by simp;omega
  rw[hu i _ (a0a hil)];simp;omega
 simp[oC.es,a0a hj,e]
theorem J9{t:LI2}{d:TypeDesc}(h:P.underlying t=some d):aB P (underlying t)=some d:=by simp only[underlying,bI];show Option.bind (some P) _=_;simp[h];rfl
theorem Zu{v:α->LI3}(he:∀x y,aB P (Op.equal kt (v x) (v y))=some (decide (x=y)))(x:α):∀(l:List α) (i:Nat),aB P (Instr.findAsking kt (v x) (l.map fun y=>⟨v y,.bool false,0⟩) i)=some ((l.findIdx? fun y=>decide (x=y)).map fun j=>(j+i,.bool false))
 | [],i=>rfl
 |y::l,i=>by
  simp only[a4c,Instr.findAsking];rw[bI,he,a4l,List.findIdx?_cons];cases decide (x=y)with
  |true=>simp only[a1U,a0j,a3T];rfl
  |false=>
   simp only[a2i,a3g];rw[Zu he x l (i+1)];cases l.findIdx? fun y=>decide (x=y)with
   |none=>rfl
   |some j=>simp;omega
theorem a18{v:α->LI3}{fs:Array Field}(hu:P.underlying kt=some (.struct fs))(he:∀x y,aB P (Op.equal kt (v x) (v y))=some (decide (x=y)))(x:α)(l:List α):aB P (Instr.findKey kt (v x) (l.map fun y=>⟨v y,.bool false,0⟩))=some ((l.findIdx? fun y=>decide (x=y)).map fun i=>(i,.bool false)):=by
 have h:=Zu he x l 0;unfold Instr.findKey;rw[bI,J9 hu,a4l];cases l with
 |nil=>rfl
 |cons y l=>
  rw[show Instr.findNow (.struct fs) (v x) ((y::l).map fun y=>⟨v y,.bool false,0⟩) 0=none by simp[Instr.findNow,Instr.sameNow]];exact h
theorem a19{k:IntKind}(x:Int):∀(l:LI0) (i:Nat),Instr.findNow (.int k) (.int k x) (l.map fun y=>⟨.int k y,.bool false,0⟩) i=some ((l.findIdx? fun y=>decide (x=y)).map fun j=>(j+i,.bool false))
 | [],i=>rfl
 |y::l,i=>by
  simp only[a4c,Instr.findNow,Instr.sameNow,a1U];rw[List.findIdx?_cons];by_cases h:x=y
  .subst h;simp
  rw[show(x==y)=false by simpa using h,ae9 h];simp only[a2i,a3g];rw[a19 x l (i+1)];cases l.findIdx? fun y=>decide (x=y)with
  |none=>rfl
  |some j=>simp;omega
theorem aeP{k:IntKind}(hu:P.underlying kt=some (.int k))(x:Int)(l:LI0):aB P (Instr.findKey kt (.int k x) (l.map fun y=>⟨.int k y,.bool false,0⟩))=some ((l.findIdx? fun y=>decide (x=y)).map fun i=>(i,.bool false)):=by unfold Instr.findKey;rw[bI,J9 hu,a4l,a19 x l 0];cases l.findIdx? fun y=>decide (x=y)<;>rfl
theorem a1a{v:α->LI3}{fs:Array Field}(hu:P.underlying kt=some (.struct fs))(he:∀x y,aB P (Op.equal kt (v x) (v y))=some (decide (x=y))) :
  ∃kind,aB P (underlying kt)=some kind∧((∀x y,Instr.sameNow kind (v x) (v y)=some (decide (x=y)))∨∀x y,Instr.sameNow kind (v x) (v y)=none∧aB P (Op.equal kt (v x) (v y))=some (decide (x=y))):=
 ⟨_,J9 hu,.inr fun x y=>⟨by simp[Instr.sameNow],he x y⟩⟩
theorem aeQ{k:IntKind}(hu:P.underlying kt=some (.int k)) :
  ∃kind,aB P (underlying kt)=some kind∧((∀x y:Int,Instr.sameNow kind (.int k x) (.int k y)=some (decide (x=y)))∨∀x y:Int,Instr.sameNow kind (.int k x) (.int k y)=none∧aB P (Op.equal kt (.int k x) (.int k y))=some (decide (x=y))):=
 ⟨_,J9 hu,.inl fun x y=>by simp only[Instr.sameNow,a1U];congr 1⟩
theorem aeR{v:α->LI3}{n:Nat}{e:LI2}(hu:P.underlying kt=some (.array n e))(he:∀x y,aB P (Op.equal kt (v x) (v y))=some (decide (x=y)))(x:α)(l:List α):aB P (Instr.findKey kt (v x) (l.map fun y=>⟨v y,.bool false,0⟩))=some ((l.findIdx? fun y=>decide (x=y)).map fun i=>(i,.bool false)):=by
 have h:=Zu he x l 0;unfold Instr.findKey;rw[bI,J9 hu,a4l];cases l with
 |nil=>rfl
 |cons y l=>
  rw[show Instr.findNow (.array n e) (v x) ((y::l).map fun y=>⟨v y,.bool false,0⟩) 0=none by simp[Instr.findNow,Instr.sameNow]];exact h
theorem aeS{v:α->LI3}{n:Nat}{e:LI2}(hu:P.underlying kt=some (.array n e))(he:∀x y,aB P (Op.equal kt (v x) (v y))=some (decide (x=y))) :
  ∃kind,aB P (underlying kt)=some kind∧((∀x y,Instr.sameNow kind (v x) (v y)=some (decide (x=y)))∨∀x y,Instr.sameNow kind (v x) (v y)=none∧aB P (Op.equal kt (v x) (v y))=some (decide (x=y))):=
 ⟨_,J9 hu,.inr fun x y=>⟨by simp[Instr.sameNow],he x y⟩⟩
end Pv
namespace Tw
open Go
section
variable {P:LI1}
theorem D5{e:LI2}(hg:aB P (isAgg e)=some false){xs:Array LI3}{i:Nat}{v:LI3}(h:xs[i]? = some v):aB P (part e xs i)=some v:=by unfold part;rw[bI,hg,a4l];simp only[a2i,a3g,h];rfl
def a2U(d:Nat)(e:LI2)(c:Nat)(xs ys:Array LI3):List Nat->Sem Bool
 | []=>pure true
 |i::is=>do
  let a <-part e xs (i*c)
  let b <-part e ys (i*c)
  let r <-Op.equalIn d e a b
  if(!r)=true then pure false else a2U d e c xs ys is
theorem Ja(d:Nat){t e:LI2}{n c:Nat}(xs ys:Array LI3)(hu:P.underlying t=some (.array n e))(hs:aB P (sizeOf e)=some c) :
  aB P (Op.equalIn (d+1) t (.agg xs) (.agg ys))=aB P (a2U d e c xs ys (List.range' 0 n)):=by
 have hu':aB P (underlying t)=some (.array n e):=by simp only[underlying,bI];have:aB P program=some P:=rfl;simp[this,hu,aB];rfl
 simp only[Op.equalIn,bI,hu',a4l,hs];simp only[Std.Legacy.Range.forIn_eq_forIn_range',Std.Legacy.Range.size,Nat.sub_zero,Nat.add_one_sub_one,Nat.div_one];generalize List.range' 0 n=is;clear hu hu' hs
 induction is with
 |nil=>simp[a2U,aB,bI];rfl
 |cons j is ih=>
  simp only[List.forIn_cons,a2U,bI]at ih ⊢;generalize aB P (part e xs (j*c))=r1;cases r1 with
  |none=>simp
  |some a=>
   simp only[a4l];generalize aB P (part e ys (j*c))=r2;cases r2 with
   |none=>simp
   |some b=>
    simp only[a4l];generalize aB P (Op.equalIn d e a b)=r3;cases r3 with
    |none=>simp
    |some r=>
     cases r with
     |false=>simp only[a4l,abp,a1U];rfl
     |true=>simp only[a4l,a8N,a2i,a3g];exact ih
abbrev D6(k:IntKind)(l:LI0):Array LI3:=(l.map fun x=>Value.int k x).toArray
theorem OG{k:IntKind}{l:LI0}{i:Nat}(h:i<l.length):(D6 k l)[i]? = some (.int k l[i]):=by simp[D6,h]
theorem Kv{d:Nat}{e:LI2}{k k':IntKind}(hu:P.underlying e=some (.int k'))(hg:aB P (isAgg e)=some false)(l l':LI0)(hl:l.length=l'.length):∀(m i:Nat),i+m=l.length->aB P (a2U (d+1) e 1 (D6 k l) (D6 k l') (List.range' i m))=some (decide (l.drop i=l'.drop i))
 | 0,i,h=>by rw[ag2 (by omega),ag2 (by omega)];rfl
 |m+1,i,h=>by
  have h1:i<l.length:=by omega
  have h2:i<l'.length:=by omega
  rw[List.range'_succ];simp only[a2U,agW];rw[bI,D5 hg (OG h1),a4l,bI,D5 hg (OG h2),a4l,bI,qO d e k k' _ _ hu,a4l];rw[a7E h1,a7E h2];by_cases hc:l[i]=l'[i]
  .have:=Kv (d:=d) (k:=k) hu hg l l' hl m (i+1) (by omega);simp only[hc,beq_self_eq_true,a8N,a2i,a3g,this,adW,true_and]
  have:(l[i]==l'[i])=false:=by simpa using hc
  simp only[this,abp,a1U,adW,hc,false_and,decide_false];rfl
theorem Bq(d:Nat){t e:LI2}{n:Nat}{k k':IntKind}(ht:P.underlying t=some (.array n e))(hs:aB P (sizeOf e)=some 1)(hu:P.underlying e=some (.int k'))(hg:aB P (isAgg e)=some false){l l':LI0}(hl:l.length=n)(hl':l'.length=n) :
  aB P (Op.equalIn (d+2) t (.agg (D6 k l)) (.agg (D6 k l')))=some (decide (l=l')):=by
 rw[Ja (d+1) _ _ ht hs,Kv hu hg l l' (by omega) n 0 (by omega),aag,aag]
end
end Tw
namespace Pv
open Go Tw
def y9:Code->Option (Code×Code)
 |.seq a b=>match y9 a with
  |some r=>some r
  |none=>y9 b
 |.cond _ a b=>match y9 a with
  |some r=>some r
  |none=>y9 b
 |.block _ b=>y9 b
 |.loop b=>y9 b
 |.rangeFunc _ _ a b=>some (a,b)
 |_=>none
def wJ(P:LI1)(f:Nat):Code:=
 match TA P f with
 |some t=>match y9 t.body with
  |some (a,_)=>a
  |none=>.skip
 |none=>.skip
def Aj(P:LI1)(f:Nat):Code:=
 match TA P f with
 |some t=>match y9 t.body with
  |some (_,b)=>b
  |none=>.skip
 |none=>.skip
section
variable {X:kJ} {P:LI1}
theorem DY{A:Nat->Prop}{m:List MB}{h:List HB}:∀{a b:List (PV X.Γ)} {z:List TV},bU X P A m h (a++b) z->∃x y,z=x++y∧bU X P A m h a x∧bU X P A m h b y
 | [],b,z,hz=>⟨[],z,rfl,.nil,hz⟩
 |v::a,b,z,hz=>by obtain⟨x0,r,rfl,v0,vr⟩:=bU.inv (v:=v) (vs:=a++b) hz;obtain⟨x,y,rfl,h1,h2⟩:=DY vr;exact⟨x0::x,y,rfl,.cons v0 h1,h2⟩
theorem dD.fz(hX:bP X P){call:aY}{f:FuncId}{cs ws rest xs:List (PV X.Γ)}{H H1:List (PB X.Γ)}{v:PV X.Γ}(is:List Nat)(hs:dD X P call (.fn f [] []) (.agg (ws++rest)::xs) (bf is H) v H1)(hv:views H cs=some ws)(ho:∀i,i∈kP.jX cs->i∈is):dD X P call (.fn f [] []) (.agg (cs++rest)::xs) H v H1:=by
 intro A m h tf qU hr hf hx;obtain⟨x0,r,rfl,v0,vr⟩:=hx.inv;cases v0 with
 |gone hi _ _=>simp[bn]at hi
 |agg a1 a2=>
  rename_i cs';have ha:bU X P (AA A m) m h (cs++rest) cs':=⟨a1,a2⟩;obtain⟨c1,c2,rfl,b1,b2⟩:=DY ha;have hF:=iE (h:=h) is m;have w1:=(l9 (m':=cu is m) hX hr b1 hv ho).mono fun b hb=>FA.gone hr hb;have w2:=b2.step hF.1 hF.2;have w3:=w1.app w2;obtain⟨w,h',Vy,m1,k1,k2,k3,k4,k5,k6⟩:=hs A (cu is m) h tf (.agg (c1++c2)::r) (hr.bf is) (hf.step hF.1 hF.2) (.cons (.agg w3.1 w3.2) (vr.step hF.1 hF.2));refine⟨w,h',Vy,m1,k1,k2,k3,hF.1.trans k4,hF.2.trans k5,fun b hb=>?_⟩;rcases hF.1.new b (k6 b hb)with g|g
  .exact g
  have:=(hr.bf is).inb (k6 b hb);omega
end
theorem Good.abW{X:kJ}{P:LI1}{T:qx}{L:Nat}{α β:Type}{f:FuncId}{a:Ut X P α}{r:Ar X P β}{S:α->β}{pre:α->List Prop}{fO WZ a6p:eY X.Γ}(d:Nat)(hg:Good X P T L fO)(hg2:Good X P T L WZ)(hg3:Good X P T L a6p)
  (hf:∀n,d<=n->(∀m,n-d<=m->jD X P (kR P T L m) fO)->(∀m,n-d<=m->jD X P (kR P T L m) WZ)->(∀m,n-d<=m->jD X P (kR P T L m) a6p)->∀x,(∀p∈pre x,p)->nY X P (kR P T L (n+1)) f (a.put x) (r.put (S x)) []):Good X P T L (bT f a r S pre fO):=by
 obtain⟨N2,hN2⟩:=hg2;obtain⟨N3,hN3⟩:=hg3;obtain⟨M,hM⟩:=hg;refine⟨M+N2+N3+d+1,fun n hn=>?_⟩;obtain⟨k,rfl⟩:∃k,n=k+1:=⟨n-1,by omega⟩;intro g vs v ext ps ho hp;unfold bT at ho;split at ho
 .rename_i e;have e:=a8K e;subst e;split at ho
  .rename_i x hx;cases ho;intro A h first args cap Ir hv
   exact hf k (by omega) (fun m hm=>hM m (by omega)) (fun m hm=>hN2 m (by omega)) (fun m hm=>hN3 m (by omega)) x hp A h first args cap Ir (a.ok hx hv)
  .exact hM (k+1) (by omega) g vs v ext ps ho hp
 .exact hM (k+1) (by omega) g vs v ext ps ho hp
end Pv
namespace bQ
open Tw
section
variable {κ:Type} [DecidableEq κ]
def rV(m:List (κ×Int))(k:κ)(n:Int):List (κ×Int):=
 if k∈m.map (·.1)then m.modify ((m.map (·.1)).idxOf k) (fun e=>(e.1,e.2+n))else m++[(k,n)]
def dF(φ:κ->Int):List (κ×Int)->Int
 | []=>0
 |e::m=>e.2*φ e.1+dF φ m
theorem Xb(φ:κ->Int):∀a b:List (κ×Int),dF φ (a++b)=dF φ a+dF φ b
 | [],b=>by simp[dF]
 |e::a,b=>by simp only[List.cons_append,dF,Xb φ a b];omega
theorem Xc(φ:κ->Int){k:κ}{n:Int}:∀{m:List (κ×Int)},k∈m.map (·.1)->dF φ (m.modify ((m.map (·.1)).idxOf k) fun e=>(e.1,e.2+n))=dF φ m+n*φ k
 | [],h=>by simp at h
 |e::m,h=>by
  by_cases e1:e.1=k
  .have:((e::m).map (·.1)).idxOf k=0:=(by simp[ads,e1]);rw[this];simp only[List.modify_zero_cons,dF,agV,e1];omega
  have h2:k∈m.map (·.1):=by rw[a4c,a2d]at h;exact h.resolve_left fun h=>e1 h.symm
  have:((e::m).map (·.1)).idxOf k=(m.map (·.1)).idxOf k+1:=by simp[ads,agQ.2 e1]
  rw[this];simp only[List.modify_succ_cons,dF,Xc φ h2];omega
theorem zu(φ:κ->Int)(m:List (κ×Int))(k:κ)(n:Int):dF φ (rV m k n)=dF φ m+n*φ k:=by
 unfold rV;split
 .exact Xc φ ‹_›
 rw[Xb];simp[dF]
theorem Xd{f:Int->Int}:∀(m:List (κ×Int)) (j:Nat),(m.modify j fun e=>(e.1,f e.2)).map (·.1)=m.map (·.1)
 | [],j=>by simp
 |e::m,0=>by simp
 |e::m,j+1=>by simp[Xd m j]
theorem Si(m:List (κ×Int))(k:κ)(n:Int):(rV m k n).map (·.1)=if k∈m.map (·.1)then m.map (·.1)else m.map (·.1)++[k]:=by
 unfold rV;split
 .exact Xd (f:=fun x=>x+n) m _
 simp
theorem FH{m:List (κ×Int)}(h:(m.map (·.1)).Nodup)(k:κ)(n:Int):((rV m k n).map (·.1)).Nodup:=by
 rw[Si];split
 .exact h
 rename_i h2;rw[a8H];exact⟨h,by simp,fun x hx y hy e=>by simp at hy;subst hy;subst e;exact h2 hx⟩
theorem a1b{f:κ×Int->κ×Int}:∀{m:List (κ×Int)} {j:Nat} {e:κ×Int},e∈m.modify j f->e∈m∨∃e'∈m,e=f e'
 | [],j,e,h=>by simp at h
 |x::m,0,e,h=>by
  rw[List.modify_zero_cons,a2d]at h;rcases h with h|h
  .exact .inr ⟨x,by simp,h⟩
  exact .inl (by simp[h])
 |x::m,j+1,e,h=>by
  rw[List.modify_succ_cons,a2d]at h;rcases h with h|h
  .exact .inl (by simp[h])
  rcases a1b h with h|⟨e',h1,h2⟩
  .exact .inl (by simp[h])
  exact .inr ⟨e',by simp[h1],h2⟩
theorem OH{m:List (κ×Int)}{k:κ}{n:Int}(hn:0<n)(h:∀e∈m,0<e.2):∀e∈rV m k n,0<e.2:=fun e he=>by
 unfold rV at he;split at he
 .rcases a1b he with h1|⟨e',h1,rfl⟩
  .exact h e h1
  .have:=h e' h1;show 0<e'.2+n;omega
 .rcases a3k.1 he with h1|h1
  .exact h e h1
  .rw[a2p.1 h1];exact hn
theorem a6q{m:List (κ×Int)}{k:κ}{n:Int}{e:κ×Int}(he:e∈rV m k n):e.1=k∨∃e'∈m,e'.1=e.1:=by
 have:e.1∈(rV m k n).map (·.1):=a1g.2 ⟨e,he,rfl⟩;rw[Si]at this;split at this
 .obtain⟨e',h1,h2⟩:=a1g.1 this;exact .inr ⟨e',h1,h2⟩
 rcases a3k.1 this with h1|h1
 .obtain⟨e',h1,h2⟩:=a1g.1 h1;exact .inr ⟨e',h1,h2⟩
 exact .inl (by simpa using h1)
def ind(k:κ)(x:κ):Int:=if x=k then 1 else 0
theorem Hf{k:κ}:∀{m:List (κ×Int)},k∉m.map (·.1)->dF (ind k) m=0
 | [],_=>rfl
 |e::m,h=>by rw[a4c,a2d,adl]at h;simp only[dF,Hf h.2,ind,a0c (fun e1:e.1=k=>h.1 e1.symm)];omega
theorem yc:∀{m:List (κ×Int)} {e:κ×Int},(m.map (·.1)).Nodup->e∈m->dF (ind e.1) m=e.2
 |x::m,e,hn,h=>by
  rw[a4c,a4k]at hn;rcases a2d.1 h with rfl|h
  .simp only[dF,Hf hn.1,ind,a1U];omega
  have:¬x.1=e.1:=fun e1=>hn.1 (a1g.2 ⟨e,h,e1.symm⟩);simp only[dF,yc hn.2 h,ind,a0c this];omega
theorem Xe{m:List (κ×Int)}(hn:(m.map (·.1)).Nodup)(hp:∀e∈m,0<e.2)(e:κ×Int):e∈m↔0<e.2∧dF (ind e.1) m=e.2:=by
 constructor
 .exact fun h=>⟨hp e h,yc hn h⟩
 rintro⟨h1,h2⟩;by_cases h:e.1∈m.map (·.1)
 .obtain⟨e',h3,h4⟩:=a1g.1 h;have:=yc hn h3;have h4:e'.1=e.1:=h4;rw[h4,h2]at this;have:e'=e:=acV h4 this.symm;rw[<-this];exact h3
 rw[Hf h]at h2;omega
theorem Hg{β:Type}{f:κ×Int->β}{l:List (κ×Int)}(h:(l.map f).Nodup):l.Nodup:=by rw[List.Nodup,afS]at h;exact h.imp fun{a b} h (e:a=b)=>h (congrArg f e)
theorem UA{m m':List (κ×Int)}(h1:(m.map (·.1)).Nodup)(h2:(m'.map (·.1)).Nodup)(p1:∀e∈m,0<e.2)(p2:∀e∈m',0<e.2)(h:∀φ,dF φ m=dF φ m'):m.Perm m':=
 (a7y (Hg h1) (Hg h2)).2 fun e=>by rw[Xe h1 p1,Xe h2 p2,h]
theorem a2V(φ:κ->Int){m m':List (κ×Int)}(h:m.Perm m'):dF φ m=dF φ m':=by
 induction h with
 |nil=>rfl
 |cons x _ ih=>simp only[dF,ih]
 |swap x y l=>simp only[dF];omega
 |trans _ _ h1 h2=>exact h1.trans h2
def yG(l:List κ):List (κ×Int):=l.foldl (fun m k=>rV m k 1) []
def dS(φ:κ->Int):List κ->Int
 | []=>0
 |k::l=>φ k+dS φ l
theorem Xf(φ:κ->Int):∀(l:List κ) (m:List (κ×Int)),dF φ (l.foldl (fun m k=>rV m k 1) m)=dF φ m+dS φ l
 | [],m=>by simp[dS]
 |k::l,m=>by rw[adk,Xf φ l,zu,dS];omega
theorem Sj(φ:κ->Int)(l:List κ):dF φ (yG l)=dS φ l:=by unfold yG;rw[Xf];simp[dF]
theorem Ak(l:List κ):((yG l).map (·.1)).Nodup∧∀e∈yG l,0<e.2:=by
 have:∀(l:List κ) (m:List (κ×Int)),(m.map (·.1)).Nodup->(∀e∈m,0<e.2)->((l.foldl (fun m k=>rV m k 1) m).map (·.1)).Nodup∧∀e∈l.foldl (fun m k=>rV m k 1) m,0<e.2:=by
  intro l
  induction l with
  |nil=>exact fun m h1 h2=>⟨h1,h2⟩
  |cons k l ih=>exact fun m h1 h2=>ih _ (FH h1 k 1) (OH (by omega) h2)
 exact this l [] (by simp) (by simp)
theorem OI(k:κ):∀l:List κ,dS (ind k) l=(l.count k:Int)
 | []=>rfl
 |x::l=>by
  rw[dS,OI k l,List.count_cons,ind];by_cases e:x=k
  .simp[e];omega
  simp[e]
theorem Jc(φ:κ->Int){l l':List κ}(h:l.Perm l'):dS φ l=dS φ l':=by
 induction h with
 |nil=>rfl
 |cons x _ ih=>simp only[dS,ih]
 |swap x y l=>simp only[dS];omega
 |trans _ _ h1 h2=>exact h1.trans h2
theorem Hl(φ:κ->Int):∀a b:List κ,dS φ (a++b)=dS φ a+dS φ b
 | [],b=>by simp[dS]
 |e::a,b=>by simp only[List.cons_append,dS,Hl φ a b];omega
end
theorem Jd:∀a b:LI0,kZ a b=true∨kZ b a=true
 | [],_=>.inl rfl
 |_::_,[]=>.inr rfl
 |a::az,b::bs=>by
  simp only[kZ];rcases Int.lt_trichotomy a b with h|h|h
  .simp[h]
  .subst h;simpa using Jd az bs
  simp[h]
theorem D7:∀a b:LI0,kZ a b=true->kZ b a=true->a=b
 | [],[],_,_=>rfl
 | [],_::_,_,h=>by cases h
 |_::_,[],h,_=>by cases h
 |a::az,b::bs,h1,h2=>by
  simp only[kZ]at h1 h2;rcases Int.lt_trichotomy a b with h|h|h
  .rw[a0c (by omega),a0g h]at h2;cases h2
  .subst h;simp at h1 h2;rw[D7 az bs h1 h2]
  rw[a0c (by omega),a0g h]at h1;cases h1
theorem lex_trans:∀a b c:LI0,kZ a b=true->kZ b c=true->kZ a c=true
 | [],_,_,_,_=>rfl
 |_::_,[],_,h,_=>by cases h
 |_::_,_::_,[],_,h=>by cases h
 |a::az,b::bs,c::cs,h1,h2=>by
  simp only[kZ]at h1 h2 ⊢;split at h1
  .split at h2
   .rw[a0g (by omega)]
   split at h2
   .cases h2
   rw[a0g (by omega)]
  split at h1
  .cases h1
  split at h2
  .rw[a0g (by omega)]
  split at h2
  .cases h2
  rw[a0c (by omega),a0c (by omega)];exact lex_trans az bs cs h1 h2
section
variable {α:Type} {key:α->LI0}
theorem Sl{a b:α}(h:key a=key b->a=b):∀s:List α,Eh key a (Eh key b s)=Eh key b (Eh key a s)
 | []=>by
  by_cases e:a=b
  .rw[e]
  simp only[Eh];rcases Jd (key a) (key b)with h1|h1
  .have:kZ (key b) (key a)=false:=by
    cases h2:kZ (key b) (key a)
    .rfl
    exact absurd (h (D7 _ _ h1 h2)) e
   simp[h1,this]
  have:kZ (key a) (key b)=false:=by
   cases h2:kZ (key a) (key b)
   .rfl
   exact absurd (h (D7 _ _ h2 h1)) e
  simp[h1,this]
 |c::s=>by
  by_cases e:a=b
  .rw[e]
  have hx:kZ (key a) (key b)=!kZ (key b) (key a):=by
   rcases Jd (key a) (key b)with h1|h1
   .cases h2:kZ (key b) (key a)
    .rw[h1];rfl
    exact absurd (h (D7 _ _ h1 h2)) e
   cases h2:kZ (key a) (key b)
   .rw[h1];rfl
   exact absurd (h (D7 _ _ h2 h1)) e
  cases h1:kZ (key a) (key c)<;>cases h2:kZ (key b) (key c)
  .simp only[Eh,h1,h2,a2i,a3g,Sl h s]
  .have h3:kZ (key a) (key b)=false:=by
    cases h3:kZ (key a) (key b)
    .rfl
    rw[lex_trans _ _ _ h3 h2]at h1;cases h1
   simp only[Eh,h1,h2,h3,a2i,a3g,a1U]
  .have h3:kZ (key b) (key a)=false:=by
    cases h3:kZ (key b) (key a)
    .rfl
    rw[lex_trans _ _ _ h3 h1]at h2;cases h2
   simp only[Eh,h1,h2,h3,a2i,a3g,a1U]
  cases h3:kZ (key b) (key a)<;>rw[h3]at hx<;>simp[Eh,h1,h2,h3,hx]
theorem EL{l l':List α}(h:l.Perm l')(hi:∀a∈l,∀b∈l,key a=key b->a=b):yY key l=yY key l':=by
 induction h with
 |nil=>rfl
 |cons x _ ih=>simp only[yY,ih fun a ha b hb=>hi a (by simp[ha]) b (by simp[hb])]
 |swap x y l=>exact Sl (hi y (by simp) x (by simp)) _
 |trans h1 h2 i1 i2=>exact(i1 hi).trans (i2 fun a ha b hb=>hi a (h1.mem_iff.2 ha) b (h1.mem_iff.2 hb))
theorem Sm{β:Type}{g:α->β}{a6r:β->LI0}(h:∀a,a6r (g a)=key a):∀l:List α,yY a6r (l.map g)=(yY key l).map g:=by
 have hi:∀(a:α) (s:List α),Eh a6r (g a) (s.map g)=(Eh key a s).map g:=by
  intro a s
  induction s with
  |nil=>rfl
  |cons c s ih=>
   simp only[a4c,Eh,h];split
   .rfl
   rw[a4c,ih]
 intro l
 induction l with
 |nil=>rfl
 |cons a l ih=>simp only[a4c,yY,ih,hi]
end
end bQ
namespace Pv
open Go Tw
section
variable {P:LI1} {T:qx} {call:aY} {cd:uU} {L f:Nat} {fl nt:Nat}
def nS:Code->Bool
 |.rangeFunc ..=>false
 |.region _ ops _=>(zZ ops).isNone
 |.seq a b=>nS a&&nS b
 |.cond _ a b=>nS a&&nS b
 |.block _ b=>nS b
 |.scope b=>nS b
 |.loop b=>nS b
 |_=>true
theorem a6s:∀(c:Code) {s s':St} {e:Ex} {Q:Ex->St->Prop},nS c=true->exec P T call L f false fl nt c s=some (e,s')->Q e s'->fF P T call cd L f fl nt c s Q:=by
 intro c
 induction c with
 |region id ops draw=>
  intro s s' e Q hn h hq;simp only[nS,Option.isNone_iff_eq_none]at hn;simp only[fF,hn];exact⟨_,_,h,hq⟩
 |seq x y VW ihy=>
  intro s s' e Q hn h hq;simp only[nS,a2f]at hn;simp only[fF];simp only[exec]at h;split at h
  .rename_i s1 hx;exact VW hn.1 hx (ihy hn.2 h hq)
  rename_i iq;refine VW hn.1 h ?_;cases e with
  |norm=>exact(iq s' h).elim
  |exit i=>exact hq
  |ret=>exact hq
 |cond c x y VW ihy=>
  intro s s' e Q hn h hq;simp only[nS,a2f]at hn;simp only[fF];simp only[exec]at h;split at h
  .rename_i hc;simp only[hc];exact VW hn.1 h hq
  .rename_i hc;simp only[hc];exact ihy hn.2 h hq
  cases h
 |block id b ih=>
  intro s s' e Q hn h hq;simp only[nS]at hn;simp only[fF];simp only[exec]at h;split at h
  .rename_i i s1 hb;cases h;exact ih hn hb hq
  rename_i iq;refine ih hn h ?_;cases e with
  |exit i=>exact(iq i s' h).elim
  |norm=>exact hq
  |ret=>exact hq
 |scope b ih=>
  intro s s' e Q hn h hq;simp only[nS]at hn;simp only[fF];simp only[exec]at h;exact ih hn h hq
 |loop b ih=>
  intro s s' e Q hn h hq;simp only[nS]at hn;simp only[fF];simp only[exec]at h;have:∀(k:Nat) {s:St},iter (fun s=>exec P T call L f false fl nt b (jU (T.eX f (dQ b)) s)) k s=some (e,s')->Gt (fun s Q=>fF P T call cd L f fl nt b (jU (T.eX f (dQ b)) s) Q) k s Q:=by
   intro k
   induction k with
   |zero=>intro s h;simp[iter]at h
   |succ k ihk=>
    intro s h;simp only[iter]at h;split at h
    .rename_i s1 h1;exact ih hn h1 (ihk h)
    rename_i iq;refine ih hn h ?_;cases e with
    |norm=>exact(iq s' h).elim
    |exit i=>exact hq
    |ret=>exact hq
  exact this L h
 |rangeFunc=>intro s s' e Q hn;cases hn
 |_=>
  intro s s' e Q hn h hq;simp only[fF];exact⟨_,_,h,hq⟩
end
section
variable {X:kJ} {P:LI1} {T:qx} {call:aY} {cd:uU} {L f nt B:Nat}
def aK(X:kJ)(P:LI1)(T:qx)(call:aY)(cd:uU)(L f nt B:Nat)(c:Code)(ps:aS X.Γ)(Q:Ex->aS X.Γ->Prop):Prop:=
 ∀(A W:Nat->Prop) (fl:Nat) (m:List MB) (ts:St) (R:Ex->St->Prop),SR X P A W fl m ps ts->(∀e iH ps1 m1,Q e ps1->SR X P A W fl m1 ps1 iH->Fr m ts.heap m1 iH.heap->LY B m m1->R e iH)->fF P T call cd L f fl nt c ts R
theorem aK.mono{c:Code}{ps:aS X.Γ}{Q Q':Ex->aS X.Γ->Prop}(hq:∀e s,Q e s->Q' e s)(h:aK X P T call cd L f nt B c ps Q):aK X P T call cd L f nt B c ps Q':=fun A W fl m ts R hS hR=>
 h A W fl m ts R hS fun e iH ps1 m1 a1=>hR e iH ps1 m1 (hq _ _ a1)
theorem dM.dem{c:Code}{ps ps1:aS X.Γ}{e:Ex}{Q:Ex->aS X.Γ->Prop}(hn:nS c=true)(h:dM X P T call L f false nt B c ps e ps1)(hq:Q e ps1):aK X P T call cd L f nt B c ps Q:=fun A W fl m ts R hS hR=>by obtain⟨iH,m1,h1,h2,h3,h4⟩:=h A W fl m ts hS;exact a6s c hn h1 (hR _ _ ps1 m1 hq h2 h3 h4)
theorem aK.seq{a b:Code}{ps:aS X.Γ}{Q R:Ex->aS X.Γ->Prop}(ha:aK X P T call cd L f nt B a ps R)(hb:∀s,R .norm s->aK X P T call cd L f nt B b s Q)(he:∀i s,R (.exit i) s->Q (.exit i) s)(hr:∀s,R .ret s->Q .ret s):aK X P T call cd L f nt B (.seq a b) ps Q:=fun A W fl m ts R' hS hR=>by
 simp only[fF];refine ha A W fl m ts _ hS fun e iH ps1 m1 a1 a2 a3 a4=>?_;cases e with
 |norm=>exact hb ps1 a1 A W fl m1 iH R' a2 fun e ts2 BZ m2 b1 b2 b3 b4=>hR e ts2 BZ m2 b1 b2 (a3.trans b3) (a4.trans b4)
 |exit i=>exact hR _ _ ps1 m1 (he _ _ a1) a2 a3 a4
 |ret=>exact hR _ _ ps1 m1 (hr _ a1) a2 a3 a4
theorem aK.block{id:Nat}{b:Code}{ps:aS X.Γ}{Q:Ex->aS X.Γ->Prop}(h:aK X P T call cd L f nt B b ps fun e s=>Q (match e with|.exit i=>if i=id then .norm else .exit i|e=>e) s):aK X P T call cd L f nt B (.block id b) ps Q:=fun A W fl m ts R hS hR=>by simp only[fF];exact h A W fl m ts _ hS fun e iH ps1 m1 a1 a2 a3 a4=>hR _ iH ps1 m1 a1 a2 a3 a4
theorem aK.loop{b:Code}{Q:Ex->aS X.Γ->Prop}(I:Nat->aS X.Γ->Prop)
  (h:∀k s,I k s->aK X P T call cd L f nt B b (gJ X (T.eX f (dQ b)) s) fun e s=>match e with|.norm=>∃j,j<k∧I j s|e=>Q e s) {k:Nat} {ps:aS X.Γ} (hi:I k ps) (hk:k<L):aK X P T call cd L f nt B (.loop b) ps Q:=fun A W fl m ts R hS hR=>by
 simp only[fF];have key:∀(n k:Nat) (ps:aS X.Γ) (m1:List MB) (iH:St),k<n->I k ps->SR X P A W fl m1 ps iH->Fr m ts.heap m1 iH.heap->LY B m m1->Gt (fun s Q=>fF P T call cd L f fl nt b (jU (T.eX f (dQ b)) s) Q) n iH R:=by
  intro n
  induction n with
  |zero=>intro k ps m ts hk;omega
  |succ n ih=>
   intro k ps m1 iH hk hi hS hF hU;simp only[Gt];refine h k ps hi A W fl m1 _ _ (hS.head _) fun e ts2 BZ m2 a1 a2 a3 a4=>?_;have a3:Fr m1 iH.heap m2 ts2.heap:=a3;cases e with
   |norm=>
    obtain⟨j,hj,zW⟩:=a1;exact ih j BZ m2 ts2 (by omega) zW a2 (hF.trans a3) (hU.trans a4)
   |exit i=>exact hR _ _ BZ m2 a1 a2 (hF.trans a3) (hU.trans a4)
   |ret=>exact hR _ _ BZ m2 a1 a2 (hF.trans a3) (hU.trans a4)
 exact key L k ps m ts hk hi hS .refl Up.refl.b
theorem aK.cond{c:Operand}{a b:Code}{ps:aS X.Γ}{t:Bool}{Q:Ex->aS X.Γ->Prop}(hc:zM ps.env c=some (.bool t))(h:aK X P T call cd L f nt B (if t then a else b) ps Q):aK X P T call cd L f nt B (.cond c a b) ps Q:=fun A W fl m ts R hS=>by
 obtain⟨x,g1,g2⟩:=jm hS.st.env hc;have hx:x=.bool t:=by
  cases g2 with
  |bool=>rfl
  |gone hi _ _=>simp[bn]at hi
 subst hx;simp only[fF,g1];cases t with
 |true=>exact h A W fl m ts R hS
 |false=>exact h A W fl m ts R hS
theorem aK.next{id it nx mo b r n:Nat}{seen:List Nat}{ops:Array Oper}{draw:Bool}{o1 o2:Oper}{ps:aS X.Γ}{es:List (PV X.Γ×PV X.Γ)}{Q:Ex->aS X.Γ->Prop}(hn:zZ ops=some (it,nx,o1,o2))(hd:nx<nt)(Zj:mo<nt)
  (h2:o2.op=.extract (.tmp nx) 0) (h3:o2.dst=some mo) (h4:o2.guard=none)
  (Qb:zM ps.env (.tmp it)=some (.iter b)) (hb:ps.heap[b]? = some (.cO r n seen)) (hr:JY X ps.heap r=some es) (hl:es.length=n)
  (vO:(∀j,j<n->j∈seen)->Q .norm { ps with env:=jd (T.iw f id) ((mo,.val (.bool false))::(nx,.val (.dG [.bool false]))::ps.env) })
  (pick:∀j e,j∉seen->es[j]? = some e->Q .norm { ps with env:=jd (T.iw f id) ((mo,.val (.bool true))::(nx,.val (.dG [.bool true,e.1,e.2]))::ps.env),heap:=ps.heap.set b (.cO r n (j::seen)) }) :
  aK X P T call cd L f nt B (.region id ops draw) ps Q:=fun A W fl m ts R hS hR0=>by
 obtain⟨x,g1,g2⟩:=jm hS.st.env Qb;obtain⟨mb,q1,q2⟩:=hS.st.heap.at_ b _ hb;obtain⟨cr,fU,q3,z1,z2,z3⟩:=CS hS.st.heap hr;cases mb with
 |fV cb=>
   obtain⟨c,p1,p2,p3⟩:=q2;have:=p3 cr (by rcases q3 with q|⟨q,_⟩;exact .inl q;exact .inr q);subst this;cases g2 with
   |gone hi e _=>simp only[bn,a00]at hi;subst hi;rw[q1]at e;cases e
   |iter e1=>
    rw[q1]at e1;cases e1;have aop:dL it ts.env=some (.val (.iter cb)):=by
     unfold qE at g1;split at g1
     .rename_i v hv;cases g1;exact hv
     .cases g1
    have run:∀(s:St) (t:Bool) (vs:List TV),kW P call (fun d=>T.TB f d) fl nt ops [o2] (s.put (some nx) (.val (.dG (.bool t::vs))))=some ({ s with env:=(mo,.val (.bool t))::(nx,.val (.dG (.bool t::vs)))::s.env },[bY]):=by intro s t vs;have e1:MW nt o2=true:=(by simp[MW,h3,Zj]);have e2:∀env,BU ops env o2=some true:=fun env=>(by simp[BU,h4]);simp only[kW,e1,e2,a8N,a2i,a3g,oP,h2];simp[St.put,Il,dL,h3,jT,bY,yK]
    simp only[fF,hn];refine⟨hd,cb,cr,n,seen,fU,aop,p1,z1,by rw[<-z2];exact hl,fun F8=>?_,fun j e hj he=>?_⟩
    .refine⟨_,_,run ts false [],hR0 _ _ { ps with env:=_ } m (vO F8) ?_ .refl Up.refl.b⟩;have hS2:uQ X P A m { ps with env:=(mo,.val (.bool false))::(nx,.val (.dG [.bool false]))::ps.env } { ts with env:=(mo,.val (.bool false))::(nx,.val (.dG [.bool false]))::ts.env }:=
      ⟨hS.st.heap,hS.st.llen,hS.st.loc,.cons (.bool false) (.cons (bU.cons (.bool false) .nil |> fun h=>.dG h.1 h.2) hS.st.env)⟩
     exact SR.pick ⟨hS2,hS.own,hS.ws,hS.fl⟩ _
    .have aT:j<es.length:=by rw[z2];exact(a01.1 he).1
     have hej:=a0a aT;have hv:=z3 j _ _ hej he;have hcb:=(a01.1 p1).1;obtain⟨u1,u2⟩:=hS.st.heap.set (pb:=.cO r n (j::seen)) (hb:=.cO cr n (j::seen)) q1 (c:=cb) rfl (fun cs hc=>by simp[aX,p1]at hc) fun hF=>⟨cr,by simp[hcb],p2,p3⟩;refine⟨_,_,run _ true [e.1,e.2],hR0 _ _ { ps with env:=_,heap:=_ } m (pick j _ hj hej) ?_ u2 Up.refl.b⟩;have hS1:=hS.st.step u1 u2 .refl;have hS2:uQ X P A m { ps with env:=(mo,.val (.bool true))::(nx,.val (.dG [.bool true,es[j].1,es[j].2]))::ps.env,heap:=ps.heap.set b (.cO r n (j::seen)) } { ts with env:=(mo,.val (.bool true))::(nx,.val (.dG [.bool true,e.1,e.2]))::ts.env,heap:=ts.heap.set cb (.cO cr n (j::seen)),ws:=jT fl [.h cb] ts.ws }:=
      ⟨hS1.heap,hS1.llen,hS1.loc,.cons (.bool true) (.cons (bU.cons (.bool true) (bU.cons (nO hv.1) (bU.cons (nO hv.2) .nil)) |> fun h=>.dG h.1 h.2) hS1.env)⟩
     refine SR.pick ⟨hS2,hS.own,fun b2 xM=>?_,by simpa using hS.fl⟩ _;rcases og.1 xM with h5|⟨h5,h6⟩
     .exact hS.ws b2 h5
     .simp at h5;subst h5;exact(hS.own _ (aZ q1 rfl)).resolve_right (by omega)
 |_=>exact q2.elim
def a9V(X:kJ)(P:LI1)(cd:uU)(fv:PV X.Γ)(xs:List (PV X.Γ))(H:List (PB X.Γ))(K:PV X.Γ->List (PB X.Γ)->Prop):Prop:=
 ∀(A:Nat->Prop) (m:List MB) (h:List HB) (tf:TV) (qU:List TV) (R:TV->List HB->List Nat->Prop),HR X P A m H h->VR X P (AA A m) m h fv tf->bU X P (AA A m) m h xs qU ->
  (∀w h1 ws m1 v H1,K v H1->HR X P A m1 H1 h1->VR X P (AA A m1) m1 h1 v w->Fr m h m1 h1->Up m m1->(∀b∈ws,b∈bg m)->R w h1 ws)->cd tf qU h R
theorem a1c{n:Nat}{t:FnT}{first xs cap:List (PV X.Γ)}{H:List (PB X.Γ)}{K:PV X.Γ->List (PB X.Γ)->Prop}(hX:bP X P)(ht:TA P f=some t)
  (hE:aK X P T (kR P T L n) Cm L f t.nt H.length t.body ⟨kT X 0 (first++xs++cap),[],H⟩ fun e s=>(e=.norm∨e=.ret)∧∃us,EI X P s t.results=some us∧K (Zb X us) s.heap):a9V X P (uO P T (kR P T L n) L) (.fn f first cap) xs H K:=by
 intro A m h tf qU R hr hf Nz hR;cases hf with
 |gone hi _ _=>simp[bn]at hi
 |fn p1 p2 p3 p4=>
  rename_i a' c';have EF:=(bU.app ⟨p1,p2⟩ Nz).app ⟨p3,p4⟩;refine⟨t,ht,hE A (fun b=>b∈bg m) _ m _ _ ⟨⟨hr,rfl,fun k cs hk=>by simp at hk,LZ EF⟩,fun b h1=>.inl h1,fun b hb=>(by cases hb),a0U _⟩ fun e iH ps1 m1 ⟨he,us,hus,hk⟩ h3 h4 h5=>?_⟩;obtain⟨ws,g1,g2⟩:=IL hX h3.st hus;refine⟨he,ws,g1,hR _ _ _ m1 _ _ hk h3.st.heap (Ur g2) h4 (fun i mb hi=>h5 i mb ?_ hi) h3.ws⟩;rw[<-hr.len];exact(a01.1 hi).1
theorem aK.range(hX:bP X P){g:Operand}{qs:Array Nat}{uJ body:Code}{ps:aS X.Γ}{f1:FuncId}{a1 b1:List (PV X.Γ)}{K:PV X.Γ->List (PB X.Γ)->Prop}{Q:Ex->aS X.Γ->Prop}
  (hg:zM ps.env g=some (.fn f1 a1 b1)) (hd:T.din.contains f1=true) (F8:(ps.env.all fun p=>Zq p.2)=true)
  (aoq:a9V X P cd (.fn f1 a1 b1) [.kG (ps.heap.length+1)] (ps.heap++[.mark]++[.loop true f nt ps.env qs.toList uJ body none]) K)
  (hk:∀v H1,K v H1->∃rd f2 Q5 e2 BZ a2 b2 jI e,H1[ps.heap.length+1]? = some (.loop rd f2 Q5 e2 BZ a2 b2 jI)∧QA rd jI=some e∧Q e { ps with heap:=H1.set (ps.heap.length+1) (.loop false f2 Q5 e2 BZ a2 b2 (some .skip)) }) :
  aK X P T call cd L f nt B (.rangeFunc g qs uJ body) ps Q:=by
 intro A W fl m ts R hS hR;obtain⟨tg,g1,g2⟩:=jm hS.st.env hg;have hm:=hS.st.heap.len;obtain⟨p1,p2,p3⟩:=hS.st.heap.push (pb:=.mark) (hb:=.mark) (mb:=.fV ts.heap.length) (.inl rfl) (by simp[BR]);obtain⟨q1,q2,q3⟩:=p1.push (pb:=.loop true f nt ps.env qs.toList uJ body none) (hb:=.loop true f nt ts.env qs.toList uJ body none) (mb:=.fV (ts.heap.length+1)) (.inl (by simp[MB.own])) (by
  refine⟨ts.env,by simp,?_⟩;refine jS.step (m:=m) (h:=ts.heap) (A:=A) ?_ ?_ hS.st.env
  .have r2:Fr (m++[MB.fV ts.heap.length]) (ts.heap++[HB.mark]) (m++[MB.fV ts.heap.length]++[MB.fV (ts.heap.length+1)]) (ts.heap++[HB.mark]++[HB.loop true f nt ts.env qs.toList uJ body none]):=by
    refine⟨by simp,fun b hb _=>by rw[a0b hb],fun b hb=>?_,fun b cs hc=>⟨cs,?_,a0U _⟩⟩
    .rw[iY,a3k,jY]at hb;rcases hb with hb|hb
     .exact .inl hb
     .simp[MB.own]at hb;subst hb;exact .inr (by simp)
    .rw[fP (a0b (fM hc)),hc]
   exact p2.trans r2
  .exact p3.trans (wC _))
 have hF:=p2.trans q2;have hU:=p3.trans q3;have hyl:VR X P (AA A (m++[MB.fV ts.heap.length]++[MB.fV (ts.heap.length+1)])) (m++[MB.fV ts.heap.length]++[MB.fV (ts.heap.length+1)]) (ts.heap++[HB.mark]++[HB.loop true f nt ts.env qs.toList uJ body none]) (.kG (ps.heap.length+1)) (.kG (ts.heap.length+1)):=by refine .kG ?_;rw[<-hm,a0S (by simp)];simp
 have hg':∃a1' b1',tg=.fn f1 a1' b1':=by
  cases g2 with
  |gone hi _ _=>simp[bn]at hi
  |fn _ _ _ _=>exact⟨_,_,rfl⟩
 obtain⟨a1',b1',rfl⟩:=hg';have aot:a5g T ts.env g=true:=by unfold a5g;rw[g1];exact hd
 simp only[fF,aot,a1U];refine⟨f1,a1',b1',g1,a6g hS.st.env F8,?_⟩;rw[show ts.heap++[HB.mark,HB.loop true f nt ts.env qs.toList uJ body none]=ts.heap++[HB.mark]++[HB.loop true f nt ts.env qs.toList uJ body none] by simp];refine aoq A _ _ _ [.kG (ts.heap.length+1)] _ q1 (g2.step hF hU) (.cons hyl .nil) fun w h1 ws m1 v H1 Oj c2 c3 c4 c5 c6=>?_;obtain⟨rd,f2,Q5,e2,BZ,a2,b2,jI,e,hl,hj,hq⟩:=hk v H1 Oj;have hm1:m1[ps.heap.length+1]? = some (.fV (ts.heap.length+1)):=by
  rcases c5 (ps.heap.length+1) (.fV (ts.heap.length+1)) (by rw[<-hm,a0S (by simp)];simp)with e|e
  .exact e
  .obtain⟨mb,k1,k2⟩:=c2.at_ _ _ hl;rw[e]at k1;cases k1;exact k2.elim
 obtain⟨mb,k1,k2⟩:=c2.at_ _ _ hl;rw[hm1]at k1;cases k1;obtain⟨e2',k3,k4⟩:=k2;obtain⟨s1,s2⟩:=c2.set (i:=ps.heap.length+1) (c:=ts.heap.length+1) (pb:=.loop false f2 Q5 e2 BZ a2 b2 (some .skip)) (hb:=.loop false f2 Q5 e2' BZ a2 b2 (some .skip)) hm1 rfl (fun cs hc=>by unfold aX at hc;rw[k3]at hc;cases hc) (fun hF=>⟨e2',by rw[a2c (a01.1 k3).1],k4.step hF .refl⟩);have hF2:=hF.trans (c4.trans s2);have hU2:=hU.trans c5;refine⟨_,_,_,_,_,_,_,_,e,k3,hj,hR _ _ _ m1 hq ⟨?_,fun b hb=>?_,fun b hb=>?_,?_⟩ hF2 hU2.b⟩
 .have q:=hS.st.step s1 hF2 hU2;exact⟨q.heap,q.llen,q.loc,q.env⟩
 .rcases hF2.new b hb with k|k
  .exact hS.own b k
  .exact .inr (a4A hS.fl k)
 .rcases vM hb with k|⟨k,k'⟩
  .exact hS.ws b k
  .obtain⟨b',qy,e⟩:=a1g.1 k;cases e;rcases hF.new b (c6 b qy)with k2|k2
   .rcases hS.own b k2 with k3|k3
    .exact k3
    .omega
   .have:=hS.fl;omega
 .exact a4A hS.fl hF2.len
end
section
variable {X:kJ} {P:LI1} {A B:Nat->Prop} {m m' m1:List MB} {h h':List HB} {g:Nat->Option Nat}
def Bv:List (PB X.Γ)->Bool
 | []=>true
 |.aF _::H=>Bv H
 |.iD _::H=>Bv H
 |.gone::H=>Bv H
 |_=>false
theorem Xg:∀{H:List (PB X.Γ)},Bv H=true->∀(i:Nat) b,H[i]? = some b->Bv [b]=true
 | [],_,i,b,h=>by simp at h
 |a::H,hn,i,b,h=>by
  cases i with
  |zero=>simp at h;subst h;cases a<;>simp_all [Bv]
  |succ i=>
   have Dz:Bv H=true:=by cases a<;>simp_all [Bv]
   exact Xg Dz i b (by simpa using h)
theorem Zv{H:List (PB X.Γ)}(hn:Bv H=true)(hr:HR X P A m H h):bg m=[]:=by
 refine a4Y.2 fun b hb=>?_;obtain⟨i,mb,h1,h2⟩:=jZ hb;have hl:i<H.length:=by rw[<-hr.len];exact(a01.1 h1).1
 obtain⟨LM,g1,g2⟩:=hr.at_ i _ (a0a hl);rw[h1]at g1;cases g1;have h3:=Xg hn i _ (a0a hl);generalize H[i]=b9 at g2 h3;cases b9<;>first|(cases h3;done)|skip
 all_goals (cases mb<;>first|exact g2.elim|cases h2)
theorem OJ{v:PV X.Γ}{t:TV}(h:qM v=some t):(∀l,BA t l=l)∧(∀g,nG g t=some t)∧∀fl,KP fl t=t:=by cases v<;>simp only[qM,a00,reduceCtorEq]at h<;>subst h<;>exact⟨fun _=>rfl,fun _=>rfl,fun _=>rfl⟩
theorem yg:∀{vs:List (PV X.Γ)} {ts:List TV},iJ vs=some ts->(∀l,BA.EC ts l=l)∧∀g,nG.yX g ts=some ts
 | [],ts,h=>by simp only[iJ,a00]at h;subst h;exact⟨fun _=>rfl,fun _=>rfl⟩
 |v::vs,ts,h=>by
  simp only[iJ]at h;split at h
  .rename_i a b h1 h2;cases h;have e1:=OJ h1;have e2:=yg h2;exact⟨fun l=>by simp only[BA.EC,e2.1,e1.1],fun g=>by simp only[nG.yX,e1.2.1,e2.2]⟩
  cases h
theorem Md{v:PV X.Γ}{t:TV}(h:pU v=some t):(∀l,BA t l=l)∧(∀g,nG g t=some t)∧∀fl,KP fl t=t:=by
 unfold pU at h;split at h
 .simp only[a05]at h;obtain⟨ts,h1,rfl⟩:=h;have e:=yg h1;exact⟨fun l=>by simp only[BA,e.1],fun g=>by simp only[nG,e.2,a0j],fun _=>rfl⟩
 exact OJ h
def a2W(X:kJ)(P:LI1)(mP:Bool)(u:PV X.Γ)(Hs:List (PB X.Γ))(tv:Nat->TV)(tN:List HB):Prop:=
 ∀(A:Nat->Prop) (m:List MB) (h h1:List HB) (w:TV),HR X P A m Hs h1->VR X P (AA A m) m h1 u w->(∀b,b∈bg m->h.length<=b)->NS mP h w h1=some (tv h.length,h++tN)
theorem D8(hX:bP X P){T:qx}{L n f:Nat}{t:FnT}{first xs cap:List (PV X.Γ)}{H N:List (PB X.Γ)}{v:PV X.Γ}{tv:Nat->TV}{tN:List HB}(hd:T.dem.contains f=true)(hx:T.exts.contains f=false)(ht:TA P f=some t)(hN:Bv H=true)
  (NV:∀A m h,HR X P A m H h->∃m1,HR X P A m1 (H++N) (h++tN)∧VR X P (AA A m1) m1 (h++tN) v (tv h.length)∧Fr m h m1 (h++tN)∧Up m m1)
  (hE:aK X P T (kR P T L n) (uO P T (kR P T L n) L) L f t.nt H.length t.body ⟨kT X 0 (first++xs++cap),[],H⟩ fun e s=>(e=.norm∨e=.ret)∧∃us,EI X P s t.results=some us∧a2W X P (T.a8S.contains f) (Zb X us) s.heap tv tN):dD X P (kR P T L (n+1)) (.fn f first cap) xs H v (H++N):=by
 intro A m h tf qU hr hf Nz;cases hf with
 |gone hi _ _=>simp[bn]at hi
 |fn p1 p2 p3 p4=>
  rename_i a' c';have EF:=(bU.app ⟨p1,p2⟩ Nz).app ⟨p3,p4⟩;have hb:=Zv hN hr;have hS:SR X P A (fun _=>False) h.length m ⟨kT X 0 (first++xs++cap),[],H⟩ ⟨nI 0 (a'++qU++c'),[],h,[]⟩:=
   ⟨⟨hr,rfl,fun k cs hk=>by simp at hk,LZ EF⟩,fun b h1=>(by rw[hb]at h1;cases h1),fun b hb=>(by cases hb),a0U _⟩
  have hO:Wj P T (kR P T L n) L f t (a'++qU++c') h (tv h.length,h++tN):=by refine hE A _ _ m _ _ hS fun e iH ps1 m1 ⟨he,us,hus,hpv⟩ h3 h4 h5=>?_;obtain⟨ws,g1,g2⟩:=IL hX h3.st hus;exact⟨he,ws,g1,a4Y.2 fun b hb=>h3.ws b hb,hpv A m1 h iH.heap _ h3.st.heap (Ur g2) fun b hb=>(h3.own b hb).resolve_left id⟩
  obtain⟨m1,q1,q2,q3,q4⟩:=NV A m h hr;refine⟨tv h.length,h++tN,[],m1,?_,q1,q2,q3,q4,fun b hb=>by cases hb⟩;simp only[kR,hx,hd,a2i,a3g,a1U];exact a9i ht hO
theorem Zw{mP:Bool}{u:PV X.Γ}{Hs:List (PB X.Γ)}{tu:TV}(hu:pU u=some tu)(ht:∀cs,tu≠.dG cs):a2W X P mP u Hs (fun _=>tu) []:=fun A m h h1 w hr hw _=>by
 have:=jM hw hu;subst this;obtain⟨e1,e2,e3⟩:=Md hu;have e4:U2 h.length w=w:=by
  cases w with
  |dG cs=>exact absurd rfl (ht cs)
  |_=>exact e3 h.length
 unfold NS;simp only[e1,wo,e2,CB,e4,abv,a6L]
theorem a9W(hX:bP X P){T:qx}{L n f:Nat}{t:FnT}{first xs cap:List (PV X.Γ)}{H:List (PB X.Γ)}{v:PV X.Γ}{tv:TV}(hd:T.dem.contains f=true)(hx:T.exts.contains f=false)(ht:TA P f=some t)(hN:Bv H=true)(hv:pU v=some tv)
  (hE:aK X P T (kR P T L n) (uO P T (kR P T L n) L) L f t.nt H.length t.body ⟨kT X 0 (first++xs++cap),[],H⟩ fun e s=>(e=.norm∨e=.ret)∧∃us,EI X P s t.results=some us∧Zb X us=v):dD X P (kR P T L (n+1)) (.fn f first cap) xs H v H:=by
 have:=D8 (N:=[]) (v:=v) (tv:=fun _=>tv) (tN:=[]) hX hd hx ht hN (fun A m h hr=>⟨m,by simpa using hr,nO hv,by simpa using Fr.refl,.refl⟩) (hE.mono fun e s ⟨h1,us,h2,h3⟩=>⟨h1,us,h2,by rw[h3];exact Zw hv fun cs hc=>by subst hc;cases v<;>simp[pU,qM]at hv⟩)
 rwa [a6L]at this
def wK:List (PV X.Γ×PV X.Γ)->Option (List (TV×TV))
 | []=>some []
 |(k,v)::r=>match pU k,pU v,wK r with
  |some k,some v,some r=>some ((k,v)::r)
  |_,_,_=>none
theorem Xh:∀{es:List (PV X.Γ×PV X.Γ)} {fU Me:List (TV×TV)},wK es=some Me->es.length=fU.length->(∀(i:Nat) x y,es[i]? = some x->fU[i]? = some y->pU x.1=some y.1∧pU x.2=some y.2)->fU=Me
 | [],fU,Me,h,hl,_=>by simp only[wK,a00]at h;subst h;exact a3Y hl.symm
 |(k,v)::r,fU,Me,h,hl,he=>by
  cases fU with
  |nil=>simp at hl
  |cons y fU=>
   simp only[wK]at h;split at h
   .rename_i a b c h1 h2 h3;cases h;have e0:=he 0 _ _ rfl rfl;have e1:y.1=a:=by have:=e0.1.symm.trans h1;exact a8R this
    have e2:y.2=b:=by have:=e0.2.symm.trans h2;exact a8R this
    have e3:=Xh h3 (by simpa using hl) fun i x z hx hz=>he (i+1) x z (by simpa using hx) (by simpa using hz);rw[e3,<-e1,<-e2]
   cases h
theorem OL:∀{es:List (PV X.Γ×PV X.Γ)} {Me:List (TV×TV)},wK es=some Me->es.length=Me.length∧∀(i:Nat) x y,es[i]? = some x->Me[i]? = some y->pU x.1=some y.1∧pU x.2=some y.2
 | [],Me,h=>by simp only[wK,a00]at h;subst h;exact⟨rfl,by simp⟩
 |(k,v)::r,Me,h=>by
  simp only[wK]at h;split at h
  .rename_i a b c h1 h2 h3;cases h;obtain⟨i1,i2⟩:=OL h3;refine⟨by simp[i1],fun i x y hx hy=>?_⟩;cases i with
   |zero=>simp at hx hy;subst hx;subst hy;exact⟨h1,h2⟩
   |succ i=>exact i2 i x y (by simpa using hx) (by simpa using hy)
  cases h
theorem Sr:∀{es:List (PV X.Γ×PV X.Γ)} {Me:List (TV×TV)},wK es=some Me->(∀l,a9d.a0x Me l=l)∧∀g,Tw.oM g Me=some Me
 | [],Me,h=>by simp only[wK,a00]at h;subst h;exact⟨fun _=>rfl,fun _=>rfl⟩
 |(k,v)::r,Me,h=>by
  simp only[wK]at h;split at h
  .rename_i a b c h1 h2 h3;cases h;have e1:=Md h1;have e2:=Md h2;have e3:=Sr h3;exact⟨fun l=>by simp only[a9d.a0x,e1.1,e2.1,e3.1],fun g=>by simp only[Tw.oM,e1.2.1,e2.2.1,e3.2]⟩
  cases h
theorem OM{h h1:List HB}{c:Nat}(hc:h.length<=c)(hr:∀l,a9d h1[c]? l=l):wo h1 h.length 5000 [c] []=[c]∧VY h.length [c] c=some h.length:=by
 have e1:Nat.blt c h.length=false:=by
  cases e:Nat.blt c h.length with
  |false=>rfl
  |true=>have:=agG e;omega
 constructor
 .simp only[wo,e1,a5n,Bool.or_false,hr]
 simp only[VY,e1,a5l,Nat.beq_refl,a0j,a3T]
theorem a6u{mP:Bool}{r:Nat}{Hs:List (PB X.Γ)}{es:List (PV X.Γ×PV X.Γ)}{Me:List (TV×TV)}(hm:Hs[r]? = some (.map es))(he:wK es=some Me):a2W X P mP (.map r) Hs (fun n=>.map n) [.map (Rj Me)]:=fun A m h h1 w hr hw hn=>by
 obtain⟨mb,g1,g2⟩:=hr.at_ r _ hm;cases mb with
 |fV c=>
  obtain⟨fU,g3,g4,g5⟩:=g2;have:=Xh he g4 g5;subst this;have hw:w=.map c:=by
   cases hw with
   |map e=>rw[g1]at e;cases e;rfl
   |gone hi e _=>simp only[bn,a00]at hi;subst hi;rw[g1]at e;cases e
  subst hw;have hc:=hn c (aZ g1 rfl);obtain⟨e1,e2⟩:=Sr he;obtain⟨k1,k2⟩:=OM (h:=h) (h1:=h1) hc fun l=>by rw[g3];exact e1 l
  unfold NS;simp only[BA,k1,nG,k2,a0j,CB,g3,uq,e2,U2,KP,a4c,abv,Qc]
 |_=>exact g2.elim
theorem a6v(hX:bP X P){T:qx}{L n f:Nat}{t:FnT}{first xs cap:List (PV X.Γ)}{H:List (PB X.Γ)}{es0:List (PV X.Γ×PV X.Γ)}{a2X:List (TV×TV)}(hd:T.dem.contains f=true)(hx:T.exts.contains f=false)(ht:TA P f=some t)(hN:Bv H=true)(h0:wK es0=some a2X)
  (hE:aK X P T (kR P T L n) (uO P T (kR P T L n) L) L f t.nt H.length t.body ⟨kT X 0 (first++xs++cap),[],H⟩ fun e s=>(e=.norm∨e=.ret)∧∃us,EI X P s t.results=some us∧∃r es Me,Zb X us=.map r∧s.heap[r]? = some (.map es)∧wK es=some Me∧Rj Me=a2X):dD X P (kR P T L (n+1)) (.fn f first cap) xs H (.map H.length) (H++[.map es0]):=by
 refine D8 (tv:=fun n=>.map n) (tN:=[.map a2X]) hX hd hx ht hN (fun A m h hr=>?_) (hE.mono fun e s ⟨h1,us,h2,r,es,Me,h3,h4,h5,h6⟩=>⟨h1,us,h2,by rw[h3,<-h6];exact a6u h4 h5⟩);obtain⟨p1,p2,p3⟩:=hr.push (pb:=.map es0) (hb:=.map a2X) (mb:=.fV h.length) (.inl rfl) ⟨a2X,by simp,(OL h0).1,(OL h0).2⟩;exact⟨_,p1,.map (by rw[<-hr.len];simp),p2,p3⟩
theorem Xi(hX:bP X P){A:Nat->Prop}{m:List MB}{Hs:List (PB X.Γ)}{h1:List HB}{i ty:Nat}{k ex:Bool}{l:List (X.Γ ty)}{w:TV}{KU:List TV}(hr:HR X P A m Hs h1)(hi:Hs[i]? = some (.list k ex ty l))(hl:l≠[])(hc:iJ (Ei X ty l)=some KU)(hw:VR X P (AA A m) m h1 (.own i) w) :
  ∃c sz e kk,w=.aP c 0 l.length l.length sz e∧dw P ty=some sz∧c∈bg m∧h1[c]? = some (.cells kk KU)∧kk≠.ro:=by
 obtain⟨mb,g1,g2⟩:=hr.at_ i _ hi;cases mb with
 |dB x=>
  have hwx:w=x:=by
   cases hw with
   |own e _=>rw[g1]at e;cases e;rfl
   |gone hi e _=>simp only[bn,a00]at hi;subst hi;rw[g1]at e;cases e
  subst hwx;cases(g2:LR X P (AA A m) m h1 k ex ty l w)with
  |nil=>exact absurd rfl hl
  |emp=>exact absurd rfl hl
  |some _ q2 q3 q4 q5 q6 q7 q8 q9=>
   have hv:=dW.vrs q9 q8;have QM:=Fz hv hc;subst QM;exact⟨_,_,_,_,rfl,q2,aZ g1 (by simp only[MB.own];rw[a0c (by simpa using hl)]),q4,q5⟩
 |_=>exact g2.elim
theorem a6w(hX:bP X P){i ty sz:Nat}{k ex:Bool}{l:List (X.Γ ty)}{Hs:List (PB X.Γ)}{KU:List TV}(hi:Hs[i]? = some (.list k ex ty l))(hl:l≠[])(hc:iJ (Ei X ty l)=some KU)(hs:dw P ty=some sz):a2W X P true (.own i) Hs (fun n=>.aP n 0 l.length l.length sz false) [.mP (Rk KU)]:=fun A m h h1 w hr hw hn=>by
 obtain⟨c,sz',e,kk,rfl,g1,g2,g3,g4⟩:=Xi hX hr hi hl hc hw;rw[hs]at g1;cases g1;have pF:=hn c g2;obtain⟨e1,e2⟩:=yg hc;obtain⟨k1,k2⟩:=OM (h:=h) (h1:=h1) pF fun l=>by rw[g3];exact e1 l
 have e3:Qc true (.cells kk KU)=.mP (Rk KU):=by cases kk<;>first|rfl|exact absurd rfl g4
 unfold NS;simp only[BA,k1,nG,k2,a0j,CB,g3,uq,e2,U2,KP,a4c,abv,e3,Nat.lt_irrefl,a3g]
theorem a6x(hX:bP X P){i ty sz:Nat}{k ex:Bool}{l:List (X.Γ ty)}{Hs:List (PB X.Γ)}{KU:List TV}{p:PV X.Γ}{tp:TV}(hi:Hs[i]? = some (.list k ex ty l))(hl:l≠[])(hc:iJ (Ei X ty l)=some KU)(hs:dw P ty=some sz)(hp:pU p=some tp):a2W X P false (.dG [.own i,p]) Hs (fun n=>.dG [.aP n 0 l.length l.length sz false,tp]) [.cells .last KU]:=fun A m h h1 w hr hw hn=>by
 cases hw with
 |gone hi _ _=>simp[bn]at hi
 |dG a1 a2=>
  rename_i cs';obtain⟨x,r,rfl,v0,v1⟩:=bU.inv (⟨a1,a2⟩:bU X P _ _ _ _ _);obtain⟨y,r,rfl,v2,v3⟩:=v1.inv;have:=v3.inv0;subst this;have:=jM v2 hp;subst this;obtain⟨c,sz',e,kk,rfl,g1,g2,g3,g4⟩:=Xi hX hr hi hl hc v0;rw[hs]at g1;cases g1;have pF:=hn c g2;obtain⟨e1,e2⟩:=yg hc;obtain⟨q1,q2,q3⟩:=Md hp;obtain⟨k1,k2⟩:=OM (h:=h) (h1:=h1) pF fun l=>by rw[g3];exact e1 l
  have e3:Qc false (.cells kk KU)=.cells .last KU:=by cases kk<;>first|rfl|exact absurd rfl g4
  unfold NS;have q4:KP h.length (.aP h.length 0 l.length l.length sz e)=.aP h.length 0 l.length l.length sz false:=by simp only[KP,Nat.lt_irrefl,a3g]
  simp only[BA,BA.EC,q1,k1,nG,nG.yX,q2,k2,a0j,CB,g3,uq,e2,U2,q3,q4,a4c,abv,e3]
theorem a9X{H:List (PB X.Γ)}{n sz:Nat}{cs:List (PV X.Γ)}{ts:List TV}(h0:U7 cs=some ts){A m h}(hr:HR X P A m H h):∃m1,HR X P A m1 (H++[.mP cs]) (h++[.mP ts])∧VR X P (AA A m1) m1 (h++[.mP ts]) (.aP H.length 0 n n sz false) (.aP h.length 0 n n sz false)∧Fr m h m1 (h++[.mP ts])∧Up m m1:=by obtain⟨p1,p2,p3⟩:=hr.push (pb:=.mP cs) (hb:=.mP ts) (mb:=.fV h.length) (.inl rfl) ⟨ts,by simp,h0⟩;exact⟨_,p1,.aP (by rw[<-hr.len];simp),p2,p3⟩
theorem Xj{ty sz:Nat}:∀{l:List (X.Γ ty)},(∀(j:Nat) a,l[j]? = some a->(X.enc ty a).length=sz)->(Ei X ty l).length=l.length*sz∧∀(j:Nat) a (i:Nat) c,l[j]? = some a->(X.enc ty a)[i]? = some c->(Ei X ty l)[j*sz+i]? = some c
 | [],_=>⟨by simp[Ei],by simp⟩
 |a::l,he=>by
  obtain⟨h1,h2⟩:=Xj (l:=l) fun j b hb=>he (j+1) b (by simpa using hb);have h0:=he 0 a rfl;refine⟨by simp only[Ei,a1I,h0,h1,a4b,a3m,adw];omega,fun j b i c hb hc=>?_⟩;cases j with
  |zero=>
   simp at hb;subst hb;simp only[Ei,abT,a3T];rw[a0b (a01.1 hc).1];exact hc
  |succ j=>
   simp only[Ei];rw[a0S (by rw[h0,a3m];omega),h0,show(j+1)*sz+i-sz=j*sz+i by rw[a3m];omega];exact h2 j b i c (by simpa using hb) hc
theorem a2Y{ty sz:Nat}{l:List (X.Γ ty)}{KU:List TV}{A m h}(he:∀(j:Nat) a,l[j]? = some a->(X.enc ty a).length=sz)(hc:iJ (Ei X ty l)=some KU):KU.length=l.length*sz∧dW X P A m h ty l KU 0 sz:=by
 have hv:=FB (X:=X) (P:=P) (A:=A) (m:=m) (h:=h) hc;obtain⟨h1,h2⟩:=Xj he;have hl:KU.length=l.length*sz:=by rw[<-hv.1,h1]
 exact⟨hl,he,by rw[hl];omega,fun j a i c v a1 a2 a3=>hv.2 (j*sz+i) c v (h2 j a i c a1 a2) (by rw[a3T]at a3;exact a3)⟩
theorem a9Y(hX:bP X P){H:List (PB X.Γ)}{ty sz:Nat}{l:List (X.Γ ty)}{KU:List TV}{p:PV X.Γ}{tp:TV}(hl:l≠[])(hc:iJ (Ei X ty l)=some KU)(hs:dw P ty=some sz)(h0:0<sz)(he:∀(j:Nat) a,l[j]? = some a->(X.enc ty a).length=sz)(hp:pU p=some tp){A m h}(hr:HR X P A m H h) :
  ∃m1,HR X P A m1 (H++[.list false false ty l]) (h++[.cells .last KU])∧VR X P (AA A m1) m1 (h++[.cells .last KU]) (.dG [.own H.length,p]) (.dG [.aP h.length 0 l.length l.length sz false,tp])∧Fr m h m1 (h++[.cells .last KU])∧Up m m1:=by
 obtain⟨p1,p2,p3⟩:=hr.push (pb:=.list false false ty l) (hb:=.cells .last KU) (mb:=.dB (.aP h.length 0 l.length l.length sz false)) (.inl (by simp only[MB.own];rw[a0c (by simpa using hl)])) (by obtain⟨r1,r2⟩:=a2Y (A:=AA A (m++[MB.dB (.aP h.length 0 l.length l.length sz false)])) (m:=m++[MB.dB (.aP h.length 0 l.length l.length sz false)]) (h:=h++[.cells .last KU]) (P:=P) he hc;exact LR.some (kk:=.last) (cs:=KU) hl hs h0 (by simp) (by simp) (by simp) (by simp) r1 r2)
 exact⟨_,p1,bU.cons (.own (by rw[<-hr.len];simp) rfl) (.cons (nO hp) .nil) |> fun h=>.dG h.1 h.2,p2,p3⟩
end
def eP:Code->Code
 |.seq a _=>a
 |.block _ b=>b
 |.loop b=>b
 |.scope b=>b
 |.cond _ a _=>a
 |c=>c
def eU:Code->Code
 |.seq _ b=>b
 |.cond _ _ b=>b
 |c=>c
def a6y:Code->Array Oper
 |.region _ o _=>o
 |_=>#[]
def Sv(P:LI1)(f:Nat):FnT:=match TA P f with
 |some t=>t
 |none=>⟨0,.skip,[]⟩
def UC(ops:Array Oper)(it nx mo:Nat):Bool:=match zZ ops with
 |some (a,b,_,o2)=>a==it&&b==nx&&(match o2.op,o2.dst,o2.guard with
  |.extract (.tmp k) 0,some d,none=>k==nx&&d==mo
  |_,_,_=>false)
 |none=>false
theorem a2Z{ops:Array Oper}{it nx mo:Nat}(h:UC ops it nx mo=true):∃o1 o2,zZ ops=some (it,nx,o1,o2)∧o2.op=.extract (.tmp nx) 0∧o2.dst=some mo∧o2.guard=none:=by
 unfold UC at h;split at h
 .rename_i a b o1 o2 e;simp only[a2f,a7r]at h;obtain⟨⟨rfl,rfl⟩,h⟩:=h;split at h
  .rename_i k d e1 e2 e3;simp only[a2f,a7r]at h;obtain⟨rfl,rfl⟩:=h;exact⟨o1,o2,e,e1,e2,e3⟩
  cases h
 cases h
section
variable {X:kJ} {P:LI1} {T:qx} {call:aY} {cd:uU} {fO:eY X.Γ} {L f nt B:Nat}
theorem zy(hX:bP X P)(hO:jD X P call fO){c:Code}{ps ps1:aS X.Γ}{an:PT X.Γ}{o:OT (Ex×aS X.Γ)}{e:Ex}(hk:jL X P T fO (dD X P call) (dM X P T call L f false nt B) B L f false nt c ps an aez=o)(ht:Fp (fun r=>r=(e,ps1)) an o):dM X P T call L f false nt B c ps e ps1:=by obtain⟨y,h1,h2⟩:=ht.aO;subst h2;rw[<-hk]at h1;exact WT hX hO h1
theorem a1d{n j:Nat}{seen:List Nat}(hj:j<n)(hn:j∉seen):((List.range n).filter fun i=>!(j::seen).contains i).length<((List.range n).filter fun i=>!seen.contains i).length:=by
 have e:((List.range n).filter fun i=>!(j::seen).contains i)=((List.range n).filter fun i=>!seen.contains i).filter fun i=>!(i==j):=by rw[List.filter_filter];refine List.filter_congr fun i _=>?_;rw[agY];cases i==j<;>simp
 rw[e];refine List.length_filter_lt_length_iff_exists.2 ⟨j,a7S.2 ⟨a4i.2 hj,by simpa using hn⟩,by simp⟩
end
section
variable {X:kJ} {P:LI1} {T:qx} {call:aY} {cd:uU} {L f nt B:Nat}
theorem aK.ghost(hX:bP X P){gs:List G}{c:Code}{ps ps1:aS X.Γ}{Q:Ex->aS X.Γ->Prop}(hg:l7 B gs ps=some ps1)(h:aK X P T call cd L f nt B c ps1 Q):aK X P T call cd L f nt B c ps Q:=fun A W fl m ts R hS hR=>by obtain⟨m2,q1,q2,q3⟩:=mQ hX hg A W fl m ts hS;exact h A W fl m2 ts R q1 fun e iH ps1 m1 a1 a2 a3 a4=>hR e iH ps1 m1 a1 a2 (q2.trans a3) (q3.trans a4)
theorem OO(hX:bP X P){x:Code}{i0 i1 id it nx mo b r n:Nat}{ops:Array Oper}{draw:Bool}{s0:aS X.Γ}{es:List (PV X.Γ×PV X.Γ)}{Q:aS X.Γ->Prop}(I:List Nat->aS X.Γ->Prop)
  (hnx:UC ops it nx mo=true) (hd:nx<nt) (Zj:mo<nt) (hl:es.length=n) (hL:n<L) (hI:I [] s0)
  (hinv:∀seen s,I seen s->∃gs s',l7 B gs (gJ X (T.eX f (dQ (.seq (.region id ops draw) (.seq (.cond (.tmp mo) .skip (.exit i0)) (.block i1 x))))) s)=some s'∧zM s'.env (.tmp it)=some (.iter b)∧s'.heap[b]? = some (.cO r n seen)∧JY X s'.heap r=some es ∧
   ((∀j,j<n->j∈seen)->zM (jd (T.iw f id) ((mo,.val (.bool false))::(nx,.val (.dG [.bool false]))::s'.env)) (.tmp mo)=some (.bool false)∧Q { s' with env:=jd (T.iw f id) ((mo,.val (.bool false))::(nx,.val (.dG [.bool false]))::s'.env) }) ∧
   ∀j e,j∉seen->es[j]? = some e->zM (jd (T.iw f id) ((mo,.val (.bool true))::(nx,.val (.dG [.bool true,e.1,e.2]))::s'.env)) (.tmp mo)=some (.bool true) ∧
    aK X P T call cd L f nt B x { s' with env:=jd (T.iw f id) ((mo,.val (.bool true))::(nx,.val (.dG [.bool true,e.1,e.2]))::s'.env),heap:=s'.heap.set b (.cO r n (j::seen)) } fun e s=>(e=.norm∨e=.exit i1)∧I (j::seen) s) :
  aK X P T call cd L f nt B (.block i0 (.loop (.seq (.region id ops draw) (.seq (.cond (.tmp mo) .skip (.exit i0)) (.block i1 x))))) s0 fun e s=>e=.norm∧Q s:=by
 obtain⟨o1,o2,hn,h2,h3,h4⟩:=a2Z hnx;have skp:∀{s:aS X.Γ} {Q':Ex->aS X.Γ->Prop},Q' .norm s->aK X P T call cd L f nt B .skip s Q':=fun{s Q'} hq=>by intro A W fl m ts R hS hR;simp only[fF];exact⟨_,_,rfl,hR _ _ s m hq hS .refl Up.refl.b⟩
 have ext:∀{i:Nat} {s:aS X.Γ} {Q':Ex->aS X.Γ->Prop},Q' (.exit i) s->aK X P T call cd L f nt B (.exit i) s Q':=fun{i s Q'} hq=>by intro A W fl m ts R hS hR;simp only[fF];exact⟨_,_,rfl,hR _ _ s m hq hS .refl Up.refl.b⟩
 refine aK.block ?_;refine aK.loop (fun k s=>∃seen,I seen s∧k=((List.range n).filter fun i=>!seen.contains i).length) (fun k s hi=>?_) (k:=n) ⟨[],hI,by rw[show((List.range n).filter fun i=>!([]:List Nat).contains i)=List.range n from agR.2 fun a _=>rfl,a8D]⟩ hL;obtain⟨seen,hi,rfl⟩:=hi;obtain⟨gs,s',e1,e2,e3,e4,e5,e6⟩:=hinv seen s hi;refine aK.ghost hX e1 ?_;refine aK.seq (R:=fun e s=>e=.norm∧(((∀j,j<n->j∈seen)∧s={ s' with env:=jd (T.iw f id) ((mo,.val (.bool false))::(nx,.val (.dG [.bool false]))::s'.env) })∨∃j e,j∉seen∧es[j]? = some e∧s={ s' with env:=jd (T.iw f id) ((mo,.val (.bool true))::(nx,.val (.dG [.bool true,e.1,e.2]))::s'.env),heap:=s'.heap.set b (.cO r n (j::seen)) })) ?_ (fun s hs=>?_) (fun i s h=>by cases h.1) (fun s h=>by cases h.1)
 .exact aK.next hn hd Zj h2 h3 h4 e2 e3 e4 hl (fun ho=>⟨rfl,.inl ⟨ho,rfl⟩⟩) (fun j e hj he=>⟨rfl,.inr ⟨j,e,hj,he,rfl⟩⟩)
 .obtain⟨_,⟨h5,rfl⟩|⟨j,e,hj,he,rfl⟩⟩:=hs
  .obtain⟨m1,q1⟩:=e5 h5;refine aK.seq (R:=fun e s=>e=.exit i0∧s={ s' with env:=jd (T.iw f id) ((mo,.val (.bool false))::(nx,.val (.dG [.bool false]))::s'.env) }) (aK.cond (t:=false) m1 (ext ⟨rfl,rfl⟩)) (fun s h=>by cases h.1) (fun i s h=>?_) (fun s h=>by cases h.1);obtain⟨h7,rfl⟩:=h;cases h7;dsimp only;rw[a0g rfl];exact⟨rfl,q1⟩
  .obtain⟨m2,hx⟩:=e6 j e hj he;have hjn:j<n:=by rw[<-hl];exact(a01.1 he).1
   refine aK.seq (R:=fun e1 s=>e1=.norm∧s={ s' with env:=jd (T.iw f id) ((mo,.val (.bool true))::(nx,.val (.dG [.bool true,e.1,e.2]))::s'.env),heap:=s'.heap.set b (.cO r n (j::seen)) }) (aK.cond (t:=true) m2 (skp ⟨rfl,rfl⟩)) (fun s h=>?_) (fun i s h=>by cases h.1) (fun s h=>by cases h.1);obtain⟨_,rfl⟩:=h;refine aK.block ?_;refine hx.mono fun e s h=>?_;obtain⟨h1|h1,h2⟩:=h
   .subst h1;exact⟨_,a1d hjn hj,j::seen,h2,rfl⟩
   .subst h1;dsimp only;rw[a0g rfl];exact⟨_,a1d hjn hj,j::seen,h2,rfl⟩
theorem UD(hX:bP X P){x:Code}{i0 i1 id it nx mo b r n:Nat}{ops:Array Oper}{draw:Bool}{s0:aS X.Γ}{es:List (PV X.Γ×PV X.Γ)}{Q:aS X.Γ->Prop}(I:List Nat->aS X.Γ->Prop)
  (hnx:UC ops it nx mo=true) (hd:nx<nt) (Zj:mo<nt) (hl:es.length=n) (hL:n<L) (hI:I [] s0)
  (hinv:∀seen s,I seen s->∃s',gJ X (T.eX f (dQ (.seq (.region id ops draw) (.seq (.cond (.tmp mo) .skip (.exit i0)) (.block i1 x))))) s=s'∧zM s'.env (.tmp it)=some (.iter b)∧s'.heap[b]? = some (.cO r n seen)∧JY X s'.heap r=some es ∧
   ((∀j,j<n->j∈seen)->zM (jd (T.iw f id) ((mo,.val (.bool false))::(nx,.val (.dG [.bool false]))::s'.env)) (.tmp mo)=some (.bool false)∧Q { s' with env:=jd (T.iw f id) ((mo,.val (.bool false))::(nx,.val (.dG [.bool false]))::s'.env) }) ∧
   ∀j e,j∉seen->es[j]? = some e->zM (jd (T.iw f id) ((mo,.val (.bool true))::(nx,.val (.dG [.bool true,e.1,e.2]))::s'.env)) (.tmp mo)=some (.bool true) ∧
    aK X P T call cd L f nt B x { s' with env:=jd (T.iw f id) ((mo,.val (.bool true))::(nx,.val (.dG [.bool true,e.1,e.2]))::s'.env),heap:=s'.heap.set b (.cO r n (j::seen)) } fun e s=>(e=.norm∨e=.exit i1)∧I (j::seen) s) :
  aK X P T call cd L f nt B (.block i0 (.loop (.seq (.region id ops draw) (.seq (.cond (.tmp mo) .skip (.exit i0)) (.block i1 x))))) s0 fun e s=>e=.norm∧Q s:=
 OO hX I hnx hd Zj hl hL hI fun seen s hi=>let ⟨s',e1,h⟩:=hinv seen s hi;⟨[],s',congrArg some e1,h⟩
end
theorem Good.a1e{X:kJ}{P:LI1}{T:qx}{L:Nat}{α β:Type}{f:FuncId}{a:Ut X P α}{r:Ar X P β}{S:α->β}{pre:α->List Prop}{fO WZ a6p aiG:eY X.Γ}(d:Nat)(hg:Good X P T L fO)(hg2:Good X P T L WZ)(hg3:Good X P T L a6p)(hg4:Good X P T L aiG)
  (hf:∀n,d<=n->(∀m,n-d<=m->jD X P (kR P T L m) fO)->(∀m,n-d<=m->jD X P (kR P T L m) WZ)->(∀m,n-d<=m->jD X P (kR P T L m) a6p)->(∀m,n-d<=m->jD X P (kR P T L m) aiG)->∀x,(∀p∈pre x,p)->nY X P (kR P T L (n+1)) f (a.put x) (r.put (S x)) []):Good X P T L (bT f a r S pre fO):=by
 obtain⟨N2,hN2⟩:=hg2;obtain⟨N3,hN3⟩:=hg3;obtain⟨N4,hN4⟩:=hg4;obtain⟨M,hM⟩:=hg;refine⟨M+N2+N3+N4+d+1,fun n hn=>?_⟩;obtain⟨k,rfl⟩:∃k,n=k+1:=⟨n-1,by omega⟩;intro g vs v ext ps ho hp;unfold bT at ho;split at ho
 .rename_i e;have e:=a8K e;subst e;split at ho
  .rename_i x hx;cases ho;intro A h first args cap Ir hv
   exact hf k (by omega) (fun m hm=>hM m (by omega)) (fun m hm=>hN2 m (by omega)) (fun m hm=>hN3 m (by omega)) (fun m hm=>hN4 m (by omega)) x hp A h first args cap Ir (a.ok hx hv)
  .exact hM (k+1) (by omega) g vs v ext ps ho hp
 .exact hM (k+1) (by omega) g vs v ext ps ho hp
section
variable {X:kJ} {P:LI1}
theorem dD.lend(hX:bP X P){call:aY}{f:FuncId}{cs ws rest xs:List (PV X.Γ)}{H:List (PB X.Γ)}{es:List (PV X.Γ×PV X.Γ)}(is:List Nat)(hs:dD X P call (.fn f [] []) (.agg (ws++rest)::xs) (bf is H) (.map H.length) (bf is H++[.map es]))
  (hv:views H cs=some ws) (ho:∀i,i∈kP.jX cs->i∈is) (hg:bf is H=List.replicate H.length .gone):dD X P call (.fn f [] []) (.agg (cs++rest)::xs) H (.map H.length) (H++[.map es]):=by
 intro A m h tf qU hr hf hx;obtain⟨x0,r,rfl,v0,vr⟩:=hx.inv;cases v0 with
 |gone hi _ _=>simp[bn]at hi
 |agg a1 a2=>
  rename_i cs';have ha:bU X P (AA A m) m h (cs++rest) cs':=⟨a1,a2⟩;obtain⟨c1,c2,rfl,b1,b2⟩:=DY ha;have hF:=iE (h:=h) is m;have w1:=(l9 (m':=cu is m) hX hr b1 hv ho).mono fun b hb=>FA.gone hr hb;have w2:=b2.step hF.1 hF.2;have w3:=w1.app w2;have Zg:=hr.bf is;obtain⟨w,h',Vy,m1,k1,k2,k3,k4,k5,k6⟩:=hs A (cu is m) h tf (.agg (c1++c2)::r) Zg (hf.step hF.1 hF.2) (.cons (.agg w3.1 w3.2) (vr.step hF.1 hF.2));have e0:∀b,b∉bg (cu is m):=fun b hb=>by
   unfold bg at hb;obtain⟨mb,h1,h2⟩:=a6G.1 hb;obtain⟨i,hi,e⟩:=a8k h1;have JO:i<H.length:=by have:=Zg.len;rw[nN]at this;omega
   obtain⟨mb2,g1,g2⟩:=Zg.at_ i .gone (by rw[hg,afM,a0g JO]);rw[a0a hi,e]at g1;cases g1;cases mb with
   |gone=>cases h2
   |_=>exact g2.elim
  obtain⟨mb,g1,g2⟩:=k2.at_ H.length (.map es) (by rw[a0S (by rw[nN];exact a0U _),nN];simp);cases mb with
  |fV c=>
   have hc:c∈bg m1:=a6G.2 ⟨_,a4m g1,rfl⟩;have JR:h.length<=c:=(k4.new c hc).resolve_left (e0 c);have xM:bg (m++[.fV c])=bg m++[c]:=by unfold bg;rw[List.filterMap_append];rfl
   have hF2:Fr m h (m++[.fV c]) h':=⟨k4.len,fun b hb _=>k4.same b hb (e0 b),fun b hb=>by
    rw[xM]at hb;rcases a3k.1 hb with hb|hb
    .exact .inl hb
    .rw[a2p.1 hb];exact .inr JR,k4.grow⟩
   have hU2:Up m (m++[.fV c]):=fun i mb hi=>.inl (by rw[a0b (a01.1 hi).1];exact hi);have hm:(m++[MB.fV c])[H.length]? = some (.fV c):=by rw[<-hr.len];simp
   refine⟨w,h',Vy,m++[.fV c],k1,⟨by simp[hr.len],fun i b hi=>?_,?_,k2.up,fun b hb=>?_⟩,?_,hF2,hU2,fun b hb=>absurd (k6 b hb) (e0 b)⟩
   .by_cases aT:i<H.length
    .rw[a0b aT]at hi;obtain⟨mb,q1,q2⟩:=hr.at_ i b hi;exact⟨mb,by rw[a0b (by rw[hr.len];exact aT)];exact q1,q2.step hF2 hU2 fun d hd=>k4.same d (BR.has q2 hd) (e0 d)⟩
    .have JO:i=H.length:=by have:=(a01.1 hi).1;rw[a1I,a3P]at this;omega
     subst JO;rw[a0S (a0U _)]at hi;simp at hi;subst hi;exact⟨_,hm,g2⟩
   .rw[xM];refine a8H.2 ⟨hr.nodup,by simp,fun a ha b hb=>?_⟩;rw[a2p.1 hb];have:=hr.inb ha;omega
   .rw[xM]at hb;rcases a3k.1 hb with hb|hb
    .exact hr.CQ b hb
    .rw[a2p.1 hb];exact k2.CQ c hc
   .cases k3 with
    |map e=>rw[g1]at e;cases e;exact .map hm
    |gone hi e o=>simp only[bn,a00]at hi;subst hi;rw[g1]at e;cases e
  |_=>exact g2.elim
variable {A:Nat->Prop} {m m':List MB} {H:List (PB X.Γ)} {h:List HB}
end
section
variable {X:kJ} {P:LI1}
theorem dD.cell1(hX:bP X P){call:aY}{fv v:PV X.Γ}{RG ws1 cs WC ws2:List (PV X.Γ)}{H H1:List (PB X.Γ)}{i e sz:Nat}{row:X.Γ e}(is:List Nat)(hi:H[i]? = some (.cells cs))(hz:dw P e=some sz)(h0:0<sz)(hl:cs.length=sz)(Zg:(X.enc e row).length=sz)
  (hs:dD X P call fv [.agg (ws1++(.dB e [row] false::ws2))] (bf (i::is) H) v H1) (v1:views H RG=some ws1) (v2:views H cs=some (X.enc e row)) (v3:views H WC=some ws2)
  (o1:∀j,j∈kP.jX RG->j∈i::is) (o2:∀j,j∈kP.jX cs->j∈i::is) (o3:∀j,j∈kP.jX WC->j∈i::is):dD X P call fv [.agg (RG++(.aP i 0 1 1 sz true::WC))] H v H1:=by
 intro A m h tf qU hr hf hx;obtain⟨x0,r,rfl,v0,vr⟩:=hx.inv;cases v0 with
 |gone hi _ _=>simp[bn]at hi
 |agg a1 a2=>
  rename_i cs';have ha:bU X P (AA A m) m h (RG++(.aP i 0 1 1 sz true::WC)) cs':=⟨a1,a2⟩;obtain⟨c1,c2,rfl,b1,b2⟩:=DY ha;obtain⟨y,c3,rfl,b3,b4⟩:=b2.inv;obtain⟨mb,g1,g2⟩:=hr.at_ i _ hi;cases mb with
  |fV b=>
   obtain⟨ts,g3,g4⟩:=g2;have hy:y=.aP b 0 1 1 sz true:=by
    cases b3 with
    |aP q=>rw[g1]at q;cases q;rfl
    |gone hi q _=>simp only[bn,a00]at hi;subst hi;rw[g1]at q;cases q
   subst hy;have hF:=iE (h:=h) (i::is) m;have w1:=(l9 (m':=cu (i::is) m) hX hr b1 v1 o1).mono fun b hb=>FA.gone hr hb;have w3:=(l9 (m':=cu (i::is) m) hX hr b4 v3 o3).mono fun b hb=>FA.gone hr hb;have w2:=l9 (m':=cu (i::is) m) hX hr g4 v2 o2;have hb:FA A m (i::is) b:=.inr ⟨i,_,a2O,g1,rfl⟩;have q2:VR X P (FA A m (i::is)) (cu (i::is) m) h (.dB e [row] false) (.aP b 0 [row].length 1 sz true):=.dB (cs:=ts) hb (by unfold aX;rw[g3]) (fun _=>wB g3 (by simp)) hz h0 (by rw[<-g4.1,hl];simp) (a0U _) (fun e=>by cases e)
    (fun j a hj=>by
     cases j with
     |zero=>simp only[a2r,a00]at hj;subst hj;exact Zg
     |succ j=>simp at hj) (fun j a q c w hj hq hw=>by
     cases j with
     |zero=>simp only[a2r,a00]at hj;subst hj;exact w2.2 q c w hq (by simpa using hw)
     |succ j=>simp at hj)
   have w4:=w1.app (.cons (q2.mono fun b hb=>FA.gone hr hb) w3);obtain⟨w,h',Vy,m1,k1,k2,k3,k4,k5,k6⟩:=hs A (cu (i::is) m) h tf (.agg (c1++(.aP b 0 1 1 sz true::c3))::r) (hr.bf (i::is)) (hf.step hF.1 hF.2) (.cons (.agg w4.1 w4.2) (vr.step hF.1 hF.2));refine⟨w,h',Vy,m1,k1,k2,k3,hF.1.trans k4,hF.2.trans k5,fun b hb=>?_⟩;rcases hF.1.new b (k6 b hb)with g|g
   .exact g
   .have:=(hr.bf (i::is)).inb (k6 b hb);omega
  |_=>exact g2.elim
end
end Pv
