/- Part 4 of a proof: ApplyMeets -/
import Derived.Shelf.Spec.SlicesInsert
import Derived.Shelf.Spec.SlicesInsertGrow
import Derived.Shelf.Sort.Plain
import Derived.Shelf.Slices.In.SortNone
import Derived.Test.YtmobpoiejckagaaGreatP02
set_option linter.constructorNameAsVariable false
set_option linter.unusedVariables false
set_option linter.unusedSimpArgs false
set_option linter.unusedSectionVars false
open Go.IntKind (i64)
noncomputable section
namespace Pv
open Go Tw
inductive IRs:List MB->List HB->List PI->List zl->Prop where
 |nil {m h}:IRs m h [] []
 |cons {m h p t m1 h1 ps ts}:(bn m).Nodup->(∀b,b∈bn m->b<h.length)->IR m h p t->Fr m h m1 h1->Up m m1->(p.mv=false->∀(i:Nat),i<m.length->m1[i]? = some .gone->m[i]? = some .gone)->IRs m1 h1 ps ts->IRs m h (p::ps) (t::ts)
theorem a7u{fl b c ws}(h:c∈FB fl b ws):c∈ws\/(c=b/\b<fl):=by
 unfold FB at h;split at h
 .rename_i hl;split at h
  .exact .inl h
  rcases a1B.1 h with h|h
  .exact .inr ⟨h,hl⟩
  exact .inl h
 exact .inl h
theorem wV{fl c}:∀{ks} {ws},c∈kT fl ks ws->c∈ws\/(.h c∈ks/\c<fl)
 | [],ws,h=>.inl h
 |.h b::ks,ws,h=>by
  rcases wV (ks:=ks) h with h|⟨h1,h2⟩
  .rcases a7u h with h|⟨rfl,h⟩
   .exact .inl h
   exact .inr ⟨a3G,h⟩
  exact .inr ⟨a3A _ h1,h2⟩
 |.l _::ks,ws,h=>by
  rcases wV (ks:=ks) h with h|⟨h1,h2⟩
  .exact .inl h
  exact .inr ⟨a3A _ h1,h2⟩
theorem Y1{m m1}(hU:Up m m1)(hg:∀(i),i<m.length->m1[i]? = some .gone->m[i]? = some .gone){i b}(h:H6 m i b):H6 m1 i b:=by
 obtain⟨mb,h1,h2⟩:=h;rcases hU i mb h1 with e|e
 .exact⟨mb,e,h2⟩
 have:=hg i (a0u.1 h1).1 e;rw[h1]at this;cases this;cases h2
theorem E5{m}(hn:(bn m).Nodup){i j b}(h1:H6 m i b)(h2:H6 m j b):i=j:=by obtain⟨_,a1,a2⟩:=h1;obtain⟨_,b1,b2⟩:=h2;exact jh hn a1 b1 a2 b2
theorem ab2{ma mb ha hb pa pb ta tb}(na:(bn ma).Nodup)(nb:(bn mb).Nodup)(la:∀b,b∈bn ma->b<ha.length)(hab:Fr ma ha mb hb)(A:IR ma ha pa ta)(B:IR mb hb pb tb)(hc:a2c pa pb=true)(RI:(∀i b,H6 ma i b->H6 mb i b)\/pa.hp=false\/pb.hp=false):calm ta tb=true:=by
 simp only[a2c,a2o]at hc;obtain⟨c1,c2⟩:=hc;simp only[a0q,a2o,a5z,a9y,aa4]at c1 c2;obtain⟨c1,c1w⟩:=c1;obtain⟨c2,c2w⟩:=c2;simp only[calm,a2o];constructor
 .simp only[Ox,a5z,a2o,a9y,agv];intro k hk;cases k with
  |l j=>
   have:=c1 _ (A.wl j hk);simp only[a5R,a3k]at this ⊢;exact⟨⟨.inr rfl,fun h=>this.1.1.2 (B.tl j h)⟩,fun h=>this.1.2 (B.wl j h)⟩
  |h c=>
   rcases RI with a7v|RI|RI
   .
    have hca:c∈bn ma:=by
     rcases A.wh c hk with⟨i,_,h2⟩|⟨_,h2⟩
     .exact a0t h2
     .exact h2
    obtain⟨i0,hi0⟩:=lF hca;have hi1:=a7v _ _ hi0;have hcb:c∈bn mb:=a0t hi1;rcases A.wh c hk with⟨i,h1,h2⟩|⟨h1,h2⟩
    .have hii:=E5 na hi0 h2;subst hii;have OO:=c1 _ h1;simp only[a5R,a3k,Key.isH,aiz]at OO;refine⟨⟨.inl ?_,?_⟩,?_⟩
     .cases hq:tb.all with
      |false=>rfl
      |true=>rw[B.all hq]at OO;simp at OO
     .simp only[a5R,a3k];intro hq;rcases(B.th c hq).1 with⟨j,g1,g2⟩|g1
      .have:=E5 nb hi1 g2;subst this;exact OO.1.1.2 g1
      .exact g1 hcb
     .simp only[a5R,a3k];intro hq;rcases B.wh c hq with⟨j,g1,g2⟩|⟨g1,g2⟩
      .have:=E5 nb hi1 g2;subst this;exact OO.1.2 g1
      .rw[g1]at OO;simp at OO
    .rw[h1]at c1w;simp only[aff,false_or]at c1w;obtain⟨⟨⟨w1,w2⟩,w3⟩,w4⟩:=c1w;refine⟨⟨.inl ?_,?_⟩,?_⟩
     .cases hq:tb.all with
      |false=>rfl
      |true=>rw[B.all hq]at w1;cases w1
     .simp only[a5R,a3k];intro hq;rcases(B.th c hq).1 with⟨j,g1,g2⟩|g1
      .have:=w3 _ g1;simp[Key.isH]at this
      .exact g1 hcb
     .simp only[a5R,a3k];intro hq;rcases B.wh c hq with⟨j,g1,g2⟩|⟨g1,g2⟩
      .have:=w4 _ g1;simp[Key.isH]at this
      .rw[g1]at w2;cases w2
   .exact absurd hk ((A.hp RI).2.2 c)
   .obtain⟨g1,g2,g3⟩:=B.hp RI;refine⟨⟨.inl g1,?_⟩,?_⟩<;>simp only[a5R,a3k]
    .exact g2 c
    .exact g3 c
 .simp only[Ox,a5z,a2o,a9y,agv];intro k hk;cases k with
  |l j=>
   have:=c2 _ (B.wl j hk);simp only[a5R,a3k]at this ⊢;exact⟨⟨.inr rfl,fun h=>this.1.1.2 (A.tl j h)⟩,fun h=>this.1.2 (A.wl j h)⟩
  |h c=>
   rcases RI with a7v|RI|RI
   .have hcb:c∈bn mb:=by
     rcases B.wh c hk with⟨i,_,h2⟩|⟨_,h2⟩
     .exact a0t h2
     .exact h2
    obtain⟨j0,hj0⟩:=lF hcb;have back:c<ha.length->c∈bn ma:=fun aS=>by
     rcases hab.new c hcb with h1|h1
     .exact h1
     .omega
    have akh:∀i,H6 ma i c->i=j0:=fun i hi=>E5 nb (a7v _ _ hi) hj0;rcases B.wh c hk with⟨j,h1,h2⟩|⟨h1,h2⟩
    .have hii:=E5 nb hj0 h2;subst hii;have OO:=c2 _ h1;simp only[a5R,a3k,Key.isH,aiz]at OO;refine⟨⟨.inl ?_,?_⟩,?_⟩
     .cases hq:ta.all with
      |false=>rfl
      |true=>rw[A.all hq]at OO;simp at OO
     .simp only[a5R,a3k];intro hq;obtain⟨g0,glt⟩:=A.th c hq;rcases g0 with⟨i,g1,g2⟩|g1
      .have:=akh i g2;subst this;exact OO.1.1.2 g1
      .exact g1 (back glt)
     .simp only[a5R,a3k];intro hq;rcases A.wh c hq with⟨i,g1,g2⟩|⟨g1,g2⟩
      .have:=akh i g2;subst this;exact OO.1.2 g1
      .rw[g1]at OO;simp at OO
    .rw[h1]at c2w;simp only[aff,false_or]at c2w;obtain⟨⟨⟨w1,w2⟩,w3⟩,w4⟩:=c2w;refine⟨⟨.inl ?_,?_⟩,?_⟩
     .cases hq:ta.all with
      |false=>rfl
      |true=>rw[A.all hq]at w1;cases w1
     .simp only[a5R,a3k];intro hq;obtain⟨g0,glt⟩:=A.th c hq;rcases g0 with⟨i,g1,g2⟩|g1
      .have:=w3 _ g1;simp[Key.isH]at this
      .exact g1 (back glt)
     .simp only[a5R,a3k];intro hq;rcases A.wh c hq with⟨i,g1,g2⟩|⟨g1,g2⟩
      .have:=w4 _ g1;simp[Key.isH]at this
      .rw[g1]at w2;cases w2
   .obtain⟨g1,g2,g3⟩:=A.hp RI;refine⟨⟨.inl g1,?_⟩,?_⟩<;>simp only[a5R,a3k]
    .exact g2 c
    .exact g3 c
   .exact absurd hk ((B.hp RI).2.2 c)
theorem a7w:∀{ps} {ts} {m} {h},IRs m h ps ts->∀{j:Nat} {p},ps[j]? = some p->∃t mj hj,ts[j]? = some t/\IR mj hj p t/\(bn mj).Nodup/\(∀b,b∈bn mj->b<hj.length)/\Fr m h mj hj/\((∀(i) q,i<j->ps[i]? = some q->q.mv=false)->∀i b,H6 m i b->H6 mj i b)
 |_,_,_,_,.nil,j,p,hj=>by simp at hj
 |_,_,m,h,.cons n1 n2 i1 f1 u1 g1 rest,j,p,hj=>by
  cases j with
  |zero=>
   simp only[a2I,a08]at hj;subst hj;exact⟨_,m,h,rfl,i1,n1,n2,.refl,fun _ i b hb=>hb⟩
  |succ j=>
   obtain⟨t,mj,EG,e1,e2,e3,e4,e5,e6⟩:=a7w rest (j:=j) (by simpa using hj);refine⟨t,mj,EG,by simpa using e1,e2,e3,e4,f1.trans e5,fun hq i b hb=>e6 (fun i q hl hi=>hq (i+1) q (by omega) (by simpa using hi)) i b ?_⟩;exact Y1 u1 (g1 (hq 0 _ (by omega) rfl)) hb
theorem a2q:∀{ps} {ts} {m} {h},IRs m h ps ts->∀{i j:Nat} {p q},i<j->ps[i]? = some p->ps[j]? = some q->a2c p q=true->((∀(k) q,i<=k->k<j->ps[k]? = some q->q.mv=false)\/p.hp=false\/q.hp=false)->∃a b,ts[i]? = some a/\ts[j]? = some b/\calm a b=true
 |_,_,_,_,.nil,i,j,p,q,_,hi,_,_,_=>by simp at hi
 |_,_,m,h,.cons n1 n2 i1 f1 u1 g1 rest,i,j,p,q,Bg,hi,hj,hc,RI=>by
  cases j with
  |zero=>omega
  |succ j=>
   cases i with
   |zero=>
    simp only[a2I,a08]at hi;subst hi;obtain⟨t,mj,EG,e1,e2,e3,e4,e5,e6⟩:=a7w rest (j:=j) (by simpa using hj);refine⟨_,t,rfl,by simpa using e1,ab2 n1 e3 n2 (f1.trans e5) i1 e2 hc ?_⟩;refine RI.imp_left fun hq i b hb=>e6 (fun i q hl hi=>hq (i+1) q (by omega) (by omega) (by simpa using hi)) i b (Y1 u1 (g1 (hq 0 _ (by omega) (by omega) rfl)) hb)
   |succ i=>
    obtain⟨a,b,e1,e2,e3⟩:=a2q rest (i:=i) (j:=j) (by omega) (by simpa using hi) (by simpa using hj) hc (RI.imp_left fun hq k q h1 h2 hi=>hq (k+1) q (by omega) (by omega) (by simpa using hi));exact⟨a,b,by simpa using e1,by simpa using e2,e3⟩
theorem a7x{ps ts m h}(hI:IRs m h ps ts):∀{prs},(∀q∈prs,q.1<q.2)->Vu ps prs=true->CB ts prs=true
 | [],_,_=>rfl
 |(i,j)::r,aS,hd=>by
  simp only[Vu,a2o]at hd;obtain⟨h1,h2⟩:=hd;split at h1
  .rename_i a b ha hb;simp only[a2o,aa4,a9y]at h1;obtain⟨x,y,e1,e2,e3⟩:=a2q hI (aS _ a3G) ha hb h1.1 (by
    rcases h1.2 with(h3|h3)|h3
    .exact .inr (.inl h3)
    .exact .inr (.inr h3)
    left;intro k q SG kN hk;cases hq:q.mv with
    |false=>rfl
    |true=>
     refine absurd (agu.2 ⟨q,a5E (i:=k-i) ?_,hq⟩) (by rw[h3];simp);rw[a5f,a15 (by omega),a5u,<-hk];congr 1;omega)
   simp only[CB,e1,e2,e3,ady];exact a7x hI (fun q hq=>aS q (a3A _ hq)) h2
  cases h1
theorem ag5{ops}:∀q∈nK ops,q.1<q.2:=by intro q hq;unfold nK at hq;have:=(a8f.1 hq).1;unfold oU at this;simp only[aeS,a1u,a8f,a5y]at this;obtain⟨j,_,i,⟨hi,_⟩,rfl⟩:=this;exact hi
theorem TY{ts}(hw:∀t∈ts,t.ws=[]):∀{prs},(∀q∈prs,q.1<ts.length/\q.2<ts.length)->CB ts prs=true
 | [],_=>rfl
 |(i,j)::r,hl=>by obtain⟨h1,h2⟩:=hl _ a3G;simp only[CB,a0A h1,a0A h2,a2o];refine⟨?_,TY hw fun q hq=>hl q (a3A _ hq)⟩;simp[calm,Ox,hw _ (a5B h1),hw _ (a5B h2)]
theorem ag6{ops}:∀q∈nK ops,q.1<ops.length/\q.2<ops.length:=by intro q hq;unfold nK at hq;have:=(a8f.1 hq).1;unfold oU at this;simp only[aeS,a1u,a8f,a5y]at this;obtain⟨j,hj,i,⟨hi,_⟩,rfl⟩:=this;exact⟨by simp only;omega,hj⟩
section
variable{X:mX}{P:LI1}{A W:Nat->Prop}{m m':List MB}{h:List HB}
structure SR(X:mX)(P:LI1)(A W:Nat->Prop)(fl:Nat)(m:List MB)(ps:bJ X.Γ)(ts:St):Prop where
 st:wu X P A m ps ts
 own:∀b,b∈bn m->W b\/fl<=b
 ws:∀b,b∈ts.ws->W b
 fl:fl<=ts.heap.length
def O5(B:Nat)(m m1:List MB):Prop:=∀(i:Nat) mb,i<B->m[i]? = some mb->m1[i]? = some mb\/m1[i]? = some .gone
theorem Up.b{B m m1}(h:Up m m1):O5 B m m1:=fun i mb _ hi=>h i mb hi
theorem O5.trans{B m m1 m2}(a:O5 B m m1)(b:O5 B m1 m2):O5 B m m2:=fun i mb hB hi=>by
 rcases a i mb hB hi with h|h
 .exact b i mb hB h
 .rcases b i _ hB h with h|h<;>exact .inr h
theorem O5.refl{B m}:O5 B m m:=fun _ _ _ h=>.inl h
def E8(X:mX)(P:LI1)(B:Nat)(ps ps1:bJ X.Γ):Prop:=
 ∀(A W:Nat->Prop) (fl:Nat) (m:List MB) (ts:St),SR X P A W fl m ps ts->∃m1,SR X P A W fl m1 ps1 ts/\Fr m ts.heap m1 ts.heap/\O5 B m m1
theorem E8.refl{B ps}:E8 X P B ps ps:=fun _ _ _ m _ hS=>⟨m,hS,.refl,.refl⟩
theorem E8.trans{B a b c}(h1:E8 X P B a b)(h2:E8 X P B b c):E8 X P B a c:=fun A W fl m ts hS=>by obtain⟨m1,g1,g2,g3⟩:=h1 A W fl m ts hS;obtain⟨m2,g4,g5,g6⟩:=h2 A W fl m1 ts g1;exact⟨m2,g4,g2.trans g5,g3.trans g6⟩
theorem ab3{env env'}(he:kR X P A m h env env'):kR X P A m h (aaH env) env':=by
 induction he with
 |nil=>exact .nil
 |cons h1 _ ih=>
  rename_i k v x r r' _;cases v with
  |val v=>obtain⟨y,rfl,h2⟩:=gV h1;exact .cons (oK (II h2)) ih
  |_=>exact .cons h1 ih
theorem ab4{t i}(hi:m[i]? = some (.dF (.nil .aP))):∀{env} {env':List (Nat×EV)} {r:List (Nat×PE X.Γ)},kR X P A m h env env'->FM t i env=some r->kR X P A m h r env':=by
 intro env env' r he
 induction he generalizing r with
 |nil=>intro h;cases h
 |cons h1 h2 ih=>
  rename_i k v x q q';intro hn;simp only[FM]at hn;split at hn
  .split at hn
   .cases hn;obtain⟨y,rfl,h3⟩:=gV h1;have:y=.nil .aP:=by
     cases h3 with
     |nil=>rfl
     |gone hi _ _=>simp[bF]at hi
    subst this;exact .cons (oK (.own hi rfl)) h2
   cases hn
  simp only[a0x]at hn;obtain⟨q2,h3,rfl⟩:=hn;exact .cons h1 (ih h3)
theorem a2r{i off}(hi:m[i]? = some (.dF (.nil .aP))){cs r xs}(hv:bZ X P A m h cs xs)(hn:aaI off i cs=some r):bZ X P A m h r xs:=by
 unfold aaI at hn;split at hn
 .rename_i hc;cases hn;refine⟨by rw[a5A,hv.1],fun j a b ha hb=>?_⟩;by_cases e:off=j
  .subst e;rw[a5v,hc]at ha;cases ha;have:b=.nil .aP:=by
    cases hv.2 _ _ _ hc hb with
    |nil=>rfl
    |gone hi _ _=>simp[bF]at hi
   subst this;exact .own hi rfl
  rw[a1w e]at ha;exact hv.2 j a b ha hb
 cases hn
theorem SR.VF{fl ps ts}(hS:SR X P A W fl m ps ts)(e):∃m1,HR X P A m1 (ps.heap++[.list false false e []]) ts.heap/\Fr m ts.heap m1 ts.heap/\Up m m1/\m1[ps.heap.length]? = some (.dF (.nil .aP))/\(∀b,b∈bn m1->b∈bn m):=by obtain⟨h1,h2,h3⟩:=hS.st.heap.adt (pb:=.list false false e []) (mb:=.dF (.nil .aP)) rfl LR.nil;refine⟨_,h1,h2,h3,by rw[<-hS.st.heap.len];simp,fun b hb=>?_⟩;rw[jB,a3E,lD]at hb;simpa[MB.own]using hb
theorem a7y(hX:bT X P){H}(hr:HR X P A m H h){i v w x}(hv:VR X P (AA A m) m h v x)(hw:fzV H i v=some w):VR X P (AA A (cu [i] m)) (cu [i] m) h w x:=by
 unfold fzV at hw;split at hw
 .cases hw;exact hv.step (iU (h:=h) [i] m).1 (iU (h:=h) [i] m).2
 split at hw
 .rename_i ha;refine(VB (m':=cu [i] m) hX hr hv hw (is:=[i]) fun j hj=>?_).mono fun b hb=>FA.gone hr hb;have:=a5z.1 ha j hj;rw[a9Z this];exact a2m.2 rfl
 cases hw
theorem a2s(hX:bT X P){H}(hr:HR X P A m H h){i}:∀{v w} {x:List TV},bZ X P (AA A m) m h v x->a6U H i v=some w->bZ X P (AA A (cu [i] m)) (cu [i] m) h w x
 | [],w,x,hv,hw=>by cases hw;rw[hv.inv0];exact .nil
 |v::vs,w,x,hv,hw=>by
  obtain⟨y,r,rfl,h1,h2⟩:=hv.inv;simp only[a6U]at hw;split at hw
  .rename_i w1 ws e1 e2;cases hw;exact .cons (a7y hX hr h1 e1) (a2s hX hr h2 e2)
  cases hw
theorem ag7(hX:bT X P){H}(hr:HR X P A m H h){i v x}(hv:kR X P (AA A m) m h v x):∀{w},fzE H i v=some w->kR X P (AA A (cu [i] m)) (cu [i] m) h w x:=by
 induction hv with
 |nil=>intro w hw;cases hw;exact .nil
 |cons h1 h2 ih=>
  rename_i k v x q q';intro w hw;cases v with
  |val v=>
   simp only[fzE]at hw;split at hw
   .rename_i w1 ws e1 e2;cases hw;obtain⟨y,rfl,h3⟩:=gV h1;exact .cons (oK (a7y hX hr h3 e1)) (ih e2)
   cases hw
  |loc k o=>
   simp only[fzE,a0x]at hw;obtain⟨ws,e2,rfl⟩:=hw;exact .cons (by cases x<;>exact h1) (ih e2)
  |undef=>
   simp only[fzE,a0x]at hw;obtain⟨ws,e2,rfl⟩:=hw;exact .cons (by cases x<;>exact h1) (ih e2)
  |ent|Fz=>simp[fzE]at hw
theorem a2t{Γ}{H:List (PB Γ)}{i}:∀{l r},fzL H i l=some r->r.length=l.length/\∀(k:Nat) ds,r[k]? = some ds->∃cs,l[k]? = some cs/\a6U H i cs=some ds
 | [],r,h=>by cases h;exact⟨rfl,fun k ds hk=>by simp at hk⟩
 |c::l,r,h=>by
  simp only[fzL]at h;split at h
  .rename_i w ws e1 e2;cases h;obtain⟨q1,q2⟩:=a2t e2;refine⟨by simp[q1],fun k ds hk=>?_⟩;cases k with
   |zero=>simp at hk;subst hk;exact⟨c,rfl,e1⟩
   |succ k=>exact q2 k ds (by simpa using hk)
  cases h
theorem a7z(hX:bT X P){B g ps ps1}(hg:CP B ps g=some ps1):E8 X P B ps ps1:=by
 intro A W fl m ts hS;cases g with
 |lit=>
  simp only[CP,a08]at hg;subst hg;exact⟨m,⟨⟨hS.st.heap,hS.st.llen,hS.st.loc,ab3 hS.st.env⟩,hS.own,hS.ws,hS.fl⟩,.refl,.refl⟩
 |FM t e=>
  simp only[CP,a0x]at hg;obtain⟨env,h1,rfl⟩:=hg;obtain⟨m1,e1,e2,e3,e4,e5⟩:=hS.VF e;exact⟨m1,⟨⟨e1,hS.st.llen,fun k cs hk=>let ⟨cs',q1,q2⟩:=hS.st.loc k cs hk;⟨cs',q1,q2.step e2 e3⟩,ab4 e4 (hS.st.env.step e2 e3) h1⟩,fun b hb=>hS.own b (e5 b hb),hS.ws,hS.fl⟩,e2,e3.b⟩
 |PD k off e=>
  simp only[CP]at hg;split at hg
  .rename_i cs hk;simp only[a0x]at hg;obtain⟨NY,h1,rfl⟩:=hg;obtain⟨m1,e1,e2,e3,e4,e5⟩:=hS.VF e;refine⟨m1,⟨⟨e1,by simp[hS.st.llen],fun j ds hj=>?_,hS.st.env.step e2 e3⟩,fun b hb=>hS.own b (e5 b hb),hS.ws,hS.fl⟩,e2,e3.b⟩;by_cases e0:k=j
   .subst e0;rw[a5v,hk]at hj;cases hj;obtain⟨cs',q1,q2⟩:=hS.st.loc k cs hk;exact⟨cs',q1,a2r e4 (q2.step e2 e3) h1⟩
   rw[a1w e0]at hj;obtain⟨cs',q1,q2⟩:=hS.st.loc j ds hj;exact⟨cs',q1,q2.step e2 e3⟩
  cases hg
 |Vr i off e=>
  simp only[CP]at hg;split at hg
  rotate_left
  .cases hg
  rename_i cs hi;simp only[a0x]at hg;obtain⟨NY,h1,rfl⟩:=hg;obtain⟨m1,e1,e2,e3,e4,e5⟩:=hS.VF e;have aS:i<ps.heap.length:=(a0u.1 hi).1;have wF:HR X P A m1 (ps.heap.set i (.cells NY)++[.list false false e []]) ts.heap:=by
   refine e1.next .refl .refl (by simp[e1.len]) e1.nodup fun j b hj=>?_;by_cases e0:i=j
   .subst e0;right;rw[a0P (by simpa using aS),a5v,hi]at hj;cases hj;obtain⟨mb,q1,q2⟩:=e1.at_ i (.cells cs) (by rw[a0P aS];exact hi);refine⟨mb,q1,?_⟩;cases mb with
    |gW c=>obtain⟨xs,q3,q4⟩:=q2;exact⟨xs,q3,a2r e4 q4 h1⟩
    |_=>exact q2.elim
   left;have:(ps.heap++[PB.list false false e []])[j]? = some b:=by
    rw[<-hj];rcases a4O j ps.heap.length with h9|h9
    .rw[a0P h9,a0P (by simpa using h9),a1w e0]
    rw[a1p h9,a1p (by simpa using h9),a5A]
   obtain⟨mb,q1,_⟩:=e1.at_ j b this;exact⟨mb,this,q1,q1,fun _ _=>rfl⟩
  exact⟨m1,⟨⟨wF,hS.st.llen,fun k cs hk=>let ⟨cs',q1,q2⟩:=hS.st.loc k cs hk;⟨cs',q1,q2.step e2 e3⟩,hS.st.env.step e2 e3⟩,fun b hb=>hS.own b (e5 b hb),hS.ws,hS.fl⟩,e2,e3.b⟩
 |flag i=>
  simp only[CP]at hg;split at hg
  rotate_left
  .cases hg
  rename_i k ex t l hi;cases hg;have hr:=hS.st.heap;refine⟨m,⟨⟨?_,hS.st.llen,hS.st.loc,hS.st.env⟩,hS.own,hS.ws,hS.fl⟩,.refl,.refl⟩;refine hr.next .refl .refl (by simp[hr.len]) hr.nodup fun j b hj=>?_;by_cases e0:i=j
  .subst e0;right;rw[a5v,hi]at hj;cases hj;obtain⟨mb,q1,q2⟩:=hr.at_ i _ hi;refine⟨mb,q1,?_⟩;cases mb with
   |dF y=>
    cases(q2:LR X P _ _ _ _ _ _ _ y)with
    |nil=>exact LR.nil
    |emp p0 p1 p2 p3 p4=>exact LR.emp p0 p1 p2 p3 p4
    |some p1 p2 p3 p4 p5 p6 p7 p8 p9=>exact LR.some p1 p2 p3 p4 p5 (by simp) (by simp) p8 p9
   |_=>exact q2.elim
  left;rw[a1w e0]at hj;obtain⟨mb,q1,_⟩:=hr.at_ j b hj;exact⟨mb,hj,q1,q1,fun _ _=>rfl⟩
 |gc ks=>
  simp only[CP]at hg;split at hg
  rotate_left
  .cases hg
  rename_i hc;simp only[a2o,a1z,a5z]at hc;obtain⟨⟨FZ,jJ⟩,hB⟩:=hc;split at hg
  rotate_left
  .cases hg
  rename_i env loc b1 b2 h1 h2 h3 h4;split at hg
  rotate_left
  .cases hg
  rename_i b3 h5;cases hg;have hr:=hS.st.heap;have hp:=EY h4;have aqD:∀k∈ks,k<m.length:=fun k hk=>by obtain⟨i,hi⟩:=a9z hk;obtain⟨b,q1,_⟩:=hp.2 hi;rw[hr.len];exact(a0u.1 q1).1
  have hBm:B<=m.length:=by rw[hr.len];exact hB
  let m1:List MB:=m.take B++ks.map fun k=>m.getD k .gone
  have ag8:(m.take B).length=B:=by rw[a4c];omega
  have Il:∀i,i<B->m1[i]? = m[i]?:=fun i hi=>by show(m.take B++_)[i]? = _;rw[a0P (by omega),a5f,a15 hi]
  have hhi:∀p k,ks[p]? = some k->m1[p+B]? = m[k]?:=fun p k hp=>by show(m.take B++_)[p+B]? = _;rw[a1p (by omega),ag8,Nat.add_sub_cancel,a5w,hp];have:=aqD k (a5E hp);simp[a2J,this]
  have hg:∀i j,(fun i=>if i<B then some i else(xJ ks i).map (·+B)) i=some j->m1[j]? = m[i]?:=fun i j Bg=>by
   simp only at Bg;split at Bg
   .rename_i hi;cases Bg;exact Il i hi
   simp only[a0x]at Bg;obtain⟨p,hp,rfl⟩:=Bg;exact hhi p i (PZ hp)
  have hold:∀j mb,m1[j]? = some mb->∃i,m[i]? = some mb/\((j<B/\i=j)\/∃p,j=p+B/\ks[p]? = some i):=fun j mb hj=>by
   rcases a4O j B with aS|CY
   .exact⟨j,by rw[<-Il j aS];exact hj,.inl ⟨aS,rfl⟩⟩
   have tX:j-B<ks.length:=by
    have:=(a0u.1 hj).1;have h9:m1.length=B+ks.length:=by show(m.take B++_).length=_;rw[a1v,ag8,a4P]
    omega
   have hp:=a0A tX;have hh:=hhi (j-B) _ hp;rw[show j-B+B=j by omega,hj]at hh;exact⟨_,hh.symm,.inr ⟨j-B,by omega,hp⟩⟩
  have yN:∀b,b∈bn m1->b∈bn m:=fun b hb=>by obtain⟨j,mb,q1,q2⟩:=lF hb;obtain⟨i,q3,_⟩:=hold j mb q1;exact bg q3 q2
  have hA:∀b,AA A m b->AA A m1 b:=fun b hb=>⟨hb.1,fun hm=>hb.2 (yN b hm)⟩;have ag9:(bn m1).Nodup:=jT fun i j c q1 q2=>by
   obtain⟨ma,a1,a2⟩:=q1;obtain⟨mc,c1,c2⟩:=q2;obtain⟨i',a3,a4⟩:=hold i ma a1;obtain⟨j',c3,c4⟩:=hold j mc c1;have e:=jh hr.nodup a3 c3 a2 c2;subst e;rcases a4 with⟨a5,a6⟩|⟨p,a5,a6⟩<;>rcases c4 with⟨c5,c6⟩|⟨q,c5,c6⟩
   .omega
   .have:=FZ _ (a5E c6);omega
   .have:=FZ _ (a5E a6);omega
   have zq:=(a0u.1 a6).1;have:p=q:=(List.getElem?_inj zq jJ).1 (by rw[a6,c6]);omega
  have hFr:Fr m ts.heap m1 ts.heap:=⟨a1j _,fun _ _ _=>rfl,fun b hb=>.inl (yN b hb),fun b cs hc=>⟨cs,hc,a1j _⟩⟩;have CZ:=uI h3;have hb3:=uI h5;have SI:=Q7 h2;refine⟨m1,⟨⟨⟨?_,fun j b hj=>?_,ag9,hr.up,fun b hb=>hr.DX b (yN b hb)⟩,by rw[SI.1];exact hS.st.llen,fun k cs hk=>?_,Q5 hX hg hA hS.st.env h1⟩,fun b hb=>hS.own b (yN b hb),hS.ws,hS.fl⟩,hFr,fun i mb hi hm=>.inl (by rw[Il i hi];exact hm)⟩
  .show(m.take B++_).length=_;rw[a1v,a1v,a4P,CZ.1,hb3.1,hp.1,ag8,a4c];omega
  .have a1M:b1.length=B:=by rw[CZ.1,a4c];omega
   rcases a4O j B with aS|CY
   .rw[a0P (by omega)]at hj;obtain⟨b0,q1,q2⟩:=CZ.2 hj;rw[a5f,a15 aS]at q1;obtain⟨mb,q3,q4⟩:=hr.at_ j b0 q1;exact⟨mb,by rw[Il j aS];exact q3,EX hX hg hA (fun c _ h9 h8=>h9 (yN c h8)) q4 q2⟩
   rw[a1p (by omega),a1M]at hj;obtain⟨b0,q1,q2⟩:=hb3.2 hj;have tX:j-B<ks.length:=by rw[<-hp.1];exact(a0u.1 q1).1
   obtain⟨b9,q5,q6⟩:=hp.2 (a0A tX);rw[q1]at q6;cases q6;obtain⟨mb,q3,q4⟩:=hr.at_ _ _ q5;refine⟨mb,?_,EX hX hg hA (fun c _ h9 h8=>h9 (yN c h8)) q4 q2⟩;have:=hhi (j-B) _ (a0A tX);rw[show j-B+B=j by omega]at this;rw[this];exact q3
  obtain⟨cs0,q1,q2⟩:=SI.2 hk;obtain⟨cs',q3,q4⟩:=hS.st.loc k cs0 q1;exact⟨cs',q3,zY hX hg hA q4 q2⟩
 |fz i=>
  simp only[CP]at hg;split at hg
  .rename_i env loc e1 e2;cases hg;have hr:=hS.st.heap;have hF:=iU (h:=ts.heap) [i] m;obtain⟨q1,q2⟩:=a2t e2;refine⟨cu [i] m,⟨⟨hr.bD [i],by rw[q1];exact hS.st.llen,fun k ds hk=>?_,ag7 hX hr hS.st.env e1⟩,fun b hb=>?_,hS.ws,hS.fl⟩,hF.1,hF.2.b⟩
   .obtain⟨cs,h1,h2⟩:=q2 k ds hk;obtain⟨cs',h3,h4⟩:=hS.st.loc k cs h1;exact⟨cs',h3,a2s hX hr h4 h2⟩
   obtain⟨j,mb,_,h2,h3⟩:=BF hb;exact hS.own b (bg h2 h3)
  cases hg
 |mv i=>
  simp only[CP]at hg;split at hg
  rotate_left
  .cases hg
  rename_i b0 hi;split at hg
  rotate_left
  .cases hg
  rename_i env loc b1 b2 h1 h2 h3 h4;cases hg;have hr:=hS.st.heap;have aS:i<ps.heap.length:=(a0u.1 hi).1;obtain⟨mi,mi1,mi2⟩:=hr.at_ i b0 hi
  let m1:List MB:=m.set i .gone++[mi]
  have qW:(m.set i .gone).length=ps.heap.length:=by rw[a5A,hr.len]
  have Il:∀j,j<ps.heap.length->j≠i->m1[j]? = m[j]?:=fun j hj hn=>by show(m.set i .gone++[mi])[j]? = _;rw[a0P (by omega),a1w (fun e=>hn e.symm)]
  have JF:m1[i]? = some .gone:=by show(m.set i .gone++[mi])[i]? = _;rw[a0P (by omega),a5v,mi1];rfl
  have hhi:m1[ps.heap.length]? = some mi:=by show(m.set i .gone++[mi])[ps.heap.length]? = _;rw[a1p (by omega),qW,afh];rfl
  have hg:∀a b,(fun j=>if j=i then some ps.heap.length else if j<ps.heap.length then some j else none) a=some b->m1[b]? = m[a]?:=fun a b hab=>by
   simp only at hab;split at hab
   .rename_i e;subst e;cases hab;rw[hhi,mi1]
   split at hab
   .rename_i e1 e2;cases hab;exact Il a e2 e1
   cases hab
  have hold:∀j mb,m1[j]? = some mb->mb=.gone\/∃k,m[k]? = some mb/\((j<ps.heap.length/\k=j/\j≠i)\/(j=ps.heap.length/\k=i)):=fun j mb hj=>by
   have tX:j<ps.heap.length+1:=by
    have:=(a0u.1 hj).1;have h9:m1.length=ps.heap.length+1:=by show(m.set i .gone++[mi]).length=_;rw[a1v,qW];rfl
    omega
   by_cases e:j=i
   .subst e;rw[JF]at hj;cases hj;exact .inl rfl
   rcases a4O j ps.heap.length with h5|h5
   .exact .inr ⟨j,by rw[<-Il j h5 e];exact hj,.inl ⟨h5,rfl,e⟩⟩
   have:j=ps.heap.length:=(by omega);subst this;rw[hhi]at hj;cases hj;exact .inr ⟨i,mi1,.inr ⟨rfl,rfl⟩⟩
  have yN:∀b,b∈bn m1->b∈bn m:=fun b hb=>by
   obtain⟨j,mb,q1,q2⟩:=lF hb;rcases hold j mb q1 with rfl|⟨k,q3,_⟩
   .cases q2
   exact bg q3 q2
  have hA:∀b,AA A m b->AA A m1 b:=fun b hb=>⟨hb.1,fun hm=>hb.2 (yN b hm)⟩;have ag9:(bn m1).Nodup:=jT fun j k c q1 q2=>by
   obtain⟨ma,a1,a2⟩:=q1;obtain⟨mc,c1,c2⟩:=q2;rcases hold j ma a1 with rfl|⟨j',a3,a4⟩
   .cases a2
   rcases hold k mc c1 with rfl|⟨k',c3,c4⟩
   .cases c2
   have e:=jh hr.nodup a3 c3 a2 c2;subst e;rcases a4 with⟨a5,a6,a7⟩|⟨a5,a6⟩<;>rcases c4 with⟨c5,c6,c7⟩|⟨c5,c6⟩<;>omega
  have hFr:Fr m ts.heap m1 ts.heap:=⟨a1j _,fun _ _ _=>rfl,fun b hb=>.inl (yN b hb),fun b cs hc=>⟨cs,hc,a1j _⟩⟩;have CZ:=uI h3;have SI:=Q7 h2;have aki:b1.length=ps.heap.length:=by rw[CZ.1,a5A]
  refine⟨m1,⟨⟨⟨?_,fun j b hj=>?_,ag9,hr.up,fun b hb=>hr.DX b (yN b hb)⟩,by rw[SI.1];exact hS.st.llen,fun k cs hk=>?_,Q5 hX hg hA hS.st.env h1⟩,fun b hb=>hS.own b (yN b hb),hS.ws,hS.fl⟩,hFr,fun j mb _ hj=>?_⟩
  .show(m.set i .gone++[mi]).length=_;rw[a1v,a1v,qW,aki];rfl
  .rcases a4O j ps.heap.length with h5|h5
   .rw[a0P (by omega)]at hj;obtain⟨b9,q1,q2⟩:=CZ.2 hj;by_cases e:j=i
    .subst e;rw[a5v,hi]at q1;cases q1;have q2:some (PB.gone (Γ:=X.Γ))=some b:=q2;cases q2;exact⟨.gone,JF,trivial⟩
    rw[a1w (fun e2=>e e2.symm)]at q1;obtain⟨mb,q3,q4⟩:=hr.at_ j b9 q1;exact⟨mb,by rw[Il j h5 e];exact q3,EX hX hg hA (fun c _ h9 h8=>h9 (yN c h8)) q4 q2⟩
   rw[a1p (by omega),aki]at hj;have:j-ps.heap.length=0:=by have:=(a0u.1 hj).1;simp at this;omega
   rw[this]at hj;cases hj;refine⟨mi,?_,EX hX hg hA (fun c _ h9 h8=>h9 (yN c h8)) mi2 h4⟩;rw[show j=ps.heap.length by omega];exact hhi
  .obtain⟨cs0,q1,q2⟩:=SI.2 hk;obtain⟨cs',q3,q4⟩:=hS.st.loc k cs0 q1;exact⟨cs',q3,zY hX hg hA q4 q2⟩
  by_cases e:j=i
  .subst e;exact .inr JF
  have:j<ps.heap.length:=by rw[<-hr.len];exact(a0u.1 hj).1
  exact .inl (by rw[Il j this e];exact hj)
theorem mM(hX:bT X P){B}:∀{gs} {ps ps1},lQ B gs ps=some ps1->E8 X P B ps ps1
 | [],ps,ps1,h=>by simp only[lQ,a08]at h;subst h;exact .refl
 |g::gs,ps,ps1,h=>by
  simp only[lQ]at h;split at h
  .rename_i s hs;exact(a7z hX hs).trans (mM hX h)
  cases h
end
section
variable{X:mX}{P:LI1}{T:vw}{A W:Nat->Prop}{m m':List MB}
variable{call:dM}{gG:gU X.Γ}{ρ:Type}{y:ρ}
theorem SR.D6{fl ps ts}(hS:SR X P A W fl m ps ts){x b}(hb:rO ts.env x=some (.bool b)):SR X P A W fl m (ps.D6 x b) ts:=⟨hS.st.D6 hb,hS.own,hS.ws,hS.fl⟩
theorem wu.put{ps ts}(hR:wu X P A m ps ts){d pe ev}(h:JG X P (AA A m) m ts.heap pe ev):wu X P A m (ps.put d pe) (ts.put d ev):=by
 cases d with
 |none=>exact hR
 |some d=>exact⟨hR.heap,hR.llen,hR.loc,.cons h hR.env⟩
theorem zZ{ts:St}{d ev}:(ts.put d ev).heap=ts.heap/\(ts.put d ev).ws=ts.ws:=by cases d<;>exact⟨rfl,rfl⟩
theorem Y2{H h}(hr:HR X P A m H h){i:Nat}{b}(hb:H[i]? = some b):sG b=true↔m[i]? = some .gone:=by
 obtain⟨mb,h1,h2⟩:=hr.at_ i b hb;cases b with
 |gone=>
  cases mb with
  |gone=>exact⟨fun _=>h1,fun _=>rfl⟩
  |_=>exact h2.elim
 |cells cs=>cases mb with
  |gone=>exact h2.elim
  |_=>simp[sG,h1]
 |aG cs=>cases mb with
  |gone=>exact h2.elim
  |_=>simp[sG,h1]
 |list k ex t l=>cases mb with
  |gone=>exact h2.elim
  |_=>simp[sG,h1]
 |map es=>cases mb with
  |gone=>exact h2.elim
  |_=>simp[sG,h1]
 |mark=>cases mb with
  |gone=>exact h2.elim
  |_=>simp[sG,h1]
 |nP=>cases mb with
  |gone=>exact h2.elim
  |_=>simp[sG,h1]
 |iT=>cases mb with
  |gone=>exact h2.elim
  |_=>simp[sG,h1]
 |dD=>cases mb with
  |gone=>exact h2.elim
  |_=>simp[sG,h1]
 |loop=>cases mb with
  |gone=>exact h2.elim
  |_=>simp[sG,h1]
theorem MG:∀{H H1:List (PB X.Γ)},zX H H1=true->∀{i:Nat} {b},H[i]? = some b->∃b1,H1[i]? = some b1/\sG b=sG b1
 | [],H1,_,i,b,hi=>by simp at hi
 |a::H,[],h,i,b,hi=>by simp[zX]at h
 |a::H,a1::H1,h,i,b,hi=>by
  simp only[zX,a2o,a7l]at h;cases i with
  |zero=>simp only[a2I,a08]at hi;subst hi;exact⟨a1,rfl,h.1⟩
  |succ i=>obtain⟨b1,e1,e2⟩:=MG h.2 (i:=i) (by simpa using hi);exact⟨b1,by simpa using e1,e2⟩
theorem aga{H H1 h h1 m1}(hr:HR X P A m H h)(hr1:HR X P A m1 H1 h1)(hs:(!zX H H1)=false):∀(i),i<m.length->m1[i]? = some .gone->m[i]? = some .gone:=by
 intro i hi hg;have wC:i<H.length:=by rw[<-hr.len];exact hi
 have hb:=a0A wC;obtain⟨b1,e1,e2⟩:=MG (by simpa using hs) hb;have:=(Y2 hr1 e1).2 hg;rw[<-e2]at this;exact(Y2 hr hb).1 this
theorem ND{fl ops ps ts}(hS:SR X P A W fl m ps ts){o an k}(hk:(a0p X ops ps o an k).Ends y) :∃w ps1 IY,Dv ops ts.env o=some w/\SR X P A W fl m ps1 ts/\(k w ps1 IY).Ends y/\ps1.heap=ps.heap:=by
 unfold a0p at hk;unfold Dv;split at hk
 .rename_i hg;exact⟨true,ps,an,by simp only[hg],hS,hk,rfl⟩
 .rename_i j want hg;simp only[hg];split at hk
  .rename_i d hd;simp only[hd];split at hk
   .rename_i b hb;obtain⟨ev,h1,h2⟩:=pJ hS.st.env hb;obtain⟨tv,rfl,h3⟩:=gV h2;obtain⟨t,IY,rfl,hk⟩:=a0y hk h3;exact⟨t==want,_,IY,by simp only[h1],hS.D6 (x:=.tmp d) (by simp only[rO,JD,h1]),hk,rfl⟩
   .rename_i hb;obtain⟨ev,h1,h2⟩:=pJ hS.st.env hb;have:=Kz h2;subst this;exact⟨false,ps,an,by simp only[h1],hS,hk,rfl⟩
   .exact hk.elim
  .exact hk.elim
theorem a0F(hX:bT X P)(hO:jX X P call gG){site fl nt ops}:∀{os} {m} {ps} {ts} {an} {k},SR X P A W fl m ps ts->(XK X P gG (cZ X P call) site nt ops os ps an k).Ends y ->∃iZ is pis ps1 IY m1,lY P call site fl nt ops os ts=some (iZ,is)/\(k ps1 pis IY).Ends y/\SR X P A W fl m1 ps1 iZ/\Fr m ts.heap m1 iZ.heap/\Up m m1/\IRs m ts.heap pis is/\is.length=os.length
 | [],m,ps,ts,an,k,hS,hk=>⟨ts,[],[],ps,an,m,rfl,hk,hS,.refl,.refl,.nil,rfl⟩
 |o::os,m,ps,ts,an,k,hS,hk=>by
  simp only[XK]at hk;split at hk
  .exact hk.elim
  .rename_i hd;obtain⟨w,ps1,Nj,hw,hS1,hk,hh⟩:=ND hS hk;cases w with
   |true=>
    simp only at hk;obtain⟨pe,Dx,pi,an2,⟨ev,ts2,ti,m2,e1,e2,e3,e4,e5,e6,e7,e8,e9⟩,hk⟩:=afZ hX hO hS1.st hk;have hS2:SR X P A W fl m2 (Dx.put o.dst pe) (({ ts2 with ws:=kT fl ti.ws ts.ws }).put o.dst ev):=by
     refine⟨wu.put (ts:={ ts2 with ws:=kT fl ti.ws ts.ws }) ⟨e4.heap,e4.llen,e4.loc,e4.env⟩ e5,fun b hb=>?_,fun b hb=>?_,?_⟩
     .rcases e6.new b hb with h1|h1
      .exact hS.own b h1
      .exact .inr (a5O hS.fl h1)
     .rw[zZ.2]at hb;rcases wV hb with h1|⟨h1,h2⟩
      .exact hS.ws b h1
      .rcases hS.own b (e9 b h1)with h3|h3
       .exact h3
       .omega
     .rw[zZ.1];exact a5O hS.fl e6.len
    obtain⟨ts3,is,pis,ps3,an3,m3,g1,g2,g3,g4,g5,g6,g7⟩:=a0F hX hO (os:=os) hS2 hk;rw[zZ.1]at g4 g6;refine⟨ts3,ti::is,_,ps3,an3,m3,?_,g2,g3,e6.trans g4,e7.trans g5,.cons hS.st.heap.nodup (fun b hb=>hS.st.heap.inb hb) ⟨e8.all,e8.tl,e8.wl,e8.wh,e8.th,e8.hp⟩ e6 e7 (aga hS1.st.heap e4.heap) g6,by simp[g7]⟩;simp only[lY,hd,hw,e1,g1];rfl
   |false=>
    simp only at hk;have hS2:SR X P A W fl m (ps1.put o.dst .undef) (ts.put o.dst .undef):=by
     refine⟨hS1.st.put trivial,hS.own,fun b hb=>?_,?_⟩
     .rw[zZ.2]at hb;exact hS.ws b hb
     .rw[zZ.1];exact hS.fl
    obtain⟨ts3,is,pis,ps3,an3,m3,g1,g2,g3,g4,g5,g6,g7⟩:=a0F hX hO (os:=os) hS2 hk;rw[zZ.1]at g4 g6;refine⟨ts3,dh::is,_,ps3,an3,m3,?_,g2,g3,g4,g5,.cons hS.st.heap.nodup (fun b hb=>hS.st.heap.inb hb) .none .refl .refl (fun _ i _ hg=>hg) g6,by simp[g7]⟩;simp only[lY,hd,hw,g1];rfl
def dQ(X:mX)(P:LI1)(T:vw)(call:dM)(L f:Nat)(iG:Bool)(nt B:Nat)(c:Code)(ps:bJ X.Γ)(e:Ex)(ps1:bJ X.Γ):Prop:=
 ∀(A W:Nat->Prop) (fl:Nat) (m:List MB) (ts:St),SR X P A W fl m ps ts->∃iZ m1,exec P T call L f iG fl nt c ts=some (e,iZ)/\SR X P A W fl m1 ps1 iZ/\Fr m ts.heap m1 iZ.heap/\O5 B m m1
theorem wu.pick{ps ts}(hR:wu X P A m ps ts)(live):wu X P A m { ps with env:=jG live ps.env } { ts with env:=Tw.pick live ts.env }:=
 ⟨hR.heap,hR.llen,hR.loc,VA hR.env live⟩
theorem SR.pick{fl ps ts}(hS:SR X P A W fl m ps ts)(live):SR X P A W fl m { ps with env:=jG live ps.env } { ts with env:=Tw.pick live ts.env }:=⟨hS.st.pick live,hS.own,hS.ws,hS.fl⟩
theorem SR.head{fl ps ts}(hS:SR X P A W fl m ps ts)(live):SR X P A W fl m (iy X live ps) (kY live ts):=by
 have h1:=hS.pick live;have ht:=afK h1.st.env;refine⟨⟨h1.st.heap,?_,fun k cs hk=>?_,h1.st.env⟩,h1.own,h1.ws,h1.fl⟩
 .simp only[iy,kY,a4c];have:=h1.st.llen;simp only at this ht;omega
 simp only[iy,kY]at hk ⊢;rw[a5f]at hk;split at hk
 .rename_i aS;obtain⟨cs',g1,g2⟩:=h1.st.loc k cs hk;refine⟨cs',?_,g2⟩;rw[a5f,a15 (by simp only at ht;omega)];exact g1
 cases hk
theorem VG{g}:∀{k j} {s} {r},iter g k s=some r->k<=j->iter g j s=some r
 | 0,_,s,r,h,_=>by simp[iter]at h
 |k+1,j,s,r,h,hj=>by
  obtain⟨j,rfl⟩:∃i,j=i+1:=⟨j-1,by omega⟩;simp only[iter]at h ⊢;split at h
  .rename_i s1 hs;exact VG h (by omega)
  rename_i hn;exact h
section
variable{L f:Nat}{iG:Bool}{nt B:Nat}
theorem NJ(hX:bT X P){c A W fl m ps ts k}(hS:SR X P A W fl m ps ts):∀{an},(zD X (dQ X P T call L f iG nt B) B c ps k an).Ends y ->∃e iZ ps1 IY m1,exec P T call L f iG fl nt c ts=some (e,iZ)/\(k e ps1 IY).Ends y/\SR X P A W fl m1 ps1 iZ/\Fr m ts.heap m1 iZ.heap/\O5 B m m1:=by
 intro an
 induction an with
 |a x r=>
  intro hk;cases x with
  |loop e s'=>
   simp only[zD]at hk;obtain⟨Il,hk⟩:=hk;obtain⟨iZ,m1,h1,h2,h3,h4⟩:=Il A W fl m ts hS;exact⟨_,iZ,_,_,m1,h1,hk,h2,h3,h4⟩
  |lg gs e s'=>
   simp only[zD]at hk;split at hk
   .rename_i hgs;obtain⟨Il,hk⟩:=hk;obtain⟨m0,e1,e2,e3⟩:=mM hX hgs A W fl m ts hS;obtain⟨iZ,m1,h1,h2,h3,h4⟩:=Il A W fl m0 ts e1;exact⟨_,iZ,_,_,m1,h1,hk,h2,e2.trans h3,e3.trans h4⟩
   .exact hk.elim
  |_=>simp only[zD]at hk;exact hk.elim
 |z c' a b iha ihb=>
  intro hk;simp only[zD]at hk;rcases hk with⟨_,hk⟩|⟨_,hk⟩
  .exact iha hk
  .exact ihb hk
 |_=>intro hk;simp only[zD]at hk;exact hk.elim
theorem wL(hX:bT X P)(hO:jX X P call gG):∀(c) {A W} {fl} {m} {ps} {ts} {an} {k},SR X P A W fl m ps ts->(kE X P T gG (cZ X P call) (dQ X P T call L f iG nt B) B L f iG nt c ps an k).Ends y ->∃e iZ ps1 IY m1,exec P T call L f iG fl nt c ts=some (e,iZ)/\(k e ps1 IY).Ends y/\SR X P A W fl m1 ps1 iZ/\Fr m ts.heap m1 iZ.heap/\O5 B m m1:=by
 intro c
 induction c with
 |skip=>intro A W fl m ps ts an k hS hk;exact⟨.norm,ts,ps,an,m,rfl,hk,hS,.refl,.refl⟩
 |label=>intro A W fl m ps ts an k hS hk;exact⟨.norm,ts,ps,an,m,rfl,hk,hS,.refl,.refl⟩
 |exit id=>intro A W fl m ps ts an k hS hk;exact⟨.exit id,ts,ps,an,m,rfl,hk,hS,.refl,.refl⟩
 |ret=>intro A W fl m ps ts an k hS hk;exact⟨.ret,ts,ps,an,m,rfl,hk,hS,.refl,.refl⟩
 |region id ops draw=>
  intro A W fl m ps ts an k hS hk;simp only[kE]at hk;obtain⟨iZ,is,pis,ps1,Nj,m1,g1,hk,g3,g4,g5,g6,g7⟩:=a0F hX hO hS hk;have fin:∀{an2:PT X.Γ},(!draw||(oh ops.toList&&CB is (nK ops.toList)))=true->(k .norm { ps1 with env:=jG (T.iP f id) ps1.env } an2).Ends y->∃e iZ ps1 IY m1,exec P T call L f iG fl nt (.region id ops draw) ts=some (e,iZ)/\(k e ps1 IY).Ends y/\SR X P A W fl m1 ps1 iZ/\Fr m ts.heap m1 iZ.heap/\O5 B m m1:=by intro an2 hc hk;exact⟨.norm,{ iZ with env:=Tw.pick (T.iP f id) iZ.env },_,an2,m1,by simp only[exec,g1,hc,a2l],hk,g3.pick _,g4,g5.b⟩
  cases draw with
  |false=>exact fin rfl hk
  |true=>
   simp only at hk;split at hk
   .rename_i r;split at hk
    .rename_i Gy;obtain⟨vH,hk⟩:=hk;refine fin ?_ hk;rw[vH];simp only[aa2,afQ,ady];refine TY (fun t ht=>?_) fun q hq=>by rw[g7];exact ag6 q hq
     have key:∀{ps:List PI} {ts:List zl} {m:List MB} {h:List HB},IRs m h ps ts->(ps.all fun i=>i.i.ws.isEmpty&&!i.wall)=true->∀t∈ts,t.ws=[]:=by
      intro ps ts m h hI
      induction hI with
      |nil=>intro _ t ht;cases ht
      |cons _ _ i1 _ _ _ _ ih=>
       intro ha t ht;simp only[ac9,a2o,List.isEmpty_iff,a9y]at ha;rcases a1B.1 ht with rfl|ht
       .refine a7n.2 fun x hx=>?_;cases x with
        |l j=>have:=i1.wl j hx;rw[ha.1.1]at this;cases this
        |h b=>
         rcases i1.wh b hx with⟨i,h1,_⟩|⟨h1,_⟩
         .rw[ha.1.1]at h1;cases h1
         .rw[ha.1.2]at h1;cases h1
       .exact ih ha.2 t ht
     exact key g6 Gy t ht
    .exact hk.elim
   .split at hk
    .rename_i hc;simp only[a2o]at hc;refine fin ?_ hk;rw[hc.1,a7x g6 ag5 hc.2];rfl
    .exact hk.elim
 |seq a b iha ihb=>
  intro A W fl m ps ts an k hS hk;simp only[kE]at hk;obtain⟨e,iZ,ps1,Nj,m1,h1,hk,h3,h4,h5⟩:=iha hS hk;cases e with
  |norm=>
   obtain⟨e2,ts2,Dx,an2,m2,g1,g2,g3,g4,g5⟩:=ihb h3 hk;exact⟨e2,ts2,Dx,an2,m2,by simp only[exec,h1,g1],g2,g3,h4.trans g4,h5.trans g5⟩
  |exit id=>exact⟨_,iZ,ps1,Nj,m1,by simp only[exec,h1],hk,h3,h4,h5⟩
  |ret=>exact⟨_,iZ,ps1,Nj,m1,by simp only[exec,h1],hk,h3,h4,h5⟩
 |cond c a b iha ihb=>
  intro A W fl m ps ts an k hS hk;simp only[kE]at hk;split at hk
  .rename_i u hu;obtain⟨tu,h1,h2⟩:=XO hS.st.env hu;obtain⟨t,IY,rfl,hk⟩:=a0y hk h2;cases t with
   |true=>
    obtain⟨e,iZ,ps1,Nj,m1,g1,g2,g3,g4,g5⟩:=iha (hS.D6 h1) hk;exact⟨e,iZ,ps1,Nj,m1,by simp only[exec,h1,g1],g2,g3,g4,g5⟩
   |false=>
    obtain⟨e,iZ,ps1,Nj,m1,g1,g2,g3,g4,g5⟩:=ihb (hS.D6 h1) hk;exact⟨e,iZ,ps1,Nj,m1,by simp only[exec,h1,g1],g2,g3,g4,g5⟩
  .exact hk.elim
 |block id b ih=>
  intro A W fl m ps ts an k hS hk;simp only[kE]at hk;obtain⟨e,iZ,ps1,Nj,m1,h1,hk,h3,h4,h5⟩:=ih hS hk;cases e with
  |norm=>exact⟨_,iZ,ps1,Nj,m1,by simp only[exec,h1],hk,h3,h4,h5⟩
  |ret=>exact⟨_,iZ,ps1,Nj,m1,by simp only[exec,h1],hk,h3,h4,h5⟩
  |exit i=>exact⟨_,iZ,ps1,Nj,m1,by simp only[exec,h1],hk,h3,h4,h5⟩
 |scope b ih=>
  intro A W fl m ps ts an k hS hk;simp only[kE]at hk;obtain⟨e,iZ,ps1,Nj,m1,h1,hk,h3,h4,h5⟩:=ih hS hk;exact⟨e,iZ,ps1,Nj,m1,by simp only[exec,h1],hk,h3,h4,h5⟩
 |loop b ih=>
  intro A W fl m ps ts an k hS hk;simp only[kE]at hk;split at hk
  .rename_i j r;obtain⟨hj,hk⟩:=hk;have go:∀(j:Nat) {m:List MB} {ps:bJ X.Γ} {ts:St} {an:PT X.Γ},SR X P A W fl m ps ts->(Vx X (fun s an k=>kE X P T gG (cZ X P call) (dQ X P T call L f iG nt B) B L f iG nt b (iy X (T.fC f (eu b)) s) an k) j ps an k).Ends y ->
     ∃e iZ ps1 IY m1,iter (fun s=>exec P T call L f iG fl nt b (kY (T.fC f (eu b)) s)) j ts=some (e,iZ)/\(k e ps1 IY).Ends y/\SR X P A W fl m1 ps1 iZ/\Fr m ts.heap m1 iZ.heap/\O5 B m m1:=by
    intro j
    induction j with
    |zero=>intro m ps ts an _ hk;exact hk.elim
    |succ j ihj=>
     intro m ps ts an hS hk;simp only[Vx]at hk;obtain⟨e,iZ,ps1,Nj,m1,h1,hk,h3,h4,h5⟩:=ih (hS.head _) hk;cases e with
     |norm=>
      obtain⟨e2,ts2,Dx,an2,m2,g1,g2,g3,g4,g5⟩:=ihj h3 hk;exact⟨e2,ts2,Dx,an2,m2,by simp only[iter,h1,g1],g2,g3,h4.trans g4,h5.trans g5⟩
     |exit id=>exact⟨_,iZ,ps1,Nj,m1,by simp only[iter,h1],hk,h3,h4,h5⟩
     |ret=>exact⟨_,iZ,ps1,Nj,m1,by simp only[iter,h1],hk,h3,h4,h5⟩
   obtain⟨e,iZ,ps1,Nj,m1,h1,h2,h3,h4,h5⟩:=go j hS hk;exact⟨e,iZ,ps1,Nj,m1,by simp only[exec];exact VG h1 hj,h2,h3,h4,h5⟩
  .exact NJ hX hS hk
 |rangeFunc g qs vV body iha ihb=>
  intro A W fl m ps ts an k hS hk;simp only[kE]at hk;exact NJ hX hS hk
 |_=>intro A W fl m ps ts an k hS hk;simp only[kE]at hk;exact hk.elim
end
end
section
variable{X:mX}{P:LI1}{T:vw}{A W:Nat->Prop}{m m':List MB}
variable{call:dM}{gG:gU X.Γ}{L:Nat}
def Di(P:LI1)(f:Nat):Nat:=match UO P f with
 |some t=>t.nt
 |none=>0
abbrev CQ(X:mX)(P:LI1)(T:vw)(call:dM)(L f B:Nat):a2d X.Γ:=dQ X P T call L f false (Di P f) B
theorem O6{A h}:∀{k} {vs} {xs:List TV},bZ X P A m h vs xs->kR X P A m h (lX X k vs) (oq k xs)
 |k,[],xs,hv=>by rw[hv.inv0];exact .nil
 |k,v::vs,xs,hv=>by obtain⟨x,r,rfl,h1,h2⟩:=hv.inv;exact .cons h1 (O6 h2)
theorem JZ(hX:bT X P){ps ts}(hR:wu X P A m ps ts):∀{rs} {vs},Gg X P ps rs=some vs->∃ws,yI P ts rs=some ws/\bZ X P (AA A m) m ts.heap vs ws
 | [],vs,h=>by simp only[Gg,a08]at h;subst h;exact⟨[],rfl,.nil⟩
 |r::rs,vs,h=>by
  simp only[Gg]at h;split at h
  rotate_left
  .cases h
  rename_i v vs' h1 h2;cases h;obtain⟨ws,g1,g2⟩:=JZ hX hR h2;have:∃w,a5Q P ts r=some w/\VR X P (AA A m) m ts.heap v w:=by
   unfold ajW at h1;unfold a5Q;split at h1
   .rename_i t;split at h1
    .rename_i u hu;cases h1;obtain⟨ev,e1,e2⟩:=pJ hR.env hu;obtain⟨w,rfl,e3⟩:=gV e2;exact⟨w,by simp only[e1],II e3⟩
    cases h1
   rename_i a t;split at h1
   .rename_i pa ha;simp only[a0x]at h1;obtain⟨⟨u,i⟩,e1,rfl⟩:=h1;obtain⟨ev,e2,e3⟩:=pJ hR.env ha;obtain⟨w,ti,e4,e5,_,_⟩:=Ia hX hR e3 e1;exact⟨w,by simp only[e2,e4,a1l],e5⟩
   cases h1
  obtain⟨w,g3,g4⟩:=this;exact⟨w::ws,by simp only[yI,g3,g1],.cons g4 g2⟩
theorem VH{A h vs ws}(hv:bZ X P A m h vs ws):VR X P A m h (a0r X vs) (one ws):=by
 match vs,ws,hv with
 | [],ws,hv=>rw[hv.inv0];exact .dB rfl (by simp)
 | [v],ws,hv=>
  obtain⟨x,r,rfl,h1,h2⟩:=hv.inv;have:=h2.inv0;subst this;exact h1
 |v::u::vs,ws,hv=>
  obtain⟨x,r,rfl,h1,h2⟩:=hv.inv;obtain⟨z,r,rfl,h3,h4⟩:=h2.inv;exact .dB hv.1 hv.2
theorem a7A(hX:bT X P)(hO:jX X P call gG){f vs H an v H1}(hk:(DV X P T gG (cZ X P call) (CQ X P T call L f H.length) L f vs H an).Ends (v,H1)){h} (hr:HR X P A m H h) {xs} (hv:bZ X P (AA A m) m h vs xs):∃w h1 ws m1,Nc P T call L f xs h=some (w,h1,ws)/\HR X P A m1 H1 h1/\VR X P (AA A m1) m1 h1 v w/\Fr m h m1 h1/\O5 H.length m m1/\(∀b∈ws,b∈bn m)/\¬(T.exts.contains f||T.dem.contains f)=true:=by
 unfold DV at hk;split at hk
 .rename_i t ht;have hnx:¬(T.exts.contains f||T.dem.contains f)=true:=fun hx=>by rw[a15 hx]at ht;cases ht
  rw[a0S hnx]at ht;have hnt:Di P f=t.nt:=by unfold Di;rw[ht]
  have hS:SR X P A (fun b=>b∈bn m) h.length m ⟨lX X 0 vs,[],H⟩ ⟨oq 0 xs,[],h,[]⟩:=
   ⟨⟨hr,rfl,fun k cs hk=>by simp at hk,O6 hv⟩,fun b hb=>.inl hb,fun b hb=>(by cases hb),a1j _⟩
  rw[show CQ X P T call L f H.length=dQ X P T call L f false t.nt H.length by unfold CQ;rw[hnt]]at hk;obtain⟨e,iZ,ps1,Nj,m1,h1,hk,h3,h4,h5⟩:=wL hX hO t.body hS hk;have fin:∀{e:Ex},exec P T call L f false h.length t.nt t.body ⟨oq 0 xs,[],h,[]⟩=some (e,iZ)->(e=.norm\/e=.ret)->∀{us:List (PV X.Γ)},Gg X P ps1 t.results=some us->(a0r X us,ps1.heap)=(v,H1)->∃w h1 ws m1,Nc P T call L f xs h=some (w,h1,ws)/\HR X P A m1 H1 h1/\VR X P (AA A m1) m1 h1 v w/\Fr m h m1 h1/\O5 H.length m m1/\(∀b∈ws,b∈bn m)/\¬(T.exts.contains f||T.dem.contains f)=true:=by intro e he hee us hus hv;cases hv;obtain⟨ws,g1,g2⟩:=JZ hX h3.st hus;refine⟨one ws,iZ.heap,iZ.ws,m1,?_,h3.st.heap,VH g2,h4,h5,h3.ws,hnx⟩;unfold Nc;rcases hee with rfl|rfl<;>simp only[ht,he,g1]
  cases e with
  |exit id=>exact hk.elim
  |norm=>
   cases Nj with
   |n=>
    simp only at hk;split at hk
    .rename_i us hus;exact fin h1 (.inl rfl) hus hk
    .exact hk.elim
   |_=>exact hk.elim
  |ret=>
   cases Nj with
   |n=>
    simp only at hk;split at hk
    .rename_i us hus;exact fin h1 (.inr rfl) hus hk
    .exact hk.elim
   |_=>exact hk.elim
 .exact hk.elim
theorem a0G(hX:bT X P){n f}(hn:0<n)(hO:jX X P (lu P T L (n-1)) gG){vs an v ext}(hk:(DV X P T gG (cZ X P (lu P T L (n-1))) (CQ X P T (lu P T L (n-1)) L f 0) L f vs [] an).Ends (v,ext)):nU X P (lu P T L n) f vs v ext:=by
 intro A h first args cap G5 hv
 have hr:HR X P A [] [] h:=⟨rfl,fun i b hb=>by simp at hb,by simp[bn],G5,fun b hb=>by simp[bn]at hb⟩;obtain⟨w,h1,ws,m1,g1,g2,g3,g4,_,g6,g7⟩:=a7A hX hO (H:=[]) hk hr (hv.mono fun b hb=>⟨hb,by simp[bn]⟩);obtain⟨n,rfl⟩:∃j,n=j+1:=⟨n-1,by omega⟩;have:ws=[]:=a7n.2 fun x hx=>by have:=g6 x hx;simp[bn]at this
 subst this;exact⟨w,h1,m1,by simp only[lu];simp only[aa4,ade]at g7;rw[a0S g7.1,a0S g7.2];exact g1,g2,g3,g4⟩
theorem a7B(hX:bT X P){n f}(hn:0<n)(hO:jX X P (lu P T L (n-1)) gG){first xs cap H H1 an v}(hk:(DV X P T gG (cZ X P (lu P T L (n-1))) (CQ X P T (lu P T L (n-1)) L f H.length) L f (first++xs++cap) H an).Ends (v,H1)):cZ X P (lu P T L n) (.fn f first cap) xs H v H1:=by
 intro A m h tf rJ hr hf hx;obtain⟨n,rfl⟩:∃j,n=j+1:=⟨n-1,by omega⟩;cases hf with
 |gone hi _ _=>simp[bF]at hi
 |fn p1 p2 p3 p4=>
  obtain⟨w,h1,ws,m1,g1,g2,g3,g4,g5,g6,g7⟩:=a7A hX hO hk hr ((bZ.app ⟨p1,p2⟩ hx).app ⟨p3,p4⟩);refine⟨w,h1,ws,m1,by simp only[lu];simp only[aa4,ade]at g7;rw[a0S g7.1,a0S g7.2];exact g1,g2,g3,g4,fun i mb hi=>g5 i mb ?_ hi,g6⟩;rw[<-hr.len];exact(a0u.1 hi).1
def agc:Ex->bJ X.Γ->PT X.Γ->OT (Ex×bJ X.Γ):=fun e s an=>match an with
 |.n=>.ret (e,s)
 |_=>.bad
section
variable{f nt B:Nat}{iG:Bool}
theorem Y3(hX:bT X P)(hO:jX X P call gG){c ps an e ps1}(hk:(kE X P T gG (cZ X P call) (dQ X P T call L f iG nt B) B L f iG nt c ps an agc).Ends (e,ps1)):dQ X P T call L f iG nt B c ps e ps1:=by
 intro A W fl m ts hS;obtain⟨e1,iZ,Dx,Nj,m1,h1,h2,h3,h4,h5⟩:=wL hX hO c hS hk;cases Nj with
 |n=>cases h2;exact⟨iZ,m1,h1,h3,h4,h5⟩
 |_=>exact h2.elim
end
end
def OT.map{ρ σ}(f:ρ->σ):OT ρ->OT σ
 |.bad=>.bad
 |.ret r=>.ret (f r)
 |.o p r=>.o p (r.map f)
 |.br c t e=>.br c (t.map f) (e.map f)
theorem OT.IZ{ρ σ}{f:ρ->σ}{y}:∀{o:OT ρ},(o.map f).Ends y->∃r,o.Ends r/\f r=y
 |.bad,h=>h.elim
 |.ret r,h=>⟨r,rfl,h⟩
 |.o p r,h=>by obtain⟨x,h1,h2⟩:=OT.IZ h.2;exact⟨x,⟨h.1,h1⟩,h2⟩
 |.br c t e,h=>by
  rcases h with⟨h0,h⟩|⟨h0,h⟩
  .obtain⟨x,h1,h2⟩:=OT.IZ h;exact⟨x,.inl ⟨h0,h1⟩,h2⟩
  obtain⟨x,h1,h2⟩:=OT.IZ h;exact⟨x,.inr ⟨h0,h1⟩,h2⟩
inductive Fp{Γ:Nat->Type}{ρ:Type}(R:ρ->Prop):PT Γ->OT ρ->Prop where
 |r {v:ρ} (h:R v):Fp R .n (.ret v)
 |g {v:ρ} (gs:List G) (h:R v):Fp R (.a (.lg gs .norm ⟨[],[],[]⟩) .n) (.ret v)
 |o {p:Prop} {an:PT Γ} {o:OT ρ} (h:p) (f:Fp R an o):Fp R an (.o p o)
 |s {c:Bool} {a b:PT Γ} {x y:OT ρ} (f:c=true->Fp R a x) (g:c=false->Fp R b y):Fp R (.s a b) (.br c x y)
 |z {c:Bool} {a b:PT Γ} {x y:OT ρ} (f:c=true->Fp R a x) (g:c=false->Fp R b y):Fp R (.z c a b) (.br c x y)
 |b {c t:Bool} {an:PT Γ} {o:OT ρ} (h:c=t) (f:Fp R an o):Fp R (.a (.br t) an) (.o (c=t) o)
 |q {p:Prop} {an:PT Γ} {o:OT ρ} (w:TV) (h:p) (f:Fp R an o):Fp R (.a (.rd w) an) (.o p o)
 |c {p:Prop} {an:PT Γ} {o:OT ρ} (v:PV Γ) (H:List (PB Γ)) (h:p) (f:Fp R an o):Fp R (.a (.call v H) an) (.o p o)
 |kf {p:Prop} {an:PT Γ} {o:OT ρ} (ks:List Nat) (v:PV Γ) (H:List (PB Γ)) (h:p) (f:Fp R an o):Fp R (.a (.fr ks v H) an) (.o p o)
 |kg {p:Prop} {an:PT Γ} {o:OT ρ} (ks rs:List Nat) (v:PV Γ) (H:List (PB Γ)) (h:p) (f:Fp R an o):Fp R (.a (.RU ks rs v H) an) (.o p o)
 |l {p:Prop} {an:PT Γ} {o:OT ρ} (gs:List G) (e:Ex) (s:bJ Γ) (h:p) (f:Fp R an o):Fp R (.a (.lg gs e s) an) (.o p o)
 |f {p:Prop} {an:PT Γ} {o:OT ρ} (e:Ex) (s:bJ Γ) (h:p) (f:Fp R an o):Fp R (.a (.loop e s) an) (.o p o)
 |m {p:Prop} {an:PT Γ} {o:OT ρ} (k:Nat) (h:p) (f:Fp R an o):Fp R (.l k an) (.o p o)
 |a {an:PT Γ} {o:OT ρ} (x:PA Γ) (f:Fp R an o):Fp R (.a x an) o
theorem Fp.aO{Γ ρ}{R:ρ->Prop}{an:PT Γ}{o}(h:Fp R an o):∃y,o.Ends y/\R y:=by
 induction h with
 |r h=>exact⟨_,rfl,h⟩
 |g _ h=>exact⟨_,rfl,h⟩
 |s _ _ i1 i2=>
  rename_i c _ _ _ _ _ _;cases c with
  |true=>obtain⟨y,h1,h2⟩:=i1 rfl;exact⟨y,.inl ⟨rfl,h1⟩,h2⟩
  |false=>obtain⟨y,h1,h2⟩:=i2 rfl;exact⟨y,.inr ⟨rfl,h1⟩,h2⟩
 |z _ _ i1 i2=>
  rename_i c _ _ _ _ _ _;cases c with
  |true=>obtain⟨y,h1,h2⟩:=i1 rfl;exact⟨y,.inl ⟨rfl,h1⟩,h2⟩
  |false=>obtain⟨y,h1,h2⟩:=i2 rfl;exact⟨y,.inr ⟨rfl,h1⟩,h2⟩
 |a _ _ i=>exact i
 |o h _ i=>obtain⟨y,h1,h2⟩:=i;exact⟨y,⟨h,h1⟩,h2⟩
 |b h _ i=>obtain⟨y,h1,h2⟩:=i;exact⟨y,⟨h,h1⟩,h2⟩
 |q _ h _ i=>obtain⟨y,h1,h2⟩:=i;exact⟨y,⟨h,h1⟩,h2⟩
 |c _ _ h _ i=>obtain⟨y,h1,h2⟩:=i;exact⟨y,⟨h,h1⟩,h2⟩
 |kg _ _ _ _ h _ i=>obtain⟨y,h1,h2⟩:=i;exact⟨y,⟨h,h1⟩,h2⟩
 |kf _ _ _ h _ i=>obtain⟨y,h1,h2⟩:=i;exact⟨y,⟨h,h1⟩,h2⟩
 |l _ _ _ h _ i=>obtain⟨y,h1,h2⟩:=i;exact⟨y,⟨h,h1⟩,h2⟩
 |f _ _ h _ i=>obtain⟨y,h1,h2⟩:=i;exact⟨y,⟨h,h1⟩,h2⟩
 |m _ h _ i=>obtain⟨y,h1,h2⟩:=i;exact⟨y,⟨h,h1⟩,h2⟩
section
variable{X:mX}{P:LI1}{T:vw}{L:Nat}
def frz(r:PV X.Γ×List (PB X.Γ)):Option (PV X.Γ):=view r.2 r.1
theorem Y4(hX:bT X P){call f vs v w ext}(hc:nU X P call f vs v ext)(hw:view ext v=some w):nU X P call f vs w []:=by
 intro A h first args cap G5 hv
 obtain⟨x,h',m',c1,c2,c3,c4⟩:=hc A h first args cap G5 hv
 refine⟨x,h',[],c1,⟨rfl,fun i b hb=>by simp at hb,by simp[bn],c2.up,fun b hb=>by simp[bn]at hb⟩,?_,?_⟩
 .refine(VB (m':=[]) hX c2 c3 hw (is:=lC v) fun i hi=>hi).mono fun b hb=>⟨?_,by simp[bn]⟩;rcases hb with hb|⟨i,mb,h1,h2,h3⟩
  .exact hb.1
  exact c2.DX b (bg h2 h3)
 exact⟨c4.len,fun b hb hn=>c4.same b hb hn,fun b hb=>by simp[bn]at hb,c4.grow⟩
def agd(hd:bJ X.Γ->bJ X.Γ)(B:Nat):Ex->bJ X.Γ->PT X.Γ->OT (Ex×bJ X.Γ):=fun e s an=>match an with
 |.n=>match e with
  |.norm=>.ret (.norm,hd s)
  |e=>.ret (e,s)
 |.a (.lg gs _ _) .n=>match e with
  |.norm=>match lQ B gs (hd s)with
   |some s=>.ret (.norm,s)
   |none=>.bad
  |e=>match lQ B gs s with
   |some s=>.ret (e,s)
   |none=>.bad
 |_=>.bad
section
variable{f nt B:Nat}{iG:Bool}{call:dM}{gG:gU X.Γ}
def dN(X:mX)(P:LI1)(T:vw)(call:dM)(L f:Nat)(iG:Bool)(nt B:Nat)(b:Code)(n:Nat)(ps:bJ X.Γ)(e:Ex)(ps1:bJ X.Γ):Prop:=
 ∀(A W:Nat->Prop) (fl:Nat) (m:List MB) (ts:St),SR X P A W fl m ps (kY (T.fC f (eu b)) ts)->∃iZ m1,iter (fun s=>exec P T call L f iG fl nt b (kY (T.fC f (eu b)) s)) n ts=some (e,iZ)/\SR X P A W fl m1 ps1 iZ/\Fr m ts.heap m1 iZ.heap/\O5 B m m1
theorem VI{b n k ps e ps1}(h:dN X P T call L f iG nt B b n ps e ps1)(hk:n<=k):dN X P T call L f iG nt B b k ps e ps1:=fun A W fl m ts hS=>by obtain⟨iZ,m1,h1,h2⟩:=h A W fl m ts hS;exact⟨iZ,m1,VG h1 hk,h2⟩
theorem A8{b n s0 ps e ps1}(h:dN X P T call L f iG nt B b n ps e ps1)(h0:iy X (T.fC f (eu b)) s0=ps)(hn:n<=L):dQ X P T call L f iG nt B (.loop b) s0 e ps1:=fun A W fl m ts hS=>by obtain⟨iZ,m1,h1,h2⟩:=VI h hn A W fl m ts (by rw[<-h0];exact hS.head _);exact⟨iZ,m1,by simp only[exec];exact h1,h2⟩
def Rnd(X:mX)(P:LI1)(T:vw)(call:dM)(L f:Nat)(iG:Bool)(nt B:Nat)(b:Code)(n:Nat)(e:Ex)(s:bJ X.Γ):Ex×bJ X.Γ->Prop
 |(.norm,s')=>dN X P T call L f iG nt B b n s' e s
 |(e',s')=>e'=e/\s'=s
theorem a2u{b n e e' s s'}(hn:e'≠.norm)(h:Rnd X P T call L f iG nt B b n e s (e',s')):e'=e/\s'=s:=by
 cases e' with
 |norm=>exact absurd rfl hn
 |exit id=>exact h
 |ret=>exact h
theorem round(hX:bT X P)(hO:jX X P call gG){b n ps an e s o}(hk:kE X P T gG (cZ X P call) (dQ X P T call L f iG nt B) B L f iG nt b ps an (agd (iy X (T.fC f (eu b))) B)=o) (ht:Fp (Rnd X P T call L f iG nt B b n e s) an o):dN X P T call L f iG nt B b (n+1) ps e s:=by
 obtain⟨⟨e',s'⟩,h1,h2⟩:=ht.aO;rw[<-hk]at h1;intro A W fl m ts hS;obtain⟨e1,iZ,Dx,Nj,m1,g1,g2,g3,g4,g5⟩:=wL hX hO b hS h1;have out:∀{e1:Ex} {m2:List MB},exec P T call L f iG fl nt b (kY (T.fC f (eu b)) ts)=some (e1,iZ)->e1≠.norm->e1=e/\s'=s->SR X P A W fl m2 s' iZ->Fr m ts.heap m2 iZ.heap->O5 B m m2->∃iZ m1,iter (fun s=>exec P T call L f iG fl nt b (kY (T.fC f (eu b)) s)) (n+1) ts=some (e,iZ)/\SR X P A W fl m1 s iZ/\Fr m ts.heap m1 iZ.heap/\O5 B m m1:=by
  intro e1 m2 ge hn hh q1 q2 q3;obtain⟨rfl,rfl⟩:=hh;refine⟨iZ,m2,?_,q1,q2,q3⟩;cases e1 with
  |norm=>exact absurd rfl hn
  |exit id=>simp only[iter,ge]
  |ret=>simp only[iter,ge]
 have on:∀{m2:List MB},exec P T call L f iG fl nt b (kY (T.fC f (eu b)) ts)=some (.norm,iZ)->SR X P A W fl m2 s' (kY (T.fC f (eu b)) iZ)->Fr m ts.heap m2 iZ.heap->O5 B m m2->dN X P T call L f iG nt B b n s' e s->∃iZ m1,iter (fun s=>exec P T call L f iG fl nt b (kY (T.fC f (eu b)) s)) (n+1) ts=some (e,iZ)/\SR X P A W fl m1 s iZ/\Fr m ts.heap m1 iZ.heap/\O5 B m m1:=by intro m2 ge q1 q2 q3 hr;obtain⟨ts2,m3,r1,r2,r3,r4⟩:=hr A W fl m2 iZ q1;exact⟨ts2,m3,by simp only[iter,ge,r1],r2,q2.trans r3,q3.trans r4⟩
 unfold agd at g2;split at g2
 .split at g2
  .cases g2;exact on g1 (g3.head _) g4 g5 h2
  .rename_i e1 iO;cases g2;exact out g1 (fun h=>iO h) (a2u (fun h=>iO h) h2) g3 g4 g5
 .split at g2
  .split at g2
   .rename_i hg;cases g2;obtain⟨m2,q1,q2,q3⟩:=mM hX hg _ _ _ _ _ (g3.head _);exact on g1 q1 (g4.trans q2) (g5.trans q3) h2
   .exact g2.elim
  .rename_i e1 iO;split at g2
   .rename_i hg;cases g2;obtain⟨m2,q1,q2,q3⟩:=mM hX hg _ _ _ _ _ g3;exact out g1 (fun h=>iO h) (a2u (fun h=>iO h) h2) q1 (g4.trans q2) (g5.trans q3)
   .exact g2.elim
 .exact g2.elim
end
structure Ar(X:mX)(P:LI1)(α:Type) where
 put:α->PV X.Γ
 get:PV X.Γ->Option α
 ok:∀{v:PV X.Γ} {a:α},get v=some a->∀{A:Nat->Prop} {m:List MB} {h:List HB} {x:TV},VR X P A m h v x->VR X P A m h (put a) x
structure ArL(X:mX)(P:LI1)(α:Type) where
 put:α->List (PV X.Γ)
 get:List (PV X.Γ)->Option α
 ok:∀{v:List (PV X.Γ)} {a:α},get v=some a->∀{A:Nat->Prop} {m:List MB} {h:List HB} {x:List TV},bZ X P A m h v x->bZ X P A m h (put a) x
def agf(k:IntKind):Ar X P Int where
 put n:=.int k n
 get v:=match v with
  |.int k' n=>if k'=k then some n else none
  |_=>none
 ok:=by
  intro v a hg A m h x hv;split at hg
  .split at hg
   .rename_i e;subst e;cases hg;exact hv
   .cases hg
  .cases hg
def akk:Ar X P Bool where
 put n:=.bool n
 get v:=match v with
  |.bool n=>some n
  |.lit n=>some n
  |_=>none
 ok:=by
  intro v a hg A m h x hv;split at hg
  .cases hg;exact hv
  .cases hg;exact II hv
  .cases hg
theorem VR.less{A m h t l fu x}(hv:VR X P A m h (.dF t l fu) x):VR X P A m h (.dF t l false) x:=by
 cases hv with
 |gone hi _ _=>simp[bF]at hi
 |qx=>exact .qx
 |dF a c c2 s z o k f e r=>exact .dF a c c2 s z o k (fun h=>by cases h) e r
def a7C(t:Nat):Ar X P (List (X.Γ t)) where
 put l:=.dF t l false
 get v:=match v with
  |.dF t' l _=>CO t t' l
  |.nil .aP=>some []
  |_=>none
 ok:=by
  intro v a hg A m h x hv;split at hg
  .obtain⟨rfl,rfl⟩:=sJ hg;exact hv.less
  .cases hg;cases hv with
   |nil=>exact .qx
   |gone hi _ _=>simp[bF]at hi
  .cases hg
def akl(hX:bT X P)(t:Nat):Ar X P (X.Γ t) where
 put a:=.agg (X.enc t a)
 get v:=match v with
  |.agg cs=>X.dec t cs
  |_=>none
 ok:=by
  intro v a hg A m h x hv;split at hg
  .cases hv with
   |gone hi _ _=>simp[bF]at hi
   |agg h1 h2=>obtain⟨h3,h4⟩:=hX.dec hg ⟨h1,h2⟩;exact .agg h3 h4
  .cases hg
def fnA(f:FuncId):Ar X P Unit where
 put _:=.fn f [] []
 get v:=match v with
  |.fn g [] []=>if g=f then some ()else none
  |_=>none
 ok:=by
  intro v a hg A m h x hv;split at hg
  .split at hg
   .rename_i e;subst e;exact hv
   .cases hg
  .cases hg
def agh:ArL X P Unit where
 put _:=[]
 get v:=match v with
  | []=>some ()
  |_=>none
 ok:=by
  intro v a hg A m h x hv;split at hg
  .exact hv
  .cases hg
def Nk{α β:Type}(a:Ar X P α)(l:ArL X P β):ArL X P (α×β) where
 put x:=a.put x.1::l.put x.2
 get v:=match v with
  |v::vs=>match a.get v,l.get vs with
   |some x,some y=>some (x,y)
   |_,_=>none
  |_=>none
 ok:=by
  intro v x hg A m h xs hv;split at hg
  .split at hg
   .rename_i e1 e2;cases hg;obtain⟨y,r,rfl,h1,h2⟩:=hv.inv;exact .cons (a.ok e1 h1) (l.ok e2 h2)
   .cases hg
  .cases hg
def akm{α:Type}(a:Ar X P α):ArL X P α where
 put x:=[a.put x]
 get v:=match v with
  | [v]=>a.get v
  |_=>none
 ok:=by
  intro v x hg A m h xs hv;split at hg
  .obtain⟨y,r,rfl,h1,h2⟩:=hv.inv;have:=h2.inv0;subst this;exact .cons (a.ok hg h1) .nil
  .cases hg
def dU{α:Type}(l:ArL X P α):Ar X P α where
 put x:=.dB (l.put x)
 get v:=match v with
  |.dB cs=>l.get cs
  |_=>none
 ok:=by
  intro v x hg A m h xs hv;split at hg
  .cases hv with
   |gone hi _ _=>simp[bF]at hi
   |dB h1 h2=>obtain⟨h3,h4⟩:=l.ok hg ⟨h1,h2⟩;exact .dB h3 h4
  .cases hg
def a7D{α:Type}(l:ArL X P α):Ar X P α where
 put x:=.agg (l.put x)
 get v:=match v with
  |.agg cs=>l.get cs
  |_=>none
 ok:=by
  intro v x hg A m h xs hv;split at hg
  .cases hv with
   |gone hi _ _=>simp[bF]at hi
   |agg h1 h2=>obtain⟨h3,h4⟩:=l.ok hg ⟨h1,h2⟩;exact .agg h3 h4
  .cases hg
def agi{α β:Type}(a:Ar X P α)(f:α->β)(g:β->α)(hgf:∀x,g (f x)=x):Ar X P β where
 put x:=a.put (g x)
 get v:=match a.get v with
  |some x=>some (f x)
  |none=>none
 ok:=by
  intro v x hg A m h xs hv;split at hg
  .rename_i y hy;cases hg;rw[hgf];exact a.ok hy hv
  .cases hg
def Good(X:mX)(P:LI1)(T:vw)(L:Nat)(gG:gU X.Γ):Prop:=∃N,∀n,N<=n->jX X P (lu P T L n) gG
def ab6:gU X.Γ:=fun _ _=>none
def bU{α β}(f:FuncId)(a:ArL X P α)(r:Ar X P β)(S:α->β)(pre:α->List Prop)(gG:gU X.Γ):gU X.Γ:=fun g vs=>
 match Nat.beq g f with
 |true=>match a.get vs with
  |some x=>some (r.put (S x),[],pre x)
  |none=>gG g vs
 |false=>gG g vs
theorem Good.nil:Good X P T L (ab6 (X:=X)):=⟨0,fun n _ f vs v ext ps h=>by cases h⟩
theorem Good.add{α β f a}{r:Ar X P β}{S}{pre:α->List Prop}{gG:gU X.Γ}(hg:Good X P T L gG)(hf:∀n,jX X P (lu P T L n) gG->∀x,(∀p∈pre x,p)->nU X P (lu P T L (n+1)) f (a.put x) (r.put (S x)) []):Good X P T L (bU f a r S pre gG):=by
 obtain⟨N,hN⟩:=hg;refine⟨N+1,fun n hn=>?_⟩;obtain⟨k,rfl⟩:∃k,n=k+1:=⟨n-1,by omega⟩;intro g vs v ext ps ho hp;unfold bU at ho;split at ho
 .rename_i e;have e:=a9Z e;subst e;split at ho
  .rename_i x hx;cases ho;intro A h first args cap G5 hv
   exact hf k (hN k (by omega)) x hp A h first args cap G5 (a.ok hx hv)
  .exact hN (k+1) (by omega) g vs v ext ps ho hp
 .exact hN (k+1) (by omega) g vs v ext ps ho hp
theorem Good.deep{α β f a}{r:Ar X P β}{S}{pre:α->List Prop}{gG:gU X.Γ}(d:Nat)(hg:Good X P T L gG)(hf:∀n,d<=n->(∀m,n-d<=m->jX X P (lu P T L m) gG)->∀x,(∀p∈pre x,p)->nU X P (lu P T L (n+1)) f (a.put x) (r.put (S x)) []):Good X P T L (bU f a r S pre gG):=by
 obtain⟨N,hN⟩:=hg;refine⟨N+d+1,fun n hn=>?_⟩;obtain⟨k,rfl⟩:∃k,n=k+1:=⟨n-1,by omega⟩;intro g vs v ext ps ho hp;unfold bU at ho;split at ho
 .rename_i e;have e:=a9Z e;subst e;split at ho
  .rename_i x hx;cases ho;intro A h first args cap G5 hv
   exact hf k (by omega) (fun m hm=>hN m (by omega)) x hp A h first args cap G5 (a.ok hx hv)
  .exact hN (k+1) (by omega) g vs v ext ps ho hp
 .exact hN (k+1) (by omega) g vs v ext ps ho hp
def Is{β}(r:Ar X P β)(s:β):Option (PV X.Γ)->Prop:=fun v=>v=some (r.put s)\/∃w,v=some w/\r.get w=some s
theorem akn{β}(hX:bT X P){n f gG}(hO:jX X P (lu P T L n) gG){vs an}{r:Ar X P β}{s o}(hk:(DV X P T gG (cZ X P (lu P T L n)) (CQ X P T (lu P T L n) L f 0) L f vs [] an).map frz=o) (ht:Fp (Is r s) an o):nU X P (lu P T L (n+1)) f vs (r.put s) []:=
 by
 obtain⟨v,h1,h2⟩:=ht.aO;rw[<-hk]at h1;obtain⟨⟨v,H⟩,h3,rfl⟩:=OT.IZ h1;rcases h2 with h2|⟨w,h2,h4⟩
 .exact Y4 hX (a0G hX (n:=n+1) (by omega) hO h3) h2
 .intro A h first args cap G5 hv
  obtain⟨x,h',m',c1,c2,c3,c4⟩:=Y4 hX (a0G hX (n:=n+1) (by omega) hO h3) h2 A h first args cap G5 hv
  exact⟨x,h',m',c1,c2,r.ok h4 c3,c4⟩
theorem Fp.rr{β}{r:Ar X P β}{s}:Fp (Is r s) (.n:PT X.Γ) (.ret (some (r.put s))):=.r (.inl rfl)
theorem Fp.rn{β}{r:Ar X P β}{s}(w)(h:r.get w=some s):Fp (Is r s) (.n:PT X.Γ) (.ret (some w)):=.r (.inr ⟨w,rfl,h⟩)
theorem Fp.ss{β}{r:Ar X P β}{c t e}{a b:PT X.Γ}{x y}(h1:Fp (Is r t) a x)(h2:Fp (Is r e) b y):Fp (Is r (if c=true then t else e)) (.s a b) (.br c x y):=
 .s (fun h=>by subst h;exact h1) (fun h=>by subst h;exact h2)
theorem Fp.sh{β}{r:Ar X P β}{c t e}{a b:PT X.Γ}{x y}(h1:c=true->Fp (Is r t) a x)(h2:c=false->Fp (Is r e) b y):Fp (Is r (if c=true then t else e)) (.s a b) (.br c x y):=
 .s (fun h=>by rw[a15 h];exact h1 h) (fun h=>by rw[a0S (by rw[h];simp)];exact h2 h)
theorem Fp.zh{β}{r:Ar X P β}{c t e}{a b:PT X.Γ}{x y}(h1:c=true->Fp (Is r t) a x)(h2:c=false->Fp (Is r e) b y):Fp (Is r (if c=true then t else e)) (.z c a b) (.br c x y):=
 .z (fun h=>by rw[a15 h];exact h1 h) (fun h=>by rw[a0S (by rw[h];simp)];exact h2 h)
theorem Fp.v{β}{r:Ar X P β}{s}(u)(h:u=s):Fp (Is r s) (.n:PT X.Γ) (.ret (some (r.put u))):=.r (.inl (by rw[h]))
theorem Fp.k{τ}{R:τ->Prop}{call fv v xs H H1 an o}(h:cZ X P call fv xs H v H1)(t:Fp R an o):Fp R (.a (.call v H1) an) (.o (cZ X P call fv xs H v H1) o):=.c v H1 h t
theorem Fp.fr{τ}{R:τ->Prop}{call fv v xs H H1 an o}(ks)(h:cZ X P call fv xs H v H1)(t:Fp R an o):Fp R (.a (.fr ks v H1) an) (.o (cZ X P call fv xs H v H1) o):=.kf ks v H1 h t
theorem Fp.RU{τ}{R:τ->Prop}{call fv v xs H H1 H2 an o}(ks rs)(h:cZ X P call fv xs H v H1)(t:Fp R an o):Fp R (.a (.RU ks rs v H2) an) (.o (cZ X P call fv xs H v H1) o):=.kg ks rs v H2 h t
def IsS{β}(r:Ar X P β)(s:β)(H:List (PB X.Γ)):PV X.Γ×List (PB X.Γ)->Prop:=fun v=>v=(r.put s,H)
theorem Fp.sr{β}{r:Ar X P β}{s H}:Fp (IsS r s H) (.n:PT X.Γ) (.ret (r.put s,H)):=.r rfl
theorem Fp.szh{β}{r:Ar X P β}{H c t e}{a b:PT X.Γ}{x y}(h1:c=true->Fp (IsS r t H) a x)(h2:c=false->Fp (IsS r e H) b y):Fp (IsS r (if c=true then t else e) H) (.z c a b) (.br c x y):=
 .z (fun h=>by rw[a15 h];exact h1 h) (fun h=>by rw[a0S (by rw[h];simp)];exact h2 h)
theorem Fp.ssh{β}{r:Ar X P β}{H c t e}{a b:PT X.Γ}{x y}(h1:c=true->Fp (IsS r t H) a x)(h2:c=false->Fp (IsS r e H) b y):Fp (IsS r (if c=true then t else e) H) (.s a b) (.br c x y):=
 .s (fun h=>by rw[a15 h];exact h1 h) (fun h=>by rw[a0S (by rw[h];simp)];exact h2 h)
theorem Ea{β}(hX:bT X P){n f gG}(hO:jX X P (lu P T L n) gG){first xs cap H H1 an}{r:Ar X P β}{s o}(hk:DV X P T gG (cZ X P (lu P T L n)) (CQ X P T (lu P T L n) L f H.length) L f (first++xs++cap) H an=o) (ht:Fp (IsS r s H1) an o):cZ X P (lu P T L (n+1)) (.fn f first cap) xs H (r.put s) H1:=by
 obtain⟨y,h1,h2⟩:=ht.aO;cases h2;rw[<-hk]at h1;exact a7B hX (n:=n+1) (by omega) hO h1
theorem O7(hX:bT X P){call gG}(hO:jX X P call gG){f first xs cap vs v ps H}(hv:views H (first++xs++cap)=some vs)(ho:gG f vs=some (v,[],ps))(hp:∀p∈ps,p)(hl:yD v=false) :cZ X P call (.fn f first cap) xs H (shift H.length v) H:=by
 intro A m h tf rJ hr hf hx;cases hf with
 |gone hi _ _=>simp[bF]at hi
 |fn p1 p2 p3 p4=>
  obtain⟨w,h1,m1,e1,e2,e3,e4,e5⟩:=IX hX (hO f vs v [] ps ho hp) hr hv (ext':=[]) rfl ⟨p1,p2⟩ hx ⟨p3,p4⟩;simp only[hl,List.any_nil,Bool.or_self,a2H,a3S,a6k]at e2;exact⟨w,h1,[],m1,e1,e2,e3,e4,e5,fun b hb=>by cases hb⟩
def a1{α}(a:Ar X P α):ArL X P α:=akm a
def a2{α β}(a:Ar X P α)(b:Ar X P β):ArL X P (α×β):=Nk a (akm b)
def a3{α β γ}(a:Ar X P α)(b:Ar X P β)(c:Ar X P γ):ArL X P (α×β×γ):=Nk a (a2 b c)
def a4{α β γ δ}(a:Ar X P α)(b:Ar X P β)(c:Ar X P γ)(d:Ar X P δ):ArL X P (α×β×γ×δ):=Nk a (a3 b c d)
def np{α:Type}:α->List Prop:=fun _=>[]
end
end Pv
namespace Tw
def nI{α σ ρ:Type}(step:Nat->α->σ->σ⊕ρ):List α->Nat->σ->σ⊕ρ
 | [],_,s=>.inl s
 |a::l,i,s=>match step i a s with
  |.inl s'=>nI step l (i+1) s'
  |.inr r=>.inr r
def jO{σ ρ:Type}:σ⊕ρ->Bool
 |.inl _=>true
 |.inr _=>false
def akp{σ ρ:Type}(d:σ):σ⊕ρ->σ
 |.inl s=>s
 |.inr _=>d
def Eb{σ ρ:Type}(d:ρ):σ⊕ρ->ρ
 |.inl _=>d
 |.inr r=>r
def aqJ{σ:Type}:σ⊕Empty->σ
 |.inl s=>s
end Tw
namespace Pv
open Go Tw
def uY:Code->List Code
 |.seq a b=>uY a++uY b
 |.cond _ a b=>uY a++uY b
 |.block _ b=>uY b
 |.loop b=>b::uY b
 |.scope b=>uY b
 |.rangeFunc _ _ a b=>uY a++uY b
 |_=>[]
def U0(P:LI1)(f k:Nat):Code:=
 match UO P f with
 |some t=>(uY t.body).getD k .skip
 |none=>.skip
theorem yV{k}(h:k<=ah):i64.wrap ((k:Int)+1)=((k+1:Nat):Int):=by simp only[IntKind.wrap,IntKind.bits,IntKind.signed];unfold ah at h;have:((k:Int)+1)%(2^64:Int)=(k:Int)+1:=a9u (by omega) (by omega);simp only[this];rw[a0S (by simp;omega)];omega
theorem aF{k n:Nat}(h:k<n):fZ k n:=⟨by omega,by omega⟩
theorem aV{k n:Nat}(h:k<n):decide ((k:Int)<(n:Int))=true:=by simp[h]
theorem dZ(n:Nat):decide ((n:Int)<(n:Int))=false:=by simp
section
variable{X:mX}{P:LI1}{T:vw}{L:Nat}{f nt B:Nat}{iG:Bool}{call:dM}{b:Code}{σ α ρ:Type}
theorem Fp.w{τ}{R:τ->Prop}{c e s s' an o}(h:dQ X P T call L f iG nt B c s e s')(t:Fp R an o):Fp R (.a (.lg [] e s') an) (.o (dQ X P T call L f iG nt B c s e s') o):=.l [] e s' h t
theorem Fp.wG{τ}{R:τ->Prop}(gs){c e s s' an o}(h:dQ X P T call L f iG nt B c s e s')(t:Fp R an o):Fp R (.a (.lg gs e s') an) (.o (dQ X P T call L f iG nt B c s e s') o):=.l gs e s' h t
theorem Fp.go{n e s s'}(h:dN X P T call L f iG nt B b n s' e s):Fp (Rnd X P T call L f iG nt B b n e s) (.n:PT X.Γ) (.ret (.norm,s')):=Fp.r (v:=(Ex.norm,s')) h
theorem Fp.Zx{n e s s'}(gs)(h:dN X P T call L f iG nt B b n s' e s):Fp (Rnd X P T call L f iG nt B b n e s) (.a (.lg gs .norm ⟨[],[],[]⟩) .n:PT X.Γ) (.ret (.norm,s')):=Fp.g (v:=(Ex.norm,s')) gs h
theorem Fp.ex{n i s}:Fp (Rnd X P T call L f iG nt B b n (.exit i) s) (.n:PT X.Γ) (.ret (.exit i,s)):=Fp.r (v:=(Ex.exit i,s)) ⟨rfl,rfl⟩
def cont(out:σ⊕ρ->Ex×bJ X.Γ)(g:Nat->α->σ->σ⊕ρ)(l:List α)(i:Nat):σ⊕ρ->Ex×bJ X.Γ
 |.inl s=>out (nI g l i s)
 |.inr r=>out (.inr r)
def Rn(X:mX)(P:LI1)(T:vw)(call:dM)(L f:Nat)(iG:Bool)(nt B:Nat)(b:Code)(n:Nat){τ:Type}(K:τ->Ex×bJ X.Γ)(x:τ):Ex×bJ X.Γ->Prop:=Rnd X P T call L f iG nt B b n (K x).1 (K x).2
section
variable{τ:Type}{K:τ->Ex×bJ X.Γ}{n:Nat}
theorem Fp.ls{c t e}{a d:PT X.Γ}{x y}(h1:Fp (Rn X P T call L f iG nt B b n K t) a x)(h2:Fp (Rn X P T call L f iG nt B b n K e) d y):Fp (Rn X P T call L f iG nt B b n K (if c=true then t else e)) (.s a d) (.br c x y):=
 .s (fun h=>by subst h;exact h1) (fun h=>by subst h;exact h2)
theorem Fp.nx{x s'}(h:dN X P T call L f iG nt B b n s' (K x).1 (K x).2):Fp (Rn X P T call L f iG nt B b n K x) (.n:PT X.Γ) (.ret (.norm,s')):=Fp.r (v:=(Ex.norm,s')) h
theorem Fp.nxG{x s'}(gs)(h:dN X P T call L f iG nt B b n s' (K x).1 (K x).2):Fp (Rn X P T call L f iG nt B b n K x) (.a (.lg gs .norm ⟨[],[],[]⟩) .n:PT X.Γ) (.ret (.norm,s')):=Fp.g (v:=(Ex.norm,s')) gs h
theorem Fp.ou{x}(h:(K x).1≠.norm):Fp (Rn X P T call L f iG nt B b n K x) (.n:PT X.Γ) (.ret (K x)):=by
 refine Fp.r ?_;unfold Rn Rnd;split
 .rename_i e;rw[e]at h;exact absurd rfl h
 rename_i e;rw[e];exact⟨rfl,rfl⟩
theorem Fp.ouG{x}(gs)(h:(K x).1≠.norm):Fp (Rn X P T call L f iG nt B b n K x) (.a (.lg gs .norm ⟨[],[],[]⟩) .n:PT X.Γ) (.ret (K x)):=by
 refine Fp.g gs ?_;unfold Rn Rnd;split
 .rename_i e;rw[e]at h;exact absurd rfl h
 rename_i e;rw[e];exact⟨rfl,rfl⟩
end
theorem Y5{l}(d){st:Int->σ->bJ X.Γ}{g:Nat->α->σ->σ⊕ρ}{out s0 w}(Inv:Nat->σ->Prop)(h0:iy X (T.fC f (eu b)) w=st 0 s0)(hl:l.length<=ah)(hL:ah<L)(hi:Inv 0 s0)(hs:∀(k) (s) (n),k<l.length->Inv k s->(∀s1,Inv (k+1) s1->dN X P T call L f iG nt B b n (st (i64.wrap (k+1)) s1) (cont out g (l.drop (k+1)) (k+1) (.inl s1)).1 (cont out g (l.drop (k+1)) (k+1) (.inl s1)).2) ->dN X P T call L f iG nt B b (n+1) (st k s) (cont out g (l.drop (k+1)) (k+1) (g k (l.getD k d) s)).1 (cont out g (l.drop (k+1)) (k+1) (g k (l.getD k d) s)).2)(ho:∀s,Inv l.length s->dN X P T call L f iG nt B b 1 (st l.length s) (out (.inl s)).1 (out (.inl s)).2) :dQ X P T call L f iG nt B (.loop b) w (out (nI g l 0 s0)).1 (out (nI g l 0 s0)).2:=by
 have key:∀(m k:Nat) (s:σ),k+m=l.length->Inv k s->dN X P T call L f iG nt B b (m+1) (st k s) (out (nI g (l.drop k) k s)).1 (out (nI g (l.drop k) k s)).2:=by
  intro m
  induction m with
  |zero=>
   intro k s hk hr;have:k=l.length:=(by omega);subst this;rw[List.drop_length];exact ho s hr
  |succ m ih=>
   intro k s hk hr;have aS:k<l.length:=(by omega);have h1:=hs k s (m+1) aS hr fun s1 h=>by have:=ih (k+1) s1 (by omega) h;rw[yV (by omega)];exact this
   have hd:l.getD k d=l[k]:=(by simp[List.getD,a0A aS]);rw[a6j aS];simp only[nI];rw[hd]at h1;cases hg:g k l[k] s with
   |inl s1=>rw[hg]at h1;exact h1
   |inr r=>rw[hg]at h1;exact h1
 exact A8 (key l.length 0 s0 (by omega) hi) h0 (by omega)
theorem kW{c w R}{out:σ⊕ρ->Ex×bJ X.Γ}(h:dQ X P T call L f iG nt B c w (out R).1 (out R).2)(d)(hR:jO R=true):dQ X P T call L f iG nt B c w (out (.inl (akp d R))).1 (out (.inl (akp d R))).2:=by
 cases R with
 |inl s=>exact h
 |inr r=>cases hR
theorem kX{c w R}{out:σ⊕ρ->Ex×bJ X.Γ}(h:dQ X P T call L f iG nt B c w (out R).1 (out R).2)(d)(hR:jO R=false):dQ X P T call L f iG nt B c w (out (.inr (Eb d R))).1 (out (.inr (Eb d R))).2:=by
 cases R with
 |inl s=>cases hR
 |inr r=>exact h
end
def a0H{Γ}:PE Γ->Bool
 |.val _=>true
 |_=>false
def uZ{Γ}(env:List (Nat×PE Γ)):List Nat->List (PV Γ)->List (Nat×PE Γ)
 |p::ps,v::vs=>uZ ((p,.val v)::env) ps vs
 |_,_=>env
section
variable{X:mX}{P:LI1}{T:vw}{A W:Nat->Prop}{m m':List MB}{h h':List HB}{L f nt B:Nat}
theorem a7E{env env'}(he:kR X P A m h env env')(hv:(env.all fun p=>a0H p.2)=true):env'.all isVal=true:=by
 induction he with
 |nil=>rfl
 |cons h1 _ ih=>
  rename_i k v x r r' _;simp only[ac9,a2o]at hv ⊢;refine⟨?_,ih hv.2⟩;cases v with
  |val v=>obtain⟨y,rfl,_⟩:=gV h1;rfl
  |_=>simp[a0H]at hv
theorem U1:∀{ps} {vs} {xs:List TV} {env:List (Nat×PE X.Γ)} {env':List (Nat×EV)},kR X P A m h env env'->bZ X P A m h vs xs->kR X P A m h (uZ env ps vs) (uo env' ps xs)
 | [],vs,xs,_,_,he,hv=>by simpa[uZ,uo]using he
 |p::ps,[],xs,_,_,he,hv=>by rw[hv.inv0];simpa[uZ,uo]using he
 |p::ps,v::vs,xs,_,_,he,hv=>by obtain⟨x,r,rfl,h1,h2⟩:=hv.inv;simp only[uZ,uo];exact U1 (kR.cons (v:=.val v) (x:=.val x) h1 he) h2
theorem J3(hX:bT X P){n l xs H env ps vV body kC s1 s2 e}{f' nt':Nat} {env' ps' a' b' adp} {f'' agj:Nat} {adA agk a'' b''}(hl:H[l]? = some (.loop true f nt env ps vV body kC)) (hlen:xs.length=ps.length) (hps:(ps.all fun p=>decide (p<nt))=true)(h1:dQ X P T (lu P T L n) L f true nt H.length vV ⟨uZ env ps xs,[],H⟩ .norm s1) (hl1:s1.heap[l]? = some (.loop true f' nt' env' ps' a' b' adp))(h2:dQ X P T (lu P T L n) L f true nt H.length body { s1 with heap:=s1.heap.set l (.loop false f' nt' env' ps' a' b' none) } e s2)(SI:s2.heap[l]? = some (.loop false f'' agj adA agk a'' b'' none)) :cZ X P (lu P T L (n+1)) (.lJ l) xs H (.bool (qp e)) (s2.heap.set l (.loop (qp e) f'' agj adA agk a'' b'' (uq e))):=by
 intro A m h tf rJ hr hf hx;have aS:l<H.length:=(a0u.1 hl).1;obtain⟨mb,k1,k2⟩:=hr.at_ l _ hl;cases mb with
 |dF _=>exact k2.elim
 |jL _=>exact k2.elim
 |gone=>exact k2.elim
 |gW c=>
 obtain⟨te,k3,k4⟩:=k2;have DY:c∈bn m:=bg k1 rfl;cases hf with
 |gone hi LU _=>simp only[bF,a08]at hi;subst hi;rw[k1]at LU;cases LU
 |lJ hy=>
 rw[k1]at hy;cases hy;have hS:SR X P A (fun b=>b∈bn m) h.length m ⟨uZ env ps xs,[],H⟩ ⟨uo te ps rJ,[],h,[]⟩:=
  ⟨⟨hr,rfl,fun k cs hk=>by simp at hk,U1 (env:=env) (env':=te) k4 hx⟩,fun b hb=>.inl hb,fun b hb=>(by cases hb),a1j _⟩
 obtain⟨t1,m1,x1,x2,x3,x4⟩:=h1 A _ _ m _ hS;have at1:∀{M:List MB} {S:bJ X.Γ} {TS:St} {W:Nat->Prop} {rd:Bool} {f0 n0:Nat} {ee:List (Nat×PE X.Γ)} {pp:List Nat} {aa bb:Code} {pe:Option Code},SR X P A W h.length M S TS->O5 H.length m M->S.heap[l]? = some (.loop rd f0 n0 ee pp aa bb pe)->M[l]? = some (.gW c)/\∃te,TS.heap[c]? = some (.loop rd f0 n0 te pp aa bb pe)/\kR X P (AA A M) M TS.heap ee te:=by
  intro M S TS W rd f0 n0 ee pp aa bb pe hS hU hh;obtain⟨mb,j1,j2⟩:=hS.st.heap.at_ l _ hh;rcases hU l _ aS k1 with e|e
  .rw[e]at j1;cases j1;obtain⟨te,j3,j4⟩:=j2;exact⟨e,te,j3,j4⟩
  .rw[e]at j1;cases j1;exact j2.elim
 have akr:∀{M:List MB} {S:bJ X.Γ} {TS:St} {W:Nat->Prop} {rd:Bool} {f0 n0:Nat} {ee:List (Nat×PE X.Γ)} {pp:List Nat} {aa bb:Code} {pe:Option Code} (rd':Bool) (pe':Option Code),SR X P A W h.length M S TS->O5 H.length m M->S.heap[l]? = some (.loop rd f0 n0 ee pp aa bb pe)->∃te,TS.heap[c]? = some (.loop rd f0 n0 te pp aa bb pe)/\HR X P A M (S.heap.set l (.loop rd' f0 n0 ee pp aa bb pe')) (TS.heap.set c (.loop rd' f0 n0 te pp aa bb pe'))/\Fr M TS.heap M (TS.heap.set c (.loop rd' f0 n0 te pp aa bb pe')):=by intro M S TS W rd f0 n0 ee pp aa bb pe rd' pe' hS hU hh;obtain⟨j1,te,j3,j4⟩:=at1 hS hU hh;obtain⟨s1,s2⟩:=hS.st.heap.set (i:=l) (c:=c) (pb:=.loop rd' f0 n0 ee pp aa bb pe') (hb:=.loop rd' f0 n0 te pp aa bb pe') j1 rfl (fun cs hc=>by unfold aU at hc;rw[j3]at hc;cases hc) (fun hF=>⟨te,by rw[a1C (a0u.1 j3).1],j4.step hF .refl⟩);exact⟨te,j3,s1,s2⟩
 obtain⟨te1,y1,y2,y3⟩:=akr false none x2 x4 hl1;have hS1:SR X P A (fun b=>b∈bn m) h.length m1 { s1 with heap:=s1.heap.set l (.loop false f' nt' env' ps' a' b' none) } { t1 with heap:=t1.heap.set c (.loop false f' nt' te1 ps' a' b' none),ws:=FB h.length c t1.ws }:=by
  have q:=x2.st.step y2 y3 .refl;refine⟨⟨q.heap,q.llen,q.loc,q.env⟩,x2.own,fun b hb=>?_,a5O x2.fl y3.len⟩;rcases wV (ks:=[.h c]) hb with k|⟨k,_⟩
  .exact x2.ws b k
  .simp at k;subst k;exact DY
 obtain⟨t2,m2,z1,z2,z3,z4⟩:=h2 A _ _ m1 _ hS1;obtain⟨te2,u1,u2,u3⟩:=akr (qp e) (uq e) z2 (x4.trans z4) SI;have hF:=(x3.trans y3).trans (z3.trans u3);refine⟨.bool (qp e),t2.heap.set c (.loop (qp e) f'' agj te2 agk a'' b'' (uq e)),FB h.length c t2.ws,m2,?_,u2,.bool _,hF,fun i mb hi=>(x4.trans z4) i mb ?_ hi,fun b hb=>?_⟩
 .have hl':rJ.length=ps.length:=by rw[<-hx.1,hlen]
  simp only[lu,ap,Oy,k3,hl',hps,adr,a2l,x1,y1,z1,u1]
 .rw[<-hr.len];exact(a0u.1 hi).1
 .rcases wV (ks:=[.h c]) hb with k|⟨k,_⟩
  .exact z2.ws b k
  .simp at k;subst k;exact DY
abbrev gB(B:Nat):Nat->Option Nat:=fun i=>if i<B then some i else(xJ [] i).map (·+B)
theorem Aa{g}:∀{a:List (PV X.Γ)},(∀(i:Nat) x,a[i]? = some x->fQ g x=some x)->fQ.ql g a=some a
 | [],_=>rfl
 |c::cs,h=>by simp only[fQ.ql,h 0 c rfl,Aa (a:=cs) fun i x hi=>h (i+1) x (by simpa using hi)]
theorem J4{α β:Type}{a:List α}{b:List β}(hl:a.length=b.length){i:Nat}{x}(hi:a[i]? = some x):∃y,b[i]? = some y:=by
 have:i<b.length:=by rw[<-hl];exact(a0u.1 hi).1
 exact⟨b[i],a0A this⟩
theorem VJ{v x}(hv:VR X P A m h v x){B}(hB:m.length<=B):fQ (gB B) v=some v:=by
 have key:∀{b:Nat} {mb:MB},m[b]? = some mb->gB B b=some b:=fun e=>by have:=(a0u.1 e).1;simp only[gB];rw[a15 (by omega)]
 induction hv with
 |bool=>rfl
 |lit=>rfl
 |int=>rfl
 |str=>rfl
 |nil=>rfl
 |ptr e=>simp only[fQ,key e,a1l]
 |aP e=>simp only[fQ,key e,a1l]
 |own e _=>simp only[fQ,key e,a1l]
 |win e _ _=>simp only[fQ,key e,a1l]
 |D7 e=>simp only[fQ,key e,a1l]
 |Hz e=>simp only[fQ,key e,a1l]
 |Kv e=>simp only[fQ,key e,a1l]
 |map e=>simp only[fQ,key e,a1l]
 |iter e=>simp only[fQ,key e,a1l]
 |lJ e=>simp only[fQ,key e,a1l]
 |row e _ _=>simp only[fQ,key e,a1l]
 |qx=>rfl
 |dF=>rfl
 |el=>rfl
 |fn h1 _ h3 _ i2 i4=>
  simp only[fQ];rw[Aa fun i x hi=>let ⟨y,hy⟩:=J4 h1 hi;i2 i x y hi hy,Aa fun i x hi=>let ⟨y,hy⟩:=J4 h3 hi;i4 i x y hi hy]
 |agg h1 _ i2=>simp only[fQ];rw[Aa fun i x hi=>let ⟨y,hy⟩:=J4 h1 hi;i2 i x y hi hy];rfl
 |dB h1 _ i2=>simp only[fQ];rw[Aa fun i x hi=>let ⟨y,hy⟩:=J4 h1 hi;i2 i x y hi hy];rfl
 | @gone v i x hi e _=>
  have:=key (b:=i) (mb:=(m[i]?).getD .gone) (by cases q:m[i]? with|none=>rw[q]at e;cases e|some y=>rfl);cases v<;>simp only[bF,a08]at hi<;>first|(subst hi;simp only[fQ,this,a1l])|cases hi
theorem a2w{v x}(hv:bZ X P A m h v x){B}(hB:m.length<=B):fQ.ql (gB B) v=some v:=
 Aa fun i a hi=>let ⟨y,hy⟩:=J4 hv.1 hi;VJ (hv.2 i a y hi hy) hB
theorem a7F{v x}(hv:kR X P A m h v x){B}(hB:m.length<=B):qj (gB B) v=some v:=by
 induction hv with
 |nil=>rfl
 |cons h1 _ ih=>
  rename_i k v x r r' _;simp only[qj,ih];cases v with
  |val v=>obtain⟨y,rfl,h2⟩:=gV h1;simp only[PG,VJ h2 hB,a1l]
  |ent r j v=>
   obtain⟨c,y,rfl,h2,_⟩:=NV h1;have:=VJ h2 hB;simp only[fQ,a0x,PV.map.injEq,exists_eq_right]at this;simp only[PG,this,a1l]
  |Fz r j=>
   obtain⟨c,rfl,h2⟩:=NW h1;have:=VJ h2 hB;simp only[fQ,a0x,PV.map.injEq,exists_eq_right]at this;simp only[PG,this,a1l]
  |_=>rfl
theorem ab8{b mb}(hb:BR X P A m h b mb){B}(hB:m.length<=B):zW (gB B) b=some b:=by
 cases b with
 |cells cs=>
  cases mb with
  |gW c=>obtain⟨_,_,h2⟩:=hb;simp only[zW,a2w h2 hB,a1l]
  |_=>exact hb.elim
 |aG cs=>
  cases mb with
  |jL c=>obtain⟨_,_,_,h2⟩:=hb;simp only[zW,a2w h2 hB,a1l]
  |_=>exact hb.elim
 |map es=>rfl
 |dD r n seen=>
  cases mb with
  |gW c=>
   obtain⟨_,_,h2,_⟩:=hb;obtain⟨mb,h3⟩:=a5X.1 h2;have aS:r<B:=aa8 (a0u.1 h3).1 hB;have:gB B r=some r:=(by simp[gB,aS]);simp only[zW,this,a1l]
  |_=>exact hb.elim
 |loop=>
  cases mb with
  |gW c=>obtain⟨_,_,h2⟩:=hb;simp only[zW,a7F h2 hB,a1l]
  |_=>exact hb.elim
 |_=>rfl
theorem Y6{B}:∀{H:List (PB X.Γ)},(∀(i:Nat) b,H[i]? = some b->zW (gB B) b=some b)->oD (gB B) H=some H
 | [],_=>rfl
 |c::cs,h=>by simp only[oD,h 0 c rfl,Y6 (H:=cs) fun i x hi=>h (i+1) x (by simpa using hi)]
theorem cZ.drop(hX:bT X P){call fv xs H H1 v}(hs:cZ X P call fv xs H v H1)(h1:H1.take H.length=H)(hv:fQ (gB H.length) v=some v):cZ X P call fv xs H v H:=by
 intro A m h tf rJ hr hf hx;obtain⟨w,h',ws,m1,c1,c2,c3,c4,c5,c6⟩:=hs A m h tf rJ hr hf hx;have hg:lQ H.length [.gc []] (⟨[(0,.val v)],[],H1⟩:bJ X.Γ)=some ⟨[(0,.val v)],[],H⟩:=by
  have hb:oD (gB H.length) H=some H:=Y6 fun i b hi=>let ⟨mb,_,h2⟩:=hr.at_ i b hi;ab8 h2 (aha hr.len)
  have hl:H.length<=H1.length:=by have:=congrArg List.length h1;simp at this;omega
  have e:qj (gB H.length) [(0,PE.val v)]=some [(0,.val v)]:=by simp only[qj,PG,hv,a1l]
  have rG:oD (fun i=>if i<H.length then some i else(xJ [] i).map (·+H.length)) H=some H:=hb;have e':qj (fun i=>if i<H.length then some i else(xJ [] i).map (·+H.length)) [(0,PE.val v)]=some [(0,.val v)]:=e;simp only[lQ,CP,List.all_nil,a6g,decide_true,Bool.and_self,ady,hl,a2l,e',XJ,h1,rG,DU,oD,a6k]
 obtain⟨m2,q1,q2,q3⟩:=mM hX hg A (fun _=>True) 0 m1 ⟨[(0,.val w)],[],h',[]⟩ ⟨⟨c2,rfl,fun k cs hk=>by simp at hk,.cons c3 .nil⟩,fun b _=>.inl trivial,fun b hb=>(by cases hb),a5D _⟩;obtain⟨w',e1,e2⟩:=pJ q1.st.env (t:=0) (v:=.val v) rfl;simp only[dO,a2l,a08]at e1;subst e1;refine⟨w,h',ws,m2,c1,q1.st.heap,e2,c4.trans q2,fun i mb hi=>?_,c6⟩;have aS:i<H.length:=by rw[<-hr.len];exact(a0u.1 hi).1
 rcases c5 i mb hi with g|g
 .exact q3 i mb aS g
 rcases q3 i _ aS g with g|g<;>exact .inr g
end
section
variable{X:mX}{P:LI1}
theorem cZ.frame(hX:bT X P){call ks H' Hp H H1 Rt fv fv' v v' xs xs'}(hs:cZ X P call fv xs H v H1)(jJ:ks.Nodup) (hp:DU H' ks=some Hp) (hH:oD (xJ ks) Hp=some H) (hf:fQ (xJ ks) fv'=some fv) (hx:fQ.ql (xJ ks) xs'=some xs)(hv:fQ (bk ks H'.length) v=some v') (hH1:oD (bk ks H'.length) H1=some Rt) (hro:Kt (H1.drop ks.length)=true) :cZ X P call fv' xs' H' v' (putAt ks Rt H'++Rt.drop ks.length):=fun A m' h tf rJ hr hf' Gv=>by
 obtain⟨w,h1,ws,m1,c1,c2,c3,c4,c5,c6⟩:=KF hX hs.w jJ hp hH hf hx hv hH1 hro A m' h tf rJ hr hf' Gv;exact⟨w,h1,ws,m1,c1,c2,c3,c4,c5,fun b hb=>by obtain⟨_,k,_,_,mb,h8,h9⟩:=c6 b hb;exact bg h8 h9⟩
end
def itF{σ ρ:Type}(g:σ->σ⊕ρ):Nat->σ->Option ρ
 | 0,_=>none
 |k+1,s=>match g s with
  |.inl s1=>itF g k s1
  |.inr r=>some r
section
variable{X:mX}{P:LI1}{T:vw}{L:Nat}{f nt B:Nat}{iG:Bool}{call:dM}{b:Code}{σ ρ:Type}
def Ec(out:ρ->Ex×bJ X.Γ)(r:ρ):σ⊕ρ->Ex×bJ X.Γ
 |.inl _=>out r
 |.inr r'=>out r'
theorem a7G{st:σ->bJ X.Γ}{g:σ->σ⊕ρ}{out}(Inv:σ->Prop)(hi:∀s s1,Inv s->g s=.inl s1->Inv s1)(hs:∀s n r,Inv s->(∀s1,g s=.inl s1->dN X P T call L f iG nt B b n (st s1) (out r).1 (out r).2)->dN X P T call L f iG nt B b (n+1) (st s) (Ec out r (g s)).1 (Ec out r (g s)).2) :∀{k} {s} {r},Inv s->itF g k s=some r->dN X P T call L f iG nt B b k (st s) (out r).1 (out r).2
 | 0,s,r,_,h=>by cases h
 |k+1,s,r,hv,h=>by
  simp only[itF]at h;have h1:=hs s k r hv fun s1 h1=>by rw[h1]at h;exact a7G Inv hi hs (hi s s1 hv h1) h
  cases hg:g s with
  |inl s1=>rw[hg]at h1;exact h1
  |inr r'=>rw[hg]at h1 h;simp only[a08]at h;subst h;exact h1
theorem agl{st:σ->bJ X.Γ}{g:σ->σ⊕ρ}{out}(Inv:σ->Prop){k s r w}(hr:itF g k s=some r)(h0:iy X (T.fC f (eu b)) w=st s)(hk:k<=L)(hv:Inv s)(hi:∀s s1,Inv s->g s=.inl s1->Inv s1)(hs:∀s n r,Inv s->(∀s1,g s=.inl s1->dN X P T call L f iG nt B b n (st s1) (out r).1 (out r).2)->dN X P T call L f iG nt B b (n+1) (st s) (Ec out r (g s)).1 (Ec out r (g s)).2) :dQ X P T call L f iG nt B (.loop b) w (out r).1 (out r).2:=A8 (a7G Inv hi hs hv hr) h0 hk
end
section
variable{X:mX}{P:LI1}{T:vw}{L:Nat}
def Y7{α}(f:FuncId)(a:ArL X P α)(v:α->PV X.Γ)(ext:α->List (PB X.Γ))(pre:α->List Prop)(gG:gU X.Γ):gU X.Γ:=fun g vs=>
 match Nat.beq g f with
 |true=>match a.get vs with
  |some x=>some (v x,ext x,pre x)
  |none=>gG g vs
 |false=>gG g vs
theorem Good.U2{α f}{a:ArL X P α}{v ext pre gG}(d)(hg:Good X P T L gG)(hf:∀n,d<=n->(∀m,n-d<=m->jX X P (lu P T L m) gG)->∀x,(∀p∈pre x,p)->nU X P (lu P T L (n+1)) f (a.put x) (v x) (ext x)):Good X P T L (Y7 f a v ext pre gG):=by
 obtain⟨N,hN⟩:=hg;refine⟨N+d+1,fun n hn=>?_⟩;obtain⟨k,rfl⟩:∃k,n=k+1:=⟨n-1,by omega⟩;intro g vs v ext ps ho hp;unfold Y7 at ho;split at ho
 .rename_i e;have e:=a9Z e;subst e;split at ho
  .rename_i x hx;cases ho;intro A h first args cap G5 hv
   exact hf k (by omega) (fun m hm=>hN m (by omega)) x hp A h first args cap G5 (a.ok hx hv)
  .exact hN (k+1) (by omega) g vs v ext ps ho hp
 .exact hN (k+1) (by omega) g vs v ext ps ho hp
def IsE(v:PV X.Γ)(H:List (PB X.Γ)):PV X.Γ×List (PB X.Γ)->Prop:=fun y=>y=(v,H)
theorem Fp.er{v:PV X.Γ}{H}:Fp (IsE v H) (.n:PT X.Γ) (.ret (v,H)):=.r rfl
theorem Ac(hX:bT X P){n f gG}(hO:jX X P (lu P T L n) gG){vs an v H o}(hk:DV X P T gG (cZ X P (lu P T L n)) (CQ X P T (lu P T L n) L f 0) L f vs [] an=o) (ht:Fp (IsE v H) an o):nU X P (lu P T L (n+1)) f vs v H:=by
 obtain⟨y,h1,h2⟩:=ht.aO;cases h2;rw[<-hk]at h1;exact a0G hX (n:=n+1) (by omega) hO h1
theorem kH(hX:bT X P){n f gG}(hO:jX X P (lu P T L n) gG){first xs cap H H1 v an o}(hk:DV X P T gG (cZ X P (lu P T L n)) (CQ X P T (lu P T L n) L f H.length) L f (first++xs++cap) H an=o) (ht:Fp (IsE v H1) an o):cZ X P (lu P T L (n+1)) (.fn f first cap) xs H v H1:=by
 obtain⟨y,h1,h2⟩:=ht.aO;cases h2;rw[<-hk]at h1;exact a7B hX (n:=n+1) (by omega) hO h1
end
theorem Good.U3{X P T L α β f a}{r:Ar X P β}{S}{pre:α->List Prop}{gG Y8:gU X.Γ}(d:Nat)(hg:Good X P T L gG)(hg2:Good X P T L Y8)(hf:∀n,d<=n->(∀m,n-d<=m->jX X P (lu P T L m) gG)->(∀m,n-d<=m->jX X P (lu P T L m) Y8)->∀x,(∀p∈pre x,p)->nU X P (lu P T L (n+1)) f (a.put x) (r.put (S x)) []):Good X P T L (bU f a r S pre gG):=by
 obtain⟨N2,hN2⟩:=hg2;obtain⟨M,hM⟩:=hg;refine⟨M+N2+d+1,fun n hn=>?_⟩;obtain⟨k,rfl⟩:∃k,n=k+1:=⟨n-1,by omega⟩;intro g vs v ext ps ho hp;unfold bU at ho;split at ho
 .rename_i e;have e:=a9Z e;subst e;split at ho
  .rename_i x hx;cases ho;intro A h first args cap G5 hv
   exact hf k (by omega) (fun m hm=>hM m (by omega)) (fun m hm=>hN2 m (by omega)) x hp A h first args cap G5 (a.ok hx hv)
  .exact hM (k+1) (by omega) g vs v ext ps ho hp
 .exact hM (k+1) (by omega) g vs v ext ps ho hp
section
variable{X:mX}{P:LI1}
theorem cZ.gs(hX:bT X P){call fv xs H H1 H2 v v'}(hs:cZ X P call fv xs H v H1)(gs)(hg:lQ H.length gs (⟨[(0,.val v)],[],H1⟩:bJ X.Γ)=some ⟨[(0,.val v')],[],H2⟩):cZ X P call fv xs H v' H2:=by
 intro A m h tf rJ hr hf hx;obtain⟨w,h',ws,m1,c1,c2,c3,c4,c5,c6⟩:=hs A m h tf rJ hr hf hx;obtain⟨m2,q1,q2,q3⟩:=mM hX hg A (fun _=>True) 0 m1 ⟨[(0,.val w)],[],h',[]⟩ ⟨⟨c2,rfl,fun k cs hk=>by simp at hk,.cons c3 .nil⟩,fun b _=>.inl trivial,fun b hb=>(by cases hb),a5D _⟩;obtain⟨w',e1,e2⟩:=pJ q1.st.env (t:=0) (v:=.val v') rfl;simp only[dO,a2l,a08]at e1;subst e1;refine⟨w,h',ws,m2,c1,q1.st.heap,e2,c4.trans q2,fun i mb hi=>?_,c6⟩;have aS:i<H.length:=by rw[<-hr.len];exact(a0u.1 hi).1
 rcases c5 i mb hi with g|g
 .exact q3 i mb aS g
 rcases q3 i _ aS g with g|g<;>exact .inr g
theorem cZ.cut(hX:bT X P){call fv xs H H1 H2 v}(hs:cZ X P call fv xs H v H1)(h1:H1.take H.length=H2)(hb:oD (gB H.length) H2=some H2)(hl:decide (H.length<=H1.length)=true)(hv:fQ (gB H.length) v=some v):cZ X P call fv xs H v H2:=by
 intro A m h tf rJ hr hf hx;obtain⟨w,h',ws,m1,c1,c2,c3,c4,c5,c6⟩:=hs A m h tf rJ hr hf hx;have hl:=a7j hl;have hg:lQ H.length [.gc []] (⟨[(0,.val v)],[],H1⟩:bJ X.Γ)=some ⟨[(0,.val v)],[],H2⟩:=by
  have e:qj (gB H.length) [(0,PE.val v)]=some [(0,.val v)]:=by simp only[qj,PG,hv,a1l]
  have rG:oD (fun i=>if i<H.length then some i else(xJ [] i).map (·+H.length)) H2=some H2:=hb;have e':qj (fun i=>if i<H.length then some i else(xJ [] i).map (·+H.length)) [(0,PE.val v)]=some [(0,.val v)]:=e;simp only[lQ,CP,List.all_nil,a6g,decide_true,Bool.and_self,ady,hl,a2l,e',XJ,h1,rG,DU,oD,a6k]
 obtain⟨m2,q1,q2,q3⟩:=mM hX hg A (fun _=>True) 0 m1 ⟨[(0,.val w)],[],h',[]⟩ ⟨⟨c2,rfl,fun k cs hk=>by simp at hk,.cons c3 .nil⟩,fun b _=>.inl trivial,fun b hb=>(by cases hb),a5D _⟩;obtain⟨w',e1,e2⟩:=pJ q1.st.env (t:=0) (v:=.val v) rfl;simp only[dO,a2l,a08]at e1;subst e1;refine⟨w,h',ws,m2,c1,q1.st.heap,e2,c4.trans q2,fun i mb hi=>?_,c6⟩;have aS:i<H.length:=by rw[<-hr.len];exact(a0u.1 hi).1
 rcases c5 i mb hi with g|g
 .exact q3 i mb aS g
 rcases q3 i _ aS g with g|g<;>exact .inr g
end
section
variable{X:mX}{P:LI1}{T:vw}{L f nt B:Nat}{iG:Bool}{call:dM}{gG:gU X.Γ}
theorem yX(hX:bT X P)(hO:jX X P call gG){c ps ps1 an e o}(hk:kE X P T gG (cZ X P call) (dQ X P T call L f iG nt B) B L f iG nt c ps an agc=o) (ht:Fp (fun y=>y=(e,ps1)) an o):dQ X P T call L f iG nt B c ps e ps1:=by
 obtain⟨y,h1,rfl⟩:=ht.aO;rw[<-hk]at h1;exact Y3 hX hO h1
theorem Fp.xx{y:Ex×bJ X.Γ}:Fp (fun z=>z=y) (.n:PT X.Γ) (.ret y):=.r rfl
end
theorem cZ.forget{X P call fv xs H H1 v}(hs:cZ X P call fv xs H v H1)(i):cZ X P call fv xs H v (H1.set i .gone):=by intro A m h tf rJ hr hf hx;obtain⟨w,h',ws,m1,c1,c2,c3,c4,c5,c6⟩:=hs A m h tf rJ hr hf hx;have hg:=c2.bD [i];have Y9:=iU (h:=h') [i] m1;exact⟨w,h',ws,_,c1,hg,c3.step Y9.1 Y9.2,c4.trans Y9.1,c5.trans Y9.2,c6⟩
theorem sO{X P}(hX:bT X P){call gG}(hO:jX X P call gG){f first xs cap vs v ps H}(hv:views H (first++xs++cap)=some vs)(ho:gG f vs=some (v,[],ps))(hp:∀p∈ps,p)(hl:yD v=true) :cZ X P call (.fn f first cap) xs H (shift H.length v) (bD (lC.kU (first++xs++cap)) H):=by
 intro A m h tf rJ hr hf hx;cases hf with
 |gone hi _ _=>simp[bF]at hi
 |fn p1 p2 p3 p4=>
  obtain⟨w,h1,m1,e1,e2,e3,e4,e5⟩:=IX hX (hO f vs v [] ps ho hp) hr hv (ext':=[]) rfl ⟨p1,p2⟩ hx ⟨p3,p4⟩;simp only[hl,List.any_nil,Bool.true_or,a2l,a6k]at e2;exact⟨w,h1,[],m1,e1,e2,e3,e4,e5,fun b hb=>by cases hb⟩
section
variable{X:mX}{P:LI1}{A:Nat->Prop}{m:List MB}{h:List HB}
theorem VR.a2x{k n y}(hy:VR X P A m h (.int k n) y):y=.int k n:=by
 cases hy with
 |int=>rfl
 |gone hi _ _=>simp[bF]at hi
theorem VR.Q9{f y}(hy:VR X P A m h (.fn f [] []) y):y=.fn f [] []:=by
 cases hy with
 |gone hi _ _=>simp[bF]at hi
 |fn p1 _ p3 _=>rw[a4o p1.symm,a4o p3.symm]
theorem agm{k ex t l x}(hl:LR X P A m h k ex t l x):(l=[]/\x=.nil .aP)\/(l=[]/\∃b off sz cs,x=.aP b off 0 0 sz true/\A b/\aU h b=some cs/\off<=cs.length/\dG P t=some sz/\0<sz) \/ (l≠[]/\∃b sz e kk cs,x=.aP b 0 l.length l.length sz e/\dG P t=some sz/\0<sz/\h[b]? = some (.cells kk cs)/\kk≠.ro/\(k=true->kk=.own)/\(ex=true->e=true)/\cs.length=l.length*sz/\eG X P A m h t l cs 0 sz):=by
 cases hl with
 |nil=>exact .inl ⟨rfl,rfl⟩
 |emp p0 p1 p2 p3 p4=>exact .inr (.inl ⟨rfl,_,_,_,_,rfl,p0,p1,p2,p3,p4⟩)
 |some p1 p2 p3 p4 p5 p6 p7 p8 p9=>exact .inr (.inr ⟨p1,_,_,_,_,_,rfl,p2,p3,p4,p5,p6,p7,p8,p9⟩)
theorem abb{H i x k ex t l}(hr:HR X P A m H h)(hi:H[i]? = some (.list k ex t l))(hv:VR X P (AA A m) m h (.own i) x):m[i]? = some (.dF x)/\LR X P (AA A m) m h k ex t l x:=by
 obtain⟨mb,g1,g2⟩:=hr.at_ i _ hi;cases hv with
 |own e _=>
  rw[g1]at e;cases e;exact⟨g1,g2⟩
 |gone LU e _=>
  simp only[bF,a08]at LU;subst LU;rw[g1]at e;cases e<;>exact g2.elim
end
section
variable{X:mX}{P:LI1}
theorem nU.gs(hX:bT X P){call f vs v v' ext ext'}(hc:nU X P call f vs v ext)(gs)(hg:lQ 0 gs (⟨[(0,.val v)],[],ext⟩:bJ X.Γ)=some ⟨[(0,.val v')],[],ext'⟩):nU X P call f vs v' ext':=by
 intro A h first args cap G5 hv
 obtain⟨w,h',m',c1,c2,c3,c4⟩:=hc A h first args cap G5 hv
 obtain⟨m2,q1,q2,q3⟩:=mM hX hg A (fun _=>True) 0 m' ⟨[(0,.val w)],[],h',[]⟩ ⟨⟨c2,rfl,fun k cs hk=>by simp at hk,.cons c3 .nil⟩,fun b _=>.inl trivial,fun b hb=>(by cases hb),a5D _⟩;obtain⟨w',e1,e2⟩:=pJ q1.st.env (t:=0) (v:=.val v') rfl;simp only[dO,a2l,a08]at e1;subst e1;exact⟨w,h',m2,c1,q1.st.heap,e2,c4.trans q2⟩
theorem Ya{A m h t fu x}(hv:VR X P A m h (.dF t [] fu) x):x=.nil .aP\/∃b off cap sz ex cs,x=.aP b off 0 cap sz ex/\A b/\aU h b=some cs/\dG P t=some sz/\0<sz/\off<=cs.length:=by
 generalize hl:([]:List (X.Γ t))=l at hv;cases hv with
 |qx=>exact .inl rfl
 |dF a c c2 s z o k f e r=>
  subst hl;exact .inr ⟨_,_,_,_,_,_,rfl,a,c,s,z,by simpa using o⟩
 |gone hi _ _=>simp[bF]at hi
theorem J5{A h t x}(G5:∀b,h.length<=b->A b)(hx:LR X P (AA A [.dF x]) [.dF x] h false false t [] x)(ho:(MB.dF x).own=none):HR X P A [.dF x] [.list false false t []] h:=by
 have hb:bn [MB.dF x]=[]:=by simp[bn,ho]
 refine⟨rfl,fun i b hi=>?_,by rw[hb];exact a6g,G5,fun b rG=>by rw[hb]at rG;cases rG⟩;cases i with
 |zero=>simp only[a2I,a08]at hi;subst hi;exact⟨.dF x,rfl,hx⟩
 |succ i=>simp at hi
end
def jU{σ ρ:Type}(g:Nat->σ->σ⊕ρ):Nat->Nat->σ->σ⊕ρ
 | 0,_,s=>.inl s
 |m+1,k,s=>match g k s with
  |.inl s'=>jU g m (k+1) s'
  |.inr r=>.inr r
def aQ{σ:Type}(g:Nat->σ->σ):Nat->Nat->σ->σ
 | 0,_,s=>s
 |m+1,k,s=>aQ g m (k+1) (g k s)
theorem U4{σ ρ}{g:Nat->σ->σ}:∀(m k) (s),jU (ρ:=ρ) (fun k s=>.inl (g k s)) m k s=.inl (aQ g m k s)
 | 0,_,_=>rfl
 |m+1,k,s=>U4 m (k+1) (g k s)
theorem qO{σ}{g:Nat->σ->σ}:∀(m k) (s),aQ g (m+1) k s=g (k+m) (aQ g m k s)
 | 0,_,_=>rfl
 |m+1,k,s=>by rw[aQ,qO m (k+1),show k+1+m=k+(m+1) by omega];rfl
theorem bP{σ g}(Q:Nat->σ->Prop){m k s}(h0:Q k s)(hs:∀j s,k<=j->j<k+m->Q j s->Q (j+1) (g j s)):Q (k+m) (aQ g m k s):=by
 induction m with
 |zero=>exact h0
 |succ m ih=>rw[qO];exact hs (k+m) _ (by omega) (by omega) (ih fun j s h1 h2 h3=>hs j s h1 (by omega) h3)
theorem J6{c:Nat->Bool}{ρ}{r:Nat->ρ}:∀(m k),jO (jU (σ:=Unit) (fun k _=>if c k=true then .inr (r k)else .inl ()) m k ())=true↔∀j,k<=j->j<k+m->c j=false
 | 0,k=>by simp[jU,jO];omega
 |m+1,k=>by
  simp only[jU];by_cases hc:c k=true
  .simp only[hc,a2l,jO,a2H,false_iff];intro h;have:=h k (a1j _) (by omega);rw[hc]at this;cases this
  simp only[hc,a2H,a3S];rw[J6 m (k+1)];constructor
  .intro h j h1 h2;rcases a4O k j with h3|h3
   .exact h j h3 (by omega)
   rw[show j=k by omega];simpa using hc
  intro h j h1 h2;exact h j (by omega) (by omega)
theorem Yb{c:Nat->Bool}{ρ}{r:Nat->ρ}{m k}(h:jO (jU (σ:=Unit) (fun k _=>if c k=true then .inr (r k)else .inl ()) m k ())=false):∃j,k<=j/\j<k+m/\c j=true/\(∀i,k<=i->i<j->c i=false)/\jU (σ:=Unit) (fun k _=>if c k=true then .inr (r k)else .inl ()) m k ()=.inr (r j):=by
 induction m generalizing k with
 |zero=>simp[jU,jO]at h
 |succ m ih=>
  simp only[jU]at h ⊢;by_cases hc:c k=true
  .simp only[hc,a2l];exact⟨k,a1j _,by omega,hc,fun i h1 h2=>by omega,rfl⟩
  simp only[hc,a2H,a3S]at h ⊢;obtain⟨j,h1,h2,h3,h4,h5⟩:=ih h;exact⟨j,by omega,by omega,h3,fun i hi1 LU=>by
   rcases a4O k i with h6|h6
   .exact h4 i h6 LU
   rw[show i=k by omega];simpa using hc,h5⟩
abbrev gS(c:Nat->Bool)(k:Nat)(_:Unit):Unit⊕Nat:=if c k=true then .inr k else .inl ()
abbrev aZ(c:Nat->Bool)(N:Nat):Unit⊕Nat:=jU (gS c) N 0 ()
theorem cO{c N}:jO (aZ c N)=true↔∀j,j<N->c j=false:=by unfold aZ gS;rw[J6 (r:=fun k=>k)];exact⟨fun h j hj=>h j (by omega) (by omega),fun h j _ hj=>h j (by omega)⟩
theorem wM{c N}(h:jO (aZ c N)=false):∃j,j<N/\c j=true/\(∀i,i<j->c i=false)/\aZ c N=.inr j:=by obtain⟨j,_,h2,h3,h4,h5⟩:=Yb (r:=fun k=>k) h;exact⟨j,by omega,h3,fun i hi=>h4 i (by omega) hi,h5⟩
abbrev U5(c:Nat->Bool)(a N:Nat):Unit⊕Nat:=jU (gS c) (N-a) a ()
def Qa{σ:Type}(g:Nat->σ->σ):Nat->σ->σ
 | 0,s=>s
 |k+1,s=>Qa g k (g k s)
theorem U6{σ g}(Q:Nat->σ->Prop):∀{k} {s},Q k s->(∀j s,j<k->Q (j+1) s->Q j (g j s))->Q 0 (Qa g k s)
 | 0,_,h,_=>h
 |k+1,s,h,hs=>U6 Q (k:=k) (hs k s (by omega) h) fun j s h1 h2=>hs j s (by omega) h2
theorem J7{α:Type}{l:List α}{d}{p:α->Prop}:(∀j,j<l.length->p (l.getD j d))↔∀a∈l,p a:=by
 constructor
 .intro h a ha;obtain⟨j,hj,rfl⟩:=a5I.1 ha;simpa[List.getD,a0A hj]using h j hj
 intro h j hj;have:l.getD j d=l[j]:=by simp[List.getD,a0A hj]
 rw[this];exact h _ (a5B hj)
theorem nV{α:Type}{a b:List α}{d}(hl:a.length=b.length):a=b↔∀j,j<a.length->a.getD j d=b.getD j d:=by
 constructor
 .rintro rfl j _;rfl
 intro h;apply aac hl;intro j h1 h2;simpa[List.getD,a0A h1,a0A h2]using h j h1
section
variable{X:mX}{P:LI1}{T:vw}{L:Nat}{f nt B:Nat}{iG:Bool}{call:dM}{b:Code}{σ ρ:Type}
def wJ(out:σ⊕ρ->Ex×bJ X.Γ)(g:Nat->σ->σ⊕ρ)(m k:Nat):σ⊕ρ->Ex×bJ X.Γ
 |.inl s=>out (jU g m k s)
 |.inr r=>out (.inr r)
theorem MH{N}{st:Int->σ->bJ X.Γ}{g:Nat->σ->σ⊕ρ}{out s0 w}(Inv:Nat->σ->Prop)(h0:iy X (T.fC f (eu b)) w=st 0 s0)(hl:N<=ah)(hL:ah<L)(hi:Inv 0 s0)(hs:∀(k) (s) (n),k<N->Inv k s->(∀s1,Inv (k+1) s1->dN X P T call L f iG nt B b n (st (i64.wrap (k+1)) s1) (wJ out g (N-(k+1)) (k+1) (.inl s1)).1 (wJ out g (N-(k+1)) (k+1) (.inl s1)).2) ->dN X P T call L f iG nt B b (n+1) (st k s) (wJ out g (N-(k+1)) (k+1) (g k s)).1 (wJ out g (N-(k+1)) (k+1) (g k s)).2)(ho:∀s,Inv N s->dN X P T call L f iG nt B b 1 (st N s) (out (.inl s)).1 (out (.inl s)).2) :dQ X P T call L f iG nt B (.loop b) w (out (jU g N 0 s0)).1 (out (jU g N 0 s0)).2:=by
 have key:∀(m k:Nat) (s:σ),k+m=N->Inv k s->dN X P T call L f iG nt B b (m+1) (st k s) (out (jU g m k s)).1 (out (jU g m k s)).2:=by
  intro m
  induction m with
  |zero=>
   intro k s hk hr;have:k=N:=(by omega);subst this;exact ho s hr
  |succ m ih=>
   intro k s hk hr;have aS:k<N:=(by omega);have h1:=hs k s (m+1) aS hr fun s1 h=>by have:=ih (k+1) s1 (by omega) h;rw[yV (by omega),show N-(k+1)=m by omega];exact this
   rw[show N-(k+1)=m by omega]at h1;simp only[jU];cases hg:g k s with
   |inl s1=>rw[hg]at h1;exact h1
   |inr r=>rw[hg]at h1;exact h1
 exact A8 (key N 0 s0 (by omega) hi) h0 (by omega)
theorem agn{a N:Nat}{st:Int->σ->bJ X.Γ}{g:Nat->σ->σ⊕ρ}{out s0 w}(Inv:Nat->σ->Prop)(h0:iy X (T.fC f (eu b)) w=st a s0)(ha:a<=N)(hl:N<=ah)(hL:ah<L)(hi:Inv a s0)(hs:∀(k) (s) (n),a<=k->k<N->Inv k s->(∀s1,Inv (k+1) s1->dN X P T call L f iG nt B b n (st (i64.wrap (k+1)) s1) (wJ out g (N-(k+1)) (k+1) (.inl s1)).1 (wJ out g (N-(k+1)) (k+1) (.inl s1)).2) ->dN X P T call L f iG nt B b (n+1) (st k s) (wJ out g (N-(k+1)) (k+1) (g k s)).1 (wJ out g (N-(k+1)) (k+1) (g k s)).2)(ho:∀s,Inv N s->dN X P T call L f iG nt B b 1 (st N s) (out (.inl s)).1 (out (.inl s)).2) :dQ X P T call L f iG nt B (.loop b) w (out (jU g (N-a) a s0)).1 (out (jU g (N-a) a s0)).2:=by
 have key:∀(m k:Nat) (s:σ),a<=k->k+m=N->Inv k s->dN X P T call L f iG nt B b (m+1) (st k s) (out (jU g m k s)).1 (out (jU g m k s)).2:=by
  intro m
  induction m with
  |zero=>
   intro k s _ hk hr;have:k=N:=(by omega);subst this;exact ho s hr
  |succ m ih=>
   intro k s ak hk hr;have aS:k<N:=(by omega);have h1:=hs k s (m+1) ak aS hr fun s1 h=>by have:=ih (k+1) s1 (by omega) (by omega) h;rw[yV (by omega),show N-(k+1)=m by omega];exact this
   rw[show N-(k+1)=m by omega]at h1;simp only[jU];cases hg:g k s with
   |inl s1=>rw[hg]at h1;exact h1
   |inr r=>rw[hg]at h1;exact h1
 exact A8 (key (N-a) a s0 (a1j _) (by omega) hi) h0 (by omega)
theorem MI{N}{st:Int->σ->bJ X.Γ}{g e}{fin:σ->bJ X.Γ}{s0 w}(Inv:Nat->σ->Prop)(h0:iy X (T.fC f (eu b)) w=st 0 s0)(hl:N<=ah)(hL:ah<L)(hi:Inv 0 s0)(hv:∀k s,k<N->Inv k s->Inv (k+1) (g k s))(hs:∀(k) (s),k<N->Inv k s->∀n e1 p,dN X P T call L f iG nt B b n (st (i64.wrap (k+1)) (g k s)) e1 p->dN X P T call L f iG nt B b (n+1) (st k s) e1 p)(ho:∀s,Inv N s->dN X P T call L f iG nt B b 1 (st N s) e (fin s)):dQ X P T call L f iG nt B (.loop b) w e (fin (aQ g N 0 s0)):=by
 have:=MH (X:=X) (P:=P) (T:=T) (call:=call) (f:=f) (iG:=iG) (nt:=nt) (B:=B) (b:=b) (ρ:=Empty) (N:=N) (st:=st) (g:=fun k s=>.inl (g k s)) (out:=fun x=>(e,fin (aqJ x))) (s0:=s0) (w:=w) Inv h0 hl hL hi
  (fun k s n hk hr h=>hs k s hk hr n _ _ (h _ (hv k s hk hr))) ho
 rw[U4]at this;exact this
theorem akt{N:Nat}{st:Int->σ->bJ X.Γ}{g e}{fin:σ->bJ X.Γ}{s0 w}(Inv:Nat->σ->Prop)(h0:iy X (T.fC f (eu b)) w=st (i64.wrap ((N:Int)-1)) s0)(hl:N<=ah)(hL:ah<L)(hi:Inv N s0)(hv:∀k s,k<N->Inv (k+1) s->Inv k (g k s))(hs:∀(k) (s),k<N->Inv (k+1) s->∀n e1 p,dN X P T call L f iG nt B b n (st (i64.wrap (k-1)) (g k s)) e1 p->dN X P T call L f iG nt B b (n+1) (st k s) e1 p)(ho:∀s,Inv 0 s->dN X P T call L f iG nt B b 1 (st (-1) s) e (fin s)):dQ X P T call L f iG nt B (.loop b) w e (fin (Qa g N s0)):=by
 have wr:∀k:Nat,k<=ah->i64.wrap ((k:Int)-1)=(k:Int)-1:=by
  intro k hk;cases k with
  |zero=>rfl
  |succ k=>
   have:=yV (k:=k) (by omega);rw[show((k+1:Nat):Int)-1=(k:Int) by omega];unfold ah at hk;simp only[IntKind.wrap,IntKind.bits,IntKind.signed];have:(k:Int)%(2^64:Int)=(k:Int):=a9u (by omega) (by omega);simp only[this];rw[a0S (by simp;omega)]
 have key:∀(k:Nat) (s:σ),k<=N->Inv k s->dN X P T call L f iG nt B b (k+1) (st ((k:Int)-1) s) e (fin (Qa g k s)):=by
  intro k
  induction k with
  |zero=>intro s _ hr;exact ho s hr
  |succ k ih=>
   intro s hk hr;have h1:=ih (g k s) (by omega) (hv k s (by omega) hr);rw[<-wr k (by omega)]at h1;rw[show((k+1:Nat):Int)-1=(k:Int) by omega];exact hs k s (by omega) hr _ _ _ h1
 rw[wr N hl]at h0;exact A8 (key N s0 (a1j _) hi) h0 (by omega)
end
end Pv
namespace bQ
open Go Tw Pv
def bC:LI0->Int
 | []=>1
 |a::t=>a*bC t
def iV:LI0->Int->LI0
 | [],_=>[]
 |a::t,n=>(n/bC t)%a::iV t n
def eH:LI0->LI0->Int
 |a::t,d::p=>d*bC t+eH t p
 |_,_=>0
def iF:LI0->LI0->Bool
 | [],[]=>true
 |a::t,d::p=>decide (0<=d/\d<a)&&iF t p
 |_,_=>false
def mO(s:LI0):Prop:=∀a∈s,1<=a/\a<=12
instance (s:LI0):Decidable (mO s):=inferInstanceAs (Decidable (∀a∈s,1<=a/\a<=12))
structure qy(s:LI0):Prop where
 len:s.length<=6
 sz:mO s
 many:bC s<=2000
def jC(n:Nat)(o:LI0):Bool:=decide (o.length=n/\(∀a∈o,0<=a/\a<n)/\o.Nodup)
theorem eU{z}(h0:-(2^62)<=z)(h1:z<2^62):i64.wrap z=z:=by
 simp only[IntKind.wrap,IntKind.bits,IntKind.signed];rcases Int.lt_or_le z 0 with h|h
 .have:z%(2^64:Int)=z+2^64:=by have:=acg z (2^64) 1;rw[ad8]at this;rw[<-this];exact a9u (by omega) (by omega)
  simp only[this];rw[a15 (by simp;omega)];omega
 have:z%(2^64:Int)=z:=a9u h (by omega);simp only[this];rw[a0S (by simp;omega)]
theorem mO.tail{a t}(h:mO (a::t)):mO t:=fun b hb=>h b (a3A _ hb)
theorem jm:∀{s},mO s->1<=bC s
 | [],_=>aa0 _
 |a::t,h=>by have h1:=h a (a3G ..);have h2:=jm h.tail;have:=aiv h1.1 h2 (by omega) (by omega);simpa[bC]using this
theorem Ad:∀(s t),bC (s++t)=bC s*bC t
 | [],t=>by simp[bC]
 |a::s,t=>by simp[bC,Ad s t,aiA]
theorem Gi{s}(h:mO s)(k):bC (s.take k)<=bC s:=by
 have e:bC s=bC (s.take k)*bC (s.drop k):=by rw[<-Ad,agX]
 have h1:1<=bC (s.take k):=jm fun a ha=>h a (a7q ha);have h2:1<=bC (s.drop k):=jm fun a ha=>h a (a5N ha);have:=a9Q h2 (show 0<=bC (s.take k) by omega);omega
theorem Yc:∀(s) (n),(iV s n).length=s.length
 | [],_=>rfl
 |_::t,n=>by simp[iV,Yc t n]
theorem U7:∀(s) (n) (k),k<s.length->(iV s n).getD k 0=(n/bC (s.drop (k+1)))%s.getD k 0
 | [],_,k,h=>by simp at h
 |a::t,n,0,_=>by simp[iV]
 |a::t,n,k+1,h=>by have:=U7 t n k (by simpa using h);simpa[iV]using this
theorem lG:∀{s p},iF s p=true->p.length=s.length
 | [],[],_=>rfl
 |a::t,d::p,h=>by simp only[iF,a2o]at h;simp[lG h.2]
 | [],_::_,h=>by cases h
 |_::_,[],h=>by cases h
theorem lH:∀{s p},iF s p=true↔p.length=s.length/\∀j,j<s.length->0<=p.getD j 0/\p.getD j 0<s.getD j 0
 | [],[]=>by simp[iF]
 |a::t,d::p=>by
  simp only[iF,a2o,a1z,lH (s:=t),a4p];constructor
  .rintro⟨h1,h2,h3⟩;refine⟨by omega,fun j hj=>?_⟩;cases j with
   |zero=>simpa using h1
   |succ j=>simpa using h3 j (by omega)
  rintro⟨h1,h2⟩;exact⟨by simpa using h2 0 (by omega),by omega,fun j hj=>by simpa using h2 (j+1) (by omega)⟩
 | [],_::_=>by simp[iF]
 |_::_,[]=>by simp[iF]
theorem xR:∀{s p},iF s p=true->mO s->0<=eH s p/\eH s p<bC s
 | [],[],_,_=>by simp[eH,bC]
 |a::t,d::p,h,hs=>by simp only[iF,a2o,a1z]at h;have ih:=xR h.2 hs.tail;have hp:=jm hs.tail;simp only[eH,bC];have h1:0<=d*bC t:=aeJ h.1.1 (by omega);have h2:(d+1)*bC t<=a*bC t:=ab5 (by omega) (by omega);rw[afN,Int.one_mul]at h2;omega
theorem qX:∀{s} (n),mO s->iF s (iV s n)=true
 | [],_,_=>rfl
 |a::t,n,hs=>by simp only[iV,iF,a2o,a1z];have:=hs a (a3G ..);exact⟨⟨ahm _ (by omega),Int.emod_lt_of_pos _ (by omega)⟩,qX n hs.tail⟩
theorem Ed:∀{s} (n),mO s->iV s (n%bC s)=iV s n
 | [],_,_=>rfl
 |a::t,n,hs=>by
  have hp:=jm hs.tail;have ha:=hs a (a3G ..);simp only[iV,bC];have e1:n%(a*bC t)/bC t%a=n/bC t%a:=by rw[Int.emod_def n,show n-a*bC t*(n/(a*bC t))=n+(-(a*(n/(a*bC t))))*bC t by rw[Int.neg_mul,Int.mul_right_comm];rfl,Int.add_mul_ediv_right _ _ (by omega),show n/bC t+-(a*(n/(a*bC t)))=n/bC t+a*(-(n/(a*bC t))) by rw[Int.mul_neg],acg]
  have e2:iV t (n%(a*bC t))=iV t n:=by rw[<-Ed (n%(a*bC t)) hs.tail,<-Ed n hs.tail,Int.emod_emod_of_dvd n (Int.dvd_mul_left a (bC t))]
  rw[e1,e2]
theorem J8:∀{s} {n},mO s->0<=n->n<bC s->eH s (iV s n)=n
 | [],n,_,h0,h1=>by simp[bC]at h1;simp[iV,eH];omega
 |a::t,n,hs,h0,h1=>by have hp:=jm hs.tail;have ha:=hs a (a3G ..);simp only[iV,eH];simp only[bC]at h1;have h2:0<=n/bC t:=ahx h0 (by omega);have h3:n/bC t<a:=Int.ediv_lt_of_lt_mul (by omega) h1;rw[a9u h2 h3,<-Ed n hs.tail,J8 hs.tail (ahm _ (by omega)) (Int.emod_lt_of_pos _ (by omega))];exact Int.ediv_mul_add_emod n (bC t)
theorem VK:∀{s p},iF s p=true->mO s->iV s (eH s p)=p
 | [],[],_,_=>rfl
 |a::t,d::p,h,hs=>by
  simp only[iF,a2o,a1z]at h;have ih:=VK h.2 hs.tail;have hr:=xR h.2 hs.tail;have hp:=jm hs.tail;simp only[iV,eH];have e1:(d*bC t+eH t p)/bC t=d:=by rw[ahD,Int.add_mul_ediv_right _ _ (by omega),Int.ediv_eq_zero_of_lt hr.1 hr.2];omega
  have e2:iV t (d*bC t+eH t p)=iV t (eH t p):=by rw[<-Ed _ hs.tail,ahD,Int.add_mul_emod_self_right,Ed _ hs.tail]
  rw[e1,e2,ih,a9u h.1.1 h.1.2]
theorem bV{s:LI0}{k}(h:k<s.length):s.getD k 0∈s:=by
 have:s.getD k 0=s[k]:=by simp[List.getD,a0A h]
 rw[this];exact a5B h
theorem Qb{s:LI0}{k}(h:k<s.length):bC (s.drop k)=s.getD k 0*bC (s.drop (k+1)):=by rw[a6j h];simp[bC,List.getD,a0A h]
theorem zS{l:LI0}{i j a}(h:i<l.length):(l.set i a).getD j 0=if i=j then a else l.getD j 0:=by simp only[a2J,aan];split<;>simp_all
def a4q(s:LI0)(k:Nat)(x:Int×LI0):Int×LI0:=(Vq .i64 x.1 (s.getD k 0),x.2.set k (Pz .i64 x.1 (s.getD k 0)))
theorem agp{a b}(h0:0<=a)(h1:a<2^62)(hb:0<b):Vq .i64 a b=a/b:=by have:a/b<=a:=Int.ediv_le_self b h0;have h2:0<=a/b:=ahx h0 (by omega);rw[Vq,Int.tdiv_eq_ediv_of_nonneg h0,eU (by omega) (by omega)]
theorem agq{a b}(h0:0<=a)(h1:a<2^62)(hb:0<b):Pz .i64 a b=a%b:=by
 have h2:0<=a%b:=ahm _ (by omega);have h3:a%b<=a:=by have:=Int.emod_def a b;have h4:0<=b*(a/b):=aeJ (by omega) (ahx h0 (by omega));omega
 rw[Pz,Int.tmod_eq_emod_of_nonneg h0]
theorem a7H{s n}(hs:mO s)(h0:0<=n)(h1:n<2^62){o}(ho:o.length=s.length):(Qa (a4q s) s.length (n,o)).2=iV s n:=by
 have:=U6 (g:=a4q s) (k:=s.length) (s:=(n,o)) (fun k x=>x.1=n/bC (s.drop k)/\x.2.length=s.length/\∀j,k<=j->j<s.length->x.2.getD j 0=(iV s n).getD j 0)
  ⟨by simp[bC],ho,fun j h1 h2=>by omega⟩ (fun k x hk hx=>by
   obtain⟨e1,e2,e3⟩:=hx;have hp:1<=bC (s.drop (k+1)):=jm fun a ha=>hs a (a5N ha);have ha:=hs _ (bV hk);have hx0:0<=x.1:=by rw[e1];exact ahx h0 (by omega)
   have hx1:x.1<=n:=by rw[e1];exact Int.ediv_le_self _ h0
   simp only[a4q];rw[agp hx0 (by omega) (by omega),agq hx0 (by omega) (by omega)];refine⟨?_,by simp[e2],fun j h2 h3=>?_⟩
   .rw[Qb hk,Int.mul_comm,<-Int.ediv_ediv_of_nonneg (by omega),e1]
   .rw[zS (by omega)];split
    .rename_i e;subst e;rw[U7 s n k hk,e1]
    .exact e3 j (by omega) h3)
 obtain⟨_,e2,e3⟩:=this;rw[nV (d:=0) (by rw[e2,Yc])];intro j hj;exact e3 j (a5D _) (by omega)
def Ae(s:LI0):Int:=aQ (fun k n=>if i64.wrap (n*s.getD k 0)<3000 then i64.wrap (n*s.getD k 0)else 3000) s.length 0 1
theorem Qc{s}(hs:mO s):Ae s=min 3000 (bC s):=by
 have:=bP (g:=fun k n=>if i64.wrap (n*s.getD k 0)<3000 then i64.wrap (n*s.getD k 0)else 3000) (m:=s.length) (k:=0) (s:=(1:Int)) (fun k n=>n=min 3000 (bC (s.take k))) (by simp[bC];decide) (fun j n h1 h2 h3=>by
  have hj:j<s.length:=by omega
  have ha:=hs _ (bV hj);have hp:1<=bC (s.take j):=jm fun a ha=>hs a (a7q ha);have e:bC (s.take (j+1))=bC (s.take j)*s.getD j 0:=by rw[a6b hj,Ad];simp[bC,List.getD,a0A hj]
  have Xk:1<=n:=by omega
  have hn1:n<=3000:=by omega
  have h4:n*s.getD j 0<=3000*12:=aiv hn1 ha.2 (by omega) (by omega);have h5:1<=n*s.getD j 0:=by have:=aiv Xk ha.1 (by omega) (by omega);omega
  rw[eU (by omega) (by omega),e];by_cases hc:bC (s.take j)<=3000
  .have:n=bC (s.take j):=(by omega);rw[this];split<;>omega
  have:n=3000:=by omega
  subst this;have h6:3000*s.getD j 0<=bC (s.take j)*s.getD j 0:=ab5 (by omega) (by omega);have h7:3000<=3000*s.getD j 0:=by omega
  split<;>omega)
 rw[a3C,abE]at this;exact this
def aku(s p:LI0):Int:=aQ (fun k n=>i64.wrap (i64.wrap (n*s.getD k 0)+p.getD k 0)) s.length 0 0
theorem Yd:∀{s p} (s' p'),s.length=p.length->eH (s++s') (p++p')=eH s p*bC s'+eH s' p'
 | [],[],_,_,_=>by simp[eH]
 |a::s,d::p,s',p',h=>by simp only[List.cons_append,eH,Yd s' p' (by simpa using h),Ad,afN,aiA];omega
theorem abd{s p}(hp:iF s p=true)(hs:mO s)(hm:bC s<=2000):aku s p=eH s p:=by
 have hl:=lG hp;have:=bP (g:=fun k n=>i64.wrap (i64.wrap (n*s.getD k 0)+p.getD k 0)) (m:=s.length) (k:=0) (s:=(0:Int)) (fun k n=>n=eH (s.take k) (p.take k)) (by simp[eH]) (fun j n h1 h2 h3=>by
  have hj:j<s.length:=by omega
  have ha:=hs _ (bV hj);have hd:=(lH.1 hp).2 j hj;have e:eH (s.take (j+1)) (p.take (j+1))=eH (s.take j) (p.take j)*s.getD j 0+p.getD j 0:=by rw[a6b hj,a6b (show j<p.length by omega),Yd _ _ (by simp;omega)];simp[eH,bC,List.getD,a0A hj,a0A (show j<p.length by omega)]
  have zq:iF (s.take j) (p.take j)=true:=lH.2 ⟨by simp[hl],fun i hi=>by
   have wC:i<j:=by have:=hi;simp at this;omega
   have:=(lH.1 hp).2 i (by omega);simpa[a2J,a5f,wC]using this⟩
  have hr:=xR zq fun a ha=>hs a (a7q ha);have hle:=Gi hs j;rw[<-h3]at hr e;have h4:n*s.getD j 0<=2000*12:=aiv (by omega) ha.2 (by omega) (by omega);have h5:0<=n*s.getD j 0:=aeJ hr.1 (by omega);rw[e,eU (z:=n*_) (by omega) (by omega),eU (by omega) (by omega)])
 rw[a3C,abE,a9L (show p.length<=s.length by omega)]at this;exact this
theorem qy.adB{s}(h:qy s):Ae s=bC s:=by rw[Qc h.sz];have:=h.many;omega
abbrev uK(s:LI0):Nat:=(bC s).toNat
theorem qy.RZ{s:LI0}(h:qy s):((uK s:Nat):Int)=bC s:=by have:=jm h.sz;show((bC s).toNat:Int)=_;omega
theorem qy.uK{s:LI0}(h:qy s):((uK s:Nat):Int)=Ae s:=by rw[h.adB,h.RZ]
theorem qy.lt{s}(h:qy s){k}(hk:k<bQ.uK s):decide ((k:Int)<Ae s)=true:=by rw[<-h.uK];exact aV hk
theorem qy.no{s}(h:qy s):decide (((bQ.uK s:Nat):Int)<Ae s)=false:=by rw[<-h.uK];exact dZ _
theorem qy.Ye{s}(h:qy s):s.length<=ah:=by have:=h.len;unfold ah;omega
theorem Qd{α}(f n):aQ (fun k (s:List α)=>s++[f k]) n 0 []=(List.range n).map f:=by have:=bP (g:=fun k (s:List α)=>s++[f k]) (m:=n) (k:=0) (s:=[]) (fun k s=>s=(List.range k).map f) rfl (fun j s _ _ h=>by rw[h,abX,a4M];rfl);simpa using this
end bQ
namespace Tw
open Go Go.Proofs
theorem sQ(g t fz):∀(vs) (o) (cur) (w:LI4),w.heap[g]? = some (.cells cur t fz)->o+vs.length<=cur.size ->w.setCells g o vs=w.setRow g (cur.toList.take o++vs++cur.toList.drop (o+vs.length)).toArray
 | [],o,cur,w,hg,_=>by simp only[World.setCells,a6k,a5L,adb,agX,Array.toArray_toList];rw[setRow_self w g cur t fz hg]
 |v::rest,o,cur,w,hg,hl=>by
  simp only[a4p]at hl;rw[World.setCells,setCell_eq_setRow w g o cur t fz v hg,
   sQ g t fz rest (o+1) (cur.setIfInBounds o v) (w.setRow g (cur.setIfInBounds o v)) (setRow_heap w g cur _ t _ hg) (by simp;omega),setRow_setRow]
  congr 2;have e:=list_seg_step cur.toList o v rest (by simp;omega);simpa[Array.toList_setIfInBounds,aad]using e
section
variable{P:LI1}{M:Mp}{D:Key->Prop}{w:LI4}{s:St}
theorem agr(hV:Valid M D s.get w){b k cs new ls p}(hm:M (.h b)=some (.cells ls))(hd:D (.h b))(hb:s.heap[b]? = some (.cells k cs))(hk:k≠.ro) (hp:p∈ls) (yB:p.ext=cs.length) (hn:∀c∈new,iR c=true) (hlen:cs.length<new.length) {w'} (g arr ty)(wo:w'.heap[g]? = some (.cells arr ty (0,0))) (Rq:∀c,c<w.heap.size->c≠g->w'.heap[c]? = w.heap[c]?) (hg:(g=p.c/\arr.size=p.tot)\/g=w.heap.size)(qV:w.heap.size<=w'.heap.size) (ho:w'.os=w.os) (hou:w'.output=w.output) (ht:w'.tape=w.tape) (afm:new.length<=arr.size)(VL:∀(i:Nat) (c) (v),new[i]? = some c->arr[i]? = some v->VR M.h c v) :∃M' q,Valid M' D (St.get { s with heap:=s.heap.set b (.cells .last new) }) w'/\Ext M s.get w M' (St.get { s with heap:=s.heap.set b (.cells .last new) }) w' [.h b] /\(∃qC,M' (.h b)=some (.cells qC)/\q∈qC)/\q.ext=new.length/\q.base=0/\q.c=g/\q.tot=arr.size:=by
 have hgt:s.get (.h b)=some (.cells k cs):=by simp[St.get,hb]
 have yN:=(a0u.1 hb).1;obtain⟨gW,h1,h2⟩:=hV.ok _ _ hm hd;rw[hgt]at h1;cases h1;obtain⟨ho1,zq,aak,OL⟩:=h2;have UW:∀b0,s.get (.h b)=some b0->wr b0=true:=fun b0 yu=>by rw[hgt]at yu;cases yu;cases k<;>simp_all [wr]
 have jJ:(ls.map (·.c)).Nodup:=by
  cases k with
  |ro=>exact absurd rfl hk
  |own=>obtain⟨q,rfl,_⟩:=aak rfl;simp
  |grow=>exact(OL (.inl rfl)).1
  |last=>exact(OL (.inr rfl)).1
 have aS:∀q∈ls,q.c<w.heap.size:=fun q hq=>hV.inb _ _ hm q.c (a1u.2 ⟨q,hq,rfl⟩)
 let p':Pl:=⟨g,0,new.length,arr.size⟩
 have hold:∀q∈ls,q.c≠g->JL (dL M (.h b) (.cells (p'::ls.filter fun q=>q.c≠g))).h w' .last new q:=fun q hq hqg=>by have Dy:=zq q hq;obtain⟨uz,ty',fz',t1,t2,t3,t4⟩:=Dy.row;have hx:=Dy.ext;exact⟨⟨uz,ty',fz',(Rq q.c (aS q hq) hqg).trans t1,t2,fun _=>t3 hk,fun hz=>by have:=hz rfl;omega⟩,Dy.fit,by omega,fun _=>Dy.base hk⟩
 let qC:List Pl:=p'::ls.filter fun q=>q.c≠g
 have JU:∀q,q∈qC↔q=p'\/(q∈ls/\q.c≠g):=fun q=>by simp[qC]
 have ZP:JK (.cells ls) (.cells qC):=by
  intro q hq;by_cases he:q.c=g
  .rcases hg with⟨e,e2⟩|e
   .have:q=p:=I8 jJ hp hq (by rw[he,e]);subst this;exact⟨p',by simp[qC],e,by simp[p',(zq q hq).base hk],by simp[p'];omega,by simp[p',e2]⟩
   .have:=aS q hq;omega
  .exact⟨q,(JU q).2 (.inr ⟨hq,he⟩),rfl,rfl,a1j _,rfl⟩
 have hcb:∀c∈aJ (.cells qC),c=g\/c∈aJ (.cells ls):=by
  intro c hc;simp only[aJ,a1u]at hc ⊢;obtain⟨q,hq,rfl⟩:=hc;rcases(JU q).1 hq with rfl|⟨h1,_⟩
  .exact .inl rfl
  .exact .inr ⟨q,h1,rfl⟩
 have fV:∀c,c<w.heap.size->c∉aJ (.cells qC)->w'.heap[c]? = w.heap[c]?:=fun c hc hnc=>Rq c hc (fun e=>hnc (by subst e;exact a1u.2 ⟨p',by simp[qC],rfl⟩));have gJ:∀c∈aJ (.cells qC),(∃l0,M (.h b)=some l0/\c∈aJ l0)\/w.heap.size<=c:=by
  intro c hc;rcases hcb c hc with rfl|h
  .rcases hg with⟨e,_⟩|e
   .exact .inl ⟨_,hm,by rw[e];exact a1u.2 ⟨p,hp,rfl⟩⟩
   .exact .inr (by omega)
  .exact .inl ⟨_,hm,h⟩
 have FC:tY M (dL M (.h b) (.cells qC)):=lW fun l0 h0=>by rw[hm]at h0;cases h0;exact ZP
 have vW:∀q∈qC,q.ext=new.length->q=p':=by
  intro q hq e;rcases(JU q).1 hq with rfl|⟨h1,_⟩
  .rfl
  .have:=(zq q h1).ext;omega
 have Ro:qh (dL M (.h b) (.cells qC)).h w' (.cells .last new) (.cells qC):=by
  refine⟨hn,fun q hq=>?_,by simp,fun _=>⟨?_,fun q1 Dy q2 Gt e1 e2=>by rw[vW q1 Dy e1,vW q2 Gt e2]⟩⟩
  .rcases(JU q).1 hq with rfl|⟨h1,h2⟩
   .exact⟨⟨arr,ty,(0,0),wo,rfl,fun _=>rfl,fun _ i c v _ a b=>(VL i c v a (by simpa[p']using b)).mono FC.h⟩,by simpa[p']using afm,a1j _,fun _=>rfl⟩
   .exact hold q h1 h2
  .simp only[qC,a4N,a5x];refine⟨fun JU=>?_,jJ.sublist (List.Sublist.map _ List.filter_sublist)⟩;obtain⟨q,hq,he⟩:=a1u.1 JU;have:=(a8f.1 hq).2;simp[p']at he;simp[he]at this
 refine⟨dL M (.h b) (.cells qC),p',?_,?_,⟨qC,by simp[dL],by simp[qC]⟩,rfl,rfl,rfl,rfl⟩
 .rw[jw s b _ yN];exact hV.upd (.h b) _ _ (fun j hj=>.inl hj) (fun l0 h0=>by rw[hm]at h0;cases h0;exact⟨hd,ZP,UW⟩) fV gJ qV Ro
 .rw[jw s b _ yN];exact Ext.upd (.h b) _ _ [.h b] (.inl ⟨by simp[hgt],rfl,by simp[hm],UW⟩) FC fV gJ qV ho hou ht
end
open Go.Shelf
theorem MJ{w need old e}(h:need<2^63):grownCap w need old e<2^63:=by have:=Nat.mod_lt (w.tape w.drawn (.appendCap need old e)) (show 0<2^63-need by omega);simp only[grownCap,Question.cut];omega
section
variable{P:LI1}{ρ:Ren}
theorem a4r{M w h}(hV:Valid M rW (lK h) w){b off len cap ex y}(hx:VR M.h (.aP b off len cap 1 ex) y)(h0:0<len){k cs r}(hb:h[b]? = some (.cells k cs))(hk:k≠.ro)(hl:k=.last->off+cap=cs.length) (hr:sub cs off len=some r) :∃ls p cap',M (.h b)=some (.cells ls)/\p∈ls/\y=.slice (some ⟨p.c,off,none⟩) len cap'/\len<=cap'/\cap<=cap'/\off+cap<=p.ext/\off+cap'<=p.tot/\cap'<2^63/\JL M.h w k cs p/\p.base=0/\(∀c∈cs,iR c=true) /\∃xs,bZ M.h r xs/\∀(j) (v),xs[j]? = some v->w.cell? ⟨p.c,off+j,none⟩=some v:=by
 cases hx with
 |aP hm hp yB hle tZ hex ha abe=>
  rename_i ls p a cap';obtain⟨gW,h1,h2⟩:=hV.ok _ _ hm trivial;have hg:lK h (.h b)=some (.cells k cs):=by simp[St.get,hb]
  rw[hg]at h1;cases h1;have hp:=hp.resolve_left (by omega);have zq:=h2.2.1 p hp;have yu:=zq.base hk;rcases ha with ha|⟨rfl,ha⟩
  .omega
  obtain⟨xs,g1,g2⟩:=zq.slice hr (by omega) (fun e=>by have:=hl e;have:=zq.ext;omega);rw[yu]at g2 ha ⊢;simp only[a3C,aix]at g2 ha yB ⊢;exact⟨ls,p,cap',hm,hp,rfl,by omega,tZ,yB,ha,abe,zq,yu,h2.1,xs,g1,g2⟩
theorem a2y{N us xs}(h:bZ N us xs)(ho:∀c∈us,iR c=true):∀v∈xs,v.oneCell'=true:=by
 intro v hv;obtain⟨i,hi,rfl⟩:=a5I.1 hv;have wC:i<us.length:=by rw[h.len];exact hi
 exact EI (h.at_ i us[i] xs[i] (by simp[wC]) (by simp[hi])) (ho _ (a5B wC))
end
open Go.Sort
theorem ags{N k n y}(h:VR N (.int k n) y):y=.int k n:=by cases h;rfl
section
variable{P:LI1}{M:Mp}{D:Key->Prop}{C:Ct}{w w':LI4}
theorem agt(h:Valid M D C w){k ls p cs cs' kk CG}(hk:M k=some (.cells ls)) (hd:D k) (hc:C k=some (.cells kk cs)) (hp:p∈ls) (yK:(kk=.own/\CG=.own)\/((kk=.grow\/kk=.last)/\CG=.last/\p.ext=cs.length))(hl:cs'.length=cs.length) (hn:∀c∈cs',iR c=true) {uz ty'} (wo:w'.heap[p.c]? = some (.cells uz ty' (0,0))) (hs':uz.size=p.tot)(Rq:∀c,c<w.heap.size->c≠p.c->w'.heap[c]? = w.heap[c]?) (qV:w.heap.size<=w'.heap.size) (ho:w'.os=w.os) (hou:w'.output=w.output) (ht:w'.tape=w.tape)(VL:∀(i:Nat) (c) (v),cs'[i]? = some c->uz[i]? = some v->VR M.h c v) :Valid M D (mY C k (.cells CG cs')) w'/\Ext M C w M (mY C k (.cells CG cs')) w' [k]:=by
 obtain⟨hb,he,h1,zq,jJ,huq,arr,ty,hr,hs,hle,hv⟩:=h.wrB hk hd hc hp yK;have iO:kk≠.ro:=by rcases yK with⟨e,_⟩|⟨e|e,_⟩<;>rw[e]<;>simp
 have UW:∀b0,C k=some b0->wr b0=true:=fun b0 yu=>by rw[hc]at yu;cases yu;cases kk<;>simp_all [wr]
 have qU:dL M k (.cells ls)=M:=JM hk;have fV:∀c,c<w.heap.size->c∉aJ (.cells ls)->w'.heap[c]? = w.heap[c]?:=fun c hc0 hc=>Rq c hc0 (fun e=>hc (by rw[e];exact a1u.2 ⟨p,hp,rfl⟩));have gJ:∀c∈aJ (.cells ls),(∃l0,M k=some l0/\c∈aJ l0)\/w.heap.size<=c:=fun c hc=>.inl ⟨_,hk,hc⟩;have FC:tY M (dL M k (.cells ls)):=by rw[qU];exact .refl _
 have aS:∀q∈ls,q.c<w.heap.size:=fun q hq=>h.inb _ _ hk q.c (a1u.2 ⟨q,hq,rfl⟩);refine⟨?_,?_⟩
 .have:=h.upd (D':=D) (w':=w') k (.cells CG cs') (.cells ls) (fun j hj=>.inl hj) (fun l0 h0=>by
   rw[hk]at h0;cases h0;exact⟨hd,.refl _,UW⟩) fV gJ qV (by
   rw[qU];refine⟨hn,fun q hq=>?_,fun e=>?_,fun e=>⟨jJ,fun q1 Dy q2 Gt e1 e2=>by rw[huq q1 Dy (by omega),huq q2 Gt (by omega)]⟩⟩
   .have ZJ:=zq q hq;by_cases Zt:q.c=p.c
    .have:=I8 jJ hp hq Zt;subst this;exact⟨⟨uz,ty',(0,0),wo,hs',fun _=>rfl,fun _ i c v _ a b=>VL i c v a (by simpa[hb]using b)⟩,by omega,by omega,fun _=>hb⟩
    .obtain⟨aqM,ty2,fz2,t1,t2,t3,t4⟩:=ZJ.row;refine⟨⟨aqM,ty2,fz2,(Rq q.c (aS q hq) Zt).trans t1,t2,fun _=>t3 iO,fun hz i c v hi a b=>?_⟩,ZJ.fit,by have:=ZJ.ext;omega,fun _=>ZJ.base iO⟩;exfalso;apply Zt;rcases yK with⟨e,_⟩|⟨_,e,_⟩
     .obtain⟨b',g1,g2⟩:=h.ok k _ hk hd;rw[hc]at g1;cases g1;obtain⟨q',g3,_⟩:=g2.2.2.1 e;rw[g3]at hq hp;simp at hq hp;rw[hq,hp]
     .rw[huq q hq (by rw[hz e];omega)]
   .rcases yK with⟨e0,_⟩|⟨_,e1,_⟩
    .obtain⟨b',g1,g2⟩:=h.ok k _ hk hd;rw[hc]at g1;cases g1;obtain⟨q',g3,g4⟩:=g2.2.2.1 e0;exact⟨q',g3,by omega⟩
    .rw[e1]at e;cases e)
  rwa [qU]at this
 .have:=Ext.upd (M:=M) (C:=C) (w:=w) (w':=w') k (.cells CG cs') (.cells ls) [k] (.inl ⟨by simp[hc],rfl,by simp[hk],UW⟩) FC fV gJ qV ho hou ht
  rwa [qU]at this
end
def ML:List TV->Option LI0
 | []=>some []
 |.int .i64 n::r=>(ML r).map (n::·)
 |_=>none
theorem Qe:∀{cs} {zs},ML cs=some zs->cs=zs.map fun n=>TV.int .i64 n
 | [],zs,h=>by simp[ML]at h;subst h;rfl
 |c::r,zs,h=>by
  unfold ML at h;split at h
  .rename_i e;cases e
  .rename_i n r' e;cases e;simp only[a0x]at h;obtain⟨ys,h1,rfl⟩:=h;rw[Qe h1];rfl
  cases h
def iC(l:LI0):LI0:=l.mergeSort fun x y=>decide (x<=y)
def a7I(g:LI0->LI0)(fI:Nat):dM
 |.fn f [] [],[d],h=>
  if f=fI then
   match d with
   |.nil .aP=>some (.dB [],h,[])
   |.aP _ _ 0 _ _ _=>some (.dB [],h,[])
   |.aP b 0 n n' 1 _=>match h[b]? with
    |some (.cells k cs)=>match AY k true,ML cs with
     |some k',some zs=>if n=n'/\cs.length=n/\0<n/\n<=2^20 then some (.dB [],h.set b (.cells k' ((g zs).map fun x=>TV.int .i64 x)),[b])else none
     |_,_=>none
    |_=>none
   |_=>none
  else none
 |_,_,_=>none
def Qg:Nat->dM:=a7I iC
section
variable{P:LI1}{ρ:Ren}
theorem Yf(L:Lays.n189 P ρ):iQ P (Qg (ρ.f 189)):=by
 intro fv args h v h' ws hc M w x xs hV vI hx Gz;unfold Qg a7I at hc;split at hc
 case h_2=>cases hc
 rename_i f d;split at hc
 case isFalse=>cases hc
 rename_i hf;subst hf;cases hx with
 | @fn _ _ _ ys zs h1 h1a h3 h3a=>
 have:ys=[]:=a4o h1.symm;subst this;have:zs=[]:=a4o h3.symm;subst this;obtain⟨dv,r1,rfl,hdv,Gz⟩:=Gz.iE;have:=Gz.oV;subst this;have enters:∀{R:LI3->LI4->Prop},Calls P (ρ.f 189) #[dv] w (JX R) ->
   ∃d,(∀w,(Deferred.ofValue (.func (.func (ρ.f 189)) [].toArray [].toArray) [dv].toArray).run P w=.ok d w)/\((EL P d w R/\∃f a b,(TV.fn (ρ.f 189) [] [])=.fn f a b)\/(Io P d w R/\∃l,(TV.fn (ρ.f 189) [] [])=.lJ l)):=by
  intro R KG;refine⟨{ target:=.fn (.func (ρ.f 189)) #[],args:=#[dv] },fun w=>by simp[Deferred.ofValue],.inl ⟨⟨ρ.f 189,_,?_,fun n=>callsIn_wide.2 KG⟩,_,_,_,rfl⟩⟩;have e1:=L.f189;have e2 : ¬ (Body.n189 ρ).name = "runtime.NumGoroutine" := by simp [Body.n189]
  obtain⟨c,e3⟩:∃c,(Body.n189 ρ).body=some c:=⟨_,rfl⟩;simp[invoke,callFunc,program,Sem.run,e1,e2,e3]
 split at hc
 .simp only[a08,a1d]at hc;obtain⟨rfl,rfl,rfl⟩:=hc;cases hdv;refine enters ((Any.slices_Sort_int_none L none 0 w).mono fun e w' ⟨he,hw⟩=>?_);subst he;subst hw;exact⟨M,hV,vI,.refl _ _ _,.RD .nil⟩
 .simp only[a08,a1d]at hc;obtain⟨rfl,rfl,rfl⟩:=hc;cases hdv;refine enters ((Any.slices_Sort_int_none L _ _ w).mono fun e w' ⟨he,hw⟩=>?_);subst he;subst hw;exact⟨M,hV,vI,.refl _ _ _,.RD .nil⟩
 .rename_i b n n' ex _;split at hc
  case h_2=>cases hc
  rename_i k cs hb;split at hc
  case h_2=>cases hc
  rename_i k' zs oZ hzs;split at hc
  case isFalse=>cases hc
  rename_i FX;obtain⟨rfl,nR,Xk,akv⟩:=FX;simp only[a08,a1d]at hc;obtain⟨rfl,rfl,rfl⟩:=hc;have JR:=Qe hzs;have Xl:zs.length=n:=by rw[<-nR,JR,a4P]
  have hk:k≠.ro:=by rintro rfl;cases oZ
  have a7J:sub cs 0 n=some cs:=by unfold sub;rw[a15 (by omega)];simp[<-nR]
  obtain⟨ls,p,cap',k1,k2,rfl,k3,k4,k5,k6,k7,k8,k9,k10,Zy,k11,k12⟩:=a4r hV hdv Xk hb hk (fun _=>by omega) a7J;have hpe:p.ext=cs.length:=by have:=k8.ext;omega
  obtain⟨arr,ty,fz,z1,z2,z3,_⟩:=k8.row;have:=z3 hk;subst this;have aS:=(a2v.1 z1).1;have hcv:Zy=zs.map fun n=>Value.int .i64 n:=by
   apply aao;intro i;by_cases hi:i<n
   .have hi1:i<cs.length:=(by omega);have LU:i<Zy.length:=by rw[<-k11.len];exact hi1
    have:=k11.at_ i cs[i] Zy[i] (by simp[hi1]) (by simp[LU]);have hc1:cs[i]? = (zs.map fun n=>TV.int .i64 n)[i]?:=(by rw[<-JR]);rw[a0A hi1,a5w,a0A (by omega)]at hc1;simp only[a1l,a08]at hc1;rw[hc1]at this;rw[a0A LU,a5w,a0A (by omega)];rw[ags this];rfl
   .rw[a4w (by rw[<-k11.len];omega),a4w (by rw[a4P];omega)]
  have hH:Holds (Value.int .i64) w p.c 0 zs.toArray:=fun j hj=>by simp only[aeB]at hj;refine⟨?_,by simp[World.frozen?,z1]⟩;refine k12 j _ ?_;rw[hcv,a5w,a0A hj];simp[hj]
  have KG:=Any.slices_Sort_int L p.c 0 cap' zs w hH aS (by omega);rw[Xl]at KG;refine enters (KG.mono fun e w' ⟨he,N,os,hw⟩=>?_);subst he;have hsl:(iC zs).length=n:=by unfold iC;rw[aaS,Xl]
  have hgb:lK h (.h b)=some (.cells k cs):=by simp[St.get,hb]
  have yK:(k=.own/\k'=.own)\/((k=.grow\/k=.last)/\k'=.last/\p.ext=cs.length):=by
   rcases LQ oZ with e|⟨a,b,_⟩
   .exact .inl e
   .exact .inr ⟨a,b,hpe⟩
  have wo:w'.heap[p.c]? = some (.cells (putCells (Value.int .i64) 0 (iC zs).toArray arr) ty (0,0)):=by rw[hw,heap_grow_old _ _ (by simp[putRow,mapBlock,Sort.ahead];exact aS)];simp only[putRow,mapBlock,Sort.ahead,abL,a2l,z1,a1l,onCells];rfl
  have Rq:∀c,c<w.heap.size->c≠p.c->w'.heap[c]? = w.heap[c]?:=fun c hc0 iO=>by rw[hw,heap_grow_old _ _ (by simp[putRow,mapBlock,Sort.ahead];exact hc0)];simp only[putRow,mapBlock,Sort.ahead,abL];rw[a0S (fun e=>iO e.symm)]
  obtain⟨g1,g2⟩:=agt (w':=w') (cs':=(iC zs).map fun x=>TV.int .i64 x) hV k1 trivial hgb k2 yK (by rw[a4P,hsl,nR]) (fun c hc=>by
   obtain⟨y,_,rfl⟩:=a1u.1 hc;rfl) wo (by simp[putCells,z2]) Rq (by rw[hw];simp[putRow,mapBlock,Sort.ahead]) (by rw[hw];rfl) (by rw[hw];rfl) (by rw[hw];rfl) (fun i c u hc hu=>by
   rw[a5w]at hc;simp only[a0x]at hc;obtain⟨y,hy,rfl⟩:=hc;have hi:i<(iC zs).length:=(a0u.1 hy).1;have hia:i<arr.size:=(by omega);simp only[putCells,Array.getElem?_mapIdx,a4j hia,a1l,a08]at hu;rw[a15 ⟨a5D _,by simp;omega⟩]at hu;subst hu;have:(iC zs).toArray[i-0]! = y:=by have h9:=(a0u.1 hy).2;simp[hi,h9]
   rw[this];exact .int _ _)
  have yN:=(a0u.1 hb).1;have Gx:lK (h.set b (.cells k' ((iC zs).map fun x=>TV.int .i64 x)))=mY (lK h) (.h b) (.cells k' ((iC zs).map fun x=>TV.int .i64 x)):=jw ⟨[],[],h,[]⟩ b _ yN [] [];exact⟨M,by rw[Gx];exact g1,vI,by rw[Gx];exact g2,.RD .nil⟩
 .cases hc
end
def Qh(h h':List HB):Prop:=(∀b:Nat,(∀cs,h[b]?≠some (HB.nP cs))->h'[b]? = h[b]?)/\∀(b:Nat) cs,h[b]? = some (HB.nP cs)->∃cs',cs'.Perm cs/\h'[b]? = some (HB.cells .last cs')
def agw(f:Nat)(call:dM)(fv:TV)(args:List TV)(h:List HB)(v:TV):Prop:=(∃k n,v=.int k n)/\fv=.fn f [] []/\∀h',Qh h h'->∃h2,call fv args h'=some (v,h2,[])
open Classical in
def a4s(f:Nat)(call:dM):dM:=fun fv args h=>if hx:∃v,agw f call fv args h v then some (Classical.choose hx,h,[])else none
theorem U8{h h'}(hu:Qh h h'):∀b:Nat,(h'[b]?).isSome=(h[b]?).isSome:=fun b=>by
 cases e:h[b]? with
 |none=>rw[hu.1 b (fun cs=>by rw[e];nofun),e]
 |some x=>
  by_cases hb:∃cs,x=.nP cs
  .obtain⟨cs,rfl⟩:=hb;obtain⟨cs',_,e2⟩:=hu.2 b cs e;rw[e2];rfl
  .rw[hu.1 b (fun cs=>by rw[e];intro h2;cases h2;exact hb ⟨cs,rfl⟩),e]
theorem Yg(h:List HB):∀(g:Nat->List TV),(∀(b:Nat) cs,h[b]? = some (HB.nP cs)->(g b).Perm cs)->Qh h (h.mapIdx fun b x=>match x with|HB.nP _=>HB.cells .last (g b)|x=>x):=fun g hg=>by
 constructor
 .intro b hb;rw[ahN];cases e:h[b]? with
  |none=>rfl
  |some x=>
   simp only[a1l];cases x<;>first|rfl|exact absurd e (hb _)
 .intro b cs e;exact⟨g b,hg b cs e,by rw[ahN,e];rfl⟩
theorem Yh{M h w}(hV:Valid M rW (lK h) w):∃h',Qh h h'/\Valid M rW (lK h') w:=by
 have hg:∀b:Nat,∃g:List TV,∀cs,h[b]? = some (HB.nP cs)->g.Perm cs/\∀l,M (.h b)=some l->qh M.h w (.cells .last g) l:=fun b=>by
  by_cases hb:∃cs,h[b]? = some (HB.nP cs)
  .obtain⟨cs,hb⟩:=hb;cases hm:M (.h b)with
   |none=>exact⟨cs,fun ET h2=>⟨by rw[hb]at h2;cases h2;exact .refl _,fun l hl=>by cases hl⟩⟩
   |some l=>
    obtain⟨bb,c1,c2⟩:=hV.ok _ _ hm trivial;have c1:h[b]? = some bb:=c1;rw[hb]at c1;cases c1;cases l with
    |obj r o=>exact c2.elim
    |cells ls=>
     obtain⟨cs',p1,p2⟩:=c2;exact⟨cs',fun ET h2=>⟨by rw[hb]at h2;cases h2;exact p1,fun l hl=>by cases hl;exact p2⟩⟩
  exact⟨[],fun cs h2=>absurd ⟨cs,h2⟩ hb⟩
 let g:Nat->List TV:=fun b=>Classical.choose (hg b)
 have hgs:∀(b:Nat) cs,h[b]? = some (HB.nP cs)->(g b).Perm cs/\∀l,M (.h b)=some l->qh M.h w (.cells .last (g b)) l:=fun b=>aa6 (hg b);have hu:=Yg h g fun b cs e=>(hgs b cs e).1;generalize hh:(h.mapIdx fun b x=>match x with|HB.nP _=>HB.cells .last (g b)|x=>x)=h' at hu;refine⟨h',hu,?_⟩;have XF:∀(b:Nat) cs,h[b]? = some (HB.nP cs)->h'[b]? = some (HB.cells .last (g b)):=fun b cs e=>by rw[<-hh,ahN,e];rfl
 refine⟨fun k l hk _=>?_,fun k k' l l' b iO hk oZ _ hc hw=>?_,hV.inb⟩
 .obtain⟨bb,c1,c2⟩:=hV.ok k l hk trivial;cases k with
  |l k=>exact⟨bb,c1,c2⟩
  |h b=>
   have c1:h[b]? = some bb:=c1;by_cases hb:∃cs,bb=.nP cs
   .obtain⟨cs,rfl⟩:=hb;exact⟨_,XF b cs c1,(hgs b cs c1).2 l hk⟩
   refine⟨bb,?_,c2⟩;show h'[b]? = some bb;rw[hu.1 b (fun cs=>by rw[c1];intro h2;cases h2;exact hb ⟨cs,rfl⟩),c1]
 obtain⟨bb,c1,_⟩:=hV.ok k l hk trivial;refine hV.own k k' l l' bb iO hk oZ trivial c1 ?_;cases k with
 |l k=>have hc:lK h (.l k)=some b:=hc;rw[c1]at hc;cases hc;exact hw
 |h i=>
  have c1:h[i]? = some bb:=c1;have hc:h'[i]? = some b:=hc;by_cases hb:∃cs,bb=.nP cs
  .obtain⟨cs,rfl⟩:=hb;rfl
  rw[hu.1 i (fun cs=>by rw[c1];intro h2;cases h2;exact hb ⟨cs,rfl⟩),c1]at hc;cases hc;exact hw
theorem a0I{M h h1 w w' v y}(hu:Qh h h1)(hv:∃k n,v=.int k n)(hR:jF M h1 w v h1 [] y w'):jF M h w v h [] y w':=by
 obtain⟨M',a1,a2,a3,a4⟩:=hR;have hs:∀k,(lK h1 k).isSome=(lK h k).isSome:=fun k=>by
  cases k with
  |l k=>rfl
  |h b=>exact U8 hu b
 have JF:∀(b:Nat) bb,h1[b]? = some bb->(h[b]? = some bb/\∀cs,bb≠HB.nP cs)\/∃cs cs',bb=HB.cells .last cs'/\cs'.Perm cs/\h[b]? = some (HB.nP cs):=fun b bb e=>by
  by_cases hb:∃cs,h[b]? = some (HB.nP cs)
  .obtain⟨cs,hb⟩:=hb;obtain⟨cs',p,e2⟩:=hu.2 b cs hb;rw[e]at e2;cases e2;exact .inr ⟨cs,cs',rfl,p,hb⟩
  have:=hu.1 b fun cs h2=>hb ⟨cs,h2⟩;rw[e]at this;exact .inl ⟨this.symm,fun cs h2=>hb ⟨cs,by rw[<-this,h2]⟩⟩
 refine⟨M',⟨fun k l hk _=>?_,fun k k' l l' b iO hk oZ _ hc hw=>?_,a1.inb⟩,a2,⟨a3.JE,a3.frame,fun _ _ _=>rfl,fun k hk hn=>a3.l7 k ?_ hn,a3.fresh,a3.size,fun _ h=>h,fun k hk=>(by cases hk),fun k hk=>(by cases hk),a3.os,a3.output,a3.tape⟩,a4⟩
 .obtain⟨bb,c1,c2⟩:=a1.ok k l hk trivial;cases k with
  |l k=>exact⟨bb,c1,c2⟩
  |h b=>
   rcases JF b bb c1 with⟨e,_⟩|⟨cs,cs',rfl,p,e⟩
   .exact⟨bb,e,c2⟩
   refine⟨_,e,?_⟩;cases l with
   |obj r o=>exact c2.elim
   |cells ls=>exact⟨cs',p,c2⟩
 .obtain⟨bb,c1,_⟩:=a1.ok k l hk trivial;refine a1.own k k' l l' bb iO hk oZ trivial c1 ?_;cases k with
  |l k=>have hc:lK h1 (.l k)=some b:=hc;rw[c1]at hc;cases hc;exact hw
  |h i=>
   have hc:h[i]? = some b:=hc;rcases JF i bb c1 with⟨e,_⟩|⟨cs,cs',rfl,p,e⟩
   .rw[hc]at e;cases e;exact hw
   rfl
 rcases hk with hk|hk
 .exact .inl (by rw[hs];exact hk)
 refine .inr ?_;have:=hs k;rw[hk]at this;cases e:lK h1 k with
 |none=>rfl
 |some x=>rw[e]at this;cases this
theorem abf{P f call}(hC:iQ P call):iQ P (a4s f call):=by
 intro fv args h v h' ws hc M w x xs hV vI hx Gz;unfold a4s at hc;split at hc
 rotate_left
 .cases hc
 rename_i hb;have hs:=aa6 hb;simp only[a08,a1d]at hc;obtain⟨rfl,rfl,rfl⟩:=hc;obtain⟨hv,hfn,Gy⟩:=hs;obtain⟨h1,hu,hV1⟩:=Yh hV;obtain⟨h2,yO⟩:=Gy h1 hu;obtain⟨d,e1,e2⟩:=hC _ _ _ _ _ _ yO M w x xs hV1 vI hx Gz;refine⟨d,e1,?_⟩;rcases e2 with⟨⟨f',az,q1,q2⟩,r⟩|⟨⟨l,f',tmps,vV,body,q1,q2⟩,r⟩
 .refine .inl ⟨⟨f',az,q1,fun n=>CallsIn.mono (F:=Fence.wide) (q2 n) fun en w3 Xw=>?_⟩,r⟩;cases en with
  |panicked c=>exact Xw.elim
  |outgrown=>exact Xw.elim
  |returned y=>
   refine a0I hu hv (jF.norm (nP:=false) hV1 vI ?_ Xw);obtain⟨k,n,e⟩:=hv;rw[e];simp[P9,D5,xI,o9,DR,Vg,Na]
 obtain⟨l',e⟩:=r;exact absurd hfn (by rw[e];nofun)
theorem abg{f call args h k n}(hb:agw f call (.fn f [] []) args h (.int k n))(iO:∃h',Qh h h'):a4s f call (.fn f [] []) args h=some (.int k n,h,[]):=by
 have hx:∃v,agw f call (.fn f [] []) args h v:=⟨_,hb⟩;unfold a4s;rw[dif_pos hx];obtain⟨h',hu⟩:=iO;obtain⟨h2,h1⟩:=(aa6 hx).2.2 h' hu;obtain⟨h3,h4⟩:=hb.2.2 h' hu;rw[h4]at h1;have:Classical.choose hx=.int k n:=by simp only[a08,a1d]at h1;exact h1.1.symm
 rw[this]
open Go.ChangeShapes
section
variable{H:Type}{nJ:LI2×LI3->H}{P:LI1}{w:LI4}
def Rd(nJ:LI2×LI3->H)(P:LI1)(w:LI4)(t:LI2)(d:DataW H):Prop:=∃cs,Reads nJ P w t cs d
theorem agx{t k d}(ht:P.underlying t=some (.int k))(hd:Rd nJ P w t d):∃n,d=.lit (.int k n)/\(Lit.int k n).wf=true:=by
 obtain⟨cs,fuel,ps,hd⟩:=hd;cases fuel with
 |zero=>simp[DataW.trod]at hd
 |succ n=>
  unfold DataW.trod at hd;rw[ht]at hd;split at hd<;>simp_all
  obtain⟨⟨_,h1⟩,rfl,_⟩:=hd;exact⟨_,rfl,h1⟩
theorem a4t{t fs d}(ht:P.underlying t=some (.struct fs))(hd:Rd nJ P w t d) :∃ds,d=.agg ds/\ds.length=fs.size/\∀(i:Nat) f d',fs[i]? = some f->ds[i]? = some d'->Rd nJ P w f.type d':=by
 obtain⟨cs,fuel,ps,hd⟩:=hd;obtain⟨zs,n,_,hx,nR,Xl,JF⟩:=DataW.trod_struct ht hd;simp only[a1d]at hx;refine⟨zs.map (·.1),hx.1,by simpa using Xl,fun i f d' e1 e2=>?_⟩;simp only[a5w,a0x]at e2;obtain⟨z,hz,rfl⟩:=e2;exact⟨_,n,z.2,by rw[JF i f e1,hz]⟩
theorem a7K{t e d}(ht:P.underlying t=some (.slice e))(hd:Rd nJ P w t d) :d=.nil\/∃xs ys,d=.slice xs ys/\∀y∈xs++ys,Rd nJ P w e y:=by
 obtain⟨cs,fuel,ps,hd⟩:=hd;rcases Deep.open_slice ht hd with⟨rfl,hx⟩|⟨a,len,cap,m,n,Dt,Pl,rfl,_,ZP,_,hm,hx,JF⟩
 .left;cases hx;rfl
 .right;simp only[a2l]at hm;subst hm;simp only[a1d]at hx;refine⟨_,_,hx.1,fun y hy=>?_⟩;have:∃i,i<m/\y=Dt i:=by
   rcases a3E.mp hy with hy|hy
   .obtain⟨i,hi,rfl⟩:=a1u.mp hy;exact⟨i,by have:=a5y.mp hi;omega,rfl⟩
   .obtain⟨i,hi,rfl⟩:=a1u.mp hy;exact⟨len+i,by have:=a5y.mp hi;omega,rfl⟩
  obtain⟨i,hi,rfl⟩:=this;obtain⟨cs',_,e2⟩:=JF i hi;exact⟨cs',n,_,e2⟩
theorem Yi{t:LI2}{fs:Array Field}{g:Nat}{ds:List (DataW H)}{h:List HB}(ht:P.underlying t=some (.struct fs)) :
  DT P (g+1) t (.agg ds) h=match Nb P (DT P g) 0 fs.toList ds h with
   |some (cs,h1)=>if cs.length=P.cellsOf t then some (cs,h1)else none
   |none=>none:=by
 simp only[DT,ht]<;>rfl
end
end Tw
namespace Pv
open Go Tw
structure pK(X:mX)(P:LI1)(kt:LI2)(α:Type)[DecidableEq α] where
 pv:α->PV X.Γ
 tv:α->TV
 v:α->LI3
 hp:∀x,qH (pv x)=some (tv x)
 ht:∀x,(tv x).zk=some (v x)
 hc:∀em x,aC P (Instr.checkKey em 10000 kt (v x))=some ()
 hf:∀(x:α) (l:List α),aC P (Instr.findKey kt (v x) (l.map fun y=>⟨v y,.bool false,0⟩))=some ((l.findIdx? fun y=>decide (x=y)).map fun i=>(i,.bool false))
 hk:∃kind,aC P (underlying kt)=some kind/\((∀x y,Instr.sameNow kind (v x) (v y)=some (decide (x=y)))\/∀x y,Instr.sameNow kind (v x) (v y)=none/\aC P (Op.equal kt (v x) (v y))=some (decide (x=y)))
variable{X:mX}{P:LI1}{kt:LI2}{α:Type}[DecidableEq α](C:pK X P kt α)
abbrev pK.es(l:List (α×PV X.Γ)):List (PV X.Γ×PV X.Γ):=l.map fun e=>(C.pv e.1,e.2)
theorem pK.tvs:∀l:List α,Tw.CX (l.map C.tv)=some (l.map C.v)
 | []=>rfl
 |a::l=>by show(match(C.tv a).zk,Tw.CX (l.map C.tv)with|some v,some vs=>some (v::vs)|_,_=>none)=_;rw[C.ht,pK.tvs l];rfl
theorem pK.find(x)(l:List α)(r)(hr:(l.findIdx? fun y=>decide (x=y))=r)(hs:∀(i) y,l[i]? = some y->decide (x=y)=(some i==r)):wI P kt (C.v x) (l.map C.tv)=some r:=by
 unfold wI;rw[C.tvs];simp only[];rw[bK,C.hc,a5C,a8G];show(match aC P (Instr.findKey kt (C.v x) (l.map fun y=>⟨C.v y,.bool false,0⟩))with|some r=>if Xb P kt (C.v x) (l.map C.v) (Option.map (fun(q:Nat×LI3)=>q.1) r)then some (Option.map (fun(q:Nat×LI3)=>q.1) r)else none|none=>none)=_;rw[C.hf,hr];have e:Option.map (fun(q:Nat×LI3)=>q.1) (r.map fun i=>(i,Value.bool false))=r:=by cases r<;>rfl
 simp only[e];rw[a15];obtain⟨kind,h1,h2⟩:=C.hk;simp only[Xb,h1,a2o,aa4,a5z];constructor
 .cases r with
  |none=>rfl
  |some j=>
   have:=(aaB.1 hr).1;simpa using this
 have hz:∀p∈(l.map C.v).zipIdx,∃y,p.1=C.v y/\decide (x=y)=(some p.2==r):=fun p hp=>by have:=aah.1 hp;rw[a5w,a0x]at this;obtain⟨y,hy,e⟩:=this;exact⟨y,e.symm,hs _ _ hy⟩
 rcases h2 with h2|h2
 .left;intro p hp;obtain⟨y,e1,e2⟩:=hz p hp;rw[e1,h2,e2];simp
 right;intro p hp;obtain⟨y,e1,e2⟩:=hz p hp;rw[e1,(h2 x y).1,(h2 x y).2,e2];simp
theorem pK.pk:∀l,wH X (C.es l)=some ((l.map (·.1)).map C.tv)
 | []=>rfl
 |a::l=>by show(match qH (C.pv a.1),wH X (C.es l)with|some v,some vs=>some (v::vs)|_,_=>none)=_;rw[C.hp,pK.pk l];rfl
theorem pK.ck(x):∃kv,(C.tv x).zk=some kv/\aC P (Instr.checkKey false 10000 kt kv)=some ():=⟨C.v x,C.ht x,C.hc false x⟩
theorem pK.fresh{l x}(h:x∉l.map (·.1)):oG X P kt (C.es l) (C.tv x):=by
 refine⟨C.v x,_,C.ht x,C.pk l,?_⟩;have Zu:∀y∈l.map (·.1),decide (x=y)=false:=fun y hy=>by simp only[a3k];intro e;exact h (e▸hy)
 exact C.find x _ none (List.findIdx?_eq_none_iff.2 Zu) fun i y hy=>by rw[Zu y (a5E hy)];rfl
theorem pK.found{l x v}(hn:(l.map (·.1)).Nodup)(h:(x,v)∈l):qN X P kt (C.es l) (C.tv x) v:=by
 obtain⟨j,hj,e⟩:=a5I.1 h;refine⟨C.v x,_,j,C.pv x,C.ht x,C.pk l,?_,?_⟩
 .have hxj:(l.map (·.1))[j]? = some x:=by simp[a0A hj,e]
  have hu:∀(i:Nat) y,(l.map (·.1))[i]? = some y->decide (x=y)=(some i==some j):=fun i y hy=>by
   rw[a5G];simp only[a1z,a7l,a08];constructor
   .rintro rfl;have i1:=a0u.1 hy;have i2:=a0u.1 hxj;exact(aaL hn (h₀:=i1.1) (h₁:=i2.1)).1 (i1.2.trans i2.2.symm)
   rintro rfl;rw[hxj]at hy;exact aa5 hy
  refine C.find x _ (some j) ?_ hu;rw[aaB];refine⟨by simpa using hj,by simp[e],fun i hi=>?_⟩;have hil:i<(l.map (·.1)).length:=by simp;omega
  rw[hu i _ (a0A hil)];simp;omega
 simp[pK.es,a0A hj,e]
theorem KH{t d}(h:P.underlying t=some d):aC P (underlying t)=some d:=by simp only[underlying,bK];show Option.bind (some P) _=_;simp[h];rfl
theorem a0J{v:α->LI3}(he:∀x y,aC P (Op.equal kt (v x) (v y))=some (decide (x=y)))(x):∀(l:List α) (i),aC P (Instr.findAsking kt (v x) (l.map fun y=>⟨v y,.bool false,0⟩) i)=some ((l.findIdx? fun y=>decide (x=y)).map fun j=>(j+i,.bool false))
 | [],i=>rfl
 |y::l,i=>by
  simp only[a4N,Instr.findAsking];rw[bK,he,a5C,List.findIdx?_cons];cases decide (x=y)with
  |true=>simp only[a2l,a1l,a3C];rfl
  |false=>
   simp only[a2H,a3S];rw[a0J he x l (i+1)];cases l.findIdx? fun y=>decide (x=y)with
   |none=>rfl
   |some j=>simp;omega
theorem a2z{v:α->LI3}{fs}(hu:P.underlying kt=some (.struct fs))(he:∀x y,aC P (Op.equal kt (v x) (v y))=some (decide (x=y)))(x)(l:List α):aC P (Instr.findKey kt (v x) (l.map fun y=>⟨v y,.bool false,0⟩))=some ((l.findIdx? fun y=>decide (x=y)).map fun i=>(i,.bool false)):=by
 have h:=a0J he x l 0;unfold Instr.findKey;rw[bK,KH hu,a5C];cases l with
 |nil=>rfl
 |cons y l=>
  rw[show Instr.findNow (.struct fs) (v x) ((y::l).map fun y=>⟨v y,.bool false,0⟩) 0=none by simp[Instr.findNow,Instr.sameNow]];exact h
theorem a2A{k}(x):∀(l:LI0) (i),Instr.findNow (.int k) (.int k x) (l.map fun y=>⟨.int k y,.bool false,0⟩) i=some ((l.findIdx? fun y=>decide (x=y)).map fun j=>(j+i,.bool false))
 | [],i=>rfl
 |y::l,i=>by
  simp only[a4N,Instr.findNow,Instr.sameNow,a2l];rw[List.findIdx?_cons];by_cases h:x=y
  .subst h;simp
  rw[show(x==y)=false by simpa using h,afc h];simp only[a2H,a3S];rw[a2A x l (i+1)];cases l.findIdx? fun y=>decide (x=y)with
  |none=>rfl
  |some j=>simp;omega
theorem agy{k}(hu:P.underlying kt=some (.int k))(x)(l:LI0):aC P (Instr.findKey kt (.int k x) (l.map fun y=>⟨.int k y,.bool false,0⟩))=some ((l.findIdx? fun y=>decide (x=y)).map fun i=>(i,.bool false)):=by unfold Instr.findKey;rw[bK,KH hu,a5C,a2A x l 0];cases l.findIdx? fun y=>decide (x=y)<;>rfl
theorem a2B{v:α->LI3}{fs}(hu:P.underlying kt=some (.struct fs))(he:∀x y,aC P (Op.equal kt (v x) (v y))=some (decide (x=y))) :∃kind,aC P (underlying kt)=some kind/\((∀x y,Instr.sameNow kind (v x) (v y)=some (decide (x=y)))\/∀x y,Instr.sameNow kind (v x) (v y)=none/\aC P (Op.equal kt (v x) (v y))=some (decide (x=y))):=
 ⟨_,KH hu,.inr fun x y=>⟨by simp[Instr.sameNow],he x y⟩⟩
theorem agz{k}(hu:P.underlying kt=some (.int k)) :∃kind,aC P (underlying kt)=some kind/\((∀x y,Instr.sameNow kind (.int k x) (.int k y)=some (decide (x=y)))\/∀x y,Instr.sameNow kind (.int k x) (.int k y)=none/\aC P (Op.equal kt (.int k x) (.int k y))=some (decide (x=y))):=
 ⟨_,KH hu,.inl fun x y=>by simp only[Instr.sameNow,a2l];congr 1⟩
theorem agA{v:α->LI3}{n e}(hu:P.underlying kt=some (.array n e))(he:∀x y,aC P (Op.equal kt (v x) (v y))=some (decide (x=y)))(x)(l:List α):aC P (Instr.findKey kt (v x) (l.map fun y=>⟨v y,.bool false,0⟩))=some ((l.findIdx? fun y=>decide (x=y)).map fun i=>(i,.bool false)):=by
 have h:=a0J he x l 0;unfold Instr.findKey;rw[bK,KH hu,a5C];cases l with
 |nil=>rfl
 |cons y l=>
  rw[show Instr.findNow (.array n e) (v x) ((y::l).map fun y=>⟨v y,.bool false,0⟩) 0=none by simp[Instr.findNow,Instr.sameNow]];exact h
theorem agB{v:α->LI3}{n e}(hu:P.underlying kt=some (.array n e))(he:∀x y,aC P (Op.equal kt (v x) (v y))=some (decide (x=y))) :∃kind,aC P (underlying kt)=some kind/\((∀x y,Instr.sameNow kind (v x) (v y)=some (decide (x=y)))\/∀x y,Instr.sameNow kind (v x) (v y)=none/\aC P (Op.equal kt (v x) (v y))=some (decide (x=y))):=
 ⟨_,KH hu,.inr fun x y=>⟨by simp[Instr.sameNow],he x y⟩⟩
end Pv
namespace Tw
open Go
section
variable{P:LI1}
theorem Ee{e}(hg:aC P (isAgg e)=some false){xs i v}(h:xs[i]? = some v):aC P (part e xs i)=some v:=by unfold part;rw[bK,hg,a5C];simp only[a2H,a3S,h];rfl
def a4u(d:Nat)(e:LI2)(c:Nat)(xs ys:Array LI3):List Nat->Sem Bool
 | []=>pure true
 |i::is=>do
  let a <-part e xs (i*c)
  let b <-part e ys (i*c)
  let r <-Op.equalIn d e a b
  if(!r)=true then pure false else a4u d e c xs ys is
theorem KI(d){t e n c}(xs ys)(hu:P.underlying t=some (.array n e))(hs:aC P (sizeOf e)=some c) :aC P (Op.equalIn (d+1) t (.agg xs) (.agg ys))=aC P (a4u d e c xs ys (List.range' 0 n)):=by
 have hu':aC P (underlying t)=some (.array n e):=by simp only[underlying,bK];have:aC P program=some P:=rfl;simp[this,hu,aC];rfl
 simp only[Op.equalIn,bK,hu',a5C,hs];simp only[Std.Legacy.Range.forIn_eq_forIn_range',Std.Legacy.Range.size,Nat.sub_zero,Nat.add_one_sub_one,Nat.div_one];generalize List.range' 0 n=is;clear hu hu' hs
 induction is with
 |nil=>simp[a4u,aC,bK];rfl
 |cons j is ih=>
  simp only[List.forIn_cons,a4u,bK]at ih ⊢;generalize aC P (part e xs (j*c))=r1;cases r1 with
  |none=>simp
  |some a=>
   simp only[a5C];generalize aC P (part e ys (j*c))=r2;cases r2 with
   |none=>simp
   |some b=>
    simp only[a5C];generalize aC P (Op.equalIn d e a b)=r3;cases r3 with
    |none=>simp
    |some r=>
     cases r with
     |false=>simp only[a5C,abD,a2l];rfl
     |true=>simp only[a5C,aa2,a2H,a3S];exact ih
abbrev Ef(k:IntKind)(l:LI0):Array LI3:=(l.map fun x=>Value.int k x).toArray
theorem Qi{k l}{i:Nat}(h):(Ef k l)[i]? = some (.int k l[i]):=by simp[Ef,h]
theorem MO{d e k k'}(hu:P.underlying e=some (.int k'))(hg:aC P (isAgg e)=some false)(l l')(hl:l.length=l'.length):∀(m i),i+m=l.length->aC P (a4u (d+1) e 1 (Ef k l) (Ef k l') (List.range' i m))=some (decide (l.drop i=l'.drop i))
 | 0,i,h=>by rw[afP (by omega),afP (by omega)];rfl
 |m+1,i,h=>by
  have h1:i<l.length:=by omega
  have h2:i<l'.length:=by omega
  rw[List.range'_succ];simp only[a4u,aix];rw[bK,Ee hg (Qi h1),a5C,bK,Ee hg (Qi h2),a5C,bK,sF d e k k' _ _ hu,a5C];rw[a6j h1,a6j h2];by_cases hc:l[i]=l'[i]
  .have:=MO (d:=d) (k:=k) hu hg l l' hl m (i+1) (by omega);simp only[hc,beq_self_eq_true,aa2,a2H,a3S,this,afb,true_and]
  have:(l[i]==l'[i])=false:=by simpa using hc
  simp only[this,abD,a2l,afb,hc,false_and,decide_false];rfl
theorem CS(d){t e n k k'}(ht:P.underlying t=some (.array n e))(hs:aC P (sizeOf e)=some 1)(hu:P.underlying e=some (.int k'))(hg:aC P (isAgg e)=some false){l l'}(hl:l.length=n)(hl':l'.length=n) :aC P (Op.equalIn (d+2) t (.agg (Ef k l)) (.agg (Ef k l')))=some (decide (l=l')):=by
 rw[KI (d+1) _ _ ht hs,MO hu hg l l' (by omega) n 0 (by omega),aaO,aaO]
end
end Tw
namespace Pv
open Go Tw
def yY:Code->Option (Code×Code)
 |.seq a b=>match yY a with
  |some r=>some r
  |none=>yY b
 |.cond _ a b=>match yY a with
  |some r=>some r
  |none=>yY b
 |.block _ b=>yY b
 |.loop b=>yY b
 |.rangeFunc _ _ a b=>some (a,b)
 |_=>none
def xU(P:LI1)(f:Nat):Code:=
 match UO P f with
 |some t=>match yY t.body with
  |some (a,_)=>a
  |none=>.skip
 |none=>.skip
def BJ(P:LI1)(f:Nat):Code:=
 match UO P f with
 |some t=>match yY t.body with
  |some (_,b)=>b
  |none=>.skip
 |none=>.skip
section
variable{X:mX}{P:LI1}
theorem cZ.pre(hX:bT X P){call f cs NY xs H H0 H1 v}(gs)(hs:cZ X P call (.fn f [] []) (.agg NY::xs) H0 v H1)(hg:lQ H.length gs (⟨[],[cs],H⟩:bJ X.Γ)=some ⟨[],[NY],H0⟩):cZ X P call (.fn f [] []) (.agg cs::xs) H v H1:=by
 intro A m h tf rJ hr hf hx;obtain⟨x0,r,rfl,v0,vr⟩:=hx.inv;cases v0 with
 |gone hi _ _=>simp[bF]at hi
 |agg a1 a2=>
  rename_i cs';obtain⟨m2,q1,q2,q3⟩:=mM hX hg A (fun b=>b∈bn m) h.length m ⟨[],[cs'],h,[]⟩ ⟨⟨hr,rfl,fun k c hk=>by
   cases k with
   |zero=>simp only[a2I,a08]at hk;subst hk;exact⟨cs',rfl,a1,a2⟩
   |succ k=>simp at hk,.nil⟩,fun b hb=>.inl hb,fun b hb=>(by cases hb),a1j _⟩
  have up:Up m m2:=fun i mb hi=>q3 i mb (by rw[<-hr.len];exact(a0u.1 hi).1) hi;obtain⟨c2,e1,w1⟩:=q1.st.loc 0 NY rfl;simp only[a2I,a08]at e1;subst e1;obtain⟨w,h',ws,m1,k1,k2,k3,k4,k5,k6⟩:=hs A m2 h tf (.agg cs'::r) q1.st.heap (hf.step q2 up) (.cons (.agg w1.1 w1.2) (vr.step q2 up));refine⟨w,h',ws,m1,k1,k2,k3,q2.trans k4,fun i mb hi=>?_,fun b hb=>?_⟩
  .rcases up i mb hi with g|g
   .exact k5 i mb g
   rcases k5 i _ g with g|g<;>exact .inr g
  have hb:=k6 b hb;rcases q1.own b hb with g|g
  .exact g
  have:=q1.st.heap.inb hb;have:b<h.length:=this;omega
theorem EZ{A m h}:∀{a b} {z:List TV},bZ X P A m h (a++b) z->∃x y,z=x++y/\bZ X P A m h a x/\bZ X P A m h b y
 | [],b,z,hz=>⟨[],z,rfl,.nil,hz⟩
 |v::a,b,z,hz=>by obtain⟨x0,r,rfl,v0,vr⟩:=bZ.inv (v:=v) (vs:=a++b) hz;obtain⟨x,y,rfl,h1,h2⟩:=EZ vr;exact⟨x0::x,y,rfl,.cons v0 h1,h2⟩
theorem cZ.fz(hX:bT X P){call f cs ws rest xs H H1 v}(is)(hs:cZ X P call (.fn f [] []) (.agg (ws++rest)::xs) (bD is H) v H1)(hv:views H cs=some ws)(ho:∀i,i∈lC.kU cs->i∈is):cZ X P call (.fn f [] []) (.agg (cs++rest)::xs) H v H1:=by
 intro A m h tf rJ hr hf hx;obtain⟨x0,r,rfl,v0,vr⟩:=hx.inv;cases v0 with
 |gone hi _ _=>simp[bF]at hi
 |agg a1 a2=>
  rename_i cs';have ha:bZ X P (AA A m) m h (cs++rest) cs':=⟨a1,a2⟩;obtain⟨c1,c2,rfl,b1,b2⟩:=EZ ha;have hF:=iU (h:=h) is m;have w1:=(mG (m':=cu is m) hX hr b1 hv ho).mono fun b hb=>FA.gone hr hb;have w2:=b2.step hF.1 hF.2;have w3:=w1.app w2;obtain⟨w,h',Xd,m1,k1,k2,k3,k4,k5,k6⟩:=hs A (cu is m) h tf (.agg (c1++c2)::r) (hr.bD is) (hf.step hF.1 hF.2) (.cons (.agg w3.1 w3.2) (vr.step hF.1 hF.2));refine⟨w,h',Xd,m1,k1,k2,k3,hF.1.trans k4,hF.2.trans k5,fun b hb=>?_⟩;rcases hF.1.new b (k6 b hb)with g|g
  .exact g
  have:=(hr.bD is).inb (k6 b hb);omega
end
theorem Good.adC{X P T L α β f a}{r:Ar X P β}{S}{pre:α->List Prop}{gG Y8 a7L:gU X.Γ}(d:Nat)(hg:Good X P T L gG)(hg2:Good X P T L Y8)(hg3:Good X P T L a7L)(hf:∀n,d<=n->(∀m,n-d<=m->jX X P (lu P T L m) gG)->(∀m,n-d<=m->jX X P (lu P T L m) Y8)->(∀m,n-d<=m->jX X P (lu P T L m) a7L)->∀x,(∀p∈pre x,p)->nU X P (lu P T L (n+1)) f (a.put x) (r.put (S x)) []):Good X P T L (bU f a r S pre gG):=by
 obtain⟨N2,hN2⟩:=hg2;obtain⟨N3,hN3⟩:=hg3;obtain⟨M,hM⟩:=hg;refine⟨M+N2+N3+d+1,fun n hn=>?_⟩;obtain⟨k,rfl⟩:∃k,n=k+1:=⟨n-1,by omega⟩;intro g vs v ext ps ho hp;unfold bU at ho;split at ho
 .rename_i e;have e:=a9Z e;subst e;split at ho
  .rename_i x hx;cases ho;intro A h first args cap G5 hv
   exact hf k (by omega) (fun m hm=>hM m (by omega)) (fun m hm=>hN2 m (by omega)) (fun m hm=>hN3 m (by omega)) x hp A h first args cap G5 (a.ok hx hv)
  .exact hM (k+1) (by omega) g vs v ext ps ho hp
 .exact hM (k+1) (by omega) g vs v ext ps ho hp
end Pv
namespace bQ
open Tw
section
variable{κ:Type}[DecidableEq κ]
def uf(m:List (κ×Int))(k:κ)(n:Int):List (κ×Int):=
 if k∈m.map (·.1)then m.modify ((m.map (·.1)).idxOf k) (fun e=>(e.1,e.2+n))else m++[(k,n)]
def dK(φ:κ->Int):List (κ×Int)->Int
 | []=>0
 |e::m=>e.2*φ e.1+dK φ m
theorem Yj(φ:κ->Int):∀a b,dK φ (a++b)=dK φ a+dK φ b
 | [],b=>by simp[dK]
 |e::a,b=>by simp only[List.cons_append,dK,Yj φ a b];omega
theorem Yk(φ:κ->Int){k n}:∀{m},k∈m.map (·.1)->dK φ (m.modify ((m.map (·.1)).idxOf k) fun e=>(e.1,e.2+n))=dK φ m+n*φ k
 | [],h=>by simp at h
 |e::m,h=>by
  by_cases e1:e.1=k
  .have:((e::m).map (·.1)).idxOf k=0:=(by simp[aef,e1]);rw[this];simp only[List.modify_zero_cons,dK,afN,e1];omega
  have h2:k∈m.map (·.1):=by rw[a4N,a1B]at h;exact h.resolve_left fun h=>e1 h.symm
  have:((e::m).map (·.1)).idxOf k=(m.map (·.1)).idxOf k+1:=by simp[aef,ait.2 e1]
  rw[this];simp only[List.modify_succ_cons,dK,Yk φ h2];omega
theorem Af(φ:κ->Int)(m k n):dK φ (uf m k n)=dK φ m+n*φ k:=by
 unfold uf;split
 .exact Yk φ ‹_›
 rw[Yj];simp[dK]
theorem Yl{f:Int->Int}:∀(m:List (κ×Int)) (j:Nat),(m.modify j fun e=>(e.1,f e.2)).map (·.1)=m.map (·.1)
 | [],j=>by simp
 |e::m,0=>by simp
 |e::m,j+1=>by simp[Yl m j]
theorem U9(m:List (κ×Int))(k n):(uf m k n).map (·.1)=if k∈m.map (·.1)then m.map (·.1)else m.map (·.1)++[k]:=by
 unfold uf;split
 .exact Yl (f:=fun x=>x+n) m _
 simp
theorem H8{m:List (κ×Int)}(h:(m.map (·.1)).Nodup)(k n):((uf m k n).map (·.1)).Nodup:=by
 rw[U9];split
 .exact h
 rename_i h2;rw[a9S];exact⟨h,by simp,fun x hx y hy e=>by simp at hy;subst hy;subst e;exact h2 hx⟩
theorem a2C{f}:∀{m:List (κ×Int)} {j:Nat} {e:κ×Int},e∈m.modify j f->e∈m\/∃e'∈m,e=f e'
 | [],j,e,h=>by simp at h
 |x::m,0,e,h=>by
  rw[List.modify_zero_cons,a1B]at h;rcases h with h|h
  .exact .inr ⟨x,by simp,h⟩
  exact .inl (by simp[h])
 |x::m,j+1,e,h=>by
  rw[List.modify_succ_cons,a1B]at h;rcases h with h|h
  .exact .inl (by simp[h])
  rcases a2C h with h|⟨e',h1,h2⟩
  .exact .inl (by simp[h])
  exact .inr ⟨e',by simp[h1],h2⟩
theorem Qj{m:List (κ×Int)}{k n}(hn:0<n)(h:∀e∈m,0<e.2):∀e∈uf m k n,0<e.2:=fun e he=>by
 unfold uf at he;split at he
 .rcases a2C he with h1|⟨e',h1,rfl⟩
  .exact h e h1
  .have:=h e' h1;show 0<e'.2+n;omega
 .rcases a3E.1 he with h1|h1
  .exact h e h1
  .rw[a2m.1 h1];exact hn
theorem a7M{m:List (κ×Int)}{k n e}(he:e∈uf m k n):e.1=k\/∃e'∈m,e'.1=e.1:=by
 have:e.1∈(uf m k n).map (·.1):=a1u.2 ⟨e,he,rfl⟩;rw[U9]at this;split at this
 .obtain⟨e',h1,h2⟩:=a1u.1 this;exact .inr ⟨e',h1,h2⟩
 rcases a3E.1 this with h1|h1
 .obtain⟨e',h1,h2⟩:=a1u.1 h1;exact .inr ⟨e',h1,h2⟩
 exact .inl (by simpa using h1)
def ind(k:κ)(x:κ):Int:=if x=k then 1 else 0
theorem VN{k:κ}:∀{m},k∉m.map (·.1)->dK (ind k) m=0
 | [],_=>rfl
 |e::m,h=>by rw[a4N,a1B,ade]at h;simp only[dK,VN h.2,ind,a0S (fun e1:e.1=k=>h.1 e1.symm)];omega
theorem J9:∀{m} {e:κ×Int},(m.map (·.1)).Nodup->e∈m->dK (ind e.1) m=e.2
 |x::m,e,hn,h=>by
  rw[a4N,a5x]at hn;rcases a1B.1 h with rfl|h
  .simp only[dK,VN hn.1,ind,a2l];omega
  have:¬x.1=e.1:=fun e1=>hn.1 (a1u.2 ⟨e,h,e1.symm⟩);simp only[dK,J9 hn.2 h,ind,a0S this];omega
theorem Ym{m:List (κ×Int)}(hn:(m.map (·.1)).Nodup)(hp:∀e∈m,0<e.2)(e):e∈m↔0<e.2/\dK (ind e.1) m=e.2:=by
 constructor
 .exact fun h=>⟨hp e h,J9 hn h⟩
 rintro⟨h1,h2⟩;by_cases h:e.1∈m.map (·.1)
 .obtain⟨e',h3,h4⟩:=a1u.1 h;have:=J9 hn h3;have h4:e'.1=e.1:=h4;rw[h4,h2]at this;have:e'=e:=ads h4 this.symm;rw[<-this];exact h3
 rw[VN h]at h2;omega
theorem Ja{β:Type}{f:κ×Int->β}{l:List (κ×Int)}(h:(l.map f).Nodup):l.Nodup:=by rw[List.Nodup,afB]at h;exact h.imp fun{a b} h (e:a=b)=>h (congrArg f e)
theorem VO{m m':List (κ×Int)}(h1:(m.map (·.1)).Nodup)(h2:(m'.map (·.1)).Nodup)(p1:∀e∈m,0<e.2)(p2:∀e∈m',0<e.2)(h:∀φ,dK φ m=dK φ m'):m.Perm m':=
 (a7o (Ja h1) (Ja h2)).2 fun e=>by rw[Ym h1 p1,Ym h2 p2,h]
theorem a4v(φ:κ->Int){m m'}(h:m.Perm m'):dK φ m=dK φ m':=by
 induction h with
 |nil=>rfl
 |cons x _ ih=>simp only[dK,ih]
 |swap x y l=>simp only[dK];omega
 |trans _ _ h1 h2=>exact h1.trans h2
def BL(l:List κ):List (κ×Int):=l.foldl (fun m k=>uf m k 1) []
def eP(φ:κ->Int):List κ->Int
 | []=>0
 |k::l=>φ k+eP φ l
theorem Yn(φ:κ->Int):∀(l) (m),dK φ (l.foldl (fun m k=>uf m k 1) m)=dK φ m+eP φ l
 | [],m=>by simp[eP]
 |k::l,m=>by rw[adE,Yn φ l,Af,eP];omega
theorem Ua(φ:κ->Int)(l):dK φ (BL l)=eP φ l:=by unfold BL;rw[Yn];simp[dK]
theorem H9(l:List κ):((BL l).map (·.1)).Nodup/\∀e∈BL l,0<e.2:=by
 have:∀(l:List κ) (m:List (κ×Int)),(m.map (·.1)).Nodup->(∀e∈m,0<e.2)->((l.foldl (fun m k=>uf m k 1) m).map (·.1)).Nodup/\∀e∈l.foldl (fun m k=>uf m k 1) m,0<e.2:=by
  intro l
  induction l with
  |nil=>exact fun m h1 h2=>⟨h1,h2⟩
  |cons k l ih=>exact fun m h1 h2=>ih _ (H8 h1 k 1) (Qj (by omega) h2)
 exact this l [] (by simp) (by simp)
theorem KJ(φ:κ->Int){l l'}(h:l.Perm l'):eP φ l=eP φ l':=by
 induction h with
 |nil=>rfl
 |cons x _ ih=>simp only[eP,ih]
 |swap x y l=>simp only[eP];omega
 |trans _ _ h1 h2=>exact h1.trans h2
theorem Jc(φ:κ->Int):∀a b,eP φ (a++b)=eP φ a+eP φ b
 | [],b=>by simp[eP]
 |e::a,b=>by simp only[List.cons_append,eP,Jc φ a b];omega
end
theorem KL:∀a b,mD a b=true\/mD b a=true
 | [],_=>.inl rfl
 |_::_,[]=>.inr rfl
 |a::az,b::bs=>by
  simp only[mD];rcases Int.lt_trichotomy a b with h|h|h
  .simp[h]
  .subst h;simpa using KL az bs
  simp[h]
theorem Eh:∀a b,mD a b=true->mD b a=true->a=b
 | [],[],_,_=>rfl
 | [],_::_,_,h=>by cases h
 |_::_,[],h,_=>by cases h
 |a::az,b::bs,h1,h2=>by
  simp only[mD]at h1 h2;rcases Int.lt_trichotomy a b with h|h|h
  .rw[a0S (by omega),a15 h]at h2;cases h2
  .subst h;simp at h1 h2;rw[Eh az bs h1 h2]
  rw[a0S (by omega),a15 h]at h1;cases h1
theorem lex_trans:∀a b c,mD a b=true->mD b c=true->mD a c=true
 | [],_,_,_,_=>rfl
 |_::_,[],_,h,_=>by cases h
 |_::_,_::_,[],_,h=>by cases h
 |a::az,b::bs,c::cs,h1,h2=>by
  simp only[mD]at h1 h2 ⊢;split at h1
  .split at h2
   .rw[a15 (by omega)]
   split at h2
   .cases h2
   rw[a15 (by omega)]
  split at h1
  .cases h1
  split at h2
  .rw[a15 (by omega)]
  split at h2
  .cases h2
  rw[a0S (by omega),a0S (by omega)];exact lex_trans az bs cs h1 h2
section
variable{α:Type}{key:α->LI0}
theorem Ub{a b}(h:key a=key b->a=b):∀s,FI key a (FI key b s)=FI key b (FI key a s)
 | []=>by
  by_cases e:a=b
  .rw[e]
  simp only[FI];rcases KL (key a) (key b)with h1|h1
  .have:mD (key b) (key a)=false:=by
    cases h2:mD (key b) (key a)
    .rfl
    exact absurd (h (Eh _ _ h1 h2)) e
   simp[h1,this]
  have:mD (key a) (key b)=false:=by
   cases h2:mD (key a) (key b)
   .rfl
   exact absurd (h (Eh _ _ h2 h1)) e
  simp[h1,this]
 |c::s=>by
  by_cases e:a=b
  .rw[e]
  have hx:mD (key a) (key b)=!mD (key b) (key a):=by
   rcases KL (key a) (key b)with h1|h1
   .cases h2:mD (key b) (key a)
    .rw[h1];rfl
    exact absurd (h (Eh _ _ h1 h2)) e
   cases h2:mD (key a) (key b)
   .rw[h1];rfl
   exact absurd (h (Eh _ _ h2 h1)) e
  cases h1:mD (key a) (key c)<;>cases h2:mD (key b) (key c)
  .simp only[FI,h1,h2,a2H,a3S,Ub h s]
  .have h3:mD (key a) (key b)=false:=by
    cases h3:mD (key a) (key b)
    .rfl
    rw[lex_trans _ _ _ h3 h2]at h1;cases h1
   simp only[FI,h1,h2,h3,a2H,a3S,a2l]
  .have h3:mD (key b) (key a)=false:=by
    cases h3:mD (key b) (key a)
    .rfl
    rw[lex_trans _ _ _ h3 h1]at h2;cases h2
   simp only[FI,h1,h2,h3,a2H,a3S,a2l]
  cases h3:mD (key b) (key a)<;>rw[h3]at hx<;>simp[FI,h1,h2,h3,hx]
theorem Gj{l l'}(h:l.Perm l')(hi:∀a∈l,∀b∈l,key a=key b->a=b):zU key l=zU key l':=by
 induction h with
 |nil=>rfl
 |cons x _ ih=>simp only[zU,ih fun a ha b hb=>hi a (by simp[ha]) b (by simp[hb])]
 |swap x y l=>exact Ub (hi y (by simp) x (by simp)) _
 |trans h1 h2 i1 i2=>exact(i1 hi).trans (i2 fun a ha b hb=>hi a (h1.mem_iff.2 ha) b (h1.mem_iff.2 hb))
theorem Uc{β}{g:α->β}{key2}(h:∀a,key2 (g a)=key a):∀l,zU key2 (l.map g)=(zU key l).map g:=by
 have hi:∀(a:α) (s:List α),FI key2 (g a) (s.map g)=(FI key a s).map g:=by
  intro a s
  induction s with
  |nil=>rfl
  |cons c s ih=>
   simp only[a4N,FI,h];split
   .rfl
   rw[a4N,ih]
 intro l
 induction l with
 |nil=>rfl
 |cons a l ih=>simp only[a4N,zU,ih,hi]
end
end bQ
namespace Pv
open Go Tw
section
variable{P:LI1}{T:vw}{call:dM}{cd:xH}{L f:Nat}{fl nt:Nat}
def oN:Code->Bool
 |.rangeFunc ..=>false
 |.region _ ops _=>(Bo ops).isNone
 |.seq a b=>oN a&&oN b
 |.cond _ a b=>oN a&&oN b
 |.block _ b=>oN b
 |.scope b=>oN b
 |.loop b=>oN b
 |_=>true
theorem a7N:∀(c) {s s'} {e} {Q},oN c=true->exec P T call L f false fl nt c s=some (e,s')->Q e s'->fU P T call cd L f fl nt c s Q:=by
 intro c
 induction c with
 |region id ops draw=>
  intro s s' e Q hn h hq;simp only[oN,Option.isNone_iff_eq_none]at hn;simp only[fU,hn];exact⟨_,_,h,hq⟩
 |seq x y Xx ihy=>
  intro s s' e Q hn h hq;simp only[oN,a2o]at hn;simp only[fU];simp only[exec]at h;split at h
  .rename_i s1 hx;exact Xx hn.1 hx (ihy hn.2 h hq)
  rename_i iO;refine Xx hn.1 h ?_;cases e with
  |norm=>exact(iO s' h).elim
  |exit i=>exact hq
  |ret=>exact hq
 |cond c x y Xx ihy=>
  intro s s' e Q hn h hq;simp only[oN,a2o]at hn;simp only[fU];simp only[exec]at h;split at h
  .rename_i hc;simp only[hc];exact Xx hn.1 h hq
  .rename_i hc;simp only[hc];exact ihy hn.2 h hq
  cases h
 |block id b ih=>
  intro s s' e Q hn h hq;simp only[oN]at hn;simp only[fU];simp only[exec]at h;split at h
  .rename_i i s1 hb;cases h;exact ih hn hb hq
  rename_i iO;refine ih hn h ?_;cases e with
  |exit i=>exact(iO i s' h).elim
  |norm=>exact hq
  |ret=>exact hq
 |scope b ih=>
  intro s s' e Q hn h hq;simp only[oN]at hn;simp only[fU];simp only[exec]at h;exact ih hn h hq
 |loop b ih=>
  intro s s' e Q hn h hq;simp only[oN]at hn;simp only[fU];simp only[exec]at h;have:∀(k:Nat) {s:St},iter (fun s=>exec P T call L f false fl nt b (kY (T.fC f (eu b)) s)) k s=some (e,s')->Iw (fun s Q=>fU P T call cd L f fl nt b (kY (T.fC f (eu b)) s) Q) k s Q:=by
   intro k
   induction k with
   |zero=>intro s h;simp[iter]at h
   |succ k ihk=>
    intro s h;simp only[iter]at h;split at h
    .rename_i s1 h1;exact ih hn h1 (ihk h)
    rename_i iO;refine ih hn h ?_;cases e with
    |norm=>exact(iO s' h).elim
    |exit i=>exact hq
    |ret=>exact hq
  exact this L h
 |rangeFunc=>intro s s' e Q hn;cases hn
 |_=>
  intro s s' e Q hn h hq;simp only[fU];exact⟨_,_,h,hq⟩
end
section
variable{X:mX}{P:LI1}{T:vw}{call:dM}{cd:xH}{L f nt B:Nat}
def aK(X:mX)(P:LI1)(T:vw)(call:dM)(cd:xH)(L f nt B:Nat)(c:Code)(ps:bJ X.Γ)(Q:Ex->bJ X.Γ->Prop):Prop:=
 ∀(A W:Nat->Prop) (fl:Nat) (m:List MB) (ts:St) (R:Ex->St->Prop),SR X P A W fl m ps ts->(∀e iZ ps1 m1,Q e ps1->SR X P A W fl m1 ps1 iZ->Fr m ts.heap m1 iZ.heap->O5 B m m1->R e iZ)->fU P T call cd L f fl nt c ts R
theorem aK.mono{c ps Q Q'}(hq:∀e s,Q e s->Q' e s)(h:aK X P T call cd L f nt B c ps Q):aK X P T call cd L f nt B c ps Q':=fun A W fl m ts R hS hR=>
 h A W fl m ts R hS fun e iZ ps1 m1 a1=>hR e iZ ps1 m1 (hq _ _ a1)
theorem dQ.dem{c ps ps1 e Q}(hn:oN c=true)(h:dQ X P T call L f false nt B c ps e ps1)(hq:Q e ps1):aK X P T call cd L f nt B c ps Q:=fun A W fl m ts R hS hR=>by obtain⟨iZ,m1,h1,h2,h3,h4⟩:=h A W fl m ts hS;exact a7N c hn h1 (hR _ _ ps1 m1 hq h2 h3 h4)
theorem aK.seq{a b ps Q R}(ha:aK X P T call cd L f nt B a ps R)(hb:∀s,R .norm s->aK X P T call cd L f nt B b s Q)(he:∀i s,R (.exit i) s->Q (.exit i) s)(hr:∀s,R .ret s->Q .ret s):aK X P T call cd L f nt B (.seq a b) ps Q:=fun A W fl m ts R' hS hR=>by
 simp only[fU];refine ha A W fl m ts _ hS fun e iZ ps1 m1 a1 a2 a3 a4=>?_;cases e with
 |norm=>exact hb ps1 a1 A W fl m1 iZ R' a2 fun e ts2 Dx m2 b1 b2 b3 b4=>hR e ts2 Dx m2 b1 b2 (a3.trans b3) (a4.trans b4)
 |exit i=>exact hR _ _ ps1 m1 (he _ _ a1) a2 a3 a4
 |ret=>exact hR _ _ ps1 m1 (hr _ a1) a2 a3 a4
theorem aK.block{id:Nat}{b:Code}{ps:bJ X.Γ}{Q:Ex->bJ X.Γ->Prop}(h:aK X P T call cd L f nt B b ps fun e s=>Q (match e with|.exit i=>if i=id then .norm else .exit i|e=>e) s):aK X P T call cd L f nt B (.block id b) ps Q:=fun A W fl m ts R hS hR=>by simp only[fU];exact h A W fl m ts _ hS fun e iZ ps1 m1 a1 a2 a3 a4=>hR _ iZ ps1 m1 a1 a2 a3 a4
theorem aK.loop{b:Code}{Q:Ex->bJ X.Γ->Prop}(I:Nat->bJ X.Γ->Prop)
  (h:∀k s,I k s->aK X P T call cd L f nt B b (iy X (T.fC f (eu b)) s) fun e s=>match e with|.norm=>∃j,j<k/\I j s|e=>Q e s) {k:Nat} {ps:bJ X.Γ} (hi:I k ps) (hk:k<L):aK X P T call cd L f nt B (.loop b) ps Q:=fun A W fl m ts R hS hR=>by
 simp only[fU];have key:∀(n k:Nat) (ps:bJ X.Γ) (m1:List MB) (iZ:St),k<n->I k ps->SR X P A W fl m1 ps iZ->Fr m ts.heap m1 iZ.heap->O5 B m m1->Iw (fun s Q=>fU P T call cd L f fl nt b (kY (T.fC f (eu b)) s) Q) n iZ R:=by
  intro n
  induction n with
  |zero=>intro k ps m ts hk;omega
  |succ n ih=>
   intro k ps m1 iZ hk hi hS hF hU;simp only[Iw];refine h k ps hi A W fl m1 _ _ (hS.head _) fun e ts2 Dx m2 a1 a2 a3 a4=>?_;have a3:Fr m1 iZ.heap m2 ts2.heap:=a3;cases e with
   |norm=>
    obtain⟨j,hj,Bg⟩:=a1;exact ih j Dx m2 ts2 (by omega) Bg a2 (hF.trans a3) (hU.trans a4)
   |exit i=>exact hR _ _ Dx m2 a1 a2 (hF.trans a3) (hU.trans a4)
   |ret=>exact hR _ _ Dx m2 a1 a2 (hF.trans a3) (hU.trans a4)
 exact key L k ps m ts hk hi hS .refl Up.refl.b
theorem aK.cond{c a b ps t Q}(hc:AV ps.env c=some (.bool t))(h:aK X P T call cd L f nt B (if t then a else b) ps Q):aK X P T call cd L f nt B (.cond c a b) ps Q:=fun A W fl m ts R hS=>by
 obtain⟨x,g1,g2⟩:=jM hS.st.env hc;have hx:x=.bool t:=by
  cases g2 with
  |bool=>rfl
  |gone hi _ _=>simp[bF]at hi
 subst hx;simp only[fU,g1];cases t with
 |true=>exact h A W fl m ts R hS
 |false=>exact h A W fl m ts R hS
theorem aK.next{id it nx mo b r n seen ops draw o1 o2 ps es Q}(hn:Bo ops=some (it,nx,o1,o2))(hd:nx<nt)(hd2:mo<nt)(h2:o2.op=.extract (.tmp nx) 0) (h3:o2.dst=some mo) (h4:o2.guard=none)(RN:AV ps.env (.tmp it)=some (.iter b)) (hb:ps.heap[b]? = some (.dD r n seen)) (hr:Mc X ps.heap r=some es) (hl:es.length=n)(wY:(∀j,j<n->j∈seen)->Q .norm { ps with env:=jG (T.iP f id) ((mo,.val (.bool false))::(nx,.val (.dB [.bool false]))::ps.env) })(pick:∀j e,j∉seen->es[j]? = some e->Q .norm { ps with env:=jG (T.iP f id) ((mo,.val (.bool true))::(nx,.val (.dB [.bool true,e.1,e.2]))::ps.env),heap:=ps.heap.set b (.dD r n (j::seen)) }) :aK X P T call cd L f nt B (.region id ops draw) ps Q:=fun A W fl m ts R hS hR0=>by
 obtain⟨x,g1,g2⟩:=jM hS.st.env RN;obtain⟨mb,q1,q2⟩:=hS.st.heap.at_ b _ hb;obtain⟨cr,gY,q3,z1,z2,z3⟩:=DZ hS.st.heap hr;cases mb with
 |gW cb=>
   obtain⟨c,p1,p2,p3⟩:=q2;have:=p3 cr (by rcases q3 with q|⟨q,_⟩;exact .inl q;exact .inr q);subst this;cases g2 with
   |gone hi e _=>simp only[bF,a08]at hi;subst hi;rw[q1]at e;cases e
   |iter e1=>
    rw[q1]at e1;cases e1;have aqQ:dO it ts.env=some (.val (.iter cb)):=by
     unfold rO at g1;split at g1
     .rename_i v hv;cases g1;exact hv
     .cases g1
    have run:∀(s:St) (t:Bool) (vs:List TV),lY P call (fun d=>T.UQ f d) fl nt ops [o2] (s.put (some nx) (.val (.dB (.bool t::vs))))=some ({ s with env:=(mo,.val (.bool t))::(nx,.val (.dB (.bool t::vs)))::s.env },[dh]):=by intro s t vs;have e1:Ot nt o2=true:=(by simp[Ot,h3,hd2]);have e2:∀env,Dv ops env o2=some true:=fun env=>(by simp[Dv,h4]);simp only[lY,e1,e2,aa2,a2H,a3S,qo,h2];simp[St.put,JD,dO,h3,kT,dh,zH]
    simp only[fU,hn];refine⟨hd,cb,cr,n,seen,gY,aqQ,p1,z1,by rw[<-z2];exact hl,fun Gy=>?_,fun j e hj he=>?_⟩
    .refine⟨_,_,run ts false [],hR0 _ _ { ps with env:=_ } m (wY Gy) ?_ .refl Up.refl.b⟩;have hS2:wu X P A m { ps with env:=(mo,.val (.bool false))::(nx,.val (.dB [.bool false]))::ps.env } { ts with env:=(mo,.val (.bool false))::(nx,.val (.dB [.bool false]))::ts.env }:=
      ⟨hS.st.heap,hS.st.llen,hS.st.loc,.cons (.bool false) (.cons (bZ.cons (.bool false) .nil |> fun h=>.dB h.1 h.2) hS.st.env)⟩
     exact SR.pick ⟨hS2,hS.own,hS.ws,hS.fl⟩ _
    .have aS:j<es.length:=by rw[z2];exact(a0u.1 he).1
     have hej:=a0A aS;have hv:=z3 j _ _ hej he;have hcb:=(a0u.1 p1).1;obtain⟨u1,u2⟩:=hS.st.heap.set (pb:=.dD r n (j::seen)) (hb:=.dD cr n (j::seen)) q1 (c:=cb) rfl (fun cs hc=>by simp[aU,p1]at hc) fun hF=>⟨cr,by simp[hcb],p2,p3⟩;refine⟨_,_,run _ true [e.1,e.2],hR0 _ _ { ps with env:=_,heap:=_ } m (pick j _ hj hej) ?_ u2 Up.refl.b⟩;have hS1:=hS.st.step u1 u2 .refl;have hS2:wu X P A m { ps with env:=(mo,.val (.bool true))::(nx,.val (.dB [.bool true,es[j].1,es[j].2]))::ps.env,heap:=ps.heap.set b (.dD r n (j::seen)) } { ts with env:=(mo,.val (.bool true))::(nx,.val (.dB [.bool true,e.1,e.2]))::ts.env,heap:=ts.heap.set cb (.dD cr n (j::seen)),ws:=kT fl [.h cb] ts.ws }:=
      ⟨hS1.heap,hS1.llen,hS1.loc,.cons (.bool true) (.cons (bZ.cons (.bool true) (bZ.cons (oJ hv.1) (bZ.cons (oJ hv.2) .nil)) |> fun h=>.dB h.1 h.2) hS1.env)⟩
     refine SR.pick ⟨hS2,hS.own,fun b2 yM=>?_,by simpa using hS.fl⟩ _;rcases pz.1 yM with h5|⟨h5,h6⟩
     .exact hS.ws b2 h5
     .simp at h5;subst h5;exact(hS.own _ (bg q1 rfl)).resolve_right (by omega)
 |_=>exact q2.elim
def abh(X:mX)(P:LI1)(cd:xH)(fv:PV X.Γ)(xs:List (PV X.Γ))(H:List (PB X.Γ))(K:PV X.Γ->List (PB X.Γ)->Prop):Prop:=
 ∀(A:Nat->Prop) (m:List MB) (h:List HB) (tf:TV) (rJ:List TV) (R:TV->List HB->List Nat->Prop),HR X P A m H h->VR X P (AA A m) m h fv tf->bZ X P (AA A m) m h xs rJ ->
  (∀w h1 ws m1 v H1,K v H1->HR X P A m1 H1 h1->VR X P (AA A m1) m1 h1 v w->Fr m h m1 h1->Up m m1->(∀b∈ws,b∈bn m)->R w h1 ws)->cd tf rJ h R
theorem a2D{n t first xs cap H K}(hX:bT X P)(ht:UO P f=some t)(hE:aK X P T (lu P T L n) DN L f t.nt H.length t.body ⟨lX X 0 (first++xs++cap),[],H⟩ fun e s=>(e=.norm\/e=.ret)/\∃us,Gg X P s t.results=some us/\K (a0r X us) s.heap):abh X P (vY P T (lu P T L n) L) (.fn f first cap) xs H K:=by
 intro A m h tf rJ R hr hf Gz hR;cases hf with
 |gone hi _ _=>simp[bF]at hi
 |fn p1 p2 p3 p4=>
  rename_i a' c';have G8:=(bZ.app ⟨p1,p2⟩ Gz).app ⟨p3,p4⟩;refine⟨t,ht,hE A (fun b=>b∈bn m) _ m _ _ ⟨⟨hr,rfl,fun k cs hk=>by simp at hk,O6 G8⟩,fun b h1=>.inl h1,fun b hb=>(by cases hb),a1j _⟩ fun e iZ ps1 m1 ⟨he,us,hus,hk⟩ h3 h4 h5=>?_⟩;obtain⟨ws,g1,g2⟩:=JZ hX h3.st hus;refine⟨he,ws,g1,hR _ _ _ m1 _ _ hk h3.st.heap (VH g2) h4 (fun i mb hi=>h5 i mb ?_ hi) h3.ws⟩;rw[<-hr.len];exact(a0u.1 hi).1
theorem aK.range(hX:bT X P){g}{qs:Array Nat}{vV body ps f1 a1 b1 K Q}(hg:AV ps.env g=some (.fn f1 a1 b1)) (hd:T.din.contains f1=true) (Gy:(ps.env.all fun p=>a0H p.2)=true)(abj:abh X P cd (.fn f1 a1 b1) [.lJ (ps.heap.length+1)] (ps.heap++[.mark]++[.loop true f nt ps.env qs.toList vV body none]) K)(hk:∀v H1,K v H1->∃rd f2 Rz e2 Dx a2 b2 kC e,H1[ps.heap.length+1]? = some (.loop rd f2 Rz e2 Dx a2 b2 kC)/\SE rd kC=some e/\Q e { ps with heap:=H1.set (ps.heap.length+1) (.loop false f2 Rz e2 Dx a2 b2 (some .skip)) }) :aK X P T call cd L f nt B (.rangeFunc g qs vV body) ps Q:=by
 intro A W fl m ts R hS hR;obtain⟨tg,g1,g2⟩:=jM hS.st.env hg;have hm:=hS.st.heap.len;obtain⟨p1,p2,p3⟩:=hS.st.heap.push (pb:=.mark) (hb:=.mark) (mb:=.gW ts.heap.length) (.inl rfl) (by simp[BR]);obtain⟨q1,q2,q3⟩:=p1.push (pb:=.loop true f nt ps.env qs.toList vV body none) (hb:=.loop true f nt ts.env qs.toList vV body none) (mb:=.gW (ts.heap.length+1)) (.inl (by simp[MB.own])) (by
  refine⟨ts.env,by simp,?_⟩;refine kR.step (m:=m) (h:=ts.heap) (A:=A) ?_ ?_ hS.st.env
  .have r2:Fr (m++[MB.gW ts.heap.length]) (ts.heap++[HB.mark]) (m++[MB.gW ts.heap.length]++[MB.gW (ts.heap.length+1)]) (ts.heap++[HB.mark]++[HB.loop true f nt ts.env qs.toList vV body none]):=by
    refine⟨by simp,fun b hb _=>by rw[a0P hb],fun b hb=>?_,fun b cs hc=>⟨cs,?_,a1j _⟩⟩
    .rw[jB,a3E,lD]at hb;rcases hb with hb|hb
     .exact .inl hb
     .simp[MB.own]at hb;subst hb;exact .inr (by simp)
    .rw[fM (a0P (fP hc)),hc]
   exact p2.trans r2
  .exact p3.trans (xO _))
 have hF:=p2.trans q2;have hU:=p3.trans q3;have hyl:VR X P (AA A (m++[MB.gW ts.heap.length]++[MB.gW (ts.heap.length+1)])) (m++[MB.gW ts.heap.length]++[MB.gW (ts.heap.length+1)]) (ts.heap++[HB.mark]++[HB.loop true f nt ts.env qs.toList vV body none]) (.lJ (ps.heap.length+1)) (.lJ (ts.heap.length+1)):=by refine .lJ ?_;rw[<-hm,a1p (by simp)];simp
 have hg':∃a1' b1',tg=.fn f1 a1' b1':=by
  cases g2 with
  |gone hi _ _=>simp[bF]at hi
  |fn _ _ _ _=>exact⟨_,_,rfl⟩
 obtain⟨a1',b1',rfl⟩:=hg';have aqT:a6C T ts.env g=true:=by unfold a6C;rw[g1];exact hd
 simp only[fU,aqT,a2l];refine⟨f1,a1',b1',g1,a7E hS.st.env Gy,?_⟩;rw[show ts.heap++[HB.mark,HB.loop true f nt ts.env qs.toList vV body none]=ts.heap++[HB.mark]++[HB.loop true f nt ts.env qs.toList vV body none] by simp];refine abj A _ _ _ [.lJ (ts.heap.length+1)] _ q1 (g2.step hF hU) (.cons hyl .nil) fun w h1 ws m1 v H1 D8 c2 c3 c4 c5 c6=>?_;obtain⟨rd,f2,Rz,e2,Dx,a2,b2,kC,e,hl,hj,hq⟩:=hk v H1 D8;have hm1:m1[ps.heap.length+1]? = some (.gW (ts.heap.length+1)):=by
  rcases c5 (ps.heap.length+1) (.gW (ts.heap.length+1)) (by rw[<-hm,a1p (by simp)];simp)with e|e
  .exact e
  .obtain⟨mb,k1,k2⟩:=c2.at_ _ _ hl;rw[e]at k1;cases k1;exact k2.elim
 obtain⟨mb,k1,k2⟩:=c2.at_ _ _ hl;rw[hm1]at k1;cases k1;obtain⟨e2',k3,k4⟩:=k2;obtain⟨s1,s2⟩:=c2.set (i:=ps.heap.length+1) (c:=ts.heap.length+1) (pb:=.loop false f2 Rz e2 Dx a2 b2 (some .skip)) (hb:=.loop false f2 Rz e2' Dx a2 b2 (some .skip)) hm1 rfl (fun cs hc=>by unfold aU at hc;rw[k3]at hc;cases hc) (fun hF=>⟨e2',by rw[a1C (a0u.1 k3).1],k4.step hF .refl⟩);have hF2:=hF.trans (c4.trans s2);have hU2:=hU.trans c5;refine⟨_,_,_,_,_,_,_,_,e,k3,hj,hR _ _ _ m1 hq ⟨?_,fun b hb=>?_,fun b hb=>?_,?_⟩ hF2 hU2.b⟩
 .have q:=hS.st.step s1 hF2 hU2;exact⟨q.heap,q.llen,q.loc,q.env⟩
 .rcases hF2.new b hb with k|k
  .exact hS.own b k
  .exact .inr (a5O hS.fl k)
 .rcases wV hb with k|⟨k,k'⟩
  .exact hS.ws b k
  .obtain⟨b',rG,e⟩:=a1u.1 k;cases e;rcases hF.new b (c6 b rG)with k2|k2
   .rcases hS.own b k2 with k3|k3
    .exact k3
    .omega
   .have:=hS.fl;omega
 .exact a5O hS.fl hF2.len
end
section
variable{X:mX}{P:LI1}{A B:Nat->Prop}{m m' m1:List MB}{h h':List HB}{g:Nat->Option Nat}
def CU:List (PB X.Γ)->Bool
 | []=>true
 |.aG _::H=>CU H
 |.iT _::H=>CU H
 |.gone::H=>CU H
 |_=>false
theorem Yo:∀{H:List (PB X.Γ)},CU H=true->∀(i:Nat) b,H[i]? = some b->CU [b]=true
 | [],_,i,b,h=>by simp at h
 |a::H,hn,i,b,h=>by
  cases i with
  |zero=>simp at h;subst h;cases a<;>simp_all [CU]
  |succ i=>
   have EH:CU H=true:=by cases a<;>simp_all [CU]
   exact Yo EH i b (by simpa using h)
theorem a0K{H}(hn:CU H=true)(hr:HR X P A m H h):bn m=[]:=by
 refine a7n.2 fun b hb=>?_;obtain⟨i,mb,h1,h2⟩:=lF hb;have hl:i<H.length:=by rw[<-hr.len];exact(a0u.1 h1).1
 obtain⟨Nh,g1,g2⟩:=hr.at_ i _ (a0A hl);rw[h1]at g1;cases g1;have h3:=Yo hn i _ (a0A hl);generalize H[i]=b9 at g2 h3;cases b9<;>first|(cases h3;done)|skip
 all_goals (cases mb<;>first|exact g2.elim|cases h2)
theorem Qk{v:PV X.Γ}{t}(h:su v=some t):(∀l,D5 t l=l)/\(∀g,o9 g t=some t)/\∀fl,Na fl t=t:=by cases v<;>simp only[su,a08,reduceCtorEq]at h<;>subst h<;>exact⟨fun _=>rfl,fun _=>rfl,fun _=>rfl⟩
theorem yZ:∀{vs:List (PV X.Γ)} {ts:List TV},jf vs=some ts->(∀l,D5.G6 ts l=l)/\∀g,o9.zT g ts=some ts
 | [],ts,h=>by simp only[jf,a08]at h;subst h;exact⟨fun _=>rfl,fun _=>rfl⟩
 |v::vs,ts,h=>by
  simp only[jf]at h;split at h
  .rename_i a b h1 h2;cases h;have e1:=Qk h1;have e2:=yZ h2;exact⟨fun l=>by simp only[D5.G6,e2.1,e1.1],fun g=>by simp only[o9.zT,e1.2.1,e2.2]⟩
  cases h
theorem O8{v:PV X.Γ}{t}(h:qH v=some t):(∀l,D5 t l=l)/\(∀g,o9 g t=some t)/\∀fl,Na fl t=t:=by
 unfold qH at h;split at h
 .simp only[a0x]at h;obtain⟨ts,h1,rfl⟩:=h;have e:=yZ h1;exact⟨fun l=>by simp only[D5,e.1],fun g=>by simp only[o9,e.2,a1l],fun _=>rfl⟩
 exact Qk h
def a4x(X:mX)(P:LI1)(nP:Bool)(u:PV X.Γ)(Hs:List (PB X.Γ))(tv:Nat->TV)(tN:List HB):Prop:=
 ∀(A:Nat->Prop) (m:List MB) (h h1:List HB) (w:TV),HR X P A m Hs h1->VR X P (AA A m) m h1 u w->(∀b,b∈bn m->h.length<=b)->P9 nP h w h1=some (tv h.length,h++tN)
theorem Ei(hX:bT X P){T L n f t first xs cap H N v tv tN}(hd:T.dem.contains f=true)(hx:T.exts.contains f=false)(ht:UO P f=some t)(hN:CU H=true)(Pj:∀A m h,HR X P A m H h->∃m1,HR X P A m1 (H++N) (h++tN)/\VR X P (AA A m1) m1 (h++tN) v (tv h.length)/\Fr m h m1 (h++tN)/\Up m m1)(hE:aK X P T (lu P T L n) (vY P T (lu P T L n) L) L f t.nt H.length t.body ⟨lX X 0 (first++xs++cap),[],H⟩ fun e s=>(e=.norm\/e=.ret)/\∃us,Gg X P s t.results=some us/\a4x X P (T.aae.contains f) (a0r X us) s.heap tv tN):cZ X P (lu P T L (n+1)) (.fn f first cap) xs H v (H++N):=by
 intro A m h tf rJ hr hf Gz;cases hf with
 |gone hi _ _=>simp[bF]at hi
 |fn p1 p2 p3 p4=>
  rename_i a' c';have G8:=(bZ.app ⟨p1,p2⟩ Gz).app ⟨p3,p4⟩;have hb:=a0K hN hr;have hS:SR X P A (fun _=>False) h.length m ⟨lX X 0 (first++xs++cap),[],H⟩ ⟨oq 0 (a'++rJ++c'),[],h,[]⟩:=
   ⟨⟨hr,rfl,fun k cs hk=>by simp at hk,O6 G8⟩,fun b h1=>(by rw[hb]at h1;cases h1),fun b hb=>(by cases hb),a1j _⟩
  have hO:XD P T (lu P T L n) L f t (a'++rJ++c') h (tv h.length,h++tN):=by refine hE A _ _ m _ _ hS fun e iZ ps1 m1 ⟨he,us,hus,hpv⟩ h3 h4 h5=>?_;obtain⟨ws,g1,g2⟩:=JZ hX h3.st hus;exact⟨he,ws,g1,a7n.2 fun b hb=>h3.ws b hb,hpv A m1 h iZ.heap _ h3.st.heap (VH g2) fun b hb=>(h3.own b hb).resolve_left id⟩
  obtain⟨m1,q1,q2,q3,q4⟩:=Pj A m h hr;refine⟨tv h.length,h++tN,[],m1,?_,q1,q2,q3,q4,fun b hb=>by cases hb⟩;simp only[lu,hx,hd,a2H,a3S,a2l];exact aaC ht hO
theorem a0L{nP u Hs tu}(hu:qH u=some tu)(ht:∀cs,tu≠.dB cs):a4x X P nP u Hs (fun _=>tu) []:=fun A m h h1 w hr hw _=>by
 have:=kF hw hu;subst this;obtain⟨e1,e2,e3⟩:=O8 hu;have e4:Vg h.length w=w:=by
  cases w with
  |dB cs=>exact absurd rfl (ht cs)
  |_=>exact e3 h.length
 unfold P9;simp only[e1,xI,e2,DR,e4,abI,a6k]
theorem abk(hX:bT X P){T L n f t first xs cap H v tv}(hd:T.dem.contains f=true)(hx:T.exts.contains f=false)(ht:UO P f=some t)(hN:CU H=true)(hv:qH v=some tv)(hE:aK X P T (lu P T L n) (vY P T (lu P T L n) L) L f t.nt H.length t.body ⟨lX X 0 (first++xs++cap),[],H⟩ fun e s=>(e=.norm\/e=.ret)/\∃us,Gg X P s t.results=some us/\a0r X us=v):cZ X P (lu P T L (n+1)) (.fn f first cap) xs H v H:=by
 have:=Ei (N:=[]) (v:=v) (tv:=fun _=>tv) (tN:=[]) hX hd hx ht hN (fun A m h hr=>⟨m,by simpa using hr,oJ hv,by simpa using Fr.refl,.refl⟩) (hE.mono fun e s ⟨h1,us,h2,h3⟩=>⟨h1,us,h2,by rw[h3];exact a0L hv fun cs hc=>by subst hc;cases v<;>simp[qH,su]at hv⟩)
 rwa [a6k]at this
def xX:List (PV X.Γ×PV X.Γ)->Option (List (TV×TV))
 | []=>some []
 |(k,v)::r=>match qH k,qH v,xX r with
  |some k,some v,some r=>some ((k,v)::r)
  |_,_,_=>none
theorem Yp:∀{es:List (PV X.Γ×PV X.Γ)} {gY O9:List (TV×TV)},xX es=some O9->es.length=gY.length->(∀(i:Nat) x y,es[i]? = some x->gY[i]? = some y->qH x.1=some y.1/\qH x.2=some y.2)->gY=O9
 | [],gY,O9,h,hl,_=>by simp only[xX,a08]at h;subst h;exact a4o hl.symm
 |(k,v)::r,gY,O9,h,hl,he=>by
  cases gY with
  |nil=>simp at hl
  |cons y gY=>
   simp only[xX]at h;split at h
   .rename_i a b c h1 h2 h3;cases h;have e0:=he 0 _ _ rfl rfl;have e1:y.1=a:=by have:=e0.1.symm.trans h1;exact aa5 this
    have e2:y.2=b:=by have:=e0.2.symm.trans h2;exact aa5 this
    have e3:=Yp h3 (by simpa using hl) fun i x z hx hz=>he (i+1) x z (by simpa using hx) (by simpa using hz);rw[e3,<-e1,<-e2]
   cases h
theorem Ql:∀{es:List (PV X.Γ×PV X.Γ)} {O9:List (TV×TV)},xX es=some O9->es.length=O9.length/\∀(i:Nat) x y,es[i]? = some x->O9[i]? = some y->qH x.1=some y.1/\qH x.2=some y.2
 | [],O9,h=>by simp only[xX,a08]at h;subst h;exact⟨rfl,by simp⟩
 |(k,v)::r,O9,h=>by
  simp only[xX]at h;split at h
  .rename_i a b c h1 h2 h3;cases h;obtain⟨i1,i2⟩:=Ql h3;refine⟨by simp[i1],fun i x y hx hy=>?_⟩;cases i with
   |zero=>simp at hx hy;subst hx;subst hy;exact⟨h1,h2⟩
   |succ i=>exact i2 i x y (by simpa using hx) (by simpa using hy)
  cases h
theorem Ud:∀{es:List (PV X.Γ×PV X.Γ)} {O9:List (TV×TV)},xX es=some O9->(∀l,aax.a1Q O9 l=l)/\∀g,Tw.qj g O9=some O9
 | [],O9,h=>by simp only[xX,a08]at h;subst h;exact⟨fun _=>rfl,fun _=>rfl⟩
 |(k,v)::r,O9,h=>by
  simp only[xX]at h;split at h
  .rename_i a b c h1 h2 h3;cases h;have e1:=O8 h1;have e2:=O8 h2;have e3:=Ud h3;exact⟨fun l=>by simp only[aax.a1Q,e1.1,e2.1,e3.1],fun g=>by simp only[Tw.qj,e1.2.1,e2.2.1,e3.2]⟩
  cases h
theorem Qm{h h1:List HB}{c}(hc:h.length<=c)(hr:∀l,aax h1[c]? l=l):xI h1 h.length 5000 [c] []=[c]/\Xz h.length [c] c=some h.length:=by
 have e1:Nat.blt c h.length=false:=by
  cases e:Nat.blt c h.length with
  |false=>rfl
  |true=>have:=agV e;omega
 constructor
 .simp only[xI,e1,a6J,Bool.or_false,hr]
 simp only[Xz,e1,a6H,Nat.beq_refl,a1l,a3C]
theorem a7O{nP r Hs es O9}(hm:Hs[r]? = some (.map es))(he:xX es=some O9):a4x X P nP (.map r) Hs (fun n=>.map n) [.map (TA O9)]:=fun A m h h1 w hr hw hn=>by
 obtain⟨mb,g1,g2⟩:=hr.at_ r _ hm;cases mb with
 |gW c=>
  obtain⟨gY,g3,g4,g5⟩:=g2;have:=Yp he g4 g5;subst this;have hw:w=.map c:=by
   cases hw with
   |map e=>rw[g1]at e;cases e;rfl
   |gone hi e _=>simp only[bF,a08]at hi;subst hi;rw[g1]at e;cases e
  subst hw;have hc:=hn c (bg g1 rfl);obtain⟨e1,e2⟩:=Ud he;obtain⟨k1,k2⟩:=Qm (h:=h) (h1:=h1) hc fun l=>by rw[g3];exact e1 l
  unfold P9;simp only[D5,k1,o9,k2,a1l,DR,g3,vM,e2,Vg,Na,a4N,abI,RQ]
 |_=>exact g2.elim
theorem a7P(hX:bT X P){T L n f t first xs cap H es0 a4y}(hd:T.dem.contains f=true)(hx:T.exts.contains f=false)(ht:UO P f=some t)(hN:CU H=true)(h0:xX es0=some a4y)(hE:aK X P T (lu P T L n) (vY P T (lu P T L n) L) L f t.nt H.length t.body ⟨lX X 0 (first++xs++cap),[],H⟩ fun e s=>(e=.norm\/e=.ret)/\∃us,Gg X P s t.results=some us/\∃r es O9,a0r X us=.map r/\s.heap[r]? = some (.map es)/\xX es=some O9/\TA O9=a4y):cZ X P (lu P T L (n+1)) (.fn f first cap) xs H (.map H.length) (H++[.map es0]):=by
 refine Ei (tv:=fun n=>.map n) (tN:=[.map a4y]) hX hd hx ht hN (fun A m h hr=>?_) (hE.mono fun e s ⟨h1,us,h2,r,es,O9,h3,h4,h5,h6⟩=>⟨h1,us,h2,by rw[h3,<-h6];exact a7O h4 h5⟩);obtain⟨p1,p2,p3⟩:=hr.push (pb:=.map es0) (hb:=.map a4y) (mb:=.gW h.length) (.inl rfl) ⟨a4y,by simp,(Ql h0).1,(Ql h0).2⟩;exact⟨_,p1,.map (by rw[<-hr.len];simp),p2,p3⟩
theorem Yq(hX:bT X P){A m Hs h1 i ty k ex l w tcs}(hr:HR X P A m Hs h1)(hi:Hs[i]? = some (.list k ex ty l))(hl:l≠[])(hc:jf (FK X ty l)=some tcs)(hw:VR X P (AA A m) m h1 (.own i) w) :∃c sz e kk,w=.aP c 0 l.length l.length sz e/\dG P ty=some sz/\c∈bn m/\h1[c]? = some (.cells kk tcs)/\kk≠.ro:=by
 obtain⟨mb,g1,g2⟩:=hr.at_ i _ hi;cases mb with
 |dF x=>
  have hwx:w=x:=by
   cases hw with
   |own e _=>rw[g1]at e;cases e;rfl
   |gone hi e _=>simp only[bF,a08]at hi;subst hi;rw[g1]at e;cases e
  subst hwx;cases(g2:LR X P (AA A m) m h1 k ex ty l w)with
  |nil=>exact absurd rfl hl
  |emp=>exact absurd rfl hl
  |some _ q2 q3 q4 q5 q6 q7 q8 q9=>
   have hv:=eG.vrs q9 q8;have JR:=GY hv hc;subst JR;exact⟨_,_,_,_,rfl,q2,bg g1 (by simp only[MB.own];rw[a0S (by simpa using hl)]),q4,q5⟩
 |_=>exact g2.elim
theorem a7Q(hX:bT X P){i ty sz k ex l Hs tcs}(hi:Hs[i]? = some (.list k ex ty l))(hl:l≠[])(hc:jf (FK X ty l)=some tcs)(hs:dG P ty=some sz):a4x X P true (.own i) Hs (fun n=>.aP n 0 l.length l.length sz false) [.nP (TB tcs)]:=fun A m h h1 w hr hw hn=>by
 obtain⟨c,sz',e,kk,rfl,g1,g2,g3,g4⟩:=Yq hX hr hi hl hc hw;rw[hs]at g1;cases g1;have nR:=hn c g2;obtain⟨e1,e2⟩:=yZ hc;obtain⟨k1,k2⟩:=Qm (h:=h) (h1:=h1) nR fun l=>by rw[g3];exact e1 l
 have e3:RQ true (.cells kk tcs)=.nP (TB tcs):=by cases kk<;>first|rfl|exact absurd rfl g4
 unfold P9;simp only[D5,k1,o9,k2,a1l,DR,g3,vM,e2,Vg,Na,a4N,abI,e3,Nat.lt_irrefl,a3S]
theorem a7R(hX:bT X P){i ty sz k ex l Hs tcs p tp}(hi:Hs[i]? = some (.list k ex ty l))(hl:l≠[])(hc:jf (FK X ty l)=some tcs)(hs:dG P ty=some sz)(hp:qH p=some tp):a4x X P false (.dB [.own i,p]) Hs (fun n=>.dB [.aP n 0 l.length l.length sz false,tp]) [.cells .last tcs]:=fun A m h h1 w hr hw hn=>by
 cases hw with
 |gone hi _ _=>simp[bF]at hi
 |dB a1 a2=>
  rename_i cs';obtain⟨x,r,rfl,v0,v1⟩:=bZ.inv (⟨a1,a2⟩:bZ X P _ _ _ _ _);obtain⟨y,r,rfl,v2,v3⟩:=v1.inv;have:=v3.inv0;subst this;have:=kF v2 hp;subst this;obtain⟨c,sz',e,kk,rfl,g1,g2,g3,g4⟩:=Yq hX hr hi hl hc v0;rw[hs]at g1;cases g1;have nR:=hn c g2;obtain⟨e1,e2⟩:=yZ hc;obtain⟨q1,q2,q3⟩:=O8 hp;obtain⟨k1,k2⟩:=Qm (h:=h) (h1:=h1) nR fun l=>by rw[g3];exact e1 l
  have e3:RQ false (.cells kk tcs)=.cells .last tcs:=by cases kk<;>first|rfl|exact absurd rfl g4
  unfold P9;have q4:Na h.length (.aP h.length 0 l.length l.length sz e)=.aP h.length 0 l.length l.length sz false:=by simp only[Na,Nat.lt_irrefl,a3S]
  simp only[D5,D5.G6,q1,k1,o9,o9.zT,q2,k2,a1l,DR,g3,vM,e2,Vg,q3,q4,a4N,abI,e3]
theorem abl{H n sz cs ts}(h0:Vl cs=some ts){A m h}(hr:HR X P A m H h):∃m1,HR X P A m1 (H++[.nP cs]) (h++[.nP ts])/\VR X P (AA A m1) m1 (h++[.nP ts]) (.aP H.length 0 n n sz false) (.aP h.length 0 n n sz false)/\Fr m h m1 (h++[.nP ts])/\Up m m1:=by obtain⟨p1,p2,p3⟩:=hr.push (pb:=.nP cs) (hb:=.nP ts) (mb:=.gW h.length) (.inl rfl) ⟨ts,by simp,h0⟩;exact⟨_,p1,.aP (by rw[<-hr.len];simp),p2,p3⟩
theorem Yr{ty sz}:∀{l},(∀(j:Nat) a,l[j]? = some a->(X.enc ty a).length=sz)->(FK X ty l).length=l.length*sz/\∀(j) a (i:Nat) c,l[j]? = some a->(X.enc ty a)[i]? = some c->(FK X ty l)[j*sz+i]? = some c
 | [],_=>⟨by simp[FK],by simp⟩
 |a::l,he=>by
  obtain⟨h1,h2⟩:=Yr (l:=l) fun j b hb=>he (j+1) b (by simpa using hb);have h0:=he 0 a rfl;refine⟨by simp only[FK,a1v,h0,h1,a4p,a3H,aaw];omega,fun j b i c hb hc=>?_⟩;cases j with
  |zero=>
   simp at hb;subst hb;simp only[FK,adg,a3C];rw[a0P (a0u.1 hc).1];exact hc
  |succ j=>
   simp only[FK];rw[a1p (by rw[h0,a3H];omega),h0,show(j+1)*sz+i-sz=j*sz+i by rw[a3H];omega];exact h2 j b i c (by simpa using hb) hc
theorem a4z{ty sz l tcs A m h}(he:∀(j:Nat) a,l[j]? = some a->(X.enc ty a).length=sz)(hc:jf (FK X ty l)=some tcs):tcs.length=l.length*sz/\eG X P A m h ty l tcs 0 sz:=by
 have hv:=GZ (X:=X) (P:=P) (A:=A) (m:=m) (h:=h) hc;obtain⟨h1,h2⟩:=Yr he;have hl:tcs.length=l.length*sz:=by rw[<-hv.1,h1]
 exact⟨hl,he,by rw[hl];omega,fun j a i c v a1 a2 a3=>hv.2 (j*sz+i) c v (h2 j a i c a1 a2) (by rw[a3C]at a3;exact a3)⟩
theorem abm(hX:bT X P){H ty sz l tcs p tp}(hl:l≠[])(hc:jf (FK X ty l)=some tcs)(hs:dG P ty=some sz)(h0:0<sz)(he:∀(j:Nat) a,l[j]? = some a->(X.enc ty a).length=sz)(hp:qH p=some tp){A m h}(hr:HR X P A m H h) :∃m1,HR X P A m1 (H++[.list false false ty l]) (h++[.cells .last tcs])/\VR X P (AA A m1) m1 (h++[.cells .last tcs]) (.dB [.own H.length,p]) (.dB [.aP h.length 0 l.length l.length sz false,tp])/\Fr m h m1 (h++[.cells .last tcs])/\Up m m1:=by
 obtain⟨p1,p2,p3⟩:=hr.push (pb:=.list false false ty l) (hb:=.cells .last tcs) (mb:=.dF (.aP h.length 0 l.length l.length sz false)) (.inl (by simp only[MB.own];rw[a0S (by simpa using hl)])) (by obtain⟨r1,r2⟩:=a4z (A:=AA A (m++[MB.dF (.aP h.length 0 l.length l.length sz false)])) (m:=m++[MB.dF (.aP h.length 0 l.length l.length sz false)]) (h:=h++[.cells .last tcs]) (P:=P) he hc;exact LR.some (kk:=.last) (cs:=tcs) hl hs h0 (by simp) (by simp) (by simp) (by simp) r1 r2)
 exact⟨_,p1,bZ.cons (.own (by rw[<-hr.len];simp) rfl) (.cons (oJ hp) .nil) |> fun h=>.dB h.1 h.2,p2,p3⟩
end
def fA:Code->Code
 |.seq a _=>a
 |.block _ b=>b
 |.loop b=>b
 |.scope b=>b
 |.cond _ a _=>a
 |c=>c
def fB:Code->Code
 |.seq _ b=>b
 |.cond _ _ b=>b
 |c=>c
def a7S:Code->Array Oper
 |.region _ o _=>o
 |_=>#[]
def Ue(P:LI1)(f:Nat):FnT:=match UO P f with
 |some t=>t
 |none=>⟨0,.skip,[]⟩
def VP(ops:Array Oper)(it nx mo:Nat):Bool:=match Bo ops with
 |some (a,b,_,o2)=>a==it&&b==nx&&(match o2.op,o2.dst,o2.guard with
  |.extract (.tmp k) 0,some d,none=>k==nx&&d==mo
  |_,_,_=>false)
 |none=>false
theorem a4A{ops it nx mo}(h:VP ops it nx mo=true):∃o1 o2,Bo ops=some (it,nx,o1,o2)/\o2.op=.extract (.tmp nx) 0/\o2.dst=some mo/\o2.guard=none:=by
 unfold VP at h;split at h
 .rename_i a b o1 o2 e;simp only[a2o,a7l]at h;obtain⟨⟨rfl,rfl⟩,h⟩:=h;split at h
  .rename_i k d e1 e2 e3;simp only[a2o,a7l]at h;obtain⟨rfl,rfl⟩:=h;exact⟨o1,o2,e,e1,e2,e3⟩
  cases h
 cases h
section
variable{X:mX}{P:LI1}{T:vw}{call:dM}{cd:xH}{gG:gU X.Γ}{L f nt B:Nat}
theorem Ag(hX:bT X P)(hO:jX X P call gG){c ps ps1 an o e}(hk:kE X P T gG (cZ X P call) (dQ X P T call L f false nt B) B L f false nt c ps an agc=o)(ht:Fp (fun r=>r=(e,ps1)) an o):dQ X P T call L f false nt B c ps e ps1:=by obtain⟨y,h1,h2⟩:=ht.aO;subst h2;rw[<-hk]at h1;exact Y3 hX hO h1
theorem a2E{n j seen}(hj:j<n)(hn:j∉seen):((List.range n).filter fun i=>!(j::seen).contains i).length<((List.range n).filter fun i=>!seen.contains i).length:=by
 have e:((List.range n).filter fun i=>!(j::seen).contains i)=((List.range n).filter fun i=>!seen.contains i).filter fun i=>!(i==j):=by rw[List.filter_filter];refine List.filter_congr fun i _=>?_;rw[aiy];cases i==j<;>simp
 rw[e];refine List.length_filter_lt_length_iff_exists.2 ⟨j,a8f.2 ⟨a5y.2 hj,by simpa using hn⟩,by simp⟩
end
section
variable{X:mX}{P:LI1}{T:vw}{call:dM}{cd:xH}{L f nt B:Nat}
theorem aK.ghost(hX:bT X P){gs c ps ps1 Q}(hg:lQ B gs ps=some ps1)(h:aK X P T call cd L f nt B c ps1 Q):aK X P T call cd L f nt B c ps Q:=fun A W fl m ts R hS hR=>by obtain⟨m2,q1,q2,q3⟩:=mM hX hg A W fl m ts hS;exact h A W fl m2 ts R q1 fun e iZ ps1 m1 a1 a2 a3 a4=>hR e iZ ps1 m1 a1 a2 (q2.trans a3) (q3.trans a4)
theorem Qn(hX:bT X P){x i0 i1 id it nx mo b r n ops draw s0 es}{Q:bJ X.Γ->Prop}(I:List Nat->bJ X.Γ->Prop)(hnx:VP ops it nx mo=true) (hd:nx<nt) (hd2:mo<nt) (hl:es.length=n) (hL:n<L) (hI:I [] s0)(hinv:∀seen s,I seen s->∃gs s',lQ B gs (iy X (T.fC f (eu (.seq (.region id ops draw) (.seq (.cond (.tmp mo) .skip (.exit i0)) (.block i1 x))))) s)=some s'/\AV s'.env (.tmp it)=some (.iter b)/\s'.heap[b]? = some (.dD r n seen)/\Mc X s'.heap r=some es /\((∀j,j<n->j∈seen)->AV (jG (T.iP f id) ((mo,.val (.bool false))::(nx,.val (.dB [.bool false]))::s'.env)) (.tmp mo)=some (.bool false)/\Q { s' with env:=jG (T.iP f id) ((mo,.val (.bool false))::(nx,.val (.dB [.bool false]))::s'.env) }) /\∀j e,j∉seen->es[j]? = some e->AV (jG (T.iP f id) ((mo,.val (.bool true))::(nx,.val (.dB [.bool true,e.1,e.2]))::s'.env)) (.tmp mo)=some (.bool true) /\aK X P T call cd L f nt B x { s' with env:=jG (T.iP f id) ((mo,.val (.bool true))::(nx,.val (.dB [.bool true,e.1,e.2]))::s'.env),heap:=s'.heap.set b (.dD r n (j::seen)) } fun e s=>(e=.norm\/e=.exit i1)/\I (j::seen) s) :aK X P T call cd L f nt B (.block i0 (.loop (.seq (.region id ops draw) (.seq (.cond (.tmp mo) .skip (.exit i0)) (.block i1 x))))) s0 fun e s=>e=.norm/\Q s:=by
 obtain⟨o1,o2,hn,h2,h3,h4⟩:=a4A hnx;have skp:∀{s:bJ X.Γ} {Q':Ex->bJ X.Γ->Prop},Q' .norm s->aK X P T call cd L f nt B .skip s Q':=fun{s Q'} hq=>by intro A W fl m ts R hS hR;simp only[fU];exact⟨_,_,rfl,hR _ _ s m hq hS .refl Up.refl.b⟩
 have ext:∀{i:Nat} {s:bJ X.Γ} {Q':Ex->bJ X.Γ->Prop},Q' (.exit i) s->aK X P T call cd L f nt B (.exit i) s Q':=fun{i s Q'} hq=>by intro A W fl m ts R hS hR;simp only[fU];exact⟨_,_,rfl,hR _ _ s m hq hS .refl Up.refl.b⟩
 refine aK.block ?_;refine aK.loop (fun k s=>∃seen,I seen s/\k=((List.range n).filter fun i=>!seen.contains i).length) (fun k s hi=>?_) (k:=n) ⟨[],hI,by rw[show((List.range n).filter fun i=>!([]:List Nat).contains i)=List.range n from List.filter_eq_self.2 fun a _=>rfl,a6u]⟩ hL;obtain⟨seen,hi,rfl⟩:=hi;obtain⟨gs,s',e1,e2,e3,e4,e5,e6⟩:=hinv seen s hi;refine aK.ghost hX e1 ?_;refine aK.seq (R:=fun e s=>e=.norm/\(((∀j,j<n->j∈seen)/\s={ s' with env:=jG (T.iP f id) ((mo,.val (.bool false))::(nx,.val (.dB [.bool false]))::s'.env) })\/∃j e,j∉seen/\es[j]? = some e/\s={ s' with env:=jG (T.iP f id) ((mo,.val (.bool true))::(nx,.val (.dB [.bool true,e.1,e.2]))::s'.env),heap:=s'.heap.set b (.dD r n (j::seen)) })) ?_ (fun s hs=>?_) (fun i s h=>by cases h.1) (fun s h=>by cases h.1)
 .exact aK.next hn hd hd2 h2 h3 h4 e2 e3 e4 hl (fun ho=>⟨rfl,.inl ⟨ho,rfl⟩⟩) (fun j e hj he=>⟨rfl,.inr ⟨j,e,hj,he,rfl⟩⟩)
 .obtain⟨_,⟨h5,rfl⟩|⟨j,e,hj,he,rfl⟩⟩:=hs
  .obtain⟨m1,q1⟩:=e5 h5;refine aK.seq (R:=fun e s=>e=.exit i0/\s={ s' with env:=jG (T.iP f id) ((mo,.val (.bool false))::(nx,.val (.dB [.bool false]))::s'.env) }) (aK.cond (t:=false) m1 (ext ⟨rfl,rfl⟩)) (fun s h=>by cases h.1) (fun i s h=>?_) (fun s h=>by cases h.1);obtain⟨h7,rfl⟩:=h;cases h7;dsimp only;rw[a15 rfl];exact⟨rfl,q1⟩
  .obtain⟨m2,hx⟩:=e6 j e hj he;have hjn:j<n:=by rw[<-hl];exact(a0u.1 he).1
   refine aK.seq (R:=fun e1 s=>e1=.norm/\s={ s' with env:=jG (T.iP f id) ((mo,.val (.bool true))::(nx,.val (.dB [.bool true,e.1,e.2]))::s'.env),heap:=s'.heap.set b (.dD r n (j::seen)) }) (aK.cond (t:=true) m2 (skp ⟨rfl,rfl⟩)) (fun s h=>?_) (fun i s h=>by cases h.1) (fun s h=>by cases h.1);obtain⟨_,rfl⟩:=h;refine aK.block ?_;refine hx.mono fun e s h=>?_;obtain⟨h1|h1,h2⟩:=h
   .subst h1;exact⟨_,a2E hjn hj,j::seen,h2,rfl⟩
   .subst h1;dsimp only;rw[a15 rfl];exact⟨_,a2E hjn hj,j::seen,h2,rfl⟩
theorem VQ(hX:bT X P){x i0 i1 id it nx mo b r n ops draw s0 es}{Q:bJ X.Γ->Prop}(I:List Nat->bJ X.Γ->Prop)(hnx:VP ops it nx mo=true) (hd:nx<nt) (hd2:mo<nt) (hl:es.length=n) (hL:n<L) (hI:I [] s0)(hinv:∀seen s,I seen s->∃s',iy X (T.fC f (eu (.seq (.region id ops draw) (.seq (.cond (.tmp mo) .skip (.exit i0)) (.block i1 x))))) s=s'/\AV s'.env (.tmp it)=some (.iter b)/\s'.heap[b]? = some (.dD r n seen)/\Mc X s'.heap r=some es /\((∀j,j<n->j∈seen)->AV (jG (T.iP f id) ((mo,.val (.bool false))::(nx,.val (.dB [.bool false]))::s'.env)) (.tmp mo)=some (.bool false)/\Q { s' with env:=jG (T.iP f id) ((mo,.val (.bool false))::(nx,.val (.dB [.bool false]))::s'.env) }) /\∀j e,j∉seen->es[j]? = some e->AV (jG (T.iP f id) ((mo,.val (.bool true))::(nx,.val (.dB [.bool true,e.1,e.2]))::s'.env)) (.tmp mo)=some (.bool true) /\aK X P T call cd L f nt B x { s' with env:=jG (T.iP f id) ((mo,.val (.bool true))::(nx,.val (.dB [.bool true,e.1,e.2]))::s'.env),heap:=s'.heap.set b (.dD r n (j::seen)) } fun e s=>(e=.norm\/e=.exit i1)/\I (j::seen) s) :aK X P T call cd L f nt B (.block i0 (.loop (.seq (.region id ops draw) (.seq (.cond (.tmp mo) .skip (.exit i0)) (.block i1 x))))) s0 fun e s=>e=.norm/\Q s:=
 Qn hX I hnx hd hd2 hl hL hI fun seen s hi=>let ⟨s',e1,h⟩:=hinv seen s hi;⟨[],s',congrArg some e1,h⟩
end
theorem Good.a2F{X P T L α β f a}{r:Ar X P β}{S}{pre:α->List Prop}{gG Y8 a7L akA:gU X.Γ}(d:Nat)(hg:Good X P T L gG)(hg2:Good X P T L Y8)(hg3:Good X P T L a7L)(hg4:Good X P T L akA)(hf:∀n,d<=n->(∀m,n-d<=m->jX X P (lu P T L m) gG)->(∀m,n-d<=m->jX X P (lu P T L m) Y8)->(∀m,n-d<=m->jX X P (lu P T L m) a7L)->(∀m,n-d<=m->jX X P (lu P T L m) akA)->∀x,(∀p∈pre x,p)->nU X P (lu P T L (n+1)) f (a.put x) (r.put (S x)) []):Good X P T L (bU f a r S pre gG):=by
 obtain⟨N2,hN2⟩:=hg2;obtain⟨N3,hN3⟩:=hg3;obtain⟨N4,hN4⟩:=hg4;obtain⟨M,hM⟩:=hg;refine⟨M+N2+N3+N4+d+1,fun n hn=>?_⟩;obtain⟨k,rfl⟩:∃k,n=k+1:=⟨n-1,by omega⟩;intro g vs v ext ps ho hp;unfold bU at ho;split at ho
 .rename_i e;have e:=a9Z e;subst e;split at ho
  .rename_i x hx;cases ho;intro A h first args cap G5 hv
   exact hf k (by omega) (fun m hm=>hM m (by omega)) (fun m hm=>hN2 m (by omega)) (fun m hm=>hN3 m (by omega)) (fun m hm=>hN4 m (by omega)) x hp A h first args cap G5 (a.ok hx hv)
  .exact hM (k+1) (by omega) g vs v ext ps ho hp
 .exact hM (k+1) (by omega) g vs v ext ps ho hp
section
variable{X:mX}{P:LI1}
theorem cZ.lend(hX:bT X P){call f cs ws rest xs H es}(is)(hs:cZ X P call (.fn f [] []) (.agg (ws++rest)::xs) (bD is H) (.map H.length) (bD is H++[.map es]))(hv:views H cs=some ws) (ho:∀i,i∈lC.kU cs->i∈is) (hg:bD is H=List.replicate H.length .gone):cZ X P call (.fn f [] []) (.agg (cs++rest)::xs) H (.map H.length) (H++[.map es]):=by
 intro A m h tf rJ hr hf hx;obtain⟨x0,r,rfl,v0,vr⟩:=hx.inv;cases v0 with
 |gone hi _ _=>simp[bF]at hi
 |agg a1 a2=>
  rename_i cs';have ha:bZ X P (AA A m) m h (cs++rest) cs':=⟨a1,a2⟩;obtain⟨c1,c2,rfl,b1,b2⟩:=EZ ha;have hF:=iU (h:=h) is m;have w1:=(mG (m':=cu is m) hX hr b1 hv ho).mono fun b hb=>FA.gone hr hb;have w2:=b2.step hF.1 hF.2;have w3:=w1.app w2;have hr0:=hr.bD is;obtain⟨w,h',Xd,m1,k1,k2,k3,k4,k5,k6⟩:=hs A (cu is m) h tf (.agg (c1++c2)::r) hr0 (hf.step hF.1 hF.2) (.cons (.agg w3.1 w3.2) (vr.step hF.1 hF.2));have e0:∀b,b∉bn (cu is m):=fun b hb=>by
   unfold bn at hb;obtain⟨mb,h1,h2⟩:=a6I.1 hb;obtain⟨i,hi,e⟩:=a90 h1;have LU:i<H.length:=by have:=hr0.len;rw[oH]at this;omega
   obtain⟨mb2,g1,g2⟩:=hr0.at_ i .gone (by rw[hg,afy,a15 LU]);rw[a0A hi,e]at g1;cases g1;cases mb with
   |gone=>cases h2
   |_=>exact g2.elim
  obtain⟨mb,g1,g2⟩:=k2.at_ H.length (.map es) (by rw[a1p (by rw[oH];exact a1j _),oH];simp);cases mb with
  |gW c=>
   have hc:c∈bn m1:=a6I.2 ⟨_,a5E g1,rfl⟩;have LW:h.length<=c:=(k4.new c hc).resolve_left (e0 c);have yM:bn (m++[.gW c])=bn m++[c]:=by unfold bn;rw[List.filterMap_append];rfl
   have hF2:Fr m h (m++[.gW c]) h':=⟨k4.len,fun b hb _=>k4.same b hb (e0 b),fun b hb=>by
    rw[yM]at hb;rcases a3E.1 hb with hb|hb
    .exact .inl hb
    .rw[a2m.1 hb];exact .inr LW,k4.grow⟩
   have hU2:Up m (m++[.gW c]):=fun i mb hi=>.inl (by rw[a0P (a0u.1 hi).1];exact hi);have hm:(m++[MB.gW c])[H.length]? = some (.gW c):=by rw[<-hr.len];simp
   refine⟨w,h',Xd,m++[.gW c],k1,⟨by simp[hr.len],fun i b hi=>?_,?_,k2.up,fun b hb=>?_⟩,?_,hF2,hU2,fun b hb=>absurd (k6 b hb) (e0 b)⟩
   .by_cases aS:i<H.length
    .rw[a0P aS]at hi;obtain⟨mb,q1,q2⟩:=hr.at_ i b hi;exact⟨mb,by rw[a0P (by rw[hr.len];exact aS)];exact q1,q2.step hF2 hU2 fun d hd=>k4.same d (BR.has q2 hd) (e0 d)⟩
    .have LU:i=H.length:=by have:=(a0u.1 hi).1;rw[a1v,a3J]at this;omega
     subst LU;rw[a1p (a1j _)]at hi;simp at hi;subst hi;exact⟨_,hm,g2⟩
   .rw[yM];refine a9S.2 ⟨hr.nodup,by simp,fun a ha b hb=>?_⟩;rw[a2m.1 hb];have:=hr.inb ha;omega
   .rw[yM]at hb;rcases a3E.1 hb with hb|hb
    .exact hr.DX b hb
    .rw[a2m.1 hb];exact k2.DX c hc
   .cases k3 with
    |map e=>rw[g1]at e;cases e;exact .map hm
    |gone hi e o=>simp only[bF,a08]at hi;subst hi;rw[g1]at e;cases e
  |_=>exact g2.elim
variable{A:Nat->Prop}{m m':List MB}{H:List (PB X.Γ)}{h:List HB}
end
section
variable{X:mX}{P:LI1}
theorem cZ.cell1(hX:bT X P){call fv v NY ws1 cs ET ws2 H H1}{i e sz:Nat}{row}(is)(hi:H[i]? = some (.cells cs))(hz:dG P e=some sz)(h0:0<sz)(hl:cs.length=sz)(hr0:(X.enc e row).length=sz)(hs:cZ X P call fv [.agg (ws1++(.dF e [row] false::ws2))] (bD (i::is) H) v H1) (v1:views H NY=some ws1) (v2:views H cs=some (X.enc e row)) (v3:views H ET=some ws2)(o1:∀j,j∈lC.kU NY->j∈i::is) (o2:∀j,j∈lC.kU cs->j∈i::is) (o3:∀j,j∈lC.kU ET->j∈i::is):cZ X P call fv [.agg (NY++(.aP i 0 1 1 sz true::ET))] H v H1:=by
 intro A m h tf rJ hr hf hx;obtain⟨x0,r,rfl,v0,vr⟩:=hx.inv;cases v0 with
 |gone hi _ _=>simp[bF]at hi
 |agg a1 a2=>
  rename_i cs';have ha:bZ X P (AA A m) m h (NY++(.aP i 0 1 1 sz true::ET)) cs':=⟨a1,a2⟩;obtain⟨c1,c2,rfl,b1,b2⟩:=EZ ha;obtain⟨y,c3,rfl,b3,b4⟩:=b2.inv;obtain⟨mb,g1,g2⟩:=hr.at_ i _ hi;cases mb with
  |gW b=>
   obtain⟨ts,g3,g4⟩:=g2;have hy:y=.aP b 0 1 1 sz true:=by
    cases b3 with
    |aP q=>rw[g1]at q;cases q;rfl
    |gone hi q _=>simp only[bF,a08]at hi;subst hi;rw[g1]at q;cases q
   subst hy;have hF:=iU (h:=h) (i::is) m;have w1:=(mG (m':=cu (i::is) m) hX hr b1 v1 o1).mono fun b hb=>FA.gone hr hb;have w3:=(mG (m':=cu (i::is) m) hX hr b4 v3 o3).mono fun b hb=>FA.gone hr hb;have w2:=mG (m':=cu (i::is) m) hX hr g4 v2 o2;have hb:FA A m (i::is) b:=.inr ⟨i,_,a3G,g1,rfl⟩;have q2:VR X P (FA A m (i::is)) (cu (i::is) m) h (.dF e [row] false) (.aP b 0 [row].length 1 sz true):=.dF (cs:=ts) hb (by unfold aU;rw[g3]) (fun _=>xM g3 (by simp)) hz h0 (by rw[<-g4.1,hl];simp) (a1j _) (fun e=>by cases e)
    (fun j a hj=>by
     cases j with
     |zero=>simp only[a2I,a08]at hj;subst hj;exact hr0
     |succ j=>simp at hj) (fun j a q c w hj hq hw=>by
     cases j with
     |zero=>simp only[a2I,a08]at hj;subst hj;exact w2.2 q c w hq (by simpa using hw)
     |succ j=>simp at hj)
   have w4:=w1.app (.cons (q2.mono fun b hb=>FA.gone hr hb) w3);obtain⟨w,h',Xd,m1,k1,k2,k3,k4,k5,k6⟩:=hs A (cu (i::is) m) h tf (.agg (c1++(.aP b 0 1 1 sz true::c3))::r) (hr.bD (i::is)) (hf.step hF.1 hF.2) (.cons (.agg w4.1 w4.2) (vr.step hF.1 hF.2));refine⟨w,h',Xd,m1,k1,k2,k3,hF.1.trans k4,hF.2.trans k5,fun b hb=>?_⟩;rcases hF.1.new b (k6 b hb)with g|g
   .exact g
   .have:=(hr.bD (i::is)).inb (k6 b hb);omega
  |_=>exact g2.elim
end
end Pv
namespace Tw
open Go Go.ChangeShapes Go.WideShapes Go.RowKit
theorem a4B{H}{enc:LI2×LI3->H}{P w t ts vs ds ps}(h:DataW.TrodAll enc P w 0 (fun _=>true) true (t::ts) vs ds ps):∃d e,ds=d::e/\Rd enc P w t d/\∃vs ps,DataW.TrodAll enc P w 0 (fun _=>true) true ts vs e ps:=by obtain⟨v,vs',d,ds',p,q,rfl,rfl,rfl,⟨fuel,hd⟩,OJ⟩:=trodAll_cons h;exact⟨d,ds',rfl,⟨_,fuel,p,hd⟩,_,_,OJ⟩
section
variable{H:Type}{P:LI1}{g:Nat}{t:LI2}{ts:List LI2}{d:DataW H}{ds:List (DataW H)}{h h1 h2:List HB}{xs:List TV}
theorem agC{x}(ha:wZ P t=some false)(he:DT P g t d h=some ([x],h1))(hr:Vj P g ts ds h1=some (xs,h2)):Vj P g (t::ts) (d::ds) h=some (x::xs,h2):=by simp only[Vj,he,ha,hr]
theorem agD:Vj (H:=H) P g [] [] h=some ([],h):=rfl
end
end Tw
namespace Pv
open Go Tw
section
variable{X:mX}{P:LI1}{H:Type}{nJ:LI2×LI3->H}{w:LI4}
abbrev AT:Nat->Prop:=fun _=>True
def RdP(nJ:LI2×LI3->H)(X:mX)(P:LI1)(w:LI4)(g t:Nat){α:Type}(ps:α->List (PV X.Γ))(Q:α->Prop):Prop:=
 ∀d,Rd nJ P w t d->∃a,Q a/\∀h,∃xs ext,DT P g t d h=some (xs,h++ext)/\∀e,bZ X P AT [] (h++ext++e) (ps a) xs
theorem a2G{t g:Nat}{k}(ht:P.underlying t=some (.int k)):RdP nJ X P w (g+1) t (fun n:Int=>[.int k n]) (fun n=>(Lit.int k n).wf=true):=fun d hd=>by obtain⟨n,rfl,hn⟩:=agx ht hd;exact⟨n,hn,fun h=>⟨[.int k n],[],by simp[DT,ht],fun e=>.cons (.int _ _) .nil⟩⟩
theorem Uf{e g sz Q}(hlen:∀a,(X.enc e a).length=sz)(hr:RdP nJ X P w g e (X.enc e) Q):∀(ds),(∀y∈ds,Rd nJ P w e y) ->∃l:List (X.Γ e),l.length=ds.length/\(∀a∈l,Q a)/\∀h,∃cs ext,XE (DT P g e) sz ds h=some (cs,h++ext)/\cs.length=l.length*sz/\∀e2 (j:Nat) a (i:Nat) c v,l[j]? = some a->(X.enc e a)[i]? = some c->cs[j*sz+i]? = some v->VR X P AT [] (h++ext++e2) c v
 | [],_=>⟨[],rfl,by simp,fun h=>⟨[],[],by simp[XE],by simp,fun e2 j a i c v h1=>by simp at h1⟩⟩
 |d::ds,hd=>by
  obtain⟨a,qa,ha⟩:=hr d (hd d (a3G ..));obtain⟨l,l1,l2,l3⟩:=Uf hlen hr ds fun y hy=>hd y (a3A _ hy);refine⟨a::l,by simp[l1],fun b hb=>(a1B.1 hb).elim (fun e=>e▸qa) (l2 b),fun h=>?_⟩;obtain⟨xs,e1,h1,v1⟩:=ha h;obtain⟨cs,e2,h2,c2,v2⟩:=l3 (h++e1);have hx:xs.length=sz:=by rw[<-(v1 []).1];exact hlen a
  refine⟨xs++cs,e1++e2,?_,by simp only[a1v,a4p,hx,c2,a3H];omega,fun e3 j b i c v hj hi hv=>?_⟩
  .simp only[XE,h1,hx,a2l,h2,a6m]
  .cases j with
   |zero=>
    simp only[a2I,a08]at hj;subst hj;have LU:i<sz:=by rw[<-hlen a];exact(a0u.1 hi).1
    rw[adg,a3C,a0P (by omega)]at hv;have:=(v1 (e2++e3)).2 i c v hi hv;simp only[a6m]at this ⊢;exact this
   |succ j=>
    rw[aal]at hj;rw[a1p (by rw[hx,a3H];omega),hx,show(j+1)*sz+i-sz=j*sz+i by rw[a3H];omega]at hv;have:=v2 e3 j b i c v hj hi hv;simp only[a6m]at this ⊢;exact this
theorem Jd{t e g sz:Nat}{Q}(ht:P.underlying t=some (.slice e))(qV:P.cellsOf e=sz)(hz:dG P e=some sz)(h0:0<sz)(hlen:∀a,(X.enc e a).length=sz)(hr:RdP nJ X P w g e (X.enc e) Q):RdP nJ X P w (g+1) t (fun l:List (X.Γ e)=>[.dF e l false]) (fun l=>∀a∈l,Q a):=fun d hd=>by
 rcases a7K ht hd with rfl|⟨xs,ys,rfl,hy⟩
 .exact⟨[],by simp,fun h=>⟨[.nil .aP],[],by simp[DT,ht],fun e=>.cons .qx .nil⟩⟩
 .obtain⟨l,l1,l2,l3⟩:=Uf hlen hr (xs++ys) hy;have hl:xs.length<=l.length:=by rw[l1,a1v];omega
  refine⟨l.take xs.length,fun a ha=>l2 a (a7q ha),fun h=>?_⟩;obtain⟨cs,e1,h1,c1,v1⟩:=l3 h;refine⟨[.aP (h++e1).length 0 xs.length (xs.length+ys.length) sz true],e1++[.cells .ro cs],?_,fun e2=>.cons ?_ .nil⟩
  .have iO:¬sz=0:=(by omega);simp only[DT,ht,qV,h1,iO,a3S,a6m]
  .have hln:(l.take xs.length).length=xs.length:=(by rw[a4c,a8b hl]);have hb:(h++(e1++[HB.cells .ro cs])++e2)[(h++e1).length]? = some (.cells .ro cs):=by rw[show h++(e1++[HB.cells .ro cs])++e2=(h++e1)++(HB.cells .ro cs::e2) by simp,a1p (a1j _),afh];rfl
   have tZ:(l.take xs.length).length<=xs.length+ys.length:=(by omega);have tX:∀(j:Nat) a,(l.take xs.length)[j]? = some a->l[j]? = some a:=fun j a hj=>by
    rw[a5f]at hj;split at hj
    .exact hj
    .cases hj
   have hle:(l.take xs.length).length*sz<=cs.length:=by rw[c1,hln];exact a3I sz hl
   generalize xs.length+ys.length=cp at tZ ⊢;generalize l.take xs.length=l' at tZ tX hle hln ⊢;rw[<-hln];exact VR.dF (X:=X) (P:=P) (A:=AT) (m:=[]) (t:=e) (l:=l') (fu:=false) (b:=(h++e1).length) (off:=0) (cap:=cp) (sz:=sz) (ex:=true) (cs:=cs) trivial (by unfold aU;rw[hb]) (fun _=>by unfold ni;rw[hb];simp) hz h0 (by omega) tZ (by simp) (fun j a _=>hlen a) (fun j a i c v hj hi hv=>by rw[a3C]at hv;have:=v1 ([HB.cells .ro cs]++e2) j a i c v (tX j a hj) hi hv;simp only[a6m]at this ⊢;exact this)
def RdF(nJ:LI2×LI3->H)(X:mX)(P:LI1)(w:LI4)(g o:Nat)(fs:List Field){α:Type}(ps:α->List (PV X.Γ))(Q:α->Prop):Prop:=
 ∀ds:List (DataW H),ds.length=fs.length->(∀(i:Nat) f d,fs[i]? = some f->ds[i]? = some d->Rd nJ P w f.type d)->∃a,Q a/\∀h,∃xs ext,Nb P (DT P g) o fs ds h=some (xs,h++ext)/\∀e,bZ X P AT [] (h++ext++e) (ps a) xs
theorem VT{g o}:RdF nJ X P w g o [] (fun _:Unit=>[]) (fun _=>True):=fun ds hl _=>by have:=a4o hl;subst this;exact⟨(),trivial,fun h=>⟨[],[],by simp[Nb],fun e=>.nil⟩⟩
theorem sS{g o n f fs α β p1 p2 Q1 Q2}(ho:f.offset=o)(hc:P.cellsOf f.type=n)(hn:∀a,(p1 a).length=n)(h1:RdP nJ X P w g f.type p1 Q1)(h2:RdF nJ X P w g (o+n) fs p2 Q2):RdF nJ X P w g o (f::fs) (fun x:α×β=>p1 x.1++p2 x.2) (fun x=>Q1 x.1/\Q2 x.2):=fun ds hl hd=>by
 cases ds with
 |nil=>cases hl
 |cons d ds=>
  obtain⟨a,qa,ha⟩:=h1 d (hd 0 f d rfl rfl);obtain⟨b,qb,hb⟩:=h2 ds (by simpa using hl) fun i f' d' e1 e2=>hd (i+1) f' d' e1 e2;refine⟨(a,b),⟨qa,qb⟩,fun h=>?_⟩;obtain⟨xs,e1,g1,v1⟩:=ha h;obtain⟨ys,e2,g2,v2⟩:=hb (h++e1);have hx:xs.length=n:=by rw[<-(v1 []).1];exact hn a
  refine⟨xs++ys,e1++e2,?_,fun e=>?_⟩
  .simp only[Nb,g1,ho,hx,hc,adr,a2l,g2,a6m]
  .have w1:=v1 (e2++e);have w2:=v2 e;simp only[a6m]at w1 w2 ⊢;exact w1.app w2
theorem He{t g n:Nat}{fs α}{ps:α->List (PV X.Γ)}{Q}(ht:P.underlying t=some (.struct fs))(hc:P.cellsOf t=n)(hn:∀a,(ps a).length=n)(hf:RdF nJ X P w g 0 fs.toList ps Q):RdP nJ X P w (g+1) t ps Q:=fun d hd=>by
 obtain⟨ds,rfl,hl,JF⟩:=a4t ht hd;obtain⟨a,qa,ha⟩:=hf ds (by simpa using hl) fun i f d e1 e2=>JF i f d (by simpa using e1) e2;refine⟨a,qa,fun h=>?_⟩;obtain⟨xs,e1,g1,v1⟩:=ha h;have hx:xs.length=n:=by rw[<-(v1 []).1];exact hn a
 refine⟨xs,e1,?_,v1⟩;rw[Yi ht,g1];simp[hx,hc]
theorem RdP.iso{t g α β ps Q}(h:RdP nJ X P w g t ps Q)(f:α->β){p2 Q2}(hp:∀a,p2 (f a)=ps a)(hq:∀a,Q a->Q2 (f a)):RdP nJ X P w g t p2 Q2:=fun d hd=>by obtain⟨a,qa,ha⟩:=h d hd;exact⟨f a,hq a qa,fun h=>by rw[hp];exact ha h⟩
theorem agE{T}{L n f:Nat}{vs xs h}(hc:nU X P (lu P T L (n+1)) f vs (PV.bool true) [])(hv:bZ X P AT [] h vs xs):∃h',lu P T L (n+1) (TV.fn f [] []) xs h=some (TV.bool true,h',[]):=by
 obtain⟨x,h',m',c1,_,c3,_⟩:=hc AT h [] xs [] (fun _ _=>trivial) (by simpa using hv);have:x=TV.bool true:=by
  cases c3 with
  |bool=>rfl
  |gone hi _ _=>simp[bF]at hi
 subst this;exact⟨h',c1⟩
end
end Pv
