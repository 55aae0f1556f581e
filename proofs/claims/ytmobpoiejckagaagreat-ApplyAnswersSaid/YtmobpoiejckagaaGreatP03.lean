/- Part 4 of a proof: ApplyAnswers -/
import Derived.Shelf.Spec.SlicesInsert
import Derived.Shelf.Spec.SlicesInsertGrow
import Derived.Shelf.Sort.Plain
import Derived.Shelf.Slices.In.SortNone
import Derived.Test.YtmobpoiejckagaaGreatProg
import Derived.KernelRfl
import Derived.Test.YtmobpoiejckagaaGreatP02
set_option linter.constructorNameAsVariable false
set_option linter.unusedVariables false
set_option linter.unusedSimpArgs false
set_option linter.unusedSectionVars false
open Go.IntKind (i64)
noncomputable section
namespace Pv
open Go Tw
inductive IRs:List MB->List HB->List PI->List yH->Prop where
 |nil {m h}:IRs m h [] []
 |cons {m h p t m1 h1 ps ts}:(aZ m).Nodup->(∀b,b∈aZ m->b<h.length)->IR m h p t->Fr m h m1 h1->Up m m1->(p.mv=false->∀(i:Nat),i<m.length->m1[i]? = some .gone->m[i]? = some .gone)->IRs m1 h1 ps ts->IRs m h (p::ps) (t::ts)
theorem a7H{fl b c ws}(h:c∈FM fl b ws):c∈ws\/(c=b/\b<fl):=by
 unfold FM at h;split at h
 .rename_i hl;split at h
  .exact .inl h
  rcases a1E.1 h with h|h
  .exact .inr ⟨h,hl⟩
  exact .inl h
 exact .inl h
theorem wW{fl c}:∀{ks} {ws},c∈kM fl ks ws->c∈ws\/(.h c∈ks/\c<fl)
 | [],ws,h=>.inl h
 |.h b::ks,ws,h=>by
  rcases wW (ks:=ks) h with h|⟨h1,h2⟩
  .rcases a7H h with h|⟨rfl,h⟩
   .exact .inl h
   exact .inr ⟨a3K,h⟩
  exact .inr ⟨a3I _ h1,h2⟩
 |.l _::ks,ws,h=>by
  rcases wW (ks:=ks) h with h|⟨h1,h2⟩
  .exact .inl h
  exact .inr ⟨a3I _ h1,h2⟩
theorem Y7{m m1}(hU:Up m m1)(hg:∀(i),i<m.length->m1[i]? = some .gone->m[i]? = some .gone){i b}(h:Ho m i b):Ho m1 i b:=by
 obtain⟨mb,h1,h2⟩:=h;rcases hU i mb h1 with e|e
 .exact⟨mb,e,h2⟩
 have:=hg i (a0x.1 h1).1 e;rw[h1]at this;cases this;cases h2
theorem DZ{m}(hn:(aZ m).Nodup){i j b}(h1:Ho m i b)(h2:Ho m j b):i=j:=by obtain⟨_,a1,a2⟩:=h1;obtain⟨_,b1,b2⟩:=h2;exact jc hn a1 b1 a2 b2
theorem abk{ma mb ha hb pa pb ta tb}(na:(aZ ma).Nodup)(nb:(aZ mb).Nodup)(la:∀b,b∈aZ ma->b<ha.length)(hab:Fr ma ha mb hb)(A:IR ma ha pa ta)(B:IR mb hb pb tb)(hc:a2e pa pb=true)(RV:(∀i b,Ho ma i b->Ho mb i b)\/pa.hp=false\/pb.hp=false):calm ta tb=true:=by
 simp only[a2e,a2n]at hc;obtain⟨c1,c2⟩:=hc;simp only[a0r,a2n,a5L,a6A,aam]at c1 c2;obtain⟨c1,c1w⟩:=c1;obtain⟨c2,c2w⟩:=c2;simp only[calm,a2n];constructor
 .simp only[OD,a5L,a2n,a6A,ah2];intro k hk;cases k with
  |l j=>
   have:=c1 _ (A.wl j hk);simp only[a6b,a3G]at this ⊢;exact⟨⟨.inr rfl,fun h=>this.1.1.2 (B.tl j h)⟩,fun h=>this.1.2 (B.wl j h)⟩
  |h c=>
   rcases RV with a7I|RV|RV
   .
    have hca:c∈aZ ma:=by
     rcases A.wh c hk with⟨i,_,h2⟩|⟨_,h2⟩
     .exact a0u h2
     .exact h2
    obtain⟨i0,hi0⟩:=kZ hca;have hi1:=a7I _ _ hi0;have hcb:c∈aZ mb:=a0u hi1;rcases A.wh c hk with⟨i,h1,h2⟩|⟨h1,h2⟩
    .have hii:=DZ na hi0 h2;subst hii;have OX:=c1 _ h1;simp only[a6b,a3G,Key.isH,aiB]at OX;refine⟨⟨.inl ?_,?_⟩,?_⟩
     .cases hq:tb.all with
      |false=>rfl
      |true=>rw[B.all hq]at OX;simp at OX
     .simp only[a6b,a3G];intro hq;rcases(B.th c hq).1 with⟨j,g1,g2⟩|g1
      .have:=DZ nb hi1 g2;subst this;exact OX.1.1.2 g1
      .exact g1 hcb
     .simp only[a6b,a3G];intro hq;rcases B.wh c hq with⟨j,g1,g2⟩|⟨g1,g2⟩
      .have:=DZ nb hi1 g2;subst this;exact OX.1.2 g1
      .rw[g1]at OX;simp at OX
    .rw[h1]at c1w;simp only[afw,false_or]at c1w;obtain⟨⟨⟨w1,w2⟩,w3⟩,w4⟩:=c1w;refine⟨⟨.inl ?_,?_⟩,?_⟩
     .cases hq:tb.all with
      |false=>rfl
      |true=>rw[B.all hq]at w1;cases w1
     .simp only[a6b,a3G];intro hq;rcases(B.th c hq).1 with⟨j,g1,g2⟩|g1
      .have:=w3 _ g1;simp[Key.isH]at this
      .exact g1 hcb
     .simp only[a6b,a3G];intro hq;rcases B.wh c hq with⟨j,g1,g2⟩|⟨g1,g2⟩
      .have:=w4 _ g1;simp[Key.isH]at this
      .rw[g1]at w2;cases w2
   .exact absurd hk ((A.hp RV).2.2 c)
   .obtain⟨g1,g2,g3⟩:=B.hp RV;refine⟨⟨.inl g1,?_⟩,?_⟩<;>simp only[a6b,a3G]
    .exact g2 c
    .exact g3 c
 .simp only[OD,a5L,a2n,a6A,ah2];intro k hk;cases k with
  |l j=>
   have:=c2 _ (B.wl j hk);simp only[a6b,a3G]at this ⊢;exact⟨⟨.inr rfl,fun h=>this.1.1.2 (A.tl j h)⟩,fun h=>this.1.2 (A.wl j h)⟩
  |h c=>
   rcases RV with a7I|RV|RV
   .have hcb:c∈aZ mb:=by
     rcases B.wh c hk with⟨i,_,h2⟩|⟨_,h2⟩
     .exact a0u h2
     .exact h2
    obtain⟨j0,hj0⟩:=kZ hcb;have back:c<ha.length->c∈aZ ma:=fun aQ=>by
     rcases hab.new c hcb with h1|h1
     .exact h1
     .omega
    have akc:∀i,Ho ma i c->i=j0:=fun i hi=>DZ nb (a7I _ _ hi) hj0;rcases B.wh c hk with⟨j,h1,h2⟩|⟨h1,h2⟩
    .have hii:=DZ nb hj0 h2;subst hii;have OX:=c2 _ h1;simp only[a6b,a3G,Key.isH,aiB]at OX;refine⟨⟨.inl ?_,?_⟩,?_⟩
     .cases hq:ta.all with
      |false=>rfl
      |true=>rw[A.all hq]at OX;simp at OX
     .simp only[a6b,a3G];intro hq;obtain⟨g0,glt⟩:=A.th c hq;rcases g0 with⟨i,g1,g2⟩|g1
      .have:=akc i g2;subst this;exact OX.1.1.2 g1
      .exact g1 (back glt)
     .simp only[a6b,a3G];intro hq;rcases A.wh c hq with⟨i,g1,g2⟩|⟨g1,g2⟩
      .have:=akc i g2;subst this;exact OX.1.2 g1
      .rw[g1]at OX;simp at OX
    .rw[h1]at c2w;simp only[afw,false_or]at c2w;obtain⟨⟨⟨w1,w2⟩,w3⟩,w4⟩:=c2w;refine⟨⟨.inl ?_,?_⟩,?_⟩
     .cases hq:ta.all with
      |false=>rfl
      |true=>rw[A.all hq]at w1;cases w1
     .simp only[a6b,a3G];intro hq;obtain⟨g0,glt⟩:=A.th c hq;rcases g0 with⟨i,g1,g2⟩|g1
      .have:=w3 _ g1;simp[Key.isH]at this
      .exact g1 (back glt)
     .simp only[a6b,a3G];intro hq;rcases A.wh c hq with⟨i,g1,g2⟩|⟨g1,g2⟩
      .have:=w4 _ g1;simp[Key.isH]at this
      .rw[g1]at w2;cases w2
   .obtain⟨g1,g2,g3⟩:=A.hp RV;refine⟨⟨.inl g1,?_⟩,?_⟩<;>simp only[a6b,a3G]
    .exact g2 c
    .exact g3 c
   .exact absurd hk ((B.hp RV).2.2 c)
theorem a7J:∀{ps} {ts} {m} {h},IRs m h ps ts->∀{j:Nat} {p},ps[j]? = some p->∃t mj hj,ts[j]? = some t/\IR mj hj p t/\(aZ mj).Nodup/\(∀b,b∈aZ mj->b<hj.length)/\Fr m h mj hj/\((∀(i) q,i<j->ps[i]? = some q->q.mv=false)->∀i b,Ho m i b->Ho mj i b)
 |_,_,_,_,.nil,j,p,hj=>by simp at hj
 |_,_,m,h,.cons n1 n2 i1 f1 u1 g1 rest,j,p,hj=>by
  cases j with
  |zero=>
   simp only[a3E,a09]at hj;subst hj;exact⟨_,m,h,rfl,i1,n1,n2,.refl,fun _ i b hb=>hb⟩
  |succ j=>
   obtain⟨t,mj,EM,e1,e2,e3,e4,e5,e6⟩:=a7J rest (j:=j) (by simpa using hj);refine⟨t,mj,EM,by simpa using e1,e2,e3,e4,f1.trans e5,fun hq i b hb=>e6 (fun i q hl hi=>hq (i+1) q (by omega) (by simpa using hi)) i b ?_⟩;exact Y7 u1 (g1 (hq 0 _ (by omega) rfl)) hb
theorem a2r:∀{ps} {ts} {m} {h},IRs m h ps ts->∀{i j:Nat} {p q},i<j->ps[i]? = some p->ps[j]? = some q->a2e p q=true->((∀(k) q,i<=k->k<j->ps[k]? = some q->q.mv=false)\/p.hp=false\/q.hp=false)->∃a b,ts[i]? = some a/\ts[j]? = some b/\calm a b=true
 |_,_,_,_,.nil,i,j,p,q,_,hi,_,_,_=>by simp at hi
 |_,_,m,h,.cons n1 n2 i1 f1 u1 g1 rest,i,j,p,q,AZ,hi,hj,hc,RV=>by
  cases j with
  |zero=>omega
  |succ j=>
   cases i with
   |zero=>
    simp only[a3E,a09]at hi;subst hi;obtain⟨t,mj,EM,e1,e2,e3,e4,e5,e6⟩:=a7J rest (j:=j) (by simpa using hj);refine⟨_,t,rfl,by simpa using e1,abk n1 e3 n2 (f1.trans e5) i1 e2 hc ?_⟩;refine RV.imp_left fun hq i b hb=>e6 (fun i q hl hi=>hq (i+1) q (by omega) (by omega) (by simpa using hi)) i b (Y7 u1 (g1 (hq 0 _ (by omega) (by omega) rfl)) hb)
   |succ i=>
    obtain⟨a,b,e1,e2,e3⟩:=a2r rest (i:=i) (j:=j) (by omega) (by simpa using hi) (by simpa using hj) hc (RV.imp_left fun hq k q h1 h2 hi=>hq (k+1) q (by omega) (by omega) (by simpa using hi));exact⟨a,b,by simpa using e1,by simpa using e2,e3⟩
theorem a7K{ps ts m h}(hI:IRs m h ps ts):∀{prs},(∀q∈prs,q.1<q.2)->VF ps prs=true->Ce ts prs=true
 | [],_,_=>rfl
 |(i,j)::r,aQ,hd=>by
  simp only[VF,a2n]at hd;obtain⟨h1,h2⟩:=hd;split at h1
  .rename_i a b ha hb;simp only[a2n,aam,a6A]at h1;obtain⟨x,y,e1,e2,e3⟩:=a2r hI (aQ _ a3K) ha hb h1.1 (by
    rcases h1.2 with(h3|h3)|h3
    .exact .inr (.inl h3)
    .exact .inr (.inr h3)
    left;intro k q SY kU hk;cases hq:q.mv with
    |false=>rfl
    |true=>
     refine absurd (agF.2 ⟨q,a5N (i:=k-i) ?_,hq⟩) (by rw[h3];simp);rw[a5H,a1e (by omega),a5C,<-hk];congr 1;omega)
   simp only[Ce,e1,e2,e3,aeL];exact a7K hI (fun q hq=>aQ q (a3I _ hq)) h2
  cases h1
theorem agi{ops}:∀q∈nH ops,q.1<q.2:=by intro q hq;unfold nH at hq;have:=(a5X.1 hq).1;unfold oN at this;simp only[afj,a1w,a5X,a5m]at this;obtain⟨j,_,i,⟨hi,_⟩,rfl⟩:=this;exact hi
theorem U9{ts}(hw:∀t∈ts,t.ws=[]):∀{prs},(∀q∈prs,q.1<ts.length/\q.2<ts.length)->Ce ts prs=true
 | [],_=>rfl
 |(i,j)::r,hl=>by obtain⟨h1,h2⟩:=hl _ a3K;simp only[Ce,a0Q h1,a0Q h2,a2n];refine⟨?_,U9 hw fun q hq=>hl q (a3I _ hq)⟩;simp[calm,OD,hw _ (a5K h1),hw _ (a5K h2)]
theorem agj{ops}:∀q∈nH ops,q.1<ops.length/\q.2<ops.length:=by intro q hq;unfold nH at hq;have:=(a5X.1 hq).1;unfold oN at this;simp only[afj,a1w,a5X,a5m]at this;obtain⟨j,hj,i,⟨hi,_⟩,rfl⟩:=this;exact⟨by simp only;omega,hj⟩
section
variable{X:mV}{P:LI1}{A W:Nat->Prop}{m m':List MB}{h:List HB}
structure SR(X:mV)(P:LI1)(A W:Nat->Prop)(fl:Nat)(m:List MB)(ps:bV X.Γ)(ts:St):Prop where
 st:wB X P A m ps ts
 own:∀b,b∈aZ m->W b\/fl<=b
 ws:∀b,b∈ts.ws->W b
 fl:fl<=ts.heap.length
def Ob(B:Nat)(m m1:List MB):Prop:=∀(i:Nat) mb,i<B->m[i]? = some mb->m1[i]? = some mb\/m1[i]? = some .gone
theorem Up.b{B m m1}(h:Up m m1):Ob B m m1:=fun i mb _ hi=>h i mb hi
theorem Ob.trans{B m m1 m2}(a:Ob B m m1)(b:Ob B m1 m2):Ob B m m2:=fun i mb hB hi=>by
 rcases a i mb hB hi with h|h
 .exact b i mb hB h
 .rcases b i _ hB h with h|h<;>exact .inr h
theorem Ob.refl{B m}:Ob B m m:=fun _ _ _ h=>.inl h
def E5(X:mV)(P:LI1)(B:Nat)(ps ps1:bV X.Γ):Prop:=
 ∀(A W:Nat->Prop) (fl:Nat) (m:List MB) (ts:St),SR X P A W fl m ps ts->∃m1,SR X P A W fl m1 ps1 ts/\Fr m ts.heap m1 ts.heap/\Ob B m m1
theorem E5.refl{B ps}:E5 X P B ps ps:=fun _ _ _ m _ hS=>⟨m,hS,.refl,.refl⟩
theorem E5.trans{B a b c}(h1:E5 X P B a b)(h2:E5 X P B b c):E5 X P B a c:=fun A W fl m ts hS=>by obtain⟨m1,g1,g2,g3⟩:=h1 A W fl m ts hS;obtain⟨m2,g4,g5,g6⟩:=h2 A W fl m1 ts g1;exact⟨m2,g4,g2.trans g5,g3.trans g6⟩
theorem abl{env env'}(he:kJ X P A m h env env'):kJ X P A m h (aaV env) env':=by
 induction he with
 |nil=>exact .nil
 |cons h1 _ ih=>
  rename_i k v x r r' _;cases v with
  |val v=>obtain⟨y,rfl,h2⟩:=gJ h1;exact .cons (oG (IV h2)) ih
  |_=>exact .cons h1 ih
theorem abm{t i}(hi:m[i]? = some (.dD (.nil .aO))):∀{env} {env':List (Nat×EV)} {r:List (Nat×PE X.Γ)},kJ X P A m h env env'->IQ t i env=some r->kJ X P A m h r env':=by
 intro env env' r he
 induction he generalizing r with
 |nil=>intro h;cases h
 |cons h1 h2 ih=>
  rename_i k v x q q';intro hn;simp only[IQ]at hn;split at hn
  .split at hn
   .cases hn;obtain⟨y,rfl,h3⟩:=gJ h1;have:y=.nil .aO:=by
     cases h3 with
     |nil=>rfl
     |gone hi _ _=>simp[bf]at hi
    subst this;exact .cons (oG (.own hi rfl)) h2
   cases hn
  simp only[a0A]at hn;obtain⟨q2,h3,rfl⟩:=hn;exact .cons h1 (ih h3)
theorem a2s{i off}(hi:m[i]? = some (.dD (.nil .aO))){cs r xs}(hv:bZ X P A m h cs xs)(hn:aaW off i cs=some r):bZ X P A m h r xs:=by
 unfold aaW at hn;split at hn
 .rename_i hc;cases hn;refine⟨by rw[a5O,hv.1],fun j a b ha hb=>?_⟩;by_cases e:off=j
  .subst e;rw[a5G,hc]at ha;cases ha;have:b=.nil .aO:=by
    cases hv.2 _ _ _ hc hb with
    |nil=>rfl
    |gone hi _ _=>simp[bf]at hi
   subst this;exact .own hi rfl
  rw[a1y e]at ha;exact hv.2 j a b ha hb
 cases hn
theorem SR.VP{fl ps ts}(hS:SR X P A W fl m ps ts)(e):∃m1,HR X P A m1 (ps.heap++[.list false false e []]) ts.heap/\Fr m ts.heap m1 ts.heap/\Up m m1/\m1[ps.heap.length]? = some (.dD (.nil .aO))/\(∀b,b∈aZ m1->b∈aZ m):=by obtain⟨h1,h2,h3⟩:=hS.st.heap.adx (pb:=.list false false e []) (mb:=.dD (.nil .aO)) rfl LR.nil;refine⟨_,h1,h2,h3,by rw[<-hS.st.heap.len];simp,fun b hb=>?_⟩;rw[jA,a3M,kY]at hb;simpa[MB.own]using hb
theorem a7L(hX:bT X P){H}(hr:HR X P A m H h){i v w x}(hv:VR X P (AA A m) m h v x)(hw:fzV H i v=some w):VR X P (AA A (bW [i] m)) (bW [i] m) h w x:=by
 unfold fzV at hw;split at hw
 .cases hw;exact hv.step (iK (h:=h) [i] m).1 (iK (h:=h) [i] m).2
 split at hw
 .rename_i ha;refine(VL (m':=bW [i] m) hX hr hv hw (is:=[i]) fun j hj=>?_).mono fun b hb=>FA.gone hr hb;have:=a5L.1 ha j hj;rw[aad this];exact a1D.2 rfl
 cases hw
theorem a2t(hX:bT X P){H}(hr:HR X P A m H h){i}:∀{v w} {x:List TV},bZ X P (AA A m) m h v x->a7i H i v=some w->bZ X P (AA A (bW [i] m)) (bW [i] m) h w x
 | [],w,x,hv,hw=>by cases hw;rw[hv.inv0];exact .nil
 |v::vs,w,x,hv,hw=>by
  obtain⟨y,r,rfl,h1,h2⟩:=hv.inv;simp only[a7i]at hw;split at hw
  .rename_i w1 ws e1 e2;cases hw;exact .cons (a7L hX hr h1 e1) (a2t hX hr h2 e2)
  cases hw
theorem agk(hX:bT X P){H}(hr:HR X P A m H h){i v x}(hv:kJ X P (AA A m) m h v x):∀{w},fzE H i v=some w->kJ X P (AA A (bW [i] m)) (bW [i] m) h w x:=by
 induction hv with
 |nil=>intro w hw;cases hw;exact .nil
 |cons h1 h2 ih=>
  rename_i k v x q q';intro w hw;cases v with
  |val v=>
   simp only[fzE]at hw;split at hw
   .rename_i w1 ws e1 e2;cases hw;obtain⟨y,rfl,h3⟩:=gJ h1;exact .cons (oG (a7L hX hr h3 e1)) (ih e2)
   cases hw
  |loc k o=>
   simp only[fzE,a0A]at hw;obtain⟨ws,e2,rfl⟩:=hw;exact .cons (by cases x<;>exact h1) (ih e2)
  |undef=>
   simp only[fzE,a0A]at hw;obtain⟨ws,e2,rfl⟩:=hw;exact .cons (by cases x<;>exact h1) (ih e2)
  |ent|FK=>simp[fzE]at hw
theorem a2u{Γ}{H:List (PB Γ)}{i}:∀{l r},fzL H i l=some r->r.length=l.length/\∀(k:Nat) ds,r[k]? = some ds->∃cs,l[k]? = some cs/\a7i H i cs=some ds
 | [],r,h=>by cases h;exact⟨rfl,fun k ds hk=>by simp at hk⟩
 |c::l,r,h=>by
  simp only[fzL]at h;split at h
  .rename_i w ws e1 e2;cases h;obtain⟨q1,q2⟩:=a2u e2;refine⟨by simp[q1],fun k ds hk=>?_⟩;cases k with
   |zero=>simp at hk;subst hk;exact⟨c,rfl,e1⟩
   |succ k=>exact q2 k ds (by simpa using hk)
  cases h
theorem a7M(hX:bT X P){B g ps ps1}(hg:CB B ps g=some ps1):E5 X P B ps ps1:=by
 intro A W fl m ts hS;cases g with
 |lit=>
  simp only[CB,a09]at hg;subst hg;exact⟨m,⟨⟨hS.st.heap,hS.st.llen,hS.st.loc,abl hS.st.env⟩,hS.own,hS.ws,hS.fl⟩,.refl,.refl⟩
 |IQ t e=>
  simp only[CB,a0A]at hg;obtain⟨env,h1,rfl⟩:=hg;obtain⟨m1,e1,e2,e3,e4,e5⟩:=hS.VP e;exact⟨m1,⟨⟨e1,hS.st.llen,fun k cs hk=>let ⟨cs',q1,q2⟩:=hS.st.loc k cs hk;⟨cs',q1,q2.step e2 e3⟩,abm e4 (hS.st.env.step e2 e3) h1⟩,fun b hb=>hS.own b (e5 b hb),hS.ws,hS.fl⟩,e2,e3.b⟩
 |a4k k off e=>
  simp only[CB]at hg;split at hg
  .rename_i cs hk;simp only[a0A]at hg;obtain⟨U3,h1,rfl⟩:=hg;obtain⟨m1,e1,e2,e3,e4,e5⟩:=hS.VP e;refine⟨m1,⟨⟨e1,by simp[hS.st.llen],fun j ds hj=>?_,hS.st.env.step e2 e3⟩,fun b hb=>hS.own b (e5 b hb),hS.ws,hS.fl⟩,e2,e3.b⟩;by_cases e0:k=j
   .subst e0;rw[a5G,hk]at hj;cases hj;obtain⟨cs',q1,q2⟩:=hS.st.loc k cs hk;exact⟨cs',q1,a2s e4 (q2.step e2 e3) h1⟩
   rw[a1y e0]at hj;obtain⟨cs',q1,q2⟩:=hS.st.loc j ds hj;exact⟨cs',q1,q2.step e2 e3⟩
  cases hg
 |VD i off e=>
  simp only[CB]at hg;split at hg
  rotate_left
  .cases hg
  rename_i cs hi;simp only[a0A]at hg;obtain⟨U3,h1,rfl⟩:=hg;obtain⟨m1,e1,e2,e3,e4,e5⟩:=hS.VP e;have aQ:i<ps.heap.length:=(a0x.1 hi).1;have xK:HR X P A m1 (ps.heap.set i (.cells U3)++[.list false false e []]) ts.heap:=by
   refine e1.next .refl .refl (by simp[e1.len]) e1.nodup fun j b hj=>?_;by_cases e0:i=j
   .subst e0;right;rw[a0U (by simpa using aQ),a5G,hi]at hj;cases hj;obtain⟨mb,q1,q2⟩:=e1.at_ i (.cells cs) (by rw[a0U aQ];exact hi);refine⟨mb,q1,?_⟩;cases mb with
    |gQ c=>obtain⟨xs,q3,q4⟩:=q2;exact⟨xs,q3,a2s e4 q4 h1⟩
    |_=>exact q2.elim
   left;have:(ps.heap++[PB.list false false e []])[j]? = some b:=by
    rw[<-hj];rcases a4W j ps.heap.length with h9|h9
    .rw[a0U h9,a0U (by simpa using h9),a1y e0]
    rw[a1r h9,a1r (by simpa using h9),a5O]
   obtain⟨mb,q1,_⟩:=e1.at_ j b this;exact⟨mb,this,q1,q1,fun _ _=>rfl⟩
  exact⟨m1,⟨⟨xK,hS.st.llen,fun k cs hk=>let ⟨cs',q1,q2⟩:=hS.st.loc k cs hk;⟨cs',q1,q2.step e2 e3⟩,hS.st.env.step e2 e3⟩,fun b hb=>hS.own b (e5 b hb),hS.ws,hS.fl⟩,e2,e3.b⟩
 |flag i=>
  simp only[CB]at hg;split at hg
  rotate_left
  .cases hg
  rename_i k ex t l hi;cases hg;have hr:=hS.st.heap;refine⟨m,⟨⟨?_,hS.st.llen,hS.st.loc,hS.st.env⟩,hS.own,hS.ws,hS.fl⟩,.refl,.refl⟩;refine hr.next .refl .refl (by simp[hr.len]) hr.nodup fun j b hj=>?_;by_cases e0:i=j
  .subst e0;right;rw[a5G,hi]at hj;cases hj;obtain⟨mb,q1,q2⟩:=hr.at_ i _ hi;refine⟨mb,q1,?_⟩;cases mb with
   |dD y=>
    cases(q2:LR X P _ _ _ _ _ _ _ y)with
    |nil=>exact LR.nil
    |emp p0 p1 p2 p3 p4=>exact LR.emp p0 p1 p2 p3 p4
    |some p1 p2 p3 p4 p5 p6 p7 p8 p9=>exact LR.some p1 p2 p3 p4 p5 (by simp) (by simp) p8 p9
   |_=>exact q2.elim
  left;rw[a1y e0]at hj;obtain⟨mb,q1,_⟩:=hr.at_ j b hj;exact⟨mb,hj,q1,q1,fun _ _=>rfl⟩
 |gc ks=>
  simp only[CB]at hg;split at hg
  rotate_left
  .cases hg
  rename_i hc;simp only[a2n,a1x,a5L]at hc;obtain⟨⟨Gj,jD⟩,hB⟩:=hc;split at hg
  rotate_left
  .cases hg
  rename_i env loc b1 b2 h1 h2 h3 h4;split at hg
  rotate_left
  .cases hg
  rename_i b3 h5;cases hg;have hr:=hS.st.heap;have hp:=Fe h4;have aqi:∀k∈ks,k<m.length:=fun k hk=>by obtain⟨i,hi⟩:=a9f hk;obtain⟨b,q1,_⟩:=hp.2 hi;rw[hr.len];exact(a0x.1 q1).1
  have hBm:B<=m.length:=by rw[hr.len];exact hB
  let m1:List MB:=m.take B++ks.map fun k=>m.getD k .gone
  have agl:(m.take B).length=B:=by rw[a4t];omega
  have Iu:∀i,i<B->m1[i]? = m[i]?:=fun i hi=>by show(m.take B++_)[i]? = _;rw[a0U (by omega),a5H,a1e hi]
  have hhi:∀p k,ks[p]? = some k->m1[p+B]? = m[k]?:=fun p k hp=>by show(m.take B++_)[p+B]? = _;rw[a1r (by omega),agl,Nat.add_sub_cancel,a4V,hp];have:=aqi k (a5N hp);simp[a3k,this]
  have hg:∀i j,(fun i=>if i<B then some i else(xP ks i).map (·+B)) i=some j->m1[j]? = m[i]?:=fun i j AZ=>by
   simp only at AZ;split at AZ
   .rename_i hi;cases AZ;exact Iu i hi
   simp only[a0A]at AZ;obtain⟨p,hp,rfl⟩:=AZ;exact hhi p i (Q9 hp)
  have hold:∀j mb,m1[j]? = some mb->∃i,m[i]? = some mb/\((j<B/\i=j)\/∃p,j=p+B/\ks[p]? = some i):=fun j mb hj=>by
   rcases a4W j B with aQ|CU
   .exact⟨j,by rw[<-Iu j aQ];exact hj,.inl ⟨aQ,rfl⟩⟩
   have tY:j-B<ks.length:=by
    have:=(a0x.1 hj).1;have h9:m1.length=B+ks.length:=by show(m.take B++_).length=_;rw[a1B,agl,a4X]
    omega
   have hp:=a0Q tY;have hh:=hhi (j-B) _ hp;rw[show j-B+B=j by omega,hj]at hh;exact⟨_,hh.symm,.inr ⟨j-B,by omega,hp⟩⟩
  have yO:∀b,b∈aZ m1->b∈aZ m:=fun b hb=>by obtain⟨j,mb,q1,q2⟩:=kZ hb;obtain⟨i,q3,_⟩:=hold j mb q1;exact aY q3 q2
  have hA:∀b,AA A m b->AA A m1 b:=fun b hb=>⟨hb.1,fun hm=>hb.2 (yO b hm)⟩;have agm:(aZ m1).Nodup:=jQ fun i j c q1 q2=>by
   obtain⟨ma,a1,a2⟩:=q1;obtain⟨mc,c1,c2⟩:=q2;obtain⟨i',a3,a4⟩:=hold i ma a1;obtain⟨j',c3,c4⟩:=hold j mc c1;have e:=jc hr.nodup a3 c3 a2 c2;subst e;rcases a4 with⟨a5,a6⟩|⟨p,a5,a6⟩<;>rcases c4 with⟨c5,c6⟩|⟨q,c5,c6⟩
   .omega
   .have:=Gj _ (a5N c6);omega
   .have:=Gj _ (a5N a6);omega
   have AQ:=(a0x.1 a6).1;have:p=q:=(List.getElem?_inj AQ jD).1 (by rw[a6,c6]);omega
  have hFr:Fr m ts.heap m1 ts.heap:=⟨a1l _,fun _ _ _=>rfl,fun b hb=>.inl (yO b hb),fun b cs hc=>⟨cs,hc,a1l _⟩⟩;have CV:=uM h3;have hb3:=uM h5;have Td:=Qb h2;refine⟨m1,⟨⟨⟨?_,fun j b hj=>?_,agm,hr.up,fun b hb=>hr.DX b (yO b hb)⟩,by rw[Td.1];exact hS.st.llen,fun k cs hk=>?_,Qa hX hg hA hS.st.env h1⟩,fun b hb=>hS.own b (yO b hb),hS.ws,hS.fl⟩,hFr,fun i mb hi hm=>.inl (by rw[Iu i hi];exact hm)⟩
  .show(m.take B++_).length=_;rw[a1B,a1B,a4X,CV.1,hb3.1,hp.1,agl,a4t];omega
  .have a1O:b1.length=B:=by rw[CV.1,a4t];omega
   rcases a4W j B with aQ|CU
   .rw[a0U (by omega)]at hj;obtain⟨b0,q1,q2⟩:=CV.2 hj;rw[a5H,a1e aQ]at q1;obtain⟨mb,q3,q4⟩:=hr.at_ j b0 q1;exact⟨mb,by rw[Iu j aQ];exact q3,Fb hX hg hA (fun c _ h9 h8=>h9 (yO c h8)) q4 q2⟩
   rw[a1r (by omega),a1O]at hj;obtain⟨b0,q1,q2⟩:=hb3.2 hj;have tY:j-B<ks.length:=by rw[<-hp.1];exact(a0x.1 q1).1
   obtain⟨b9,q5,q6⟩:=hp.2 (a0Q tY);rw[q1]at q6;cases q6;obtain⟨mb,q3,q4⟩:=hr.at_ _ _ q5;refine⟨mb,?_,Fb hX hg hA (fun c _ h9 h8=>h9 (yO c h8)) q4 q2⟩;have:=hhi (j-B) _ (a0Q tY);rw[show j-B+B=j by omega]at this;rw[this];exact q3
  obtain⟨cs0,q1,q2⟩:=Td.2 hk;obtain⟨cs',q3,q4⟩:=hS.st.loc k cs0 q1;exact⟨cs',q3,zZ hX hg hA q4 q2⟩
 |fz i=>
  simp only[CB]at hg;split at hg
  .rename_i env loc e1 e2;cases hg;have hr:=hS.st.heap;have hF:=iK (h:=ts.heap) [i] m;obtain⟨q1,q2⟩:=a2u e2;refine⟨bW [i] m,⟨⟨hr.aX [i],by rw[q1];exact hS.st.llen,fun k ds hk=>?_,agk hX hr hS.st.env e1⟩,fun b hb=>?_,hS.ws,hS.fl⟩,hF.1,hF.2.b⟩
   .obtain⟨cs,h1,h2⟩:=q2 k ds hk;obtain⟨cs',h3,h4⟩:=hS.st.loc k cs h1;exact⟨cs',h3,a2t hX hr h4 h2⟩
   obtain⟨j,mb,_,h2,h3⟩:=Bq hb;exact hS.own b (aY h2 h3)
  cases hg
 |mv i=>
  simp only[CB]at hg;split at hg
  rotate_left
  .cases hg
  rename_i b0 hi;split at hg
  rotate_left
  .cases hg
  rename_i env loc b1 b2 h1 h2 h3 h4;cases hg;have hr:=hS.st.heap;have aQ:i<ps.heap.length:=(a0x.1 hi).1;obtain⟨mi,mi1,mi2⟩:=hr.at_ i b0 hi
  let m1:List MB:=m.set i .gone++[mi]
  have qW:(m.set i .gone).length=ps.heap.length:=by rw[a5O,hr.len]
  have Iu:∀j,j<ps.heap.length->j≠i->m1[j]? = m[j]?:=fun j hj hn=>by show(m.set i .gone++[mi])[j]? = _;rw[a0U (by omega),a1y (fun e=>hn e.symm)]
  have JJ:m1[i]? = some .gone:=by show(m.set i .gone++[mi])[i]? = _;rw[a0U (by omega),a5G,mi1];rfl
  have hhi:m1[ps.heap.length]? = some mi:=by show(m.set i .gone++[mi])[ps.heap.length]? = _;rw[a1r (by omega),qW,afz];rfl
  have hg:∀a b,(fun j=>if j=i then some ps.heap.length else if j<ps.heap.length then some j else none) a=some b->m1[b]? = m[a]?:=fun a b hab=>by
   simp only at hab;split at hab
   .rename_i e;subst e;cases hab;rw[hhi,mi1]
   split at hab
   .rename_i e1 e2;cases hab;exact Iu a e2 e1
   cases hab
  have hold:∀j mb,m1[j]? = some mb->mb=.gone\/∃k,m[k]? = some mb/\((j<ps.heap.length/\k=j/\j≠i)\/(j=ps.heap.length/\k=i)):=fun j mb hj=>by
   have tY:j<ps.heap.length+1:=by
    have:=(a0x.1 hj).1;have h9:m1.length=ps.heap.length+1:=by show(m.set i .gone++[mi]).length=_;rw[a1B,qW];rfl
    omega
   by_cases e:j=i
   .subst e;rw[JJ]at hj;cases hj;exact .inl rfl
   rcases a4W j ps.heap.length with h5|h5
   .exact .inr ⟨j,by rw[<-Iu j h5 e];exact hj,.inl ⟨h5,rfl,e⟩⟩
   have:j=ps.heap.length:=(by omega);subst this;rw[hhi]at hj;cases hj;exact .inr ⟨i,mi1,.inr ⟨rfl,rfl⟩⟩
  have yO:∀b,b∈aZ m1->b∈aZ m:=fun b hb=>by
   obtain⟨j,mb,q1,q2⟩:=kZ hb;rcases hold j mb q1 with rfl|⟨k,q3,_⟩
   .cases q2
   exact aY q3 q2
  have hA:∀b,AA A m b->AA A m1 b:=fun b hb=>⟨hb.1,fun hm=>hb.2 (yO b hm)⟩;have agm:(aZ m1).Nodup:=jQ fun j k c q1 q2=>by
   obtain⟨ma,a1,a2⟩:=q1;obtain⟨mc,c1,c2⟩:=q2;rcases hold j ma a1 with rfl|⟨j',a3,a4⟩
   .cases a2
   rcases hold k mc c1 with rfl|⟨k',c3,c4⟩
   .cases c2
   have e:=jc hr.nodup a3 c3 a2 c2;subst e;rcases a4 with⟨a5,a6,a7⟩|⟨a5,a6⟩<;>rcases c4 with⟨c5,c6,c7⟩|⟨c5,c6⟩<;>omega
  have hFr:Fr m ts.heap m1 ts.heap:=⟨a1l _,fun _ _ _=>rfl,fun b hb=>.inl (yO b hb),fun b cs hc=>⟨cs,hc,a1l _⟩⟩;have CV:=uM h3;have Td:=Qb h2;have akd:b1.length=ps.heap.length:=by rw[CV.1,a5O]
  refine⟨m1,⟨⟨⟨?_,fun j b hj=>?_,agm,hr.up,fun b hb=>hr.DX b (yO b hb)⟩,by rw[Td.1];exact hS.st.llen,fun k cs hk=>?_,Qa hX hg hA hS.st.env h1⟩,fun b hb=>hS.own b (yO b hb),hS.ws,hS.fl⟩,hFr,fun j mb _ hj=>?_⟩
  .show(m.set i .gone++[mi]).length=_;rw[a1B,a1B,qW,akd];rfl
  .rcases a4W j ps.heap.length with h5|h5
   .rw[a0U (by omega)]at hj;obtain⟨b9,q1,q2⟩:=CV.2 hj;by_cases e:j=i
    .subst e;rw[a5G,hi]at q1;cases q1;have q2:some (PB.gone (Γ:=X.Γ))=some b:=q2;cases q2;exact⟨.gone,JJ,trivial⟩
    rw[a1y (fun e2=>e e2.symm)]at q1;obtain⟨mb,q3,q4⟩:=hr.at_ j b9 q1;exact⟨mb,by rw[Iu j h5 e];exact q3,Fb hX hg hA (fun c _ h9 h8=>h9 (yO c h8)) q4 q2⟩
   rw[a1r (by omega),akd]at hj;have:j-ps.heap.length=0:=by have:=(a0x.1 hj).1;simp at this;omega
   rw[this]at hj;cases hj;refine⟨mi,?_,Fb hX hg hA (fun c _ h9 h8=>h9 (yO c h8)) mi2 h4⟩;rw[show j=ps.heap.length by omega];exact hhi
  .obtain⟨cs0,q1,q2⟩:=Td.2 hk;obtain⟨cs',q3,q4⟩:=hS.st.loc k cs0 q1;exact⟨cs',q3,zZ hX hg hA q4 q2⟩
  by_cases e:j=i
  .subst e;exact .inr JJ
  have:j<ps.heap.length:=by rw[<-hr.len];exact(a0x.1 hj).1
  exact .inl (by rw[Iu j this e];exact hj)
theorem nO(hX:bT X P){B}:∀{gs} {ps ps1},lZ B gs ps=some ps1->E5 X P B ps ps1
 | [],ps,ps1,h=>by simp only[lZ,a09]at h;subst h;exact .refl
 |g::gs,ps,ps1,h=>by
  simp only[lZ]at h;split at h
  .rename_i s hs;exact(a7M hX hs).trans (nO hX h)
  cases h
end
section
variable{X:mV}{P:LI1}{T:vH}{A W:Nat->Prop}{m m':List MB}
variable{call:dO}{gq:gZ X.Γ}{ρ:Type}{y:ρ}
theorem SR.CX{fl ps ts}(hS:SR X P A W fl m ps ts){x b}(hb:rJ ts.env x=some (.bool b)):SR X P A W fl m (ps.CX x b) ts:=⟨hS.st.CX hb,hS.own,hS.ws,hS.fl⟩
theorem wB.put{ps ts}(hR:wB X P A m ps ts){d pe ev}(h:JK X P (AA A m) m ts.heap pe ev):wB X P A m (ps.put d pe) (ts.put d ev):=by
 cases d with
 |none=>exact hR
 |some d=>exact⟨hR.heap,hR.llen,hR.loc,.cons h hR.env⟩
theorem A8{ts:St}{d ev}:(ts.put d ev).heap=ts.heap/\(ts.put d ev).ws=ts.ws:=by cases d<;>exact⟨rfl,rfl⟩
theorem Y8{H h}(hr:HR X P A m H h){i:Nat}{b}(hb:H[i]? = some b):sD b=true↔m[i]? = some .gone:=by
 obtain⟨mb,h1,h2⟩:=hr.at_ i b hb;cases b with
 |gone=>
  cases mb with
  |gone=>exact⟨fun _=>h1,fun _=>rfl⟩
  |_=>exact h2.elim
 |cells cs=>cases mb with
  |gone=>exact h2.elim
  |_=>simp[sD,h1]
 |aF cs=>cases mb with
  |gone=>exact h2.elim
  |_=>simp[sD,h1]
 |list k ex t l=>cases mb with
  |gone=>exact h2.elim
  |_=>simp[sD,h1]
 |map es=>cases mb with
  |gone=>exact h2.elim
  |_=>simp[sD,h1]
 |mark=>cases mb with
  |gone=>exact h2.elim
  |_=>simp[sD,h1]
 |nN=>cases mb with
  |gone=>exact h2.elim
  |_=>simp[sD,h1]
 |iP=>cases mb with
  |gone=>exact h2.elim
  |_=>simp[sD,h1]
 |dB=>cases mb with
  |gone=>exact h2.elim
  |_=>simp[sD,h1]
 |loop=>cases mb with
  |gone=>exact h2.elim
  |_=>simp[sD,h1]
theorem MS:∀{H H1:List (PB X.Γ)},zY H H1=true->∀{i:Nat} {b},H[i]? = some b->∃b1,H1[i]? = some b1/\sD b=sD b1
 | [],H1,_,i,b,hi=>by simp at hi
 |a::H,[],h,i,b,hi=>by simp[zY]at h
 |a::H,a1::H1,h,i,b,hi=>by
  simp only[zY,a2n,a6x]at h;cases i with
  |zero=>simp only[a3E,a09]at hi;subst hi;exact⟨a1,rfl,h.1⟩
  |succ i=>obtain⟨b1,e1,e2⟩:=MS h.2 (i:=i) (by simpa using hi);exact⟨b1,by simpa using e1,e2⟩
theorem agn{H H1 h h1 m1}(hr:HR X P A m H h)(hr1:HR X P A m1 H1 h1)(hs:(!zY H H1)=false):∀(i),i<m.length->m1[i]? = some .gone->m[i]? = some .gone:=by
 intro i hi hg;have wS:i<H.length:=by rw[<-hr.len];exact hi
 have hb:=a0Q wS;obtain⟨b1,e1,e2⟩:=MS (by simpa using hs) hb;have:=(Y8 hr1 e1).2 hg;rw[<-e2]at this;exact(Y8 hr hb).1 this
theorem NR{fl ops ps ts}(hS:SR X P A W fl m ps ts){o an k}(hk:(a0q X ops ps o an k).Ends y) :∃w ps1 J7,Dw ops ts.env o=some w/\SR X P A W fl m ps1 ts/\(k w ps1 J7).Ends y/\ps1.heap=ps.heap:=by
 unfold a0q at hk;unfold Dw;split at hk
 .rename_i hg;exact⟨true,ps,an,by simp only[hg],hS,hk,rfl⟩
 .rename_i j want hg;simp only[hg];split at hk
  .rename_i d hd;simp only[hd];split at hk
   .rename_i b hb;obtain⟨ev,h1,h2⟩:=pq hS.st.env hb;obtain⟨tv,rfl,h3⟩:=gJ h2;obtain⟨t,J7,rfl,hk⟩:=a0y hk h3;exact⟨t==want,_,J7,by simp only[h1],hS.CX (x:=.tmp d) (by simp only[rJ,JH,h1]),hk,rfl⟩
   .rename_i hb;obtain⟨ev,h1,h2⟩:=pq hS.st.env hb;have:=KD h2;subst this;exact⟨false,ps,an,by simp only[h1],hS,hk,rfl⟩
   .exact hk.elim
  .exact hk.elim
theorem a0F(hX:bT X P)(hO:jT X P call gq){site fl nt ops}:∀{os} {m} {ps} {ts} {an} {k},SR X P A W fl m ps ts->(XT X P gq (dK X P call) site nt ops os ps an k).Ends y ->∃iV is pis ps1 J7 m1,lU P call site fl nt ops os ts=some (iV,is)/\(k ps1 pis J7).Ends y/\SR X P A W fl m1 ps1 iV/\Fr m ts.heap m1 iV.heap/\Up m m1/\IRs m ts.heap pis is/\is.length=os.length
 | [],m,ps,ts,an,k,hS,hk=>⟨ts,[],[],ps,an,m,rfl,hk,hS,.refl,.refl,.nil,rfl⟩
 |o::os,m,ps,ts,an,k,hS,hk=>by
  simp only[XT]at hk;split at hk
  .exact hk.elim
  .rename_i hd;obtain⟨w,ps1,Nv,hw,hS1,hk,hh⟩:=NR hS hk;cases w with
   |true=>
    simp only at hk;obtain⟨pe,Dy,pi,an2,⟨ev,ts2,ti,m2,e1,e2,e3,e4,e5,e6,e7,e8,e9⟩,hk⟩:=agb hX hO hS1.st hk;have hS2:SR X P A W fl m2 (Dy.put o.dst pe) (({ ts2 with ws:=kM fl ti.ws ts.ws }).put o.dst ev):=by
     refine⟨wB.put (ts:={ ts2 with ws:=kM fl ti.ws ts.ws }) ⟨e4.heap,e4.llen,e4.loc,e4.env⟩ e5,fun b hb=>?_,fun b hb=>?_,?_⟩
     .rcases e6.new b hb with h1|h1
      .exact hS.own b h1
      .exact .inr (a5Y hS.fl h1)
     .rw[A8.2]at hb;rcases wW hb with h1|⟨h1,h2⟩
      .exact hS.ws b h1
      .rcases hS.own b (e9 b h1)with h3|h3
       .exact h3
       .omega
     .rw[A8.1];exact a5Y hS.fl e6.len
    obtain⟨ts3,is,pis,ps3,an3,m3,g1,g2,g3,g4,g5,g6,g7⟩:=a0F hX hO (os:=os) hS2 hk;rw[A8.1]at g4 g6;refine⟨ts3,ti::is,_,ps3,an3,m3,?_,g2,g3,e6.trans g4,e7.trans g5,.cons hS.st.heap.nodup (fun b hb=>hS.st.heap.inb hb) ⟨e8.all,e8.tl,e8.wl,e8.wh,e8.th,e8.hp⟩ e6 e7 (agn hS1.st.heap e4.heap) g6,by simp[g7]⟩;simp only[lU,hd,hw,e1,g1];rfl
   |false=>
    simp only at hk;have hS2:SR X P A W fl m (ps1.put o.dst .undef) (ts.put o.dst .undef):=by
     refine⟨hS1.st.put trivial,hS.own,fun b hb=>?_,?_⟩
     .rw[A8.2]at hb;exact hS.ws b hb
     .rw[A8.1];exact hS.fl
    obtain⟨ts3,is,pis,ps3,an3,m3,g1,g2,g3,g4,g5,g6,g7⟩:=a0F hX hO (os:=os) hS2 hk;rw[A8.1]at g4 g6;refine⟨ts3,dn::is,_,ps3,an3,m3,?_,g2,g3,g4,g5,.cons hS.st.heap.nodup (fun b hb=>hS.st.heap.inb hb) .none .refl .refl (fun _ i _ hg=>hg) g6,by simp[g7]⟩;simp only[lU,hd,hw,g1];rfl
def dS(X:mV)(P:LI1)(T:vH)(call:dO)(L f:Nat)(iy:Bool)(nt B:Nat)(c:Code)(ps:bV X.Γ)(e:Ex)(ps1:bV X.Γ):Prop:=
 ∀(A W:Nat->Prop) (fl:Nat) (m:List MB) (ts:St),SR X P A W fl m ps ts->∃iV m1,exec P T call L f iy fl nt c ts=some (e,iV)/\SR X P A W fl m1 ps1 iV/\Fr m ts.heap m1 iV.heap/\Ob B m m1
theorem wB.pick{ps ts}(hR:wB X P A m ps ts)(live):wB X P A m { ps with env:=jF live ps.env } { ts with env:=Tw.pick live ts.env }:=
 ⟨hR.heap,hR.llen,hR.loc,VK hR.env live⟩
theorem SR.pick{fl ps ts}(hS:SR X P A W fl m ps ts)(live):SR X P A W fl m { ps with env:=jF live ps.env } { ts with env:=Tw.pick live ts.env }:=⟨hS.st.pick live,hS.own,hS.ws,hS.fl⟩
theorem SR.head{fl ps ts}(hS:SR X P A W fl m ps ts)(live):SR X P A W fl m (gY X live ps) (kN live ts):=by
 have h1:=hS.pick live;have ht:=afV h1.st.env;refine⟨⟨h1.st.heap,?_,fun k cs hk=>?_,h1.st.env⟩,h1.own,h1.ws,h1.fl⟩
 .simp only[gY,kN,a4t];have:=h1.st.llen;simp only at this ht;omega
 simp only[gY,kN]at hk ⊢;rw[a5H]at hk;split at hk
 .rename_i aQ;obtain⟨cs',g1,g2⟩:=h1.st.loc k cs hk;refine⟨cs',?_,g2⟩;rw[a5H,a1e (by simp only at ht;omega)];exact g1
 cases hk
theorem VQ{g}:∀{k j} {s} {r},iter g k s=some r->k<=j->iter g j s=some r
 | 0,_,s,r,h,_=>by simp[iter]at h
 |k+1,j,s,r,h,hj=>by
  obtain⟨j,rfl⟩:∃i,j=i+1:=⟨j-1,by omega⟩;simp only[iter]at h ⊢;split at h
  .rename_i s1 hs;exact VQ h (by omega)
  rename_i hn;exact h
section
variable{L f:Nat}{iy:Bool}{nt B:Nat}
theorem NU(hX:bT X P){c A W fl m ps ts k}(hS:SR X P A W fl m ps ts):∀{an},(zC X (dS X P T call L f iy nt B) B c ps k an).Ends y ->∃e iV ps1 J7 m1,exec P T call L f iy fl nt c ts=some (e,iV)/\(k e ps1 J7).Ends y/\SR X P A W fl m1 ps1 iV/\Fr m ts.heap m1 iV.heap/\Ob B m m1:=by
 intro an
 induction an with
 |a x r=>
  intro hk;cases x with
  |loop e s'=>
   simp only[zC]at hk;obtain⟨Iu,hk⟩:=hk;obtain⟨iV,m1,h1,h2,h3,h4⟩:=Iu A W fl m ts hS;exact⟨_,iV,_,_,m1,h1,hk,h2,h3,h4⟩
  |lg gs e s'=>
   simp only[zC]at hk;split at hk
   .rename_i hgs;obtain⟨Iu,hk⟩:=hk;obtain⟨m0,e1,e2,e3⟩:=nO hX hgs A W fl m ts hS;obtain⟨iV,m1,h1,h2,h3,h4⟩:=Iu A W fl m0 ts e1;exact⟨_,iV,_,_,m1,h1,hk,h2,e2.trans h3,e3.trans h4⟩
   .exact hk.elim
  |_=>simp only[zC]at hk;exact hk.elim
 |z c' a b iha ihb=>
  intro hk;simp only[zC]at hk;rcases hk with⟨_,hk⟩|⟨_,hk⟩
  .exact iha hk
  .exact ihb hk
 |_=>intro hk;simp only[zC]at hk;exact hk.elim
theorem wP(hX:bT X P)(hO:jT X P call gq):∀(c) {A W} {fl} {m} {ps} {ts} {an} {k},SR X P A W fl m ps ts->(jY X P T gq (dK X P call) (dS X P T call L f iy nt B) B L f iy nt c ps an k).Ends y ->∃e iV ps1 J7 m1,exec P T call L f iy fl nt c ts=some (e,iV)/\(k e ps1 J7).Ends y/\SR X P A W fl m1 ps1 iV/\Fr m ts.heap m1 iV.heap/\Ob B m m1:=by
 intro c
 induction c with
 |skip=>intro A W fl m ps ts an k hS hk;exact⟨.norm,ts,ps,an,m,rfl,hk,hS,.refl,.refl⟩
 |label=>intro A W fl m ps ts an k hS hk;exact⟨.norm,ts,ps,an,m,rfl,hk,hS,.refl,.refl⟩
 |exit id=>intro A W fl m ps ts an k hS hk;exact⟨.exit id,ts,ps,an,m,rfl,hk,hS,.refl,.refl⟩
 |ret=>intro A W fl m ps ts an k hS hk;exact⟨.ret,ts,ps,an,m,rfl,hk,hS,.refl,.refl⟩
 |region id ops draw=>
  intro A W fl m ps ts an k hS hk;simp only[jY]at hk;obtain⟨iV,is,pis,ps1,Nv,m1,g1,hk,g3,g4,g5,g6,g7⟩:=a0F hX hO hS hk;have fin:∀{an2:PT X.Γ},(!draw||(o7 ops.toList&&Ce is (nH ops.toList)))=true->(k .norm { ps1 with env:=jF (T.iL f id) ps1.env } an2).Ends y->∃e iV ps1 J7 m1,exec P T call L f iy fl nt (.region id ops draw) ts=some (e,iV)/\(k e ps1 J7).Ends y/\SR X P A W fl m1 ps1 iV/\Fr m ts.heap m1 iV.heap/\Ob B m m1:=by intro an2 hc hk;exact⟨.norm,{ iV with env:=Tw.pick (T.iL f id) iV.env },_,an2,m1,by simp only[exec,g1,hc,a2p],hk,g3.pick _,g4,g5.b⟩
  cases draw with
  |false=>exact fin rfl hk
  |true=>
   simp only at hk;split at hk
   .rename_i r;split at hk
    .rename_i AY;obtain⟨vK,hk⟩:=hk;refine fin ?_ hk;rw[vK];simp only[aah,agp,aeL];refine U9 (fun t ht=>?_) fun q hq=>by rw[g7];exact agj q hq
     have key:∀{ps:List PI} {ts:List yH} {m:List MB} {h:List HB},IRs m h ps ts->(ps.all fun i=>i.i.ws.isEmpty&&!i.wall)=true->∀t∈ts,t.ws=[]:=by
      intro ps ts m h hI
      induction hI with
      |nil=>intro _ t ht;cases ht
      |cons _ _ i1 _ _ _ _ ih=>
       intro ha t ht;simp only[acp,a2n,List.isEmpty_iff,a6A]at ha;rcases a1E.1 ht with rfl|ht
       .refine a6W.2 fun x hx=>?_;cases x with
        |l j=>have:=i1.wl j hx;rw[ha.1.1]at this;cases this
        |h b=>
         rcases i1.wh b hx with⟨i,h1,_⟩|⟨h1,_⟩
         .rw[ha.1.1]at h1;cases h1
         .rw[ha.1.2]at h1;cases h1
       .exact ih ha.2 t ht
     exact key g6 AY t ht
    .exact hk.elim
   .split at hk
    .rename_i hc;simp only[a2n]at hc;refine fin ?_ hk;rw[hc.1,a7K g6 agi hc.2];rfl
    .exact hk.elim
 |seq a b iha ihb=>
  intro A W fl m ps ts an k hS hk;simp only[jY]at hk;obtain⟨e,iV,ps1,Nv,m1,h1,hk,h3,h4,h5⟩:=iha hS hk;cases e with
  |norm=>
   obtain⟨e2,ts2,Dy,an2,m2,g1,g2,g3,g4,g5⟩:=ihb h3 hk;exact⟨e2,ts2,Dy,an2,m2,by simp only[exec,h1,g1],g2,g3,h4.trans g4,h5.trans g5⟩
  |exit id=>exact⟨_,iV,ps1,Nv,m1,by simp only[exec,h1],hk,h3,h4,h5⟩
  |ret=>exact⟨_,iV,ps1,Nv,m1,by simp only[exec,h1],hk,h3,h4,h5⟩
 |cond c a b iha ihb=>
  intro A W fl m ps ts an k hS hk;simp only[jY]at hk;split at hk
  .rename_i u hu;obtain⟨tu,h1,h2⟩:=XW hS.st.env hu;obtain⟨t,J7,rfl,hk⟩:=a0y hk h2;cases t with
   |true=>
    obtain⟨e,iV,ps1,Nv,m1,g1,g2,g3,g4,g5⟩:=iha (hS.CX h1) hk;exact⟨e,iV,ps1,Nv,m1,by simp only[exec,h1,g1],g2,g3,g4,g5⟩
   |false=>
    obtain⟨e,iV,ps1,Nv,m1,g1,g2,g3,g4,g5⟩:=ihb (hS.CX h1) hk;exact⟨e,iV,ps1,Nv,m1,by simp only[exec,h1,g1],g2,g3,g4,g5⟩
  .exact hk.elim
 |block id b ih=>
  intro A W fl m ps ts an k hS hk;simp only[jY]at hk;obtain⟨e,iV,ps1,Nv,m1,h1,hk,h3,h4,h5⟩:=ih hS hk;cases e with
  |norm=>exact⟨_,iV,ps1,Nv,m1,by simp only[exec,h1],hk,h3,h4,h5⟩
  |ret=>exact⟨_,iV,ps1,Nv,m1,by simp only[exec,h1],hk,h3,h4,h5⟩
  |exit i=>exact⟨_,iV,ps1,Nv,m1,by simp only[exec,h1],hk,h3,h4,h5⟩
 |scope b ih=>
  intro A W fl m ps ts an k hS hk;simp only[jY]at hk;obtain⟨e,iV,ps1,Nv,m1,h1,hk,h3,h4,h5⟩:=ih hS hk;exact⟨e,iV,ps1,Nv,m1,by simp only[exec,h1],hk,h3,h4,h5⟩
 |loop b ih=>
  intro A W fl m ps ts an k hS hk;simp only[jY]at hk;split at hk
  .rename_i j r;obtain⟨hj,hk⟩:=hk;have go:∀(j:Nat) {m:List MB} {ps:bV X.Γ} {ts:St} {an:PT X.Γ},SR X P A W fl m ps ts->(VH X (fun s an k=>jY X P T gq (dK X P call) (dS X P T call L f iy nt B) B L f iy nt b (gY X (T.eY f (dZ b)) s) an k) j ps an k).Ends y ->
     ∃e iV ps1 J7 m1,iter (fun s=>exec P T call L f iy fl nt b (kN (T.eY f (dZ b)) s)) j ts=some (e,iV)/\(k e ps1 J7).Ends y/\SR X P A W fl m1 ps1 iV/\Fr m ts.heap m1 iV.heap/\Ob B m m1:=by
    intro j
    induction j with
    |zero=>intro m ps ts an _ hk;exact hk.elim
    |succ j ihj=>
     intro m ps ts an hS hk;simp only[VH]at hk;obtain⟨e,iV,ps1,Nv,m1,h1,hk,h3,h4,h5⟩:=ih (hS.head _) hk;cases e with
     |norm=>
      obtain⟨e2,ts2,Dy,an2,m2,g1,g2,g3,g4,g5⟩:=ihj h3 hk;exact⟨e2,ts2,Dy,an2,m2,by simp only[iter,h1,g1],g2,g3,h4.trans g4,h5.trans g5⟩
     |exit id=>exact⟨_,iV,ps1,Nv,m1,by simp only[iter,h1],hk,h3,h4,h5⟩
     |ret=>exact⟨_,iV,ps1,Nv,m1,by simp only[iter,h1],hk,h3,h4,h5⟩
   obtain⟨e,iV,ps1,Nv,m1,h1,h2,h3,h4,h5⟩:=go j hS hk;exact⟨e,iV,ps1,Nv,m1,by simp only[exec];exact VQ h1 hj,h2,h3,h4,h5⟩
  .exact NU hX hS hk
 |rangeFunc g qs vY body iha ihb=>
  intro A W fl m ps ts an k hS hk;simp only[jY]at hk;exact NU hX hS hk
 |_=>intro A W fl m ps ts an k hS hk;simp only[jY]at hk;exact hk.elim
end
end
section
variable{X:mV}{P:LI1}{T:vH}{A W:Nat->Prop}{m m':List MB}
variable{call:dO}{gq:gZ X.Γ}{L:Nat}
def Df(P:LI1)(f:Nat):Nat:=match V3 P f with
 |some t=>t.nt
 |none=>0
abbrev CG(X:mV)(P:LI1)(T:vH)(call:dO)(L f B:Nat):a2f X.Γ:=dS X P T call L f false (Df P f) B
theorem Oc{A h}:∀{k} {vs} {xs:List TV},bZ X P A m h vs xs->kJ X P A m h (lT X k vs) (o8 k xs)
 |k,[],xs,hv=>by rw[hv.inv0];exact .nil
 |k,v::vs,xs,hv=>by obtain⟨x,r,rfl,h1,h2⟩:=hv.inv;exact .cons h1 (Oc h2)
theorem Kr(hX:bT X P){ps ts}(hR:wB X P A m ps ts):∀{rs} {vs},Gt X P ps rs=some vs->∃ws,yJ P ts rs=some ws/\bZ X P (AA A m) m ts.heap vs ws
 | [],vs,h=>by simp only[Gt,a09]at h;subst h;exact⟨[],rfl,.nil⟩
 |r::rs,vs,h=>by
  simp only[Gt]at h;split at h
  rotate_left
  .cases h
  rename_i v vs' h1 h2;cases h;obtain⟨ws,g1,g2⟩:=Kr hX hR h2;have:∃w,a6e P ts r=some w/\VR X P (AA A m) m ts.heap v w:=by
   unfold ajR at h1;unfold a6e;split at h1
   .rename_i t;split at h1
    .rename_i u hu;cases h1;obtain⟨ev,e1,e2⟩:=pq hR.env hu;obtain⟨w,rfl,e3⟩:=gJ e2;exact⟨w,by simp only[e1],IV e3⟩
    cases h1
   rename_i a t;split at h1
   .rename_i pa ha;simp only[a0A]at h1;obtain⟨⟨u,i⟩,e1,rfl⟩:=h1;obtain⟨ev,e2,e3⟩:=pq hR.env ha;obtain⟨w,ti,e4,e5,_,_⟩:=Ih hX hR e3 e1;exact⟨w,by simp only[e2,e4,a1n],e5⟩
   cases h1
  obtain⟨w,g3,g4⟩:=this;exact⟨w::ws,by simp only[yJ,g3,g1],.cons g4 g2⟩
theorem VT{A h vs ws}(hv:bZ X P A m h vs ws):VR X P A m h (a0s X vs) (one ws):=by
 match vs,ws,hv with
 | [],ws,hv=>rw[hv.inv0];exact .dM rfl (by simp)
 | [v],ws,hv=>
  obtain⟨x,r,rfl,h1,h2⟩:=hv.inv;have:=h2.inv0;subst this;exact h1
 |v::u::vs,ws,hv=>
  obtain⟨x,r,rfl,h1,h2⟩:=hv.inv;obtain⟨z,r,rfl,h3,h4⟩:=h2.inv;exact .dM hv.1 hv.2
theorem a7N(hX:bT X P)(hO:jT X P call gq){f vs H an v H1}(hk:(DV X P T gq (dK X P call) (CG X P T call L f H.length) L f vs H an).Ends (v,H1)){h} (hr:HR X P A m H h) {xs} (hv:bZ X P (AA A m) m h vs xs):∃w h1 ws m1,Nr P T call L f xs h=some (w,h1,ws)/\HR X P A m1 H1 h1/\VR X P (AA A m1) m1 h1 v w/\Fr m h m1 h1/\Ob H.length m m1/\(∀b∈ws,b∈aZ m)/\¬(T.exts.contains f||T.dem.contains f)=true:=by
 unfold DV at hk;split at hk
 .rename_i t ht;have hnx:¬(T.exts.contains f||T.dem.contains f)=true:=fun hx=>by rw[a1e hx]at ht;cases ht
  rw[a18 hnx]at ht;have hnt:Df P f=t.nt:=by unfold Df;rw[ht]
  have hS:SR X P A (fun b=>b∈aZ m) h.length m ⟨lT X 0 vs,[],H⟩ ⟨o8 0 xs,[],h,[]⟩:=
   ⟨⟨hr,rfl,fun k cs hk=>by simp at hk,Oc hv⟩,fun b hb=>.inl hb,fun b hb=>(by cases hb),a1l _⟩
  rw[show CG X P T call L f H.length=dS X P T call L f false t.nt H.length by unfold CG;rw[hnt]]at hk;obtain⟨e,iV,ps1,Nv,m1,h1,hk,h3,h4,h5⟩:=wP hX hO t.body hS hk;have fin:∀{e:Ex},exec P T call L f false h.length t.nt t.body ⟨o8 0 xs,[],h,[]⟩=some (e,iV)->(e=.norm\/e=.ret)->∀{us:List (PV X.Γ)},Gt X P ps1 t.results=some us->(a0s X us,ps1.heap)=(v,H1)->∃w h1 ws m1,Nr P T call L f xs h=some (w,h1,ws)/\HR X P A m1 H1 h1/\VR X P (AA A m1) m1 h1 v w/\Fr m h m1 h1/\Ob H.length m m1/\(∀b∈ws,b∈aZ m)/\¬(T.exts.contains f||T.dem.contains f)=true:=by intro e he hee us hus hv;cases hv;obtain⟨ws,g1,g2⟩:=Kr hX h3.st hus;refine⟨one ws,iV.heap,iV.ws,m1,?_,h3.st.heap,VT g2,h4,h5,h3.ws,hnx⟩;unfold Nr;rcases hee with rfl|rfl<;>simp only[ht,he,g1]
  cases e with
  |exit id=>exact hk.elim
  |norm=>
   cases Nv with
   |n=>
    simp only at hk;split at hk
    .rename_i us hus;exact fin h1 (.inl rfl) hus hk
    .exact hk.elim
   |_=>exact hk.elim
  |ret=>
   cases Nv with
   |n=>
    simp only at hk;split at hk
    .rename_i us hus;exact fin h1 (.inr rfl) hus hk
    .exact hk.elim
   |_=>exact hk.elim
 .exact hk.elim
theorem a0G(hX:bT X P){n f}(hn:0<n)(hO:jT X P (kW P T L (n-1)) gq){vs an v ext}(hk:(DV X P T gq (dK X P (kW P T L (n-1))) (CG X P T (kW P T L (n-1)) L f 0) L f vs [] an).Ends (v,ext)):nI X P (kW P T L n) f vs v ext:=by
 intro A h first args cap Gl hv
 have hr:HR X P A [] [] h:=⟨rfl,fun i b hb=>by simp at hb,by simp[aZ],Gl,fun b hb=>by simp[aZ]at hb⟩;obtain⟨w,h1,ws,m1,g1,g2,g3,g4,_,g6,g7⟩:=a7N hX hO (H:=[]) hk hr (hv.mono fun b hb=>⟨hb,by simp[aZ]⟩);obtain⟨n,rfl⟩:∃j,n=j+1:=⟨n-1,by omega⟩;have:ws=[]:=a6W.2 fun x hx=>by have:=g6 x hx;simp[aZ]at this
 subst this;exact⟨w,h1,m1,by simp only[kW];simp only[aam,adl]at g7;rw[a18 g7.1,a18 g7.2];exact g1,g2,g3,g4⟩
theorem a7O(hX:bT X P){n f}(hn:0<n)(hO:jT X P (kW P T L (n-1)) gq){first xs cap H H1 an v}(hk:(DV X P T gq (dK X P (kW P T L (n-1))) (CG X P T (kW P T L (n-1)) L f H.length) L f (first++xs++cap) H an).Ends (v,H1)):dK X P (kW P T L n) (.fn f first cap) xs H v H1:=by
 intro A m h tf rH hr hf hx;obtain⟨n,rfl⟩:∃j,n=j+1:=⟨n-1,by omega⟩;cases hf with
 |gone hi _ _=>simp[bf]at hi
 |fn p1 p2 p3 p4=>
  obtain⟨w,h1,ws,m1,g1,g2,g3,g4,g5,g6,g7⟩:=a7N hX hO hk hr ((bZ.app ⟨p1,p2⟩ hx).app ⟨p3,p4⟩);refine⟨w,h1,ws,m1,by simp only[kW];simp only[aam,adl]at g7;rw[a18 g7.1,a18 g7.2];exact g1,g2,g3,g4,fun i mb hi=>g5 i mb ?_ hi,g6⟩;rw[<-hr.len];exact(a0x.1 hi).1
def agq:Ex->bV X.Γ->PT X.Γ->OT (Ex×bV X.Γ):=fun e s an=>match an with
 |.n=>.ret (e,s)
 |_=>.bad
section
variable{f nt B:Nat}{iy:Bool}
theorem Y9(hX:bT X P)(hO:jT X P call gq){c ps an e ps1}(hk:(jY X P T gq (dK X P call) (dS X P T call L f iy nt B) B L f iy nt c ps an agq).Ends (e,ps1)):dS X P T call L f iy nt B c ps e ps1:=by
 intro A W fl m ts hS;obtain⟨e1,iV,Dy,Nv,m1,h1,h2,h3,h4,h5⟩:=wP hX hO c hS hk;cases Nv with
 |n=>cases h2;exact⟨iV,m1,h1,h3,h4,h5⟩
 |_=>exact h2.elim
end
end
def OT.map{ρ σ}(f:ρ->σ):OT ρ->OT σ
 |.bad=>.bad
 |.ret r=>.ret (f r)
 |.o p r=>.o p (r.map f)
 |.br c t e=>.br c (t.map f) (e.map f)
theorem OT.J8{ρ σ}{f:ρ->σ}{y}:∀{o:OT ρ},(o.map f).Ends y->∃r,o.Ends r/\f r=y
 |.bad,h=>h.elim
 |.ret r,h=>⟨r,rfl,h⟩
 |.o p r,h=>by obtain⟨x,h1,h2⟩:=OT.J8 h.2;exact⟨x,⟨h.1,h1⟩,h2⟩
 |.br c t e,h=>by
  rcases h with⟨h0,h⟩|⟨h0,h⟩
  .obtain⟨x,h1,h2⟩:=OT.J8 h;exact⟨x,.inl ⟨h0,h1⟩,h2⟩
  obtain⟨x,h1,h2⟩:=OT.J8 h;exact⟨x,.inr ⟨h0,h1⟩,h2⟩
inductive Fp{Γ:Nat->Type}{ρ:Type}(R:ρ->Prop):PT Γ->OT ρ->Prop where
 |r {v:ρ} (h:R v):Fp R .n (.ret v)
 |g {v:ρ} (gs:List G) (h:R v):Fp R (.a (.lg gs .norm ⟨[],[],[]⟩) .n) (.ret v)
 |o {p:Prop} {an:PT Γ} {o:OT ρ} (h:p) (f:Fp R an o):Fp R an (.o p o)
 |s {c:Bool} {a b:PT Γ} {x y:OT ρ} (f:c=true->Fp R a x) (g:c=false->Fp R b y):Fp R (.s a b) (.br c x y)
 |z {c:Bool} {a b:PT Γ} {x y:OT ρ} (f:c=true->Fp R a x) (g:c=false->Fp R b y):Fp R (.z c a b) (.br c x y)
 |b {c t:Bool} {an:PT Γ} {o:OT ρ} (h:c=t) (f:Fp R an o):Fp R (.a (.br t) an) (.o (c=t) o)
 |q {p:Prop} {an:PT Γ} {o:OT ρ} (w:TV) (h:p) (f:Fp R an o):Fp R (.a (.rd w) an) (.o p o)
 |c {p:Prop} {an:PT Γ} {o:OT ρ} (v:PV Γ) (H:List (PB Γ)) (h:p) (f:Fp R an o):Fp R (.a (.call v H) an) (.o p o)
 |kf {p:Prop} {an:PT Γ} {o:OT ρ} (ks:List Nat) (v:PV Γ) (H:List (PB Γ)) (h:p) (f:Fp R an o):Fp R (.a (.fr ks v H) an) (.o p o)
 |kg {p:Prop} {an:PT Γ} {o:OT ρ} (ks rs:List Nat) (v:PV Γ) (H:List (PB Γ)) (h:p) (f:Fp R an o):Fp R (.a (.RH ks rs v H) an) (.o p o)
 |l {p:Prop} {an:PT Γ} {o:OT ρ} (gs:List G) (e:Ex) (s:bV Γ) (h:p) (f:Fp R an o):Fp R (.a (.lg gs e s) an) (.o p o)
 |f {p:Prop} {an:PT Γ} {o:OT ρ} (e:Ex) (s:bV Γ) (h:p) (f:Fp R an o):Fp R (.a (.loop e s) an) (.o p o)
 |m {p:Prop} {an:PT Γ} {o:OT ρ} (k:Nat) (h:p) (f:Fp R an o):Fp R (.l k an) (.o p o)
 |a {an:PT Γ} {o:OT ρ} (x:PA Γ) (f:Fp R an o):Fp R (.a x an) o
theorem Fp.aK{Γ ρ}{R:ρ->Prop}{an:PT Γ}{o}(h:Fp R an o):∃y,o.Ends y/\R y:=by
 induction h with
 |r h=>exact⟨_,rfl,h⟩
 |g _ h=>exact⟨_,rfl,h⟩
 |s _ _ i1 i2=>
  rename_i c _ _ _ _ _ _;cases c with
  |true=>obtain⟨y,h1,h2⟩:=i1 rfl;exact⟨y,.inl ⟨rfl,h1⟩,h2⟩
  |false=>obtain⟨y,h1,h2⟩:=i2 rfl;exact⟨y,.inr ⟨rfl,h1⟩,h2⟩
 |z _ _ i1 i2=>
  rename_i c _ _ _ _ _ _;cases c with
  |true=>obtain⟨y,h1,h2⟩:=i1 rfl;exact⟨y,.inl ⟨rfl,h1⟩,h2⟩
  |false=>obtain⟨y,h1,h2⟩:=i2 rfl;exact⟨y,.inr ⟨rfl,h1⟩,h2⟩
 |a _ _ i=>exact i
 |o h _ i=>obtain⟨y,h1,h2⟩:=i;exact⟨y,⟨h,h1⟩,h2⟩
 |b h _ i=>obtain⟨y,h1,h2⟩:=i;exact⟨y,⟨h,h1⟩,h2⟩
 |q _ h _ i=>obtain⟨y,h1,h2⟩:=i;exact⟨y,⟨h,h1⟩,h2⟩
 |c _ _ h _ i=>obtain⟨y,h1,h2⟩:=i;exact⟨y,⟨h,h1⟩,h2⟩
 |kg _ _ _ _ h _ i=>obtain⟨y,h1,h2⟩:=i;exact⟨y,⟨h,h1⟩,h2⟩
 |kf _ _ _ h _ i=>obtain⟨y,h1,h2⟩:=i;exact⟨y,⟨h,h1⟩,h2⟩
 |l _ _ _ h _ i=>obtain⟨y,h1,h2⟩:=i;exact⟨y,⟨h,h1⟩,h2⟩
 |f _ _ h _ i=>obtain⟨y,h1,h2⟩:=i;exact⟨y,⟨h,h1⟩,h2⟩
 |m _ h _ i=>obtain⟨y,h1,h2⟩:=i;exact⟨y,⟨h,h1⟩,h2⟩
section
variable{X:mV}{P:LI1}{T:vH}{L:Nat}
def frz(r:PV X.Γ×List (PB X.Γ)):Option (PV X.Γ):=view r.2 r.1
theorem Ya(hX:bT X P){call f vs v w ext}(hc:nI X P call f vs v ext)(hw:view ext v=some w):nI X P call f vs w []:=by
 intro A h first args cap Gl hv
 obtain⟨x,h',m',c1,c2,c3,c4⟩:=hc A h first args cap Gl hv
 refine⟨x,h',[],c1,⟨rfl,fun i b hb=>by simp at hb,by simp[aZ],c2.up,fun b hb=>by simp[aZ]at hb⟩,?_,?_⟩
 .refine(VL (m':=[]) hX c2 c3 hw (is:=lN v) fun i hi=>hi).mono fun b hb=>⟨?_,by simp[aZ]⟩;rcases hb with hb|⟨i,mb,h1,h2,h3⟩
  .exact hb.1
  exact c2.DX b (aY h2 h3)
 exact⟨c4.len,fun b hb hn=>c4.same b hb hn,fun b hb=>by simp[aZ]at hb,c4.grow⟩
def agr(hd:bV X.Γ->bV X.Γ)(B:Nat):Ex->bV X.Γ->PT X.Γ->OT (Ex×bV X.Γ):=fun e s an=>match an with
 |.n=>match e with
  |.norm=>.ret (.norm,hd s)
  |e=>.ret (e,s)
 |.a (.lg gs _ _) .n=>match e with
  |.norm=>match lZ B gs (hd s)with
   |some s=>.ret (.norm,s)
   |none=>.bad
  |e=>match lZ B gs s with
   |some s=>.ret (e,s)
   |none=>.bad
 |_=>.bad
section
variable{f nt B:Nat}{iy:Bool}{call:dO}{gq:gZ X.Γ}
def dP(X:mV)(P:LI1)(T:vH)(call:dO)(L f:Nat)(iy:Bool)(nt B:Nat)(b:Code)(n:Nat)(ps:bV X.Γ)(e:Ex)(ps1:bV X.Γ):Prop:=
 ∀(A W:Nat->Prop) (fl:Nat) (m:List MB) (ts:St),SR X P A W fl m ps (kN (T.eY f (dZ b)) ts)->∃iV m1,iter (fun s=>exec P T call L f iy fl nt b (kN (T.eY f (dZ b)) s)) n ts=some (e,iV)/\SR X P A W fl m1 ps1 iV/\Fr m ts.heap m1 iV.heap/\Ob B m m1
theorem VU{b n k ps e ps1}(h:dP X P T call L f iy nt B b n ps e ps1)(hk:n<=k):dP X P T call L f iy nt B b k ps e ps1:=fun A W fl m ts hS=>by obtain⟨iV,m1,h1,h2⟩:=h A W fl m ts hS;exact⟨iV,m1,VQ h1 hk,h2⟩
theorem Aa{b n s0 ps e ps1}(h:dP X P T call L f iy nt B b n ps e ps1)(h0:gY X (T.eY f (dZ b)) s0=ps)(hn:n<=L):dS X P T call L f iy nt B (.loop b) s0 e ps1:=fun A W fl m ts hS=>by obtain⟨iV,m1,h1,h2⟩:=VU h hn A W fl m ts (by rw[<-h0];exact hS.head _);exact⟨iV,m1,by simp only[exec];exact h1,h2⟩
def Rnd(X:mV)(P:LI1)(T:vH)(call:dO)(L f:Nat)(iy:Bool)(nt B:Nat)(b:Code)(n:Nat)(e:Ex)(s:bV X.Γ):Ex×bV X.Γ->Prop
 |(.norm,s')=>dP X P T call L f iy nt B b n s' e s
 |(e',s')=>e'=e/\s'=s
theorem a2v{b n e e' s s'}(hn:e'≠.norm)(h:Rnd X P T call L f iy nt B b n e s (e',s')):e'=e/\s'=s:=by
 cases e' with
 |norm=>exact absurd rfl hn
 |exit id=>exact h
 |ret=>exact h
theorem round(hX:bT X P)(hO:jT X P call gq){b n ps an e s o}(hk:jY X P T gq (dK X P call) (dS X P T call L f iy nt B) B L f iy nt b ps an (agr (gY X (T.eY f (dZ b))) B)=o) (ht:Fp (Rnd X P T call L f iy nt B b n e s) an o):dP X P T call L f iy nt B b (n+1) ps e s:=by
 obtain⟨⟨e',s'⟩,h1,h2⟩:=ht.aK;rw[<-hk]at h1;intro A W fl m ts hS;obtain⟨e1,iV,Dy,Nv,m1,g1,g2,g3,g4,g5⟩:=wP hX hO b hS h1;have out:∀{e1:Ex} {m2:List MB},exec P T call L f iy fl nt b (kN (T.eY f (dZ b)) ts)=some (e1,iV)->e1≠.norm->e1=e/\s'=s->SR X P A W fl m2 s' iV->Fr m ts.heap m2 iV.heap->Ob B m m2->∃iV m1,iter (fun s=>exec P T call L f iy fl nt b (kN (T.eY f (dZ b)) s)) (n+1) ts=some (e,iV)/\SR X P A W fl m1 s iV/\Fr m ts.heap m1 iV.heap/\Ob B m m1:=by
  intro e1 m2 ge hn hh q1 q2 q3;obtain⟨rfl,rfl⟩:=hh;refine⟨iV,m2,?_,q1,q2,q3⟩;cases e1 with
  |norm=>exact absurd rfl hn
  |exit id=>simp only[iter,ge]
  |ret=>simp only[iter,ge]
 have on:∀{m2:List MB},exec P T call L f iy fl nt b (kN (T.eY f (dZ b)) ts)=some (.norm,iV)->SR X P A W fl m2 s' (kN (T.eY f (dZ b)) iV)->Fr m ts.heap m2 iV.heap->Ob B m m2->dP X P T call L f iy nt B b n s' e s->∃iV m1,iter (fun s=>exec P T call L f iy fl nt b (kN (T.eY f (dZ b)) s)) (n+1) ts=some (e,iV)/\SR X P A W fl m1 s iV/\Fr m ts.heap m1 iV.heap/\Ob B m m1:=by intro m2 ge q1 q2 q3 hr;obtain⟨ts2,m3,r1,r2,r3,r4⟩:=hr A W fl m2 iV q1;exact⟨ts2,m3,by simp only[iter,ge,r1],r2,q2.trans r3,q3.trans r4⟩
 unfold agr at g2;split at g2
 .split at g2
  .cases g2;exact on g1 (g3.head _) g4 g5 h2
  .rename_i e1 iI;cases g2;exact out g1 (fun h=>iI h) (a2v (fun h=>iI h) h2) g3 g4 g5
 .split at g2
  .split at g2
   .rename_i hg;cases g2;obtain⟨m2,q1,q2,q3⟩:=nO hX hg _ _ _ _ _ (g3.head _);exact on g1 q1 (g4.trans q2) (g5.trans q3) h2
   .exact g2.elim
  .rename_i e1 iI;split at g2
   .rename_i hg;cases g2;obtain⟨m2,q1,q2,q3⟩:=nO hX hg _ _ _ _ _ g3;exact out g1 (fun h=>iI h) (a2v (fun h=>iI h) h2) q1 (g4.trans q2) (g5.trans q3)
   .exact g2.elim
 .exact g2.elim
end
structure Ar(X:mV)(P:LI1)(α:Type) where
 put:α->PV X.Γ
 get:PV X.Γ->Option α
 ok:∀{v:PV X.Γ} {a:α},get v=some a->∀{A:Nat->Prop} {m:List MB} {h:List HB} {x:TV},VR X P A m h v x->VR X P A m h (put a) x
structure ArL(X:mV)(P:LI1)(α:Type) where
 put:α->List (PV X.Γ)
 get:List (PV X.Γ)->Option α
 ok:∀{v:List (PV X.Γ)} {a:α},get v=some a->∀{A:Nat->Prop} {m:List MB} {h:List HB} {x:List TV},bZ X P A m h v x->bZ X P A m h (put a) x
def ags(k:IntKind):Ar X P Int where
 put n:=.int k n
 get v:=match v with
  |.int k' n=>if k'=k then some n else none
  |_=>none
 ok:=by
  intro v a hg A m h x hv;split at hg
  .split at hg
   .rename_i e;subst e;cases hg;exact hv
   .cases hg
  .cases hg
def akf:Ar X P Bool where
 put n:=.bool n
 get v:=match v with
  |.bool n=>some n
  |.lit n=>some n
  |_=>none
 ok:=by
  intro v a hg A m h x hv;split at hg
  .cases hg;exact hv
  .cases hg;exact IV hv
  .cases hg
theorem VR.less{A m h t l fu x}(hv:VR X P A m h (.dD t l fu) x):VR X P A m h (.dD t l false) x:=by
 cases hv with
 |gone hi _ _=>simp[bf]at hi
 |ql=>exact .ql
 |dD a c c2 s z o k f e r=>exact .dD a c c2 s z o k (fun h=>by cases h) e r
def a7P(t:Nat):Ar X P (List (X.Γ t)) where
 put l:=.dD t l false
 get v:=match v with
  |.dD t' l _=>Cm t t' l
  |.nil .aO=>some []
  |_=>none
 ok:=by
  intro v a hg A m h x hv;split at hg
  .obtain⟨rfl,rfl⟩:=sF hg;exact hv.less
  .cases hg;cases hv with
   |nil=>exact .ql
   |gone hi _ _=>simp[bf]at hi
  .cases hg
def akg(hX:bT X P)(t:Nat):Ar X P (X.Γ t) where
 put a:=.agg (X.enc t a)
 get v:=match v with
  |.agg cs=>X.dec t cs
  |_=>none
 ok:=by
  intro v a hg A m h x hv;split at hg
  .cases hv with
   |gone hi _ _=>simp[bf]at hi
   |agg h1 h2=>obtain⟨h3,h4⟩:=hX.dec hg ⟨h1,h2⟩;exact .agg h3 h4
  .cases hg
def fnA(f:FuncId):Ar X P Unit where
 put _:=.fn f [] []
 get v:=match v with
  |.fn g [] []=>if g=f then some ()else none
  |_=>none
 ok:=by
  intro v a hg A m h x hv;split at hg
  .split at hg
   .rename_i e;subst e;exact hv
   .cases hg
  .cases hg
def agt:ArL X P Unit where
 put _:=[]
 get v:=match v with
  | []=>some ()
  |_=>none
 ok:=by
  intro v a hg A m h x hv;split at hg
  .exact hv
  .cases hg
def Nw{α β:Type}(a:Ar X P α)(l:ArL X P β):ArL X P (α×β) where
 put x:=a.put x.1::l.put x.2
 get v:=match v with
  |v::vs=>match a.get v,l.get vs with
   |some x,some y=>some (x,y)
   |_,_=>none
  |_=>none
 ok:=by
  intro v x hg A m h xs hv;split at hg
  .split at hg
   .rename_i e1 e2;cases hg;obtain⟨y,r,rfl,h1,h2⟩:=hv.inv;exact .cons (a.ok e1 h1) (l.ok e2 h2)
   .cases hg
  .cases hg
def akh{α:Type}(a:Ar X P α):ArL X P α where
 put x:=[a.put x]
 get v:=match v with
  | [v]=>a.get v
  |_=>none
 ok:=by
  intro v x hg A m h xs hv;split at hg
  .obtain⟨y,r,rfl,h1,h2⟩:=hv.inv;have:=h2.inv0;subst this;exact .cons (a.ok hg h1) .nil
  .cases hg
def dQ{α:Type}(l:ArL X P α):Ar X P α where
 put x:=.dM (l.put x)
 get v:=match v with
  |.dM cs=>l.get cs
  |_=>none
 ok:=by
  intro v x hg A m h xs hv;split at hg
  .cases hv with
   |gone hi _ _=>simp[bf]at hi
   |dM h1 h2=>obtain⟨h3,h4⟩:=l.ok hg ⟨h1,h2⟩;exact .dM h3 h4
  .cases hg
def a7Q{α:Type}(l:ArL X P α):Ar X P α where
 put x:=.agg (l.put x)
 get v:=match v with
  |.agg cs=>l.get cs
  |_=>none
 ok:=by
  intro v x hg A m h xs hv;split at hg
  .cases hv with
   |gone hi _ _=>simp[bf]at hi
   |agg h1 h2=>obtain⟨h3,h4⟩:=l.ok hg ⟨h1,h2⟩;exact .agg h3 h4
  .cases hg
def agu{α β:Type}(a:Ar X P α)(f:α->β)(g:β->α)(hgf:∀x,g (f x)=x):Ar X P β where
 put x:=a.put (g x)
 get v:=match a.get v with
  |some x=>some (f x)
  |none=>none
 ok:=by
  intro v x hg A m h xs hv;split at hg
  .rename_i y hy;cases hg;rw[hgf];exact a.ok hy hv
  .cases hg
def Good(X:mV)(P:LI1)(T:vH)(L:Nat)(gq:gZ X.Γ):Prop:=∃N,∀n,N<=n->jT X P (kW P T L n) gq
def abo:gZ X.Γ:=fun _ _=>none
def cu{α β}(f:FuncId)(a:ArL X P α)(r:Ar X P β)(S:α->β)(pre:α->List Prop)(gq:gZ X.Γ):gZ X.Γ:=fun g vs=>
 match Nat.beq g f with
 |true=>match a.get vs with
  |some x=>some (r.put (S x),[],pre x)
  |none=>gq g vs
 |false=>gq g vs
theorem Good.nil:Good X P T L (abo (X:=X)):=⟨0,fun n _ f vs v ext ps h=>by cases h⟩
theorem Good.add{α β f a}{r:Ar X P β}{S}{pre:α->List Prop}{gq:gZ X.Γ}(hg:Good X P T L gq)(hf:∀n,jT X P (kW P T L n) gq->∀x,(∀p∈pre x,p)->nI X P (kW P T L (n+1)) f (a.put x) (r.put (S x)) []):Good X P T L (cu f a r S pre gq):=by
 obtain⟨N,hN⟩:=hg;refine⟨N+1,fun n hn=>?_⟩;obtain⟨k,rfl⟩:∃k,n=k+1:=⟨n-1,by omega⟩;intro g vs v ext ps ho hp;unfold cu at ho;split at ho
 .rename_i e;have e:=aad e;subst e;split at ho
  .rename_i x hx;cases ho;intro A h first args cap Gl hv
   exact hf k (hN k (by omega)) x hp A h first args cap Gl (a.ok hx hv)
  .exact hN (k+1) (by omega) g vs v ext ps ho hp
 .exact hN (k+1) (by omega) g vs v ext ps ho hp
theorem Good.deep{α β f a}{r:Ar X P β}{S}{pre:α->List Prop}{gq:gZ X.Γ}(d:Nat)(hg:Good X P T L gq)(hf:∀n,d<=n->(∀m,n-d<=m->jT X P (kW P T L m) gq)->∀x,(∀p∈pre x,p)->nI X P (kW P T L (n+1)) f (a.put x) (r.put (S x)) []):Good X P T L (cu f a r S pre gq):=by
 obtain⟨N,hN⟩:=hg;refine⟨N+d+1,fun n hn=>?_⟩;obtain⟨k,rfl⟩:∃k,n=k+1:=⟨n-1,by omega⟩;intro g vs v ext ps ho hp;unfold cu at ho;split at ho
 .rename_i e;have e:=aad e;subst e;split at ho
  .rename_i x hx;cases ho;intro A h first args cap Gl hv
   exact hf k (by omega) (fun m hm=>hN m (by omega)) x hp A h first args cap Gl (a.ok hx hv)
  .exact hN (k+1) (by omega) g vs v ext ps ho hp
 .exact hN (k+1) (by omega) g vs v ext ps ho hp
def Is{β}(r:Ar X P β)(s:β):Option (PV X.Γ)->Prop:=fun v=>v=some (r.put s)\/∃w,v=some w/\r.get w=some s
theorem aki{β}(hX:bT X P){n f gq}(hO:jT X P (kW P T L n) gq){vs an}{r:Ar X P β}{s o}(hk:(DV X P T gq (dK X P (kW P T L n)) (CG X P T (kW P T L n) L f 0) L f vs [] an).map frz=o) (ht:Fp (Is r s) an o):nI X P (kW P T L (n+1)) f vs (r.put s) []:=
 by
 obtain⟨v,h1,h2⟩:=ht.aK;rw[<-hk]at h1;obtain⟨⟨v,H⟩,h3,rfl⟩:=OT.J8 h1;rcases h2 with h2|⟨w,h2,h4⟩
 .exact Ya hX (a0G hX (n:=n+1) (by omega) hO h3) h2
 .intro A h first args cap Gl hv
  obtain⟨x,h',m',c1,c2,c3,c4⟩:=Ya hX (a0G hX (n:=n+1) (by omega) hO h3) h2 A h first args cap Gl hv
  exact⟨x,h',m',c1,c2,r.ok h4 c3,c4⟩
theorem Fp.rr{β}{r:Ar X P β}{s}:Fp (Is r s) (.n:PT X.Γ) (.ret (some (r.put s))):=.r (.inl rfl)
theorem Fp.rn{β}{r:Ar X P β}{s}(w)(h:r.get w=some s):Fp (Is r s) (.n:PT X.Γ) (.ret (some w)):=.r (.inr ⟨w,rfl,h⟩)
theorem Fp.ss{β}{r:Ar X P β}{c t e}{a b:PT X.Γ}{x y}(h1:Fp (Is r t) a x)(h2:Fp (Is r e) b y):Fp (Is r (if c=true then t else e)) (.s a b) (.br c x y):=
 .s (fun h=>by subst h;exact h1) (fun h=>by subst h;exact h2)
theorem Fp.sh{β}{r:Ar X P β}{c t e}{a b:PT X.Γ}{x y}(h1:c=true->Fp (Is r t) a x)(h2:c=false->Fp (Is r e) b y):Fp (Is r (if c=true then t else e)) (.s a b) (.br c x y):=
 .s (fun h=>by rw[a1e h];exact h1 h) (fun h=>by rw[a18 (by rw[h];simp)];exact h2 h)
theorem Fp.zh{β}{r:Ar X P β}{c t e}{a b:PT X.Γ}{x y}(h1:c=true->Fp (Is r t) a x)(h2:c=false->Fp (Is r e) b y):Fp (Is r (if c=true then t else e)) (.z c a b) (.br c x y):=
 .z (fun h=>by rw[a1e h];exact h1 h) (fun h=>by rw[a18 (by rw[h];simp)];exact h2 h)
theorem Fp.v{β}{r:Ar X P β}{s}(u)(h:u=s):Fp (Is r s) (.n:PT X.Γ) (.ret (some (r.put u))):=.r (.inl (by rw[h]))
theorem Fp.k{τ}{R:τ->Prop}{call fv v xs H H1 an o}(h:dK X P call fv xs H v H1)(t:Fp R an o):Fp R (.a (.call v H1) an) (.o (dK X P call fv xs H v H1) o):=.c v H1 h t
theorem Fp.fr{τ}{R:τ->Prop}{call fv v xs H H1 an o}(ks)(h:dK X P call fv xs H v H1)(t:Fp R an o):Fp R (.a (.fr ks v H1) an) (.o (dK X P call fv xs H v H1) o):=.kf ks v H1 h t
theorem Fp.RH{τ}{R:τ->Prop}{call fv v xs H H1 H2 an o}(ks rs)(h:dK X P call fv xs H v H1)(t:Fp R an o):Fp R (.a (.RH ks rs v H2) an) (.o (dK X P call fv xs H v H1) o):=.kg ks rs v H2 h t
def IsS{β}(r:Ar X P β)(s:β)(H:List (PB X.Γ)):PV X.Γ×List (PB X.Γ)->Prop:=fun v=>v=(r.put s,H)
theorem Fp.sr{β}{r:Ar X P β}{s H}:Fp (IsS r s H) (.n:PT X.Γ) (.ret (r.put s,H)):=.r rfl
theorem Fp.szh{β}{r:Ar X P β}{H c t e}{a b:PT X.Γ}{x y}(h1:c=true->Fp (IsS r t H) a x)(h2:c=false->Fp (IsS r e H) b y):Fp (IsS r (if c=true then t else e) H) (.z c a b) (.br c x y):=
 .z (fun h=>by rw[a1e h];exact h1 h) (fun h=>by rw[a18 (by rw[h];simp)];exact h2 h)
theorem Fp.ssh{β}{r:Ar X P β}{H c t e}{a b:PT X.Γ}{x y}(h1:c=true->Fp (IsS r t H) a x)(h2:c=false->Fp (IsS r e H) b y):Fp (IsS r (if c=true then t else e) H) (.s a b) (.br c x y):=
 .s (fun h=>by rw[a1e h];exact h1 h) (fun h=>by rw[a18 (by rw[h];simp)];exact h2 h)
theorem E8{β}(hX:bT X P){n f gq}(hO:jT X P (kW P T L n) gq){first xs cap H H1 an}{r:Ar X P β}{s o}(hk:DV X P T gq (dK X P (kW P T L n)) (CG X P T (kW P T L n) L f H.length) L f (first++xs++cap) H an=o) (ht:Fp (IsS r s H1) an o):dK X P (kW P T L (n+1)) (.fn f first cap) xs H (r.put s) H1:=by
 obtain⟨y,h1,h2⟩:=ht.aK;cases h2;rw[<-hk]at h1;exact a7O hX (n:=n+1) (by omega) hO h1
theorem Oe(hX:bT X P){call gq}(hO:jT X P call gq){f first xs cap vs v ps H}(hv:views H (first++xs++cap)=some vs)(ho:gq f vs=some (v,[],ps))(hp:∀p∈ps,p)(hl:yE v=false) :dK X P call (.fn f first cap) xs H (shift H.length v) H:=by
 intro A m h tf rH hr hf hx;cases hf with
 |gone hi _ _=>simp[bf]at hi
 |fn p1 p2 p3 p4=>
  obtain⟨w,h1,m1,e1,e2,e3,e4,e5⟩:=J6 hX (hO f vs v [] ps ho hp) hr hv (ext':=[]) rfl ⟨p1,p2⟩ hx ⟨p3,p4⟩;simp only[hl,List.any_nil,Bool.or_self,a2K,a3U,a6g]at e2;exact⟨w,h1,[],m1,e1,e2,e3,e4,e5,fun b hb=>by cases hb⟩
def a1{α}(a:Ar X P α):ArL X P α:=akh a
def a2{α β}(a:Ar X P α)(b:Ar X P β):ArL X P (α×β):=Nw a (akh b)
def a3{α β γ}(a:Ar X P α)(b:Ar X P β)(c:Ar X P γ):ArL X P (α×β×γ):=Nw a (a2 b c)
def a4{α β γ δ}(a:Ar X P α)(b:Ar X P β)(c:Ar X P γ)(d:Ar X P δ):ArL X P (α×β×γ×δ):=Nw a (a3 b c d)
def np{α:Type}:α->List Prop:=fun _=>[]
end
end Pv
namespace Tw
def nG{α σ ρ:Type}(step:Nat->α->σ->σ⊕ρ):List α->Nat->σ->σ⊕ρ
 | [],_,s=>.inl s
 |a::l,i,s=>match step i a s with
  |.inl s'=>nG step l (i+1) s'
  |.inr r=>.inr r
def kC{σ ρ:Type}:σ⊕ρ->Bool
 |.inl _=>true
 |.inr _=>false
def akk{σ ρ:Type}(d:σ):σ⊕ρ->σ
 |.inl s=>s
 |.inr _=>d
def Ea{σ ρ:Type}(d:ρ):σ⊕ρ->ρ
 |.inl _=>d
 |.inr r=>r
def aqo{σ:Type}:σ⊕Empty->σ
 |.inl s=>s
end Tw
namespace Pv
open Go Tw
def vk:Code->List Code
 |.seq a b=>vk a++vk b
 |.cond _ a b=>vk a++vk b
 |.block _ b=>vk b
 |.loop b=>b::vk b
 |.scope b=>vk b
 |.rangeFunc _ _ a b=>vk a++vk b
 |_=>[]
def Ua(P:LI1)(f k:Nat):Code:=
 match V3 P f with
 |some t=>(vk t.body).getD k .skip
 |none=>.skip
theorem yV{k}(h:k<=ah):i64.wrap ((k:Int)+1)=((k+1:Nat):Int):=by simp only[IntKind.wrap,IntKind.bits,IntKind.signed];unfold ah at h;have:((k:Int)+1)%(2^64:Int)=(k:Int)+1:=a8U (by omega) (by omega);simp only[this];rw[a18 (by simp;omega)];omega
theorem aG{k n:Nat}(h:k<n):gG k n:=⟨by omega,by omega⟩
theorem bg{k n:Nat}(h:k<n):decide ((k:Int)<(n:Int))=true:=by simp[h]
theorem fC(n:Nat):decide ((n:Int)<(n:Int))=false:=by simp
section
variable{X:mV}{P:LI1}{T:vH}{L:Nat}{f nt B:Nat}{iy:Bool}{call:dO}{b:Code}{σ α ρ:Type}
theorem Fp.w{τ}{R:τ->Prop}{c e s s' an o}(h:dS X P T call L f iy nt B c s e s')(t:Fp R an o):Fp R (.a (.lg [] e s') an) (.o (dS X P T call L f iy nt B c s e s') o):=.l [] e s' h t
theorem Fp.wG{τ}{R:τ->Prop}(gs){c e s s' an o}(h:dS X P T call L f iy nt B c s e s')(t:Fp R an o):Fp R (.a (.lg gs e s') an) (.o (dS X P T call L f iy nt B c s e s') o):=.l gs e s' h t
theorem Fp.go{n e s s'}(h:dP X P T call L f iy nt B b n s' e s):Fp (Rnd X P T call L f iy nt B b n e s) (.n:PT X.Γ) (.ret (.norm,s')):=Fp.r (v:=(Ex.norm,s')) h
theorem Fp.goG{n e s s'}(gs)(h:dP X P T call L f iy nt B b n s' e s):Fp (Rnd X P T call L f iy nt B b n e s) (.a (.lg gs .norm ⟨[],[],[]⟩) .n:PT X.Γ) (.ret (.norm,s')):=Fp.g (v:=(Ex.norm,s')) gs h
theorem Fp.ex{n i s}:Fp (Rnd X P T call L f iy nt B b n (.exit i) s) (.n:PT X.Γ) (.ret (.exit i,s)):=Fp.r (v:=(Ex.exit i,s)) ⟨rfl,rfl⟩
def cont(out:σ⊕ρ->Ex×bV X.Γ)(g:Nat->α->σ->σ⊕ρ)(l:List α)(i:Nat):σ⊕ρ->Ex×bV X.Γ
 |.inl s=>out (nG g l i s)
 |.inr r=>out (.inr r)
def Rn(X:mV)(P:LI1)(T:vH)(call:dO)(L f:Nat)(iy:Bool)(nt B:Nat)(b:Code)(n:Nat){τ:Type}(K:τ->Ex×bV X.Γ)(x:τ):Ex×bV X.Γ->Prop:=Rnd X P T call L f iy nt B b n (K x).1 (K x).2
section
variable{τ:Type}{K:τ->Ex×bV X.Γ}{n:Nat}
theorem Fp.ls{c t e}{a d:PT X.Γ}{x y}(h1:Fp (Rn X P T call L f iy nt B b n K t) a x)(h2:Fp (Rn X P T call L f iy nt B b n K e) d y):Fp (Rn X P T call L f iy nt B b n K (if c=true then t else e)) (.s a d) (.br c x y):=
 .s (fun h=>by subst h;exact h1) (fun h=>by subst h;exact h2)
theorem Fp.nx{x s'}(h:dP X P T call L f iy nt B b n s' (K x).1 (K x).2):Fp (Rn X P T call L f iy nt B b n K x) (.n:PT X.Γ) (.ret (.norm,s')):=Fp.r (v:=(Ex.norm,s')) h
theorem Fp.nxG{x s'}(gs)(h:dP X P T call L f iy nt B b n s' (K x).1 (K x).2):Fp (Rn X P T call L f iy nt B b n K x) (.a (.lg gs .norm ⟨[],[],[]⟩) .n:PT X.Γ) (.ret (.norm,s')):=Fp.g (v:=(Ex.norm,s')) gs h
theorem Fp.ou{x}(h:(K x).1≠.norm):Fp (Rn X P T call L f iy nt B b n K x) (.n:PT X.Γ) (.ret (K x)):=by
 refine Fp.r ?_;unfold Rn Rnd;split
 .rename_i e;rw[e]at h;exact absurd rfl h
 rename_i e;rw[e];exact⟨rfl,rfl⟩
theorem Fp.ouG{x}(gs)(h:(K x).1≠.norm):Fp (Rn X P T call L f iy nt B b n K x) (.a (.lg gs .norm ⟨[],[],[]⟩) .n:PT X.Γ) (.ret (K x)):=by
 refine Fp.g gs ?_;unfold Rn Rnd;split
 .rename_i e;rw[e]at h;exact absurd rfl h
 rename_i e;rw[e];exact⟨rfl,rfl⟩
end
theorem Yb{l}(d){st:Int->σ->bV X.Γ}{g:Nat->α->σ->σ⊕ρ}{out s0 w}(Inv:Nat->σ->Prop)(h0:gY X (T.eY f (dZ b)) w=st 0 s0)(hl:l.length<=ah)(hL:ah<L)(hi:Inv 0 s0)(hs:∀(k) (s) (n),k<l.length->Inv k s->(∀s1,Inv (k+1) s1->dP X P T call L f iy nt B b n (st (i64.wrap (k+1)) s1) (cont out g (l.drop (k+1)) (k+1) (.inl s1)).1 (cont out g (l.drop (k+1)) (k+1) (.inl s1)).2) ->dP X P T call L f iy nt B b (n+1) (st k s) (cont out g (l.drop (k+1)) (k+1) (g k (l.getD k d) s)).1 (cont out g (l.drop (k+1)) (k+1) (g k (l.getD k d) s)).2)(ho:∀s,Inv l.length s->dP X P T call L f iy nt B b 1 (st l.length s) (out (.inl s)).1 (out (.inl s)).2) :dS X P T call L f iy nt B (.loop b) w (out (nG g l 0 s0)).1 (out (nG g l 0 s0)).2:=by
 have key:∀(m k:Nat) (s:σ),k+m=l.length->Inv k s->dP X P T call L f iy nt B b (m+1) (st k s) (out (nG g (l.drop k) k s)).1 (out (nG g (l.drop k) k s)).2:=by
  intro m
  induction m with
  |zero=>
   intro k s hk hr;have:k=l.length:=(by omega);subst this;rw[List.drop_length];exact ho s hr
  |succ m ih=>
   intro k s hk hr;have aQ:k<l.length:=(by omega);have h1:=hs k s (m+1) aQ hr fun s1 h=>by have:=ih (k+1) s1 (by omega) h;rw[yV (by omega)];exact this
   have hd:l.getD k d=l[k]:=(by simp[List.getD,a0Q aQ]);rw[a6y aQ];simp only[nG];rw[hd]at h1;cases hg:g k l[k] s with
   |inl s1=>rw[hg]at h1;exact h1
   |inr r=>rw[hg]at h1;exact h1
 exact Aa (key l.length 0 s0 (by omega) hi) h0 (by omega)
theorem l7{c w R}{out:σ⊕ρ->Ex×bV X.Γ}(h:dS X P T call L f iy nt B c w (out R).1 (out R).2)(d)(hR:kC R=true):dS X P T call L f iy nt B c w (out (.inl (akk d R))).1 (out (.inl (akk d R))).2:=by
 cases R with
 |inl s=>exact h
 |inr r=>cases hR
theorem l9{c w R}{out:σ⊕ρ->Ex×bV X.Γ}(h:dS X P T call L f iy nt B c w (out R).1 (out R).2)(d)(hR:kC R=false):dS X P T call L f iy nt B c w (out (.inr (Ea d R))).1 (out (.inr (Ea d R))).2:=by
 cases R with
 |inl s=>cases hR
 |inr r=>exact h
end
def a0H{Γ}:PE Γ->Bool
 |.val _=>true
 |_=>false
def vw{Γ}(env:List (Nat×PE Γ)):List Nat->List (PV Γ)->List (Nat×PE Γ)
 |p::ps,v::vs=>vw ((p,.val v)::env) ps vs
 |_,_=>env
section
variable{X:mV}{P:LI1}{T:vH}{A W:Nat->Prop}{m m':List MB}{h h':List HB}{L f nt B:Nat}
theorem a7R{env env'}(he:kJ X P A m h env env')(hv:(env.all fun p=>a0H p.2)=true):env'.all isVal=true:=by
 induction he with
 |nil=>rfl
 |cons h1 _ ih=>
  rename_i k v x r r' _;simp only[acp,a2n]at hv ⊢;refine⟨?_,ih hv.2⟩;cases v with
  |val v=>obtain⟨y,rfl,_⟩:=gJ h1;rfl
  |_=>simp[a0H]at hv
theorem Ub:∀{ps} {vs} {xs:List TV} {env:List (Nat×PE X.Γ)} {env':List (Nat×EV)},kJ X P A m h env env'->bZ X P A m h vs xs->kJ X P A m h (vw env ps vs) (uy env' ps xs)
 | [],vs,xs,_,_,he,hv=>by simpa[vw,uy]using he
 |p::ps,[],xs,_,_,he,hv=>by rw[hv.inv0];simpa[vw,uy]using he
 |p::ps,v::vs,xs,_,_,he,hv=>by obtain⟨x,r,rfl,h1,h2⟩:=hv.inv;simp only[vw,uy];exact Ub (kJ.cons (v:=.val v) (x:=.val x) h1 he) h2
theorem J9(hX:bT X P){n l xs H env ps vY body jW s1 s2 e}{f' nt':Nat} {env' ps' a' b' adt} {f'' agv:Nat} {adD agw a'' b''}(hl:H[l]? = some (.loop true f nt env ps vY body jW)) (hlen:xs.length=ps.length) (hps:(ps.all fun p=>decide (p<nt))=true)(h1:dS X P T (kW P T L n) L f true nt H.length vY ⟨vw env ps xs,[],H⟩ .norm s1) (hl1:s1.heap[l]? = some (.loop true f' nt' env' ps' a' b' adt))(h2:dS X P T (kW P T L n) L f true nt H.length body { s1 with heap:=s1.heap.set l (.loop false f' nt' env' ps' a' b' none) } e s2)(Td:s2.heap[l]? = some (.loop false f'' agv adD agw a'' b'' none)) :dK X P (kW P T L (n+1)) (.lC l) xs H (.bool (qh e)) (s2.heap.set l (.loop (qh e) f'' agv adD agw a'' b'' (uz e))):=by
 intro A m h tf rH hr hf hx;have aQ:l<H.length:=(a0x.1 hl).1;obtain⟨mb,k1,k2⟩:=hr.at_ l _ hl;cases mb with
 |dD _=>exact k2.elim
 |jJ _=>exact k2.elim
 |gone=>exact k2.elim
 |gQ c=>
 obtain⟨te,k3,k4⟩:=k2;have FV:c∈aZ m:=aY k1 rfl;cases hf with
 |gone hi MC _=>simp only[bf,a09]at hi;subst hi;rw[k1]at MC;cases MC
 |lC hy=>
 rw[k1]at hy;cases hy;have hS:SR X P A (fun b=>b∈aZ m) h.length m ⟨vw env ps xs,[],H⟩ ⟨uy te ps rH,[],h,[]⟩:=
  ⟨⟨hr,rfl,fun k cs hk=>by simp at hk,Ub (env:=env) (env':=te) k4 hx⟩,fun b hb=>.inl hb,fun b hb=>(by cases hb),a1l _⟩
 obtain⟨t1,m1,x1,x2,x3,x4⟩:=h1 A _ _ m _ hS;have at1:∀{M:List MB} {S:bV X.Γ} {TS:St} {W:Nat->Prop} {rd:Bool} {f0 n0:Nat} {ee:List (Nat×PE X.Γ)} {pp:List Nat} {aa bb:Code} {pe:Option Code},SR X P A W h.length M S TS->Ob H.length m M->S.heap[l]? = some (.loop rd f0 n0 ee pp aa bb pe)->M[l]? = some (.gQ c)/\∃te,TS.heap[c]? = some (.loop rd f0 n0 te pp aa bb pe)/\kJ X P (AA A M) M TS.heap ee te:=by
  intro M S TS W rd f0 n0 ee pp aa bb pe hS hU hh;obtain⟨mb,j1,j2⟩:=hS.st.heap.at_ l _ hh;rcases hU l _ aQ k1 with e|e
  .rw[e]at j1;cases j1;obtain⟨te,j3,j4⟩:=j2;exact⟨e,te,j3,j4⟩
  .rw[e]at j1;cases j1;exact j2.elim
 have akm:∀{M:List MB} {S:bV X.Γ} {TS:St} {W:Nat->Prop} {rd:Bool} {f0 n0:Nat} {ee:List (Nat×PE X.Γ)} {pp:List Nat} {aa bb:Code} {pe:Option Code} (rd':Bool) (pe':Option Code),SR X P A W h.length M S TS->Ob H.length m M->S.heap[l]? = some (.loop rd f0 n0 ee pp aa bb pe)->∃te,TS.heap[c]? = some (.loop rd f0 n0 te pp aa bb pe)/\HR X P A M (S.heap.set l (.loop rd' f0 n0 ee pp aa bb pe')) (TS.heap.set c (.loop rd' f0 n0 te pp aa bb pe'))/\Fr M TS.heap M (TS.heap.set c (.loop rd' f0 n0 te pp aa bb pe')):=by intro M S TS W rd f0 n0 ee pp aa bb pe rd' pe' hS hU hh;obtain⟨j1,te,j3,j4⟩:=at1 hS hU hh;obtain⟨s1,s2⟩:=hS.st.heap.set (i:=l) (c:=c) (pb:=.loop rd' f0 n0 ee pp aa bb pe') (hb:=.loop rd' f0 n0 te pp aa bb pe') j1 rfl (fun cs hc=>by unfold aU at hc;rw[j3]at hc;cases hc) (fun hF=>⟨te,by rw[a2w (a0x.1 j3).1],j4.step hF .refl⟩);exact⟨te,j3,s1,s2⟩
 obtain⟨te1,y1,y2,y3⟩:=akm false none x2 x4 hl1;have hS1:SR X P A (fun b=>b∈aZ m) h.length m1 { s1 with heap:=s1.heap.set l (.loop false f' nt' env' ps' a' b' none) } { t1 with heap:=t1.heap.set c (.loop false f' nt' te1 ps' a' b' none),ws:=FM h.length c t1.ws }:=by
  have q:=x2.st.step y2 y3 .refl;refine⟨⟨q.heap,q.llen,q.loc,q.env⟩,x2.own,fun b hb=>?_,a5Y x2.fl y3.len⟩;rcases wW (ks:=[.h c]) hb with k|⟨k,_⟩
  .exact x2.ws b k
  .simp at k;subst k;exact FV
 obtain⟨t2,m2,z1,z2,z3,z4⟩:=h2 A _ _ m1 _ hS1;obtain⟨te2,u1,u2,u3⟩:=akm (qh e) (uz e) z2 (x4.trans z4) Td;have hF:=(x3.trans y3).trans (z3.trans u3);refine⟨.bool (qh e),t2.heap.set c (.loop (qh e) f'' agv te2 agw a'' b'' (uz e)),FM h.length c t2.ws,m2,?_,u2,.bool _,hF,fun i mb hi=>(x4.trans z4) i mb ?_ hi,fun b hb=>?_⟩
 .have hl':rH.length=ps.length:=by rw[<-hx.1,hlen]
  simp only[kW,ap,OE,k3,hl',hps,adw,a2p,x1,y1,z1,u1]
 .rw[<-hr.len];exact(a0x.1 hi).1
 .rcases wW (ks:=[.h c]) hb with k|⟨k,_⟩
  .exact z2.ws b k
  .simp at k;subst k;exact FV
abbrev gB(B:Nat):Nat->Option Nat:=fun i=>if i<B then some i else(xP [] i).map (·+B)
theorem Ac{g}:∀{a:List (PV X.Γ)},(∀(i:Nat) x,a[i]? = some x->fJ g x=some x)->fJ.qc g a=some a
 | [],_=>rfl
 |c::cs,h=>by simp only[fJ.qc,h 0 c rfl,Ac (a:=cs) fun i x hi=>h (i+1) x (by simpa using hi)]
theorem Ja{α β:Type}{a:List α}{b:List β}(hl:a.length=b.length){i:Nat}{x}(hi:a[i]? = some x):∃y,b[i]? = some y:=by
 have:i<b.length:=by rw[<-hl];exact(a0x.1 hi).1
 exact⟨b[i],a0Q this⟩
theorem VW{v x}(hv:VR X P A m h v x){B}(hB:m.length<=B):fJ (gB B) v=some v:=by
 have key:∀{b:Nat} {mb:MB},m[b]? = some mb->gB B b=some b:=fun e=>by have:=(a0x.1 e).1;simp only[gB];rw[a1e (by omega)]
 induction hv with
 |bool=>rfl
 |lit=>rfl
 |int=>rfl
 |str=>rfl
 |nil=>rfl
 |ptr e=>simp only[fJ,key e,a1n]
 |aO e=>simp only[fJ,key e,a1n]
 |own e _=>simp only[fJ,key e,a1n]
 |win e _ _=>simp only[fJ,key e,a1n]
 |CY e=>simp only[fJ,key e,a1n]
 |I9 e=>simp only[fJ,key e,a1n]
 |KA e=>simp only[fJ,key e,a1n]
 |map e=>simp only[fJ,key e,a1n]
 |iter e=>simp only[fJ,key e,a1n]
 |lC e=>simp only[fJ,key e,a1n]
 |row e _ _=>simp only[fJ,key e,a1n]
 |ql=>rfl
 |dD=>rfl
 |el=>rfl
 |fn h1 _ h3 _ i2 i4=>
  simp only[fJ];rw[Ac fun i x hi=>let ⟨y,hy⟩:=Ja h1 hi;i2 i x y hi hy,Ac fun i x hi=>let ⟨y,hy⟩:=Ja h3 hi;i4 i x y hi hy]
 |agg h1 _ i2=>simp only[fJ];rw[Ac fun i x hi=>let ⟨y,hy⟩:=Ja h1 hi;i2 i x y hi hy];rfl
 |dM h1 _ i2=>simp only[fJ];rw[Ac fun i x hi=>let ⟨y,hy⟩:=Ja h1 hi;i2 i x y hi hy];rfl
 | @gone v i x hi e _=>
  have:=key (b:=i) (mb:=(m[i]?).getD .gone) (by cases q:m[i]? with|none=>rw[q]at e;cases e|some y=>rfl);cases v<;>simp only[bf,a09]at hi<;>first|(subst hi;simp only[fJ,this,a1n])|cases hi
theorem a2x{v x}(hv:bZ X P A m h v x){B}(hB:m.length<=B):fJ.qc (gB B) v=some v:=
 Ac fun i a hi=>let ⟨y,hy⟩:=Ja hv.1 hi;VW (hv.2 i a y hi hy) hB
theorem a7S{v x}(hv:kJ X P A m h v x){B}(hB:m.length<=B):pW (gB B) v=some v:=by
 induction hv with
 |nil=>rfl
 |cons h1 _ ih=>
  rename_i k v x r r' _;simp only[pW,ih];cases v with
  |val v=>obtain⟨y,rfl,h2⟩:=gJ h1;simp only[PO,VW h2 hB,a1n]
  |ent r j v=>
   obtain⟨c,y,rfl,h2,_⟩:=O6 h1;have:=VW h2 hB;simp only[fJ,a0A,PV.map.injEq,exists_eq_right]at this;simp only[PO,this,a1n]
  |FK r j=>
   obtain⟨c,rfl,h2⟩:=O7 h1;have:=VW h2 hB;simp only[fJ,a0A,PV.map.injEq,exists_eq_right]at this;simp only[PO,this,a1n]
  |_=>rfl
theorem abq{b mb}(hb:BR X P A m h b mb){B}(hB:m.length<=B):zX (gB B) b=some b:=by
 cases b with
 |cells cs=>
  cases mb with
  |gQ c=>obtain⟨_,_,h2⟩:=hb;simp only[zX,a2x h2 hB,a1n]
  |_=>exact hb.elim
 |aF cs=>
  cases mb with
  |jJ c=>obtain⟨_,_,_,h2⟩:=hb;simp only[zX,a2x h2 hB,a1n]
  |_=>exact hb.elim
 |map es=>rfl
 |dB r n seen=>
  cases mb with
  |gQ c=>
   obtain⟨_,_,h2,_⟩:=hb;obtain⟨mb,h3⟩:=a5Z.1 h2;have aQ:r<B:=aar (a0x.1 h3).1 hB;have:gB B r=some r:=(by simp[gB,aQ]);simp only[zX,this,a1n]
  |_=>exact hb.elim
 |loop=>
  cases mb with
  |gQ c=>obtain⟨_,_,h2⟩:=hb;simp only[zX,a7S h2 hB,a1n]
  |_=>exact hb.elim
 |_=>rfl
theorem Yc{B}:∀{H:List (PB X.Γ)},(∀(i:Nat) b,H[i]? = some b->zX (gB B) b=some b)->oq (gB B) H=some H
 | [],_=>rfl
 |c::cs,h=>by simp only[oq,h 0 c rfl,Yc (H:=cs) fun i x hi=>h (i+1) x (by simpa using hi)]
theorem dK.drop(hX:bT X P){call fv xs H H1 v}(hs:dK X P call fv xs H v H1)(h1:H1.take H.length=H)(hv:fJ (gB H.length) v=some v):dK X P call fv xs H v H:=by
 intro A m h tf rH hr hf hx;obtain⟨w,h',ws,m1,c1,c2,c3,c4,c5,c6⟩:=hs A m h tf rH hr hf hx;have hg:lZ H.length [.gc []] (⟨[(0,.val v)],[],H1⟩:bV X.Γ)=some ⟨[(0,.val v)],[],H⟩:=by
  have hb:oq (gB H.length) H=some H:=Yc fun i b hi=>let ⟨mb,_,h2⟩:=hr.at_ i b hi;abq h2 (aht hr.len)
  have hl:H.length<=H1.length:=by have:=congrArg List.length h1;simp at this;omega
  have e:pW (gB H.length) [(0,PE.val v)]=some [(0,.val v)]:=by simp only[pW,PO,hv,a1n]
  have qZ:oq (fun i=>if i<H.length then some i else(xP [] i).map (·+H.length)) H=some H:=hb;have e':pW (fun i=>if i<H.length then some i else(xP [] i).map (·+H.length)) [(0,PE.val v)]=some [(0,.val v)]:=e;simp only[lZ,CB,List.all_nil,a6p,decide_true,Bool.and_self,aeL,hl,a2p,e',XR,h1,qZ,DU,oq,a6g]
 obtain⟨m2,q1,q2,q3⟩:=nO hX hg A (fun _=>True) 0 m1 ⟨[(0,.val w)],[],h',[]⟩ ⟨⟨c2,rfl,fun k cs hk=>by simp at hk,.cons c3 .nil⟩,fun b _=>.inl trivial,fun b hb=>(by cases hb),a5U _⟩;obtain⟨w',e1,e2⟩:=pq q1.st.env (t:=0) (v:=.val v) rfl;simp only[dR,a2p,a09]at e1;subst e1;refine⟨w,h',ws,m2,c1,q1.st.heap,e2,c4.trans q2,fun i mb hi=>?_,c6⟩;have aQ:i<H.length:=by rw[<-hr.len];exact(a0x.1 hi).1
 rcases c5 i mb hi with g|g
 .exact q3 i mb aQ g
 rcases q3 i _ aQ g with g|g<;>exact .inr g
end
section
variable{X:mV}{P:LI1}
theorem dK.frame(hX:bT X P){call ks H' Hp H H1 Sv fv fv' v v' xs xs'}(hs:dK X P call fv xs H v H1)(jD:ks.Nodup) (hp:DU H' ks=some Hp) (hH:oq (xP ks) Hp=some H) (hf:fJ (xP ks) fv'=some fv) (hx:fJ.qc (xP ks) xs'=some xs)(hv:fJ (bk ks H'.length) v=some v') (hH1:oq (bk ks H'.length) H1=some Sv) (hro:Kw (H1.drop ks.length)=true) :dK X P call fv' xs' H' v' (putAt ks Sv H'++Sv.drop ks.length):=fun A m' h tf rH hr hf' GN=>by
 obtain⟨w,h1,ws,m1,c1,c2,c3,c4,c5,c6⟩:=KJ hX hs.w jD hp hH hf hx hv hH1 hro A m' h tf rH hr hf' GN;exact⟨w,h1,ws,m1,c1,c2,c3,c4,c5,fun b hb=>by obtain⟨_,k,_,_,mb,h8,h9⟩:=c6 b hb;exact aY h8 h9⟩
end
def itF{σ ρ:Type}(g:σ->σ⊕ρ):Nat->σ->Option ρ
 | 0,_=>none
 |k+1,s=>match g s with
  |.inl s1=>itF g k s1
  |.inr r=>some r
section
variable{X:mV}{P:LI1}{T:vH}{L:Nat}{f nt B:Nat}{iy:Bool}{call:dO}{b:Code}{σ ρ:Type}
def Eb(out:ρ->Ex×bV X.Γ)(r:ρ):σ⊕ρ->Ex×bV X.Γ
 |.inl _=>out r
 |.inr r'=>out r'
theorem a7T{st:σ->bV X.Γ}{g:σ->σ⊕ρ}{out}(Inv:σ->Prop)(hi:∀s s1,Inv s->g s=.inl s1->Inv s1)(hs:∀s n r,Inv s->(∀s1,g s=.inl s1->dP X P T call L f iy nt B b n (st s1) (out r).1 (out r).2)->dP X P T call L f iy nt B b (n+1) (st s) (Eb out r (g s)).1 (Eb out r (g s)).2) :∀{k} {s} {r},Inv s->itF g k s=some r->dP X P T call L f iy nt B b k (st s) (out r).1 (out r).2
 | 0,s,r,_,h=>by cases h
 |k+1,s,r,hv,h=>by
  simp only[itF]at h;have h1:=hs s k r hv fun s1 h1=>by rw[h1]at h;exact a7T Inv hi hs (hi s s1 hv h1) h
  cases hg:g s with
  |inl s1=>rw[hg]at h1;exact h1
  |inr r'=>rw[hg]at h1 h;simp only[a09]at h;subst h;exact h1
theorem agx{st:σ->bV X.Γ}{g:σ->σ⊕ρ}{out}(Inv:σ->Prop){k s r w}(hr:itF g k s=some r)(h0:gY X (T.eY f (dZ b)) w=st s)(hk:k<=L)(hv:Inv s)(hi:∀s s1,Inv s->g s=.inl s1->Inv s1)(hs:∀s n r,Inv s->(∀s1,g s=.inl s1->dP X P T call L f iy nt B b n (st s1) (out r).1 (out r).2)->dP X P T call L f iy nt B b (n+1) (st s) (Eb out r (g s)).1 (Eb out r (g s)).2) :dS X P T call L f iy nt B (.loop b) w (out r).1 (out r).2:=Aa (a7T Inv hi hs hv hr) h0 hk
end
section
variable{X:mV}{P:LI1}{T:vH}{L:Nat}
def Yd{α}(f:FuncId)(a:ArL X P α)(v:α->PV X.Γ)(ext:α->List (PB X.Γ))(pre:α->List Prop)(gq:gZ X.Γ):gZ X.Γ:=fun g vs=>
 match Nat.beq g f with
 |true=>match a.get vs with
  |some x=>some (v x,ext x,pre x)
  |none=>gq g vs
 |false=>gq g vs
theorem Good.Uc{α f}{a:ArL X P α}{v ext pre gq}(d)(hg:Good X P T L gq)(hf:∀n,d<=n->(∀m,n-d<=m->jT X P (kW P T L m) gq)->∀x,(∀p∈pre x,p)->nI X P (kW P T L (n+1)) f (a.put x) (v x) (ext x)):Good X P T L (Yd f a v ext pre gq):=by
 obtain⟨N,hN⟩:=hg;refine⟨N+d+1,fun n hn=>?_⟩;obtain⟨k,rfl⟩:∃k,n=k+1:=⟨n-1,by omega⟩;intro g vs v ext ps ho hp;unfold Yd at ho;split at ho
 .rename_i e;have e:=aad e;subst e;split at ho
  .rename_i x hx;cases ho;intro A h first args cap Gl hv
   exact hf k (by omega) (fun m hm=>hN m (by omega)) x hp A h first args cap Gl (a.ok hx hv)
  .exact hN (k+1) (by omega) g vs v ext ps ho hp
 .exact hN (k+1) (by omega) g vs v ext ps ho hp
def IsE(v:PV X.Γ)(H:List (PB X.Γ)):PV X.Γ×List (PB X.Γ)->Prop:=fun y=>y=(v,H)
theorem Fp.er{v:PV X.Γ}{H}:Fp (IsE v H) (.n:PT X.Γ) (.ret (v,H)):=.r rfl
theorem Ad(hX:bT X P){n f gq}(hO:jT X P (kW P T L n) gq){vs an v H o}(hk:DV X P T gq (dK X P (kW P T L n)) (CG X P T (kW P T L n) L f 0) L f vs [] an=o) (ht:Fp (IsE v H) an o):nI X P (kW P T L (n+1)) f vs v H:=by
 obtain⟨y,h1,h2⟩:=ht.aK;cases h2;rw[<-hk]at h1;exact a0G hX (n:=n+1) (by omega) hO h1
theorem nS(hX:bT X P){n f gq}(hO:jT X P (kW P T L n) gq){first xs cap H H1 v an o}(hk:DV X P T gq (dK X P (kW P T L n)) (CG X P T (kW P T L n) L f H.length) L f (first++xs++cap) H an=o) (ht:Fp (IsE v H1) an o):dK X P (kW P T L (n+1)) (.fn f first cap) xs H v H1:=by
 obtain⟨y,h1,h2⟩:=ht.aK;cases h2;rw[<-hk]at h1;exact a7O hX (n:=n+1) (by omega) hO h1
end
theorem Good.Ye{X P T L α β f a}{r:Ar X P β}{S}{pre:α->List Prop}{gq Yf:gZ X.Γ}(d:Nat)(hg:Good X P T L gq)(hg2:Good X P T L Yf)(hf:∀n,d<=n->(∀m,n-d<=m->jT X P (kW P T L m) gq)->(∀m,n-d<=m->jT X P (kW P T L m) Yf)->∀x,(∀p∈pre x,p)->nI X P (kW P T L (n+1)) f (a.put x) (r.put (S x)) []):Good X P T L (cu f a r S pre gq):=by
 obtain⟨N2,hN2⟩:=hg2;obtain⟨M,hM⟩:=hg;refine⟨M+N2+d+1,fun n hn=>?_⟩;obtain⟨k,rfl⟩:∃k,n=k+1:=⟨n-1,by omega⟩;intro g vs v ext ps ho hp;unfold cu at ho;split at ho
 .rename_i e;have e:=aad e;subst e;split at ho
  .rename_i x hx;cases ho;intro A h first args cap Gl hv
   exact hf k (by omega) (fun m hm=>hM m (by omega)) (fun m hm=>hN2 m (by omega)) x hp A h first args cap Gl (a.ok hx hv)
  .exact hM (k+1) (by omega) g vs v ext ps ho hp
 .exact hM (k+1) (by omega) g vs v ext ps ho hp
section
variable{X:mV}{P:LI1}
theorem dK.gs(hX:bT X P){call fv xs H H1 H2 v v'}(hs:dK X P call fv xs H v H1)(gs)(hg:lZ H.length gs (⟨[(0,.val v)],[],H1⟩:bV X.Γ)=some ⟨[(0,.val v')],[],H2⟩):dK X P call fv xs H v' H2:=by
 intro A m h tf rH hr hf hx;obtain⟨w,h',ws,m1,c1,c2,c3,c4,c5,c6⟩:=hs A m h tf rH hr hf hx;obtain⟨m2,q1,q2,q3⟩:=nO hX hg A (fun _=>True) 0 m1 ⟨[(0,.val w)],[],h',[]⟩ ⟨⟨c2,rfl,fun k cs hk=>by simp at hk,.cons c3 .nil⟩,fun b _=>.inl trivial,fun b hb=>(by cases hb),a5U _⟩;obtain⟨w',e1,e2⟩:=pq q1.st.env (t:=0) (v:=.val v') rfl;simp only[dR,a2p,a09]at e1;subst e1;refine⟨w,h',ws,m2,c1,q1.st.heap,e2,c4.trans q2,fun i mb hi=>?_,c6⟩;have aQ:i<H.length:=by rw[<-hr.len];exact(a0x.1 hi).1
 rcases c5 i mb hi with g|g
 .exact q3 i mb aQ g
 rcases q3 i _ aQ g with g|g<;>exact .inr g
theorem dK.cut(hX:bT X P){call fv xs H H1 H2 v}(hs:dK X P call fv xs H v H1)(h1:H1.take H.length=H2)(hb:oq (gB H.length) H2=some H2)(hl:decide (H.length<=H1.length)=true)(hv:fJ (gB H.length) v=some v):dK X P call fv xs H v H2:=by
 intro A m h tf rH hr hf hx;obtain⟨w,h',ws,m1,c1,c2,c3,c4,c5,c6⟩:=hs A m h tf rH hr hf hx;have hl:=a7y hl;have hg:lZ H.length [.gc []] (⟨[(0,.val v)],[],H1⟩:bV X.Γ)=some ⟨[(0,.val v)],[],H2⟩:=by
  have e:pW (gB H.length) [(0,PE.val v)]=some [(0,.val v)]:=by simp only[pW,PO,hv,a1n]
  have qZ:oq (fun i=>if i<H.length then some i else(xP [] i).map (·+H.length)) H2=some H2:=hb;have e':pW (fun i=>if i<H.length then some i else(xP [] i).map (·+H.length)) [(0,PE.val v)]=some [(0,.val v)]:=e;simp only[lZ,CB,List.all_nil,a6p,decide_true,Bool.and_self,aeL,hl,a2p,e',XR,h1,qZ,DU,oq,a6g]
 obtain⟨m2,q1,q2,q3⟩:=nO hX hg A (fun _=>True) 0 m1 ⟨[(0,.val w)],[],h',[]⟩ ⟨⟨c2,rfl,fun k cs hk=>by simp at hk,.cons c3 .nil⟩,fun b _=>.inl trivial,fun b hb=>(by cases hb),a5U _⟩;obtain⟨w',e1,e2⟩:=pq q1.st.env (t:=0) (v:=.val v) rfl;simp only[dR,a2p,a09]at e1;subst e1;refine⟨w,h',ws,m2,c1,q1.st.heap,e2,c4.trans q2,fun i mb hi=>?_,c6⟩;have aQ:i<H.length:=by rw[<-hr.len];exact(a0x.1 hi).1
 rcases c5 i mb hi with g|g
 .exact q3 i mb aQ g
 rcases q3 i _ aQ g with g|g<;>exact .inr g
end
section
variable{X:mV}{P:LI1}{T:vH}{L f nt B:Nat}{iy:Bool}{call:dO}{gq:gZ X.Γ}
theorem yX(hX:bT X P)(hO:jT X P call gq){c ps ps1 an e o}(hk:jY X P T gq (dK X P call) (dS X P T call L f iy nt B) B L f iy nt c ps an agq=o) (ht:Fp (fun y=>y=(e,ps1)) an o):dS X P T call L f iy nt B c ps e ps1:=by
 obtain⟨y,h1,rfl⟩:=ht.aK;rw[<-hk]at h1;exact Y9 hX hO h1
theorem Fp.xx{y:Ex×bV X.Γ}:Fp (fun z=>z=y) (.n:PT X.Γ) (.ret y):=.r rfl
end
theorem dK.forget{X P call fv xs H H1 v}(hs:dK X P call fv xs H v H1)(i):dK X P call fv xs H v (H1.set i .gone):=by intro A m h tf rH hr hf hx;obtain⟨w,h',ws,m1,c1,c2,c3,c4,c5,c6⟩:=hs A m h tf rH hr hf hx;have hg:=c2.aX [i];have hf2:=iK (h:=h') [i] m1;exact⟨w,h',ws,_,c1,hg,c3.step hf2.1 hf2.2,c4.trans hf2.1,c5.trans hf2.2,c6⟩
theorem sK{X P}(hX:bT X P){call gq}(hO:jT X P call gq){f first xs cap vs v ps H}(hv:views H (first++xs++cap)=some vs)(ho:gq f vs=some (v,[],ps))(hp:∀p∈ps,p)(hl:yE v=true) :dK X P call (.fn f first cap) xs H (shift H.length v) (aX (lN.kX (first++xs++cap)) H):=by
 intro A m h tf rH hr hf hx;cases hf with
 |gone hi _ _=>simp[bf]at hi
 |fn p1 p2 p3 p4=>
  obtain⟨w,h1,m1,e1,e2,e3,e4,e5⟩:=J6 hX (hO f vs v [] ps ho hp) hr hv (ext':=[]) rfl ⟨p1,p2⟩ hx ⟨p3,p4⟩;simp only[hl,List.any_nil,Bool.true_or,a2p,a6g]at e2;exact⟨w,h1,[],m1,e1,e2,e3,e4,e5,fun b hb=>by cases hb⟩
section
variable{X:mV}{P:LI1}{A:Nat->Prop}{m:List MB}{h:List HB}
theorem VR.a2y{k n y}(hy:VR X P A m h (.int k n) y):y=.int k n:=by
 cases hy with
 |int=>rfl
 |gone hi _ _=>simp[bf]at hi
theorem VR.Qd{f y}(hy:VR X P A m h (.fn f [] []) y):y=.fn f [] []:=by
 cases hy with
 |gone hi _ _=>simp[bf]at hi
 |fn p1 _ p3 _=>rw[a4u p1.symm,a4u p3.symm]
theorem agy{k ex t l x}(hl:LR X P A m h k ex t l x):(l=[]/\x=.nil .aO)\/(l=[]/\∃b off sz cs,x=.aO b off 0 0 sz true/\A b/\aU h b=some cs/\off<=cs.length/\dI P t=some sz/\0<sz) \/ (l≠[]/\∃b sz e kk cs,x=.aO b 0 l.length l.length sz e/\dI P t=some sz/\0<sz/\h[b]? = some (.cells kk cs)/\kk≠.ro/\(k=true->kk=.own)/\(ex=true->e=true)/\cs.length=l.length*sz/\eG X P A m h t l cs 0 sz):=by
 cases hl with
 |nil=>exact .inl ⟨rfl,rfl⟩
 |emp p0 p1 p2 p3 p4=>exact .inr (.inl ⟨rfl,_,_,_,_,rfl,p0,p1,p2,p3,p4⟩)
 |some p1 p2 p3 p4 p5 p6 p7 p8 p9=>exact .inr (.inr ⟨p1,_,_,_,_,_,rfl,p2,p3,p4,p5,p6,p7,p8,p9⟩)
theorem abt{H i x k ex t l}(hr:HR X P A m H h)(hi:H[i]? = some (.list k ex t l))(hv:VR X P (AA A m) m h (.own i) x):m[i]? = some (.dD x)/\LR X P (AA A m) m h k ex t l x:=by
 obtain⟨mb,g1,g2⟩:=hr.at_ i _ hi;cases hv with
 |own e _=>
  rw[g1]at e;cases e;exact⟨g1,g2⟩
 |gone MC e _=>
  simp only[bf,a09]at MC;subst MC;rw[g1]at e;cases e<;>exact g2.elim
end
section
variable{X:mV}{P:LI1}
theorem nI.gs(hX:bT X P){call f vs v v' ext ext'}(hc:nI X P call f vs v ext)(gs)(hg:lZ 0 gs (⟨[(0,.val v)],[],ext⟩:bV X.Γ)=some ⟨[(0,.val v')],[],ext'⟩):nI X P call f vs v' ext':=by
 intro A h first args cap Gl hv
 obtain⟨w,h',m',c1,c2,c3,c4⟩:=hc A h first args cap Gl hv
 obtain⟨m2,q1,q2,q3⟩:=nO hX hg A (fun _=>True) 0 m' ⟨[(0,.val w)],[],h',[]⟩ ⟨⟨c2,rfl,fun k cs hk=>by simp at hk,.cons c3 .nil⟩,fun b _=>.inl trivial,fun b hb=>(by cases hb),a5U _⟩;obtain⟨w',e1,e2⟩:=pq q1.st.env (t:=0) (v:=.val v') rfl;simp only[dR,a2p,a09]at e1;subst e1;exact⟨w,h',m2,c1,q1.st.heap,e2,c4.trans q2⟩
theorem Yg{A m h t fu x}(hv:VR X P A m h (.dD t [] fu) x):x=.nil .aO\/∃b off cap sz ex cs,x=.aO b off 0 cap sz ex/\A b/\aU h b=some cs/\dI P t=some sz/\0<sz/\off<=cs.length:=by
 generalize hl:([]:List (X.Γ t))=l at hv;cases hv with
 |ql=>exact .inl rfl
 |dD a c c2 s z o k f e r=>
  subst hl;exact .inr ⟨_,_,_,_,_,_,rfl,a,c,s,z,by simpa using o⟩
 |gone hi _ _=>simp[bf]at hi
theorem Jc{A h t x}(Gl:∀b,h.length<=b->A b)(hx:LR X P (AA A [.dD x]) [.dD x] h false false t [] x)(ho:(MB.dD x).own=none):HR X P A [.dD x] [.list false false t []] h:=by
 have hb:aZ [MB.dD x]=[]:=by simp[aZ,ho]
 refine⟨rfl,fun i b hi=>?_,by rw[hb];exact a6p,Gl,fun b qZ=>by rw[hb]at qZ;cases qZ⟩;cases i with
 |zero=>simp only[a3E,a09]at hi;subst hi;exact⟨.dD x,rfl,hx⟩
 |succ i=>simp at hi
end
def lq{σ ρ:Type}(g:Nat->σ->σ⊕ρ):Nat->Nat->σ->σ⊕ρ
 | 0,_,s=>.inl s
 |m+1,k,s=>match g k s with
  |.inl s'=>lq g m (k+1) s'
  |.inr r=>.inr r
def aS{σ:Type}(g:Nat->σ->σ):Nat->Nat->σ->σ
 | 0,_,s=>s
 |m+1,k,s=>aS g m (k+1) (g k s)
theorem Ud{σ ρ}{g:Nat->σ->σ}:∀(m k) (s),lq (ρ:=ρ) (fun k s=>.inl (g k s)) m k s=.inl (aS g m k s)
 | 0,_,_=>rfl
 |m+1,k,s=>Ud m (k+1) (g k s)
theorem qK{σ}{g:Nat->σ->σ}:∀(m k) (s),aS g (m+1) k s=g (k+m) (aS g m k s)
 | 0,_,_=>rfl
 |m+1,k,s=>by rw[aS,qK m (k+1),show k+1+m=k+(m+1) by omega];rfl
theorem dh{σ g}(Q:Nat->σ->Prop){m k s}(h0:Q k s)(hs:∀j s,k<=j->j<k+m->Q j s->Q (j+1) (g j s)):Q (k+m) (aS g m k s):=by
 induction m with
 |zero=>exact h0
 |succ m ih=>rw[qK];exact hs (k+m) _ (by omega) (by omega) (ih fun j s h1 h2 h3=>hs j s h1 (by omega) h3)
theorem Jd{c:Nat->Bool}{ρ}{r:Nat->ρ}:∀(m k),kC (lq (σ:=Unit) (fun k _=>if c k=true then .inr (r k)else .inl ()) m k ())=true↔∀j,k<=j->j<k+m->c j=false
 | 0,k=>by simp[lq,kC];omega
 |m+1,k=>by
  simp only[lq];by_cases hc:c k=true
  .simp only[hc,a2p,kC,a2K,false_iff];intro h;have:=h k (a1l _) (by omega);rw[hc]at this;cases this
  simp only[hc,a2K,a3U];rw[Jd m (k+1)];constructor
  .intro h j h1 h2;rcases a4W k j with h3|h3
   .exact h j h3 (by omega)
   rw[show j=k by omega];simpa using hc
  intro h j h1 h2;exact h j (by omega) (by omega)
theorem Yh{c:Nat->Bool}{ρ}{r:Nat->ρ}{m k}(h:kC (lq (σ:=Unit) (fun k _=>if c k=true then .inr (r k)else .inl ()) m k ())=false):∃j,k<=j/\j<k+m/\c j=true/\(∀i,k<=i->i<j->c i=false)/\lq (σ:=Unit) (fun k _=>if c k=true then .inr (r k)else .inl ()) m k ()=.inr (r j):=by
 induction m generalizing k with
 |zero=>simp[lq,kC]at h
 |succ m ih=>
  simp only[lq]at h ⊢;by_cases hc:c k=true
  .simp only[hc,a2p];exact⟨k,a1l _,by omega,hc,fun i h1 h2=>by omega,rfl⟩
  simp only[hc,a2K,a3U]at h ⊢;obtain⟨j,h1,h2,h3,h4,h5⟩:=ih h;exact⟨j,by omega,by omega,h3,fun i hi1 MC=>by
   rcases a4W k i with h6|h6
   .exact h4 i h6 MC
   rw[show i=k by omega];simpa using hc,h5⟩
abbrev gS(c:Nat->Bool)(k:Nat)(_:Unit):Unit⊕Nat:=if c k=true then .inr k else .inl ()
abbrev bH(c:Nat->Bool)(N:Nat):Unit⊕Nat:=lq (gS c) N 0 ()
theorem dL{c N}:kC (bH c N)=true↔∀j,j<N->c j=false:=by unfold bH gS;rw[Jd (r:=fun k=>k)];exact⟨fun h j hj=>h j (by omega) (by omega),fun h j _ hj=>h j (by omega)⟩
theorem BD{c N}(h:kC (bH c N)=false):∃j,j<N/\c j=true/\(∀i,i<j->c i=false)/\bH c N=.inr j:=by obtain⟨j,_,h2,h3,h4,h5⟩:=Yh (r:=fun k=>k) h;exact⟨j,by omega,h3,fun i hi=>h4 i (by omega) hi,h5⟩
abbrev Ue(c:Nat->Bool)(a N:Nat):Unit⊕Nat:=lq (gS c) (N-a) a ()
def Qe{σ:Type}(g:Nat->σ->σ):Nat->σ->σ
 | 0,s=>s
 |k+1,s=>Qe g k (g k s)
theorem Uf{σ g}(Q:Nat->σ->Prop):∀{k} {s},Q k s->(∀j s,j<k->Q (j+1) s->Q j (g j s))->Q 0 (Qe g k s)
 | 0,_,h,_=>h
 |k+1,s,h,hs=>Uf Q (k:=k) (hs k s (by omega) h) fun j s h1 h2=>hs j s (by omega) h2
theorem Qg{α:Type}{l:List α}{d}{p:α->Prop}:(∀j,j<l.length->p (l.getD j d))↔∀a∈l,p a:=by
 constructor
 .intro h a ha;obtain⟨j,hj,rfl⟩:=a5T.1 ha;simpa[List.getD,a0Q hj]using h j hj
 intro h j hj;have:l.getD j d=l[j]:=by simp[List.getD,a0Q hj]
 rw[this];exact h _ (a5K hj)
theorem pz{α:Type}{a b:List α}{d}(hl:a.length=b.length):a=b↔∀j,j<a.length->a.getD j d=b.getD j d:=by
 constructor
 .rintro rfl j _;rfl
 intro h;apply aaw hl;intro j h1 h2;simpa[List.getD,a0Q h1,a0Q h2]using h j h1
section
variable{X:mV}{P:LI1}{T:vH}{L:Nat}{f nt B:Nat}{iy:Bool}{call:dO}{b:Code}{σ ρ:Type}
def wJ(out:σ⊕ρ->Ex×bV X.Γ)(g:Nat->σ->σ⊕ρ)(m k:Nat):σ⊕ρ->Ex×bV X.Γ
 |.inl s=>out (lq g m k s)
 |.inr r=>out (.inr r)
theorem Qh{N}{st:Int->σ->bV X.Γ}{g:Nat->σ->σ⊕ρ}{out s0 w}(Inv:Nat->σ->Prop)(h0:gY X (T.eY f (dZ b)) w=st 0 s0)(hl:N<=ah)(hL:ah<L)(hi:Inv 0 s0)(hs:∀(k) (s) (n),k<N->Inv k s->(∀s1,Inv (k+1) s1->dP X P T call L f iy nt B b n (st (i64.wrap (k+1)) s1) (wJ out g (N-(k+1)) (k+1) (.inl s1)).1 (wJ out g (N-(k+1)) (k+1) (.inl s1)).2) ->dP X P T call L f iy nt B b (n+1) (st k s) (wJ out g (N-(k+1)) (k+1) (g k s)).1 (wJ out g (N-(k+1)) (k+1) (g k s)).2)(ho:∀s,Inv N s->dP X P T call L f iy nt B b 1 (st N s) (out (.inl s)).1 (out (.inl s)).2) :dS X P T call L f iy nt B (.loop b) w (out (lq g N 0 s0)).1 (out (lq g N 0 s0)).2:=by
 have key:∀(m k:Nat) (s:σ),k+m=N->Inv k s->dP X P T call L f iy nt B b (m+1) (st k s) (out (lq g m k s)).1 (out (lq g m k s)).2:=by
  intro m
  induction m with
  |zero=>
   intro k s hk hr;have:k=N:=(by omega);subst this;exact ho s hr
  |succ m ih=>
   intro k s hk hr;have aQ:k<N:=(by omega);have h1:=hs k s (m+1) aQ hr fun s1 h=>by have:=ih (k+1) s1 (by omega) h;rw[yV (by omega),show N-(k+1)=m by omega];exact this
   rw[show N-(k+1)=m by omega]at h1;simp only[lq];cases hg:g k s with
   |inl s1=>rw[hg]at h1;exact h1
   |inr r=>rw[hg]at h1;exact h1
 exact Aa (key N 0 s0 (by omega) hi) h0 (by omega)
theorem a7U{a N:Nat}{st:Int->σ->bV X.Γ}{g:Nat->σ->σ⊕ρ}{out s0 w}(Inv:Nat->σ->Prop)(h0:gY X (T.eY f (dZ b)) w=st a s0)(ha:a<=N)(hl:N<=ah)(hL:ah<L)(hi:Inv a s0)(hs:∀(k) (s) (n),a<=k->k<N->Inv k s->(∀s1,Inv (k+1) s1->dP X P T call L f iy nt B b n (st (i64.wrap (k+1)) s1) (wJ out g (N-(k+1)) (k+1) (.inl s1)).1 (wJ out g (N-(k+1)) (k+1) (.inl s1)).2) ->dP X P T call L f iy nt B b (n+1) (st k s) (wJ out g (N-(k+1)) (k+1) (g k s)).1 (wJ out g (N-(k+1)) (k+1) (g k s)).2)(ho:∀s,Inv N s->dP X P T call L f iy nt B b 1 (st N s) (out (.inl s)).1 (out (.inl s)).2) :dS X P T call L f iy nt B (.loop b) w (out (lq g (N-a) a s0)).1 (out (lq g (N-a) a s0)).2:=by
 have key:∀(m k:Nat) (s:σ),a<=k->k+m=N->Inv k s->dP X P T call L f iy nt B b (m+1) (st k s) (out (lq g m k s)).1 (out (lq g m k s)).2:=by
  intro m
  induction m with
  |zero=>
   intro k s _ hk hr;have:k=N:=(by omega);subst this;exact ho s hr
  |succ m ih=>
   intro k s ak hk hr;have aQ:k<N:=(by omega);have h1:=hs k s (m+1) ak aQ hr fun s1 h=>by have:=ih (k+1) s1 (by omega) (by omega) h;rw[yV (by omega),show N-(k+1)=m by omega];exact this
   rw[show N-(k+1)=m by omega]at h1;simp only[lq];cases hg:g k s with
   |inl s1=>rw[hg]at h1;exact h1
   |inr r=>rw[hg]at h1;exact h1
 exact Aa (key (N-a) a s0 (a1l _) (by omega) hi) h0 (by omega)
theorem Qi{N}{st:Int->σ->bV X.Γ}{g e}{fin:σ->bV X.Γ}{s0 w}(Inv:Nat->σ->Prop)(h0:gY X (T.eY f (dZ b)) w=st 0 s0)(hl:N<=ah)(hL:ah<L)(hi:Inv 0 s0)(hv:∀k s,k<N->Inv k s->Inv (k+1) (g k s))(hs:∀(k) (s),k<N->Inv k s->∀n e1 p,dP X P T call L f iy nt B b n (st (i64.wrap (k+1)) (g k s)) e1 p->dP X P T call L f iy nt B b (n+1) (st k s) e1 p)(ho:∀s,Inv N s->dP X P T call L f iy nt B b 1 (st N s) e (fin s)):dS X P T call L f iy nt B (.loop b) w e (fin (aS g N 0 s0)):=by
 have:=Qh (X:=X) (P:=P) (T:=T) (call:=call) (f:=f) (iy:=iy) (nt:=nt) (B:=B) (b:=b) (ρ:=Empty) (N:=N) (st:=st) (g:=fun k s=>.inl (g k s)) (out:=fun x=>(e,fin (aqo x))) (s0:=s0) (w:=w) Inv h0 hl hL hi
  (fun k s n hk hr h=>hs k s hk hr n _ _ (h _ (hv k s hk hr))) ho
 rw[Ud]at this;exact this
theorem ako{N:Nat}{st:Int->σ->bV X.Γ}{g e}{fin:σ->bV X.Γ}{s0 w}(Inv:Nat->σ->Prop)(h0:gY X (T.eY f (dZ b)) w=st (i64.wrap ((N:Int)-1)) s0)(hl:N<=ah)(hL:ah<L)(hi:Inv N s0)(hv:∀k s,k<N->Inv (k+1) s->Inv k (g k s))(hs:∀(k) (s),k<N->Inv (k+1) s->∀n e1 p,dP X P T call L f iy nt B b n (st (i64.wrap (k-1)) (g k s)) e1 p->dP X P T call L f iy nt B b (n+1) (st k s) e1 p)(ho:∀s,Inv 0 s->dP X P T call L f iy nt B b 1 (st (-1) s) e (fin s)):dS X P T call L f iy nt B (.loop b) w e (fin (Qe g N s0)):=by
 have wr:∀k:Nat,k<=ah->i64.wrap ((k:Int)-1)=(k:Int)-1:=by
  intro k hk;cases k with
  |zero=>rfl
  |succ k=>
   have:=yV (k:=k) (by omega);rw[show((k+1:Nat):Int)-1=(k:Int) by omega];unfold ah at hk;simp only[IntKind.wrap,IntKind.bits,IntKind.signed];have:(k:Int)%(2^64:Int)=(k:Int):=a8U (by omega) (by omega);simp only[this];rw[a18 (by simp;omega)]
 have key:∀(k:Nat) (s:σ),k<=N->Inv k s->dP X P T call L f iy nt B b (k+1) (st ((k:Int)-1) s) e (fin (Qe g k s)):=by
  intro k
  induction k with
  |zero=>intro s _ hr;exact ho s hr
  |succ k ih=>
   intro s hk hr;have h1:=ih (g k s) (by omega) (hv k s (by omega) hr);rw[<-wr k (by omega)]at h1;rw[show((k+1:Nat):Int)-1=(k:Int) by omega];exact hs k s (by omega) hr _ _ _ h1
 rw[wr N hl]at h0;exact Aa (key N s0 (a1l _) hi) h0 (by omega)
end
end Pv
namespace bK
open Go Tw Pv
def bF:LI0->Int
 | []=>1
 |a::t=>a*bF t
def fP:LI0->Int->LI0
 | [],_=>[]
 |a::t,n=>(n/bF t)%a::fP t n
def jB:LI0->LI0->Int
 |a::t,d::p=>d*bF t+jB t p
 |_,_=>0
def jR:LI0->LI0->Bool
 | [],[]=>true
 |a::t,d::p=>decide (0<=d/\d<a)&&jR t p
 |_,_=>false
def nZ(s:LI0):Prop:=∀a∈s,1<=a/\a<=12
instance (s:LI0):Decidable (nZ s):=inferInstanceAs (Decidable (∀a∈s,1<=a/\a<=12))
structure wC(s:LI0):Prop where
 len:s.length<=6
 sz:nZ s
 many:bF s<=2000
def kD(n:Nat)(o:LI0):Bool:=decide (o.length=n/\(∀a∈o,0<=a/\a<n)/\o.Nodup)
theorem fV{z}(h0:-(2^62)<=z)(h1:z<2^62):i64.wrap z=z:=by
 simp only[IntKind.wrap,IntKind.bits,IntKind.signed];rcases Int.lt_or_le z 0 with h|h
 .have:z%(2^64:Int)=z+2^64:=by have:=acv z (2^64) 1;rw[adh]at this;rw[<-this];exact a8U (by omega) (by omega)
  simp only[this];rw[a1e (by simp;omega)];omega
 have:z%(2^64:Int)=z:=a8U h (by omega);simp only[this];rw[a18 (by simp;omega)]
theorem nZ.tail{a t}(h:nZ (a::t)):nZ t:=fun b hb=>h b (a3I _ hb)
theorem jG:∀{s},nZ s->1<=bF s
 | [],_=>a8Z _
 |a::t,h=>by have h1:=h a (a3K ..);have h2:=jG h.tail;have:=Int.mul_le_mul h1.1 h2 (by omega) (by omega);simpa[bF]using this
theorem Fg:∀(s t),bF (s++t)=bF s*bF t
 | [],t=>by simp[bF]
 |a::s,t=>by simp[bF,Fg s t,Int.mul_assoc]
theorem Sz{s}(h:nZ s)(k):bF (s.take k)<=bF s:=by
 have e:bF s=bF (s.take k)*bF (s.drop k):=by rw[<-Fg,ahh]
 have h1:1<=bF (s.take k):=jG fun a ha=>h a (aaf ha);have h2:1<=bF (s.drop k):=jG fun a ha=>h a (a6a ha);have:=a9K h2 (show 0<=bF (s.take k) by omega);omega
theorem Yi:∀(s) (n),(fP s n).length=s.length
 | [],_=>rfl
 |_::t,n=>by simp[fP,Yi t n]
theorem Ug:∀(s) (n) (k),k<s.length->(fP s n).getD k 0=(n/bF (s.drop (k+1)))%s.getD k 0
 | [],_,k,h=>by simp at h
 |a::t,n,0,_=>by simp[fP]
 |a::t,n,k+1,h=>by have:=Ug t n k (by simpa using h);simpa[fP]using this
theorem sN:∀{s p},jR s p=true->p.length=s.length
 | [],[],_=>rfl
 |a::t,d::p,h=>by simp only[jR,a2n]at h;simp[sN h.2]
 | [],_::_,h=>by cases h
 |_::_,[],h=>by cases h
theorem qA:∀{s p},jR s p=true↔p.length=s.length/\∀j,j<s.length->0<=p.getD j 0/\p.getD j 0<s.getD j 0
 | [],[]=>by simp[jR]
 |a::t,d::p=>by
  simp only[jR,a2n,a1x,qA (s:=t),a4C];constructor
  .rintro⟨h1,h2,h3⟩;refine⟨by omega,fun j hj=>?_⟩;cases j with
   |zero=>simpa using h1
   |succ j=>simpa using h3 j (by omega)
  rintro⟨h1,h2⟩;exact⟨by simpa using h2 0 (by omega),by omega,fun j hj=>by simpa using h2 (j+1) (by omega)⟩
 | [],_::_=>by simp[jR]
 |_::_,[]=>by simp[jR]
theorem Ec:∀{s p},jR s p=true->nZ s->0<=jB s p/\jB s p<bF s
 | [],[],_,_=>by simp[jB,bF]
 |a::t,d::p,h,hs=>by simp only[jR,a2n,a1x]at h;have ih:=Ec h.2 hs.tail;have hp:=jG hs.tail;simp only[jB,bF];have h1:0<=d*bF t:=afM h.1.1 (by omega);have h2:(d+1)*bF t<=a*bF t:=ab8 (by omega) (by omega);rw[aix,Int.one_mul]at h2;omega
theorem uO:∀{s} (n),nZ s->jR s (fP s n)=true
 | [],_,_=>rfl
 |a::t,n,hs=>by simp only[fP,jR,a2n,a1x];have:=hs a (a3K ..);exact⟨⟨ahE _ (by omega),Int.emod_lt_of_pos _ (by omega)⟩,uO n hs.tail⟩
theorem Ed:∀{s} (n),nZ s->fP s (n%bF s)=fP s n
 | [],_,_=>rfl
 |a::t,n,hs=>by
  have hp:=jG hs.tail;have ha:=hs a (a3K ..);simp only[fP,bF];have e1:n%(a*bF t)/bF t%a=n/bF t%a:=by rw[Int.emod_def n,show n-a*bF t*(n/(a*bF t))=n+(-(a*(n/(a*bF t))))*bF t by rw[Int.neg_mul,Int.mul_right_comm];rfl,Int.add_mul_ediv_right _ _ (by omega),show n/bF t+-(a*(n/(a*bF t)))=n/bF t+a*(-(n/(a*bF t))) by rw[Int.mul_neg],acv]
  have e2:fP t (n%(a*bF t))=fP t n:=by rw[<-Ed (n%(a*bF t)) hs.tail,<-Ed n hs.tail,Int.emod_emod_of_dvd n (Int.dvd_mul_left a (bF t))]
  rw[e1,e2]
theorem Je:∀{s} {n},nZ s->0<=n->n<bF s->jB s (fP s n)=n
 | [],n,_,h0,h1=>by simp[bF]at h1;simp[fP,jB];omega
 |a::t,n,hs,h0,h1=>by have hp:=jG hs.tail;have ha:=hs a (a3K ..);simp only[fP,jB];simp only[bF]at h1;have h2:0<=n/bF t:=ahK h0 (by omega);have h3:n/bF t<a:=Int.ediv_lt_of_lt_mul (by omega) h1;rw[a8U h2 h3,<-Ed n hs.tail,Je hs.tail (ahE _ (by omega)) (Int.emod_lt_of_pos _ (by omega))];exact Int.ediv_mul_add_emod n (bF t)
theorem VX:∀{s p},jR s p=true->nZ s->fP s (jB s p)=p
 | [],[],_,_=>rfl
 |a::t,d::p,h,hs=>by
  simp only[jR,a2n,a1x]at h;have ih:=VX h.2 hs.tail;have hr:=Ec h.2 hs.tail;have hp:=jG hs.tail;simp only[fP,jB];have e1:(d*bF t+jB t p)/bF t=d:=by rw[ahS,Int.add_mul_ediv_right _ _ (by omega),Int.ediv_eq_zero_of_lt hr.1 hr.2];omega
  have e2:fP t (d*bF t+jB t p)=fP t (jB t p):=by rw[<-Ed _ hs.tail,ahS,Int.add_mul_emod_self_right,Ed _ hs.tail]
  rw[e1,e2,ih,a8U h.1.1 h.1.2]
theorem dG{s:LI0}{k}(h:k<s.length):s.getD k 0∈s:=by
 have:s.getD k 0=s[k]:=by simp[List.getD,a0Q h]
 rw[this];exact a5K h
theorem Qj{s:LI0}{k}(h:k<s.length):bF (s.drop k)=s.getD k 0*bF (s.drop (k+1)):=by rw[a6y h];simp[bF,List.getD,a0Q h]
theorem zT{l:LI0}{i j a}(h:i<l.length):(l.set i a).getD j 0=if i=j then a else l.getD j 0:=by simp only[a3k,aaF];split<;>simp_all
def a4w(s:LI0)(k:Nat)(x:Int×LI0):Int×LI0:=(VB .i64 x.1 (s.getD k 0),x.2.set k (PN .i64 x.1 (s.getD k 0)))
theorem agz{a b}(h0:0<=a)(h1:a<2^62)(hb:0<b):VB .i64 a b=a/b:=by have:a/b<=a:=Int.ediv_le_self b h0;have h2:0<=a/b:=ahK h0 (by omega);rw[VB,Int.tdiv_eq_ediv_of_nonneg h0,fV (by omega) (by omega)]
theorem agA{a b}(h0:0<=a)(h1:a<2^62)(hb:0<b):PN .i64 a b=a%b:=by
 have h2:0<=a%b:=ahE _ (by omega);have h3:a%b<=a:=by have:=Int.emod_def a b;have h4:0<=b*(a/b):=afM (by omega) (ahK h0 (by omega));omega
 rw[PN,Int.tmod_eq_emod_of_nonneg h0]
theorem a7V{s n}(hs:nZ s)(h0:0<=n)(h1:n<2^62){o}(ho:o.length=s.length):(Qe (a4w s) s.length (n,o)).2=fP s n:=by
 have:=Uf (g:=a4w s) (k:=s.length) (s:=(n,o)) (fun k x=>x.1=n/bF (s.drop k)/\x.2.length=s.length/\∀j,k<=j->j<s.length->x.2.getD j 0=(fP s n).getD j 0)
  ⟨by simp[bF],ho,fun j h1 h2=>by omega⟩ (fun k x hk hx=>by
   obtain⟨e1,e2,e3⟩:=hx;have hp:1<=bF (s.drop (k+1)):=jG fun a ha=>hs a (a6a ha);have ha:=hs _ (dG hk);have hx0:0<=x.1:=by rw[e1];exact ahK h0 (by omega)
   have hx1:x.1<=n:=by rw[e1];exact Int.ediv_le_self _ h0
   simp only[a4w];rw[agz hx0 (by omega) (by omega),agA hx0 (by omega) (by omega)];refine⟨?_,by simp[e2],fun j h2 h3=>?_⟩
   .rw[Qj hk,Int.mul_comm,<-Int.ediv_ediv_of_nonneg (by omega),e1]
   .rw[zT (by omega)];split
    .rename_i e;subst e;rw[Ug s n k hk,e1]
    .exact e3 j (by omega) h3)
 obtain⟨_,e2,e3⟩:=this;rw[pz (d:=0) (by rw[e2,Yi])];intro j hj;exact e3 j (a5U _) (by omega)
def Gv(s:LI0):Int:=aS (fun k n=>if i64.wrap (n*s.getD k 0)<3000 then i64.wrap (n*s.getD k 0)else 3000) s.length 0 1
theorem Yj{s}(hs:nZ s):Gv s=min 3000 (bF s):=by
 have:=dh (g:=fun k n=>if i64.wrap (n*s.getD k 0)<3000 then i64.wrap (n*s.getD k 0)else 3000) (m:=s.length) (k:=0) (s:=(1:Int)) (fun k n=>n=min 3000 (bF (s.take k))) (by simp[bF];decide) (fun j n h1 h2 h3=>by
  have hj:j<s.length:=by omega
  have ha:=hs _ (dG hj);have hp:1<=bF (s.take j):=jG fun a ha=>hs a (aaf ha);have e:bF (s.take (j+1))=bF (s.take j)*s.getD j 0:=by rw[a7B hj,Fg];simp[bF,List.getD,a0Q hj]
  have Xt:1<=n:=by omega
  have hn1:n<=3000:=by omega
  have h4:n*s.getD j 0<=3000*12:=Int.mul_le_mul hn1 ha.2 (by omega) (by omega);have h5:1<=n*s.getD j 0:=by have:=Int.mul_le_mul Xt ha.1 (by omega) (by omega);omega
  rw[fV (by omega) (by omega),e];by_cases hc:bF (s.take j)<=3000
  .have:n=bF (s.take j):=(by omega);rw[this];split<;>omega
  have:n=3000:=by omega
  subst this;have h6:3000*s.getD j 0<=bF (s.take j)*s.getD j 0:=ab8 (by omega) (by omega);have h7:3000<=3000*s.getD j 0:=by omega
  split<;>omega)
 rw[a3L,adB]at this;exact this
theorem wC.adE{s}(h:wC s):Gv s=bF s:=by rw[Yj h.sz];have:=h.many;omega
abbrev uP(s:LI0):Nat:=(bF s).toNat
theorem wC.VY{s:LI0}(h:wC s):((uP s:Nat):Int)=bF s:=by have:=jG h.sz;show((bF s).toNat:Int)=_;omega
theorem wC.uP{s:LI0}(h:wC s):((uP s:Nat):Int)=Gv s:=by rw[h.adE,h.VY]
theorem wC.lt{s}(h:wC s){k}(hk:k<bK.uP s):decide ((k:Int)<Gv s)=true:=by rw[<-h.uP];exact bg hk
theorem wC.no{s}(h:wC s):decide (((bK.uP s:Nat):Int)<Gv s)=false:=by rw[<-h.uP];exact fC _
theorem wC.akp{s}(h:wC s):s.length<=ah:=by have:=h.len;unfold ah;omega
theorem Qk{α}(f n):aS (fun k (s:List α)=>s++[f k]) n 0 []=(List.range n).map f:=by have:=dh (g:=fun k (s:List α)=>s++[f k]) (m:=n) (k:=0) (s:=[]) (fun k s=>s=(List.range k).map f) rfl (fun j s _ _ h=>by rw[h,abW,a4Q];rfl);simpa using this
end bK
namespace Tw
open Go Go.Proofs
theorem sO(g t fz):∀(vs) (o) (cur) (w:LI4),w.heap[g]? = some (.cells cur t fz)->o+vs.length<=cur.size ->w.setCells g o vs=w.setRow g (cur.toList.take o++vs++cur.toList.drop (o+vs.length)).toArray
 | [],o,cur,w,hg,_=>by simp only[World.setCells,a6g,a5W,adi,ahh,Array.toArray_toList];rw[setRow_self w g cur t fz hg]
 |v::rest,o,cur,w,hg,hl=>by
  simp only[a4C]at hl;rw[World.setCells,setCell_eq_setRow w g o cur t fz v hg,
   sO g t fz rest (o+1) (cur.setIfInBounds o v) (w.setRow g (cur.setIfInBounds o v)) (setRow_heap w g cur _ t _ hg) (by simp;omega),setRow_setRow]
  congr 2;have e:=list_seg_step cur.toList o v rest (by simp;omega);simpa[Array.toList_setIfInBounds,aaz]using e
section
variable{P:LI1}{M:Mp}{D:Key->Prop}{w:LI4}{s:St}
theorem agB(hV:Valid M D s.get w){b k cs new ls p}(hm:M (.h b)=some (.cells ls))(hd:D (.h b))(hb:s.heap[b]? = some (.cells k cs))(hk:k≠.ro) (hp:p∈ls) (yC:p.ext=cs.length) (hn:∀c∈new,iO c=true) (hlen:cs.length<new.length) {w'} (g arr ty)(wz:w'.heap[g]? = some (.cells arr ty (0,0))) (RG:∀c,c<w.heap.size->c≠g->w'.heap[c]? = w.heap[c]?) (hg:(g=p.c/\arr.size=p.tot)\/g=w.heap.size)(qV:w.heap.size<=w'.heap.size) (ho:w'.os=w.os) (hou:w'.output=w.output) (ht:w'.tape=w.tape) (afy:new.length<=arr.size)(VZ:∀(i:Nat) (c) (v),new[i]? = some c->arr[i]? = some v->VR M.h c v) :∃M' q,Valid M' D (St.get { s with heap:=s.heap.set b (.cells .last new) }) w'/\Ext M s.get w M' (St.get { s with heap:=s.heap.set b (.cells .last new) }) w' [.h b] /\(∃qw,M' (.h b)=some (.cells qw)/\q∈qw)/\q.ext=new.length/\q.base=0/\q.c=g/\q.tot=arr.size:=by
 have hgt:s.get (.h b)=some (.cells k cs):=by simp[St.get,hb]
 have yO:=(a0x.1 hb).1;obtain⟨gQ,h1,h2⟩:=hV.ok _ _ hm hd;rw[hgt]at h1;cases h1;obtain⟨ho1,AQ,aay,OW⟩:=h2;have V7:∀b0,s.get (.h b)=some b0->wr b0=true:=fun b0 yu=>by rw[hgt]at yu;cases yu;cases k<;>simp_all [wr]
 have jD:(ls.map (·.c)).Nodup:=by
  cases k with
  |ro=>exact absurd rfl hk
  |own=>obtain⟨q,rfl,_⟩:=aay rfl;simp
  |grow=>exact(OW (.inl rfl)).1
  |last=>exact(OW (.inr rfl)).1
 have aQ:∀q∈ls,q.c<w.heap.size:=fun q hq=>hV.inb _ _ hm q.c (a1w.2 ⟨q,hq,rfl⟩)
 let p':Pl:=⟨g,0,new.length,arr.size⟩
 have hold:∀q∈ls,q.c≠g->JQ (dN M (.h b) (.cells (p'::ls.filter fun q=>q.c≠g))).h w' .last new q:=fun q hq hqg=>by have Dz:=AQ q hq;obtain⟨uG,ty',fz',t1,t2,t3,t4⟩:=Dz.row;have hx:=Dz.ext;exact⟨⟨uG,ty',fz',(RG q.c (aQ q hq) hqg).trans t1,t2,fun _=>t3 hk,fun hz=>by have:=hz rfl;omega⟩,Dz.fit,by omega,fun _=>Dz.base hk⟩
 let qw:List Pl:=p'::ls.filter fun q=>q.c≠g
 have JX:∀q,q∈qw↔q=p'\/(q∈ls/\q.c≠g):=fun q=>by simp[qw]
 have ZQ:JO (.cells ls) (.cells qw):=by
  intro q hq;by_cases he:q.c=g
  .rcases hg with⟨e,e2⟩|e
   .have:q=p:=Ie jD hp hq (by rw[he,e]);subst this;exact⟨p',by simp[qw],e,by simp[p',(AQ q hq).base hk],by simp[p'];omega,by simp[p',e2]⟩
   .have:=aQ q hq;omega
  .exact⟨q,(JX q).2 (.inr ⟨hq,he⟩),rfl,rfl,a1l _,rfl⟩
 have hcb:∀c∈aI (.cells qw),c=g\/c∈aI (.cells ls):=by
  intro c hc;simp only[aI,a1w]at hc ⊢;obtain⟨q,hq,rfl⟩:=hc;rcases(JX q).1 hq with rfl|⟨h1,_⟩
  .exact .inl rfl
  .exact .inr ⟨q,h1,rfl⟩
 have fO:∀c,c<w.heap.size->c∉aI (.cells qw)->w'.heap[c]? = w.heap[c]?:=fun c hc hnc=>RG c hc (fun e=>hnc (by subst e;exact a1w.2 ⟨p',by simp[qw],rfl⟩));have fZ:∀c∈aI (.cells qw),(∃l0,M (.h b)=some l0/\c∈aI l0)\/w.heap.size<=c:=by
  intro c hc;rcases hcb c hc with rfl|h
  .rcases hg with⟨e,_⟩|e
   .exact .inl ⟨_,hm,by rw[e];exact a1w.2 ⟨p,hp,rfl⟩⟩
   .exact .inr (by omega)
  .exact .inl ⟨_,hm,h⟩
 have FN:tZ M (dN M (.h b) (.cells qw)):=lS fun l0 h0=>by rw[hm]at h0;cases h0;exact ZQ
 have vZ:∀q∈qw,q.ext=new.length->q=p':=by
  intro q hq e;rcases(JX q).1 hq with rfl|⟨h1,_⟩
  .rfl
  .have:=(AQ q h1).ext;omega
 have RF:pV (dN M (.h b) (.cells qw)).h w' (.cells .last new) (.cells qw):=by
  refine⟨hn,fun q hq=>?_,by simp,fun _=>⟨?_,fun q1 Dz q2 GK e1 e2=>by rw[vZ q1 Dz e1,vZ q2 GK e2]⟩⟩
  .rcases(JX q).1 hq with rfl|⟨h1,h2⟩
   .exact⟨⟨arr,ty,(0,0),wz,rfl,fun _=>rfl,fun _ i c v _ a b=>(VZ i c v a (by simpa[p']using b)).mono FN.h⟩,by simpa[p']using afy,a1l _,fun _=>rfl⟩
   .exact hold q h1 h2
  .simp only[qw,a4U,a5I];refine⟨fun JX=>?_,jD.sublist (List.Sublist.map _ List.filter_sublist)⟩;obtain⟨q,hq,he⟩:=a1w.1 JX;have:=(a5X.1 hq).2;simp[p']at he;simp[he]at this
 refine⟨dN M (.h b) (.cells qw),p',?_,?_,⟨qw,by simp[dN],by simp[qw]⟩,rfl,rfl,rfl,rfl⟩
 .rw[jm s b _ yO];exact hV.upd (.h b) _ _ (fun j hj=>.inl hj) (fun l0 h0=>by rw[hm]at h0;cases h0;exact⟨hd,ZQ,V7⟩) fO fZ qV RF
 .rw[jm s b _ yO];exact Ext.upd (.h b) _ _ [.h b] (.inl ⟨by simp[hgt],rfl,by simp[hm],V7⟩) FN fO fZ qV ho hou ht
end
open Go.Shelf
theorem MV{w need old e}(h:need<2^63):grownCap w need old e<2^63:=by have:=Nat.mod_lt (w.tape w.drawn (.appendCap need old e)) (show 0<2^63-need by omega);simp only[grownCap,Question.cut];omega
section
variable{P:LI1}{ρ:Ren}
theorem a4x{M w h}(hV:Valid M rU (lD h) w){b off len cap ex y}(hx:VR M.h (.aO b off len cap 1 ex) y)(h0:0<len){k cs r}(hb:h[b]? = some (.cells k cs))(hk:k≠.ro)(hl:k=.last->off+cap=cs.length) (hr:sub cs off len=some r) :∃ls p cap',M (.h b)=some (.cells ls)/\p∈ls/\y=.slice (some ⟨p.c,off,none⟩) len cap'/\len<=cap'/\cap<=cap'/\off+cap<=p.ext/\off+cap'<=p.tot/\cap'<2^63/\JQ M.h w k cs p/\p.base=0/\(∀c∈cs,iO c=true) /\∃xs,bZ M.h r xs/\∀(j) (v),xs[j]? = some v->w.cell? ⟨p.c,off+j,none⟩=some v:=by
 cases hx with
 |aO hm hp yC hle uf hex ha abu=>
  rename_i ls p a cap';obtain⟨gQ,h1,h2⟩:=hV.ok _ _ hm trivial;have hg:lD h (.h b)=some (.cells k cs):=by simp[St.get,hb]
  rw[hg]at h1;cases h1;have hp:=hp.resolve_left (by omega);have AQ:=h2.2.1 p hp;have yu:=AQ.base hk;rcases ha with ha|⟨rfl,ha⟩
  .omega
  obtain⟨xs,g1,g2⟩:=AQ.slice hr (by omega) (fun e=>by have:=hl e;have:=AQ.ext;omega);rw[yu]at g2 ha ⊢;simp only[a3L,aiy]at g2 ha yC ⊢;exact⟨ls,p,cap',hm,hp,rfl,by omega,uf,yC,ha,abu,AQ,yu,h2.1,xs,g1,g2⟩
theorem a2z{N us xs}(h:bZ N us xs)(ho:∀c∈us,iO c=true):∀v∈xs,v.oneCell'=true:=by
 intro v hv;obtain⟨i,hi,rfl⟩:=a5T.1 hv;have wS:i<us.length:=by rw[h.len];exact hi
 exact EP (h.at_ i us[i] xs[i] (by simp[wS]) (by simp[hi])) (ho _ (a5K wS))
end
open Go.Sort
theorem agC{N k n y}(h:VR N (.int k n) y):y=.int k n:=by cases h;rfl
section
variable{P:LI1}{M:Mp}{D:Key->Prop}{C:Ct}{w w':LI4}
theorem agD(h:Valid M D C w){k ls p cs cs' kk Ci}(hk:M k=some (.cells ls)) (hd:D k) (hc:C k=some (.cells kk cs)) (hp:p∈ls) (yL:(kk=.own/\Ci=.own)\/((kk=.grow\/kk=.last)/\Ci=.last/\p.ext=cs.length))(hl:cs'.length=cs.length) (hn:∀c∈cs',iO c=true) {uG ty'} (wz:w'.heap[p.c]? = some (.cells uG ty' (0,0))) (hs':uG.size=p.tot)(RG:∀c,c<w.heap.size->c≠p.c->w'.heap[c]? = w.heap[c]?) (qV:w.heap.size<=w'.heap.size) (ho:w'.os=w.os) (hou:w'.output=w.output) (ht:w'.tape=w.tape)(VZ:∀(i:Nat) (c) (v),cs'[i]? = some c->uG[i]? = some v->VR M.h c v) :Valid M D (mQ C k (.cells Ci cs')) w'/\Ext M C w M (mQ C k (.cells Ci cs')) w' [k]:=by
 obtain⟨hb,he,h1,AQ,jD,huq,arr,ty,hr,hs,hle,hv⟩:=h.wrB hk hd hc hp yL;have iI:kk≠.ro:=by rcases yL with⟨e,_⟩|⟨e|e,_⟩<;>rw[e]<;>simp
 have V7:∀b0,C k=some b0->wr b0=true:=fun b0 yu=>by rw[hc]at yu;cases yu;cases kk<;>simp_all [wr]
 have qU:dN M k (.cells ls)=M:=JR hk;have fO:∀c,c<w.heap.size->c∉aI (.cells ls)->w'.heap[c]? = w.heap[c]?:=fun c hc0 hc=>RG c hc0 (fun e=>hc (by rw[e];exact a1w.2 ⟨p,hp,rfl⟩));have fZ:∀c∈aI (.cells ls),(∃l0,M k=some l0/\c∈aI l0)\/w.heap.size<=c:=fun c hc=>.inl ⟨_,hk,hc⟩;have FN:tZ M (dN M k (.cells ls)):=by rw[qU];exact .refl _
 have aQ:∀q∈ls,q.c<w.heap.size:=fun q hq=>h.inb _ _ hk q.c (a1w.2 ⟨q,hq,rfl⟩);refine⟨?_,?_⟩
 .have:=h.upd (D':=D) (w':=w') k (.cells Ci cs') (.cells ls) (fun j hj=>.inl hj) (fun l0 h0=>by
   rw[hk]at h0;cases h0;exact⟨hd,.refl _,V7⟩) fO fZ qV (by
   rw[qU];refine⟨hn,fun q hq=>?_,fun e=>?_,fun e=>⟨jD,fun q1 Dz q2 GK e1 e2=>by rw[huq q1 Dz (by omega),huq q2 GK (by omega)]⟩⟩
   .have ZK:=AQ q hq;by_cases Zw:q.c=p.c
    .have:=Ie jD hp hq Zw;subst this;exact⟨⟨uG,ty',(0,0),wz,hs',fun _=>rfl,fun _ i c v _ a b=>VZ i c v a (by simpa[hb]using b)⟩,by omega,by omega,fun _=>hb⟩
    .obtain⟨aqs,ty2,fz2,t1,t2,t3,t4⟩:=ZK.row;refine⟨⟨aqs,ty2,fz2,(RG q.c (aQ q hq) Zw).trans t1,t2,fun _=>t3 iI,fun hz i c v hi a b=>?_⟩,ZK.fit,by have:=ZK.ext;omega,fun _=>ZK.base iI⟩;exfalso;apply Zw;rcases yL with⟨e,_⟩|⟨_,e,_⟩
     .obtain⟨b',g1,g2⟩:=h.ok k _ hk hd;rw[hc]at g1;cases g1;obtain⟨q',g3,_⟩:=g2.2.2.1 e;rw[g3]at hq hp;simp at hq hp;rw[hq,hp]
     .rw[huq q hq (by rw[hz e];omega)]
   .rcases yL with⟨e0,_⟩|⟨_,e1,_⟩
    .obtain⟨b',g1,g2⟩:=h.ok k _ hk hd;rw[hc]at g1;cases g1;obtain⟨q',g3,g4⟩:=g2.2.2.1 e0;exact⟨q',g3,by omega⟩
    .rw[e1]at e;cases e)
  rwa [qU]at this
 .have:=Ext.upd (M:=M) (C:=C) (w:=w) (w':=w') k (.cells Ci cs') (.cells ls) [k] (.inl ⟨by simp[hc],rfl,by simp[hk],V7⟩) FN fO fZ qV ho hou ht
  rwa [qU]at this
end
def MW:List TV->Option LI0
 | []=>some []
 |.int .i64 n::r=>(MW r).map (n::·)
 |_=>none
theorem Ql:∀{cs} {zs},MW cs=some zs->cs=zs.map fun n=>TV.int .i64 n
 | [],zs,h=>by simp[MW]at h;subst h;rfl
 |c::r,zs,h=>by
  unfold MW at h;split at h
  .rename_i e;cases e
  .rename_i n r' e;cases e;simp only[a0A]at h;obtain⟨ys,h1,rfl⟩:=h;rw[Ql h1];rfl
  cases h
def gu(l:LI0):LI0:=l.mergeSort fun x y=>decide (x<=y)
def a7W(g:LI0->LI0)(fI:Nat):dO
 |.fn f [] [],[d],h=>
  if f=fI then
   match d with
   |.nil .aO=>some (.dM [],h,[])
   |.aO _ _ 0 _ _ _=>some (.dM [],h,[])
   |.aO b 0 n n' 1 _=>match h[b]? with
    |some (.cells k cs)=>match AL k true,MW cs with
     |some k',some zs=>if n=n'/\cs.length=n/\0<n/\n<=2^20 then some (.dM [],h.set b (.cells k' ((g zs).map fun x=>TV.int .i64 x)),[b])else none
     |_,_=>none
    |_=>none
   |_=>none
  else none
 |_,_,_=>none
def Qm:Nat->dO:=a7W gu
section
variable{P:LI1}{ρ:Ren}
theorem Yk(L:Lays.n189 P ρ):iM P (Qm (ρ.f 189)):=by
 intro fv args h v h' ws hc M w x xs hV vM hx GV;unfold Qm a7W at hc;split at hc
 case h_2=>cases hc
 rename_i f d;split at hc
 case isFalse=>cases hc
 rename_i hf;subst hf;cases hx with
 | @fn _ _ _ ys zs h1 h1a h3 h3a=>
 have:ys=[]:=a4u h1.symm;subst this;have:zs=[]:=a4u h3.symm;subst this;obtain⟨dv,r1,rfl,hdv,GV⟩:=GV.iq;have:=GV.oO;subst this;have enters:∀{R:LI3->LI4->Prop},Calls P (ρ.f 189) #[dv] w (Ko R) ->
   ∃d,(∀w,(Deferred.ofValue (.func (.func (ρ.f 189)) [].toArray [].toArray) [dv].toArray).run P w=.ok d w)/\((EU P d w R/\∃f a b,(TV.fn (ρ.f 189) [] [])=.fn f a b)\/(Iw P d w R/\∃l,(TV.fn (ρ.f 189) [] [])=.lC l)):=by
  intro R KL;refine⟨{ target:=.fn (.func (ρ.f 189)) #[],args:=#[dv] },fun w=>by simp[Deferred.ofValue],.inl ⟨⟨ρ.f 189,_,?_,fun n=>callsIn_wide.2 KL⟩,_,_,_,rfl⟩⟩;have e1:=L.f189;have e2 : ¬ (Body.n189 ρ).name = "runtime.NumGoroutine" := by simp [Body.n189]
  obtain⟨c,e3⟩:∃c,(Body.n189 ρ).body=some c:=⟨_,rfl⟩;simp[invoke,callFunc,program,Sem.run,e1,e2,e3]
 split at hc
 .simp only[a09,a1k]at hc;obtain⟨rfl,rfl,rfl⟩:=hc;cases hdv;refine enters ((Any.slices_Sort_int_none L none 0 w).mono fun e w' ⟨he,hw⟩=>?_);subst he;subst hw;exact⟨M,hV,vM,.refl _ _ _,.RQ .nil⟩
 .simp only[a09,a1k]at hc;obtain⟨rfl,rfl,rfl⟩:=hc;cases hdv;refine enters ((Any.slices_Sort_int_none L _ _ w).mono fun e w' ⟨he,hw⟩=>?_);subst he;subst hw;exact⟨M,hV,vM,.refl _ _ _,.RQ .nil⟩
 .rename_i b n n' ex _;split at hc
  case h_2=>cases hc
  rename_i k cs hb;split at hc
  case h_2=>cases hc
  rename_i k' zs oQ hzs;split at hc
  case isFalse=>cases hc
  rename_i Gg;obtain⟨rfl,nP,Xt,akq⟩:=Gg;simp only[a09,a1k]at hc;obtain⟨rfl,rfl,rfl⟩:=hc;have JW:=Ql hzs;have Xu:zs.length=n:=by rw[<-nP,JW,a4X]
  have hk:k≠.ro:=by rintro rfl;cases oQ
  have a7X:sub cs 0 n=some cs:=by unfold sub;rw[a1e (by omega)];simp[<-nP]
  obtain⟨ls,p,cap',k1,k2,rfl,k3,k4,k5,k6,k7,k8,k9,k10,ZB,k11,k12⟩:=a4x hV hdv Xt hb hk (fun _=>by omega) a7X;have hpe:p.ext=cs.length:=by have:=k8.ext;omega
  obtain⟨arr,ty,fz,z1,z2,z3,_⟩:=k8.row;have:=z3 hk;subst this;have aQ:=(a2I.1 z1).1;have hcv:ZB=zs.map fun n=>Value.int .i64 n:=by
   apply aaK;intro i;by_cases hi:i<n
   .have hi1:i<cs.length:=(by omega);have MC:i<ZB.length:=by rw[<-k11.len];exact hi1
    have:=k11.at_ i cs[i] ZB[i] (by simp[hi1]) (by simp[MC]);have hc1:cs[i]? = (zs.map fun n=>TV.int .i64 n)[i]?:=(by rw[<-JW]);rw[a0Q hi1,a4V,a0Q (by omega)]at hc1;simp only[a1n,a09]at hc1;rw[hc1]at this;rw[a0Q MC,a4V,a0Q (by omega)];rw[agC this];rfl
   .rw[a4O (by rw[<-k11.len];omega),a4O (by rw[a4X];omega)]
  have hH:Holds (Value.int .i64) w p.c 0 zs.toArray:=fun j hj=>by simp only[af6]at hj;refine⟨?_,by simp[World.frozen?,z1]⟩;refine k12 j _ ?_;rw[hcv,a4V,a0Q hj];simp[hj]
  have KL:=Any.slices_Sort_int L p.c 0 cap' zs w hH aQ (by omega);rw[Xu]at KL;refine enters (KL.mono fun e w' ⟨he,N,os,hw⟩=>?_);subst he;have hsl:(gu zs).length=n:=by unfold gu;rw[ab6,Xu]
  have hgb:lD h (.h b)=some (.cells k cs):=by simp[St.get,hb]
  have yL:(k=.own/\k'=.own)\/((k=.grow\/k=.last)/\k'=.last/\p.ext=cs.length):=by
   rcases Me oQ with e|⟨a,b,_⟩
   .exact .inl e
   .exact .inr ⟨a,b,hpe⟩
  have wz:w'.heap[p.c]? = some (.cells (putCells (Value.int .i64) 0 (gu zs).toArray arr) ty (0,0)):=by rw[hw,heap_grow_old _ _ (by simp[putRow,mapBlock,Sort.ahead];exact aQ)];simp only[putRow,mapBlock,Sort.ahead,abR,a2p,z1,a1n,onCells];rfl
  have RG:∀c,c<w.heap.size->c≠p.c->w'.heap[c]? = w.heap[c]?:=fun c hc0 iI=>by rw[hw,heap_grow_old _ _ (by simp[putRow,mapBlock,Sort.ahead];exact hc0)];simp only[putRow,mapBlock,Sort.ahead,abR];rw[a18 (fun e=>iI e.symm)]
  obtain⟨g1,g2⟩:=agD (w':=w') (cs':=(gu zs).map fun x=>TV.int .i64 x) hV k1 trivial hgb k2 yL (by rw[a4X,hsl,nP]) (fun c hc=>by
   obtain⟨y,_,rfl⟩:=a1w.1 hc;rfl) wz (by simp[putCells,z2]) RG (by rw[hw];simp[putRow,mapBlock,Sort.ahead]) (by rw[hw];rfl) (by rw[hw];rfl) (by rw[hw];rfl) (fun i c u hc hu=>by
   rw[a4V]at hc;simp only[a0A]at hc;obtain⟨y,hy,rfl⟩:=hc;have hi:i<(gu zs).length:=(a0x.1 hy).1;have hia:i<arr.size:=(by omega);simp only[putCells,Array.getElem?_mapIdx,a4o hia,a1n,a09]at hu;rw[a1e ⟨a5U _,by simp;omega⟩]at hu;subst hu;have:(gu zs).toArray[i-0]! = y:=by have h9:=(a0x.1 hy).2;simp[hi,h9]
   rw[this];exact .int _ _)
  have yO:=(a0x.1 hb).1;have GU:lD (h.set b (.cells k' ((gu zs).map fun x=>TV.int .i64 x)))=mQ (lD h) (.h b) (.cells k' ((gu zs).map fun x=>TV.int .i64 x)):=jm ⟨[],[],h,[]⟩ b _ yO [] [];exact⟨M,by rw[GU];exact g1,vM,by rw[GU];exact g2,.RQ .nil⟩
 .cases hc
end
def Qn(h h':List HB):Prop:=(∀b:Nat,(∀cs,h[b]?≠some (HB.nN cs))->h'[b]? = h[b]?)/\∀(b:Nat) cs,h[b]? = some (HB.nN cs)->∃cs',cs'.Perm cs/\h'[b]? = some (HB.cells .last cs')
def agG(f:Nat)(call:dO)(fv:TV)(args:List TV)(h:List HB)(v:TV):Prop:=(∃k n,v=.int k n)/\fv=.fn f [] []/\∀h',Qn h h'->∃h2,call fv args h'=some (v,h2,[])
open Classical in
def a4y(f:Nat)(call:dO):dO:=fun fv args h=>if hx:∃v,agG f call fv args h v then some (Classical.choose hx,h,[])else none
theorem Uh{h h'}(hu:Qn h h'):∀b:Nat,(h'[b]?).isSome=(h[b]?).isSome:=fun b=>by
 cases e:h[b]? with
 |none=>rw[hu.1 b (fun cs=>by rw[e];nofun),e]
 |some x=>
  by_cases hb:∃cs,x=.nN cs
  .obtain⟨cs,rfl⟩:=hb;obtain⟨cs',_,e2⟩:=hu.2 b cs e;rw[e2];rfl
  .rw[hu.1 b (fun cs=>by rw[e];intro h2;cases h2;exact hb ⟨cs,rfl⟩),e]
theorem Yl(h:List HB):∀(g:Nat->List TV),(∀(b:Nat) cs,h[b]? = some (HB.nN cs)->(g b).Perm cs)->Qn h (h.mapIdx fun b x=>match x with|HB.nN _=>HB.cells .last (g b)|x=>x):=fun g hg=>by
 constructor
 .intro b hb;rw[ai4];cases e:h[b]? with
  |none=>rfl
  |some x=>
   simp only[a1n];cases x<;>first|rfl|exact absurd e (hb _)
 .intro b cs e;exact⟨g b,hg b cs e,by rw[ai4,e];rfl⟩
theorem Ym{M h w}(hV:Valid M rU (lD h) w):∃h',Qn h h'/\Valid M rU (lD h') w:=by
 have hg:∀b:Nat,∃g:List TV,∀cs,h[b]? = some (HB.nN cs)->g.Perm cs/\∀l,M (.h b)=some l->pV M.h w (.cells .last g) l:=fun b=>by
  by_cases hb:∃cs,h[b]? = some (HB.nN cs)
  .obtain⟨cs,hb⟩:=hb;cases hm:M (.h b)with
   |none=>exact⟨cs,fun F8 h2=>⟨by rw[hb]at h2;cases h2;exact .refl _,fun l hl=>by cases hl⟩⟩
   |some l=>
    obtain⟨bb,c1,c2⟩:=hV.ok _ _ hm trivial;have c1:h[b]? = some bb:=c1;rw[hb]at c1;cases c1;cases l with
    |obj r o=>exact c2.elim
    |cells ls=>
     obtain⟨cs',p1,p2⟩:=c2;exact⟨cs',fun F8 h2=>⟨by rw[hb]at h2;cases h2;exact p1,fun l hl=>by cases hl;exact p2⟩⟩
  exact⟨[],fun cs h2=>absurd ⟨cs,h2⟩ hb⟩
 let g:Nat->List TV:=fun b=>Classical.choose (hg b)
 have hgs:∀(b:Nat) cs,h[b]? = some (HB.nN cs)->(g b).Perm cs/\∀l,M (.h b)=some l->pV M.h w (.cells .last (g b)) l:=fun b=>aap (hg b);have hu:=Yl h g fun b cs e=>(hgs b cs e).1;generalize hh:(h.mapIdx fun b x=>match x with|HB.nN _=>HB.cells .last (g b)|x=>x)=h' at hu;refine⟨h',hu,?_⟩;have XM:∀(b:Nat) cs,h[b]? = some (HB.nN cs)->h'[b]? = some (HB.cells .last (g b)):=fun b cs e=>by rw[<-hh,ai4,e];rfl
 refine⟨fun k l hk _=>?_,fun k k' l l' b iI hk oQ _ hc hw=>?_,hV.inb⟩
 .obtain⟨bb,c1,c2⟩:=hV.ok k l hk trivial;cases k with
  |l k=>exact⟨bb,c1,c2⟩
  |h b=>
   have c1:h[b]? = some bb:=c1;by_cases hb:∃cs,bb=.nN cs
   .obtain⟨cs,rfl⟩:=hb;exact⟨_,XM b cs c1,(hgs b cs c1).2 l hk⟩
   refine⟨bb,?_,c2⟩;show h'[b]? = some bb;rw[hu.1 b (fun cs=>by rw[c1];intro h2;cases h2;exact hb ⟨cs,rfl⟩),c1]
 obtain⟨bb,c1,_⟩:=hV.ok k l hk trivial;refine hV.own k k' l l' bb iI hk oQ trivial c1 ?_;cases k with
 |l k=>have hc:lD h (.l k)=some b:=hc;rw[c1]at hc;cases hc;exact hw
 |h i=>
  have c1:h[i]? = some bb:=c1;have hc:h'[i]? = some b:=hc;by_cases hb:∃cs,bb=.nN cs
  .obtain⟨cs,rfl⟩:=hb;rfl
  rw[hu.1 i (fun cs=>by rw[c1];intro h2;cases h2;exact hb ⟨cs,rfl⟩),c1]at hc;cases hc;exact hw
theorem a0I{M h h1 w w' v y}(hu:Qn h h1)(hv:∃k n,v=.int k n)(hR:jE M h1 w v h1 [] y w'):jE M h w v h [] y w':=by
 obtain⟨M',a1,a2,a3,a4⟩:=hR;have hs:∀k,(lD h1 k).isSome=(lD h k).isSome:=fun k=>by
  cases k with
  |l k=>rfl
  |h b=>exact Uh hu b
 have JJ:∀(b:Nat) bb,h1[b]? = some bb->(h[b]? = some bb/\∀cs,bb≠HB.nN cs)\/∃cs cs',bb=HB.cells .last cs'/\cs'.Perm cs/\h[b]? = some (HB.nN cs):=fun b bb e=>by
  by_cases hb:∃cs,h[b]? = some (HB.nN cs)
  .obtain⟨cs,hb⟩:=hb;obtain⟨cs',p,e2⟩:=hu.2 b cs hb;rw[e]at e2;cases e2;exact .inr ⟨cs,cs',rfl,p,hb⟩
  have:=hu.1 b fun cs h2=>hb ⟨cs,h2⟩;rw[e]at this;exact .inl ⟨this.symm,fun cs h2=>hb ⟨cs,by rw[<-this,h2]⟩⟩
 refine⟨M',⟨fun k l hk _=>?_,fun k k' l l' b iI hk oQ _ hc hw=>?_,a1.inb⟩,a2,⟨a3.JI,a3.frame,fun _ _ _=>rfl,fun k hk hn=>a3.kR k ?_ hn,a3.fresh,a3.size,fun _ h=>h,fun k hk=>(by cases hk),fun k hk=>(by cases hk),a3.os,a3.output,a3.tape⟩,a4⟩
 .obtain⟨bb,c1,c2⟩:=a1.ok k l hk trivial;cases k with
  |l k=>exact⟨bb,c1,c2⟩
  |h b=>
   rcases JJ b bb c1 with⟨e,_⟩|⟨cs,cs',rfl,p,e⟩
   .exact⟨bb,e,c2⟩
   refine⟨_,e,?_⟩;cases l with
   |obj r o=>exact c2.elim
   |cells ls=>exact⟨cs',p,c2⟩
 .obtain⟨bb,c1,_⟩:=a1.ok k l hk trivial;refine a1.own k k' l l' bb iI hk oQ trivial c1 ?_;cases k with
  |l k=>have hc:lD h1 (.l k)=some b:=hc;rw[c1]at hc;cases hc;exact hw
  |h i=>
   have hc:h[i]? = some b:=hc;rcases JJ i bb c1 with⟨e,_⟩|⟨cs,cs',rfl,p,e⟩
   .rw[hc]at e;cases e;exact hw
   rfl
 rcases hk with hk|hk
 .exact .inl (by rw[hs];exact hk)
 refine .inr ?_;have:=hs k;rw[hk]at this;cases e:lD h1 k with
 |none=>rfl
 |some x=>rw[e]at this;cases this
theorem abv{P f call}(hC:iM P call):iM P (a4y f call):=by
 intro fv args h v h' ws hc M w x xs hV vM hx GV;unfold a4y at hc;split at hc
 rotate_left
 .cases hc
 rename_i hb;have hs:=aap hb;simp only[a09,a1k]at hc;obtain⟨rfl,rfl,rfl⟩:=hc;obtain⟨hv,hfn,AY⟩:=hs;obtain⟨h1,hu,hV1⟩:=Ym hV;obtain⟨h2,yP⟩:=AY h1 hu;obtain⟨d,e1,e2⟩:=hC _ _ _ _ _ _ yP M w x xs hV1 vM hx GV;refine⟨d,e1,?_⟩;rcases e2 with⟨⟨f',az,q1,q2⟩,r⟩|⟨⟨l,f',tmps,vY,body,q1,q2⟩,r⟩
 .refine .inl ⟨⟨f',az,q1,fun n=>CallsIn.mono (F:=Fence.wide) (q2 n) fun en w3 XD=>?_⟩,r⟩;cases en with
  |panicked c=>exact XD.elim
  |outgrown=>exact XD.elim
  |returned y=>
   refine a0I hu hv (jE.norm (nN:=false) hV1 vM ?_ XD);obtain⟨k,n,e⟩:=hv;rw[e];simp[Pn,CW,xO,nY,DR,Vq,Nl]
 obtain⟨l',e⟩:=r;exact absurd hfn (by rw[e];nofun)
theorem abw{f call args h k n}(hb:agG f call (.fn f [] []) args h (.int k n))(iI:∃h',Qn h h'):a4y f call (.fn f [] []) args h=some (.int k n,h,[]):=by
 have hx:∃v,agG f call (.fn f [] []) args h v:=⟨_,hb⟩;unfold a4y;rw[dif_pos hx];obtain⟨h',hu⟩:=iI;obtain⟨h2,h1⟩:=(aap hx).2.2 h' hu;obtain⟨h3,h4⟩:=hb.2.2 h' hu;rw[h4]at h1;have:Classical.choose hx=.int k n:=by simp only[a09,a1k]at h1;exact h1.1.symm
 rw[this]
open Go.ChangeShapes
section
variable{H:Type}{nT:LI2×LI3->H}{P:LI1}{w:LI4}
def Rd(nT:LI2×LI3->H)(P:LI1)(w:LI4)(t:LI2)(d:DataW H):Prop:=∃cs,Reads nT P w t cs d
theorem agH{t k d}(ht:P.underlying t=some (.int k))(hd:Rd nT P w t d):∃n,d=.lit (.int k n)/\(Lit.int k n).wf=true:=by
 obtain⟨cs,fuel,ps,hd⟩:=hd;cases fuel with
 |zero=>simp[DataW.trod]at hd
 |succ n=>
  unfold DataW.trod at hd;rw[ht]at hd;split at hd<;>simp_all
  obtain⟨⟨_,h1⟩,rfl,_⟩:=hd;exact⟨_,rfl,h1⟩
theorem a4z{t fs d}(ht:P.underlying t=some (.struct fs))(hd:Rd nT P w t d) :∃ds,d=.agg ds/\ds.length=fs.size/\∀(i:Nat) f d',fs[i]? = some f->ds[i]? = some d'->Rd nT P w f.type d':=by
 obtain⟨cs,fuel,ps,hd⟩:=hd;obtain⟨zs,n,_,hx,nP,Xu,JJ⟩:=DataW.trod_struct ht hd;simp only[a1k]at hx;refine⟨zs.map (·.1),hx.1,by simpa using Xu,fun i f d' e1 e2=>?_⟩;simp only[a4V,a0A]at e2;obtain⟨z,hz,rfl⟩:=e2;exact⟨_,n,z.2,by rw[JJ i f e1,hz]⟩
theorem a7Y{t e d}(ht:P.underlying t=some (.slice e))(hd:Rd nT P w t d) :d=.nil\/∃xs ys,d=.slice xs ys/\∀y∈xs++ys,Rd nT P w e y:=by
 obtain⟨cs,fuel,ps,hd⟩:=hd;rcases Deep.open_slice ht hd with⟨rfl,hx⟩|⟨a,len,cap,m,n,Dt,Pl,rfl,_,ZQ,_,hm,hx,JJ⟩
 .left;cases hx;rfl
 .right;simp only[a2p]at hm;subst hm;simp only[a1k]at hx;refine⟨_,_,hx.1,fun y hy=>?_⟩;have:∃i,i<m/\y=Dt i:=by
   rcases a3M.mp hy with hy|hy
   .obtain⟨i,hi,rfl⟩:=a1w.mp hy;exact⟨i,by have:=a5m.mp hi;omega,rfl⟩
   .obtain⟨i,hi,rfl⟩:=a1w.mp hy;exact⟨len+i,by have:=a5m.mp hi;omega,rfl⟩
  obtain⟨i,hi,rfl⟩:=this;obtain⟨cs',_,e2⟩:=JJ i hi;exact⟨cs',n,_,e2⟩
theorem Yn{t:LI2}{fs:Array Field}{g:Nat}{ds:List (DataW H)}{h:List HB}(ht:P.underlying t=some (.struct fs)) :
  DT P (g+1) t (.agg ds) h=match Nq P (DT P g) 0 fs.toList ds h with
   |some (cs,h1)=>if cs.length=P.cellsOf t then some (cs,h1)else none
   |none=>none:=by
 simp only[DT,ht]<;>rfl
end
end Tw
namespace Pv
open Go Tw
structure pF(X:mV)(P:LI1)(kt:LI2)(α:Type)[DecidableEq α] where
 pv:α->PV X.Γ
 tv:α->TV
 v:α->LI3
 hp:∀x,qE (pv x)=some (tv x)
 ht:∀x,(tv x).zk=some (v x)
 hc:∀em x,aC P (Instr.checkKey em 10000 kt (v x))=some ()
 hf:∀(x:α) (l:List α),aC P (Instr.findKey kt (v x) (l.map fun y=>⟨v y,.bool false,0⟩))=some ((l.findIdx? fun y=>decide (x=y)).map fun i=>(i,.bool false))
 hk:∃kind,aC P (underlying kt)=some kind/\((∀x y,Instr.sameNow kind (v x) (v y)=some (decide (x=y)))\/∀x y,Instr.sameNow kind (v x) (v y)=none/\aC P (Op.equal kt (v x) (v y))=some (decide (x=y)))
variable{X:mV}{P:LI1}{kt:LI2}{α:Type}[DecidableEq α](C:pF X P kt α)
abbrev pF.es(l:List (α×PV X.Γ)):List (PV X.Γ×PV X.Γ):=l.map fun e=>(C.pv e.1,e.2)
theorem pF.tvs:∀l:List α,Tw.CS (l.map C.tv)=some (l.map C.v)
 | []=>rfl
 |a::l=>by show(match(C.tv a).zk,Tw.CS (l.map C.tv)with|some v,some vs=>some (v::vs)|_,_=>none)=_;rw[C.ht,pF.tvs l];rfl
theorem pF.find(x)(l:List α)(r)(hr:(l.findIdx? fun y=>decide (x=y))=r)(hs:∀(i) y,l[i]? = some y->decide (x=y)=(some i==r)):wI P kt (C.v x) (l.map C.tv)=some r:=by
 unfold wI;rw[C.tvs];simp only[];rw[bM,C.hc,a5J,a6q];show(match aC P (Instr.findKey kt (C.v x) (l.map fun y=>⟨C.v y,.bool false,0⟩))with|some r=>if Xj P kt (C.v x) (l.map C.v) (Option.map (fun(q:Nat×LI3)=>q.1) r)then some (Option.map (fun(q:Nat×LI3)=>q.1) r)else none|none=>none)=_;rw[C.hf,hr];have e:Option.map (fun(q:Nat×LI3)=>q.1) (r.map fun i=>(i,Value.bool false))=r:=by cases r<;>rfl
 simp only[e];rw[a1e];obtain⟨kind,h1,h2⟩:=C.hk;simp only[Xj,h1,a2n,aam,a5L];constructor
 .cases r with
  |none=>rfl
  |some j=>
   have:=(aaX.1 hr).1;simpa using this
 have hz:∀p∈(l.map C.v).zipIdx,∃y,p.1=C.v y/\decide (x=y)=(some p.2==r):=fun p hp=>by have:=aaB.1 hp;rw[a4V,a0A]at this;obtain⟨y,hy,e⟩:=this;exact⟨y,e.symm,hs _ _ hy⟩
 rcases h2 with h2|h2
 .left;intro p hp;obtain⟨y,e1,e2⟩:=hz p hp;rw[e1,h2,e2];simp
 right;intro p hp;obtain⟨y,e1,e2⟩:=hz p hp;rw[e1,(h2 x y).1,(h2 x y).2,e2];simp
theorem pF.pk:∀l,wH X (C.es l)=some ((l.map (·.1)).map C.tv)
 | []=>rfl
 |a::l=>by show(match qE (C.pv a.1),wH X (C.es l)with|some v,some vs=>some (v::vs)|_,_=>none)=_;rw[C.hp,pF.pk l];rfl
theorem pF.ck(x):∃kv,(C.tv x).zk=some kv/\aC P (Instr.checkKey false 10000 kt kv)=some ():=⟨C.v x,C.ht x,C.hc false x⟩
theorem pF.fresh{l x}(h:x∉l.map (·.1)):oz X P kt (C.es l) (C.tv x):=by
 refine⟨C.v x,_,C.ht x,C.pk l,?_⟩;have Zx:∀y∈l.map (·.1),decide (x=y)=false:=fun y hy=>by simp only[a3G];intro e;exact h (e▸hy)
 exact C.find x _ none (List.findIdx?_eq_none_iff.2 Zx) fun i y hy=>by rw[Zx y (a5N hy)];rfl
theorem pF.found{l x v}(hn:(l.map (·.1)).Nodup)(h:(x,v)∈l):qJ X P kt (C.es l) (C.tv x) v:=by
 obtain⟨j,hj,e⟩:=a5T.1 h;refine⟨C.v x,_,j,C.pv x,C.ht x,C.pk l,?_,?_⟩
 .have hxj:(l.map (·.1))[j]? = some x:=by simp[a0Q hj,e]
  have hu:∀(i:Nat) y,(l.map (·.1))[i]? = some y->decide (x=y)=(some i==some j):=fun i y hy=>by
   rw[a5S];simp only[a1x,a6x,a09];constructor
   .rintro rfl;have i1:=a0x.1 hy;have i2:=a0x.1 hxj;exact(aaZ hn (h₀:=i1.1) (h₁:=i2.1)).1 (i1.2.trans i2.2.symm)
   rintro rfl;rw[hxj]at hy;exact aan hy
  refine C.find x _ (some j) ?_ hu;rw[aaX];refine⟨by simpa using hj,by simp[e],fun i hi=>?_⟩;have hil:i<(l.map (·.1)).length:=by simp;omega
  rw[hu i _ (a0Q hil)];simp;omega
 simp[pF.es,a0Q hj,e]
theorem KN{t d}(h:P.underlying t=some d):aC P (underlying t)=some d:=by simp only[underlying,bM];show Option.bind (some P) _=_;simp[h];rfl
theorem a0J{v:α->LI3}(he:∀x y,aC P (Op.equal kt (v x) (v y))=some (decide (x=y)))(x):∀(l:List α) (i),aC P (Instr.findAsking kt (v x) (l.map fun y=>⟨v y,.bool false,0⟩) i)=some ((l.findIdx? fun y=>decide (x=y)).map fun j=>(j+i,.bool false))
 | [],i=>rfl
 |y::l,i=>by
  simp only[a4U,Instr.findAsking];rw[bM,he,a5J,List.findIdx?_cons];cases decide (x=y)with
  |true=>simp only[a2p,a1n,a3L];rfl
  |false=>
   simp only[a2K,a3U];rw[a0J he x l (i+1)];cases l.findIdx? fun y=>decide (x=y)with
   |none=>rfl
   |some j=>simp;omega
theorem a2A{v:α->LI3}{fs}(hu:P.underlying kt=some (.struct fs))(he:∀x y,aC P (Op.equal kt (v x) (v y))=some (decide (x=y)))(x)(l:List α):aC P (Instr.findKey kt (v x) (l.map fun y=>⟨v y,.bool false,0⟩))=some ((l.findIdx? fun y=>decide (x=y)).map fun i=>(i,.bool false)):=by
 have h:=a0J he x l 0;unfold Instr.findKey;rw[bM,KN hu,a5J];cases l with
 |nil=>rfl
 |cons y l=>
  rw[show Instr.findNow (.struct fs) (v x) ((y::l).map fun y=>⟨v y,.bool false,0⟩) 0=none by simp[Instr.findNow,Instr.sameNow]];exact h
theorem a2B{k}(x):∀(l:LI0) (i),Instr.findNow (.int k) (.int k x) (l.map fun y=>⟨.int k y,.bool false,0⟩) i=some ((l.findIdx? fun y=>decide (x=y)).map fun j=>(j+i,.bool false))
 | [],i=>rfl
 |y::l,i=>by
  simp only[a4U,Instr.findNow,Instr.sameNow,a2p];rw[List.findIdx?_cons];by_cases h:x=y
  .subst h;simp
  rw[show(x==y)=false by simpa using h,afr h];simp only[a2K,a3U];rw[a2B x l (i+1)];cases l.findIdx? fun y=>decide (x=y)with
  |none=>rfl
  |some j=>simp;omega
theorem agI{k}(hu:P.underlying kt=some (.int k))(x)(l:LI0):aC P (Instr.findKey kt (.int k x) (l.map fun y=>⟨.int k y,.bool false,0⟩))=some ((l.findIdx? fun y=>decide (x=y)).map fun i=>(i,.bool false)):=by unfold Instr.findKey;rw[bM,KN hu,a5J,a2B x l 0];cases l.findIdx? fun y=>decide (x=y)<;>rfl
theorem a2C{v:α->LI3}{fs}(hu:P.underlying kt=some (.struct fs))(he:∀x y,aC P (Op.equal kt (v x) (v y))=some (decide (x=y))) :∃kind,aC P (underlying kt)=some kind/\((∀x y,Instr.sameNow kind (v x) (v y)=some (decide (x=y)))\/∀x y,Instr.sameNow kind (v x) (v y)=none/\aC P (Op.equal kt (v x) (v y))=some (decide (x=y))):=
 ⟨_,KN hu,.inr fun x y=>⟨by simp[Instr.sameNow],he x y⟩⟩
theorem agJ{k}(hu:P.underlying kt=some (.int k)) :∃kind,aC P (underlying kt)=some kind/\((∀x y,Instr.sameNow kind (.int k x) (.int k y)=some (decide (x=y)))\/∀x y,Instr.sameNow kind (.int k x) (.int k y)=none/\aC P (Op.equal kt (.int k x) (.int k y))=some (decide (x=y))):=
 ⟨_,KN hu,.inl fun x y=>by simp only[Instr.sameNow,a2p];congr 1⟩
theorem agK{v:α->LI3}{n e}(hu:P.underlying kt=some (.array n e))(he:∀x y,aC P (Op.equal kt (v x) (v y))=some (decide (x=y)))(x)(l:List α):aC P (Instr.findKey kt (v x) (l.map fun y=>⟨v y,.bool false,0⟩))=some ((l.findIdx? fun y=>decide (x=y)).map fun i=>(i,.bool false)):=by
 have h:=a0J he x l 0;unfold Instr.findKey;rw[bM,KN hu,a5J];cases l with
 |nil=>rfl
 |cons y l=>
  rw[show Instr.findNow (.array n e) (v x) ((y::l).map fun y=>⟨v y,.bool false,0⟩) 0=none by simp[Instr.findNow,Instr.sameNow]];exact h
theorem agL{v:α->LI3}{n e}(hu:P.underlying kt=some (.array n e))(he:∀x y,aC P (Op.equal kt (v x) (v y))=some (decide (x=y))) :∃kind,aC P (underlying kt)=some kind/\((∀x y,Instr.sameNow kind (v x) (v y)=some (decide (x=y)))\/∀x y,Instr.sameNow kind (v x) (v y)=none/\aC P (Op.equal kt (v x) (v y))=some (decide (x=y))):=
 ⟨_,KN hu,.inr fun x y=>⟨by simp[Instr.sameNow],he x y⟩⟩
end Pv
namespace Tw
open Go
section
variable{P:LI1}
theorem Ee{e}(hg:aC P (isAgg e)=some false){xs i v}(h:xs[i]? = some v):aC P (part e xs i)=some v:=by unfold part;rw[bM,hg,a5J];simp only[a2K,a3U,h];rfl
def a4A(d:Nat)(e:LI2)(c:Nat)(xs ys:Array LI3):List Nat->Sem Bool
 | []=>pure true
 |i::is=>do
  let a <-part e xs (i*c)
  let b <-part e ys (i*c)
  let r <-Op.equalIn d e a b
  if(!r)=true then pure false else a4A d e c xs ys is
theorem KO(d){t e n c}(xs ys)(hu:P.underlying t=some (.array n e))(hs:aC P (sizeOf e)=some c) :aC P (Op.equalIn (d+1) t (.agg xs) (.agg ys))=aC P (a4A d e c xs ys (List.range' 0 n)):=by
 have hu':aC P (underlying t)=some (.array n e):=by simp only[underlying,bM];have:aC P program=some P:=rfl;simp[this,hu,aC];rfl
 simp only[Op.equalIn,bM,hu',a5J,hs];simp only[Std.Legacy.Range.forIn_eq_forIn_range',Std.Legacy.Range.size,Nat.sub_zero,Nat.add_one_sub_one,Nat.div_one];generalize List.range' 0 n=is;clear hu hu' hs
 induction is with
 |nil=>simp[a4A,aC,bM];rfl
 |cons j is ih=>
  simp only[List.forIn_cons,a4A,bM]at ih ⊢;generalize aC P (part e xs (j*c))=r1;cases r1 with
  |none=>simp
  |some a=>
   simp only[a5J];generalize aC P (part e ys (j*c))=r2;cases r2 with
   |none=>simp
   |some b=>
    simp only[a5J];generalize aC P (Op.equalIn d e a b)=r3;cases r3 with
    |none=>simp
    |some r=>
     cases r with
     |false=>simp only[a5J,abf,a2p];rfl
     |true=>simp only[a5J,aah,a2K,a3U];exact ih
abbrev Ef(k:IntKind)(l:LI0):Array LI3:=(l.map fun x=>Value.int k x).toArray
theorem Qo{k l}{i:Nat}(h):(Ef k l)[i]? = some (.int k l[i]):=by simp[Ef,h]
theorem MX{d e k k'}(hu:P.underlying e=some (.int k'))(hg:aC P (isAgg e)=some false)(l l')(hl:l.length=l'.length):∀(m i),i+m=l.length->aC P (a4A (d+1) e 1 (Ef k l) (Ef k l') (List.range' i m))=some (decide (l.drop i=l'.drop i))
 | 0,i,h=>by rw[ag0 (by omega),ag0 (by omega)];rfl
 |m+1,i,h=>by
  have h1:i<l.length:=by omega
  have h2:i<l'.length:=by omega
  rw[List.range'_succ];simp only[a4A,aiy];rw[bM,Ee hg (Qo h1),a5J,bM,Ee hg (Qo h2),a5J,bM,su d e k k' _ _ hu,a5J];rw[a6y h1,a6y h2];by_cases hc:l[i]=l'[i]
  .have:=MX (d:=d) (k:=k) hu hg l l' hl m (i+1) (by omega);simp only[hc,beq_self_eq_true,aah,a2K,a3U,this,afq,true_and]
  have:(l[i]==l'[i])=false:=by simpa using hc
  simp only[this,abf,a2p,afq,hc,false_and,decide_false];rfl
theorem CJ(d){t e n k k'}(ht:P.underlying t=some (.array n e))(hs:aC P (sizeOf e)=some 1)(hu:P.underlying e=some (.int k'))(hg:aC P (isAgg e)=some false){l l'}(hl:l.length=n)(hl':l'.length=n) :aC P (Op.equalIn (d+2) t (.agg (Ef k l)) (.agg (Ef k l')))=some (decide (l=l')):=by
 rw[KO (d+1) _ _ ht hs,MX hu hg l l' (by omega) n 0 (by omega),ab3,ab3]
end
end Tw
namespace Pv
open Go Tw
def yY:Code->Option (Code×Code)
 |.seq a b=>match yY a with
  |some r=>some r
  |none=>yY b
 |.cond _ a b=>match yY a with
  |some r=>some r
  |none=>yY b
 |.block _ b=>yY b
 |.loop b=>yY b
 |.rangeFunc _ _ a b=>some (a,b)
 |_=>none
def xY(P:LI1)(f:Nat):Code:=
 match V3 P f with
 |some t=>match yY t.body with
  |some (a,_)=>a
  |none=>.skip
 |none=>.skip
def BF(P:LI1)(f:Nat):Code:=
 match V3 P f with
 |some t=>match yY t.body with
  |some (_,b)=>b
  |none=>.skip
 |none=>.skip
section
variable{X:mV}{P:LI1}
theorem Fh{A m h}:∀{a b} {z:List TV},bZ X P A m h (a++b) z->∃x y,z=x++y/\bZ X P A m h a x/\bZ X P A m h b y
 | [],b,z,hz=>⟨[],z,rfl,.nil,hz⟩
 |v::a,b,z,hz=>by obtain⟨x0,r,rfl,v0,vr⟩:=bZ.inv (v:=v) (vs:=a++b) hz;obtain⟨x,y,rfl,h1,h2⟩:=Fh vr;exact⟨x0::x,y,rfl,.cons v0 h1,h2⟩
theorem dK.fz(hX:bT X P){call f cs ws rest xs H H1 v}(is)(hs:dK X P call (.fn f [] []) (.agg (ws++rest)::xs) (aX is H) v H1)(hv:views H cs=some ws)(ho:∀i,i∈lN.kX cs->i∈is):dK X P call (.fn f [] []) (.agg (cs++rest)::xs) H v H1:=by
 intro A m h tf rH hr hf hx;obtain⟨x0,r,rfl,v0,vr⟩:=hx.inv;cases v0 with
 |gone hi _ _=>simp[bf]at hi
 |agg a1 a2=>
  rename_i cs';have ha:bZ X P (AA A m) m h (cs++rest) cs':=⟨a1,a2⟩;obtain⟨c1,c2,rfl,b1,b2⟩:=Fh ha;have hF:=iK (h:=h) is m;have w1:=(mg (m':=bW is m) hX hr b1 hv ho).mono fun b hb=>FA.gone hr hb;have w2:=b2.step hF.1 hF.2;have w3:=w1.app w2;obtain⟨w,h',Xl,m1,k1,k2,k3,k4,k5,k6⟩:=hs A (bW is m) h tf (.agg (c1++c2)::r) (hr.aX is) (hf.step hF.1 hF.2) (.cons (.agg w3.1 w3.2) (vr.step hF.1 hF.2));refine⟨w,h',Xl,m1,k1,k2,k3,hF.1.trans k4,hF.2.trans k5,fun b hb=>?_⟩;rcases hF.1.new b (k6 b hb)with g|g
  .exact g
  have:=(hr.aX is).inb (k6 b hb);omega
end
theorem Good.adF{X P T L α β f a}{r:Ar X P β}{S}{pre:α->List Prop}{gq Yf a7Z:gZ X.Γ}(d:Nat)(hg:Good X P T L gq)(hg2:Good X P T L Yf)(hg3:Good X P T L a7Z)(hf:∀n,d<=n->(∀m,n-d<=m->jT X P (kW P T L m) gq)->(∀m,n-d<=m->jT X P (kW P T L m) Yf)->(∀m,n-d<=m->jT X P (kW P T L m) a7Z)->∀x,(∀p∈pre x,p)->nI X P (kW P T L (n+1)) f (a.put x) (r.put (S x)) []):Good X P T L (cu f a r S pre gq):=by
 obtain⟨N2,hN2⟩:=hg2;obtain⟨N3,hN3⟩:=hg3;obtain⟨M,hM⟩:=hg;refine⟨M+N2+N3+d+1,fun n hn=>?_⟩;obtain⟨k,rfl⟩:∃k,n=k+1:=⟨n-1,by omega⟩;intro g vs v ext ps ho hp;unfold cu at ho;split at ho
 .rename_i e;have e:=aad e;subst e;split at ho
  .rename_i x hx;cases ho;intro A h first args cap Gl hv
   exact hf k (by omega) (fun m hm=>hM m (by omega)) (fun m hm=>hN2 m (by omega)) (fun m hm=>hN3 m (by omega)) x hp A h first args cap Gl (a.ok hx hv)
  .exact hM (k+1) (by omega) g vs v ext ps ho hp
 .exact hM (k+1) (by omega) g vs v ext ps ho hp
end Pv
namespace bK
open Tw
section
variable{κ:Type}[DecidableEq κ]
def ug(m:List (κ×Int))(k:κ)(n:Int):List (κ×Int):=
 if k∈m.map (·.1)then m.modify ((m.map (·.1)).idxOf k) (fun e=>(e.1,e.2+n))else m++[(k,n)]
def dJ(φ:κ->Int):List (κ×Int)->Int
 | []=>0
 |e::m=>e.2*φ e.1+dJ φ m
theorem Yo(φ:κ->Int):∀a b,dJ φ (a++b)=dJ φ a+dJ φ b
 | [],b=>by simp[dJ]
 |e::a,b=>by simp only[List.cons_append,dJ,Yo φ a b];omega
theorem Yp(φ:κ->Int){k n}:∀{m},k∈m.map (·.1)->dJ φ (m.modify ((m.map (·.1)).idxOf k) fun e=>(e.1,e.2+n))=dJ φ m+n*φ k
 | [],h=>by simp at h
 |e::m,h=>by
  by_cases e1:e.1=k
  .have:((e::m).map (·.1)).idxOf k=0:=(by simp[aeS,e1]);rw[this];simp only[List.modify_zero_cons,dJ,aix,e1];omega
  have h2:k∈m.map (·.1):=by rw[a4U,a1E]at h;exact h.resolve_left fun h=>e1 h.symm
  have:((e::m).map (·.1)).idxOf k=(m.map (·.1)).idxOf k+1:=by simp[aeS,adH.2 e1]
  rw[this];simp only[List.modify_succ_cons,dJ,Yp φ h2];omega
theorem Ae(φ:κ->Int)(m k n):dJ φ (ug m k n)=dJ φ m+n*φ k:=by
 unfold ug;split
 .exact Yp φ ‹_›
 rw[Yo];simp[dJ]
theorem Yq{f:Int->Int}:∀(m:List (κ×Int)) (j:Nat),(m.modify j fun e=>(e.1,f e.2)).map (·.1)=m.map (·.1)
 | [],j=>by simp
 |e::m,0=>by simp
 |e::m,j+1=>by simp[Yq m j]
theorem Ui(m:List (κ×Int))(k n):(ug m k n).map (·.1)=if k∈m.map (·.1)then m.map (·.1)else m.map (·.1)++[k]:=by
 unfold ug;split
 .exact Yq (f:=fun x=>x+n) m _
 simp
theorem Ht{m:List (κ×Int)}(h:(m.map (·.1)).Nodup)(k n):((ug m k n).map (·.1)).Nodup:=by
 rw[Ui];split
 .exact h
 rename_i h2;rw[a9N];exact⟨h,by simp,fun x hx y hy e=>by simp at hy;subst hy;subst e;exact h2 hx⟩
theorem a2D{f}:∀{m:List (κ×Int)} {j:Nat} {e:κ×Int},e∈m.modify j f->e∈m\/∃e'∈m,e=f e'
 | [],j,e,h=>by simp at h
 |x::m,0,e,h=>by
  rw[List.modify_zero_cons,a1E]at h;rcases h with h|h
  .exact .inr ⟨x,by simp,h⟩
  exact .inl (by simp[h])
 |x::m,j+1,e,h=>by
  rw[List.modify_succ_cons,a1E]at h;rcases h with h|h
  .exact .inl (by simp[h])
  rcases a2D h with h|⟨e',h1,h2⟩
  .exact .inl (by simp[h])
  exact .inr ⟨e',by simp[h1],h2⟩
theorem Qq{m:List (κ×Int)}{k n}(hn:0<n)(h:∀e∈m,0<e.2):∀e∈ug m k n,0<e.2:=fun e he=>by
 unfold ug at he;split at he
 .rcases a2D he with h1|⟨e',h1,rfl⟩
  .exact h e h1
  .have:=h e' h1;show 0<e'.2+n;omega
 .rcases a3M.1 he with h1|h1
  .exact h e h1
  .rw[a1D.1 h1];exact hn
theorem a81{m:List (κ×Int)}{k n e}(he:e∈ug m k n):e.1=k\/∃e'∈m,e'.1=e.1:=by
 have:e.1∈(ug m k n).map (·.1):=a1w.2 ⟨e,he,rfl⟩;rw[Ui]at this;split at this
 .obtain⟨e',h1,h2⟩:=a1w.1 this;exact .inr ⟨e',h1,h2⟩
 rcases a3M.1 this with h1|h1
 .obtain⟨e',h1,h2⟩:=a1w.1 h1;exact .inr ⟨e',h1,h2⟩
 exact .inl (by simpa using h1)
def ind(k:κ)(x:κ):Int:=if x=k then 1 else 0
theorem Jf{k:κ}:∀{m},k∉m.map (·.1)->dJ (ind k) m=0
 | [],_=>rfl
 |e::m,h=>by rw[a4U,a1E,adl]at h;simp only[dJ,Jf h.2,ind,a18 (fun e1:e.1=k=>h.1 e1.symm)];omega
theorem BG:∀{m} {e:κ×Int},(m.map (·.1)).Nodup->e∈m->dJ (ind e.1) m=e.2
 |x::m,e,hn,h=>by
  rw[a4U,a5I]at hn;rcases a1E.1 h with rfl|h
  .simp only[dJ,Jf hn.1,ind,a2p];omega
  have:¬x.1=e.1:=fun e1=>hn.1 (a1w.2 ⟨e,h,e1.symm⟩);simp only[dJ,BG hn.2 h,ind,a18 this];omega
theorem Yr{m:List (κ×Int)}(hn:(m.map (·.1)).Nodup)(hp:∀e∈m,0<e.2)(e):e∈m↔0<e.2/\dJ (ind e.1) m=e.2:=by
 constructor
 .exact fun h=>⟨hp e h,BG hn h⟩
 rintro⟨h1,h2⟩;by_cases h:e.1∈m.map (·.1)
 .obtain⟨e',h3,h4⟩:=a1w.1 h;have:=BG hn h3;have h4:e'.1=e.1:=h4;rw[h4,h2]at this;have:e'=e:=adA h4 this.symm;rw[<-this];exact h3
 rw[Jf h]at h2;omega
theorem Jg{β:Type}{f:κ×Int->β}{l:List (κ×Int)}(h:(l.map f).Nodup):l.Nodup:=by rw[List.Nodup,adb]at h;exact h.imp fun{a b} h (e:a=b)=>h (congrArg f e)
theorem W9{m m':List (κ×Int)}(h1:(m.map (·.1)).Nodup)(h2:(m'.map (·.1)).Nodup)(p1:∀e∈m,0<e.2)(p2:∀e∈m',0<e.2)(h:∀φ,dJ φ m=dJ φ m'):m.Perm m':=
 (a7x (Jg h1) (Jg h2)).2 fun e=>by rw[Yr h1 p1,Yr h2 p2,h]
theorem a4B(φ:κ->Int){m m'}(h:m.Perm m'):dJ φ m=dJ φ m':=by
 induction h with
 |nil=>rfl
 |cons x _ ih=>simp only[dJ,ih]
 |swap x y l=>simp only[dJ];omega
 |trans _ _ h1 h2=>exact h1.trans h2
def zD(l:List κ):List (κ×Int):=l.foldl (fun m k=>ug m k 1) []
def eu(φ:κ->Int):List κ->Int
 | []=>0
 |k::l=>φ k+eu φ l
theorem Yt(φ:κ->Int):∀(l) (m),dJ φ (l.foldl (fun m k=>ug m k 1) m)=dJ φ m+eu φ l
 | [],m=>by simp[eu]
 |k::l,m=>by rw[aeR,Yt φ l,Ae,eu];omega
theorem Uj(φ:κ->Int)(l):dJ φ (zD l)=eu φ l:=by unfold zD;rw[Yt];simp[dJ]
theorem BH(l:List κ):((zD l).map (·.1)).Nodup/\∀e∈zD l,0<e.2:=by
 have:∀(l:List κ) (m:List (κ×Int)),(m.map (·.1)).Nodup->(∀e∈m,0<e.2)->((l.foldl (fun m k=>ug m k 1) m).map (·.1)).Nodup/\∀e∈l.foldl (fun m k=>ug m k 1) m,0<e.2:=by
  intro l
  induction l with
  |nil=>exact fun m h1 h2=>⟨h1,h2⟩
  |cons k l ih=>exact fun m h1 h2=>ih _ (Ht h1 k 1) (Qq (by omega) h2)
 exact this l [] (by simp) (by simp)
theorem Yu(k:κ):∀l,eu (ind k) l=(l.count k:Int)
 | []=>rfl
 |x::l=>by
  rw[eu,Yu k l,List.count_cons,ind];by_cases e:x=k
  .simp[e];omega
  simp[e]
theorem KP(φ:κ->Int){l l'}(h:l.Perm l'):eu φ l=eu φ l':=by
 induction h with
 |nil=>rfl
 |cons x _ ih=>simp only[eu,ih]
 |swap x y l=>simp only[eu];omega
 |trans _ _ h1 h2=>exact h1.trans h2
theorem Jh(φ:κ->Int):∀a b,eu φ (a++b)=eu φ a+eu φ b
 | [],b=>by simp[eu]
 |e::a,b=>by simp only[List.cons_append,eu,Jh φ a b];omega
end
theorem KQ:∀a b,lY a b=true\/lY b a=true
 | [],_=>.inl rfl
 |_::_,[]=>.inr rfl
 |a::az,b::bs=>by
  simp only[lY];rcases Int.lt_trichotomy a b with h|h|h
  .simp[h]
  .subst h;simpa using KQ az bs
  simp[h]
theorem Eh:∀a b,lY a b=true->lY b a=true->a=b
 | [],[],_,_=>rfl
 | [],_::_,_,h=>by cases h
 |_::_,[],h,_=>by cases h
 |a::az,b::bs,h1,h2=>by
  simp only[lY]at h1 h2;rcases Int.lt_trichotomy a b with h|h|h
  .rw[a18 (by omega),a1e h]at h2;cases h2
  .subst h;simp at h1 h2;rw[Eh az bs h1 h2]
  rw[a18 (by omega),a1e h]at h1;cases h1
theorem lex_trans:∀a b c,lY a b=true->lY b c=true->lY a c=true
 | [],_,_,_,_=>rfl
 |_::_,[],_,h,_=>by cases h
 |_::_,_::_,[],_,h=>by cases h
 |a::az,b::bs,c::cs,h1,h2=>by
  simp only[lY]at h1 h2 ⊢;split at h1
  .split at h2
   .rw[a1e (by omega)]
   split at h2
   .cases h2
   rw[a1e (by omega)]
  split at h1
  .cases h1
  split at h2
  .rw[a1e (by omega)]
  split at h2
  .cases h2
  rw[a18 (by omega),a18 (by omega)];exact lex_trans az bs cs h1 h2
section
variable{α:Type}{key:α->LI0}
theorem Uk{a b}(h:key a=key b->a=b):∀s,FT key a (FT key b s)=FT key b (FT key a s)
 | []=>by
  by_cases e:a=b
  .rw[e]
  simp only[FT];rcases KQ (key a) (key b)with h1|h1
  .have:lY (key b) (key a)=false:=by
    cases h2:lY (key b) (key a)
    .rfl
    exact absurd (h (Eh _ _ h1 h2)) e
   simp[h1,this]
  have:lY (key a) (key b)=false:=by
   cases h2:lY (key a) (key b)
   .rfl
   exact absurd (h (Eh _ _ h2 h1)) e
  simp[h1,this]
 |c::s=>by
  by_cases e:a=b
  .rw[e]
  have hx:lY (key a) (key b)=!lY (key b) (key a):=by
   rcases KQ (key a) (key b)with h1|h1
   .cases h2:lY (key b) (key a)
    .rw[h1];rfl
    exact absurd (h (Eh _ _ h1 h2)) e
   cases h2:lY (key a) (key b)
   .rw[h1];rfl
   exact absurd (h (Eh _ _ h2 h1)) e
  cases h1:lY (key a) (key c)<;>cases h2:lY (key b) (key c)
  .simp only[FT,h1,h2,a2K,a3U,Uk h s]
  .have h3:lY (key a) (key b)=false:=by
    cases h3:lY (key a) (key b)
    .rfl
    rw[lex_trans _ _ _ h3 h2]at h1;cases h1
   simp only[FT,h1,h2,h3,a2K,a3U,a2p]
  .have h3:lY (key b) (key a)=false:=by
    cases h3:lY (key b) (key a)
    .rfl
    rw[lex_trans _ _ _ h3 h1]at h2;cases h2
   simp only[FT,h1,h2,h3,a2K,a3U,a2p]
  cases h3:lY (key b) (key a)<;>rw[h3]at hx<;>simp[FT,h1,h2,h3,hx]
theorem Gw{l l'}(h:l.Perm l')(hi:∀a∈l,∀b∈l,key a=key b->a=b):zV key l=zV key l':=by
 induction h with
 |nil=>rfl
 |cons x _ ih=>simp only[zV,ih fun a ha b hb=>hi a (by simp[ha]) b (by simp[hb])]
 |swap x y l=>exact Uk (hi y (by simp) x (by simp)) _
 |trans h1 h2 i1 i2=>exact(i1 hi).trans (i2 fun a ha b hb=>hi a (h1.mem_iff.2 ha) b (h1.mem_iff.2 hb))
theorem Ul{β}{g:α->β}{key2}(h:∀a,key2 (g a)=key a):∀l,zV key2 (l.map g)=(zV key l).map g:=by
 have hi:∀(a:α) (s:List α),FT key2 (g a) (s.map g)=(FT key a s).map g:=by
  intro a s
  induction s with
  |nil=>rfl
  |cons c s ih=>
   simp only[a4U,FT,h];split
   .rfl
   rw[a4U,ih]
 intro l
 induction l with
 |nil=>rfl
 |cons a l ih=>simp only[a4U,zV,ih,hi]
end
end bK
namespace Pv
open Go Tw
section
variable{P:LI1}{T:vH}{call:dO}{cd:xM}{L f:Nat}{fl nt:Nat}
def oJ:Code->Bool
 |.rangeFunc ..=>false
 |.region _ ops _=>(Bd ops).isNone
 |.seq a b=>oJ a&&oJ b
 |.cond _ a b=>oJ a&&oJ b
 |.block _ b=>oJ b
 |.scope b=>oJ b
 |.loop b=>oJ b
 |_=>true
theorem a88:∀(c) {s s'} {e} {Q},oJ c=true->exec P T call L f false fl nt c s=some (e,s')->Q e s'->fM P T call cd L f fl nt c s Q:=by
 intro c
 induction c with
 |region id ops draw=>
  intro s s' e Q hn h hq;simp only[oJ,Option.isNone_iff_eq_none]at hn;simp only[fM,hn];exact⟨_,_,h,hq⟩
 |seq x y XE ihy=>
  intro s s' e Q hn h hq;simp only[oJ,a2n]at hn;simp only[fM];simp only[exec]at h;split at h
  .rename_i s1 hx;exact XE hn.1 hx (ihy hn.2 h hq)
  rename_i iI;refine XE hn.1 h ?_;cases e with
  |norm=>exact(iI s' h).elim
  |exit i=>exact hq
  |ret=>exact hq
 |cond c x y XE ihy=>
  intro s s' e Q hn h hq;simp only[oJ,a2n]at hn;simp only[fM];simp only[exec]at h;split at h
  .rename_i hc;simp only[hc];exact XE hn.1 h hq
  .rename_i hc;simp only[hc];exact ihy hn.2 h hq
  cases h
 |block id b ih=>
  intro s s' e Q hn h hq;simp only[oJ]at hn;simp only[fM];simp only[exec]at h;split at h
  .rename_i i s1 hb;cases h;exact ih hn hb hq
  rename_i iI;refine ih hn h ?_;cases e with
  |exit i=>exact(iI i s' h).elim
  |norm=>exact hq
  |ret=>exact hq
 |scope b ih=>
  intro s s' e Q hn h hq;simp only[oJ]at hn;simp only[fM];simp only[exec]at h;exact ih hn h hq
 |loop b ih=>
  intro s s' e Q hn h hq;simp only[oJ]at hn;simp only[fM];simp only[exec]at h;have:∀(k:Nat) {s:St},iter (fun s=>exec P T call L f false fl nt b (kN (T.eY f (dZ b)) s)) k s=some (e,s')->IE (fun s Q=>fM P T call cd L f fl nt b (kN (T.eY f (dZ b)) s) Q) k s Q:=by
   intro k
   induction k with
   |zero=>intro s h;simp[iter]at h
   |succ k ihk=>
    intro s h;simp only[iter]at h;split at h
    .rename_i s1 h1;exact ih hn h1 (ihk h)
    rename_i iI;refine ih hn h ?_;cases e with
    |norm=>exact(iI s' h).elim
    |exit i=>exact hq
    |ret=>exact hq
  exact this L h
 |rangeFunc=>intro s s' e Q hn;cases hn
 |_=>
  intro s s' e Q hn h hq;simp only[fM];exact⟨_,_,h,hq⟩
end
section
variable{X:mV}{P:LI1}{T:vH}{call:dO}{cd:xM}{L f nt B:Nat}
def aJ(X:mV)(P:LI1)(T:vH)(call:dO)(cd:xM)(L f nt B:Nat)(c:Code)(ps:bV X.Γ)(Q:Ex->bV X.Γ->Prop):Prop:=
 ∀(A W:Nat->Prop) (fl:Nat) (m:List MB) (ts:St) (R:Ex->St->Prop),SR X P A W fl m ps ts->(∀e iV ps1 m1,Q e ps1->SR X P A W fl m1 ps1 iV->Fr m ts.heap m1 iV.heap->Ob B m m1->R e iV)->fM P T call cd L f fl nt c ts R
theorem aJ.mono{c ps Q Q'}(hq:∀e s,Q e s->Q' e s)(h:aJ X P T call cd L f nt B c ps Q):aJ X P T call cd L f nt B c ps Q':=fun A W fl m ts R hS hR=>
 h A W fl m ts R hS fun e iV ps1 m1 a1=>hR e iV ps1 m1 (hq _ _ a1)
theorem dS.dem{c ps ps1 e Q}(hn:oJ c=true)(h:dS X P T call L f false nt B c ps e ps1)(hq:Q e ps1):aJ X P T call cd L f nt B c ps Q:=fun A W fl m ts R hS hR=>by obtain⟨iV,m1,h1,h2,h3,h4⟩:=h A W fl m ts hS;exact a88 c hn h1 (hR _ _ ps1 m1 hq h2 h3 h4)
theorem aJ.seq{a b ps Q R}(ha:aJ X P T call cd L f nt B a ps R)(hb:∀s,R .norm s->aJ X P T call cd L f nt B b s Q)(he:∀i s,R (.exit i) s->Q (.exit i) s)(hr:∀s,R .ret s->Q .ret s):aJ X P T call cd L f nt B (.seq a b) ps Q:=fun A W fl m ts R' hS hR=>by
 simp only[fM];refine ha A W fl m ts _ hS fun e iV ps1 m1 a1 a2 a3 a4=>?_;cases e with
 |norm=>exact hb ps1 a1 A W fl m1 iV R' a2 fun e ts2 Dy m2 b1 b2 b3 b4=>hR e ts2 Dy m2 b1 b2 (a3.trans b3) (a4.trans b4)
 |exit i=>exact hR _ _ ps1 m1 (he _ _ a1) a2 a3 a4
 |ret=>exact hR _ _ ps1 m1 (hr _ a1) a2 a3 a4
theorem aJ.block{id:Nat}{b:Code}{ps:bV X.Γ}{Q:Ex->bV X.Γ->Prop}(h:aJ X P T call cd L f nt B b ps fun e s=>Q (match e with|.exit i=>if i=id then .norm else .exit i|e=>e) s):aJ X P T call cd L f nt B (.block id b) ps Q:=fun A W fl m ts R hS hR=>by simp only[fM];exact h A W fl m ts _ hS fun e iV ps1 m1 a1 a2 a3 a4=>hR _ iV ps1 m1 a1 a2 a3 a4
theorem aJ.loop{b:Code}{Q:Ex->bV X.Γ->Prop}(I:Nat->bV X.Γ->Prop)
  (h:∀k s,I k s->aJ X P T call cd L f nt B b (gY X (T.eY f (dZ b)) s) fun e s=>match e with|.norm=>∃j,j<k/\I j s|e=>Q e s) {k:Nat} {ps:bV X.Γ} (hi:I k ps) (hk:k<L):aJ X P T call cd L f nt B (.loop b) ps Q:=fun A W fl m ts R hS hR=>by
 simp only[fM];have key:∀(n k:Nat) (ps:bV X.Γ) (m1:List MB) (iV:St),k<n->I k ps->SR X P A W fl m1 ps iV->Fr m ts.heap m1 iV.heap->Ob B m m1->IE (fun s Q=>fM P T call cd L f fl nt b (kN (T.eY f (dZ b)) s) Q) n iV R:=by
  intro n
  induction n with
  |zero=>intro k ps m ts hk;omega
  |succ n ih=>
   intro k ps m1 iV hk hi hS hF hU;simp only[IE];refine h k ps hi A W fl m1 _ _ (hS.head _) fun e ts2 Dy m2 a1 a2 a3 a4=>?_;have a3:Fr m1 iV.heap m2 ts2.heap:=a3;cases e with
   |norm=>
    obtain⟨j,hj,AZ⟩:=a1;exact ih j Dy m2 ts2 (by omega) AZ a2 (hF.trans a3) (hU.trans a4)
   |exit i=>exact hR _ _ Dy m2 a1 a2 (hF.trans a3) (hU.trans a4)
   |ret=>exact hR _ _ Dy m2 a1 a2 (hF.trans a3) (hU.trans a4)
 exact key L k ps m ts hk hi hS .refl Up.refl.b
theorem aJ.cond{c a b ps t Q}(hc:Az ps.env c=some (.bool t))(h:aJ X P T call cd L f nt B (if t then a else b) ps Q):aJ X P T call cd L f nt B (.cond c a b) ps Q:=fun A W fl m ts R hS=>by
 obtain⟨x,g1,g2⟩:=jK hS.st.env hc;have hx:x=.bool t:=by
  cases g2 with
  |bool=>rfl
  |gone hi _ _=>simp[bf]at hi
 subst hx;simp only[fM,g1];cases t with
 |true=>exact h A W fl m ts R hS
 |false=>exact h A W fl m ts R hS
theorem aJ.next{id it nx mo b r n seen ops draw o1 o2 ps es Q}(hn:Bd ops=some (it,nx,o1,o2))(hd:nx<nt)(hd2:mo<nt)(h2:o2.op=.extract (.tmp nx) 0) (h3:o2.dst=some mo) (h4:o2.guard=none)(RZ:Az ps.env (.tmp it)=some (.iter b)) (hb:ps.heap[b]? = some (.dB r n seen)) (hr:ML X ps.heap r=some es) (hl:es.length=n)(xk:(∀j,j<n->j∈seen)->Q .norm { ps with env:=jF (T.iL f id) ((mo,.val (.bool false))::(nx,.val (.dM [.bool false]))::ps.env) })(pick:∀j e,j∉seen->es[j]? = some e->Q .norm { ps with env:=jF (T.iL f id) ((mo,.val (.bool true))::(nx,.val (.dM [.bool true,e.1,e.2]))::ps.env),heap:=ps.heap.set b (.dB r n (j::seen)) }) :aJ X P T call cd L f nt B (.region id ops draw) ps Q:=fun A W fl m ts R hS hR0=>by
 obtain⟨x,g1,g2⟩:=jK hS.st.env RZ;obtain⟨mb,q1,q2⟩:=hS.st.heap.at_ b _ hb;obtain⟨cr,gV,q3,z1,z2,z3⟩:=DY hS.st.heap hr;cases mb with
 |gQ cb=>
   obtain⟨c,p1,p2,p3⟩:=q2;have:=p3 cr (by rcases q3 with q|⟨q,_⟩;exact .inl q;exact .inr q);subst this;cases g2 with
   |gone hi e _=>simp only[bf,a09]at hi;subst hi;rw[q1]at e;cases e
   |iter e1=>
    rw[q1]at e1;cases e1;have aqw:dR it ts.env=some (.val (.iter cb)):=by
     unfold rJ at g1;split at g1
     .rename_i v hv;cases g1;exact hv
     .cases g1
    have run:∀(s:St) (t:Bool) (vs:List TV),lU P call (fun d=>T.V4 f d) fl nt ops [o2] (s.put (some nx) (.val (.dM (.bool t::vs))))=some ({ s with env:=(mo,.val (.bool t))::(nx,.val (.dM (.bool t::vs)))::s.env },[dn]):=by intro s t vs;have e1:OA nt o2=true:=(by simp[OA,h3,hd2]);have e2:∀env,Dw ops env o2=some true:=fun env=>(by simp[Dw,h4]);simp only[lU,e1,e2,aah,a2K,a3U,pU,h2];simp[St.put,JH,dR,h3,kM,dn,zI]
    simp only[fM,hn];refine⟨hd,cb,cr,n,seen,gV,aqw,p1,z1,by rw[<-z2];exact hl,fun AY=>?_,fun j e hj he=>?_⟩
    .refine⟨_,_,run ts false [],hR0 _ _ { ps with env:=_ } m (xk AY) ?_ .refl Up.refl.b⟩;have hS2:wB X P A m { ps with env:=(mo,.val (.bool false))::(nx,.val (.dM [.bool false]))::ps.env } { ts with env:=(mo,.val (.bool false))::(nx,.val (.dM [.bool false]))::ts.env }:=
      ⟨hS.st.heap,hS.st.llen,hS.st.loc,.cons (.bool false) (.cons (bZ.cons (.bool false) .nil |> fun h=>.dM h.1 h.2) hS.st.env)⟩
     exact SR.pick ⟨hS2,hS.own,hS.ws,hS.fl⟩ _
    .have aQ:j<es.length:=by rw[z2];exact(a0x.1 he).1
     have hej:=a0Q aQ;have hv:=z3 j _ _ hej he;have hcb:=(a0x.1 p1).1;obtain⟨u1,u2⟩:=hS.st.heap.set (pb:=.dB r n (j::seen)) (hb:=.dB cr n (j::seen)) q1 (c:=cb) rfl (fun cs hc=>by simp[aU,p1]at hc) fun hF=>⟨cr,by simp[hcb],p2,p3⟩;refine⟨_,_,run _ true [e.1,e.2],hR0 _ _ { ps with env:=_,heap:=_ } m (pick j _ hj hej) ?_ u2 Up.refl.b⟩;have hS1:=hS.st.step u1 u2 .refl;have hS2:wB X P A m { ps with env:=(mo,.val (.bool true))::(nx,.val (.dM [.bool true,es[j].1,es[j].2]))::ps.env,heap:=ps.heap.set b (.dB r n (j::seen)) } { ts with env:=(mo,.val (.bool true))::(nx,.val (.dM [.bool true,e.1,e.2]))::ts.env,heap:=ts.heap.set cb (.dB cr n (j::seen)),ws:=kM fl [.h cb] ts.ws }:=
      ⟨hS1.heap,hS1.llen,hS1.loc,.cons (.bool true) (.cons (bZ.cons (.bool true) (bZ.cons (oD hv.1) (bZ.cons (oD hv.2) .nil)) |> fun h=>.dM h.1 h.2) hS1.env)⟩
     refine SR.pick ⟨hS2,hS.own,fun b2 yN=>?_,by simpa using hS.fl⟩ _;rcases oV.1 yN with h5|⟨h5,h6⟩
     .exact hS.ws b2 h5
     .simp at h5;subst h5;exact(hS.own _ (aY q1 rfl)).resolve_right (by omega)
 |_=>exact q2.elim
def abx(X:mV)(P:LI1)(cd:xM)(fv:PV X.Γ)(xs:List (PV X.Γ))(H:List (PB X.Γ))(K:PV X.Γ->List (PB X.Γ)->Prop):Prop:=
 ∀(A:Nat->Prop) (m:List MB) (h:List HB) (tf:TV) (rH:List TV) (R:TV->List HB->List Nat->Prop),HR X P A m H h->VR X P (AA A m) m h fv tf->bZ X P (AA A m) m h xs rH ->
  (∀w h1 ws m1 v H1,K v H1->HR X P A m1 H1 h1->VR X P (AA A m1) m1 h1 v w->Fr m h m1 h1->Up m m1->(∀b∈ws,b∈aZ m)->R w h1 ws)->cd tf rH h R
theorem a2E{n t first xs cap H K}(hX:bT X P)(ht:V3 P f=some t)(hE:aJ X P T (kW P T L n) DN L f t.nt H.length t.body ⟨lT X 0 (first++xs++cap),[],H⟩ fun e s=>(e=.norm\/e=.ret)/\∃us,Gt X P s t.results=some us/\K (a0s X us) s.heap):abx X P (wo P T (kW P T L n) L) (.fn f first cap) xs H K:=by
 intro A m h tf rH R hr hf GV hR;cases hf with
 |gone hi _ _=>simp[bf]at hi
 |fn p1 p2 p3 p4=>
  rename_i a' c';have Gp:=(bZ.app ⟨p1,p2⟩ GV).app ⟨p3,p4⟩;refine⟨t,ht,hE A (fun b=>b∈aZ m) _ m _ _ ⟨⟨hr,rfl,fun k cs hk=>by simp at hk,Oc Gp⟩,fun b h1=>.inl h1,fun b hb=>(by cases hb),a1l _⟩ fun e iV ps1 m1 ⟨he,us,hus,hk⟩ h3 h4 h5=>?_⟩;obtain⟨ws,g1,g2⟩:=Kr hX h3.st hus;refine⟨he,ws,g1,hR _ _ _ m1 _ _ hk h3.st.heap (VT g2) h4 (fun i mb hi=>h5 i mb ?_ hi) h3.ws⟩;rw[<-hr.len];exact(a0x.1 hi).1
theorem aJ.range(hX:bT X P){g}{qs:Array Nat}{vY body ps f1 a1 b1 K Q}(hg:Az ps.env g=some (.fn f1 a1 b1)) (hd:T.din.contains f1=true) (AY:(ps.env.all fun p=>a0H p.2)=true)(aqx:abx X P cd (.fn f1 a1 b1) [.lC (ps.heap.length+1)] (ps.heap++[.mark]++[.loop true f nt ps.env qs.toList vY body none]) K)(hk:∀v H1,K v H1->∃rd f2 RP e2 Dy a2 b2 jW e,H1[ps.heap.length+1]? = some (.loop rd f2 RP e2 Dy a2 b2 jW)/\SX rd jW=some e/\Q e { ps with heap:=H1.set (ps.heap.length+1) (.loop false f2 RP e2 Dy a2 b2 (some .skip)) }) :aJ X P T call cd L f nt B (.rangeFunc g qs vY body) ps Q:=by
 intro A W fl m ts R hS hR;obtain⟨tg,g1,g2⟩:=jK hS.st.env hg;have hm:=hS.st.heap.len;obtain⟨p1,p2,p3⟩:=hS.st.heap.push (pb:=.mark) (hb:=.mark) (mb:=.gQ ts.heap.length) (.inl rfl) (by simp[BR]);obtain⟨q1,q2,q3⟩:=p1.push (pb:=.loop true f nt ps.env qs.toList vY body none) (hb:=.loop true f nt ts.env qs.toList vY body none) (mb:=.gQ (ts.heap.length+1)) (.inl (by simp[MB.own])) (by
  refine⟨ts.env,by simp,?_⟩;refine kJ.step (m:=m) (h:=ts.heap) (A:=A) ?_ ?_ hS.st.env
  .have r2:Fr (m++[MB.gQ ts.heap.length]) (ts.heap++[HB.mark]) (m++[MB.gQ ts.heap.length]++[MB.gQ (ts.heap.length+1)]) (ts.heap++[HB.mark]++[HB.loop true f nt ts.env qs.toList vY body none]):=by
    refine⟨by simp,fun b hb _=>by rw[a0U hb],fun b hb=>?_,fun b cs hc=>⟨cs,?_,a1l _⟩⟩
    .rw[jA,a3M,kY]at hb;rcases hb with hb|hb
     .exact .inl hb
     .simp[MB.own]at hb;subst hb;exact .inr (by simp)
    .rw[fE (a0U (fH hc)),hc]
   exact p2.trans r2
  .exact p3.trans (xU _))
 have hF:=p2.trans q2;have hU:=p3.trans q3;have hyl:VR X P (AA A (m++[MB.gQ ts.heap.length]++[MB.gQ (ts.heap.length+1)])) (m++[MB.gQ ts.heap.length]++[MB.gQ (ts.heap.length+1)]) (ts.heap++[HB.mark]++[HB.loop true f nt ts.env qs.toList vY body none]) (.lC (ps.heap.length+1)) (.lC (ts.heap.length+1)):=by refine .lC ?_;rw[<-hm,a1r (by simp)];simp
 have hg':∃a1' b1',tg=.fn f1 a1' b1':=by
  cases g2 with
  |gone hi _ _=>simp[bf]at hi
  |fn _ _ _ _=>exact⟨_,_,rfl⟩
 obtain⟨a1',b1',rfl⟩:=hg';have aqA:a6Q T ts.env g=true:=by unfold a6Q;rw[g1];exact hd
 simp only[fM,aqA,a2p];refine⟨f1,a1',b1',g1,a7R hS.st.env AY,?_⟩;rw[show ts.heap++[HB.mark,HB.loop true f nt ts.env qs.toList vY body none]=ts.heap++[HB.mark]++[HB.loop true f nt ts.env qs.toList vY body none] by simp];refine aqx A _ _ _ [.lC (ts.heap.length+1)] _ q1 (g2.step hF hU) (.cons hyl .nil) fun w h1 ws m1 v H1 CZ c2 c3 c4 c5 c6=>?_;obtain⟨rd,f2,RP,e2,Dy,a2,b2,jW,e,hl,hj,hq⟩:=hk v H1 CZ;have hm1:m1[ps.heap.length+1]? = some (.gQ (ts.heap.length+1)):=by
  rcases c5 (ps.heap.length+1) (.gQ (ts.heap.length+1)) (by rw[<-hm,a1r (by simp)];simp)with e|e
  .exact e
  .obtain⟨mb,k1,k2⟩:=c2.at_ _ _ hl;rw[e]at k1;cases k1;exact k2.elim
 obtain⟨mb,k1,k2⟩:=c2.at_ _ _ hl;rw[hm1]at k1;cases k1;obtain⟨e2',k3,k4⟩:=k2;obtain⟨s1,s2⟩:=c2.set (i:=ps.heap.length+1) (c:=ts.heap.length+1) (pb:=.loop false f2 RP e2 Dy a2 b2 (some .skip)) (hb:=.loop false f2 RP e2' Dy a2 b2 (some .skip)) hm1 rfl (fun cs hc=>by unfold aU at hc;rw[k3]at hc;cases hc) (fun hF=>⟨e2',by rw[a2w (a0x.1 k3).1],k4.step hF .refl⟩);have hF2:=hF.trans (c4.trans s2);have hU2:=hU.trans c5;refine⟨_,_,_,_,_,_,_,_,e,k3,hj,hR _ _ _ m1 hq ⟨?_,fun b hb=>?_,fun b hb=>?_,?_⟩ hF2 hU2.b⟩
 .have q:=hS.st.step s1 hF2 hU2;exact⟨q.heap,q.llen,q.loc,q.env⟩
 .rcases hF2.new b hb with k|k
  .exact hS.own b k
  .exact .inr (a5Y hS.fl k)
 .rcases wW hb with k|⟨k,k'⟩
  .exact hS.ws b k
  .obtain⟨b',qZ,e⟩:=a1w.1 k;cases e;rcases hF.new b (c6 b qZ)with k2|k2
   .rcases hS.own b k2 with k3|k3
    .exact k3
    .omega
   .have:=hS.fl;omega
 .exact a5Y hS.fl hF2.len
end
section
variable{X:mV}{P:LI1}{A B:Nat->Prop}{m m' m1:List MB}{h h':List HB}{g:Nat->Option Nat}
def CO:List (PB X.Γ)->Bool
 | []=>true
 |.aF _::H=>CO H
 |.iP _::H=>CO H
 |.gone::H=>CO H
 |_=>false
theorem Yv:∀{H:List (PB X.Γ)},CO H=true->∀(i:Nat) b,H[i]? = some b->CO [b]=true
 | [],_,i,b,h=>by simp at h
 |a::H,hn,i,b,h=>by
  cases i with
  |zero=>simp at h;subst h;cases a<;>simp_all [CO]
  |succ i=>
   have EO:CO H=true:=by cases a<;>simp_all [CO]
   exact Yv EO i b (by simpa using h)
theorem a0K{H}(hn:CO H=true)(hr:HR X P A m H h):aZ m=[]:=by
 refine a6W.2 fun b hb=>?_;obtain⟨i,mb,h1,h2⟩:=kZ hb;have hl:i<H.length:=by rw[<-hr.len];exact(a0x.1 h1).1
 obtain⟨Ns,g1,g2⟩:=hr.at_ i _ (a0Q hl);rw[h1]at g1;cases g1;have h3:=Yv hn i _ (a0Q hl);generalize H[i]=b9 at g2 h3;cases b9<;>first|(cases h3;done)|skip
 all_goals (cases mb<;>first|exact g2.elim|cases h2)
theorem Qr{v:PV X.Γ}{t}(h:rY v=some t):(∀l,CW t l=l)/\(∀g,nY g t=some t)/\∀fl,Nl fl t=t:=by cases v<;>simp only[rY,a09,reduceCtorEq]at h<;>subst h<;>exact⟨fun _=>rfl,fun _=>rfl,fun _=>rfl⟩
theorem yZ:∀{vs:List (PV X.Γ)} {ts:List TV},iZ vs=some ts->(∀l,CW.Gm ts l=l)/\∀g,nY.zU g ts=some ts
 | [],ts,h=>by simp only[iZ,a09]at h;subst h;exact⟨fun _=>rfl,fun _=>rfl⟩
 |v::vs,ts,h=>by
  simp only[iZ]at h;split at h
  .rename_i a b h1 h2;cases h;have e1:=Qr h1;have e2:=yZ h2;exact⟨fun l=>by simp only[CW.Gm,e2.1,e1.1],fun g=>by simp only[nY.zU,e1.2.1,e2.2]⟩
  cases h
theorem Og{v:PV X.Γ}{t}(h:qE v=some t):(∀l,CW t l=l)/\(∀g,nY g t=some t)/\∀fl,Nl fl t=t:=by
 unfold qE at h;split at h
 .simp only[a0A]at h;obtain⟨ts,h1,rfl⟩:=h;have e:=yZ h1;exact⟨fun l=>by simp only[CW,e.1],fun g=>by simp only[nY,e.2,a1n],fun _=>rfl⟩
 exact Qr h
def a4D(X:mV)(P:LI1)(nN:Bool)(u:PV X.Γ)(Hs:List (PB X.Γ))(tv:Nat->TV)(tN:List HB):Prop:=
 ∀(A:Nat->Prop) (m:List MB) (h h1:List HB) (w:TV),HR X P A m Hs h1->VR X P (AA A m) m h1 u w->(∀b,b∈aZ m->h.length<=b)->Pn nN h w h1=some (tv h.length,h++tN)
theorem Ei(hX:bT X P){T L n f t first xs cap H N v tv tN}(hd:T.dem.contains f=true)(hx:T.exts.contains f=false)(ht:V3 P f=some t)(hN:CO H=true)(Px:∀A m h,HR X P A m H h->∃m1,HR X P A m1 (H++N) (h++tN)/\VR X P (AA A m1) m1 (h++tN) v (tv h.length)/\Fr m h m1 (h++tN)/\Up m m1)(hE:aJ X P T (kW P T L n) (wo P T (kW P T L n) L) L f t.nt H.length t.body ⟨lT X 0 (first++xs++cap),[],H⟩ fun e s=>(e=.norm\/e=.ret)/\∃us,Gt X P s t.results=some us/\a4D X P (T.aat.contains f) (a0s X us) s.heap tv tN):dK X P (kW P T L (n+1)) (.fn f first cap) xs H v (H++N):=by
 intro A m h tf rH hr hf GV;cases hf with
 |gone hi _ _=>simp[bf]at hi
 |fn p1 p2 p3 p4=>
  rename_i a' c';have Gp:=(bZ.app ⟨p1,p2⟩ GV).app ⟨p3,p4⟩;have hb:=a0K hN hr;have hS:SR X P A (fun _=>False) h.length m ⟨lT X 0 (first++xs++cap),[],H⟩ ⟨o8 0 (a'++rH++c'),[],h,[]⟩:=
   ⟨⟨hr,rfl,fun k cs hk=>by simp at hk,Oc Gp⟩,fun b h1=>(by rw[hb]at h1;cases h1),fun b hb=>(by cases hb),a1l _⟩
  have hO:XK P T (kW P T L n) L f t (a'++rH++c') h (tv h.length,h++tN):=by refine hE A _ _ m _ _ hS fun e iV ps1 m1 ⟨he,us,hus,hpv⟩ h3 h4 h5=>?_;obtain⟨ws,g1,g2⟩:=Kr hX h3.st hus;exact⟨he,ws,g1,a6W.2 fun b hb=>h3.ws b hb,hpv A m1 h iV.heap _ h3.st.heap (VT g2) fun b hb=>(h3.own b hb).resolve_left id⟩
  obtain⟨m1,q1,q2,q3,q4⟩:=Px A m h hr;refine⟨tv h.length,h++tN,[],m1,?_,q1,q2,q3,q4,fun b hb=>by cases hb⟩;simp only[kW,hx,hd,a2K,a3U,a2p];exact aaQ ht hO
theorem a0L{nN u Hs tu}(hu:qE u=some tu)(ht:∀cs,tu≠.dM cs):a4D X P nN u Hs (fun _=>tu) []:=fun A m h h1 w hr hw _=>by
 have:=jZ hw hu;subst this;obtain⟨e1,e2,e3⟩:=Og hu;have e4:Vq h.length w=w:=by
  cases w with
  |dM cs=>exact absurd rfl (ht cs)
  |_=>exact e3 h.length
 unfold Pn;simp only[e1,xO,e2,DR,e4,abr,a6g]
theorem aby(hX:bT X P){T L n f t first xs cap H v tv}(hd:T.dem.contains f=true)(hx:T.exts.contains f=false)(ht:V3 P f=some t)(hN:CO H=true)(hv:qE v=some tv)(hE:aJ X P T (kW P T L n) (wo P T (kW P T L n) L) L f t.nt H.length t.body ⟨lT X 0 (first++xs++cap),[],H⟩ fun e s=>(e=.norm\/e=.ret)/\∃us,Gt X P s t.results=some us/\a0s X us=v):dK X P (kW P T L (n+1)) (.fn f first cap) xs H v H:=by
 have:=Ei (N:=[]) (v:=v) (tv:=fun _=>tv) (tN:=[]) hX hd hx ht hN (fun A m h hr=>⟨m,by simpa using hr,oD hv,by simpa using Fr.refl,.refl⟩) (hE.mono fun e s ⟨h1,us,h2,h3⟩=>⟨h1,us,h2,by rw[h3];exact a0L hv fun cs hc=>by subst hc;cases v<;>simp[qE,rY]at hv⟩)
 rwa [a6g]at this
def xZ:List (PV X.Γ×PV X.Γ)->Option (List (TV×TV))
 | []=>some []
 |(k,v)::r=>match qE k,qE v,xZ r with
  |some k,some v,some r=>some ((k,v)::r)
  |_,_,_=>none
theorem Yw:∀{es:List (PV X.Γ×PV X.Γ)} {gV Oh:List (TV×TV)},xZ es=some Oh->es.length=gV.length->(∀(i:Nat) x y,es[i]? = some x->gV[i]? = some y->qE x.1=some y.1/\qE x.2=some y.2)->gV=Oh
 | [],gV,Oh,h,hl,_=>by simp only[xZ,a09]at h;subst h;exact a4u hl.symm
 |(k,v)::r,gV,Oh,h,hl,he=>by
  cases gV with
  |nil=>simp at hl
  |cons y gV=>
   simp only[xZ]at h;split at h
   .rename_i a b c h1 h2 h3;cases h;have e0:=he 0 _ _ rfl rfl;have e1:y.1=a:=by have:=e0.1.symm.trans h1;exact aan this
    have e2:y.2=b:=by have:=e0.2.symm.trans h2;exact aan this
    have e3:=Yw h3 (by simpa using hl) fun i x z hx hz=>he (i+1) x z (by simpa using hx) (by simpa using hz);rw[e3,<-e1,<-e2]
   cases h
theorem Qs:∀{es:List (PV X.Γ×PV X.Γ)} {Oh:List (TV×TV)},xZ es=some Oh->es.length=Oh.length/\∀(i:Nat) x y,es[i]? = some x->Oh[i]? = some y->qE x.1=some y.1/\qE x.2=some y.2
 | [],Oh,h=>by simp only[xZ,a09]at h;subst h;exact⟨rfl,by simp⟩
 |(k,v)::r,Oh,h=>by
  simp only[xZ]at h;split at h
  .rename_i a b c h1 h2 h3;cases h;obtain⟨i1,i2⟩:=Qs h3;refine⟨by simp[i1],fun i x y hx hy=>?_⟩;cases i with
   |zero=>simp at hx hy;subst hx;subst hy;exact⟨h1,h2⟩
   |succ i=>exact i2 i x y (by simpa using hx) (by simpa using hy)
  cases h
theorem Um:∀{es:List (PV X.Γ×PV X.Γ)} {Oh:List (TV×TV)},xZ es=some Oh->(∀l,aaL.a1S Oh l=l)/\∀g,Tw.pW g Oh=some Oh
 | [],Oh,h=>by simp only[xZ,a09]at h;subst h;exact⟨fun _=>rfl,fun _=>rfl⟩
 |(k,v)::r,Oh,h=>by
  simp only[xZ]at h;split at h
  .rename_i a b c h1 h2 h3;cases h;have e1:=Og h1;have e2:=Og h2;have e3:=Um h3;exact⟨fun l=>by simp only[aaL.a1S,e1.1,e2.1,e3.1],fun g=>by simp only[Tw.pW,e1.2.1,e2.2.1,e3.2]⟩
  cases h
theorem Qu{h h1:List HB}{c}(hc:h.length<=c)(hr:∀l,aaL h1[c]? l=l):xO h1 h.length 5000 [c] []=[c]/\XG h.length [c] c=some h.length:=by
 have e1:Nat.blt c h.length=false:=by
  cases e:Nat.blt c h.length with
  |false=>rfl
  |true=>have:=ah4 e;omega
 constructor
 .simp only[xO,e1,a6X,Bool.or_false,hr]
 simp only[XG,e1,a6V,Nat.beq_refl,a1n,a3L]
theorem a8a{nN r Hs es Oh}(hm:Hs[r]? = some (.map es))(he:xZ es=some Oh):a4D X P nN (.map r) Hs (fun n=>.map n) [.map (TN Oh)]:=fun A m h h1 w hr hw hn=>by
 obtain⟨mb,g1,g2⟩:=hr.at_ r _ hm;cases mb with
 |gQ c=>
  obtain⟨gV,g3,g4,g5⟩:=g2;have:=Yw he g4 g5;subst this;have hw:w=.map c:=by
   cases hw with
   |map e=>rw[g1]at e;cases e;rfl
   |gone hi e _=>simp only[bf,a09]at hi;subst hi;rw[g1]at e;cases e
  subst hw;have hc:=hn c (aY g1 rfl);obtain⟨e1,e2⟩:=Um he;obtain⟨k1,k2⟩:=Qu (h:=h) (h1:=h1) hc fun l=>by rw[g3];exact e1 l
  unfold Pn;simp only[CW,k1,nY,k2,a1n,DR,g3,vP,e2,Vq,Nl,a4U,abr,Si]
 |_=>exact g2.elim
theorem a8b(hX:bT X P){T L n f t first xs cap H es0 a4E}(hd:T.dem.contains f=true)(hx:T.exts.contains f=false)(ht:V3 P f=some t)(hN:CO H=true)(h0:xZ es0=some a4E)(hE:aJ X P T (kW P T L n) (wo P T (kW P T L n) L) L f t.nt H.length t.body ⟨lT X 0 (first++xs++cap),[],H⟩ fun e s=>(e=.norm\/e=.ret)/\∃us,Gt X P s t.results=some us/\∃r es Oh,a0s X us=.map r/\s.heap[r]? = some (.map es)/\xZ es=some Oh/\TN Oh=a4E):dK X P (kW P T L (n+1)) (.fn f first cap) xs H (.map H.length) (H++[.map es0]):=by
 refine Ei (tv:=fun n=>.map n) (tN:=[.map a4E]) hX hd hx ht hN (fun A m h hr=>?_) (hE.mono fun e s ⟨h1,us,h2,r,es,Oh,h3,h4,h5,h6⟩=>⟨h1,us,h2,by rw[h3,<-h6];exact a8a h4 h5⟩);obtain⟨p1,p2,p3⟩:=hr.push (pb:=.map es0) (hb:=.map a4E) (mb:=.gQ h.length) (.inl rfl) ⟨a4E,by simp,(Qs h0).1,(Qs h0).2⟩;exact⟨_,p1,.map (by rw[<-hr.len];simp),p2,p3⟩
theorem Yx(hX:bT X P){A m Hs h1 i ty k ex l w tcs}(hr:HR X P A m Hs h1)(hi:Hs[i]? = some (.list k ex ty l))(hl:l≠[])(hc:iZ (FU X ty l)=some tcs)(hw:VR X P (AA A m) m h1 (.own i) w) :∃c sz e kk,w=.aO c 0 l.length l.length sz e/\dI P ty=some sz/\c∈aZ m/\h1[c]? = some (.cells kk tcs)/\kk≠.ro:=by
 obtain⟨mb,g1,g2⟩:=hr.at_ i _ hi;cases mb with
 |dD x=>
  have hwx:w=x:=by
   cases hw with
   |own e _=>rw[g1]at e;cases e;rfl
   |gone hi e _=>simp only[bf,a09]at hi;subst hi;rw[g1]at e;cases e
  subst hwx;cases(g2:LR X P (AA A m) m h1 k ex ty l w)with
  |nil=>exact absurd rfl hl
  |emp=>exact absurd rfl hl
  |some _ q2 q3 q4 q5 q6 q7 q8 q9=>
   have hv:=eG.vrs q9 q8;have JW:=Hg hv hc;subst JW;exact⟨_,_,_,_,rfl,q2,aY g1 (by simp only[MB.own];rw[a18 (by simpa using hl)]),q4,q5⟩
 |_=>exact g2.elim
theorem a8c(hX:bT X P){i ty sz k ex l Hs tcs}(hi:Hs[i]? = some (.list k ex ty l))(hl:l≠[])(hc:iZ (FU X ty l)=some tcs)(hs:dI P ty=some sz):a4D X P true (.own i) Hs (fun n=>.aO n 0 l.length l.length sz false) [.nN (TP tcs)]:=fun A m h h1 w hr hw hn=>by
 obtain⟨c,sz',e,kk,rfl,g1,g2,g3,g4⟩:=Yx hX hr hi hl hc hw;rw[hs]at g1;cases g1;have nP:=hn c g2;obtain⟨e1,e2⟩:=yZ hc;obtain⟨k1,k2⟩:=Qu (h:=h) (h1:=h1) nP fun l=>by rw[g3];exact e1 l
 have e3:Si true (.cells kk tcs)=.nN (TP tcs):=by cases kk<;>first|rfl|exact absurd rfl g4
 unfold Pn;simp only[CW,k1,nY,k2,a1n,DR,g3,vP,e2,Vq,Nl,a4U,abr,e3,Nat.lt_irrefl,a3U]
theorem a8d(hX:bT X P){i ty sz k ex l Hs tcs p tp}(hi:Hs[i]? = some (.list k ex ty l))(hl:l≠[])(hc:iZ (FU X ty l)=some tcs)(hs:dI P ty=some sz)(hp:qE p=some tp):a4D X P false (.dM [.own i,p]) Hs (fun n=>.dM [.aO n 0 l.length l.length sz false,tp]) [.cells .last tcs]:=fun A m h h1 w hr hw hn=>by
 cases hw with
 |gone hi _ _=>simp[bf]at hi
 |dM a1 a2=>
  rename_i cs';obtain⟨x,r,rfl,v0,v1⟩:=bZ.inv (⟨a1,a2⟩:bZ X P _ _ _ _ _);obtain⟨y,r,rfl,v2,v3⟩:=v1.inv;have:=v3.inv0;subst this;have:=jZ v2 hp;subst this;obtain⟨c,sz',e,kk,rfl,g1,g2,g3,g4⟩:=Yx hX hr hi hl hc v0;rw[hs]at g1;cases g1;have nP:=hn c g2;obtain⟨e1,e2⟩:=yZ hc;obtain⟨q1,q2,q3⟩:=Og hp;obtain⟨k1,k2⟩:=Qu (h:=h) (h1:=h1) nP fun l=>by rw[g3];exact e1 l
  have e3:Si false (.cells kk tcs)=.cells .last tcs:=by cases kk<;>first|rfl|exact absurd rfl g4
  unfold Pn;have q4:Nl h.length (.aO h.length 0 l.length l.length sz e)=.aO h.length 0 l.length l.length sz false:=by simp only[Nl,Nat.lt_irrefl,a3U]
  simp only[CW,CW.Gm,q1,k1,nY,nY.zU,q2,k2,a1n,DR,g3,vP,e2,Vq,q3,q4,a4U,abr,e3]
theorem abz{H n sz cs ts}(h0:Vw cs=some ts){A m h}(hr:HR X P A m H h):∃m1,HR X P A m1 (H++[.nN cs]) (h++[.nN ts])/\VR X P (AA A m1) m1 (h++[.nN ts]) (.aO H.length 0 n n sz false) (.aO h.length 0 n n sz false)/\Fr m h m1 (h++[.nN ts])/\Up m m1:=by obtain⟨p1,p2,p3⟩:=hr.push (pb:=.nN cs) (hb:=.nN ts) (mb:=.gQ h.length) (.inl rfl) ⟨ts,by simp,h0⟩;exact⟨_,p1,.aO (by rw[<-hr.len];simp),p2,p3⟩
theorem Yy{ty sz}:∀{l},(∀(j:Nat) a,l[j]? = some a->(X.enc ty a).length=sz)->(FU X ty l).length=l.length*sz/\∀(j) a (i:Nat) c,l[j]? = some a->(X.enc ty a)[i]? = some c->(FU X ty l)[j*sz+i]? = some c
 | [],_=>⟨by simp[FU],by simp⟩
 |a::l,he=>by
  obtain⟨h1,h2⟩:=Yy (l:=l) fun j b hb=>he (j+1) b (by simpa using hb);have h0:=he 0 a rfl;refine⟨by simp only[FU,a1B,h0,h1,a4C,a3W,abn];omega,fun j b i c hb hc=>?_⟩;cases j with
  |zero=>
   simp at hb;subst hb;simp only[FU,ado,a3L];rw[a0U (a0x.1 hc).1];exact hc
  |succ j=>
   simp only[FU];rw[a1r (by rw[h0,a3W];omega),h0,show(j+1)*sz+i-sz=j*sz+i by rw[a3W];omega];exact h2 j b i c (by simpa using hb) hc
theorem a4F{ty sz l tcs A m h}(he:∀(j:Nat) a,l[j]? = some a->(X.enc ty a).length=sz)(hc:iZ (FU X ty l)=some tcs):tcs.length=l.length*sz/\eG X P A m h ty l tcs 0 sz:=by
 have hv:=Hl (X:=X) (P:=P) (A:=A) (m:=m) (h:=h) hc;obtain⟨h1,h2⟩:=Yy he;have hl:tcs.length=l.length*sz:=by rw[<-hv.1,h1]
 exact⟨hl,he,by rw[hl];omega,fun j a i c v a1 a2 a3=>hv.2 (j*sz+i) c v (h2 j a i c a1 a2) (by rw[a3L]at a3;exact a3)⟩
theorem abA(hX:bT X P){H ty sz l tcs p tp}(hl:l≠[])(hc:iZ (FU X ty l)=some tcs)(hs:dI P ty=some sz)(h0:0<sz)(he:∀(j:Nat) a,l[j]? = some a->(X.enc ty a).length=sz)(hp:qE p=some tp){A m h}(hr:HR X P A m H h) :∃m1,HR X P A m1 (H++[.list false false ty l]) (h++[.cells .last tcs])/\VR X P (AA A m1) m1 (h++[.cells .last tcs]) (.dM [.own H.length,p]) (.dM [.aO h.length 0 l.length l.length sz false,tp])/\Fr m h m1 (h++[.cells .last tcs])/\Up m m1:=by
 obtain⟨p1,p2,p3⟩:=hr.push (pb:=.list false false ty l) (hb:=.cells .last tcs) (mb:=.dD (.aO h.length 0 l.length l.length sz false)) (.inl (by simp only[MB.own];rw[a18 (by simpa using hl)])) (by obtain⟨r1,r2⟩:=a4F (A:=AA A (m++[MB.dD (.aO h.length 0 l.length l.length sz false)])) (m:=m++[MB.dD (.aO h.length 0 l.length l.length sz false)]) (h:=h++[.cells .last tcs]) (P:=P) he hc;exact LR.some (kk:=.last) (cs:=tcs) hl hs h0 (by simp) (by simp) (by simp) (by simp) r1 r2)
 exact⟨_,p1,bZ.cons (.own (by rw[<-hr.len];simp) rfl) (.cons (oD hp) .nil) |> fun h=>.dM h.1 h.2,p2,p3⟩
end
def eU:Code->Code
 |.seq a _=>a
 |.block _ b=>b
 |.loop b=>b
 |.scope b=>b
 |.cond _ a _=>a
 |c=>c
def eX:Code->Code
 |.seq _ b=>b
 |.cond _ _ b=>b
 |c=>c
def a8e:Code->Array Oper
 |.region _ o _=>o
 |_=>#[]
def Un(P:LI1)(f:Nat):FnT:=match V3 P f with
 |some t=>t
 |none=>⟨0,.skip,[]⟩
def Wh(ops:Array Oper)(it nx mo:Nat):Bool:=match Bd ops with
 |some (a,b,_,o2)=>a==it&&b==nx&&(match o2.op,o2.dst,o2.guard with
  |.extract (.tmp k) 0,some d,none=>k==nx&&d==mo
  |_,_,_=>false)
 |none=>false
theorem a4G{ops it nx mo}(h:Wh ops it nx mo=true):∃o1 o2,Bd ops=some (it,nx,o1,o2)/\o2.op=.extract (.tmp nx) 0/\o2.dst=some mo/\o2.guard=none:=by
 unfold Wh at h;split at h
 .rename_i a b o1 o2 e;simp only[a2n,a6x]at h;obtain⟨⟨rfl,rfl⟩,h⟩:=h;split at h
  .rename_i k d e1 e2 e3;simp only[a2n,a6x]at h;obtain⟨rfl,rfl⟩:=h;exact⟨o1,o2,e,e1,e2,e3⟩
  cases h
 cases h
section
variable{X:mV}{P:LI1}{T:vH}{call:dO}{cd:xM}{gq:gZ X.Γ}{L f nt B:Nat}
theorem Af(hX:bT X P)(hO:jT X P call gq){c ps ps1 an o e}(hk:jY X P T gq (dK X P call) (dS X P T call L f false nt B) B L f false nt c ps an agq=o)(ht:Fp (fun r=>r=(e,ps1)) an o):dS X P T call L f false nt B c ps e ps1:=by obtain⟨y,h1,h2⟩:=ht.aK;subst h2;rw[<-hk]at h1;exact Y9 hX hO h1
theorem a2F{n j seen}(hj:j<n)(hn:j∉seen):((List.range n).filter fun i=>!(j::seen).contains i).length<((List.range n).filter fun i=>!seen.contains i).length:=by
 have e:((List.range n).filter fun i=>!(j::seen).contains i)=((List.range n).filter fun i=>!seen.contains i).filter fun i=>!(i==j):=by rw[List.filter_filter];refine List.filter_congr fun i _=>?_;rw[aiz];cases i==j<;>simp
 rw[e];refine List.length_filter_lt_length_iff_exists.2 ⟨j,a5X.2 ⟨a5m.2 hj,by simpa using hn⟩,by simp⟩
end
section
variable{X:mV}{P:LI1}{T:vH}{call:dO}{cd:xM}{L f nt B:Nat}
theorem aJ.ghost(hX:bT X P){gs c ps ps1 Q}(hg:lZ B gs ps=some ps1)(h:aJ X P T call cd L f nt B c ps1 Q):aJ X P T call cd L f nt B c ps Q:=fun A W fl m ts R hS hR=>by obtain⟨m2,q1,q2,q3⟩:=nO hX hg A W fl m ts hS;exact h A W fl m2 ts R q1 fun e iV ps1 m1 a1 a2 a3 a4=>hR e iV ps1 m1 a1 a2 (q2.trans a3) (q3.trans a4)
theorem Qv(hX:bT X P){x i0 i1 id it nx mo b r n ops draw s0 es}{Q:bV X.Γ->Prop}(I:List Nat->bV X.Γ->Prop)(hnx:Wh ops it nx mo=true) (hd:nx<nt) (hd2:mo<nt) (hl:es.length=n) (hL:n<L) (hI:I [] s0)(hinv:∀seen s,I seen s->∃gs s',lZ B gs (gY X (T.eY f (dZ (.seq (.region id ops draw) (.seq (.cond (.tmp mo) .skip (.exit i0)) (.block i1 x))))) s)=some s'/\Az s'.env (.tmp it)=some (.iter b)/\s'.heap[b]? = some (.dB r n seen)/\ML X s'.heap r=some es /\((∀j,j<n->j∈seen)->Az (jF (T.iL f id) ((mo,.val (.bool false))::(nx,.val (.dM [.bool false]))::s'.env)) (.tmp mo)=some (.bool false)/\Q { s' with env:=jF (T.iL f id) ((mo,.val (.bool false))::(nx,.val (.dM [.bool false]))::s'.env) }) /\∀j e,j∉seen->es[j]? = some e->Az (jF (T.iL f id) ((mo,.val (.bool true))::(nx,.val (.dM [.bool true,e.1,e.2]))::s'.env)) (.tmp mo)=some (.bool true) /\aJ X P T call cd L f nt B x { s' with env:=jF (T.iL f id) ((mo,.val (.bool true))::(nx,.val (.dM [.bool true,e.1,e.2]))::s'.env),heap:=s'.heap.set b (.dB r n (j::seen)) } fun e s=>(e=.norm\/e=.exit i1)/\I (j::seen) s) :aJ X P T call cd L f nt B (.block i0 (.loop (.seq (.region id ops draw) (.seq (.cond (.tmp mo) .skip (.exit i0)) (.block i1 x))))) s0 fun e s=>e=.norm/\Q s:=by
 obtain⟨o1,o2,hn,h2,h3,h4⟩:=a4G hnx;have skp:∀{s:bV X.Γ} {Q':Ex->bV X.Γ->Prop},Q' .norm s->aJ X P T call cd L f nt B .skip s Q':=fun{s Q'} hq=>by intro A W fl m ts R hS hR;simp only[fM];exact⟨_,_,rfl,hR _ _ s m hq hS .refl Up.refl.b⟩
 have ext:∀{i:Nat} {s:bV X.Γ} {Q':Ex->bV X.Γ->Prop},Q' (.exit i) s->aJ X P T call cd L f nt B (.exit i) s Q':=fun{i s Q'} hq=>by intro A W fl m ts R hS hR;simp only[fM];exact⟨_,_,rfl,hR _ _ s m hq hS .refl Up.refl.b⟩
 refine aJ.block ?_;refine aJ.loop (fun k s=>∃seen,I seen s/\k=((List.range n).filter fun i=>!seen.contains i).length) (fun k s hi=>?_) (k:=n) ⟨[],hI,by rw[show((List.range n).filter fun i=>!([]:List Nat).contains i)=List.range n from aei.2 fun a _=>rfl,a6I]⟩ hL;obtain⟨seen,hi,rfl⟩:=hi;obtain⟨gs,s',e1,e2,e3,e4,e5,e6⟩:=hinv seen s hi;refine aJ.ghost hX e1 ?_;refine aJ.seq (R:=fun e s=>e=.norm/\(((∀j,j<n->j∈seen)/\s={ s' with env:=jF (T.iL f id) ((mo,.val (.bool false))::(nx,.val (.dM [.bool false]))::s'.env) })\/∃j e,j∉seen/\es[j]? = some e/\s={ s' with env:=jF (T.iL f id) ((mo,.val (.bool true))::(nx,.val (.dM [.bool true,e.1,e.2]))::s'.env),heap:=s'.heap.set b (.dB r n (j::seen)) })) ?_ (fun s hs=>?_) (fun i s h=>by cases h.1) (fun s h=>by cases h.1)
 .exact aJ.next hn hd hd2 h2 h3 h4 e2 e3 e4 hl (fun ho=>⟨rfl,.inl ⟨ho,rfl⟩⟩) (fun j e hj he=>⟨rfl,.inr ⟨j,e,hj,he,rfl⟩⟩)
 .obtain⟨_,⟨h5,rfl⟩|⟨j,e,hj,he,rfl⟩⟩:=hs
  .obtain⟨m1,q1⟩:=e5 h5;refine aJ.seq (R:=fun e s=>e=.exit i0/\s={ s' with env:=jF (T.iL f id) ((mo,.val (.bool false))::(nx,.val (.dM [.bool false]))::s'.env) }) (aJ.cond (t:=false) m1 (ext ⟨rfl,rfl⟩)) (fun s h=>by cases h.1) (fun i s h=>?_) (fun s h=>by cases h.1);obtain⟨h7,rfl⟩:=h;cases h7;dsimp only;rw[a1e rfl];exact⟨rfl,q1⟩
  .obtain⟨m2,hx⟩:=e6 j e hj he;have hjn:j<n:=by rw[<-hl];exact(a0x.1 he).1
   refine aJ.seq (R:=fun e1 s=>e1=.norm/\s={ s' with env:=jF (T.iL f id) ((mo,.val (.bool true))::(nx,.val (.dM [.bool true,e.1,e.2]))::s'.env),heap:=s'.heap.set b (.dB r n (j::seen)) }) (aJ.cond (t:=true) m2 (skp ⟨rfl,rfl⟩)) (fun s h=>?_) (fun i s h=>by cases h.1) (fun s h=>by cases h.1);obtain⟨_,rfl⟩:=h;refine aJ.block ?_;refine hx.mono fun e s h=>?_;obtain⟨h1|h1,h2⟩:=h
   .subst h1;exact⟨_,a2F hjn hj,j::seen,h2,rfl⟩
   .subst h1;dsimp only;rw[a1e rfl];exact⟨_,a2F hjn hj,j::seen,h2,rfl⟩
theorem Wi(hX:bT X P){x i0 i1 id it nx mo b r n ops draw s0 es}{Q:bV X.Γ->Prop}(I:List Nat->bV X.Γ->Prop)(hnx:Wh ops it nx mo=true) (hd:nx<nt) (hd2:mo<nt) (hl:es.length=n) (hL:n<L) (hI:I [] s0)(hinv:∀seen s,I seen s->∃s',gY X (T.eY f (dZ (.seq (.region id ops draw) (.seq (.cond (.tmp mo) .skip (.exit i0)) (.block i1 x))))) s=s'/\Az s'.env (.tmp it)=some (.iter b)/\s'.heap[b]? = some (.dB r n seen)/\ML X s'.heap r=some es /\((∀j,j<n->j∈seen)->Az (jF (T.iL f id) ((mo,.val (.bool false))::(nx,.val (.dM [.bool false]))::s'.env)) (.tmp mo)=some (.bool false)/\Q { s' with env:=jF (T.iL f id) ((mo,.val (.bool false))::(nx,.val (.dM [.bool false]))::s'.env) }) /\∀j e,j∉seen->es[j]? = some e->Az (jF (T.iL f id) ((mo,.val (.bool true))::(nx,.val (.dM [.bool true,e.1,e.2]))::s'.env)) (.tmp mo)=some (.bool true) /\aJ X P T call cd L f nt B x { s' with env:=jF (T.iL f id) ((mo,.val (.bool true))::(nx,.val (.dM [.bool true,e.1,e.2]))::s'.env),heap:=s'.heap.set b (.dB r n (j::seen)) } fun e s=>(e=.norm\/e=.exit i1)/\I (j::seen) s) :aJ X P T call cd L f nt B (.block i0 (.loop (.seq (.region id ops draw) (.seq (.cond (.tmp mo) .skip (.exit i0)) (.block i1 x))))) s0 fun e s=>e=.norm/\Q s:=
 Qv hX I hnx hd hd2 hl hL hI fun seen s hi=>let ⟨s',e1,h⟩:=hinv seen s hi;⟨[],s',congrArg some e1,h⟩
end
theorem Good.a2G{X P T L α β f a}{r:Ar X P β}{S}{pre:α->List Prop}{gq Yf a7Z akv:gZ X.Γ}(d:Nat)(hg:Good X P T L gq)(hg2:Good X P T L Yf)(hg3:Good X P T L a7Z)(hg4:Good X P T L akv)(hf:∀n,d<=n->(∀m,n-d<=m->jT X P (kW P T L m) gq)->(∀m,n-d<=m->jT X P (kW P T L m) Yf)->(∀m,n-d<=m->jT X P (kW P T L m) a7Z)->(∀m,n-d<=m->jT X P (kW P T L m) akv)->∀x,(∀p∈pre x,p)->nI X P (kW P T L (n+1)) f (a.put x) (r.put (S x)) []):Good X P T L (cu f a r S pre gq):=by
 obtain⟨N2,hN2⟩:=hg2;obtain⟨N3,hN3⟩:=hg3;obtain⟨N4,hN4⟩:=hg4;obtain⟨M,hM⟩:=hg;refine⟨M+N2+N3+N4+d+1,fun n hn=>?_⟩;obtain⟨k,rfl⟩:∃k,n=k+1:=⟨n-1,by omega⟩;intro g vs v ext ps ho hp;unfold cu at ho;split at ho
 .rename_i e;have e:=aad e;subst e;split at ho
  .rename_i x hx;cases ho;intro A h first args cap Gl hv
   exact hf k (by omega) (fun m hm=>hM m (by omega)) (fun m hm=>hN2 m (by omega)) (fun m hm=>hN3 m (by omega)) (fun m hm=>hN4 m (by omega)) x hp A h first args cap Gl (a.ok hx hv)
  .exact hM (k+1) (by omega) g vs v ext ps ho hp
 .exact hM (k+1) (by omega) g vs v ext ps ho hp
section
variable{X:mV}{P:LI1}
theorem dK.lend(hX:bT X P){call f cs ws rest xs H es}(is)(hs:dK X P call (.fn f [] []) (.agg (ws++rest)::xs) (aX is H) (.map H.length) (aX is H++[.map es]))(hv:views H cs=some ws) (ho:∀i,i∈lN.kX cs->i∈is) (hg:aX is H=List.replicate H.length .gone):dK X P call (.fn f [] []) (.agg (cs++rest)::xs) H (.map H.length) (H++[.map es]):=by
 intro A m h tf rH hr hf hx;obtain⟨x0,r,rfl,v0,vr⟩:=hx.inv;cases v0 with
 |gone hi _ _=>simp[bf]at hi
 |agg a1 a2=>
  rename_i cs';have ha:bZ X P (AA A m) m h (cs++rest) cs':=⟨a1,a2⟩;obtain⟨c1,c2,rfl,b1,b2⟩:=Fh ha;have hF:=iK (h:=h) is m;have w1:=(mg (m':=bW is m) hX hr b1 hv ho).mono fun b hb=>FA.gone hr hb;have w2:=b2.step hF.1 hF.2;have w3:=w1.app w2;have hr0:=hr.aX is;obtain⟨w,h',Xl,m1,k1,k2,k3,k4,k5,k6⟩:=hs A (bW is m) h tf (.agg (c1++c2)::r) hr0 (hf.step hF.1 hF.2) (.cons (.agg w3.1 w3.2) (vr.step hF.1 hF.2));have e0:∀b,b∉aZ (bW is m):=fun b hb=>by
   unfold aZ at hb;obtain⟨mb,h1,h2⟩:=a6u.1 hb;obtain⟨i,hi,e⟩:=a9L h1;have MC:i<H.length:=by have:=hr0.len;rw[oC]at this;omega
   obtain⟨mb2,g1,g2⟩:=hr0.at_ i .gone (by rw[hg,aey,a1e MC]);rw[a0Q hi,e]at g1;cases g1;cases mb with
   |gone=>cases h2
   |_=>exact g2.elim
  obtain⟨mb,g1,g2⟩:=k2.at_ H.length (.map es) (by rw[a1r (by rw[oC];exact a1l _),oC];simp);cases mb with
  |gQ c=>
   have hc:c∈aZ m1:=a6u.2 ⟨_,a5N g1,rfl⟩;have MG:h.length<=c:=(k4.new c hc).resolve_left (e0 c);have yN:aZ (m++[.gQ c])=aZ m++[c]:=by unfold aZ;rw[List.filterMap_append];rfl
   have hF2:Fr m h (m++[.gQ c]) h':=⟨k4.len,fun b hb _=>k4.same b hb (e0 b),fun b hb=>by
    rw[yN]at hb;rcases a3M.1 hb with hb|hb
    .exact .inl hb
    .rw[a1D.1 hb];exact .inr MG,k4.grow⟩
   have hU2:Up m (m++[.gQ c]):=fun i mb hi=>.inl (by rw[a0U (a0x.1 hi).1];exact hi);have hm:(m++[MB.gQ c])[H.length]? = some (.gQ c):=by rw[<-hr.len];simp
   refine⟨w,h',Xl,m++[.gQ c],k1,⟨by simp[hr.len],fun i b hi=>?_,?_,k2.up,fun b hb=>?_⟩,?_,hF2,hU2,fun b hb=>absurd (k6 b hb) (e0 b)⟩
   .by_cases aQ:i<H.length
    .rw[a0U aQ]at hi;obtain⟨mb,q1,q2⟩:=hr.at_ i b hi;exact⟨mb,by rw[a0U (by rw[hr.len];exact aQ)];exact q1,q2.step hF2 hU2 fun d hd=>k4.same d (BR.has q2 hd) (e0 d)⟩
    .have MC:i=H.length:=by have:=(a0x.1 hi).1;rw[a1B,a4v]at this;omega
     subst MC;rw[a1r (a1l _)]at hi;simp at hi;subst hi;exact⟨_,hm,g2⟩
   .rw[yN];refine a9N.2 ⟨hr.nodup,by simp,fun a ha b hb=>?_⟩;rw[a1D.1 hb];have:=hr.inb ha;omega
   .rw[yN]at hb;rcases a3M.1 hb with hb|hb
    .exact hr.DX b hb
    .rw[a1D.1 hb];exact k2.DX c hc
   .cases k3 with
    |map e=>rw[g1]at e;cases e;exact .map hm
    |gone hi e o=>simp only[bf,a09]at hi;subst hi;rw[g1]at e;cases e
  |_=>exact g2.elim
variable{A:Nat->Prop}{m m':List MB}{H:List (PB X.Γ)}{h:List HB}
end
section
variable{X:mV}{P:LI1}
theorem dK.cell1(hX:bT X P){call fv v U3 ws1 cs F8 ws2 H H1}{i e sz:Nat}{row}(is)(hi:H[i]? = some (.cells cs))(hz:dI P e=some sz)(h0:0<sz)(hl:cs.length=sz)(hr0:(X.enc e row).length=sz)(hs:dK X P call fv [.agg (ws1++(.dD e [row] false::ws2))] (aX (i::is) H) v H1) (v1:views H U3=some ws1) (v2:views H cs=some (X.enc e row)) (v3:views H F8=some ws2)(o1:∀j,j∈lN.kX U3->j∈i::is) (o2:∀j,j∈lN.kX cs->j∈i::is) (o3:∀j,j∈lN.kX F8->j∈i::is):dK X P call fv [.agg (U3++(.aO i 0 1 1 sz true::F8))] H v H1:=by
 intro A m h tf rH hr hf hx;obtain⟨x0,r,rfl,v0,vr⟩:=hx.inv;cases v0 with
 |gone hi _ _=>simp[bf]at hi
 |agg a1 a2=>
  rename_i cs';have ha:bZ X P (AA A m) m h (U3++(.aO i 0 1 1 sz true::F8)) cs':=⟨a1,a2⟩;obtain⟨c1,c2,rfl,b1,b2⟩:=Fh ha;obtain⟨y,c3,rfl,b3,b4⟩:=b2.inv;obtain⟨mb,g1,g2⟩:=hr.at_ i _ hi;cases mb with
  |gQ b=>
   obtain⟨ts,g3,g4⟩:=g2;have hy:y=.aO b 0 1 1 sz true:=by
    cases b3 with
    |aO q=>rw[g1]at q;cases q;rfl
    |gone hi q _=>simp only[bf,a09]at hi;subst hi;rw[g1]at q;cases q
   subst hy;have hF:=iK (h:=h) (i::is) m;have w1:=(mg (m':=bW (i::is) m) hX hr b1 v1 o1).mono fun b hb=>FA.gone hr hb;have w3:=(mg (m':=bW (i::is) m) hX hr b4 v3 o3).mono fun b hb=>FA.gone hr hb;have w2:=mg (m':=bW (i::is) m) hX hr g4 v2 o2;have hb:FA A m (i::is) b:=.inr ⟨i,_,a3K,g1,rfl⟩;have q2:VR X P (FA A m (i::is)) (bW (i::is) m) h (.dD e [row] false) (.aO b 0 [row].length 1 sz true):=.dD (cs:=ts) hb (by unfold aU;rw[g3]) (fun _=>xR g3 (by simp)) hz h0 (by rw[<-g4.1,hl];simp) (a1l _) (fun e=>by cases e)
    (fun j a hj=>by
     cases j with
     |zero=>simp only[a3E,a09]at hj;subst hj;exact hr0
     |succ j=>simp at hj) (fun j a q c w hj hq hw=>by
     cases j with
     |zero=>simp only[a3E,a09]at hj;subst hj;exact w2.2 q c w hq (by simpa using hw)
     |succ j=>simp at hj)
   have w4:=w1.app (.cons (q2.mono fun b hb=>FA.gone hr hb) w3);obtain⟨w,h',Xl,m1,k1,k2,k3,k4,k5,k6⟩:=hs A (bW (i::is) m) h tf (.agg (c1++(.aO b 0 1 1 sz true::c3))::r) (hr.aX (i::is)) (hf.step hF.1 hF.2) (.cons (.agg w4.1 w4.2) (vr.step hF.1 hF.2));refine⟨w,h',Xl,m1,k1,k2,k3,hF.1.trans k4,hF.2.trans k5,fun b hb=>?_⟩;rcases hF.1.new b (k6 b hb)with g|g
   .exact g
   .have:=(hr.aX (i::is)).inb (k6 b hb);omega
  |_=>exact g2.elim
end
end Pv
namespace Tw
open Go Go.ChangeShapes Go.WideShapes Go.RowKit
theorem KR{H}{enc:LI2×LI3->H}{P w t ts vs ds ps}(h:DataW.TrodAll enc P w 0 (fun _=>true) true (t::ts) vs ds ps):∃d e,ds=d::e/\Rd enc P w t d/\∃vs ps,DataW.TrodAll enc P w 0 (fun _=>true) true ts vs e ps:=by obtain⟨v,vs',d,ds',p,q,rfl,rfl,rfl,⟨fuel,hd⟩,OV⟩:=trodAll_cons h;exact⟨d,ds',rfl,⟨_,fuel,p,hd⟩,_,_,OV⟩
section
variable{H:Type}{P:LI1}{g:Nat}{t:LI2}{ts:List LI2}{d:DataW H}{ds:List (DataW H)}{h h1 h2:List HB}{xs:List TV}
theorem a0M{cs}(ha:xq P t=some true)(he:DT P g t d h=some (cs,h1))(hr:Vt P g ts ds h1=some (xs,h2)):Vt P g (t::ts) (d::ds) h=some (.agg cs::xs,h2):=by simp only[Vt,he,ha,hr]
theorem agM:Vt (H:=H) P g [] [] h=some ([],h):=rfl
end
end Tw
namespace Pv
open Go Tw
section
variable{X:mV}{P:LI1}{H:Type}{nT:LI2×LI3->H}{w:LI4}
abbrev AT:Nat->Prop:=fun _=>True
def RdP(nT:LI2×LI3->H)(X:mV)(P:LI1)(w:LI4)(g t:Nat){α:Type}(ps:α->List (PV X.Γ))(Q:α->Prop):Prop:=
 ∀d,Rd nT P w t d->∃a,Q a/\∀h,∃xs ext,DT P g t d h=some (xs,h++ext)/\∀e,bZ X P AT [] (h++ext++e) (ps a) xs
theorem a2H{t g:Nat}{k}(ht:P.underlying t=some (.int k)):RdP nT X P w (g+1) t (fun n:Int=>[.int k n]) (fun n=>(Lit.int k n).wf=true):=fun d hd=>by obtain⟨n,rfl,hn⟩:=agH ht hd;exact⟨n,hn,fun h=>⟨[.int k n],[],by simp[DT,ht],fun e=>.cons (.int _ _) .nil⟩⟩
theorem Uo{e g sz Q}(hlen:∀a,(X.enc e a).length=sz)(hr:RdP nT X P w g e (X.enc e) Q):∀(ds),(∀y∈ds,Rd nT P w e y) ->∃l:List (X.Γ e),l.length=ds.length/\(∀a∈l,Q a)/\∀h,∃cs ext,XL (DT P g e) sz ds h=some (cs,h++ext)/\cs.length=l.length*sz/\∀e2 (j:Nat) a (i:Nat) c v,l[j]? = some a->(X.enc e a)[i]? = some c->cs[j*sz+i]? = some v->VR X P AT [] (h++ext++e2) c v
 | [],_=>⟨[],rfl,by simp,fun h=>⟨[],[],by simp[XL],by simp,fun e2 j a i c v h1=>by simp at h1⟩⟩
 |d::ds,hd=>by
  obtain⟨a,qa,ha⟩:=hr d (hd d (a3K ..));obtain⟨l,l1,l2,l3⟩:=Uo hlen hr ds fun y hy=>hd y (a3I _ hy);refine⟨a::l,by simp[l1],fun b hb=>(a1E.1 hb).elim (fun e=>e▸qa) (l2 b),fun h=>?_⟩;obtain⟨xs,e1,h1,v1⟩:=ha h;obtain⟨cs,e2,h2,c2,v2⟩:=l3 (h++e1);have hx:xs.length=sz:=by rw[<-(v1 []).1];exact hlen a
  refine⟨xs++cs,e1++e2,?_,by simp only[a1B,a4C,hx,c2,a3W];omega,fun e3 j b i c v hj hi hv=>?_⟩
  .simp only[XL,h1,hx,a2p,h2,a6c]
  .cases j with
   |zero=>
    simp only[a3E,a09]at hj;subst hj;have MC:i<sz:=by rw[<-hlen a];exact(a0x.1 hi).1
    rw[ado,a3L,a0U (by omega)]at hv;have:=(v1 (e2++e3)).2 i c v hi hv;simp only[a6c]at this ⊢;exact this
   |succ j=>
    rw[aaD]at hj;rw[a1r (by rw[hx,a3W];omega),hx,show(j+1)*sz+i-sz=j*sz+i by rw[a3W];omega]at hv;have:=v2 e3 j b i c v hj hi hv;simp only[a6c]at this ⊢;exact this
theorem Qw{t e g sz:Nat}{Q}(ht:P.underlying t=some (.slice e))(qV:P.cellsOf e=sz)(hz:dI P e=some sz)(h0:0<sz)(hlen:∀a,(X.enc e a).length=sz)(hr:RdP nT X P w g e (X.enc e) Q):RdP nT X P w (g+1) t (fun l:List (X.Γ e)=>[.dD e l false]) (fun l=>∀a∈l,Q a):=fun d hd=>by
 rcases a7Y ht hd with rfl|⟨xs,ys,rfl,hy⟩
 .exact⟨[],by simp,fun h=>⟨[.nil .aO],[],by simp[DT,ht],fun e=>.cons .ql .nil⟩⟩
 .obtain⟨l,l1,l2,l3⟩:=Uo hlen hr (xs++ys) hy;have hl:xs.length<=l.length:=by rw[l1,a1B];omega
  refine⟨l.take xs.length,fun a ha=>l2 a (aaf ha),fun h=>?_⟩;obtain⟨cs,e1,h1,c1,v1⟩:=l3 h;refine⟨[.aO (h++e1).length 0 xs.length (xs.length+ys.length) sz true],e1++[.cells .ro cs],?_,fun e2=>.cons ?_ .nil⟩
  .have iI:¬sz=0:=(by omega);simp only[DT,ht,qV,h1,iI,a3U,a6c]
  .have hln:(l.take xs.length).length=xs.length:=(by rw[a4t,a7z hl]);have hb:(h++(e1++[HB.cells .ro cs])++e2)[(h++e1).length]? = some (.cells .ro cs):=by rw[show h++(e1++[HB.cells .ro cs])++e2=(h++e1)++(HB.cells .ro cs::e2) by simp,a1r (a1l _),afz];rfl
   have uf:(l.take xs.length).length<=xs.length+ys.length:=(by omega);have tY:∀(j:Nat) a,(l.take xs.length)[j]? = some a->l[j]? = some a:=fun j a hj=>by
    rw[a5H]at hj;split at hj
    .exact hj
    .cases hj
   have hle:(l.take xs.length).length*sz<=cs.length:=by rw[c1,hln];exact a3N sz hl
   generalize xs.length+ys.length=cp at uf ⊢;generalize l.take xs.length=l' at uf tY hle hln ⊢;rw[<-hln];exact VR.dD (X:=X) (P:=P) (A:=AT) (m:=[]) (t:=e) (l:=l') (fu:=false) (b:=(h++e1).length) (off:=0) (cap:=cp) (sz:=sz) (ex:=true) (cs:=cs) trivial (by unfold aU;rw[hb]) (fun _=>by unfold mZ;rw[hb];simp) hz h0 (by omega) uf (by simp) (fun j a _=>hlen a) (fun j a i c v hj hi hv=>by rw[a3L]at hv;have:=v1 ([HB.cells .ro cs]++e2) j a i c v (tY j a hj) hi hv;simp only[a6c]at this ⊢;exact this)
def RdF(nT:LI2×LI3->H)(X:mV)(P:LI1)(w:LI4)(g o:Nat)(fs:List Field){α:Type}(ps:α->List (PV X.Γ))(Q:α->Prop):Prop:=
 ∀ds:List (DataW H),ds.length=fs.length->(∀(i:Nat) f d,fs[i]? = some f->ds[i]? = some d->Rd nT P w f.type d)->∃a,Q a/\∀h,∃xs ext,Nq P (DT P g) o fs ds h=some (xs,h++ext)/\∀e,bZ X P AT [] (h++ext++e) (ps a) xs
theorem Wj{g o}:RdF nT X P w g o [] (fun _:Unit=>[]) (fun _=>True):=fun ds hl _=>by have:=a4u hl;subst this;exact⟨(),trivial,fun h=>⟨[],[],by simp[Nq],fun e=>.nil⟩⟩
theorem sQ{g o n f fs α β p1 p2 Q1 Q2}(ho:f.offset=o)(hc:P.cellsOf f.type=n)(hn:∀a,(p1 a).length=n)(h1:RdP nT X P w g f.type p1 Q1)(h2:RdF nT X P w g (o+n) fs p2 Q2):RdF nT X P w g o (f::fs) (fun x:α×β=>p1 x.1++p2 x.2) (fun x=>Q1 x.1/\Q2 x.2):=fun ds hl hd=>by
 cases ds with
 |nil=>cases hl
 |cons d ds=>
  obtain⟨a,qa,ha⟩:=h1 d (hd 0 f d rfl rfl);obtain⟨b,qb,hb⟩:=h2 ds (by simpa using hl) fun i f' d' e1 e2=>hd (i+1) f' d' e1 e2;refine⟨(a,b),⟨qa,qb⟩,fun h=>?_⟩;obtain⟨xs,e1,g1,v1⟩:=ha h;obtain⟨ys,e2,g2,v2⟩:=hb (h++e1);have hx:xs.length=n:=by rw[<-(v1 []).1];exact hn a
  refine⟨xs++ys,e1++e2,?_,fun e=>?_⟩
  .simp only[Nq,g1,ho,hx,hc,adw,a2p,g2,a6c]
  .have w1:=v1 (e2++e);have w2:=v2 e;simp only[a6c]at w1 w2 ⊢;exact w1.app w2
theorem Hu{t g n:Nat}{fs α}{ps:α->List (PV X.Γ)}{Q}(ht:P.underlying t=some (.struct fs))(hc:P.cellsOf t=n)(hn:∀a,(ps a).length=n)(hf:RdF nT X P w g 0 fs.toList ps Q):RdP nT X P w (g+1) t ps Q:=fun d hd=>by
 obtain⟨ds,rfl,hl,JJ⟩:=a4z ht hd;obtain⟨a,qa,ha⟩:=hf ds (by simpa using hl) fun i f d e1 e2=>JJ i f d (by simpa using e1) e2;refine⟨a,qa,fun h=>?_⟩;obtain⟨xs,e1,g1,v1⟩:=ha h;have hx:xs.length=n:=by rw[<-(v1 []).1];exact hn a
 refine⟨xs,e1,?_,v1⟩;rw[Yn ht,g1];simp[hx,hc]
theorem RdP.iso{t g α β ps Q}(h:RdP nT X P w g t ps Q)(f:α->β){p2 Q2}(hp:∀a,p2 (f a)=ps a)(hq:∀a,Q a->Q2 (f a)):RdP nT X P w g t p2 Q2:=fun d hd=>by obtain⟨a,qa,ha⟩:=h d hd;exact⟨f a,hq a qa,fun h=>by rw[hp];exact ha h⟩
theorem agN{T}{L n f:Nat}{vs xs h}(hc:nI X P (kW P T L (n+1)) f vs (PV.bool true) [])(hv:bZ X P AT [] h vs xs):∃h',kW P T L (n+1) (TV.fn f [] []) xs h=some (TV.bool true,h',[]):=by
 obtain⟨x,h',m',c1,_,c3,_⟩:=hc AT h [] xs [] (fun _ _=>trivial) (by simpa using hv);have:x=TV.bool true:=by
  cases c3 with
  |bool=>rfl
  |gone hi _ _=>simp[bf]at hi
 subst this;exact⟨h',c1⟩
end
end Pv
namespace Go.Proofs.YtmobpoiejckagaaGreat
open Go Tw
structure B where
 lo:Int
 hi:Int
 f:Int
 deriving DecidableEq
structure O where
 code:Int
 a:Int
 b:Int
 c:Int
 n:Int
 deriving DecidableEq
structure K where
 name:ByteArray
 lo:Int
 hi:Int
structure V where
 f:Int
 n:Int
 deriving DecidableEq
abbrev B0:B:=⟨0,0,0⟩
abbrev O0:O:=⟨0,0,0,0,0⟩
abbrev K0:K:=⟨ByteArray.empty,0,0⟩
abbrev V0:V:=⟨0,0⟩
def qB(g:Int->Bool)(i:Nat)(x:Int)(s:Unit):(Unit)⊕(Nat×Int×(Unit)):=
 if(g x)=true then .inr (i,x,s)else .inl ()
def sS(g:Int->Bool)(l:LI0):Int:=
 if(kC (nG (qB g) l 0 ()))=true then -1 else(((Ea (0,0,()) (nG (qB g) l 0 ())).1:Int))
def nJ(g:Int->Bool)(l:LI0):Bool:=
 decide ((sS g l)>=0)
theorem a8f(g):∀(l) (i),kC (nG (qB g) l i ())=!(l.any g)
 | [],i=>rfl
 |x::l,i=>by
  simp only[nG,qB,aeM];cases g x with
  |true=>rfl
  |false=>simpa using a8f g l (i+1)
theorem Fj(g l):nJ g l=l.any g:=by
 have:=a8f g l 0;unfold nJ sS;rw[this];cases l.any g with
 |true=>simp
 |false=>simp
def wX(x:Int)(lo:Int)(hi:Int):Bool:=
 if(decide ((x)<(lo)))=true then true else decide ((x)>(hi))
def nK(l:LI0)(lo:Int)(hi:Int):Bool:=
 !(l.any ((fun x=>wX x lo hi)))
theorem wrap_small{z}(h0:-(2^62)<=z)(h1:z<2^62):i64.wrap z=z:=by
 simp only[IntKind.wrap,IntKind.bits,IntKind.signed];rcases Int.lt_or_le z 0 with h|h
 .have:z%(2^64:Int)=z+2^64:=by have:=acv z (2^64) 1;rw[adh]at this;rw[<-this];exact a8U (by omega) (by omega)
  simp only[this];rw[a1e (by simp;omega)];omega
 have:z%(2^64:Int)=z:=a8U h (by omega);simp only[this];rw[a18 (by simp;omega)]
def nU(k:Int)(least:Int)(ah:Int):Bool:=
 if(decide ((k)>=(least)))=true then decide ((k)<=(ah))else false
def fG(k:Int):V:=
 (⟨0,k⟩:V)
def mG(f:Int):V:=
 (⟨f,0⟩:V)
def sU(is:Bool):V:=
 if is=true then fG 1 else fG 0
def qF(k:Int):V:=
 if(decide ((k)<(-9999)))=true then mG 2 else if(decide ((k)>9999))=true then mG 2 else fG k
def KT(a:V)(b:V)(c:V):V:=
 if(decide ((a.f)>0))=true then a else if((a.n)==0)=true then c else b
def gW(a b:Int):Int:=if b<0 then(-a)/(-b)else a/b
def bJ(code:Int)(a:V)(b:V):V:=
 if(decide ((a.f)>0))=true then a else if((code)==15)=true then if((a.n)==0)=true then a else if((code)==16)=true then if((a.n) != 0)=true then fG 1 else b else b else if((code)==16)=true then if((a.n) != 0)=true then fG 1 else b else if(decide ((b.f)>0))=true then b else if((code)==7)=true then qF (i64.wrap ((a.n)+(b.n)))else if((code)==8)=true then qF (i64.wrap ((a.n)-(b.n)))else if((code)==9)=true then qF (i64.wrap ((a.n)*(b.n)))else if((code)==12)=true then sU ((a.n)==(b.n))else if((code)==13)=true then sU (decide ((a.n)<(b.n)))else if((code)==14)=true then sU (decide ((a.n)<=(b.n)))else if((b.n)==0)=true then mG 1 else if((code)==10)=true then fG (gW (a.n) (b.n))else fG (i64.wrap ((a.n)-(i64.wrap ((b.n)*(gW (a.n) (b.n))))))
def jL(g:V->Bool)(i:Nat)(x:V)(s:Unit):(Unit)⊕(Nat×V×(Unit)):=
 if(g x)=true then .inr (i,x,s)else .inl ()
def iQ(g:V->Bool)(l:List V):Int:=
 if(kC (nG (jL g) l 0 ()))=true then -1 else(((Ea (0,V0,()) (nG (jL g) l 0 ())).1:Int))
def qG(g:V->Bool)(l:List V):Bool:=
 decide ((iQ g l)>=0)
theorem a8g(g):∀(l) (i),kC (nG (jL g) l i ())=!(l.any g)
 | [],i=>rfl
 |x::l,i=>by
  simp only[nG,jL,aeM];cases g x with
  |true=>rfl
  |false=>simpa using a8g g l (i+1)
theorem KU(g l):qG g l=l.any g:=by
 have:=a8g g l 0;unfold qG iQ;rw[this];cases l.any g with
 |true=>simp
 |false=>simp
theorem Ur(g):∀(l) (i),kC (nG (jL g) l i ())=false->(Ea (0,V0,()) (nG (jL g) l i ())).1<i+l.length/\l[(Ea (0,V0,()) (nG (jL g) l i ())).1-i]? = l.find? g/\i<=(Ea (0,V0,()) (nG (jL g) l i ())).1
 | [],i,h=>by cases h
 |x::l,i,h=>by
  simp only[nG,jL]at h ⊢;by_cases hx:g x=true
  .simp only[hx,a2p,Ea,a4C,ai7];refine⟨by omega,by simp,by omega⟩
  simp only[afi]at hx;simp only[hx,a2K,a3U,a4C,ai7]at h ⊢;obtain⟨h1,h2,h3⟩:=Ur g l (i+1) h;refine⟨by omega,?_,by omega⟩;rw[<-h2,show(Ea (0,V0,()) (nG (jL g) l (i+1) ())).1-i=((Ea (0,V0,()) (nG (jL g) l (i+1) ())).1-(i+1))+1 by omega];simp
theorem SA(g l):iQ g l<l.length:=by
 unfold iQ;split
 .omega
 rename_i h;have:=(Ur g l 0 (by simpa using h)).1;omega
def Wn(x:Int):Bool:=
 (x) != (x)
def KW(x:Int)(y:Int):Int:=
 if(decide ((x)<(y)))=true then -1 else if(decide ((x)>(y)))=true then 1 else 0
def Ji(f:Int):V:=
 (⟨f,0⟩:V)
def uQ(x:Int)(lo:Int)(hi:Int):Bool:=
 if(decide ((x)<(lo)))=true then true else decide ((x)>(hi))
def wY(l:LI0)(lo:Int)(hi:Int):Bool:=
 !(l.any ((fun x=>uQ x lo hi)))
def y9(v:V):Bool:=
 if((v.f)==0)=true then wY (([v.n]:LI0)) (-9999) 9999 else if(decide ((v.f)<=4))=true then(v.n)==0 else false
def pG(k:Int):V:=
 if(!(wY (([k]:LI0)) (-9999) 9999))=true then Ji 2 else(⟨0,k⟩:V)
def Qx(is:Bool):V:=
 if is=true then pG 1 else pG 0
def oK(v:V):Bool:=
 (v.f) != 0
def BI(v:V):Bool:=
 !(y9 v)
def bU(l:List V):V×Bool:=
 if(decide ((iQ ((fun v=>oK v)) l)<0))=true then((⟨0,0⟩:V),false)else((l.getD (iQ ((fun v=>oK v)) l).toNat V0),true)
def iG(l:List V):Bool:=
 !(l.any ((fun v=>BI v)))
def jV(a:V)(b:V)(c:V):V×Int:=
 if(!(iG (([a,b,c]:List V))))=true then((⟨0,0⟩:V),2)else if((a.f) != 0)=true then(a,0)else if((a.n)==0)=true then(c,0)else(b,0)
def KX(a:Int)(b:Int):V:=
 pG (i64.wrap ((a)+(b)))
def KY(a:Int)(b:Int):V:=
 pG (i64.wrap ((a)-(b)))
def KZ(a:Int)(b:Int):V:=
 pG (i64.wrap ((a)*(b)))
def Ej(a:Int)(b:Int):Int:=
 a
def Em(a:Int)(b:Int):Int:=
 b
def En(a:Int):Bool:=
 (a)==0
def Eo(a:Int):Bool:=
 decide ((a)<0)
def Ep(a:Int):Bool:=
 decide ((a)<=0)
def vW(a:Int)(b:Int):Int×Int:=
 if((PN .i64 (a) (b)) != 0)=true then if((decide ((PN .i64 (a) (b))<0)) != (decide ((b)<0)))=true then(i64.wrap ((VB .i64 (a) (b))-1),i64.wrap ((PN .i64 (a) (b))+(b)))else(VB .i64 (a) (b),PN .i64 (a) (b))else(VB .i64 (a) (b),PN .i64 (a) (b))
def iR(g:Int->Int->Int)(a:Int)(b:Int):V:=
 if((b)==0)=true then Ji 1 else pG (g ((vW a b).1) ((vW a b).2))
def dW(g:Int->Bool)(a:Int)(b:Int):V:=
 Qx (g (KW a b))
def sV(a:V)(b:V):V×Int:=
 if(!(iG (([a,b]:List V))))=true then((⟨0,0⟩:V),2)else if((bU (([a,b]:List V))).2)=true then((bU (([a,b]:List V))).1,0)else(KX a.n b.n,0)
def sW(a:V)(b:V):V×Int:=
 if(!(iG (([a,b]:List V))))=true then((⟨0,0⟩:V),2)else if((bU (([a,b]:List V))).2)=true then((bU (([a,b]:List V))).1,0)else(KY a.n b.n,0)
def tC(a:V)(b:V):V×Int:=
 if(!(iG (([a,b]:List V))))=true then((⟨0,0⟩:V),2)else if((bU (([a,b]:List V))).2)=true then((bU (([a,b]:List V))).1,0)else(KZ a.n b.n,0)
def pI(a:V)(b:V):V×Int:=
 if(!(iG (([a,b]:List V))))=true then((⟨0,0⟩:V),2)else if((bU (([a,b]:List V))).2)=true then((bU (([a,b]:List V))).1,0)else(iR Ej (a.n) (b.n),0)
def pJ(a:V)(b:V):V×Int:=
 if(!(iG (([a,b]:List V))))=true then((⟨0,0⟩:V),2)else if((bU (([a,b]:List V))).2)=true then((bU (([a,b]:List V))).1,0)else(iR Em (a.n) (b.n),0)
def pK(a:V)(b:V):V×Int:=
 if(!(iG (([a,b]:List V))))=true then((⟨0,0⟩:V),2)else if((bU (([a,b]:List V))).2)=true then((bU (([a,b]:List V))).1,0)else(dW En (a.n) (b.n),0)
def pO(a:V)(b:V):V×Int:=
 if(!(iG (([a,b]:List V))))=true then((⟨0,0⟩:V),2)else if((bU (([a,b]:List V))).2)=true then((bU (([a,b]:List V))).1,0)else(dW Eo (a.n) (b.n),0)
def pR(a:V)(b:V):V×Int:=
 if(!(iG (([a,b]:List V))))=true then((⟨0,0⟩:V),2)else if((bU (([a,b]:List V))).2)=true then((bU (([a,b]:List V))).1,0)else(dW Ep (a.n) (b.n),0)
def uS(a:V)(b:V):V×Int:=
 ((jV a b (pG 0)).1,(jV a b (pG 0)).2)
def uT(a:V)(b:V):V×Int:=
 ((jV a (pG 1) b).1,(jV a (pG 1) b).2)
def gX(code:Int)(a b:V):V:=
 if code=7 then(sV a b).1 else if code=8 then(sW a b).1 else if code=9 then(tC a b).1 else if code=10 then(pI a b).1 else if code=11 then(pJ a b).1 else if code=12 then(pK a b).1 else if code=13 then(pO a b).1 else if code=14 then(pR a b).1 else if code=15 then(uS a b).1 else(uT a b).1
def Jj(code:Int)(a b:V):V×Int:=if code=7 then sV a b else if code=8 then sW a b else if code=9 then tC a b else if code=10 then pI a b else if code=11 then pJ a b else if code=12 then pK a b else if code=13 then pO a b else if code=14 then pR a b else if code=15 then uS a b else uT a b
theorem nine{p:Int}(h:7<=p/\p<=16):p=7\/p=8\/p=9\/p=10\/p=11\/p=12\/p=13\/p=14\/p=15\/p=16:=by omega
structure lK(v:V):Prop where
 f0:0<=v.f
 f1:v.f<=4
 n:v.f=0->-9999<=v.n/\v.n<=9999
 z:v.f≠0->v.n=0
theorem Yz(k):wY [k] (-9999) 9999=(decide (-9999<=k)&&decide (k<=9999)):=by
 simp only[wY,uQ,aeM,List.any_nil,Bool.or_false];by_cases h:k < -9999
 .simp[h];omega
 by_cases h2:k>9999<;>simp[h,h2]<;>omega
theorem vX{v}(h:lK v):y9 v=true:=by
 obtain⟨f,n⟩:=v;have h0:=h.f0;have h1:=h.f1;have h2:=h.n;have h3:=h.z;simp only at h0 h1 h2 h3;unfold y9;simp only[Yz,a6x];by_cases hf:f=0
 .subst hf;simp;exact h2 rfl
 simp[hf,h1,h3 hf]
theorem aqC{a b}(ha:lK a)(hb:lK b):(!(iG [a,b]))=false:=by simp[iG,BI,vX ha,vX hb]
theorem a8h{a b c}(ha:lK a)(hb:lK b)(hc:lK c):(!(iG [a,b,c]))=false:=by simp[iG,BI,vX ha,vX hb,vX hc]
theorem agO(a b):bU [a,b]=if a.f≠0 then(a,true)else if b.f≠0 then(b,true)else(⟨0,0⟩,false):=by
 by_cases h:a.f=0
 .by_cases h2:b.f=0
  .simp[bU,iQ,nG,jL,oK,kC,Ea,h,h2]
  simp[bU,iQ,nG,jL,oK,kC,Ea,h,h2]
 simp[bU,iQ,nG,jL,oK,kC,Ea,h]
theorem wQ(k):pG k=qF k:=by
 unfold pG qF Ji mG fG;rw[Yz];by_cases h:k < -9999
 .rw[a1e (by simp;omega),a1e (by simpa using h)]
 rw[a18 (c:=decide (k < -9999)=true) (by simpa using h)];by_cases h2:k>9999
 .rw[a1e (by simp;omega),a1e (by simpa using h2)]
 rw[a18 (by simp;omega),a18 (by simpa using h2)]
theorem uU(k):lK (qF k):=by
 unfold qF mG fG;split
 .exact⟨by decide,by decide,by simp,by simp⟩
 split
 .exact⟨by decide,by decide,by simp,by simp⟩
 rename_i h1 h2;simp at h1 h2;exact⟨by simp,by simp,fun _=>by simp only;omega,by simp⟩
theorem a4H(b):Qx b=sU b:=by cases b<;>rfl
theorem L6(b):lK (sU b):=by cases b<;>exact⟨by decide,by decide,fun _=>by decide,by decide⟩
theorem a4I{a b}(hb:b≠0):a.tmod b=0\/True->(gW a b=(if a.tmod b≠0/\(decide (a.tmod b<0) != decide (b<0))=true then a.tdiv b-1 else a.tdiv b))/\a-b*gW a b=(if a.tmod b≠0/\(decide (a.tmod b<0) != decide (b<0))=true then a.tmod b+b else a.tmod b)/\(a-b*gW a b).natAbs<b.natAbs:=by
 intro _;have hq:=@Int.tdiv_eq_ediv a b;have hr:=@Int.tmod_eq_emod a b;have hm:=Int.mul_ediv_add_emod a b;have h0:=ahE a hb;have h1:=Int.emod_lt a hb;have hd:b ∣ a↔a%b=0:=⟨Int.emod_eq_zero_of_dvd,Int.dvd_of_emod_eq_zero⟩;generalize a.tdiv b=T at *;generalize a.tmod b=R at *;generalize hE:a/b=e at *;generalize hM:a%b=m at *;unfold gW;have cT:0<=a\/b ∣ a->T=e/\R=m:=fun h=>by rw[a1e h]at hq hr;omega
 rcases Int.lt_or_gt_of_ne hb with yu|yu
 .rw[a1e yu];have hsg:b.sign=-1:=Int.sign_eq_neg_one_of_neg yu;have hna:(b.natAbs:Int)=-b:=by omega
  have cF:¬(0<=a\/b ∣ a)->T=e-1/\R=m+b:=fun h=>by rw[a18 h]at hq hr;omega
  rw[hna]at h1;by_cases Tf:m=0
  .have u:=(Int.ediv_emod_unique (a:=-a) (b:=-b) (r:=0) (q:=e) (by omega)).2 ⟨by rw[Int.neg_mul];omega,by omega,by omega⟩;rw[u.1];obtain⟨c1,c2⟩:=cT (.inr (hd.2 Tf));subst c1;subst c2;rw[a18 (by simp[Tf]),a18 (by simp[Tf])];omega
  have jD:¬b ∣ a:=fun h=>Tf (hd.1 h);have e1:b*(e-1)=b*e-b:=by rw[Int.mul_sub,adh]
  have u:=(Int.ediv_emod_unique (a:=-a) (b:=-b) (r:=-b-m) (q:=e-1) (by omega)).2 ⟨by rw[Int.neg_mul,e1];omega,by omega,by omega⟩;rw[u.1,e1];by_cases ha:0<=a
  .obtain⟨c1,c2⟩:=cT (.inl ha);subst c1;subst c2;have hc:(R≠0/\(decide (R<0) != decide (b<0))=true):=⟨Tf,by simp[yu];omega⟩;rw[a1e hc,a1e hc];omega
  obtain⟨c1,c2⟩:=cF (by simp[ha,jD]);have hc:¬(R≠0/\(decide (R<0) != decide (b<0))=true):=fun h=>by have:=h.2;simp[yu]at this;omega
  rw[a18 hc,a18 hc];omega
 rw[a18 (by omega),hE];have hsg:b.sign=1:=Int.sign_eq_one_of_pos yu;have hna:(b.natAbs:Int)=b:=by omega
 have cF:¬(0<=a\/b ∣ a)->T=e+1/\R=m-b:=fun h=>by rw[a18 h]at hq hr;omega
 rw[hna]at h1;by_cases hc0:0<=a\/b ∣ a
 .obtain⟨c1,c2⟩:=cT hc0;have hc:¬(R≠0/\(decide (R<0) != decide (b<0))=true):=fun h=>by have:=h.2;simp at this;omega
  rw[a18 hc,a18 hc];omega
 obtain⟨c1,c2⟩:=cF hc0;have Tf:m≠0:=fun h=>hc0 (.inr (hd.2 h));have hc:(R≠0/\(decide (R<0) != decide (b<0))=true):=⟨by omega,by simp;omega⟩;rw[a1e hc,a1e hc];omega
theorem wr{z}(h1:-1000000000<=z)(h2:z<=1000000000):i64.wrap z=z:=wrap_small (by omega) (by omega)
theorem YA{a b}(a0:-9999<=a)(a1:a<=9999)(b0:-9999<=b)(b1:b<=9999)(hb:b≠0):vW a b=(gW a b,a-b*gW a b)/\(-9999<=gW a b/\gW a b<=9999)/\(-9999<=a-b*gW a b/\a-b*gW a b<=9999)/\i64.wrap (a-i64.wrap (b*gW a b))=a-b*gW a b:=by
 obtain⟨h1,h2,h3⟩:=a4I (a:=a) hb (.inr trivial);have hna:(a.tdiv b).natAbs<=a.natAbs:=by rw[Int.natAbs_tdiv];exact Nat.div_le_self _ _
 have hq:VB .i64 a b=a.tdiv b:=wr (by omega) (by omega);have hp:(b*gW a b).natAbs=b.natAbs*(gW a b).natAbs:=Int.natAbs_mul _ _;have hQ:(gW a b).natAbs<=9999:=by
  rcases a4W 9999 (gW a b).natAbs with h|h
  .have:=Nat.mul_le_mul_left b.natAbs (show 10000<=(gW a b).natAbs from h);generalize b*gW a b=p at *;generalize b.natAbs*(gW a b).natAbs=r at *;omega
  exact h
 refine⟨?_,by omega,by generalize b*gW a b=p at *;omega,?_⟩
 .unfold vW PN;rw[hq];have hw1:i64.wrap (a.tdiv b-1)=a.tdiv b-1:=wr (by omega) (by omega);have hrb:(a.tmod b).natAbs<=9999:=by rw[Int.natAbs_tmod];exact a5Y (Nat.mod_le _ _) (by omega)
  have hw2:i64.wrap (a.tmod b+b)=a.tmod b+b:=wr (by omega) (by omega);rw[h2,h1,hw1,hw2];by_cases c1:a.tmod b=0
  .rw[a18 (by simp[c1]),a18 (by simp[c1]),a18 (by simp[c1])]
  rw[a1e (by simpa using c1)];by_cases c2:(decide (a.tmod b<0) != decide (b<0))=true
  .rw[a1e c2,a1e ⟨c1,c2⟩,a1e ⟨c1,c2⟩]
  rw[a18 c2,a18 (fun h=>c2 h.2),a18 (fun h=>c2 h.2)]
 rw[wr (z:=b*gW a b) (by generalize b*gW a b=p at *;omega) (by generalize b*gW a b=p at *;omega)];exact wr (by generalize b*gW a b=p at *;omega) (by generalize b*gW a b=p at *;omega)
theorem YB{k}(h1:-9999<=k)(h2:k<=9999):qF k=fG k:=by unfold qF;rw[a18 (by simp;omega),a18 (by simp;omega)]
theorem jS{g:Int->Int->V}{a b}(ha:lK a)(hb:lK b):(if(!(iG [a,b]))=true then((⟨0,0⟩:V),(2:Int))else if(bU [a,b]).2=true then((bU [a,b]).1,0)else(g a.n b.n,0)).1=if a.f≠0 then a else if b.f≠0 then b else g a.n b.n:=by
 rw[aqC ha hb,agO];by_cases h:a.f=0
 .by_cases h2:b.f=0<;>simp[h,h2]
 simp[h]
theorem BJ{a}(ha:lK a)(h:a.f≠0):decide (a.f>0)=true:=by have:=ha.f0;simp;omega
theorem Qy{k}(h1:-9999<=k)(h2:k<=9999):lK (fG k):=⟨by simp[fG],by simp[fG],fun _=>⟨h1,h2⟩,fun h=>by simp[fG]at h⟩
theorem div_eq{a b}(ha:lK a)(hb:lK b)(h:a.f=0)(h2:b.f=0):iR Ej a.n b.n=(if(b.n==0)=true then mG 1 else fG (gW a.n b.n))/\lK (if(b.n==0)=true then mG 1 else fG (gW a.n b.n)):=by
 have a9:=ha.n h;have b9:=hb.n h2;unfold iR Ej;by_cases hz:b.n=0
 .rw[a1e (by simpa using hz),a1e (by simpa using hz)];exact⟨rfl,⟨by decide,by decide,by decide,by decide⟩⟩
 obtain⟨q1,q2,_,_⟩:=YA a9.1 a9.2 b9.1 b9.2 hz;rw[a18 (by simpa using hz),a18 (by simpa using hz),q1,wQ,YB q2.1 q2.2];exact⟨rfl,Qy q2.1 q2.2⟩
theorem mod_eq{a b}(ha:lK a)(hb:lK b)(h:a.f=0)(h2:b.f=0):iR Em a.n b.n=(if(b.n==0)=true then mG 1 else fG (i64.wrap (a.n-i64.wrap (b.n*gW a.n b.n))))/\lK (if(b.n==0)=true then mG 1 else fG (i64.wrap (a.n-i64.wrap (b.n*gW a.n b.n)))):=by
 have a9:=ha.n h;have b9:=hb.n h2;unfold iR Em;by_cases hz:b.n=0
 .rw[a1e (by simpa using hz),a1e (by simpa using hz)];exact⟨rfl,⟨by decide,by decide,by decide,by decide⟩⟩
 obtain⟨q1,_,q3,q4⟩:=YA a9.1 a9.2 b9.1 b9.2 hz;rw[a18 (by simpa using hz),a18 (by simpa using hz),q1,wQ,q4,YB q3.1 q3.2];exact⟨rfl,Qy q3.1 q3.2⟩
theorem agP(a b):dW En a b=sU (a==b)/\dW Eo a b=sU (decide (a<b))/\dW Ep a b=sU (decide (a<=b)):=by
 unfold dW En Eo Ep KW;simp only[a4H];rcases Int.lt_trichotomy a b with h|h|h
 .have:(a==b)=false:=by simp;omega
  simp[h,this,adC h]
 .subst h;simp
 have h1:¬a<b:=by omega
 have h2:(a==b)=false:=by simp;omega
 have h3:¬a<=b:=by omega
 simp[h,h1,h2,h3]
theorem agQ{k}(h7:7<=k/\k<=16){a b}(ha:lK a)(hb:lK b):gX k a b=bJ k a b/\lK (bJ k a b):=by
 have e15:a.f=0->gX 15 a b=bJ 15 a b/\lK (bJ 15 a b):=fun h=>by
  rw[show gX 15 a b=(uS a b).1 from rfl,show bJ 15 a b=(if(a.n==0)=true then a else b) by simp[bJ,h]];unfold uS jV;rw[a8h ha hb (wQ 0▸uU 0)];by_cases hz:a.n=0
  .have:a=⟨0,0⟩:=by obtain⟨f,n⟩:=a;simp only at h hz;rw[h,hz]
   subst this;exact⟨rfl,ha⟩
  simp[h,hz];exact hb
 have e16:a.f=0->gX 16 a b=bJ 16 a b/\lK (bJ 16 a b):=fun h=>by
  rw[show gX 16 a b=(uT a b).1 from rfl,show bJ 16 a b=(if(a.n != 0)=true then fG 1 else b) by simp[bJ,h]];unfold uT jV;rw[a8h ha (wQ 1▸uU 1) hb];by_cases hz:a.n=0
  .simp[h,hz];exact hb
  simp[h,hz];exact⟨rfl,Qy (by decide) (by decide)⟩
 by_cases h:a.f=0
 .by_cases h2:b.f=0
  .have d:=div_eq ha hb h h2;have m:=mod_eq ha hb h h2;have c:=agP a.n b.n;rcases nine h7 with rfl|rfl|rfl|rfl|rfl|rfl|rfl|rfl|rfl|rfl
   .rw[show gX 7 a b=(sV a b).1 from rfl,show bJ 7 a b=qF (i64.wrap (a.n+b.n)) by simp[bJ,h,h2]];unfold sV;rw[jS (g:=fun x y=>KX x y) ha hb];simp only[h,h2,ne_eq,a7C,a3U,KX,wQ];exact⟨trivial,uU _⟩
   .rw[show gX 8 a b=(sW a b).1 from rfl,show bJ 8 a b=qF (i64.wrap (a.n-b.n)) by simp[bJ,h,h2]];unfold sW;rw[jS (g:=fun x y=>KY x y) ha hb];simp only[h,h2,ne_eq,a7C,a3U,KY,wQ];exact⟨trivial,uU _⟩
   .rw[show gX 9 a b=(tC a b).1 from rfl,show bJ 9 a b=qF (i64.wrap (a.n*b.n)) by simp[bJ,h,h2]];unfold tC;rw[jS (g:=fun x y=>KZ x y) ha hb];simp only[h,h2,ne_eq,a7C,a3U,KZ,wQ];exact⟨trivial,uU _⟩
   .rw[show gX 10 a b=(pI a b).1 from rfl,show bJ 10 a b=(if(b.n==0)=true then mG 1 else fG (gW a.n b.n)) by simp[bJ,h,h2]];unfold pI;rw[jS (g:=fun x y=>iR Ej x y) ha hb];simp only[h,h2,ne_eq,a7C,a3U];exact d
   .rw[show gX 11 a b=(pJ a b).1 from rfl,show bJ 11 a b=(if(b.n==0)=true then mG 1 else fG (i64.wrap (a.n-i64.wrap (b.n*gW a.n b.n)))) by simp[bJ,h,h2]];unfold pJ;rw[jS (g:=fun x y=>iR Em x y) ha hb];simp only[h,h2,ne_eq,a7C,a3U];exact m
   .rw[show gX 12 a b=(pK a b).1 from rfl,show bJ 12 a b=sU (a.n==b.n) by simp[bJ,h,h2]];unfold pK;rw[jS (g:=fun x y=>dW En x y) ha hb];simp only[h,h2,ne_eq,a7C,a3U];exact⟨c.1,L6 _⟩
   .rw[show gX 13 a b=(pO a b).1 from rfl,show bJ 13 a b=sU (decide (a.n<b.n)) by simp[bJ,h,h2]];unfold pO;rw[jS (g:=fun x y=>dW Eo x y) ha hb];simp only[h,h2,ne_eq,a7C,a3U];exact⟨c.2.1,L6 _⟩
   .rw[show gX 14 a b=(pR a b).1 from rfl,show bJ 14 a b=sU (decide (a.n<=b.n)) by simp[bJ,h,h2]];unfold pR;rw[jS (g:=fun x y=>dW Ep x y) ha hb];simp only[h,h2,ne_eq,a7C,a3U];exact⟨c.2.2,L6 _⟩
   .exact e15 h
   exact e16 h
  rcases nine h7 with rfl|rfl|rfl|rfl|rfl|rfl|rfl|rfl|rfl|rfl
  .rw[show gX 7 a b=(sV a b).1 from rfl,show bJ 7 a b=b by simp[bJ,h,BJ hb h2]];unfold sV;rw[jS (g:=fun x y=>KX x y) ha hb];simp only[h,h2,ne_eq,a7C,a6f,a3U,a2p];exact⟨trivial,hb⟩
  .rw[show gX 8 a b=(sW a b).1 from rfl,show bJ 8 a b=b by simp[bJ,h,BJ hb h2]];unfold sW;rw[jS (g:=fun x y=>KY x y) ha hb];simp only[h,h2,ne_eq,a7C,a6f,a3U,a2p];exact⟨trivial,hb⟩
  .rw[show gX 9 a b=(tC a b).1 from rfl,show bJ 9 a b=b by simp[bJ,h,BJ hb h2]];unfold tC;rw[jS (g:=fun x y=>KZ x y) ha hb];simp only[h,h2,ne_eq,a7C,a6f,a3U,a2p];exact⟨trivial,hb⟩
  .rw[show gX 10 a b=(pI a b).1 from rfl,show bJ 10 a b=b by simp[bJ,h,BJ hb h2]];unfold pI;rw[jS (g:=fun x y=>iR Ej x y) ha hb];simp only[h,h2,ne_eq,a7C,a6f,a3U,a2p];exact⟨trivial,hb⟩
  .rw[show gX 11 a b=(pJ a b).1 from rfl,show bJ 11 a b=b by simp[bJ,h,BJ hb h2]];unfold pJ;rw[jS (g:=fun x y=>iR Em x y) ha hb];simp only[h,h2,ne_eq,a7C,a6f,a3U,a2p];exact⟨trivial,hb⟩
  .rw[show gX 12 a b=(pK a b).1 from rfl,show bJ 12 a b=b by simp[bJ,h,BJ hb h2]];unfold pK;rw[jS (g:=fun x y=>dW En x y) ha hb];simp only[h,h2,ne_eq,a7C,a6f,a3U,a2p];exact⟨trivial,hb⟩
  .rw[show gX 13 a b=(pO a b).1 from rfl,show bJ 13 a b=b by simp[bJ,h,BJ hb h2]];unfold pO;rw[jS (g:=fun x y=>dW Eo x y) ha hb];simp only[h,h2,ne_eq,a7C,a6f,a3U,a2p];exact⟨trivial,hb⟩
  .rw[show gX 14 a b=(pR a b).1 from rfl,show bJ 14 a b=b by simp[bJ,h,BJ hb h2]];unfold pR;rw[jS (g:=fun x y=>dW Ep x y) ha hb];simp only[h,h2,ne_eq,a7C,a6f,a3U,a2p];exact⟨trivial,hb⟩
  .exact e15 h
  exact e16 h
 rcases nine h7 with rfl|rfl|rfl|rfl|rfl|rfl|rfl|rfl|rfl|rfl
 .rw[show gX 7 a b=(sV a b).1 from rfl,show bJ 7 a b=a by simp[bJ,BJ ha h]];unfold sV;rw[jS (g:=fun x y=>KX x y) ha hb];simp only[h,ne_eq,a7C,a6f,a2p];exact⟨trivial,ha⟩
 .rw[show gX 8 a b=(sW a b).1 from rfl,show bJ 8 a b=a by simp[bJ,BJ ha h]];unfold sW;rw[jS (g:=fun x y=>KY x y) ha hb];simp only[h,ne_eq,a7C,a6f,a2p];exact⟨trivial,ha⟩
 .rw[show gX 9 a b=(tC a b).1 from rfl,show bJ 9 a b=a by simp[bJ,BJ ha h]];unfold tC;rw[jS (g:=fun x y=>KZ x y) ha hb];simp only[h,ne_eq,a7C,a6f,a2p];exact⟨trivial,ha⟩
 .rw[show gX 10 a b=(pI a b).1 from rfl,show bJ 10 a b=a by simp[bJ,BJ ha h]];unfold pI;rw[jS (g:=fun x y=>iR Ej x y) ha hb];simp only[h,ne_eq,a7C,a6f,a2p];exact⟨trivial,ha⟩
 .rw[show gX 11 a b=(pJ a b).1 from rfl,show bJ 11 a b=a by simp[bJ,BJ ha h]];unfold pJ;rw[jS (g:=fun x y=>iR Em x y) ha hb];simp only[h,ne_eq,a7C,a6f,a2p];exact⟨trivial,ha⟩
 .rw[show gX 12 a b=(pK a b).1 from rfl,show bJ 12 a b=a by simp[bJ,BJ ha h]];unfold pK;rw[jS (g:=fun x y=>dW En x y) ha hb];simp only[h,ne_eq,a7C,a6f,a2p];exact⟨trivial,ha⟩
 .rw[show gX 13 a b=(pO a b).1 from rfl,show bJ 13 a b=a by simp[bJ,BJ ha h]];unfold pO;rw[jS (g:=fun x y=>dW Eo x y) ha hb];simp only[h,ne_eq,a7C,a6f,a2p];exact⟨trivial,ha⟩
 .rw[show gX 14 a b=(pR a b).1 from rfl,show bJ 14 a b=a by simp[bJ,BJ ha h]];unfold pR;rw[jS (g:=fun x y=>dW Ep x y) ha hb];simp only[h,ne_eq,a7C,a6f,a2p];exact⟨trivial,ha⟩
 .rw[show gX 15 a b=(uS a b).1 from rfl,show bJ 15 a b=a by simp[bJ,BJ ha h]];unfold uS jV;rw[a8h ha hb (wQ 0▸uU 0)];simp[h];exact ha
 rw[show gX 16 a b=(uT a b).1 from rfl,show bJ 16 a b=a by simp[bJ,BJ ha h]];unfold uT jV;rw[a8h ha (wQ 1▸uU 1) hb];simp[h];exact ha
theorem a4J{a b c}(ha:lK a)(hb:lK b)(hc:lK c):(jV a b c).1=KT a b c/\lK (KT a b c):=by
 unfold jV KT;rw[a8h ha hb hc];by_cases h:a.f=0
 .by_cases hz:a.n=0
  .simp[h,hz];exact hc
  simp[h,hz];exact hb
 have:=BJ ha h;simp only[a1x]at this;simp[h,this];exact ha
end Go.Proofs.YtmobpoiejckagaaGreat
