/- Part 4 of a proof: ApplyLaws -/
import Derived.Shelf.Spec.SlicesInsert
import Derived.Shelf.Spec.SlicesInsertGrow
import Derived.Shelf.Sort.Plain
import Derived.Shelf.Slices.In.SortNone
import Derived.Test.YtmobpoiejckagaaGreatP02
set_option linter.constructorNameAsVariable false
set_option linter.unusedVariables false
set_option linter.unusedSimpArgs false
set_option linter.unusedSectionVars false
open Go.IntKind (i64)
noncomputable section
namespace Pv
open Go Tw
inductive IRs:List MB->List HB->List PI->List zl->Prop where
 |nil {m h}:IRs m h [] []
 |cons {m h p t m1 h1 ps ts}:(aZ m).Nodup->(∀b,b∈aZ m->b<h.length)->IR m h p t->Fr m h m1 h1->Up m m1->(p.mv=false->∀(i:Nat),i<m.length->m1[i]? = some .gone->m[i]? = some .gone)->IRs m1 h1 ps ts->IRs m h (p::ps) (t::ts)
theorem a7D{fl b c ws}(h:c∈Fq fl b ws):c∈ws\/(c=b/\b<fl):=by
 unfold Fq at h;split at h
 .rename_i hl;split at h
  .exact .inl h
  rcases a1G.1 h with h|h
  .exact .inr ⟨h,hl⟩
  exact .inl h
 exact .inl h
theorem wV{fl c}:∀{ks} {ws},c∈kH fl ks ws->c∈ws\/(.h c∈ks/\c<fl)
 | [],ws,h=>.inl h
 |.h b::ks,ws,h=>by
  rcases wV (ks:=ks) h with h|⟨h1,h2⟩
  .rcases a7D h with h|⟨rfl,h⟩
   .exact .inl h
   exact .inr ⟨a3M,h⟩
  exact .inr ⟨a3J _ h1,h2⟩
 |.l _::ks,ws,h=>by
  rcases wV (ks:=ks) h with h|⟨h1,h2⟩
  .exact .inl h
  exact .inr ⟨a3J _ h1,h2⟩
theorem Y1{m m1}(hU:Up m m1)(hg:∀(i),i<m.length->m1[i]? = some .gone->m[i]? = some .gone){i b}(h:GZ m i b):GZ m1 i b:=by
 obtain⟨mb,h1,h2⟩:=h;rcases hU i mb h1 with e|e
 .exact⟨mb,e,h2⟩
 have:=hg i (a0w.1 h1).1 e;rw[h1]at this;cases this;cases h2
theorem DU{m}(hn:(aZ m).Nodup){i j b}(h1:GZ m i b)(h2:GZ m j b):i=j:=by obtain⟨_,a1,a2⟩:=h1;obtain⟨_,b1,b2⟩:=h2;exact iW hn a1 b1 a2 b2
theorem abe{ma mb ha hb pa pb ta tb}(na:(aZ ma).Nodup)(nb:(aZ mb).Nodup)(la:∀b,b∈aZ ma->b<ha.length)(hab:Fr ma ha mb hb)(A:IR ma ha pa ta)(B:IR mb hb pb tb)(hc:a2g pa pb=true)(RJ:(∀i b,GZ ma i b->GZ mb i b)\/pa.hp=false\/pb.hp=false):calm ta tb=true:=by
 simp only[a2g,a2K]at hc;obtain⟨c1,c2⟩:=hc;simp only[a0q,a2K,a5L,a9c,aag]at c1 c2;obtain⟨c1,c1w⟩:=c1;obtain⟨c2,c2w⟩:=c2;simp only[calm,a2K];constructor
 .simp only[OA,a5L,a2K,a9c,ahp];intro k hk;cases k with
  |l j=>
   have:=c1 _ (A.wl j hk);simp only[a5Y,a3L]at this ⊢;exact⟨⟨.inr rfl,fun h=>this.1.1.2 (B.tl j h)⟩,fun h=>this.1.2 (B.wl j h)⟩
  |h c=>
   rcases RJ with a7E|RJ|RJ
   .
    have hca:c∈aZ ma:=by
     rcases A.wh c hk with⟨i,_,h2⟩|⟨_,h2⟩
     .exact a0t h2
     .exact h2
    obtain⟨i0,hi0⟩:=kW hca;have hi1:=a7E _ _ hi0;have hcb:c∈aZ mb:=a0t hi1;rcases A.wh c hk with⟨i,h1,h2⟩|⟨h1,h2⟩
    .have hii:=DU na hi0 h2;subst hii;have OU:=c1 _ h1;simp only[a5Y,a3L,Key.isH,aiB]at OU;refine⟨⟨.inl ?_,?_⟩,?_⟩
     .cases hq:tb.all with
      |false=>rfl
      |true=>rw[B.all hq]at OU;simp at OU
     .simp only[a5Y,a3L];intro hq;rcases(B.th c hq).1 with⟨j,g1,g2⟩|g1
      .have:=DU nb hi1 g2;subst this;exact OU.1.1.2 g1
      .exact g1 hcb
     .simp only[a5Y,a3L];intro hq;rcases B.wh c hq with⟨j,g1,g2⟩|⟨g1,g2⟩
      .have:=DU nb hi1 g2;subst this;exact OU.1.2 g1
      .rw[g1]at OU;simp at OU
    .rw[h1]at c1w;simp only[afp,false_or]at c1w;obtain⟨⟨⟨w1,w2⟩,w3⟩,w4⟩:=c1w;refine⟨⟨.inl ?_,?_⟩,?_⟩
     .cases hq:tb.all with
      |false=>rfl
      |true=>rw[B.all hq]at w1;cases w1
     .simp only[a5Y,a3L];intro hq;rcases(B.th c hq).1 with⟨j,g1,g2⟩|g1
      .have:=w3 _ g1;simp[Key.isH]at this
      .exact g1 hcb
     .simp only[a5Y,a3L];intro hq;rcases B.wh c hq with⟨j,g1,g2⟩|⟨g1,g2⟩
      .have:=w4 _ g1;simp[Key.isH]at this
      .rw[g1]at w2;cases w2
   .exact absurd hk ((A.hp RJ).2.2 c)
   .obtain⟨g1,g2,g3⟩:=B.hp RJ;refine⟨⟨.inl g1,?_⟩,?_⟩<;>simp only[a5Y,a3L]
    .exact g2 c
    .exact g3 c
 .simp only[OA,a5L,a2K,a9c,ahp];intro k hk;cases k with
  |l j=>
   have:=c2 _ (B.wl j hk);simp only[a5Y,a3L]at this ⊢;exact⟨⟨.inr rfl,fun h=>this.1.1.2 (A.tl j h)⟩,fun h=>this.1.2 (A.wl j h)⟩
  |h c=>
   rcases RJ with a7E|RJ|RJ
   .have hcb:c∈aZ mb:=by
     rcases B.wh c hk with⟨i,_,h2⟩|⟨_,h2⟩
     .exact a0t h2
     .exact h2
    obtain⟨j0,hj0⟩:=kW hcb;have back:c<ha.length->c∈aZ ma:=fun aQ=>by
     rcases hab.new c hcb with h1|h1
     .exact h1
     .omega
    have ak8:∀i,GZ ma i c->i=j0:=fun i hi=>DU nb (a7E _ _ hi) hj0;rcases B.wh c hk with⟨j,h1,h2⟩|⟨h1,h2⟩
    .have hii:=DU nb hj0 h2;subst hii;have OU:=c2 _ h1;simp only[a5Y,a3L,Key.isH,aiB]at OU;refine⟨⟨.inl ?_,?_⟩,?_⟩
     .cases hq:ta.all with
      |false=>rfl
      |true=>rw[A.all hq]at OU;simp at OU
     .simp only[a5Y,a3L];intro hq;obtain⟨g0,glt⟩:=A.th c hq;rcases g0 with⟨i,g1,g2⟩|g1
      .have:=ak8 i g2;subst this;exact OU.1.1.2 g1
      .exact g1 (back glt)
     .simp only[a5Y,a3L];intro hq;rcases A.wh c hq with⟨i,g1,g2⟩|⟨g1,g2⟩
      .have:=ak8 i g2;subst this;exact OU.1.2 g1
      .rw[g1]at OU;simp at OU
    .rw[h1]at c2w;simp only[afp,false_or]at c2w;obtain⟨⟨⟨w1,w2⟩,w3⟩,w4⟩:=c2w;refine⟨⟨.inl ?_,?_⟩,?_⟩
     .cases hq:ta.all with
      |false=>rfl
      |true=>rw[A.all hq]at w1;cases w1
     .simp only[a5Y,a3L];intro hq;obtain⟨g0,glt⟩:=A.th c hq;rcases g0 with⟨i,g1,g2⟩|g1
      .have:=w3 _ g1;simp[Key.isH]at this
      .exact g1 (back glt)
     .simp only[a5Y,a3L];intro hq;rcases A.wh c hq with⟨i,g1,g2⟩|⟨g1,g2⟩
      .have:=w4 _ g1;simp[Key.isH]at this
      .rw[g1]at w2;cases w2
   .obtain⟨g1,g2,g3⟩:=A.hp RJ;refine⟨⟨.inl g1,?_⟩,?_⟩<;>simp only[a5Y,a3L]
    .exact g2 c
    .exact g3 c
   .exact absurd hk ((B.hp RJ).2.2 c)
theorem a7F:∀{ps} {ts} {m} {h},IRs m h ps ts->∀{j:Nat} {p},ps[j]? = some p->∃t mj hj,ts[j]? = some t/\IR mj hj p t/\(aZ mj).Nodup/\(∀b,b∈aZ mj->b<hj.length)/\Fr m h mj hj/\((∀(i) q,i<j->ps[i]? = some q->q.mv=false)->∀i b,GZ m i b->GZ mj i b)
 |_,_,_,_,.nil,j,p,hj=>by simp at hj
 |_,_,m,h,.cons n1 n2 i1 f1 u1 g1 rest,j,p,hj=>by
  cases j with
  |zero=>
   simp only[a3H,a08]at hj;subst hj;exact⟨_,m,h,rfl,i1,n1,n2,.refl,fun _ i b hb=>hb⟩
  |succ j=>
   obtain⟨t,mj,EC,e1,e2,e3,e4,e5,e6⟩:=a7F rest (j:=j) (by simpa using hj);refine⟨t,mj,EC,by simpa using e1,e2,e3,e4,f1.trans e5,fun hq i b hb=>e6 (fun i q hl hi=>hq (i+1) q (by omega) (by simpa using hi)) i b ?_⟩;exact Y1 u1 (g1 (hq 0 _ (by omega) rfl)) hb
theorem a2t:∀{ps} {ts} {m} {h},IRs m h ps ts->∀{i j:Nat} {p q},i<j->ps[i]? = some p->ps[j]? = some q->a2g p q=true->((∀(k) q,i<=k->k<j->ps[k]? = some q->q.mv=false)\/p.hp=false\/q.hp=false)->∃a b,ts[i]? = some a/\ts[j]? = some b/\calm a b=true
 |_,_,_,_,.nil,i,j,p,q,_,hi,_,_,_=>by simp at hi
 |_,_,m,h,.cons n1 n2 i1 f1 u1 g1 rest,i,j,p,q,AY,hi,hj,hc,RJ=>by
  cases j with
  |zero=>omega
  |succ j=>
   cases i with
   |zero=>
    simp only[a3H,a08]at hi;subst hi;obtain⟨t,mj,EC,e1,e2,e3,e4,e5,e6⟩:=a7F rest (j:=j) (by simpa using hj);refine⟨_,t,rfl,by simpa using e1,abe n1 e3 n2 (f1.trans e5) i1 e2 hc ?_⟩;refine RJ.imp_left fun hq i b hb=>e6 (fun i q hl hi=>hq (i+1) q (by omega) (by omega) (by simpa using hi)) i b (Y1 u1 (g1 (hq 0 _ (by omega) (by omega) rfl)) hb)
   |succ i=>
    obtain⟨a,b,e1,e2,e3⟩:=a2t rest (i:=i) (j:=j) (by omega) (by simpa using hi) (by simpa using hj) hc (RJ.imp_left fun hq k q h1 h2 hi=>hq (k+1) q (by omega) (by omega) (by simpa using hi));exact⟨a,b,by simpa using e1,by simpa using e2,e3⟩
theorem a7G{ps ts m h}(hI:IRs m h ps ts):∀{prs},(∀q∈prs,q.1<q.2)->Vx ps prs=true->Cc ts prs=true
 | [],_,_=>rfl
 |(i,j)::r,aQ,hd=>by
  simp only[Vx,a2K]at hd;obtain⟨h1,h2⟩:=hd;split at h1
  .rename_i a b ha hb;simp only[a2K,aag,a9c]at h1;obtain⟨x,y,e1,e2,e3⟩:=a2t hI (aQ _ a3M) ha hb h1.1 (by
    rcases h1.2 with(h3|h3)|h3
    .exact .inr (.inl h3)
    .exact .inr (.inr h3)
    left;intro k q SI lK hk;cases hq:q.mv with
    |false=>rfl
    |true=>
     refine absurd (ahd.2 ⟨q,a5M (i:=k-i) ?_,hq⟩) (by rw[h3];simp);rw[a5G,a18 (by omega),a5z,<-hk];congr 1;omega)
   simp only[Cc,e1,e2,e3,aei];exact a7G hI (fun q hq=>aQ q (a3J _ hq)) h2
  cases h1
theorem ag9{ops}:∀q∈nO ops,q.1<q.2:=by intro q hq;unfold nO at hq;have:=(a7y.1 hq).1;unfold pF at this;simp only[af7,a1z,a7y,a5D]at this;obtain⟨j,_,i,⟨hi,_⟩,rfl⟩:=this;exact hi
theorem U2{ts}(hw:∀t∈ts,t.ws=[]):∀{prs},(∀q∈prs,q.1<ts.length/\q.2<ts.length)->Cc ts prs=true
 | [],_=>rfl
 |(i,j)::r,hl=>by obtain⟨h1,h2⟩:=hl _ a3M;simp only[Cc,a0N h1,a0N h2,a2K];refine⟨?_,U2 hw fun q hq=>hl q (a3J _ hq)⟩;simp[calm,OA,hw _ (a5K h1),hw _ (a5K h2)]
theorem aga{ops}:∀q∈nO ops,q.1<ops.length/\q.2<ops.length:=by intro q hq;unfold nO at hq;have:=(a7y.1 hq).1;unfold pF at this;simp only[af7,a1z,a7y,a5D]at this;obtain⟨j,hj,i,⟨hi,_⟩,rfl⟩:=this;exact⟨by simp only;omega,hj⟩
section
variable{X:ny}{P:LI1}{A W:Nat->Prop}{m m':List MB}{h:List HB}
structure SR(X:ny)(P:LI1)(A W:Nat->Prop)(fl:Nat)(m:List MB)(ps:bT X.Γ)(ts:St):Prop where
 st:vZ X P A m ps ts
 own:∀b,b∈aZ m->W b\/fl<=b
 ws:∀b,b∈ts.ws->W b
 fl:fl<=ts.heap.length
def O6(B:Nat)(m m1:List MB):Prop:=∀(i:Nat) mb,i<B->m[i]? = some mb->m1[i]? = some mb\/m1[i]? = some .gone
theorem Up.b{B m m1}(h:Up m m1):O6 B m m1:=fun i mb _ hi=>h i mb hi
theorem O6.trans{B m m1 m2}(a:O6 B m m1)(b:O6 B m1 m2):O6 B m m2:=fun i mb hB hi=>by
 rcases a i mb hB hi with h|h
 .exact b i mb hB h
 .rcases b i _ hB h with h|h<;>exact .inr h
theorem O6.refl{B m}:O6 B m m:=fun _ _ _ h=>.inl h
def DV(X:ny)(P:LI1)(B:Nat)(ps ps1:bT X.Γ):Prop:=
 ∀(A W:Nat->Prop) (fl:Nat) (m:List MB) (ts:St),SR X P A W fl m ps ts->∃m1,SR X P A W fl m1 ps1 ts/\Fr m ts.heap m1 ts.heap/\O6 B m m1
theorem DV.refl{B ps}:DV X P B ps ps:=fun _ _ _ m _ hS=>⟨m,hS,.refl,.refl⟩
theorem DV.trans{B a b c}(h1:DV X P B a b)(h2:DV X P B b c):DV X P B a c:=fun A W fl m ts hS=>by obtain⟨m1,g1,g2,g3⟩:=h1 A W fl m ts hS;obtain⟨m2,g4,g5,g6⟩:=h2 A W fl m1 ts g1;exact⟨m2,g4,g2.trans g5,g3.trans g6⟩
theorem abf{env env'}(he:kG X P A m h env env'):kG X P A m h (aaQ env) env':=by
 induction he with
 |nil=>exact .nil
 |cons h1 _ ih=>
  rename_i k v x r r' _;cases v with
  |val v=>obtain⟨y,rfl,h2⟩:=fZ h1;exact .cons (oL (II h2)) ih
  |_=>exact .cons h1 ih
theorem abg{t i}(hi:m[i]? = some (.dw (.nil .aO))):∀{env} {env':List (Nat×EV)} {r:List (Nat×PE X.Γ)},kG X P A m h env env'->IE t i env=some r->kG X P A m h r env':=by
 intro env env' r he
 induction he generalizing r with
 |nil=>intro h;cases h
 |cons h1 h2 ih=>
  rename_i k v x q q';intro hn;simp only[IE]at hn;split at hn
  .split at hn
   .cases hn;obtain⟨y,rfl,h3⟩:=fZ h1;have:y=.nil .aO:=by
     cases h3 with
     |nil=>rfl
     |gone hi _ _=>simp[bC]at hi
    subst this;exact .cons (oL (.own hi rfl)) h2
   cases hn
  simp only[a0z]at hn;obtain⟨q2,h3,rfl⟩:=hn;exact .cons h1 (ih h3)
theorem a2u{i off}(hi:m[i]? = some (.dw (.nil .aO))){cs r xs}(hv:bZ X P A m h cs xs)(hn:aaR off i cs=some r):bZ X P A m h r xs:=by
 unfold aaR at hn;split at hn
 .rename_i hc;cases hn;refine⟨by rw[a5N,hv.1],fun j a b ha hb=>?_⟩;by_cases e:off=j
  .subst e;rw[a5E,hc]at ha;cases ha;have:b=.nil .aO:=by
    cases hv.2 _ _ _ hc hb with
    |nil=>rfl
    |gone hi _ _=>simp[bC]at hi
   subst this;exact .own hi rfl
  rw[a1A e]at ha;exact hv.2 j a b ha hb
 cases hn
theorem SR.VH{fl ps ts}(hS:SR X P A W fl m ps ts)(e):∃m1,HR X P A m1 (ps.heap++[.list false false e []]) ts.heap/\Fr m ts.heap m1 ts.heap/\Up m m1/\m1[ps.heap.length]? = some (.dw (.nil .aO))/\(∀b,b∈aZ m1->b∈aZ m):=by obtain⟨h1,h2,h3⟩:=hS.st.heap.adu (pb:=.list false false e []) (mb:=.dw (.nil .aO)) rfl LR.nil;refine⟨_,h1,h2,h3,by rw[<-hS.st.heap.len];simp,fun b hb=>?_⟩;rw[jw,a3N,kU]at hb;simpa[MB.own]using hb
theorem a7H(hX:bW X P){H}(hr:HR X P A m H h){i v w x}(hv:VR X P (AA A m) m h v x)(hw:fzV H i v=some w):VR X P (AA A (cu [i] m)) (cu [i] m) h w x:=by
 unfold fzV at hw;split at hw
 .cases hw;exact hv.step (iP (h:=h) [i] m).1 (iP (h:=h) [i] m).2
 split at hw
 .rename_i ha;refine(VE (m':=cu [i] m) hX hr hv hw (is:=[i]) fun j hj=>?_).mono fun b hb=>FA.gone hr hb;have:=a5L.1 ha j hj;rw[aa6 this];exact a2p.2 rfl
 cases hw
theorem a2v(hX:bW X P){H}(hr:HR X P A m H h){i}:∀{v w} {x:List TV},bZ X P (AA A m) m h v x->a7e H i v=some w->bZ X P (AA A (cu [i] m)) (cu [i] m) h w x
 | [],w,x,hv,hw=>by cases hw;rw[hv.inv0];exact .nil
 |v::vs,w,x,hv,hw=>by
  obtain⟨y,r,rfl,h1,h2⟩:=hv.inv;simp only[a7e]at hw;split at hw
  .rename_i w1 ws e1 e2;cases hw;exact .cons (a7H hX hr h1 e1) (a2v hX hr h2 e2)
  cases hw
theorem agb(hX:bW X P){H}(hr:HR X P A m H h){i v x}(hv:kG X P (AA A m) m h v x):∀{w},fzE H i v=some w->kG X P (AA A (cu [i] m)) (cu [i] m) h w x:=by
 induction hv with
 |nil=>intro w hw;cases hw;exact .nil
 |cons h1 h2 ih=>
  rename_i k v x q q';intro w hw;cases v with
  |val v=>
   simp only[fzE]at hw;split at hw
   .rename_i w1 ws e1 e2;cases hw;obtain⟨y,rfl,h3⟩:=fZ h1;exact .cons (oL (a7H hX hr h3 e1)) (ih e2)
   cases hw
  |loc k o=>
   simp only[fzE,a0z]at hw;obtain⟨ws,e2,rfl⟩:=hw;exact .cons (by cases x<;>exact h1) (ih e2)
  |undef=>
   simp only[fzE,a0z]at hw;obtain⟨ws,e2,rfl⟩:=hw;exact .cons (by cases x<;>exact h1) (ih e2)
  |ent|Fj=>simp[fzE]at hw
theorem a2w{Γ}{H:List (PB Γ)}{i}:∀{l r},fzL H i l=some r->r.length=l.length/\∀(k:Nat) ds,r[k]? = some ds->∃cs,l[k]? = some cs/\a7e H i cs=some ds
 | [],r,h=>by cases h;exact⟨rfl,fun k ds hk=>by simp at hk⟩
 |c::l,r,h=>by
  simp only[fzL]at h;split at h
  .rename_i w ws e1 e2;cases h;obtain⟨q1,q2⟩:=a2w e2;refine⟨by simp[q1],fun k ds hk=>?_⟩;cases k with
   |zero=>simp at hk;subst hk;exact⟨c,rfl,e1⟩
   |succ k=>exact q2 k ds (by simpa using hk)
  cases h
theorem a7I(hX:bW X P){B g ps ps1}(hg:Cm B ps g=some ps1):DV X P B ps ps1:=by
 intro A W fl m ts hS;cases g with
 |lit=>
  simp only[Cm,a08]at hg;subst hg;exact⟨m,⟨⟨hS.st.heap,hS.st.llen,hS.st.loc,abf hS.st.env⟩,hS.own,hS.ws,hS.fl⟩,.refl,.refl⟩
 |IE t e=>
  simp only[Cm,a0z]at hg;obtain⟨env,h1,rfl⟩:=hg;obtain⟨m1,e1,e2,e3,e4,e5⟩:=hS.VH e;exact⟨m1,⟨⟨e1,hS.st.llen,fun k cs hk=>let ⟨cs',q1,q2⟩:=hS.st.loc k cs hk;⟨cs',q1,q2.step e2 e3⟩,abg e4 (hS.st.env.step e2 e3) h1⟩,fun b hb=>hS.own b (e5 b hb),hS.ws,hS.fl⟩,e2,e3.b⟩
 |a4l k off e=>
  simp only[Cm]at hg;split at hg
  .rename_i cs hk;simp only[a0z]at hg;obtain⟨TT,h1,rfl⟩:=hg;obtain⟨m1,e1,e2,e3,e4,e5⟩:=hS.VH e;refine⟨m1,⟨⟨e1,by simp[hS.st.llen],fun j ds hj=>?_,hS.st.env.step e2 e3⟩,fun b hb=>hS.own b (e5 b hb),hS.ws,hS.fl⟩,e2,e3.b⟩;by_cases e0:k=j
   .subst e0;rw[a5E,hk]at hj;cases hj;obtain⟨cs',q1,q2⟩:=hS.st.loc k cs hk;exact⟨cs',q1,a2u e4 (q2.step e2 e3) h1⟩
   rw[a1A e0]at hj;obtain⟨cs',q1,q2⟩:=hS.st.loc j ds hj;exact⟨cs',q1,q2.step e2 e3⟩
  cases hg
 |Vu i off e=>
  simp only[Cm]at hg;split at hg
  rotate_left
  .cases hg
  rename_i cs hi;simp only[a0z]at hg;obtain⟨TT,h1,rfl⟩:=hg;obtain⟨m1,e1,e2,e3,e4,e5⟩:=hS.VH e;have aQ:i<ps.heap.length:=(a0w.1 hi).1;have xI:HR X P A m1 (ps.heap.set i (.cells TT)++[.list false false e []]) ts.heap:=by
   refine e1.next .refl .refl (by simp[e1.len]) e1.nodup fun j b hj=>?_;by_cases e0:i=j
   .subst e0;right;rw[a0Q (by simpa using aQ),a5E,hi]at hj;cases hj;obtain⟨mb,q1,q2⟩:=e1.at_ i (.cells cs) (by rw[a0Q aQ];exact hi);refine⟨mb,q1,?_⟩;cases mb with
    |gJ c=>obtain⟨xs,q3,q4⟩:=q2;exact⟨xs,q3,a2u e4 q4 h1⟩
    |_=>exact q2.elim
   left;have:(ps.heap++[PB.list false false e []])[j]? = some b:=by
    rw[<-hj];rcases a5l j ps.heap.length with h9|h9
    .rw[a0Q h9,a0Q (by simpa using h9),a1A e0]
    rw[a1y h9,a1y (by simpa using h9),a5N]
   obtain⟨mb,q1,_⟩:=e1.at_ j b this;exact⟨mb,this,q1,q1,fun _ _=>rfl⟩
  exact⟨m1,⟨⟨xI,hS.st.llen,fun k cs hk=>let ⟨cs',q1,q2⟩:=hS.st.loc k cs hk;⟨cs',q1,q2.step e2 e3⟩,hS.st.env.step e2 e3⟩,fun b hb=>hS.own b (e5 b hb),hS.ws,hS.fl⟩,e2,e3.b⟩
 |flag i=>
  simp only[Cm]at hg;split at hg
  rotate_left
  .cases hg
  rename_i k ex t l hi;cases hg;have hr:=hS.st.heap;refine⟨m,⟨⟨?_,hS.st.llen,hS.st.loc,hS.st.env⟩,hS.own,hS.ws,hS.fl⟩,.refl,.refl⟩;refine hr.next .refl .refl (by simp[hr.len]) hr.nodup fun j b hj=>?_;by_cases e0:i=j
  .subst e0;right;rw[a5E,hi]at hj;cases hj;obtain⟨mb,q1,q2⟩:=hr.at_ i _ hi;refine⟨mb,q1,?_⟩;cases mb with
   |dw y=>
    cases(q2:LR X P _ _ _ _ _ _ _ y)with
    |nil=>exact LR.nil
    |emp p0 p1 p2 p3 p4=>exact LR.emp p0 p1 p2 p3 p4
    |some p1 p2 p3 p4 p5 p6 p7 p8 p9=>exact LR.some p1 p2 p3 p4 p5 (by simp) (by simp) p8 p9
   |_=>exact q2.elim
  left;rw[a1A e0]at hj;obtain⟨mb,q1,_⟩:=hr.at_ j b hj;exact⟨mb,hj,q1,q1,fun _ _=>rfl⟩
 |gc ks=>
  simp only[Cm]at hg;split at hg
  rotate_left
  .cases hg
  rename_i hc;simp only[a2K,a1F,a5L]at hc;obtain⟨⟨FZ,jG⟩,hB⟩:=hc;split at hg
  rotate_left
  .cases hg
  rename_i env loc b1 b2 h1 h2 h3 h4;split at hg
  rotate_left
  .cases hg
  rename_i b3 h5;cases hg;have hr:=hS.st.heap;have hp:=EU h4;have aqk:∀k∈ks,k<m.length:=fun k hk=>by obtain⟨i,hi⟩:=a9o hk;obtain⟨b,q1,_⟩:=hp.2 hi;rw[hr.len];exact(a0w.1 q1).1
  have hBm:B<=m.length:=by rw[hr.len];exact hB
  let m1:List MB:=m.take B++ks.map fun k=>m.getD k .gone
  have agc:(m.take B).length=B:=by rw[a4w];omega
  have Ik:∀i,i<B->m1[i]? = m[i]?:=fun i hi=>by show(m.take B++_)[i]? = _;rw[a0Q (by omega),a5G,a18 hi]
  have hhi:∀p k,ks[p]? = some k->m1[p+B]? = m[k]?:=fun p k hp=>by show(m.take B++_)[p+B]? = _;rw[a1y (by omega),agc,Nat.add_sub_cancel,a5F,hp];have:=aqk k (a5M hp);simp[a4h,this]
  have hg:∀i j,(fun i=>if i<B then some i else(xM ks i).map (·+B)) i=some j->m1[j]? = m[i]?:=fun i j AY=>by
   simp only at AY;split at AY
   .rename_i hi;cases AY;exact Ik i hi
   simp only[a0z]at AY;obtain⟨p,hp,rfl⟩:=AY;exact hhi p i (Q7 hp)
  have hold:∀j mb,m1[j]? = some mb->∃i,m[i]? = some mb/\((j<B/\i=j)\/∃p,j=p+B/\ks[p]? = some i):=fun j mb hj=>by
   rcases a5l j B with aQ|CS
   .exact⟨j,by rw[<-Ik j aQ];exact hj,.inl ⟨aQ,rfl⟩⟩
   have tX:j-B<ks.length:=by
    have:=(a0w.1 hj).1;have h9:m1.length=B+ks.length:=by show(m.take B++_).length=_;rw[a1D,agc,a5C]
    omega
   have hp:=a0N tX;have hh:=hhi (j-B) _ hp;rw[show j-B+B=j by omega,hj]at hh;exact⟨_,hh.symm,.inr ⟨j-B,by omega,hp⟩⟩
  have yO:∀b,b∈aZ m1->b∈aZ m:=fun b hb=>by obtain⟨j,mb,q1,q2⟩:=kW hb;obtain⟨i,q3,_⟩:=hold j mb q1;exact aY q3 q2
  have hA:∀b,AA A m b->AA A m1 b:=fun b hb=>⟨hb.1,fun hm=>hb.2 (yO b hm)⟩;have agd:(aZ m1).Nodup:=jO fun i j c q1 q2=>by
   obtain⟨ma,a1,a2⟩:=q1;obtain⟨mc,c1,c2⟩:=q2;obtain⟨i',a3,a4⟩:=hold i ma a1;obtain⟨j',c3,c4⟩:=hold j mc c1;have e:=iW hr.nodup a3 c3 a2 c2;subst e;rcases a4 with⟨a5,a6⟩|⟨p,a5,a6⟩<;>rcases c4 with⟨c5,c6⟩|⟨q,c5,c6⟩
   .omega
   .have:=FZ _ (a5M c6);omega
   .have:=FZ _ (a5M a6);omega
   have AQ:=(a0w.1 a6).1;have:p=q:=(List.getElem?_inj AQ jG).1 (by rw[a6,c6]);omega
  have hFr:Fr m ts.heap m1 ts.heap:=⟨a1p _,fun _ _ _=>rfl,fun b hb=>.inl (yO b hb),fun b cs hc=>⟨cs,hc,a1p _⟩⟩;have CU:=uI h3;have hb3:=uI h5;have SL:=Q9 h2;refine⟨m1,⟨⟨⟨?_,fun j b hj=>?_,agd,hr.up,fun b hb=>hr.DR b (yO b hb)⟩,by rw[SL.1];exact hS.st.llen,fun k cs hk=>?_,Q8 hX hg hA hS.st.env h1⟩,fun b hb=>hS.own b (yO b hb),hS.ws,hS.fl⟩,hFr,fun i mb hi hm=>.inl (by rw[Ik i hi];exact hm)⟩
  .show(m.take B++_).length=_;rw[a1D,a1D,a5C,CU.1,hb3.1,hp.1,agc,a4w];omega
  .have a1Q:b1.length=B:=by rw[CU.1,a4w];omega
   rcases a5l j B with aQ|CS
   .rw[a0Q (by omega)]at hj;obtain⟨b0,q1,q2⟩:=CU.2 hj;rw[a5G,a18 aQ]at q1;obtain⟨mb,q3,q4⟩:=hr.at_ j b0 q1;exact⟨mb,by rw[Ik j aQ];exact q3,ET hX hg hA (fun c _ h9 h8=>h9 (yO c h8)) q4 q2⟩
   rw[a1y (by omega),a1Q]at hj;obtain⟨b0,q1,q2⟩:=hb3.2 hj;have tX:j-B<ks.length:=by rw[<-hp.1];exact(a0w.1 q1).1
   obtain⟨b9,q5,q6⟩:=hp.2 (a0N tX);rw[q1]at q6;cases q6;obtain⟨mb,q3,q4⟩:=hr.at_ _ _ q5;refine⟨mb,?_,ET hX hg hA (fun c _ h9 h8=>h9 (yO c h8)) q4 q2⟩;have:=hhi (j-B) _ (a0N tX);rw[show j-B+B=j by omega]at this;rw[this];exact q3
  obtain⟨cs0,q1,q2⟩:=SL.2 hk;obtain⟨cs',q3,q4⟩:=hS.st.loc k cs0 q1;exact⟨cs',q3,zZ hX hg hA q4 q2⟩
 |fz i=>
  simp only[Cm]at hg;split at hg
  .rename_i env loc e1 e2;cases hg;have hr:=hS.st.heap;have hF:=iP (h:=ts.heap) [i] m;obtain⟨q1,q2⟩:=a2w e2;refine⟨cu [i] m,⟨⟨hr.bf [i],by rw[q1];exact hS.st.llen,fun k ds hk=>?_,agb hX hr hS.st.env e1⟩,fun b hb=>?_,hS.ws,hS.fl⟩,hF.1,hF.2.b⟩
   .obtain⟨cs,h1,h2⟩:=q2 k ds hk;obtain⟨cs',h3,h4⟩:=hS.st.loc k cs h1;exact⟨cs',h3,a2v hX hr h4 h2⟩
   obtain⟨j,mb,_,h2,h3⟩:=Bo hb;exact hS.own b (aY h2 h3)
  cases hg
 |mv i=>
  simp only[Cm]at hg;split at hg
  rotate_left
  .cases hg
  rename_i b0 hi;split at hg
  rotate_left
  .cases hg
  rename_i env loc b1 b2 h1 h2 h3 h4;cases hg;have hr:=hS.st.heap;have aQ:i<ps.heap.length:=(a0w.1 hi).1;obtain⟨mi,mi1,mi2⟩:=hr.at_ i b0 hi
  let m1:List MB:=m.set i .gone++[mi]
  have qY:(m.set i .gone).length=ps.heap.length:=by rw[a5N,hr.len]
  have Ik:∀j,j<ps.heap.length->j≠i->m1[j]? = m[j]?:=fun j hj hn=>by show(m.set i .gone++[mi])[j]? = _;rw[a0Q (by omega),a1A (fun e=>hn e.symm)]
  have JF:m1[i]? = some .gone:=by show(m.set i .gone++[mi])[i]? = _;rw[a0Q (by omega),a5E,mi1];rfl
  have hhi:m1[ps.heap.length]? = some mi:=by show(m.set i .gone++[mi])[ps.heap.length]? = _;rw[a1y (by omega),qY,afs];rfl
  have hg:∀a b,(fun j=>if j=i then some ps.heap.length else if j<ps.heap.length then some j else none) a=some b->m1[b]? = m[a]?:=fun a b hab=>by
   simp only at hab;split at hab
   .rename_i e;subst e;cases hab;rw[hhi,mi1]
   split at hab
   .rename_i e1 e2;cases hab;exact Ik a e2 e1
   cases hab
  have hold:∀j mb,m1[j]? = some mb->mb=.gone\/∃k,m[k]? = some mb/\((j<ps.heap.length/\k=j/\j≠i)\/(j=ps.heap.length/\k=i)):=fun j mb hj=>by
   have tX:j<ps.heap.length+1:=by
    have:=(a0w.1 hj).1;have h9:m1.length=ps.heap.length+1:=by show(m.set i .gone++[mi]).length=_;rw[a1D,qY];rfl
    omega
   by_cases e:j=i
   .subst e;rw[JF]at hj;cases hj;exact .inl rfl
   rcases a5l j ps.heap.length with h5|h5
   .exact .inr ⟨j,by rw[<-Ik j h5 e];exact hj,.inl ⟨h5,rfl,e⟩⟩
   have:j=ps.heap.length:=(by omega);subst this;rw[hhi]at hj;cases hj;exact .inr ⟨i,mi1,.inr ⟨rfl,rfl⟩⟩
  have yO:∀b,b∈aZ m1->b∈aZ m:=fun b hb=>by
   obtain⟨j,mb,q1,q2⟩:=kW hb;rcases hold j mb q1 with rfl|⟨k,q3,_⟩
   .cases q2
   exact aY q3 q2
  have hA:∀b,AA A m b->AA A m1 b:=fun b hb=>⟨hb.1,fun hm=>hb.2 (yO b hm)⟩;have agd:(aZ m1).Nodup:=jO fun j k c q1 q2=>by
   obtain⟨ma,a1,a2⟩:=q1;obtain⟨mc,c1,c2⟩:=q2;rcases hold j ma a1 with rfl|⟨j',a3,a4⟩
   .cases a2
   rcases hold k mc c1 with rfl|⟨k',c3,c4⟩
   .cases c2
   have e:=iW hr.nodup a3 c3 a2 c2;subst e;rcases a4 with⟨a5,a6,a7⟩|⟨a5,a6⟩<;>rcases c4 with⟨c5,c6,c7⟩|⟨c5,c6⟩<;>omega
  have hFr:Fr m ts.heap m1 ts.heap:=⟨a1p _,fun _ _ _=>rfl,fun b hb=>.inl (yO b hb),fun b cs hc=>⟨cs,hc,a1p _⟩⟩;have CU:=uI h3;have SL:=Q9 h2;have ak9:b1.length=ps.heap.length:=by rw[CU.1,a5N]
  refine⟨m1,⟨⟨⟨?_,fun j b hj=>?_,agd,hr.up,fun b hb=>hr.DR b (yO b hb)⟩,by rw[SL.1];exact hS.st.llen,fun k cs hk=>?_,Q8 hX hg hA hS.st.env h1⟩,fun b hb=>hS.own b (yO b hb),hS.ws,hS.fl⟩,hFr,fun j mb _ hj=>?_⟩
  .show(m.set i .gone++[mi]).length=_;rw[a1D,a1D,qY,ak9];rfl
  .rcases a5l j ps.heap.length with h5|h5
   .rw[a0Q (by omega)]at hj;obtain⟨b9,q1,q2⟩:=CU.2 hj;by_cases e:j=i
    .subst e;rw[a5E,hi]at q1;cases q1;have q2:some (PB.gone (Γ:=X.Γ))=some b:=q2;cases q2;exact⟨.gone,JF,trivial⟩
    rw[a1A (fun e2=>e e2.symm)]at q1;obtain⟨mb,q3,q4⟩:=hr.at_ j b9 q1;exact⟨mb,by rw[Ik j h5 e];exact q3,ET hX hg hA (fun c _ h9 h8=>h9 (yO c h8)) q4 q2⟩
   rw[a1y (by omega),ak9]at hj;have:j-ps.heap.length=0:=by have:=(a0w.1 hj).1;simp at this;omega
   rw[this]at hj;cases hj;refine⟨mi,?_,ET hX hg hA (fun c _ h9 h8=>h9 (yO c h8)) mi2 h4⟩;rw[show j=ps.heap.length by omega];exact hhi
  .obtain⟨cs0,q1,q2⟩:=SL.2 hk;obtain⟨cs',q3,q4⟩:=hS.st.loc k cs0 q1;exact⟨cs',q3,zZ hX hg hA q4 q2⟩
  by_cases e:j=i
  .subst e;exact .inr JF
  have:j<ps.heap.length:=by rw[<-hr.len];exact(a0w.1 hj).1
  exact .inl (by rw[Ik j this e];exact hj)
theorem nU(hX:bW X P){B}:∀{gs} {ps ps1},lW B gs ps=some ps1->DV X P B ps ps1
 | [],ps,ps1,h=>by simp only[lW,a08]at h;subst h;exact .refl
 |g::gs,ps,ps1,h=>by
  simp only[lW]at h;split at h
  .rename_i s hs;exact(a7I hX hs).trans (nU hX h)
  cases h
end
section
variable{X:ny}{P:LI1}{T:vw}{A W:Nat->Prop}{m m':List MB}
variable{call:dN}{fU:fV X.Γ}{ρ:Type}{y:ρ}
theorem SR.CW{fl ps ts}(hS:SR X P A W fl m ps ts){x b}(hb:rM ts.env x=some (.bool b)):SR X P A W fl m (ps.CW x b) ts:=⟨hS.st.CW hb,hS.own,hS.ws,hS.fl⟩
theorem vZ.put{ps ts}(hR:vZ X P A m ps ts){d pe ev}(h:JG X P (AA A m) m ts.heap pe ev):vZ X P A m (ps.put d pe) (ts.put d ev):=by
 cases d with
 |none=>exact hR
 |some d=>exact⟨hR.heap,hR.llen,hR.loc,.cons h hR.env⟩
theorem A8{ts:St}{d ev}:(ts.put d ev).heap=ts.heap/\(ts.put d ev).ws=ts.ws:=by cases d<;>exact⟨rfl,rfl⟩
theorem Y2{H h}(hr:HR X P A m H h){i:Nat}{b}(hb:H[i]? = some b):sF b=true↔m[i]? = some .gone:=by
 obtain⟨mb,h1,h2⟩:=hr.at_ i b hb;cases b with
 |gone=>
  cases mb with
  |gone=>exact⟨fun _=>h1,fun _=>rfl⟩
  |_=>exact h2.elim
 |cells cs=>cases mb with
  |gone=>exact h2.elim
  |_=>simp[sF,h1]
 |aF cs=>cases mb with
  |gone=>exact h2.elim
  |_=>simp[sF,h1]
 |list k ex t l=>cases mb with
  |gone=>exact h2.elim
  |_=>simp[sF,h1]
 |map es=>cases mb with
  |gone=>exact h2.elim
  |_=>simp[sF,h1]
 |mark=>cases mb with
  |gone=>exact h2.elim
  |_=>simp[sF,h1]
 |nT=>cases mb with
  |gone=>exact h2.elim
  |_=>simp[sF,h1]
 |iO=>cases mb with
  |gone=>exact h2.elim
  |_=>simp[sF,h1]
 |dh=>cases mb with
  |gone=>exact h2.elim
  |_=>simp[sF,h1]
 |loop=>cases mb with
  |gone=>exact h2.elim
  |_=>simp[sF,h1]
theorem MI:∀{H H1:List (PB X.Γ)},zY H H1=true->∀{i:Nat} {b},H[i]? = some b->∃b1,H1[i]? = some b1/\sF b=sF b1
 | [],H1,_,i,b,hi=>by simp at hi
 |a::H,[],h,i,b,hi=>by simp[zY]at h
 |a::H,a1::H1,h,i,b,hi=>by
  simp only[zY,a2K,a6E]at h;cases i with
  |zero=>simp only[a3H,a08]at hi;subst hi;exact⟨a1,rfl,h.1⟩
  |succ i=>obtain⟨b1,e1,e2⟩:=MI h.2 (i:=i) (by simpa using hi);exact⟨b1,by simpa using e1,e2⟩
theorem agf{H H1 h h1 m1}(hr:HR X P A m H h)(hr1:HR X P A m1 H1 h1)(hs:(!zY H H1)=false):∀(i),i<m.length->m1[i]? = some .gone->m[i]? = some .gone:=by
 intro i hi hg;have wR:i<H.length:=by rw[<-hr.len];exact hi
 have hb:=a0N wR;obtain⟨b1,e1,e2⟩:=MI (by simpa using hs) hb;have:=(Y2 hr1 e1).2 hg;rw[<-e2]at this;exact(Y2 hr hb).1 this
theorem NH{fl ops ps ts}(hS:SR X P A W fl m ps ts){o an k}(hk:(a0p X ops ps o an k).Ends y) :∃w ps1 IY,Dl ops ts.env o=some w/\SR X P A W fl m ps1 ts/\(k w ps1 IY).Ends y/\ps1.heap=ps.heap:=by
 unfold a0p at hk;unfold Dl;split at hk
 .rename_i hg;exact⟨true,ps,an,by simp only[hg],hS,hk,rfl⟩
 .rename_i j want hg;simp only[hg];split at hk
  .rename_i d hd;simp only[hd];split at hk
   .rename_i b hb;obtain⟨ev,h1,h2⟩:=pV hS.st.env hb;obtain⟨tv,rfl,h3⟩:=fZ h2;obtain⟨t,IY,rfl,hk⟩:=a0x hk h3;exact⟨t==want,_,IY,by simp only[h1],hS.CW (x:=.tmp d) (by simp only[rM,JD,h1]),hk,rfl⟩
   .rename_i hb;obtain⟨ev,h1,h2⟩:=pV hS.st.env hb;have:=Kw h2;subst this;exact⟨false,ps,an,by simp only[h1],hS,hk,rfl⟩
   .exact hk.elim
  .exact hk.elim
theorem a0E(hX:bW X P)(hO:jR X P call fU){site fl nt ops}:∀{os} {m} {ps} {ts} {an} {k},SR X P A W fl m ps ts->(XK X P fU (dI X P call) site nt ops os ps an k).Ends y ->∃iT is pis ps1 IY m1,lQ P call site fl nt ops os ts=some (iT,is)/\(k ps1 pis IY).Ends y/\SR X P A W fl m1 ps1 iT/\Fr m ts.heap m1 iT.heap/\Up m m1/\IRs m ts.heap pis is/\is.length=os.length
 | [],m,ps,ts,an,k,hS,hk=>⟨ts,[],[],ps,an,m,rfl,hk,hS,.refl,.refl,.nil,rfl⟩
 |o::os,m,ps,ts,an,k,hS,hk=>by
  simp only[XK]at hk;split at hk
  .exact hk.elim
  .rename_i hd;obtain⟨w,ps1,Nl,hw,hS1,hk,hh⟩:=NH hS hk;cases w with
   |true=>
    simp only at hk;obtain⟨pe,Dq,pi,an2,⟨ev,ts2,ti,m2,e1,e2,e3,e4,e5,e6,e7,e8,e9⟩,hk⟩:=ag4 hX hO hS1.st hk;have hS2:SR X P A W fl m2 (Dq.put o.dst pe) (({ ts2 with ws:=kH fl ti.ws ts.ws }).put o.dst ev):=by
     refine⟨vZ.put (ts:={ ts2 with ws:=kH fl ti.ws ts.ws }) ⟨e4.heap,e4.llen,e4.loc,e4.env⟩ e5,fun b hb=>?_,fun b hb=>?_,?_⟩
     .rcases e6.new b hb with h1|h1
      .exact hS.own b h1
      .exact .inr (a5W hS.fl h1)
     .rw[A8.2]at hb;rcases wV hb with h1|⟨h1,h2⟩
      .exact hS.ws b h1
      .rcases hS.own b (e9 b h1)with h3|h3
       .exact h3
       .omega
     .rw[A8.1];exact a5W hS.fl e6.len
    obtain⟨ts3,is,pis,ps3,an3,m3,g1,g2,g3,g4,g5,g6,g7⟩:=a0E hX hO (os:=os) hS2 hk;rw[A8.1]at g4 g6;refine⟨ts3,ti::is,_,ps3,an3,m3,?_,g2,g3,e6.trans g4,e7.trans g5,.cons hS.st.heap.nodup (fun b hb=>hS.st.heap.inb hb) ⟨e8.all,e8.tl,e8.wl,e8.wh,e8.th,e8.hp⟩ e6 e7 (agf hS1.st.heap e4.heap) g6,by simp[g7]⟩;simp only[lQ,hd,hw,e1,g1];rfl
   |false=>
    simp only at hk;have hS2:SR X P A W fl m (ps1.put o.dst .undef) (ts.put o.dst .undef):=by
     refine⟨hS1.st.put trivial,hS.own,fun b hb=>?_,?_⟩
     .rw[A8.2]at hb;exact hS.ws b hb
     .rw[A8.1];exact hS.fl
    obtain⟨ts3,is,pis,ps3,an3,m3,g1,g2,g3,g4,g5,g6,g7⟩:=a0E hX hO (os:=os) hS2 hk;rw[A8.1]at g4 g6;refine⟨ts3,cO::is,_,ps3,an3,m3,?_,g2,g3,g4,g5,.cons hS.st.heap.nodup (fun b hb=>hS.st.heap.inb hb) .none .refl .refl (fun _ i _ hg=>hg) g6,by simp[g7]⟩;simp only[lQ,hd,hw,g1];rfl
def dR(X:ny)(P:LI1)(T:vw)(call:dN)(L f:Nat)(iF:Bool)(nt B:Nat)(c:Code)(ps:bT X.Γ)(e:Ex)(ps1:bT X.Γ):Prop:=
 ∀(A W:Nat->Prop) (fl:Nat) (m:List MB) (ts:St),SR X P A W fl m ps ts->∃iT m1,exec P T call L f iF fl nt c ts=some (e,iT)/\SR X P A W fl m1 ps1 iT/\Fr m ts.heap m1 iT.heap/\O6 B m m1
theorem vZ.pick{ps ts}(hR:vZ X P A m ps ts)(live):vZ X P A m { ps with env:=jB live ps.env } { ts with env:=Tw.pick live ts.env }:=
 ⟨hR.heap,hR.llen,hR.loc,VD hR.env live⟩
theorem SR.pick{fl ps ts}(hS:SR X P A W fl m ps ts)(live):SR X P A W fl m { ps with env:=jB live ps.env } { ts with env:=Tw.pick live ts.env }:=⟨hS.st.pick live,hS.own,hS.ws,hS.fl⟩
theorem SR.head{fl ps ts}(hS:SR X P A W fl m ps ts)(live):SR X P A W fl m (iq X live ps) (kJ live ts):=by
 have h1:=hS.pick live;have ht:=afO h1.st.env;refine⟨⟨h1.st.heap,?_,fun k cs hk=>?_,h1.st.env⟩,h1.own,h1.ws,h1.fl⟩
 .simp only[iq,kJ,a4w];have:=h1.st.llen;simp only at this ht;omega
 simp only[iq,kJ]at hk ⊢;rw[a5G]at hk;split at hk
 .rename_i aQ;obtain⟨cs',g1,g2⟩:=h1.st.loc k cs hk;refine⟨cs',?_,g2⟩;rw[a5G,a18 (by simp only at ht;omega)];exact g1
 cases hk
theorem VI{g}:∀{k j} {s} {r},iter g k s=some r->k<=j->iter g j s=some r
 | 0,_,s,r,h,_=>by simp[iter]at h
 |k+1,j,s,r,h,hj=>by
  obtain⟨j,rfl⟩:∃i,j=i+1:=⟨j-1,by omega⟩;simp only[iter]at h ⊢;split at h
  .rename_i s1 hs;exact VI h (by omega)
  rename_i hn;exact h
section
variable{L f:Nat}{iF:Bool}{nt B:Nat}
theorem NP(hX:bW X P){c A W fl m ps ts k}(hS:SR X P A W fl m ps ts):∀{an},(zC X (dR X P T call L f iF nt B) B c ps k an).Ends y ->∃e iT ps1 IY m1,exec P T call L f iF fl nt c ts=some (e,iT)/\(k e ps1 IY).Ends y/\SR X P A W fl m1 ps1 iT/\Fr m ts.heap m1 iT.heap/\O6 B m m1:=by
 intro an
 induction an with
 |a x r=>
  intro hk;cases x with
  |loop e s'=>
   simp only[zC]at hk;obtain⟨Ik,hk⟩:=hk;obtain⟨iT,m1,h1,h2,h3,h4⟩:=Ik A W fl m ts hS;exact⟨_,iT,_,_,m1,h1,hk,h2,h3,h4⟩
  |lg gs e s'=>
   simp only[zC]at hk;split at hk
   .rename_i hgs;obtain⟨Ik,hk⟩:=hk;obtain⟨m0,e1,e2,e3⟩:=nU hX hgs A W fl m ts hS;obtain⟨iT,m1,h1,h2,h3,h4⟩:=Ik A W fl m0 ts e1;exact⟨_,iT,_,_,m1,h1,hk,h2,e2.trans h3,e3.trans h4⟩
   .exact hk.elim
  |_=>simp only[zC]at hk;exact hk.elim
 |z c' a b iha ihb=>
  intro hk;simp only[zC]at hk;rcases hk with⟨_,hk⟩|⟨_,hk⟩
  .exact iha hk
  .exact ihb hk
 |_=>intro hk;simp only[zC]at hk;exact hk.elim
theorem wM(hX:bW X P)(hO:jR X P call fU):∀(c) {A W} {fl} {m} {ps} {ts} {an} {k},SR X P A W fl m ps ts->(jW X P T fU (dI X P call) (dR X P T call L f iF nt B) B L f iF nt c ps an k).Ends y ->∃e iT ps1 IY m1,exec P T call L f iF fl nt c ts=some (e,iT)/\(k e ps1 IY).Ends y/\SR X P A W fl m1 ps1 iT/\Fr m ts.heap m1 iT.heap/\O6 B m m1:=by
 intro c
 induction c with
 |skip=>intro A W fl m ps ts an k hS hk;exact⟨.norm,ts,ps,an,m,rfl,hk,hS,.refl,.refl⟩
 |label=>intro A W fl m ps ts an k hS hk;exact⟨.norm,ts,ps,an,m,rfl,hk,hS,.refl,.refl⟩
 |exit id=>intro A W fl m ps ts an k hS hk;exact⟨.exit id,ts,ps,an,m,rfl,hk,hS,.refl,.refl⟩
 |ret=>intro A W fl m ps ts an k hS hk;exact⟨.ret,ts,ps,an,m,rfl,hk,hS,.refl,.refl⟩
 |region id ops draw=>
  intro A W fl m ps ts an k hS hk;simp only[jW]at hk;obtain⟨iT,is,pis,ps1,Nl,m1,g1,hk,g3,g4,g5,g6,g7⟩:=a0E hX hO hS hk;have fin:∀{an2:PT X.Γ},(!draw||(oq ops.toList&&Cc is (nO ops.toList)))=true->(k .norm { ps1 with env:=jB (T.iJ f id) ps1.env } an2).Ends y->∃e iT ps1 IY m1,exec P T call L f iF fl nt (.region id ops draw) ts=some (e,iT)/\(k e ps1 IY).Ends y/\SR X P A W fl m1 ps1 iT/\Fr m ts.heap m1 iT.heap/\O6 B m m1:=by intro an2 hc hk;exact⟨.norm,{ iT with env:=Tw.pick (T.iJ f id) iT.env },_,an2,m1,by simp only[exec,g1,hc,a2r],hk,g3.pick _,g4,g5.b⟩
  cases draw with
  |false=>exact fin rfl hk
  |true=>
   simp only at hk;split at hk
   .rename_i r;split at hk
    .rename_i Gx;obtain⟨vH,hk⟩:=hk;refine fin ?_ hk;rw[vH];simp only[aac,agY,aei];refine U2 (fun t ht=>?_) fun q hq=>by rw[g7];exact aga q hq
     have key:∀{ps:List PI} {ts:List zl} {m:List MB} {h:List HB},IRs m h ps ts->(ps.all fun i=>i.i.ws.isEmpty&&!i.wall)=true->∀t∈ts,t.ws=[]:=by
      intro ps ts m h hI
      induction hI with
      |nil=>intro _ t ht;cases ht
      |cons _ _ i1 _ _ _ _ ih=>
       intro ha t ht;simp only[aco,a2K,List.isEmpty_iff,a9c]at ha;rcases a1G.1 ht with rfl|ht
       .refine a6S.2 fun x hx=>?_;cases x with
        |l j=>have:=i1.wl j hx;rw[ha.1.1]at this;cases this
        |h b=>
         rcases i1.wh b hx with⟨i,h1,_⟩|⟨h1,_⟩
         .rw[ha.1.1]at h1;cases h1
         .rw[ha.1.2]at h1;cases h1
       .exact ih ha.2 t ht
     exact key g6 Gx t ht
    .exact hk.elim
   .split at hk
    .rename_i hc;simp only[a2K]at hc;refine fin ?_ hk;rw[hc.1,a7G g6 ag9 hc.2];rfl
    .exact hk.elim
 |seq a b iha ihb=>
  intro A W fl m ps ts an k hS hk;simp only[jW]at hk;obtain⟨e,iT,ps1,Nl,m1,h1,hk,h3,h4,h5⟩:=iha hS hk;cases e with
  |norm=>
   obtain⟨e2,ts2,Dq,an2,m2,g1,g2,g3,g4,g5⟩:=ihb h3 hk;exact⟨e2,ts2,Dq,an2,m2,by simp only[exec,h1,g1],g2,g3,h4.trans g4,h5.trans g5⟩
  |exit id=>exact⟨_,iT,ps1,Nl,m1,by simp only[exec,h1],hk,h3,h4,h5⟩
  |ret=>exact⟨_,iT,ps1,Nl,m1,by simp only[exec,h1],hk,h3,h4,h5⟩
 |cond c a b iha ihb=>
  intro A W fl m ps ts an k hS hk;simp only[jW]at hk;split at hk
  .rename_i u hu;obtain⟨tu,h1,h2⟩:=XO hS.st.env hu;obtain⟨t,IY,rfl,hk⟩:=a0x hk h2;cases t with
   |true=>
    obtain⟨e,iT,ps1,Nl,m1,g1,g2,g3,g4,g5⟩:=iha (hS.CW h1) hk;exact⟨e,iT,ps1,Nl,m1,by simp only[exec,h1,g1],g2,g3,g4,g5⟩
   |false=>
    obtain⟨e,iT,ps1,Nl,m1,g1,g2,g3,g4,g5⟩:=ihb (hS.CW h1) hk;exact⟨e,iT,ps1,Nl,m1,by simp only[exec,h1,g1],g2,g3,g4,g5⟩
  .exact hk.elim
 |block id b ih=>
  intro A W fl m ps ts an k hS hk;simp only[jW]at hk;obtain⟨e,iT,ps1,Nl,m1,h1,hk,h3,h4,h5⟩:=ih hS hk;cases e with
  |norm=>exact⟨_,iT,ps1,Nl,m1,by simp only[exec,h1],hk,h3,h4,h5⟩
  |ret=>exact⟨_,iT,ps1,Nl,m1,by simp only[exec,h1],hk,h3,h4,h5⟩
  |exit i=>exact⟨_,iT,ps1,Nl,m1,by simp only[exec,h1],hk,h3,h4,h5⟩
 |scope b ih=>
  intro A W fl m ps ts an k hS hk;simp only[jW]at hk;obtain⟨e,iT,ps1,Nl,m1,h1,hk,h3,h4,h5⟩:=ih hS hk;exact⟨e,iT,ps1,Nl,m1,by simp only[exec,h1],hk,h3,h4,h5⟩
 |loop b ih=>
  intro A W fl m ps ts an k hS hk;simp only[jW]at hk;split at hk
  .rename_i j r;obtain⟨hj,hk⟩:=hk;have go:∀(j:Nat) {m:List MB} {ps:bT X.Γ} {ts:St} {an:PT X.Γ},SR X P A W fl m ps ts->(Vz X (fun s an k=>jW X P T fU (dI X P call) (dR X P T call L f iF nt B) B L f iF nt b (iq X (T.eY f (dW b)) s) an k) j ps an k).Ends y ->
     ∃e iT ps1 IY m1,iter (fun s=>exec P T call L f iF fl nt b (kJ (T.eY f (dW b)) s)) j ts=some (e,iT)/\(k e ps1 IY).Ends y/\SR X P A W fl m1 ps1 iT/\Fr m ts.heap m1 iT.heap/\O6 B m m1:=by
    intro j
    induction j with
    |zero=>intro m ps ts an _ hk;exact hk.elim
    |succ j ihj=>
     intro m ps ts an hS hk;simp only[Vz]at hk;obtain⟨e,iT,ps1,Nl,m1,h1,hk,h3,h4,h5⟩:=ih (hS.head _) hk;cases e with
     |norm=>
      obtain⟨e2,ts2,Dq,an2,m2,g1,g2,g3,g4,g5⟩:=ihj h3 hk;exact⟨e2,ts2,Dq,an2,m2,by simp only[iter,h1,g1],g2,g3,h4.trans g4,h5.trans g5⟩
     |exit id=>exact⟨_,iT,ps1,Nl,m1,by simp only[iter,h1],hk,h3,h4,h5⟩
     |ret=>exact⟨_,iT,ps1,Nl,m1,by simp only[iter,h1],hk,h3,h4,h5⟩
   obtain⟨e,iT,ps1,Nl,m1,h1,h2,h3,h4,h5⟩:=go j hS hk;exact⟨e,iT,ps1,Nl,m1,by simp only[exec];exact VI h1 hj,h2,h3,h4,h5⟩
  .exact NP hX hS hk
 |rangeFunc g qs vU body iha ihb=>
  intro A W fl m ps ts an k hS hk;simp only[jW]at hk;exact NP hX hS hk
 |_=>intro A W fl m ps ts an k hS hk;simp only[jW]at hk;exact hk.elim
end
end
section
variable{X:ny}{P:LI1}{T:vw}{A W:Nat->Prop}{m m':List MB}
variable{call:dN}{fU:fV X.Γ}{L:Nat}
def D9(P:LI1)(f:Nat):Nat:=match UR P f with
 |some t=>t.nt
 |none=>0
abbrev CB(X:ny)(P:LI1)(T:vw)(call:dN)(L f B:Nat):a2h X.Γ:=dR X P T call L f false (D9 P f) B
theorem O7{A h}:∀{k} {vs} {xs:List TV},bZ X P A m h vs xs->kG X P A m h (lM X k vs) (oz k xs)
 |k,[],xs,hv=>by rw[hv.inv0];exact .nil
 |k,v::vs,xs,hv=>by obtain⟨x,r,rfl,h1,h2⟩:=hv.inv;exact .cons h1 (O7 h2)
theorem JY(hX:bW X P){ps ts}(hR:vZ X P A m ps ts):∀{rs} {vs},Gg X P ps rs=some vs->∃ws,yJ P ts rs=some ws/\bZ X P (AA A m) m ts.heap vs ws
 | [],vs,h=>by simp only[Gg,a08]at h;subst h;exact⟨[],rfl,.nil⟩
 |r::rs,vs,h=>by
  simp only[Gg]at h;split at h
  rotate_left
  .cases h
  rename_i v vs' h1 h2;cases h;obtain⟨ws,g1,g2⟩:=JY hX hR h2;have:∃w,a6a P ts r=some w/\VR X P (AA A m) m ts.heap v w:=by
   unfold ajO at h1;unfold a6a;split at h1
   .rename_i t;split at h1
    .rename_i u hu;cases h1;obtain⟨ev,e1,e2⟩:=pV hR.env hu;obtain⟨w,rfl,e3⟩:=fZ e2;exact⟨w,by simp only[e1],II e3⟩
    cases h1
   rename_i a t;split at h1
   .rename_i pa ha;simp only[a0z]at h1;obtain⟨⟨u,i⟩,e1,rfl⟩:=h1;obtain⟨ev,e2,e3⟩:=pV hR.env ha;obtain⟨w,ti,e4,e5,_,_⟩:=I9 hX hR e3 e1;exact⟨w,by simp only[e2,e4,a1t],e5⟩
   cases h1
  obtain⟨w,g3,g4⟩:=this;exact⟨w::ws,by simp only[yJ,g3,g1],.cons g4 g2⟩
theorem VJ{A h vs ws}(hv:bZ X P A m h vs ws):VR X P A m h (a0r X vs) (one ws):=by
 match vs,ws,hv with
 | [],ws,hv=>rw[hv.inv0];exact .dK rfl (by simp)
 | [v],ws,hv=>
  obtain⟨x,r,rfl,h1,h2⟩:=hv.inv;have:=h2.inv0;subst this;exact h1
 |v::u::vs,ws,hv=>
  obtain⟨x,r,rfl,h1,h2⟩:=hv.inv;obtain⟨z,r,rfl,h3,h4⟩:=h2.inv;exact .dK hv.1 hv.2
theorem a7J(hX:bW X P)(hO:jR X P call fU){f vs H an v H1}(hk:(DL X P T fU (dI X P call) (CB X P T call L f H.length) L f vs H an).Ends (v,H1)){h} (hr:HR X P A m H h) {xs} (hv:bZ X P (AA A m) m h vs xs):∃w h1 ws m1,Nj P T call L f xs h=some (w,h1,ws)/\HR X P A m1 H1 h1/\VR X P (AA A m1) m1 h1 v w/\Fr m h m1 h1/\O6 H.length m m1/\(∀b∈ws,b∈aZ m)/\¬(T.exts.contains f||T.dem.contains f)=true:=by
 unfold DL at hk;split at hk
 .rename_i t ht;have hnx:¬(T.exts.contains f||T.dem.contains f)=true:=fun hx=>by rw[a18 hx]at ht;cases ht
  rw[a0U hnx]at ht;have hnt:D9 P f=t.nt:=by unfold D9;rw[ht]
  have hS:SR X P A (fun b=>b∈aZ m) h.length m ⟨lM X 0 vs,[],H⟩ ⟨oz 0 xs,[],h,[]⟩:=
   ⟨⟨hr,rfl,fun k cs hk=>by simp at hk,O7 hv⟩,fun b hb=>.inl hb,fun b hb=>(by cases hb),a1p _⟩
  rw[show CB X P T call L f H.length=dR X P T call L f false t.nt H.length by unfold CB;rw[hnt]]at hk;obtain⟨e,iT,ps1,Nl,m1,h1,hk,h3,h4,h5⟩:=wM hX hO t.body hS hk;have fin:∀{e:Ex},exec P T call L f false h.length t.nt t.body ⟨oz 0 xs,[],h,[]⟩=some (e,iT)->(e=.norm\/e=.ret)->∀{us:List (PV X.Γ)},Gg X P ps1 t.results=some us->(a0r X us,ps1.heap)=(v,H1)->∃w h1 ws m1,Nj P T call L f xs h=some (w,h1,ws)/\HR X P A m1 H1 h1/\VR X P (AA A m1) m1 h1 v w/\Fr m h m1 h1/\O6 H.length m m1/\(∀b∈ws,b∈aZ m)/\¬(T.exts.contains f||T.dem.contains f)=true:=by intro e he hee us hus hv;cases hv;obtain⟨ws,g1,g2⟩:=JY hX h3.st hus;refine⟨one ws,iT.heap,iT.ws,m1,?_,h3.st.heap,VJ g2,h4,h5,h3.ws,hnx⟩;unfold Nj;rcases hee with rfl|rfl<;>simp only[ht,he,g1]
  cases e with
  |exit id=>exact hk.elim
  |norm=>
   cases Nl with
   |n=>
    simp only at hk;split at hk
    .rename_i us hus;exact fin h1 (.inl rfl) hus hk
    .exact hk.elim
   |_=>exact hk.elim
  |ret=>
   cases Nl with
   |n=>
    simp only at hk;split at hk
    .rename_i us hus;exact fin h1 (.inr rfl) hus hk
    .exact hk.elim
   |_=>exact hk.elim
 .exact hk.elim
theorem a0F(hX:bW X P){n f}(hn:0<n)(hO:jR X P (kR P T L (n-1)) fU){vs an v ext}(hk:(DL X P T fU (dI X P (kR P T L (n-1))) (CB X P T (kR P T L (n-1)) L f 0) L f vs [] an).Ends (v,ext)):nN X P (kR P T L n) f vs v ext:=by
 intro A h first args cap G5 hv
 have hr:HR X P A [] [] h:=⟨rfl,fun i b hb=>by simp at hb,by simp[aZ],G5,fun b hb=>by simp[aZ]at hb⟩;obtain⟨w,h1,ws,m1,g1,g2,g3,g4,_,g6,g7⟩:=a7J hX hO (H:=[]) hk hr (hv.mono fun b hb=>⟨hb,by simp[aZ]⟩);obtain⟨n,rfl⟩:∃j,n=j+1:=⟨n-1,by omega⟩;have:ws=[]:=a6S.2 fun x hx=>by have:=g6 x hx;simp[aZ]at this
 subst this;exact⟨w,h1,m1,by simp only[kR];simp only[aag,adk]at g7;rw[a0U g7.1,a0U g7.2];exact g1,g2,g3,g4⟩
theorem a7K(hX:bW X P){n f}(hn:0<n)(hO:jR X P (kR P T L (n-1)) fU){first xs cap H H1 an v}(hk:(DL X P T fU (dI X P (kR P T L (n-1))) (CB X P T (kR P T L (n-1)) L f H.length) L f (first++xs++cap) H an).Ends (v,H1)):dI X P (kR P T L n) (.fn f first cap) xs H v H1:=by
 intro A m h tf rJ hr hf hx;obtain⟨n,rfl⟩:∃j,n=j+1:=⟨n-1,by omega⟩;cases hf with
 |gone hi _ _=>simp[bC]at hi
 |fn p1 p2 p3 p4=>
  obtain⟨w,h1,ws,m1,g1,g2,g3,g4,g5,g6,g7⟩:=a7J hX hO hk hr ((bZ.app ⟨p1,p2⟩ hx).app ⟨p3,p4⟩);refine⟨w,h1,ws,m1,by simp only[kR];simp only[aag,adk]at g7;rw[a0U g7.1,a0U g7.2];exact g1,g2,g3,g4,fun i mb hi=>g5 i mb ?_ hi,g6⟩;rw[<-hr.len];exact(a0w.1 hi).1
def agi:Ex->bT X.Γ->PT X.Γ->OT (Ex×bT X.Γ):=fun e s an=>match an with
 |.n=>.ret (e,s)
 |_=>.bad
section
variable{f nt B:Nat}{iF:Bool}
theorem Y3(hX:bW X P)(hO:jR X P call fU){c ps an e ps1}(hk:(jW X P T fU (dI X P call) (dR X P T call L f iF nt B) B L f iF nt c ps an agi).Ends (e,ps1)):dR X P T call L f iF nt B c ps e ps1:=by
 intro A W fl m ts hS;obtain⟨e1,iT,Dq,Nl,m1,h1,h2,h3,h4,h5⟩:=wM hX hO c hS hk;cases Nl with
 |n=>cases h2;exact⟨iT,m1,h1,h3,h4,h5⟩
 |_=>exact h2.elim
end
end
def OT.map{ρ σ}(f:ρ->σ):OT ρ->OT σ
 |.bad=>.bad
 |.ret r=>.ret (f r)
 |.o p r=>.o p (r.map f)
 |.br c t e=>.br c (t.map f) (e.map f)
theorem OT.IZ{ρ σ}{f:ρ->σ}{y}:∀{o:OT ρ},(o.map f).Ends y->∃r,o.Ends r/\f r=y
 |.bad,h=>h.elim
 |.ret r,h=>⟨r,rfl,h⟩
 |.o p r,h=>by obtain⟨x,h1,h2⟩:=OT.IZ h.2;exact⟨x,⟨h.1,h1⟩,h2⟩
 |.br c t e,h=>by
  rcases h with⟨h0,h⟩|⟨h0,h⟩
  .obtain⟨x,h1,h2⟩:=OT.IZ h;exact⟨x,.inl ⟨h0,h1⟩,h2⟩
  obtain⟨x,h1,h2⟩:=OT.IZ h;exact⟨x,.inr ⟨h0,h1⟩,h2⟩
inductive Fp{Γ:Nat->Type}{ρ:Type}(R:ρ->Prop):PT Γ->OT ρ->Prop where
 |r {v:ρ} (h:R v):Fp R .n (.ret v)
 |g {v:ρ} (gs:List G) (h:R v):Fp R (.a (.lg gs .norm ⟨[],[],[]⟩) .n) (.ret v)
 |o {p:Prop} {an:PT Γ} {o:OT ρ} (h:p) (f:Fp R an o):Fp R an (.o p o)
 |s {c:Bool} {a b:PT Γ} {x y:OT ρ} (f:c=true->Fp R a x) (g:c=false->Fp R b y):Fp R (.s a b) (.br c x y)
 |z {c:Bool} {a b:PT Γ} {x y:OT ρ} (f:c=true->Fp R a x) (g:c=false->Fp R b y):Fp R (.z c a b) (.br c x y)
 |b {c t:Bool} {an:PT Γ} {o:OT ρ} (h:c=t) (f:Fp R an o):Fp R (.a (.br t) an) (.o (c=t) o)
 |q {p:Prop} {an:PT Γ} {o:OT ρ} (w:TV) (h:p) (f:Fp R an o):Fp R (.a (.rd w) an) (.o p o)
 |c {p:Prop} {an:PT Γ} {o:OT ρ} (v:PV Γ) (H:List (PB Γ)) (h:p) (f:Fp R an o):Fp R (.a (.call v H) an) (.o p o)
 |kf {p:Prop} {an:PT Γ} {o:OT ρ} (ks:List Nat) (v:PV Γ) (H:List (PB Γ)) (h:p) (f:Fp R an o):Fp R (.a (.fr ks v H) an) (.o p o)
 |kg {p:Prop} {an:PT Γ} {o:OT ρ} (ks rs:List Nat) (v:PV Γ) (H:List (PB Γ)) (h:p) (f:Fp R an o):Fp R (.a (.PL ks rs v H) an) (.o p o)
 |l {p:Prop} {an:PT Γ} {o:OT ρ} (gs:List G) (e:Ex) (s:bT Γ) (h:p) (f:Fp R an o):Fp R (.a (.lg gs e s) an) (.o p o)
 |f {p:Prop} {an:PT Γ} {o:OT ρ} (e:Ex) (s:bT Γ) (h:p) (f:Fp R an o):Fp R (.a (.loop e s) an) (.o p o)
 |m {p:Prop} {an:PT Γ} {o:OT ρ} (k:Nat) (h:p) (f:Fp R an o):Fp R (.l k an) (.o p o)
 |a {an:PT Γ} {o:OT ρ} (x:PA Γ) (f:Fp R an o):Fp R (.a x an) o
theorem Fp.aK{Γ ρ}{R:ρ->Prop}{an:PT Γ}{o}(h:Fp R an o):∃y,o.Ends y/\R y:=by
 induction h with
 |r h=>exact⟨_,rfl,h⟩
 |g _ h=>exact⟨_,rfl,h⟩
 |s _ _ i1 i2=>
  rename_i c _ _ _ _ _ _;cases c with
  |true=>obtain⟨y,h1,h2⟩:=i1 rfl;exact⟨y,.inl ⟨rfl,h1⟩,h2⟩
  |false=>obtain⟨y,h1,h2⟩:=i2 rfl;exact⟨y,.inr ⟨rfl,h1⟩,h2⟩
 |z _ _ i1 i2=>
  rename_i c _ _ _ _ _ _;cases c with
  |true=>obtain⟨y,h1,h2⟩:=i1 rfl;exact⟨y,.inl ⟨rfl,h1⟩,h2⟩
  |false=>obtain⟨y,h1,h2⟩:=i2 rfl;exact⟨y,.inr ⟨rfl,h1⟩,h2⟩
 |a _ _ i=>exact i
 |o h _ i=>obtain⟨y,h1,h2⟩:=i;exact⟨y,⟨h,h1⟩,h2⟩
 |b h _ i=>obtain⟨y,h1,h2⟩:=i;exact⟨y,⟨h,h1⟩,h2⟩
 |q _ h _ i=>obtain⟨y,h1,h2⟩:=i;exact⟨y,⟨h,h1⟩,h2⟩
 |c _ _ h _ i=>obtain⟨y,h1,h2⟩:=i;exact⟨y,⟨h,h1⟩,h2⟩
 |kg _ _ _ _ h _ i=>obtain⟨y,h1,h2⟩:=i;exact⟨y,⟨h,h1⟩,h2⟩
 |kf _ _ _ h _ i=>obtain⟨y,h1,h2⟩:=i;exact⟨y,⟨h,h1⟩,h2⟩
 |l _ _ _ h _ i=>obtain⟨y,h1,h2⟩:=i;exact⟨y,⟨h,h1⟩,h2⟩
 |f _ _ h _ i=>obtain⟨y,h1,h2⟩:=i;exact⟨y,⟨h,h1⟩,h2⟩
 |m _ h _ i=>obtain⟨y,h1,h2⟩:=i;exact⟨y,⟨h,h1⟩,h2⟩
section
variable{X:ny}{P:LI1}{T:vw}{L:Nat}
def frz(r:PV X.Γ×List (PB X.Γ)):Option (PV X.Γ):=view r.2 r.1
theorem Y4(hX:bW X P){call f vs v w ext}(hc:nN X P call f vs v ext)(hw:view ext v=some w):nN X P call f vs w []:=by
 intro A h first args cap G5 hv
 obtain⟨x,h',m',c1,c2,c3,c4⟩:=hc A h first args cap G5 hv
 refine⟨x,h',[],c1,⟨rfl,fun i b hb=>by simp at hb,by simp[aZ],c2.up,fun b hb=>by simp[aZ]at hb⟩,?_,?_⟩
 .refine(VE (m':=[]) hX c2 c3 hw (is:=lG v) fun i hi=>hi).mono fun b hb=>⟨?_,by simp[aZ]⟩;rcases hb with hb|⟨i,mb,h1,h2,h3⟩
  .exact hb.1
  exact c2.DR b (aY h2 h3)
 exact⟨c4.len,fun b hb hn=>c4.same b hb hn,fun b hb=>by simp[aZ]at hb,c4.grow⟩
def agj(hd:bT X.Γ->bT X.Γ)(B:Nat):Ex->bT X.Γ->PT X.Γ->OT (Ex×bT X.Γ):=fun e s an=>match an with
 |.n=>match e with
  |.norm=>.ret (.norm,hd s)
  |e=>.ret (e,s)
 |.a (.lg gs _ _) .n=>match e with
  |.norm=>match lW B gs (hd s)with
   |some s=>.ret (.norm,s)
   |none=>.bad
  |e=>match lW B gs s with
   |some s=>.ret (e,s)
   |none=>.bad
 |_=>.bad
section
variable{f nt B:Nat}{iF:Bool}{call:dN}{fU:fV X.Γ}
def dO(X:ny)(P:LI1)(T:vw)(call:dN)(L f:Nat)(iF:Bool)(nt B:Nat)(b:Code)(n:Nat)(ps:bT X.Γ)(e:Ex)(ps1:bT X.Γ):Prop:=
 ∀(A W:Nat->Prop) (fl:Nat) (m:List MB) (ts:St),SR X P A W fl m ps (kJ (T.eY f (dW b)) ts)->∃iT m1,iter (fun s=>exec P T call L f iF fl nt b (kJ (T.eY f (dW b)) s)) n ts=some (e,iT)/\SR X P A W fl m1 ps1 iT/\Fr m ts.heap m1 iT.heap/\O6 B m m1
theorem VK{b n k ps e ps1}(h:dO X P T call L f iF nt B b n ps e ps1)(hk:n<=k):dO X P T call L f iF nt B b k ps e ps1:=fun A W fl m ts hS=>by obtain⟨iT,m1,h1,h2⟩:=h A W fl m ts hS;exact⟨iT,m1,VI h1 hk,h2⟩
theorem Aa{b n s0 ps e ps1}(h:dO X P T call L f iF nt B b n ps e ps1)(h0:iq X (T.eY f (dW b)) s0=ps)(hn:n<=L):dR X P T call L f iF nt B (.loop b) s0 e ps1:=fun A W fl m ts hS=>by obtain⟨iT,m1,h1,h2⟩:=VK h hn A W fl m ts (by rw[<-h0];exact hS.head _);exact⟨iT,m1,by simp only[exec];exact h1,h2⟩
def Rnd(X:ny)(P:LI1)(T:vw)(call:dN)(L f:Nat)(iF:Bool)(nt B:Nat)(b:Code)(n:Nat)(e:Ex)(s:bT X.Γ):Ex×bT X.Γ->Prop
 |(.norm,s')=>dO X P T call L f iF nt B b n s' e s
 |(e',s')=>e'=e/\s'=s
theorem a2x{b n e e' s s'}(hn:e'≠.norm)(h:Rnd X P T call L f iF nt B b n e s (e',s')):e'=e/\s'=s:=by
 cases e' with
 |norm=>exact absurd rfl hn
 |exit id=>exact h
 |ret=>exact h
theorem round(hX:bW X P)(hO:jR X P call fU){b n ps an e s o}(hk:jW X P T fU (dI X P call) (dR X P T call L f iF nt B) B L f iF nt b ps an (agj (iq X (T.eY f (dW b))) B)=o) (ht:Fp (Rnd X P T call L f iF nt B b n e s) an o):dO X P T call L f iF nt B b (n+1) ps e s:=by
 obtain⟨⟨e',s'⟩,h1,h2⟩:=ht.aK;rw[<-hk]at h1;intro A W fl m ts hS;obtain⟨e1,iT,Dq,Nl,m1,g1,g2,g3,g4,g5⟩:=wM hX hO b hS h1;have out:∀{e1:Ex} {m2:List MB},exec P T call L f iF fl nt b (kJ (T.eY f (dW b)) ts)=some (e1,iT)->e1≠.norm->e1=e/\s'=s->SR X P A W fl m2 s' iT->Fr m ts.heap m2 iT.heap->O6 B m m2->∃iT m1,iter (fun s=>exec P T call L f iF fl nt b (kJ (T.eY f (dW b)) s)) (n+1) ts=some (e,iT)/\SR X P A W fl m1 s iT/\Fr m ts.heap m1 iT.heap/\O6 B m m1:=by
  intro e1 m2 ge hn hh q1 q2 q3;obtain⟨rfl,rfl⟩:=hh;refine⟨iT,m2,?_,q1,q2,q3⟩;cases e1 with
  |norm=>exact absurd rfl hn
  |exit id=>simp only[iter,ge]
  |ret=>simp only[iter,ge]
 have on:∀{m2:List MB},exec P T call L f iF fl nt b (kJ (T.eY f (dW b)) ts)=some (.norm,iT)->SR X P A W fl m2 s' (kJ (T.eY f (dW b)) iT)->Fr m ts.heap m2 iT.heap->O6 B m m2->dO X P T call L f iF nt B b n s' e s->∃iT m1,iter (fun s=>exec P T call L f iF fl nt b (kJ (T.eY f (dW b)) s)) (n+1) ts=some (e,iT)/\SR X P A W fl m1 s iT/\Fr m ts.heap m1 iT.heap/\O6 B m m1:=by intro m2 ge q1 q2 q3 hr;obtain⟨ts2,m3,r1,r2,r3,r4⟩:=hr A W fl m2 iT q1;exact⟨ts2,m3,by simp only[iter,ge,r1],r2,q2.trans r3,q3.trans r4⟩
 unfold agj at g2;split at g2
 .split at g2
  .cases g2;exact on g1 (g3.head _) g4 g5 h2
  .rename_i e1 iI;cases g2;exact out g1 (fun h=>iI h) (a2x (fun h=>iI h) h2) g3 g4 g5
 .split at g2
  .split at g2
   .rename_i hg;cases g2;obtain⟨m2,q1,q2,q3⟩:=nU hX hg _ _ _ _ _ (g3.head _);exact on g1 q1 (g4.trans q2) (g5.trans q3) h2
   .exact g2.elim
  .rename_i e1 iI;split at g2
   .rename_i hg;cases g2;obtain⟨m2,q1,q2,q3⟩:=nU hX hg _ _ _ _ _ g3;exact out g1 (fun h=>iI h) (a2x (fun h=>iI h) h2) q1 (g4.trans q2) (g5.trans q3)
   .exact g2.elim
 .exact g2.elim
end
structure Ar(X:ny)(P:LI1)(α:Type) where
 put:α->PV X.Γ
 get:PV X.Γ->Option α
 ok:∀{v:PV X.Γ} {a:α},get v=some a->∀{A:Nat->Prop} {m:List MB} {h:List HB} {x:TV},VR X P A m h v x->VR X P A m h (put a) x
structure ArL(X:ny)(P:LI1)(α:Type) where
 put:α->List (PV X.Γ)
 get:List (PV X.Γ)->Option α
 ok:∀{v:List (PV X.Γ)} {a:α},get v=some a->∀{A:Nat->Prop} {m:List MB} {h:List HB} {x:List TV},bZ X P A m h v x->bZ X P A m h (put a) x
def agk(k:IntKind):Ar X P Int where
 put n:=.int k n
 get v:=match v with
  |.int k' n=>if k'=k then some n else none
  |_=>none
 ok:=by
  intro v a hg A m h x hv;split at hg
  .split at hg
   .rename_i e;subst e;cases hg;exact hv
   .cases hg
  .cases hg
def akc:Ar X P Bool where
 put n:=.bool n
 get v:=match v with
  |.bool n=>some n
  |.lit n=>some n
  |_=>none
 ok:=by
  intro v a hg A m h x hv;split at hg
  .cases hg;exact hv
  .cases hg;exact II hv
  .cases hg
theorem VR.less{A m h t l fu x}(hv:VR X P A m h (.dw t l fu) x):VR X P A m h (.dw t l false) x:=by
 cases hv with
 |gone hi _ _=>simp[bC]at hi
 |qx=>exact .qx
 |dw a c c2 s z o k f e r=>exact .dw a c c2 s z o k (fun h=>by cases h) e r
def a7L(t:Nat):Ar X P (List (X.Γ t)) where
 put l:=.dw t l false
 get v:=match v with
  |.dw t' l _=>Cj t t' l
  |.nil .aO=>some []
  |_=>none
 ok:=by
  intro v a hg A m h x hv;split at hg
  .obtain⟨rfl,rfl⟩:=sG hg;exact hv.less
  .cases hg;cases hv with
   |nil=>exact .qx
   |gone hi _ _=>simp[bC]at hi
  .cases hg
def akd(hX:bW X P)(t:Nat):Ar X P (X.Γ t) where
 put a:=.agg (X.enc t a)
 get v:=match v with
  |.agg cs=>X.dec t cs
  |_=>none
 ok:=by
  intro v a hg A m h x hv;split at hg
  .cases hv with
   |gone hi _ _=>simp[bC]at hi
   |agg h1 h2=>obtain⟨h3,h4⟩:=hX.dec hg ⟨h1,h2⟩;exact .agg h3 h4
  .cases hg
def fnA(f:FuncId):Ar X P Unit where
 put _:=.fn f [] []
 get v:=match v with
  |.fn g [] []=>if g=f then some ()else none
  |_=>none
 ok:=by
  intro v a hg A m h x hv;split at hg
  .split at hg
   .rename_i e;subst e;exact hv
   .cases hg
  .cases hg
def agl:ArL X P Unit where
 put _:=[]
 get v:=match v with
  | []=>some ()
  |_=>none
 ok:=by
  intro v a hg A m h x hv;split at hg
  .exact hv
  .cases hg
def Nq{α β:Type}(a:Ar X P α)(l:ArL X P β):ArL X P (α×β) where
 put x:=a.put x.1::l.put x.2
 get v:=match v with
  |v::vs=>match a.get v,l.get vs with
   |some x,some y=>some (x,y)
   |_,_=>none
  |_=>none
 ok:=by
  intro v x hg A m h xs hv;split at hg
  .split at hg
   .rename_i e1 e2;cases hg;obtain⟨y,r,rfl,h1,h2⟩:=hv.inv;exact .cons (a.ok e1 h1) (l.ok e2 h2)
   .cases hg
  .cases hg
def ake{α:Type}(a:Ar X P α):ArL X P α where
 put x:=[a.put x]
 get v:=match v with
  | [v]=>a.get v
  |_=>none
 ok:=by
  intro v x hg A m h xs hv;split at hg
  .obtain⟨y,r,rfl,h1,h2⟩:=hv.inv;have:=h2.inv0;subst this;exact .cons (a.ok hg h1) .nil
  .cases hg
def dJ{α:Type}(l:ArL X P α):Ar X P α where
 put x:=.dK (l.put x)
 get v:=match v with
  |.dK cs=>l.get cs
  |_=>none
 ok:=by
  intro v x hg A m h xs hv;split at hg
  .cases hv with
   |gone hi _ _=>simp[bC]at hi
   |dK h1 h2=>obtain⟨h3,h4⟩:=l.ok hg ⟨h1,h2⟩;exact .dK h3 h4
  .cases hg
def a7M{α:Type}(l:ArL X P α):Ar X P α where
 put x:=.agg (l.put x)
 get v:=match v with
  |.agg cs=>l.get cs
  |_=>none
 ok:=by
  intro v x hg A m h xs hv;split at hg
  .cases hv with
   |gone hi _ _=>simp[bC]at hi
   |agg h1 h2=>obtain⟨h3,h4⟩:=l.ok hg ⟨h1,h2⟩;exact .agg h3 h4
  .cases hg
def agm{α β:Type}(a:Ar X P α)(f:α->β)(g:β->α)(hgf:∀x,g (f x)=x):Ar X P β where
 put x:=a.put (g x)
 get v:=match a.get v with
  |some x=>some (f x)
  |none=>none
 ok:=by
  intro v x hg A m h xs hv;split at hg
  .rename_i y hy;cases hg;rw[hgf];exact a.ok hy hv
  .cases hg
def Good(X:ny)(P:LI1)(T:vw)(L:Nat)(fU:fV X.Γ):Prop:=∃N,∀n,N<=n->jR X P (kR P T L n) fU
def abj:fV X.Γ:=fun _ _=>none
def bU{α β}(f:FuncId)(a:ArL X P α)(r:Ar X P β)(S:α->β)(pre:α->List Prop)(fU:fV X.Γ):fV X.Γ:=fun g vs=>
 match Nat.beq g f with
 |true=>match a.get vs with
  |some x=>some (r.put (S x),[],pre x)
  |none=>fU g vs
 |false=>fU g vs
theorem Good.nil:Good X P T L (abj (X:=X)):=⟨0,fun n _ f vs v ext ps h=>by cases h⟩
theorem Good.add{α β f a}{r:Ar X P β}{S}{pre:α->List Prop}{fU:fV X.Γ}(hg:Good X P T L fU)(hf:∀n,jR X P (kR P T L n) fU->∀x,(∀p∈pre x,p)->nN X P (kR P T L (n+1)) f (a.put x) (r.put (S x)) []):Good X P T L (bU f a r S pre fU):=by
 obtain⟨N,hN⟩:=hg;refine⟨N+1,fun n hn=>?_⟩;obtain⟨k,rfl⟩:∃k,n=k+1:=⟨n-1,by omega⟩;intro g vs v ext ps ho hp;unfold bU at ho;split at ho
 .rename_i e;have e:=aa6 e;subst e;split at ho
  .rename_i x hx;cases ho;intro A h first args cap G5 hv
   exact hf k (hN k (by omega)) x hp A h first args cap G5 (a.ok hx hv)
  .exact hN (k+1) (by omega) g vs v ext ps ho hp
 .exact hN (k+1) (by omega) g vs v ext ps ho hp
theorem Good.deep{α β f a}{r:Ar X P β}{S}{pre:α->List Prop}{fU:fV X.Γ}(d:Nat)(hg:Good X P T L fU)(hf:∀n,d<=n->(∀m,n-d<=m->jR X P (kR P T L m) fU)->∀x,(∀p∈pre x,p)->nN X P (kR P T L (n+1)) f (a.put x) (r.put (S x)) []):Good X P T L (bU f a r S pre fU):=by
 obtain⟨N,hN⟩:=hg;refine⟨N+d+1,fun n hn=>?_⟩;obtain⟨k,rfl⟩:∃k,n=k+1:=⟨n-1,by omega⟩;intro g vs v ext ps ho hp;unfold bU at ho;split at ho
 .rename_i e;have e:=aa6 e;subst e;split at ho
  .rename_i x hx;cases ho;intro A h first args cap G5 hv
   exact hf k (by omega) (fun m hm=>hN m (by omega)) x hp A h first args cap G5 (a.ok hx hv)
  .exact hN (k+1) (by omega) g vs v ext ps ho hp
 .exact hN (k+1) (by omega) g vs v ext ps ho hp
def Is{β}(r:Ar X P β)(s:β):Option (PV X.Γ)->Prop:=fun v=>v=some (r.put s)\/∃w,v=some w/\r.get w=some s
theorem akf{β}(hX:bW X P){n f fU}(hO:jR X P (kR P T L n) fU){vs an}{r:Ar X P β}{s o}(hk:(DL X P T fU (dI X P (kR P T L n)) (CB X P T (kR P T L n) L f 0) L f vs [] an).map frz=o) (ht:Fp (Is r s) an o):nN X P (kR P T L (n+1)) f vs (r.put s) []:=
 by
 obtain⟨v,h1,h2⟩:=ht.aK;rw[<-hk]at h1;obtain⟨⟨v,H⟩,h3,rfl⟩:=OT.IZ h1;rcases h2 with h2|⟨w,h2,h4⟩
 .exact Y4 hX (a0F hX (n:=n+1) (by omega) hO h3) h2
 .intro A h first args cap G5 hv
  obtain⟨x,h',m',c1,c2,c3,c4⟩:=Y4 hX (a0F hX (n:=n+1) (by omega) hO h3) h2 A h first args cap G5 hv
  exact⟨x,h',m',c1,c2,r.ok h4 c3,c4⟩
theorem Fp.rr{β}{r:Ar X P β}{s}:Fp (Is r s) (.n:PT X.Γ) (.ret (some (r.put s))):=.r (.inl rfl)
theorem Fp.rn{β}{r:Ar X P β}{s}(w)(h:r.get w=some s):Fp (Is r s) (.n:PT X.Γ) (.ret (some w)):=.r (.inr ⟨w,rfl,h⟩)
theorem Fp.ss{β}{r:Ar X P β}{c t e}{a b:PT X.Γ}{x y}(h1:Fp (Is r t) a x)(h2:Fp (Is r e) b y):Fp (Is r (if c=true then t else e)) (.s a b) (.br c x y):=
 .s (fun h=>by subst h;exact h1) (fun h=>by subst h;exact h2)
theorem Fp.sh{β}{r:Ar X P β}{c t e}{a b:PT X.Γ}{x y}(h1:c=true->Fp (Is r t) a x)(h2:c=false->Fp (Is r e) b y):Fp (Is r (if c=true then t else e)) (.s a b) (.br c x y):=
 .s (fun h=>by rw[a18 h];exact h1 h) (fun h=>by rw[a0U (by rw[h];simp)];exact h2 h)
theorem Fp.zh{β}{r:Ar X P β}{c t e}{a b:PT X.Γ}{x y}(h1:c=true->Fp (Is r t) a x)(h2:c=false->Fp (Is r e) b y):Fp (Is r (if c=true then t else e)) (.z c a b) (.br c x y):=
 .z (fun h=>by rw[a18 h];exact h1 h) (fun h=>by rw[a0U (by rw[h];simp)];exact h2 h)
theorem Fp.v{β}{r:Ar X P β}{s}(u)(h:u=s):Fp (Is r s) (.n:PT X.Γ) (.ret (some (r.put u))):=.r (.inl (by rw[h]))
theorem Fp.k{τ}{R:τ->Prop}{call fv v xs H H1 an o}(h:dI X P call fv xs H v H1)(t:Fp R an o):Fp R (.a (.call v H1) an) (.o (dI X P call fv xs H v H1) o):=.c v H1 h t
theorem Fp.fr{τ}{R:τ->Prop}{call fv v xs H H1 an o}(ks)(h:dI X P call fv xs H v H1)(t:Fp R an o):Fp R (.a (.fr ks v H1) an) (.o (dI X P call fv xs H v H1) o):=.kf ks v H1 h t
theorem Fp.PL{τ}{R:τ->Prop}{call fv v xs H H1 H2 an o}(ks rs)(h:dI X P call fv xs H v H1)(t:Fp R an o):Fp R (.a (.PL ks rs v H2) an) (.o (dI X P call fv xs H v H1) o):=.kg ks rs v H2 h t
def IsS{β}(r:Ar X P β)(s:β)(H:List (PB X.Γ)):PV X.Γ×List (PB X.Γ)->Prop:=fun v=>v=(r.put s,H)
theorem Fp.sr{β}{r:Ar X P β}{s H}:Fp (IsS r s H) (.n:PT X.Γ) (.ret (r.put s,H)):=.r rfl
theorem Fp.szh{β}{r:Ar X P β}{H c t e}{a b:PT X.Γ}{x y}(h1:c=true->Fp (IsS r t H) a x)(h2:c=false->Fp (IsS r e H) b y):Fp (IsS r (if c=true then t else e) H) (.z c a b) (.br c x y):=
 .z (fun h=>by rw[a18 h];exact h1 h) (fun h=>by rw[a0U (by rw[h];simp)];exact h2 h)
theorem Fp.ssh{β}{r:Ar X P β}{H c t e}{a b:PT X.Γ}{x y}(h1:c=true->Fp (IsS r t H) a x)(h2:c=false->Fp (IsS r e H) b y):Fp (IsS r (if c=true then t else e) H) (.s a b) (.br c x y):=
 .s (fun h=>by rw[a18 h];exact h1 h) (fun h=>by rw[a0U (by rw[h];simp)];exact h2 h)
theorem DW{β}(hX:bW X P){n f fU}(hO:jR X P (kR P T L n) fU){first xs cap H H1 an}{r:Ar X P β}{s o}(hk:DL X P T fU (dI X P (kR P T L n)) (CB X P T (kR P T L n) L f H.length) L f (first++xs++cap) H an=o) (ht:Fp (IsS r s H1) an o):dI X P (kR P T L (n+1)) (.fn f first cap) xs H (r.put s) H1:=by
 obtain⟨y,h1,h2⟩:=ht.aK;cases h2;rw[<-hk]at h1;exact a7K hX (n:=n+1) (by omega) hO h1
theorem O8(hX:bW X P){call fU}(hO:jR X P call fU){f first xs cap vs v ps H}(hv:views H (first++xs++cap)=some vs)(ho:fU f vs=some (v,[],ps))(hp:∀p∈ps,p)(hl:yE v=false) :dI X P call (.fn f first cap) xs H (shift H.length v) H:=by
 intro A m h tf rJ hr hf hx;cases hf with
 |gone hi _ _=>simp[bC]at hi
 |fn p1 p2 p3 p4=>
  obtain⟨w,h1,m1,e1,e2,e3,e4,e5⟩:=IX hX (hO f vs v [] ps ho hp) hr hv (ext':=[]) rfl ⟨p1,p2⟩ hx ⟨p3,p4⟩;simp only[hl,List.any_nil,Bool.or_self,a3F,a3V,a6l]at e2;exact⟨w,h1,[],m1,e1,e2,e3,e4,e5,fun b hb=>by cases hb⟩
def a1{α}(a:Ar X P α):ArL X P α:=ake a
def a2{α β}(a:Ar X P α)(b:Ar X P β):ArL X P (α×β):=Nq a (ake b)
def a3{α β γ}(a:Ar X P α)(b:Ar X P β)(c:Ar X P γ):ArL X P (α×β×γ):=Nq a (a2 b c)
def a4{α β γ δ}(a:Ar X P α)(b:Ar X P β)(c:Ar X P γ)(d:Ar X P δ):ArL X P (α×β×γ×δ):=Nq a (a3 b c d)
def np{α:Type}:α->List Prop:=fun _=>[]
end
end Pv
namespace Tw
def lZ{α σ ρ:Type}(step:Nat->α->σ->σ⊕ρ):List α->Nat->σ->σ⊕ρ
 | [],_,s=>.inl s
 |a::l,i,s=>match step i a s with
  |.inl s'=>lZ step l (i+1) s'
  |.inr r=>.inr r
def jS{σ ρ:Type}:σ⊕ρ->Bool
 |.inl _=>true
 |.inr _=>false
def akh{σ ρ:Type}(d:σ):σ⊕ρ->σ
 |.inl s=>s
 |.inr _=>d
def BA{σ ρ:Type}(d:ρ):σ⊕ρ->ρ
 |.inl _=>d
 |.inr r=>r
def aqr{σ:Type}:σ⊕Empty->σ
 |.inl s=>s
end Tw
namespace Pv
open Go Tw
def uX:Code->List Code
 |.seq a b=>uX a++uX b
 |.cond _ a b=>uX a++uX b
 |.block _ b=>uX b
 |.loop b=>b::uX b
 |.scope b=>uX b
 |.rangeFunc _ _ a b=>uX a++uX b
 |_=>[]
def U3(P:LI1)(f k:Nat):Code:=
 match UR P f with
 |some t=>(uX t.body).getD k .skip
 |none=>.skip
theorem yX{k}(h:k<=ah):i64.wrap ((k:Int)+1)=((k+1:Nat):Int):=by simp only[IntKind.wrap,IntKind.bits,IntKind.signed];unfold ah at h;have:((k:Int)+1)%(2^64:Int)=(k:Int)+1:=a9b (by omega) (by omega);simp only[this];rw[a0U (by simp;omega)];omega
theorem aH{k n:Nat}(h:k<n):gV k n:=⟨by omega,by omega⟩
theorem bD{k n:Nat}(h:k<n):decide ((k:Int)<(n:Int))=true:=by simp[h]
theorem fC(n:Nat):decide ((n:Int)<(n:Int))=false:=by simp
section
variable{X:ny}{P:LI1}{T:vw}{L:Nat}{f nt B:Nat}{iF:Bool}{call:dN}{b:Code}{σ α ρ:Type}
theorem Fp.w{τ}{R:τ->Prop}{c e s s' an o}(h:dR X P T call L f iF nt B c s e s')(t:Fp R an o):Fp R (.a (.lg [] e s') an) (.o (dR X P T call L f iF nt B c s e s') o):=.l [] e s' h t
theorem Fp.wG{τ}{R:τ->Prop}(gs){c e s s' an o}(h:dR X P T call L f iF nt B c s e s')(t:Fp R an o):Fp R (.a (.lg gs e s') an) (.o (dR X P T call L f iF nt B c s e s') o):=.l gs e s' h t
theorem Fp.go{n e s s'}(h:dO X P T call L f iF nt B b n s' e s):Fp (Rnd X P T call L f iF nt B b n e s) (.n:PT X.Γ) (.ret (.norm,s')):=Fp.r (v:=(Ex.norm,s')) h
theorem Fp.goG{n e s s'}(gs)(h:dO X P T call L f iF nt B b n s' e s):Fp (Rnd X P T call L f iF nt B b n e s) (.a (.lg gs .norm ⟨[],[],[]⟩) .n:PT X.Γ) (.ret (.norm,s')):=Fp.g (v:=(Ex.norm,s')) gs h
theorem Fp.ex{n i s}:Fp (Rnd X P T call L f iF nt B b n (.exit i) s) (.n:PT X.Γ) (.ret (.exit i,s)):=Fp.r (v:=(Ex.exit i,s)) ⟨rfl,rfl⟩
def cont(out:σ⊕ρ->Ex×bT X.Γ)(g:Nat->α->σ->σ⊕ρ)(l:List α)(i:Nat):σ⊕ρ->Ex×bT X.Γ
 |.inl s=>out (lZ g l i s)
 |.inr r=>out (.inr r)
def Rn(X:ny)(P:LI1)(T:vw)(call:dN)(L f:Nat)(iF:Bool)(nt B:Nat)(b:Code)(n:Nat){τ:Type}(K:τ->Ex×bT X.Γ)(x:τ):Ex×bT X.Γ->Prop:=Rnd X P T call L f iF nt B b n (K x).1 (K x).2
section
variable{τ:Type}{K:τ->Ex×bT X.Γ}{n:Nat}
theorem Fp.ls{c t e}{a d:PT X.Γ}{x y}(h1:Fp (Rn X P T call L f iF nt B b n K t) a x)(h2:Fp (Rn X P T call L f iF nt B b n K e) d y):Fp (Rn X P T call L f iF nt B b n K (if c=true then t else e)) (.s a d) (.br c x y):=
 .s (fun h=>by subst h;exact h1) (fun h=>by subst h;exact h2)
theorem Fp.nx{x s'}(h:dO X P T call L f iF nt B b n s' (K x).1 (K x).2):Fp (Rn X P T call L f iF nt B b n K x) (.n:PT X.Γ) (.ret (.norm,s')):=Fp.r (v:=(Ex.norm,s')) h
theorem Fp.nxG{x s'}(gs)(h:dO X P T call L f iF nt B b n s' (K x).1 (K x).2):Fp (Rn X P T call L f iF nt B b n K x) (.a (.lg gs .norm ⟨[],[],[]⟩) .n:PT X.Γ) (.ret (.norm,s')):=Fp.g (v:=(Ex.norm,s')) gs h
theorem Fp.ou{x}(h:(K x).1≠.norm):Fp (Rn X P T call L f iF nt B b n K x) (.n:PT X.Γ) (.ret (K x)):=by
 refine Fp.r ?_;unfold Rn Rnd;split
 .rename_i e;rw[e]at h;exact absurd rfl h
 rename_i e;rw[e];exact⟨rfl,rfl⟩
theorem Fp.ouG{x}(gs)(h:(K x).1≠.norm):Fp (Rn X P T call L f iF nt B b n K x) (.a (.lg gs .norm ⟨[],[],[]⟩) .n:PT X.Γ) (.ret (K x)):=by
 refine Fp.g gs ?_;unfold Rn Rnd;split
 .rename_i e;rw[e]at h;exact absurd rfl h
 rename_i e;rw[e];exact⟨rfl,rfl⟩
end
theorem Y5{l}(d){st:Int->σ->bT X.Γ}{g:Nat->α->σ->σ⊕ρ}{out s0 w}(Inv:Nat->σ->Prop)(h0:iq X (T.eY f (dW b)) w=st 0 s0)(hl:l.length<=ah)(hL:ah<L)(hi:Inv 0 s0)(hs:∀(k) (s) (n),k<l.length->Inv k s->(∀s1,Inv (k+1) s1->dO X P T call L f iF nt B b n (st (i64.wrap (k+1)) s1) (cont out g (l.drop (k+1)) (k+1) (.inl s1)).1 (cont out g (l.drop (k+1)) (k+1) (.inl s1)).2) ->dO X P T call L f iF nt B b (n+1) (st k s) (cont out g (l.drop (k+1)) (k+1) (g k (l.getD k d) s)).1 (cont out g (l.drop (k+1)) (k+1) (g k (l.getD k d) s)).2)(ho:∀s,Inv l.length s->dO X P T call L f iF nt B b 1 (st l.length s) (out (.inl s)).1 (out (.inl s)).2) :dR X P T call L f iF nt B (.loop b) w (out (lZ g l 0 s0)).1 (out (lZ g l 0 s0)).2:=by
 have key:∀(m k:Nat) (s:σ),k+m=l.length->Inv k s->dO X P T call L f iF nt B b (m+1) (st k s) (out (lZ g (l.drop k) k s)).1 (out (lZ g (l.drop k) k s)).2:=by
  intro m
  induction m with
  |zero=>
   intro k s hk hr;have:k=l.length:=(by omega);subst this;rw[List.drop_length];exact ho s hr
  |succ m ih=>
   intro k s hk hr;have aQ:k<l.length:=(by omega);have h1:=hs k s (m+1) aQ hr fun s1 h=>by have:=ih (k+1) s1 (by omega) h;rw[yX (by omega)];exact this
   have hd:l.getD k d=l[k]:=(by simp[List.getD,a0N aQ]);rw[a6u aQ];simp only[lZ];rw[hd]at h1;cases hg:g k l[k] s with
   |inl s1=>rw[hg]at h1;exact h1
   |inr r=>rw[hg]at h1;exact h1
 exact Aa (key l.length 0 s0 (by omega) hi) h0 (by omega)
theorem kX{c w R}{out:σ⊕ρ->Ex×bT X.Γ}(h:dR X P T call L f iF nt B c w (out R).1 (out R).2)(d)(hR:jS R=true):dR X P T call L f iF nt B c w (out (.inl (akh d R))).1 (out (.inl (akh d R))).2:=by
 cases R with
 |inl s=>exact h
 |inr r=>cases hR
theorem kY{c w R}{out:σ⊕ρ->Ex×bT X.Γ}(h:dR X P T call L f iF nt B c w (out R).1 (out R).2)(d)(hR:jS R=false):dR X P T call L f iF nt B c w (out (.inr (BA d R))).1 (out (.inr (BA d R))).2:=by
 cases R with
 |inl s=>cases hR
 |inr r=>exact h
end
def a0G{Γ}:PE Γ->Bool
 |.val _=>true
 |_=>false
def uY{Γ}(env:List (Nat×PE Γ)):List Nat->List (PV Γ)->List (Nat×PE Γ)
 |p::ps,v::vs=>uY ((p,.val v)::env) ps vs
 |_,_=>env
section
variable{X:ny}{P:LI1}{T:vw}{A W:Nat->Prop}{m m':List MB}{h h':List HB}{L f nt B:Nat}
theorem a7N{env env'}(he:kG X P A m h env env')(hv:(env.all fun p=>a0G p.2)=true):env'.all isVal=true:=by
 induction he with
 |nil=>rfl
 |cons h1 _ ih=>
  rename_i k v x r r' _;simp only[aco,a2K]at hv ⊢;refine⟨?_,ih hv.2⟩;cases v with
  |val v=>obtain⟨y,rfl,_⟩:=fZ h1;rfl
  |_=>simp[a0G]at hv
theorem U4:∀{ps} {vs} {xs:List TV} {env:List (Nat×PE X.Γ)} {env':List (Nat×EV)},kG X P A m h env env'->bZ X P A m h vs xs->kG X P A m h (uY env ps vs) (uo env' ps xs)
 | [],vs,xs,_,_,he,hv=>by simpa[uY,uo]using he
 |p::ps,[],xs,_,_,he,hv=>by rw[hv.inv0];simpa[uY,uo]using he
 |p::ps,v::vs,xs,_,_,he,hv=>by obtain⟨x,r,rfl,h1,h2⟩:=hv.inv;simp only[uY,uo];exact U4 (kG.cons (v:=.val v) (x:=.val x) h1 he) h2
theorem J3(hX:bW X P){n l xs H env ps vU body jU s1 s2 e}{f' nt':Nat} {env' ps' a' b' adq} {f'' agn:Nat} {adA agp a'' b''}(hl:H[l]? = some (.loop true f nt env ps vU body jU)) (hlen:xs.length=ps.length) (hps:(ps.all fun p=>decide (p<nt))=true)(h1:dR X P T (kR P T L n) L f true nt H.length vU ⟨uY env ps xs,[],H⟩ .norm s1) (hl1:s1.heap[l]? = some (.loop true f' nt' env' ps' a' b' adq))(h2:dR X P T (kR P T L n) L f true nt H.length body { s1 with heap:=s1.heap.set l (.loop false f' nt' env' ps' a' b' none) } e s2)(SL:s2.heap[l]? = some (.loop false f'' agn adA agp a'' b'' none)) :dI X P (kR P T L (n+1)) (.l9 l) xs H (.bool (qp e)) (s2.heap.set l (.loop (qp e) f'' agn adA agp a'' b'' (uq e))):=by
 intro A m h tf rJ hr hf hx;have aQ:l<H.length:=(a0w.1 hl).1;obtain⟨mb,k1,k2⟩:=hr.at_ l _ hl;cases mb with
 |dw _=>exact k2.elim
 |jI _=>exact k2.elim
 |gone=>exact k2.elim
 |gJ c=>
 obtain⟨te,k3,k4⟩:=k2;have FH:c∈aZ m:=aY k1 rfl;cases hf with
 |gone hi LW _=>simp only[bC,a08]at hi;subst hi;rw[k1]at LW;cases LW
 |l9 hy=>
 rw[k1]at hy;cases hy;have hS:SR X P A (fun b=>b∈aZ m) h.length m ⟨uY env ps xs,[],H⟩ ⟨uo te ps rJ,[],h,[]⟩:=
  ⟨⟨hr,rfl,fun k cs hk=>by simp at hk,U4 (env:=env) (env':=te) k4 hx⟩,fun b hb=>.inl hb,fun b hb=>(by cases hb),a1p _⟩
 obtain⟨t1,m1,x1,x2,x3,x4⟩:=h1 A _ _ m _ hS;have at1:∀{M:List MB} {S:bT X.Γ} {TS:St} {W:Nat->Prop} {rd:Bool} {f0 n0:Nat} {ee:List (Nat×PE X.Γ)} {pp:List Nat} {aa bb:Code} {pe:Option Code},SR X P A W h.length M S TS->O6 H.length m M->S.heap[l]? = some (.loop rd f0 n0 ee pp aa bb pe)->M[l]? = some (.gJ c)/\∃te,TS.heap[c]? = some (.loop rd f0 n0 te pp aa bb pe)/\kG X P (AA A M) M TS.heap ee te:=by
  intro M S TS W rd f0 n0 ee pp aa bb pe hS hU hh;obtain⟨mb,j1,j2⟩:=hS.st.heap.at_ l _ hh;rcases hU l _ aQ k1 with e|e
  .rw[e]at j1;cases j1;obtain⟨te,j3,j4⟩:=j2;exact⟨e,te,j3,j4⟩
  .rw[e]at j1;cases j1;exact j2.elim
 have akj:∀{M:List MB} {S:bT X.Γ} {TS:St} {W:Nat->Prop} {rd:Bool} {f0 n0:Nat} {ee:List (Nat×PE X.Γ)} {pp:List Nat} {aa bb:Code} {pe:Option Code} (rd':Bool) (pe':Option Code),SR X P A W h.length M S TS->O6 H.length m M->S.heap[l]? = some (.loop rd f0 n0 ee pp aa bb pe)->∃te,TS.heap[c]? = some (.loop rd f0 n0 te pp aa bb pe)/\HR X P A M (S.heap.set l (.loop rd' f0 n0 ee pp aa bb pe')) (TS.heap.set c (.loop rd' f0 n0 te pp aa bb pe'))/\Fr M TS.heap M (TS.heap.set c (.loop rd' f0 n0 te pp aa bb pe')):=by intro M S TS W rd f0 n0 ee pp aa bb pe rd' pe' hS hU hh;obtain⟨j1,te,j3,j4⟩:=at1 hS hU hh;obtain⟨s1,s2⟩:=hS.st.heap.set (i:=l) (c:=c) (pb:=.loop rd' f0 n0 ee pp aa bb pe') (hb:=.loop rd' f0 n0 te pp aa bb pe') j1 rfl (fun cs hc=>by unfold aV at hc;rw[j3]at hc;cases hc) (fun hF=>⟨te,by rw[a2y (a0w.1 j3).1],j4.step hF .refl⟩);exact⟨te,j3,s1,s2⟩
 obtain⟨te1,y1,y2,y3⟩:=akj false none x2 x4 hl1;have hS1:SR X P A (fun b=>b∈aZ m) h.length m1 { s1 with heap:=s1.heap.set l (.loop false f' nt' env' ps' a' b' none) } { t1 with heap:=t1.heap.set c (.loop false f' nt' te1 ps' a' b' none),ws:=Fq h.length c t1.ws }:=by
  have q:=x2.st.step y2 y3 .refl;refine⟨⟨q.heap,q.llen,q.loc,q.env⟩,x2.own,fun b hb=>?_,a5W x2.fl y3.len⟩;rcases wV (ks:=[.h c]) hb with k|⟨k,_⟩
  .exact x2.ws b k
  .simp at k;subst k;exact FH
 obtain⟨t2,m2,z1,z2,z3,z4⟩:=h2 A _ _ m1 _ hS1;obtain⟨te2,u1,u2,u3⟩:=akj (qp e) (uq e) z2 (x4.trans z4) SL;have hF:=(x3.trans y3).trans (z3.trans u3);refine⟨.bool (qp e),t2.heap.set c (.loop (qp e) f'' agn te2 agp a'' b'' (uq e)),Fq h.length c t2.ws,m2,?_,u2,.bool _,hF,fun i mb hi=>(x4.trans z4) i mb ?_ hi,fun b hb=>?_⟩
 .have hl':rJ.length=ps.length:=by rw[<-hx.1,hlen]
  simp only[kR,ap,OB,k3,hl',hps,adx,a2r,x1,y1,z1,u1]
 .rw[<-hr.len];exact(a0w.1 hi).1
 .rcases wV (ks:=[.h c]) hb with k|⟨k,_⟩
  .exact z2.ws b k
  .simp at k;subst k;exact FH
abbrev gB(B:Nat):Nat->Option Nat:=fun i=>if i<B then some i else(xM [] i).map (·+B)
theorem Ac{g}:∀{a:List (PV X.Γ)},(∀(i:Nat) x,a[i]? = some x->fH g x=some x)->fH.ql g a=some a
 | [],_=>rfl
 |c::cs,h=>by simp only[fH.ql,h 0 c rfl,Ac (a:=cs) fun i x hi=>h (i+1) x (by simpa using hi)]
theorem J4{α β:Type}{a:List α}{b:List β}(hl:a.length=b.length){i:Nat}{x}(hi:a[i]? = some x):∃y,b[i]? = some y:=by
 have:i<b.length:=by rw[<-hl];exact(a0w.1 hi).1
 exact⟨b[i],a0N this⟩
theorem VL{v x}(hv:VR X P A m h v x){B}(hB:m.length<=B):fH (gB B) v=some v:=by
 have key:∀{b:Nat} {mb:MB},m[b]? = some mb->gB B b=some b:=fun e=>by have:=(a0w.1 e).1;simp only[gB];rw[a18 (by omega)]
 induction hv with
 |bool=>rfl
 |lit=>rfl
 |int=>rfl
 |str=>rfl
 |nil=>rfl
 |ptr e=>simp only[fH,key e,a1t]
 |aO e=>simp only[fH,key e,a1t]
 |own e _=>simp only[fH,key e,a1t]
 |win e _ _=>simp only[fH,key e,a1t]
 |CX e=>simp only[fH,key e,a1t]
 |Hz e=>simp only[fH,key e,a1t]
 |Ku e=>simp only[fH,key e,a1t]
 |map e=>simp only[fH,key e,a1t]
 |iter e=>simp only[fH,key e,a1t]
 |l9 e=>simp only[fH,key e,a1t]
 |row e _ _=>simp only[fH,key e,a1t]
 |qx=>rfl
 |dw=>rfl
 |el=>rfl
 |fn h1 _ h3 _ i2 i4=>
  simp only[fH];rw[Ac fun i x hi=>let ⟨y,hy⟩:=J4 h1 hi;i2 i x y hi hy,Ac fun i x hi=>let ⟨y,hy⟩:=J4 h3 hi;i4 i x y hi hy]
 |agg h1 _ i2=>simp only[fH];rw[Ac fun i x hi=>let ⟨y,hy⟩:=J4 h1 hi;i2 i x y hi hy];rfl
 |dK h1 _ i2=>simp only[fH];rw[Ac fun i x hi=>let ⟨y,hy⟩:=J4 h1 hi;i2 i x y hi hy];rfl
 | @gone v i x hi e _=>
  have:=key (b:=i) (mb:=(m[i]?).getD .gone) (by cases q:m[i]? with|none=>rw[q]at e;cases e|some y=>rfl);cases v<;>simp only[bC,a08]at hi<;>first|(subst hi;simp only[fH,this,a1t])|cases hi
theorem a2z{v x}(hv:bZ X P A m h v x){B}(hB:m.length<=B):fH.ql (gB B) v=some v:=
 Ac fun i a hi=>let ⟨y,hy⟩:=J4 hv.1 hi;VL (hv.2 i a y hi hy) hB
theorem a7O{v x}(hv:kG X P A m h v x){B}(hB:m.length<=B):qj (gB B) v=some v:=by
 induction hv with
 |nil=>rfl
 |cons h1 _ ih=>
  rename_i k v x r r' _;simp only[qj,ih];cases v with
  |val v=>obtain⟨y,rfl,h2⟩:=fZ h1;simp only[PK,VL h2 hB,a1t]
  |ent r j v=>
   obtain⟨c,y,rfl,h2,_⟩:=NY h1;have:=VL h2 hB;simp only[fH,a0z,PV.map.injEq,exists_eq_right]at this;simp only[PK,this,a1t]
  |Fj r j=>
   obtain⟨c,rfl,h2⟩:=NZ h1;have:=VL h2 hB;simp only[fH,a0z,PV.map.injEq,exists_eq_right]at this;simp only[PK,this,a1t]
  |_=>rfl
theorem abl{b mb}(hb:BR X P A m h b mb){B}(hB:m.length<=B):zX (gB B) b=some b:=by
 cases b with
 |cells cs=>
  cases mb with
  |gJ c=>obtain⟨_,_,h2⟩:=hb;simp only[zX,a2z h2 hB,a1t]
  |_=>exact hb.elim
 |aF cs=>
  cases mb with
  |jI c=>obtain⟨_,_,_,h2⟩:=hb;simp only[zX,a2z h2 hB,a1t]
  |_=>exact hb.elim
 |map es=>rfl
 |dh r n seen=>
  cases mb with
  |gJ c=>
   obtain⟨_,_,h2,_⟩:=hb;obtain⟨mb,h3⟩:=a6c.1 h2;have aQ:r<B:=aal (a0w.1 h3).1 hB;have:gB B r=some r:=(by simp[gB,aQ]);simp only[zX,this,a1t]
  |_=>exact hb.elim
 |loop=>
  cases mb with
  |gJ c=>obtain⟨_,_,h2⟩:=hb;simp only[zX,a7O h2 hB,a1t]
  |_=>exact hb.elim
 |_=>rfl
theorem Y6{B}:∀{H:List (PB X.Γ)},(∀(i:Nat) b,H[i]? = some b->zX (gB B) b=some b)->oG (gB B) H=some H
 | [],_=>rfl
 |c::cs,h=>by simp only[oG,h 0 c rfl,Y6 (H:=cs) fun i x hi=>h (i+1) x (by simpa using hi)]
theorem dI.drop(hX:bW X P){call fv xs H H1 v}(hs:dI X P call fv xs H v H1)(h1:H1.take H.length=H)(hv:fH (gB H.length) v=some v):dI X P call fv xs H v H:=by
 intro A m h tf rJ hr hf hx;obtain⟨w,h',ws,m1,c1,c2,c3,c4,c5,c6⟩:=hs A m h tf rJ hr hf hx;have hg:lW H.length [.gc []] (⟨[(0,.val v)],[],H1⟩:bT X.Γ)=some ⟨[(0,.val v)],[],H⟩:=by
  have hb:oG (gB H.length) H=some H:=Y6 fun i b hi=>let ⟨mb,_,h2⟩:=hr.at_ i b hi;abl h2 (ahK hr.len)
  have hl:H.length<=H1.length:=by have:=congrArg List.length h1;simp at this;omega
  have e:qj (gB H.length) [(0,PE.val v)]=some [(0,.val v)]:=by simp only[qj,PK,hv,a1t]
  have rC:oG (fun i=>if i<H.length then some i else(xM [] i).map (·+H.length)) H=some H:=hb;have e':qj (fun i=>if i<H.length then some i else(xM [] i).map (·+H.length)) [(0,PE.val v)]=some [(0,.val v)]:=e;simp only[lW,Cm,List.all_nil,a6m,decide_true,Bool.and_self,aei,hl,a2r,e',XJ,h1,rC,DK,oG,a6l]
 obtain⟨m2,q1,q2,q3⟩:=nU hX hg A (fun _=>True) 0 m1 ⟨[(0,.val w)],[],h',[]⟩ ⟨⟨c2,rfl,fun k cs hk=>by simp at hk,.cons c3 .nil⟩,fun b _=>.inl trivial,fun b hb=>(by cases hb),a5S _⟩;obtain⟨w',e1,e2⟩:=pV q1.st.env (t:=0) (v:=.val v) rfl;simp only[dQ,a2r,a08]at e1;subst e1;refine⟨w,h',ws,m2,c1,q1.st.heap,e2,c4.trans q2,fun i mb hi=>?_,c6⟩;have aQ:i<H.length:=by rw[<-hr.len];exact(a0w.1 hi).1
 rcases c5 i mb hi with g|g
 .exact q3 i mb aQ g
 rcases q3 i _ aQ g with g|g<;>exact .inr g
end
section
variable{X:ny}{P:LI1}
theorem dI.frame(hX:bW X P){call ks H' Hp H H1 S9 fv fv' v v' xs xs'}(hs:dI X P call fv xs H v H1)(jG:ks.Nodup) (hp:DK H' ks=some Hp) (hH:oG (xM ks) Hp=some H) (hf:fH (xM ks) fv'=some fv) (hx:fH.ql (xM ks) xs'=some xs)(hv:fH (bk ks H'.length) v=some v') (hH1:oG (bk ks H'.length) H1=some S9) (hro:Kr (H1.drop ks.length)=true) :dI X P call fv' xs' H' v' (putAt ks S9 H'++S9.drop ks.length):=fun A m' h tf rJ hr hf' Gu=>by
 obtain⟨w,h1,ws,m1,c1,c2,c3,c4,c5,c6⟩:=KE hX hs.w jG hp hH hf hx hv hH1 hro A m' h tf rJ hr hf' Gu;exact⟨w,h1,ws,m1,c1,c2,c3,c4,c5,fun b hb=>by obtain⟨_,k,_,_,mb,h8,h9⟩:=c6 b hb;exact aY h8 h9⟩
end
def itF{σ ρ:Type}(g:σ->σ⊕ρ):Nat->σ->Option ρ
 | 0,_=>none
 |k+1,s=>match g s with
  |.inl s1=>itF g k s1
  |.inr r=>some r
section
variable{X:ny}{P:LI1}{T:vw}{L:Nat}{f nt B:Nat}{iF:Bool}{call:dN}{b:Code}{σ ρ:Type}
def DX(out:ρ->Ex×bT X.Γ)(r:ρ):σ⊕ρ->Ex×bT X.Γ
 |.inl _=>out r
 |.inr r'=>out r'
theorem a7P{st:σ->bT X.Γ}{g:σ->σ⊕ρ}{out}(Inv:σ->Prop)(hi:∀s s1,Inv s->g s=.inl s1->Inv s1)(hs:∀s n r,Inv s->(∀s1,g s=.inl s1->dO X P T call L f iF nt B b n (st s1) (out r).1 (out r).2)->dO X P T call L f iF nt B b (n+1) (st s) (DX out r (g s)).1 (DX out r (g s)).2) :∀{k} {s} {r},Inv s->itF g k s=some r->dO X P T call L f iF nt B b k (st s) (out r).1 (out r).2
 | 0,s,r,_,h=>by cases h
 |k+1,s,r,hv,h=>by
  simp only[itF]at h;have h1:=hs s k r hv fun s1 h1=>by rw[h1]at h;exact a7P Inv hi hs (hi s s1 hv h1) h
  cases hg:g s with
  |inl s1=>rw[hg]at h1;exact h1
  |inr r'=>rw[hg]at h1 h;simp only[a08]at h;subst h;exact h1
theorem agq{st:σ->bT X.Γ}{g:σ->σ⊕ρ}{out}(Inv:σ->Prop){k s r w}(hr:itF g k s=some r)(h0:iq X (T.eY f (dW b)) w=st s)(hk:k<=L)(hv:Inv s)(hi:∀s s1,Inv s->g s=.inl s1->Inv s1)(hs:∀s n r,Inv s->(∀s1,g s=.inl s1->dO X P T call L f iF nt B b n (st s1) (out r).1 (out r).2)->dO X P T call L f iF nt B b (n+1) (st s) (DX out r (g s)).1 (DX out r (g s)).2) :dR X P T call L f iF nt B (.loop b) w (out r).1 (out r).2:=Aa (a7P Inv hi hs hv hr) h0 hk
end
section
variable{X:ny}{P:LI1}{T:vw}{L:Nat}
def Si{α}(f:FuncId)(a:ArL X P α)(v:α->PV X.Γ)(ext:α->List (PB X.Γ))(pre:α->List Prop)(fU:fV X.Γ):fV X.Γ:=fun g vs=>
 match Nat.beq g f with
 |true=>match a.get vs with
  |some x=>some (v x,ext x,pre x)
  |none=>fU g vs
 |false=>fU g vs
theorem Good.MJ{α f}{a:ArL X P α}{v ext pre fU}(d)(hg:Good X P T L fU)(hf:∀n,d<=n->(∀m,n-d<=m->jR X P (kR P T L m) fU)->∀x,(∀p∈pre x,p)->nN X P (kR P T L (n+1)) f (a.put x) (v x) (ext x)):Good X P T L (Si f a v ext pre fU):=by
 obtain⟨N,hN⟩:=hg;refine⟨N+d+1,fun n hn=>?_⟩;obtain⟨k,rfl⟩:∃k,n=k+1:=⟨n-1,by omega⟩;intro g vs v ext ps ho hp;unfold Si at ho;split at ho
 .rename_i e;have e:=aa6 e;subst e;split at ho
  .rename_i x hx;cases ho;intro A h first args cap G5 hv
   exact hf k (by omega) (fun m hm=>hN m (by omega)) x hp A h first args cap G5 (a.ok hx hv)
  .exact hN (k+1) (by omega) g vs v ext ps ho hp
 .exact hN (k+1) (by omega) g vs v ext ps ho hp
def IsE(v:PV X.Γ)(H:List (PB X.Γ)):PV X.Γ×List (PB X.Γ)->Prop:=fun y=>y=(v,H)
theorem Fp.er{v:PV X.Γ}{H}:Fp (IsE v H) (.n:PT X.Γ) (.ret (v,H)):=.r rfl
theorem wF(hX:bW X P){n f fU}(hO:jR X P (kR P T L n) fU){vs an v H o}(hk:DL X P T fU (dI X P (kR P T L n)) (CB X P T (kR P T L n) L f 0) L f vs [] an=o) (ht:Fp (IsE v H) an o):nN X P (kR P T L (n+1)) f vs v H:=by
 obtain⟨y,h1,h2⟩:=ht.aK;cases h2;rw[<-hk]at h1;exact a0F hX (n:=n+1) (by omega) hO h1
theorem nY(hX:bW X P){n f fU}(hO:jR X P (kR P T L n) fU){first xs cap H H1 v an o}(hk:DL X P T fU (dI X P (kR P T L n)) (CB X P T (kR P T L n) L f H.length) L f (first++xs++cap) H an=o) (ht:Fp (IsE v H1) an o):dI X P (kR P T L (n+1)) (.fn f first cap) xs H v H1:=by
 obtain⟨y,h1,h2⟩:=ht.aK;cases h2;rw[<-hk]at h1;exact a7K hX (n:=n+1) (by omega) hO h1
end
theorem Good.Y7{X P T L α β f a}{r:Ar X P β}{S}{pre:α->List Prop}{fU Y8:fV X.Γ}(d:Nat)(hg:Good X P T L fU)(hg2:Good X P T L Y8)(hf:∀n,d<=n->(∀m,n-d<=m->jR X P (kR P T L m) fU)->(∀m,n-d<=m->jR X P (kR P T L m) Y8)->∀x,(∀p∈pre x,p)->nN X P (kR P T L (n+1)) f (a.put x) (r.put (S x)) []):Good X P T L (bU f a r S pre fU):=by
 obtain⟨N2,hN2⟩:=hg2;obtain⟨M,hM⟩:=hg;refine⟨M+N2+d+1,fun n hn=>?_⟩;obtain⟨k,rfl⟩:∃k,n=k+1:=⟨n-1,by omega⟩;intro g vs v ext ps ho hp;unfold bU at ho;split at ho
 .rename_i e;have e:=aa6 e;subst e;split at ho
  .rename_i x hx;cases ho;intro A h first args cap G5 hv
   exact hf k (by omega) (fun m hm=>hM m (by omega)) (fun m hm=>hN2 m (by omega)) x hp A h first args cap G5 (a.ok hx hv)
  .exact hM (k+1) (by omega) g vs v ext ps ho hp
 .exact hM (k+1) (by omega) g vs v ext ps ho hp
section
variable{X:ny}{P:LI1}
theorem dI.gs(hX:bW X P){call fv xs H H1 H2 v v'}(hs:dI X P call fv xs H v H1)(gs)(hg:lW H.length gs (⟨[(0,.val v)],[],H1⟩:bT X.Γ)=some ⟨[(0,.val v')],[],H2⟩):dI X P call fv xs H v' H2:=by
 intro A m h tf rJ hr hf hx;obtain⟨w,h',ws,m1,c1,c2,c3,c4,c5,c6⟩:=hs A m h tf rJ hr hf hx;obtain⟨m2,q1,q2,q3⟩:=nU hX hg A (fun _=>True) 0 m1 ⟨[(0,.val w)],[],h',[]⟩ ⟨⟨c2,rfl,fun k cs hk=>by simp at hk,.cons c3 .nil⟩,fun b _=>.inl trivial,fun b hb=>(by cases hb),a5S _⟩;obtain⟨w',e1,e2⟩:=pV q1.st.env (t:=0) (v:=.val v') rfl;simp only[dQ,a2r,a08]at e1;subst e1;refine⟨w,h',ws,m2,c1,q1.st.heap,e2,c4.trans q2,fun i mb hi=>?_,c6⟩;have aQ:i<H.length:=by rw[<-hr.len];exact(a0w.1 hi).1
 rcases c5 i mb hi with g|g
 .exact q3 i mb aQ g
 rcases q3 i _ aQ g with g|g<;>exact .inr g
theorem dI.cut(hX:bW X P){call fv xs H H1 H2 v}(hs:dI X P call fv xs H v H1)(h1:H1.take H.length=H2)(hb:oG (gB H.length) H2=some H2)(hl:decide (H.length<=H1.length)=true)(hv:fH (gB H.length) v=some v):dI X P call fv xs H v H2:=by
 intro A m h tf rJ hr hf hx;obtain⟨w,h',ws,m1,c1,c2,c3,c4,c5,c6⟩:=hs A m h tf rJ hr hf hx;have hl:=a7v hl;have hg:lW H.length [.gc []] (⟨[(0,.val v)],[],H1⟩:bT X.Γ)=some ⟨[(0,.val v)],[],H2⟩:=by
  have e:qj (gB H.length) [(0,PE.val v)]=some [(0,.val v)]:=by simp only[qj,PK,hv,a1t]
  have rC:oG (fun i=>if i<H.length then some i else(xM [] i).map (·+H.length)) H2=some H2:=hb;have e':qj (fun i=>if i<H.length then some i else(xM [] i).map (·+H.length)) [(0,PE.val v)]=some [(0,.val v)]:=e;simp only[lW,Cm,List.all_nil,a6m,decide_true,Bool.and_self,aei,hl,a2r,e',XJ,h1,rC,DK,oG,a6l]
 obtain⟨m2,q1,q2,q3⟩:=nU hX hg A (fun _=>True) 0 m1 ⟨[(0,.val w)],[],h',[]⟩ ⟨⟨c2,rfl,fun k cs hk=>by simp at hk,.cons c3 .nil⟩,fun b _=>.inl trivial,fun b hb=>(by cases hb),a5S _⟩;obtain⟨w',e1,e2⟩:=pV q1.st.env (t:=0) (v:=.val v) rfl;simp only[dQ,a2r,a08]at e1;subst e1;refine⟨w,h',ws,m2,c1,q1.st.heap,e2,c4.trans q2,fun i mb hi=>?_,c6⟩;have aQ:i<H.length:=by rw[<-hr.len];exact(a0w.1 hi).1
 rcases c5 i mb hi with g|g
 .exact q3 i mb aQ g
 rcases q3 i _ aQ g with g|g<;>exact .inr g
end
section
variable{X:ny}{P:LI1}{T:vw}{L f nt B:Nat}{iF:Bool}{call:dN}{fU:fV X.Γ}
theorem yY(hX:bW X P)(hO:jR X P call fU){c ps ps1 an e o}(hk:jW X P T fU (dI X P call) (dR X P T call L f iF nt B) B L f iF nt c ps an agi=o) (ht:Fp (fun y=>y=(e,ps1)) an o):dR X P T call L f iF nt B c ps e ps1:=by
 obtain⟨y,h1,rfl⟩:=ht.aK;rw[<-hk]at h1;exact Y3 hX hO h1
theorem Fp.xx{y:Ex×bT X.Γ}:Fp (fun z=>z=y) (.n:PT X.Γ) (.ret y):=.r rfl
end
theorem dI.forget{X P call fv xs H H1 v}(hs:dI X P call fv xs H v H1)(i):dI X P call fv xs H v (H1.set i .gone):=by intro A m h tf rJ hr hf hx;obtain⟨w,h',ws,m1,c1,c2,c3,c4,c5,c6⟩:=hs A m h tf rJ hr hf hx;have hg:=c2.bf [i];have hf2:=iP (h:=h') [i] m1;exact⟨w,h',ws,_,c1,hg,c3.step hf2.1 hf2.2,c4.trans hf2.1,c5.trans hf2.2,c6⟩
theorem sN{X P}(hX:bW X P){call fU}(hO:jR X P call fU){f first xs cap vs v ps H}(hv:views H (first++xs++cap)=some vs)(ho:fU f vs=some (v,[],ps))(hp:∀p∈ps,p)(hl:yE v=true) :dI X P call (.fn f first cap) xs H (shift H.length v) (bf (lG.kT (first++xs++cap)) H):=by
 intro A m h tf rJ hr hf hx;cases hf with
 |gone hi _ _=>simp[bC]at hi
 |fn p1 p2 p3 p4=>
  obtain⟨w,h1,m1,e1,e2,e3,e4,e5⟩:=IX hX (hO f vs v [] ps ho hp) hr hv (ext':=[]) rfl ⟨p1,p2⟩ hx ⟨p3,p4⟩;simp only[hl,List.any_nil,Bool.true_or,a2r,a6l]at e2;exact⟨w,h1,[],m1,e1,e2,e3,e4,e5,fun b hb=>by cases hb⟩
section
variable{X:ny}{P:LI1}{A:Nat->Prop}{m:List MB}{h:List HB}
theorem VR.a2A{k n y}(hy:VR X P A m h (.int k n) y):y=.int k n:=by
 cases hy with
 |int=>rfl
 |gone hi _ _=>simp[bC]at hi
theorem VR.Qb{f y}(hy:VR X P A m h (.fn f [] []) y):y=.fn f [] []:=by
 cases hy with
 |gone hi _ _=>simp[bC]at hi
 |fn p1 _ p3 _=>rw[a4D p1.symm,a4D p3.symm]
theorem agr{k ex t l x}(hl:LR X P A m h k ex t l x):(l=[]/\x=.nil .aO)\/(l=[]/\∃b off sz cs,x=.aO b off 0 0 sz true/\A b/\aV h b=some cs/\off<=cs.length/\dH P t=some sz/\0<sz) \/ (l≠[]/\∃b sz e kk cs,x=.aO b 0 l.length l.length sz e/\dH P t=some sz/\0<sz/\h[b]? = some (.cells kk cs)/\kk≠.ro/\(k=true->kk=.own)/\(ex=true->e=true)/\cs.length=l.length*sz/\eu X P A m h t l cs 0 sz):=by
 cases hl with
 |nil=>exact .inl ⟨rfl,rfl⟩
 |emp p0 p1 p2 p3 p4=>exact .inr (.inl ⟨rfl,_,_,_,_,rfl,p0,p1,p2,p3,p4⟩)
 |some p1 p2 p3 p4 p5 p6 p7 p8 p9=>exact .inr (.inr ⟨p1,_,_,_,_,_,rfl,p2,p3,p4,p5,p6,p7,p8,p9⟩)
theorem abn{H i x k ex t l}(hr:HR X P A m H h)(hi:H[i]? = some (.list k ex t l))(hv:VR X P (AA A m) m h (.own i) x):m[i]? = some (.dw x)/\LR X P (AA A m) m h k ex t l x:=by
 obtain⟨mb,g1,g2⟩:=hr.at_ i _ hi;cases hv with
 |own e _=>
  rw[g1]at e;cases e;exact⟨g1,g2⟩
 |gone LW e _=>
  simp only[bC,a08]at LW;subst LW;rw[g1]at e;cases e<;>exact g2.elim
end
section
variable{X:ny}{P:LI1}
theorem nN.gs(hX:bW X P){call f vs v v' ext ext'}(hc:nN X P call f vs v ext)(gs)(hg:lW 0 gs (⟨[(0,.val v)],[],ext⟩:bT X.Γ)=some ⟨[(0,.val v')],[],ext'⟩):nN X P call f vs v' ext':=by
 intro A h first args cap G5 hv
 obtain⟨w,h',m',c1,c2,c3,c4⟩:=hc A h first args cap G5 hv
 obtain⟨m2,q1,q2,q3⟩:=nU hX hg A (fun _=>True) 0 m' ⟨[(0,.val w)],[],h',[]⟩ ⟨⟨c2,rfl,fun k cs hk=>by simp at hk,.cons c3 .nil⟩,fun b _=>.inl trivial,fun b hb=>(by cases hb),a5S _⟩;obtain⟨w',e1,e2⟩:=pV q1.st.env (t:=0) (v:=.val v') rfl;simp only[dQ,a2r,a08]at e1;subst e1;exact⟨w,h',m2,c1,q1.st.heap,e2,c4.trans q2⟩
theorem Y9{A m h t fu x}(hv:VR X P A m h (.dw t [] fu) x):x=.nil .aO\/∃b off cap sz ex cs,x=.aO b off 0 cap sz ex/\A b/\aV h b=some cs/\dH P t=some sz/\0<sz/\off<=cs.length:=by
 generalize hl:([]:List (X.Γ t))=l at hv;cases hv with
 |qx=>exact .inl rfl
 |dw a c c2 s z o k f e r=>
  subst hl;exact .inr ⟨_,_,_,_,_,_,rfl,a,c,s,z,by simpa using o⟩
 |gone hi _ _=>simp[bC]at hi
theorem J5{A h t x}(G5:∀b,h.length<=b->A b)(hx:LR X P (AA A [.dw x]) [.dw x] h false false t [] x)(ho:(MB.dw x).own=none):HR X P A [.dw x] [.list false false t []] h:=by
 have hb:aZ [MB.dw x]=[]:=by simp[aZ,ho]
 refine⟨rfl,fun i b hi=>?_,by rw[hb];exact a6m,G5,fun b rC=>by rw[hb]at rC;cases rC⟩;cases i with
 |zero=>simp only[a3H,a08]at hi;subst hi;exact⟨.dw x,rfl,hx⟩
 |succ i=>simp at hi
end
def kZ{σ ρ:Type}(g:Nat->σ->σ⊕ρ):Nat->Nat->σ->σ⊕ρ
 | 0,_,s=>.inl s
 |m+1,k,s=>match g k s with
  |.inl s'=>kZ g m (k+1) s'
  |.inr r=>.inr r
def aT{σ:Type}(g:Nat->σ->σ):Nat->Nat->σ->σ
 | 0,_,s=>s
 |m+1,k,s=>aT g m (k+1) (g k s)
theorem U5{σ ρ}{g:Nat->σ->σ}:∀(m k) (s),kZ (ρ:=ρ) (fun k s=>.inl (g k s)) m k s=.inl (aT g m k s)
 | 0,_,_=>rfl
 |m+1,k,s=>U5 m (k+1) (g k s)
theorem qN{σ}{g:Nat->σ->σ}:∀(m k) (s),aT g (m+1) k s=g (k+m) (aT g m k s)
 | 0,_,_=>rfl
 |m+1,k,s=>by rw[aT,qN m (k+1),show k+1+m=k+(m+1) by omega];rfl
theorem dB{σ g}(Q:Nat->σ->Prop){m k s}(h0:Q k s)(hs:∀j s,k<=j->j<k+m->Q j s->Q (j+1) (g j s)):Q (k+m) (aT g m k s):=by
 induction m with
 |zero=>exact h0
 |succ m ih=>rw[qN];exact hs (k+m) _ (by omega) (by omega) (ih fun j s h1 h2 h3=>hs j s h1 (by omega) h3)
theorem J6{c:Nat->Bool}{ρ}{r:Nat->ρ}:∀(m k),jS (kZ (σ:=Unit) (fun k _=>if c k=true then .inr (r k)else .inl ()) m k ())=true↔∀j,k<=j->j<k+m->c j=false
 | 0,k=>by simp[kZ,jS];omega
 |m+1,k=>by
  simp only[kZ];by_cases hc:c k=true
  .simp only[hc,a2r,jS,a3F,false_iff];intro h;have:=h k (a1p _) (by omega);rw[hc]at this;cases this
  simp only[hc,a3F,a3V];rw[J6 m (k+1)];constructor
  .intro h j h1 h2;rcases a5l k j with h3|h3
   .exact h j h3 (by omega)
   rw[show j=k by omega];simpa using hc
  intro h j h1 h2;exact h j (by omega) (by omega)
theorem Ya{c:Nat->Bool}{ρ}{r:Nat->ρ}{m k}(h:jS (kZ (σ:=Unit) (fun k _=>if c k=true then .inr (r k)else .inl ()) m k ())=false):∃j,k<=j/\j<k+m/\c j=true/\(∀i,k<=i->i<j->c i=false)/\kZ (σ:=Unit) (fun k _=>if c k=true then .inr (r k)else .inl ()) m k ()=.inr (r j):=by
 induction m generalizing k with
 |zero=>simp[kZ,jS]at h
 |succ m ih=>
  simp only[kZ]at h ⊢;by_cases hc:c k=true
  .simp only[hc,a2r];exact⟨k,a1p _,by omega,hc,fun i h1 h2=>by omega,rfl⟩
  simp only[hc,a3F,a3V]at h ⊢;obtain⟨j,h1,h2,h3,h4,h5⟩:=ih h;exact⟨j,by omega,by omega,h3,fun i hi1 LW=>by
   rcases a5l k i with h6|h6
   .exact h4 i h6 LW
   rw[show i=k by omega];simpa using hc,h5⟩
abbrev gS(c:Nat->Bool)(k:Nat)(_:Unit):Unit⊕Nat:=if c k=true then .inr k else .inl ()
abbrev bH(c:Nat->Bool)(N:Nat):Unit⊕Nat:=kZ (gS c) N 0 ()
theorem dD{c N}:jS (bH c N)=true↔∀j,j<N->c j=false:=by unfold bH gS;rw[J6 (r:=fun k=>k)];exact⟨fun h j hj=>h j (by omega) (by omega),fun h j _ hj=>h j (by omega)⟩
theorem BD{c N}(h:jS (bH c N)=false):∃j,j<N/\c j=true/\(∀i,i<j->c i=false)/\bH c N=.inr j:=by obtain⟨j,_,h2,h3,h4,h5⟩:=Ya (r:=fun k=>k) h;exact⟨j,by omega,h3,fun i hi=>h4 i (by omega) hi,h5⟩
abbrev U6(c:Nat->Bool)(a N:Nat):Unit⊕Nat:=kZ (gS c) (N-a) a ()
def Qc{σ:Type}(g:Nat->σ->σ):Nat->σ->σ
 | 0,s=>s
 |k+1,s=>Qc g k (g k s)
theorem U7{σ g}(Q:Nat->σ->Prop):∀{k} {s},Q k s->(∀j s,j<k->Q (j+1) s->Q j (g j s))->Q 0 (Qc g k s)
 | 0,_,h,_=>h
 |k+1,s,h,hs=>U7 Q (k:=k) (hs k s (by omega) h) fun j s h1 h2=>hs j s (by omega) h2
theorem Qd{α:Type}{l:List α}{d}{p:α->Prop}:(∀j,j<l.length->p (l.getD j d))↔∀a∈l,p a:=by
 constructor
 .intro h a ha;obtain⟨j,hj,rfl⟩:=a5Q.1 ha;simpa[List.getD,a0N hj]using h j hj
 intro h j hj;have:l.getD j d=l[j]:=by simp[List.getD,a0N hj]
 rw[this];exact h _ (a5K hj)
theorem pW{α:Type}{a b:List α}{d}(hl:a.length=b.length):a=b↔∀j,j<a.length->a.getD j d=b.getD j d:=by
 constructor
 .rintro rfl j _;rfl
 intro h;apply aan hl;intro j h1 h2;simpa[List.getD,a0N h1,a0N h2]using h j h1
section
variable{X:ny}{P:LI1}{T:vw}{L:Nat}{f nt B:Nat}{iF:Bool}{call:dN}{b:Code}{σ ρ:Type}
def wH(out:σ⊕ρ->Ex×bT X.Γ)(g:Nat->σ->σ⊕ρ)(m k:Nat):σ⊕ρ->Ex×bT X.Γ
 |.inl s=>out (kZ g m k s)
 |.inr r=>out (.inr r)
theorem Qe{N}{st:Int->σ->bT X.Γ}{g:Nat->σ->σ⊕ρ}{out s0 w}(Inv:Nat->σ->Prop)(h0:iq X (T.eY f (dW b)) w=st 0 s0)(hl:N<=ah)(hL:ah<L)(hi:Inv 0 s0)(hs:∀(k) (s) (n),k<N->Inv k s->(∀s1,Inv (k+1) s1->dO X P T call L f iF nt B b n (st (i64.wrap (k+1)) s1) (wH out g (N-(k+1)) (k+1) (.inl s1)).1 (wH out g (N-(k+1)) (k+1) (.inl s1)).2) ->dO X P T call L f iF nt B b (n+1) (st k s) (wH out g (N-(k+1)) (k+1) (g k s)).1 (wH out g (N-(k+1)) (k+1) (g k s)).2)(ho:∀s,Inv N s->dO X P T call L f iF nt B b 1 (st N s) (out (.inl s)).1 (out (.inl s)).2) :dR X P T call L f iF nt B (.loop b) w (out (kZ g N 0 s0)).1 (out (kZ g N 0 s0)).2:=by
 have key:∀(m k:Nat) (s:σ),k+m=N->Inv k s->dO X P T call L f iF nt B b (m+1) (st k s) (out (kZ g m k s)).1 (out (kZ g m k s)).2:=by
  intro m
  induction m with
  |zero=>
   intro k s hk hr;have:k=N:=(by omega);subst this;exact ho s hr
  |succ m ih=>
   intro k s hk hr;have aQ:k<N:=(by omega);have h1:=hs k s (m+1) aQ hr fun s1 h=>by have:=ih (k+1) s1 (by omega) h;rw[yX (by omega),show N-(k+1)=m by omega];exact this
   rw[show N-(k+1)=m by omega]at h1;simp only[kZ];cases hg:g k s with
   |inl s1=>rw[hg]at h1;exact h1
   |inr r=>rw[hg]at h1;exact h1
 exact Aa (key N 0 s0 (by omega) hi) h0 (by omega)
theorem ags{a N:Nat}{st:Int->σ->bT X.Γ}{g:Nat->σ->σ⊕ρ}{out s0 w}(Inv:Nat->σ->Prop)(h0:iq X (T.eY f (dW b)) w=st a s0)(ha:a<=N)(hl:N<=ah)(hL:ah<L)(hi:Inv a s0)(hs:∀(k) (s) (n),a<=k->k<N->Inv k s->(∀s1,Inv (k+1) s1->dO X P T call L f iF nt B b n (st (i64.wrap (k+1)) s1) (wH out g (N-(k+1)) (k+1) (.inl s1)).1 (wH out g (N-(k+1)) (k+1) (.inl s1)).2) ->dO X P T call L f iF nt B b (n+1) (st k s) (wH out g (N-(k+1)) (k+1) (g k s)).1 (wH out g (N-(k+1)) (k+1) (g k s)).2)(ho:∀s,Inv N s->dO X P T call L f iF nt B b 1 (st N s) (out (.inl s)).1 (out (.inl s)).2) :dR X P T call L f iF nt B (.loop b) w (out (kZ g (N-a) a s0)).1 (out (kZ g (N-a) a s0)).2:=by
 have key:∀(m k:Nat) (s:σ),a<=k->k+m=N->Inv k s->dO X P T call L f iF nt B b (m+1) (st k s) (out (kZ g m k s)).1 (out (kZ g m k s)).2:=by
  intro m
  induction m with
  |zero=>
   intro k s _ hk hr;have:k=N:=(by omega);subst this;exact ho s hr
  |succ m ih=>
   intro k s ak hk hr;have aQ:k<N:=(by omega);have h1:=hs k s (m+1) ak aQ hr fun s1 h=>by have:=ih (k+1) s1 (by omega) (by omega) h;rw[yX (by omega),show N-(k+1)=m by omega];exact this
   rw[show N-(k+1)=m by omega]at h1;simp only[kZ];cases hg:g k s with
   |inl s1=>rw[hg]at h1;exact h1
   |inr r=>rw[hg]at h1;exact h1
 exact Aa (key (N-a) a s0 (a1p _) (by omega) hi) h0 (by omega)
theorem Qg{N}{st:Int->σ->bT X.Γ}{g e}{fin:σ->bT X.Γ}{s0 w}(Inv:Nat->σ->Prop)(h0:iq X (T.eY f (dW b)) w=st 0 s0)(hl:N<=ah)(hL:ah<L)(hi:Inv 0 s0)(hv:∀k s,k<N->Inv k s->Inv (k+1) (g k s))(hs:∀(k) (s),k<N->Inv k s->∀n e1 p,dO X P T call L f iF nt B b n (st (i64.wrap (k+1)) (g k s)) e1 p->dO X P T call L f iF nt B b (n+1) (st k s) e1 p)(ho:∀s,Inv N s->dO X P T call L f iF nt B b 1 (st N s) e (fin s)):dR X P T call L f iF nt B (.loop b) w e (fin (aT g N 0 s0)):=by
 have:=Qe (X:=X) (P:=P) (T:=T) (call:=call) (f:=f) (iF:=iF) (nt:=nt) (B:=B) (b:=b) (ρ:=Empty) (N:=N) (st:=st) (g:=fun k s=>.inl (g k s)) (out:=fun x=>(e,fin (aqr x))) (s0:=s0) (w:=w) Inv h0 hl hL hi
  (fun k s n hk hr h=>hs k s hk hr n _ _ (h _ (hv k s hk hr))) ho
 rw[U5]at this;exact this
theorem akl{N:Nat}{st:Int->σ->bT X.Γ}{g e}{fin:σ->bT X.Γ}{s0 w}(Inv:Nat->σ->Prop)(h0:iq X (T.eY f (dW b)) w=st (i64.wrap ((N:Int)-1)) s0)(hl:N<=ah)(hL:ah<L)(hi:Inv N s0)(hv:∀k s,k<N->Inv (k+1) s->Inv k (g k s))(hs:∀(k) (s),k<N->Inv (k+1) s->∀n e1 p,dO X P T call L f iF nt B b n (st (i64.wrap (k-1)) (g k s)) e1 p->dO X P T call L f iF nt B b (n+1) (st k s) e1 p)(ho:∀s,Inv 0 s->dO X P T call L f iF nt B b 1 (st (-1) s) e (fin s)):dR X P T call L f iF nt B (.loop b) w e (fin (Qc g N s0)):=by
 have wr:∀k:Nat,k<=ah->i64.wrap ((k:Int)-1)=(k:Int)-1:=by
  intro k hk;cases k with
  |zero=>rfl
  |succ k=>
   have:=yX (k:=k) (by omega);rw[show((k+1:Nat):Int)-1=(k:Int) by omega];unfold ah at hk;simp only[IntKind.wrap,IntKind.bits,IntKind.signed];have:(k:Int)%(2^64:Int)=(k:Int):=a9b (by omega) (by omega);simp only[this];rw[a0U (by simp;omega)]
 have key:∀(k:Nat) (s:σ),k<=N->Inv k s->dO X P T call L f iF nt B b (k+1) (st ((k:Int)-1) s) e (fin (Qc g k s)):=by
  intro k
  induction k with
  |zero=>intro s _ hr;exact ho s hr
  |succ k ih=>
   intro s hk hr;have h1:=ih (g k s) (by omega) (hv k s (by omega) hr);rw[<-wr k (by omega)]at h1;rw[show((k+1:Nat):Int)-1=(k:Int) by omega];exact hs k s (by omega) hr _ _ _ h1
 rw[wr N hl]at h0;exact Aa (key N s0 (a1p _) hi) h0 (by omega)
end
end Pv
namespace bV
open Go Tw Pv
def bG:LI0->Int
 | []=>1
 |a::t=>a*bG t
def gq:LI0->Int->LI0
 | [],_=>[]
 |a::t,n=>(n/bG t)%a::gq t n
def jE:LI0->LI0->Int
 |a::t,d::p=>d*bG t+jE t p
 |_,_=>0
def jZ:LI0->LI0->Bool
 | [],[]=>true
 |a::t,d::p=>decide (0<=d/\d<a)&&jZ t p
 |_,_=>false
def oh(s:LI0):Prop:=∀a∈s,1<=a/\a<=12
instance (s:LI0):Decidable (oh s):=inferInstanceAs (Decidable (∀a∈s,1<=a/\a<=12))
structure wo(s:LI0):Prop where
 len:s.length<=6
 sz:oh s
 many:bG s<=2000
def ku(n:Nat)(o:LI0):Bool:=decide (o.length=n/\(∀a∈o,0<=a/\a<n)/\o.Nodup)
theorem fP{z}(h0:-(2^62)<=z)(h1:z<2^62):i64.wrap z=z:=by
 simp only[IntKind.wrap,IntKind.bits,IntKind.signed];rcases Int.lt_or_le z 0 with h|h
 .have:z%(2^64:Int)=z+2^64:=by have:=acE z (2^64) 1;rw[adf]at this;rw[<-this];exact a9b (by omega) (by omega)
  simp only[this];rw[a18 (by simp;omega)];omega
 have:z%(2^64:Int)=z:=a9b h (by omega);simp only[this];rw[a0U (by simp;omega)]
theorem oh.tail{a t}(h:oh (a::t)):oh t:=fun b hb=>h b (a3J _ hb)
theorem jC:∀{s},oh s->1<=bG s
 | [],_=>aa7 _
 |a::t,h=>by have h1:=h a (a3M ..);have h2:=jC h.tail;have:=Int.mul_le_mul h1.1 h2 (by omega) (by omega);simpa[bG]using this
theorem EW:∀(s t),bG (s++t)=bG s*bG t
 | [],t=>by simp[bG]
 |a::s,t=>by simp[bG,EW s t,Int.mul_assoc]
theorem Sj{s}(h:oh s)(k):bG (s.take k)<=bG s:=by
 have e:bG s=bG (s.take k)*bG (s.drop k):=by rw[<-EW,ahG]
 have h1:1<=bG (s.take k):=jC fun a ha=>h a (aa8 ha);have h2:1<=bG (s.drop k):=jC fun a ha=>h a (a5X ha);have:=a9L h2 (show 0<=bG (s.take k) by omega);omega
theorem Yb:∀(s) (n),(gq s n).length=s.length
 | [],_=>rfl
 |_::t,n=>by simp[gq,Yb t n]
theorem U8:∀(s) (n) (k),k<s.length->(gq s n).getD k 0=(n/bG (s.drop (k+1)))%s.getD k 0
 | [],_,k,h=>by simp at h
 |a::t,n,0,_=>by simp[gq]
 |a::t,n,k+1,h=>by have:=U8 t n k (by simpa using h);simpa[gq]using this
theorem vP:∀{s p},jZ s p=true->p.length=s.length
 | [],[],_=>rfl
 |a::t,d::p,h=>by simp only[jZ,a2K]at h;simp[vP h.2]
 | [],_::_,h=>by cases h
 |_::_,[],h=>by cases h
theorem qC:∀{s p},jZ s p=true↔p.length=s.length/\∀j,j<s.length->0<=p.getD j 0/\p.getD j 0<s.getD j 0
 | [],[]=>by simp[jZ]
 |a::t,d::p=>by
  simp only[jZ,a2K,a1F,qC (s:=t),a4T];constructor
  .rintro⟨h1,h2,h3⟩;refine⟨by omega,fun j hj=>?_⟩;cases j with
   |zero=>simpa using h1
   |succ j=>simpa using h3 j (by omega)
  rintro⟨h1,h2⟩;exact⟨by simpa using h2 0 (by omega),by omega,fun j hj=>by simpa using h2 (j+1) (by omega)⟩
 | [],_::_=>by simp[jZ]
 |_::_,[]=>by simp[jZ]
theorem DY:∀{s p},jZ s p=true->oh s->0<=jE s p/\jE s p<bG s
 | [],[],_,_=>by simp[jE,bG]
 |a::t,d::p,h,hs=>by simp only[jZ,a2K,a1F]at h;have ih:=DY h.2 hs.tail;have hp:=jC hs.tail;simp only[jE,bG];have h1:0<=d*bG t:=afU h.1.1 (by omega);have h2:(d+1)*bG t<=a*bG t:=ab1 (by omega) (by omega);rw[aiy,Int.one_mul]at h2;omega
theorem uK:∀{s} (n),oh s->jZ s (gq s n)=true
 | [],_,_=>rfl
 |a::t,n,hs=>by simp only[gq,jZ,a2K,a1F];have:=hs a (a3M ..);exact⟨⟨ahR _ (by omega),Int.emod_lt_of_pos _ (by omega)⟩,uK n hs.tail⟩
theorem DZ:∀{s} (n),oh s->gq s (n%bG s)=gq s n
 | [],_,_=>rfl
 |a::t,n,hs=>by
  have hp:=jC hs.tail;have ha:=hs a (a3M ..);simp only[gq,bG];have e1:n%(a*bG t)/bG t%a=n/bG t%a:=by rw[Int.emod_def n,show n-a*bG t*(n/(a*bG t))=n+(-(a*(n/(a*bG t))))*bG t by rw[Int.neg_mul,Int.mul_right_comm];rfl,Int.add_mul_ediv_right _ _ (by omega),show n/bG t+-(a*(n/(a*bG t)))=n/bG t+a*(-(n/(a*bG t))) by rw[Int.mul_neg],acE]
  have e2:gq t (n%(a*bG t))=gq t n:=by rw[<-DZ (n%(a*bG t)) hs.tail,<-DZ n hs.tail,Int.emod_emod_of_dvd n (Int.dvd_mul_left a (bG t))]
  rw[e1,e2]
theorem J7:∀{s} {n},oh s->0<=n->n<bG s->jE s (gq s n)=n
 | [],n,_,h0,h1=>by simp[bG]at h1;simp[gq,jE];omega
 |a::t,n,hs,h0,h1=>by have hp:=jC hs.tail;have ha:=hs a (a3M ..);simp only[gq,jE];simp only[bG]at h1;have h2:0<=n/bG t:=ai3 h0 (by omega);have h3:n/bG t<a:=Int.ediv_lt_of_lt_mul (by omega) h1;rw[a9b h2 h3,<-DZ n hs.tail,J7 hs.tail (ahR _ (by omega)) (Int.emod_lt_of_pos _ (by omega))];exact Int.ediv_mul_add_emod n (bG t)
theorem VN:∀{s p},jZ s p=true->oh s->gq s (jE s p)=p
 | [],[],_,_=>rfl
 |a::t,d::p,h,hs=>by
  simp only[jZ,a2K,a1F]at h;have ih:=VN h.2 hs.tail;have hr:=DY h.2 hs.tail;have hp:=jC hs.tail;simp only[gq,jE];have e1:(d*bG t+jE t p)/bG t=d:=by rw[ai6,Int.add_mul_ediv_right _ _ (by omega),Int.ediv_eq_zero_of_lt hr.1 hr.2];omega
  have e2:gq t (d*bG t+jE t p)=gq t (jE t p):=by rw[<-DZ _ hs.tail,ai6,Int.add_mul_emod_self_right,DZ _ hs.tail]
  rw[e1,e2,ih,a9b h.1.1 h.1.2]
theorem dF{s:LI0}{k}(h:k<s.length):s.getD k 0∈s:=by
 have:s.getD k 0=s[k]:=by simp[List.getD,a0N h]
 rw[this];exact a5K h
theorem Qh{s:LI0}{k}(h:k<s.length):bG (s.drop k)=s.getD k 0*bG (s.drop (k+1)):=by rw[a6u h];simp[bG,List.getD,a0N h]
theorem zT{l:LI0}{i j a}(h:i<l.length):(l.set i a).getD j 0=if i=j then a else l.getD j 0:=by simp only[a4h,aay];split<;>simp_all
def a4x(s:LI0)(k:Nat)(x:Int×LI0):Int×LI0:=(Vt .i64 x.1 (s.getD k 0),x.2.set k (PG .i64 x.1 (s.getD k 0)))
theorem agt{a b}(h0:0<=a)(h1:a<2^62)(hb:0<b):Vt .i64 a b=a/b:=by have:a/b<=a:=Int.ediv_le_self b h0;have h2:0<=a/b:=ai3 h0 (by omega);rw[Vt,Int.tdiv_eq_ediv_of_nonneg h0,fP (by omega) (by omega)]
theorem agu{a b}(h0:0<=a)(h1:a<2^62)(hb:0<b):PG .i64 a b=a%b:=by
 have h2:0<=a%b:=ahR _ (by omega);have h3:a%b<=a:=by have:=Int.emod_def a b;have h4:0<=b*(a/b):=afU (by omega) (ai3 h0 (by omega));omega
 rw[PG,Int.tmod_eq_emod_of_nonneg h0]
theorem a7Q{s n}(hs:oh s)(h0:0<=n)(h1:n<2^62){o}(ho:o.length=s.length):(Qc (a4x s) s.length (n,o)).2=gq s n:=by
 have:=U7 (g:=a4x s) (k:=s.length) (s:=(n,o)) (fun k x=>x.1=n/bG (s.drop k)/\x.2.length=s.length/\∀j,k<=j->j<s.length->x.2.getD j 0=(gq s n).getD j 0)
  ⟨by simp[bG],ho,fun j h1 h2=>by omega⟩ (fun k x hk hx=>by
   obtain⟨e1,e2,e3⟩:=hx;have hp:1<=bG (s.drop (k+1)):=jC fun a ha=>hs a (a5X ha);have ha:=hs _ (dF hk);have hx0:0<=x.1:=by rw[e1];exact ai3 h0 (by omega)
   have hx1:x.1<=n:=by rw[e1];exact Int.ediv_le_self _ h0
   simp only[a4x];rw[agt hx0 (by omega) (by omega),agu hx0 (by omega) (by omega)];refine⟨?_,by simp[e2],fun j h2 h3=>?_⟩
   .rw[Qh hk,Int.mul_comm,<-Int.ediv_ediv_of_nonneg (by omega),e1]
   .rw[zT (by omega)];split
    .rename_i e;subst e;rw[U8 s n k hk,e1]
    .exact e3 j (by omega) h3)
 obtain⟨_,e2,e3⟩:=this;rw[pW (d:=0) (by rw[e2,Yb])];intro j hj;exact e3 j (a5S _) (by omega)
def Gi(s:LI0):Int:=aT (fun k n=>if i64.wrap (n*s.getD k 0)<3000 then i64.wrap (n*s.getD k 0)else 3000) s.length 0 1
theorem Yc{s}(hs:oh s):Gi s=min 3000 (bG s):=by
 have:=dB (g:=fun k n=>if i64.wrap (n*s.getD k 0)<3000 then i64.wrap (n*s.getD k 0)else 3000) (m:=s.length) (k:=0) (s:=(1:Int)) (fun k n=>n=min 3000 (bG (s.take k))) (by simp[bG];decide) (fun j n h1 h2 h3=>by
  have hj:j<s.length:=by omega
  have ha:=hs _ (dF hj);have hp:1<=bG (s.take j):=jC fun a ha=>hs a (aa8 ha);have e:bG (s.take (j+1))=bG (s.take j)*s.getD j 0:=by rw[a8p hj,EW];simp[bG,List.getD,a0N hj]
  have Xl:1<=n:=by omega
  have hn1:n<=3000:=by omega
  have h4:n*s.getD j 0<=3000*12:=Int.mul_le_mul hn1 ha.2 (by omega) (by omega);have h5:1<=n*s.getD j 0:=by have:=Int.mul_le_mul Xl ha.1 (by omega) (by omega);omega
  rw[fP (by omega) (by omega),e];by_cases hc:bG (s.take j)<=3000
  .have:n=bG (s.take j):=(by omega);rw[this];split<;>omega
  have:n=3000:=by omega
  subst this;have h6:3000*s.getD j 0<=bG (s.take j)*s.getD j 0:=ab1 (by omega) (by omega);have h7:3000<=3000*s.getD j 0:=by omega
  split<;>omega)
 rw[a3O,ady]at this;exact this
theorem wo.adB{s}(h:wo s):Gi s=bG s:=by rw[Yc h.sz];have:=h.many;omega
abbrev wI(s:LI0):Nat:=(bG s).toNat
theorem wo.Yd{s:LI0}(h:wo s):((wI s:Nat):Int)=bG s:=by have:=jC h.sz;show((bG s).toNat:Int)=_;omega
theorem wo.wI{s:LI0}(h:wo s):((wI s:Nat):Int)=Gi s:=by rw[h.adB,h.Yd]
theorem wo.lt{s}(h:wo s){k}(hk:k<bV.wI s):decide ((k:Int)<Gi s)=true:=by rw[<-h.wI];exact bD hk
theorem wo.no{s}(h:wo s):decide (((bV.wI s:Nat):Int)<Gi s)=false:=by rw[<-h.wI];exact fC _
theorem wo.akm{s}(h:wo s):s.length<=ah:=by have:=h.len;unfold ah;omega
theorem Qi{α}(f n):aT (fun k (s:List α)=>s++[f k]) n 0 []=(List.range n).map f:=by have:=dB (g:=fun k (s:List α)=>s++[f k]) (m:=n) (k:=0) (s:=[]) (fun k s=>s=(List.range k).map f) rfl (fun j s _ _ h=>by rw[h,aeE,a4V];rfl);simpa using this
end bV
namespace Tw
open Go Go.Proofs
theorem sO(g t fz):∀(vs) (o) (cur) (w:LI4),w.heap[g]? = some (.cells cur t fz)->o+vs.length<=cur.size ->w.setCells g o vs=w.setRow g (cur.toList.take o++vs++cur.toList.drop (o+vs.length)).toArray
 | [],o,cur,w,hg,_=>by simp only[World.setCells,a6l,a5V,adh,ahG,Array.toArray_toList];rw[setRow_self w g cur t fz hg]
 |v::rest,o,cur,w,hg,hl=>by
  simp only[a4T]at hl;rw[World.setCells,setCell_eq_setRow w g o cur t fz v hg,
   sO g t fz rest (o+1) (cur.setIfInBounds o v) (w.setRow g (cur.setIfInBounds o v)) (setRow_heap w g cur _ t _ hg) (by simp;omega),setRow_setRow]
  congr 2;have e:=list_seg_step cur.toList o v rest (by simp;omega);simpa[Array.toList_setIfInBounds,aar]using e
section
variable{P:LI1}{M:Mp}{D:Key->Prop}{w:LI4}{s:St}
theorem agv(hV:Valid M D s.get w){b k cs new ls p}(hm:M (.h b)=some (.cells ls))(hd:D (.h b))(hb:s.heap[b]? = some (.cells k cs))(hk:k≠.ro) (hp:p∈ls) (yB:p.ext=cs.length) (hn:∀c∈new,iM c=true) (hlen:cs.length<new.length) {w'} (g arr ty)(vY:w'.heap[g]? = some (.cells arr ty (0,0))) (Rx:∀c,c<w.heap.size->c≠g->w'.heap[c]? = w.heap[c]?) (hg:(g=p.c/\arr.size=p.tot)\/g=w.heap.size)(qX:w.heap.size<=w'.heap.size) (ho:w'.os=w.os) (hou:w'.output=w.output) (ht:w'.tape=w.tape) (afr:new.length<=arr.size)(VO:∀(i:Nat) (c) (v),new[i]? = some c->arr[i]? = some v->VR M.h c v) :∃M' q,Valid M' D (St.get { s with heap:=s.heap.set b (.cells .last new) }) w'/\Ext M s.get w M' (St.get { s with heap:=s.heap.set b (.cells .last new) }) w' [.h b] /\(∃qA,M' (.h b)=some (.cells qA)/\q∈qA)/\q.ext=new.length/\q.base=0/\q.c=g/\q.tot=arr.size:=by
 have hgt:s.get (.h b)=some (.cells k cs):=by simp[St.get,hb]
 have yO:=(a0w.1 hb).1;obtain⟨gJ,h1,h2⟩:=hV.ok _ _ hm hd;rw[hgt]at h1;cases h1;obtain⟨ho1,AQ,aat,OQ⟩:=h2;have UZ:∀b0,s.get (.h b)=some b0->wr b0=true:=fun b0 yu=>by rw[hgt]at yu;cases yu;cases k<;>simp_all [wr]
 have jG:(ls.map (·.c)).Nodup:=by
  cases k with
  |ro=>exact absurd rfl hk
  |own=>obtain⟨q,rfl,_⟩:=aat rfl;simp
  |grow=>exact(OQ (.inl rfl)).1
  |last=>exact(OQ (.inr rfl)).1
 have aQ:∀q∈ls,q.c<w.heap.size:=fun q hq=>hV.inb _ _ hm q.c (a1z.2 ⟨q,hq,rfl⟩)
 let p':Pl:=⟨g,0,new.length,arr.size⟩
 have hold:∀q∈ls,q.c≠g->JK (dM M (.h b) (.cells (p'::ls.filter fun q=>q.c≠g))).h w' .last new q:=fun q hq hqg=>by have Du:=AQ q hq;obtain⟨uz,ty',fz',t1,t2,t3,t4⟩:=Du.row;have hx:=Du.ext;exact⟨⟨uz,ty',fz',(Rx q.c (aQ q hq) hqg).trans t1,t2,fun _=>t3 hk,fun hz=>by have:=hz rfl;omega⟩,Du.fit,by omega,fun _=>Du.base hk⟩
 let qA:List Pl:=p'::ls.filter fun q=>q.c≠g
 have JR:∀q,q∈qA↔q=p'\/(q∈ls/\q.c≠g):=fun q=>by simp[qA]
 have ZO:JJ (.cells ls) (.cells qA):=by
  intro q hq;by_cases he:q.c=g
  .rcases hg with⟨e,e2⟩|e
   .have:q=p:=I7 jG hp hq (by rw[he,e]);subst this;exact⟨p',by simp[qA],e,by simp[p',(AQ q hq).base hk],by simp[p'];omega,by simp[p',e2]⟩
   .have:=aQ q hq;omega
  .exact⟨q,(JR q).2 (.inr ⟨hq,he⟩),rfl,rfl,a1p _,rfl⟩
 have hcb:∀c∈aI (.cells qA),c=g\/c∈aI (.cells ls):=by
  intro c hc;simp only[aI,a1z]at hc ⊢;obtain⟨q,hq,rfl⟩:=hc;rcases(JR q).1 hq with rfl|⟨h1,_⟩
  .exact .inl rfl
  .exact .inr ⟨q,h1,rfl⟩
 have fK:∀c,c<w.heap.size->c∉aI (.cells qA)->w'.heap[c]? = w.heap[c]?:=fun c hc hnc=>Rx c hc (fun e=>hnc (by subst e;exact a1z.2 ⟨p',by simp[qA],rfl⟩));have fQ:∀c∈aI (.cells qA),(∃l0,M (.h b)=some l0/\c∈aI l0)\/w.heap.size<=c:=by
  intro c hc;rcases hcb c hc with rfl|h
  .rcases hg with⟨e,_⟩|e
   .exact .inl ⟨_,hm,by rw[e];exact a1z.2 ⟨p,hp,rfl⟩⟩
   .exact .inr (by omega)
  .exact .inl ⟨_,hm,h⟩
 have Fv:tY M (dM M (.h b) (.cells qA)):=lJ fun l0 h0=>by rw[hm]at h0;cases h0;exact ZO
 have vV:∀q∈qA,q.ext=new.length->q=p':=by
  intro q hq e;rcases(JR q).1 hq with rfl|⟨h1,_⟩
  .rfl
  .have:=(AQ q h1).ext;omega
 have Ru:qh (dM M (.h b) (.cells qA)).h w' (.cells .last new) (.cells qA):=by
  refine⟨hn,fun q hq=>?_,by simp,fun _=>⟨?_,fun q1 Du q2 Gs e1 e2=>by rw[vV q1 Du e1,vV q2 Gs e2]⟩⟩
  .rcases(JR q).1 hq with rfl|⟨h1,h2⟩
   .exact⟨⟨arr,ty,(0,0),vY,rfl,fun _=>rfl,fun _ i c v _ a b=>(VO i c v a (by simpa[p']using b)).mono Fv.h⟩,by simpa[p']using afr,a1p _,fun _=>rfl⟩
   .exact hold q h1 h2
  .simp only[qA,a4W,a5I];refine⟨fun JR=>?_,jG.sublist (List.Sublist.map _ List.filter_sublist)⟩;obtain⟨q,hq,he⟩:=a1z.1 JR;have:=(a7y.1 hq).2;simp[p']at he;simp[he]at this
 refine⟨dM M (.h b) (.cells qA),p',?_,?_,⟨qA,by simp[dM],by simp[qA]⟩,rfl,rfl,rfl,rfl⟩
 .rw[jl s b _ yO];exact hV.upd (.h b) _ _ (fun j hj=>.inl hj) (fun l0 h0=>by rw[hm]at h0;cases h0;exact⟨hd,ZO,UZ⟩) fK fQ qX Ru
 .rw[jl s b _ yO];exact Ext.upd (.h b) _ _ [.h b] (.inl ⟨by simp[hgt],rfl,by simp[hm],UZ⟩) Fv fK fQ qX ho hou ht
end
open Go.Shelf
theorem ML{w need old e}(h:need<2^63):grownCap w need old e<2^63:=by have:=Nat.mod_lt (w.tape w.drawn (.appendCap need old e)) (show 0<2^63-need by omega);simp only[grownCap,Question.cut];omega
section
variable{P:LI1}{ρ:Ren}
theorem a4y{M w h}(hV:Valid M rV (lq h) w){b off len cap ex y}(hx:VR M.h (.aO b off len cap 1 ex) y)(h0:0<len){k cs r}(hb:h[b]? = some (.cells k cs))(hk:k≠.ro)(hl:k=.last->off+cap=cs.length) (hr:sub cs off len=some r) :∃ls p cap',M (.h b)=some (.cells ls)/\p∈ls/\y=.slice (some ⟨p.c,off,none⟩) len cap'/\len<=cap'/\cap<=cap'/\off+cap<=p.ext/\off+cap'<=p.tot/\cap'<2^63/\JK M.h w k cs p/\p.base=0/\(∀c∈cs,iM c=true) /\∃xs,bZ M.h r xs/\∀(j) (v),xs[j]? = some v->w.cell? ⟨p.c,off+j,none⟩=some v:=by
 cases hx with
 |aO hm hp yB hle tZ hex ha abo=>
  rename_i ls p a cap';obtain⟨gJ,h1,h2⟩:=hV.ok _ _ hm trivial;have hg:lq h (.h b)=some (.cells k cs):=by simp[St.get,hb]
  rw[hg]at h1;cases h1;have hp:=hp.resolve_left (by omega);have AQ:=h2.2.1 p hp;have yu:=AQ.base hk;rcases ha with ha|⟨rfl,ha⟩
  .omega
  obtain⟨xs,g1,g2⟩:=AQ.slice hr (by omega) (fun e=>by have:=hl e;have:=AQ.ext;omega);rw[yu]at g2 ha ⊢;simp only[a3O,aiz]at g2 ha yB ⊢;exact⟨ls,p,cap',hm,hp,rfl,by omega,tZ,yB,ha,abo,AQ,yu,h2.1,xs,g1,g2⟩
theorem a2B{N us xs}(h:bZ N us xs)(ho:∀c∈us,iM c=true):∀v∈xs,v.oneCell'=true:=by
 intro v hv;obtain⟨i,hi,rfl⟩:=a5Q.1 hv;have wR:i<us.length:=by rw[h.len];exact hi
 exact EF (h.at_ i us[i] xs[i] (by simp[wR]) (by simp[hi])) (ho _ (a5K wR))
end
open Go.Sort
theorem agw{N k n y}(h:VR N (.int k n) y):y=.int k n:=by cases h;rfl
section
variable{P:LI1}{M:Mp}{D:Key->Prop}{C:Ct}{w w':LI4}
theorem agx(h:Valid M D C w){k ls p cs cs' kk Ce}(hk:M k=some (.cells ls)) (hd:D k) (hc:C k=some (.cells kk cs)) (hp:p∈ls) (yL:(kk=.own/\Ce=.own)\/((kk=.grow\/kk=.last)/\Ce=.last/\p.ext=cs.length))(hl:cs'.length=cs.length) (hn:∀c∈cs',iM c=true) {uz ty'} (vY:w'.heap[p.c]? = some (.cells uz ty' (0,0))) (hs':uz.size=p.tot)(Rx:∀c,c<w.heap.size->c≠p.c->w'.heap[c]? = w.heap[c]?) (qX:w.heap.size<=w'.heap.size) (ho:w'.os=w.os) (hou:w'.output=w.output) (ht:w'.tape=w.tape)(VO:∀(i:Nat) (c) (v),cs'[i]? = some c->uz[i]? = some v->VR M.h c v) :Valid M D (ni C k (.cells Ce cs')) w'/\Ext M C w M (ni C k (.cells Ce cs')) w' [k]:=by
 obtain⟨hb,he,h1,AQ,jG,huq,arr,ty,hr,hs,hle,hv⟩:=h.wrB hk hd hc hp yL;have iI:kk≠.ro:=by rcases yL with⟨e,_⟩|⟨e|e,_⟩<;>rw[e]<;>simp
 have UZ:∀b0,C k=some b0->wr b0=true:=fun b0 yu=>by rw[hc]at yu;cases yu;cases kk<;>simp_all [wr]
 have qW:dM M k (.cells ls)=M:=JL hk;have fK:∀c,c<w.heap.size->c∉aI (.cells ls)->w'.heap[c]? = w.heap[c]?:=fun c hc0 hc=>Rx c hc0 (fun e=>hc (by rw[e];exact a1z.2 ⟨p,hp,rfl⟩));have fQ:∀c∈aI (.cells ls),(∃l0,M k=some l0/\c∈aI l0)\/w.heap.size<=c:=fun c hc=>.inl ⟨_,hk,hc⟩;have Fv:tY M (dM M k (.cells ls)):=by rw[qW];exact .refl _
 have aQ:∀q∈ls,q.c<w.heap.size:=fun q hq=>h.inb _ _ hk q.c (a1z.2 ⟨q,hq,rfl⟩);refine⟨?_,?_⟩
 .have:=h.upd (D':=D) (w':=w') k (.cells Ce cs') (.cells ls) (fun j hj=>.inl hj) (fun l0 h0=>by
   rw[hk]at h0;cases h0;exact⟨hd,.refl _,UZ⟩) fK fQ qX (by
   rw[qW];refine⟨hn,fun q hq=>?_,fun e=>?_,fun e=>⟨jG,fun q1 Du q2 Gs e1 e2=>by rw[huq q1 Du (by omega),huq q2 Gs (by omega)]⟩⟩
   .have ZI:=AQ q hq;by_cases Zt:q.c=p.c
    .have:=I7 jG hp hq Zt;subst this;exact⟨⟨uz,ty',(0,0),vY,hs',fun _=>rfl,fun _ i c v _ a b=>VO i c v a (by simpa[hb]using b)⟩,by omega,by omega,fun _=>hb⟩
    .obtain⟨aqu,ty2,fz2,t1,t2,t3,t4⟩:=ZI.row;refine⟨⟨aqu,ty2,fz2,(Rx q.c (aQ q hq) Zt).trans t1,t2,fun _=>t3 iI,fun hz i c v hi a b=>?_⟩,ZI.fit,by have:=ZI.ext;omega,fun _=>ZI.base iI⟩;exfalso;apply Zt;rcases yL with⟨e,_⟩|⟨_,e,_⟩
     .obtain⟨b',g1,g2⟩:=h.ok k _ hk hd;rw[hc]at g1;cases g1;obtain⟨q',g3,_⟩:=g2.2.2.1 e;rw[g3]at hq hp;simp at hq hp;rw[hq,hp]
     .rw[huq q hq (by rw[hz e];omega)]
   .rcases yL with⟨e0,_⟩|⟨_,e1,_⟩
    .obtain⟨b',g1,g2⟩:=h.ok k _ hk hd;rw[hc]at g1;cases g1;obtain⟨q',g3,g4⟩:=g2.2.2.1 e0;exact⟨q',g3,by omega⟩
    .rw[e1]at e;cases e)
  rwa [qW]at this
 .have:=Ext.upd (M:=M) (C:=C) (w:=w) (w':=w') k (.cells Ce cs') (.cells ls) [k] (.inl ⟨by simp[hc],rfl,by simp[hk],UZ⟩) Fv fK fQ qX ho hou ht
  rwa [qW]at this
end
def MO:List TV->Option LI0
 | []=>some []
 |.int .i64 n::r=>(MO r).map (n::·)
 |_=>none
theorem Qj:∀{cs} {zs},MO cs=some zs->cs=zs.map fun n=>TV.int .i64 n
 | [],zs,h=>by simp[MO]at h;subst h;rfl
 |c::r,zs,h=>by
  unfold MO at h;split at h
  .rename_i e;cases e
  .rename_i n r' e;cases e;simp only[a0z]at h;obtain⟨ys,h1,rfl⟩:=h;rw[Qj h1];rfl
  cases h
def iw(l:LI0):LI0:=l.mergeSort fun x y=>decide (x<=y)
def a7R(g:LI0->LI0)(fI:Nat):dN
 |.fn f [] [],[d],h=>
  if f=fI then
   match d with
   |.nil .aO=>some (.dK [],h,[])
   |.aO _ _ 0 _ _ _=>some (.dK [],h,[])
   |.aO b 0 n n' 1 _=>match h[b]? with
    |some (.cells k cs)=>match AL k true,MO cs with
     |some k',some zs=>if n=n'/\cs.length=n/\0<n/\n<=2^20 then some (.dK [],h.set b (.cells k' ((g zs).map fun x=>TV.int .i64 x)),[b])else none
     |_,_=>none
    |_=>none
   |_=>none
  else none
 |_,_,_=>none
def Qk:Nat->dN:=a7R iw
section
variable{P:LI1}{ρ:Ren}
theorem Ye(L:Lays.n189 P ρ):iK P (Qk (ρ.f 189)):=by
 intro fv args h v h' ws hc M w x xs hV vI hx Gy;unfold Qk a7R at hc;split at hc
 case h_2=>cases hc
 rename_i f d;split at hc
 case isFalse=>cases hc
 rename_i hf;subst hf;cases hx with
 | @fn _ _ _ ys zs h1 h1a h3 h3a=>
 have:ys=[]:=a4D h1.symm;subst this;have:zs=[]:=a4D h3.symm;subst this;obtain⟨dv,r1,rfl,hdv,Gy⟩:=Gy.iE;have:=Gy.pG;subst this;have enters:∀{R:LI3->LI4->Prop},Calls P (ρ.f 189) #[dv] w (JW R) ->
   ∃d,(∀w,(Deferred.ofValue (.func (.func (ρ.f 189)) [].toArray [].toArray) [dv].toArray).run P w=.ok d w)/\((EI P d w R/\∃f a b,(TV.fn (ρ.f 189) [] [])=.fn f a b)\/(Il P d w R/\∃l,(TV.fn (ρ.f 189) [] [])=.l9 l)):=by
  intro R KF;refine⟨{ target:=.fn (.func (ρ.f 189)) #[],args:=#[dv] },fun w=>by simp[Deferred.ofValue],.inl ⟨⟨ρ.f 189,_,?_,fun n=>callsIn_wide.2 KF⟩,_,_,_,rfl⟩⟩;have e1:=L.f189;have e2 : ¬ (Body.n189 ρ).name = "runtime.NumGoroutine" := by simp [Body.n189]
  obtain⟨c,e3⟩:∃c,(Body.n189 ρ).body=some c:=⟨_,rfl⟩;simp[invoke,callFunc,program,Sem.run,e1,e2,e3]
 split at hc
 .simp only[a08,a1n]at hc;obtain⟨rfl,rfl,rfl⟩:=hc;cases hdv;refine enters ((Any.slices_Sort_int_none L none 0 w).mono fun e w' ⟨he,hw⟩=>?_);subst he;subst hw;exact⟨M,hV,vI,.refl _ _ _,.RG .nil⟩
 .simp only[a08,a1n]at hc;obtain⟨rfl,rfl,rfl⟩:=hc;cases hdv;refine enters ((Any.slices_Sort_int_none L _ _ w).mono fun e w' ⟨he,hw⟩=>?_);subst he;subst hw;exact⟨M,hV,vI,.refl _ _ _,.RG .nil⟩
 .rename_i b n n' ex _;split at hc
  case h_2=>cases hc
  rename_i k cs hb;split at hc
  case h_2=>cases hc
  rename_i k' zs pJ hzs;split at hc
  case isFalse=>cases hc
  rename_i FW;obtain⟨rfl,nV,Xl,akn⟩:=FW;simp only[a08,a1n]at hc;obtain⟨rfl,rfl,rfl⟩:=hc;have JQ:=Qj hzs;have Xm:zs.length=n:=by rw[<-nV,JQ,a5C]
  have hk:k≠.ro:=by rintro rfl;cases pJ
  have a7S:sub cs 0 n=some cs:=by unfold sub;rw[a18 (by omega)];simp[<-nV]
  obtain⟨ls,p,cap',k1,k2,rfl,k3,k4,k5,k6,k7,k8,k9,k10,Zy,k11,k12⟩:=a4y hV hdv Xl hb hk (fun _=>by omega) a7S;have hpe:p.ext=cs.length:=by have:=k8.ext;omega
  obtain⟨arr,ty,fz,z1,z2,z3,_⟩:=k8.row;have:=z3 hk;subst this;have aQ:=(a3l.1 z1).1;have hcv:Zy=zs.map fun n=>Value.int .i64 n:=by
   apply aaA;intro i;by_cases hi:i<n
   .have hi1:i<cs.length:=(by omega);have LW:i<Zy.length:=by rw[<-k11.len];exact hi1
    have:=k11.at_ i cs[i] Zy[i] (by simp[hi1]) (by simp[LW]);have hc1:cs[i]? = (zs.map fun n=>TV.int .i64 n)[i]?:=(by rw[<-JQ]);rw[a0N hi1,a5F,a0N (by omega)]at hc1;simp only[a1t,a08]at hc1;rw[hc1]at this;rw[a0N LW,a5F,a0N (by omega)];rw[agw this];rfl
   .rw[a4U (by rw[<-k11.len];omega),a4U (by rw[a5C];omega)]
  have hH:Holds (Value.int .i64) w p.c 0 zs.toArray:=fun j hj=>by simp only[aeR]at hj;refine⟨?_,by simp[World.frozen?,z1]⟩;refine k12 j _ ?_;rw[hcv,a5F,a0N hj];simp[hj]
  have KF:=Any.slices_Sort_int L p.c 0 cap' zs w hH aQ (by omega);rw[Xm]at KF;refine enters (KF.mono fun e w' ⟨he,N,os,hw⟩=>?_);subst he;have hsl:(iw zs).length=n:=by unfold iw;rw[aaX,Xm]
  have hgb:lq h (.h b)=some (.cells k cs):=by simp[St.get,hb]
  have yL:(k=.own/\k'=.own)\/((k=.grow\/k=.last)/\k'=.last/\p.ext=cs.length):=by
   rcases LV pJ with e|⟨a,b,_⟩
   .exact .inl e
   .exact .inr ⟨a,b,hpe⟩
  have vY:w'.heap[p.c]? = some (.cells (putCells (Value.int .i64) 0 (iw zs).toArray arr) ty (0,0)):=by rw[hw,heap_grow_old _ _ (by simp[putRow,mapBlock,Sort.ahead];exact aQ)];simp only[putRow,mapBlock,Sort.ahead,abR,a2r,z1,a1t,onCells];rfl
  have Rx:∀c,c<w.heap.size->c≠p.c->w'.heap[c]? = w.heap[c]?:=fun c hc0 iI=>by rw[hw,heap_grow_old _ _ (by simp[putRow,mapBlock,Sort.ahead];exact hc0)];simp only[putRow,mapBlock,Sort.ahead,abR];rw[a0U (fun e=>iI e.symm)]
  obtain⟨g1,g2⟩:=agx (w':=w') (cs':=(iw zs).map fun x=>TV.int .i64 x) hV k1 trivial hgb k2 yL (by rw[a5C,hsl,nV]) (fun c hc=>by
   obtain⟨y,_,rfl⟩:=a1z.1 hc;rfl) vY (by simp[putCells,z2]) Rx (by rw[hw];simp[putRow,mapBlock,Sort.ahead]) (by rw[hw];rfl) (by rw[hw];rfl) (by rw[hw];rfl) (fun i c u hc hu=>by
   rw[a5F]at hc;simp only[a0z]at hc;obtain⟨y,hy,rfl⟩:=hc;have hi:i<(iw zs).length:=(a0w.1 hy).1;have hia:i<arr.size:=(by omega);simp only[putCells,Array.getElem?_mapIdx,a4v hia,a1t,a08]at hu;rw[a18 ⟨a5S _,by simp;omega⟩]at hu;subst hu;have:(iw zs).toArray[i-0]! = y:=by have h9:=(a0w.1 hy).2;simp[hi,h9]
   rw[this];exact .int _ _)
  have yO:=(a0w.1 hb).1;have Gw:lq (h.set b (.cells k' ((iw zs).map fun x=>TV.int .i64 x)))=ni (lq h) (.h b) (.cells k' ((iw zs).map fun x=>TV.int .i64 x)):=jl ⟨[],[],h,[]⟩ b _ yO [] [];exact⟨M,by rw[Gw];exact g1,vI,by rw[Gw];exact g2,.RG .nil⟩
 .cases hc
end
def Ql(h h':List HB):Prop:=(∀b:Nat,(∀cs,h[b]?≠some (HB.nT cs))->h'[b]? = h[b]?)/\∀(b:Nat) cs,h[b]? = some (HB.nT cs)->∃cs',cs'.Perm cs/\h'[b]? = some (HB.cells .last cs')
def agA(f:Nat)(call:dN)(fv:TV)(args:List TV)(h:List HB)(v:TV):Prop:=(∃k n,v=.int k n)/\fv=.fn f [] []/\∀h',Ql h h'->∃h2,call fv args h'=some (v,h2,[])
open Classical in
def a4z(f:Nat)(call:dN):dN:=fun fv args h=>if hx:∃v,agA f call fv args h v then some (Classical.choose hx,h,[])else none
theorem U9{h h'}(hu:Ql h h'):∀b:Nat,(h'[b]?).isSome=(h[b]?).isSome:=fun b=>by
 cases e:h[b]? with
 |none=>rw[hu.1 b (fun cs=>by rw[e];nofun),e]
 |some x=>
  by_cases hb:∃cs,x=.nT cs
  .obtain⟨cs,rfl⟩:=hb;obtain⟨cs',_,e2⟩:=hu.2 b cs e;rw[e2];rfl
  .rw[hu.1 b (fun cs=>by rw[e];intro h2;cases h2;exact hb ⟨cs,rfl⟩),e]
theorem Yf(h:List HB):∀(g:Nat->List TV),(∀(b:Nat) cs,h[b]? = some (HB.nT cs)->(g b).Perm cs)->Ql h (h.mapIdx fun b x=>match x with|HB.nT _=>HB.cells .last (g b)|x=>x):=fun g hg=>by
 constructor
 .intro b hb;rw[aiq];cases e:h[b]? with
  |none=>rfl
  |some x=>
   simp only[a1t];cases x<;>first|rfl|exact absurd e (hb _)
 .intro b cs e;exact⟨g b,hg b cs e,by rw[aiq,e];rfl⟩
theorem Yg{M h w}(hV:Valid M rV (lq h) w):∃h',Ql h h'/\Valid M rV (lq h') w:=by
 have hg:∀b:Nat,∃g:List TV,∀cs,h[b]? = some (HB.nT cs)->g.Perm cs/\∀l,M (.h b)=some l->qh M.h w (.cells .last g) l:=fun b=>by
  by_cases hb:∃cs,h[b]? = some (HB.nT cs)
  .obtain⟨cs,hb⟩:=hb;cases hm:M (.h b)with
   |none=>exact⟨cs,fun EO h2=>⟨by rw[hb]at h2;cases h2;exact .refl _,fun l hl=>by cases hl⟩⟩
   |some l=>
    obtain⟨bb,c1,c2⟩:=hV.ok _ _ hm trivial;have c1:h[b]? = some bb:=c1;rw[hb]at c1;cases c1;cases l with
    |obj r o=>exact c2.elim
    |cells ls=>
     obtain⟨cs',p1,p2⟩:=c2;exact⟨cs',fun EO h2=>⟨by rw[hb]at h2;cases h2;exact p1,fun l hl=>by cases hl;exact p2⟩⟩
  exact⟨[],fun cs h2=>absurd ⟨cs,h2⟩ hb⟩
 let g:Nat->List TV:=fun b=>Classical.choose (hg b)
 have hgs:∀(b:Nat) cs,h[b]? = some (HB.nT cs)->(g b).Perm cs/\∀l,M (.h b)=some l->qh M.h w (.cells .last (g b)) l:=fun b=>aaj (hg b);have hu:=Yf h g fun b cs e=>(hgs b cs e).1;generalize hh:(h.mapIdx fun b x=>match x with|HB.nT _=>HB.cells .last (g b)|x=>x)=h' at hu;refine⟨h',hu,?_⟩;have XF:∀(b:Nat) cs,h[b]? = some (HB.nT cs)->h'[b]? = some (HB.cells .last (g b)):=fun b cs e=>by rw[<-hh,aiq,e];rfl
 refine⟨fun k l hk _=>?_,fun k k' l l' b iI hk pJ _ hc hw=>?_,hV.inb⟩
 .obtain⟨bb,c1,c2⟩:=hV.ok k l hk trivial;cases k with
  |l k=>exact⟨bb,c1,c2⟩
  |h b=>
   have c1:h[b]? = some bb:=c1;by_cases hb:∃cs,bb=.nT cs
   .obtain⟨cs,rfl⟩:=hb;exact⟨_,XF b cs c1,(hgs b cs c1).2 l hk⟩
   refine⟨bb,?_,c2⟩;show h'[b]? = some bb;rw[hu.1 b (fun cs=>by rw[c1];intro h2;cases h2;exact hb ⟨cs,rfl⟩),c1]
 obtain⟨bb,c1,_⟩:=hV.ok k l hk trivial;refine hV.own k k' l l' bb iI hk pJ trivial c1 ?_;cases k with
 |l k=>have hc:lq h (.l k)=some b:=hc;rw[c1]at hc;cases hc;exact hw
 |h i=>
  have c1:h[i]? = some bb:=c1;have hc:h'[i]? = some b:=hc;by_cases hb:∃cs,bb=.nT cs
  .obtain⟨cs,rfl⟩:=hb;rfl
  rw[hu.1 i (fun cs=>by rw[c1];intro h2;cases h2;exact hb ⟨cs,rfl⟩),c1]at hc;cases hc;exact hw
theorem a0H{M h h1 w w' v y}(hu:Ql h h1)(hv:∃k n,v=.int k n)(hR:jA M h1 w v h1 [] y w'):jA M h w v h [] y w':=by
 obtain⟨M',a1,a2,a3,a4⟩:=hR;have hs:∀k,(lq h1 k).isSome=(lq h k).isSome:=fun k=>by
  cases k with
  |l k=>rfl
  |h b=>exact U9 hu b
 have JF:∀(b:Nat) bb,h1[b]? = some bb->(h[b]? = some bb/\∀cs,bb≠HB.nT cs)\/∃cs cs',bb=HB.cells .last cs'/\cs'.Perm cs/\h[b]? = some (HB.nT cs):=fun b bb e=>by
  by_cases hb:∃cs,h[b]? = some (HB.nT cs)
  .obtain⟨cs,hb⟩:=hb;obtain⟨cs',p,e2⟩:=hu.2 b cs hb;rw[e]at e2;cases e2;exact .inr ⟨cs,cs',rfl,p,hb⟩
  have:=hu.1 b fun cs h2=>hb ⟨cs,h2⟩;rw[e]at this;exact .inl ⟨this.symm,fun cs h2=>hb ⟨cs,by rw[<-this,h2]⟩⟩
 refine⟨M',⟨fun k l hk _=>?_,fun k k' l l' b iI hk pJ _ hc hw=>?_,a1.inb⟩,a2,⟨a3.JE,a3.frame,fun _ _ _=>rfl,fun k hk hn=>a3.kP k ?_ hn,a3.fresh,a3.size,fun _ h=>h,fun k hk=>(by cases hk),fun k hk=>(by cases hk),a3.os,a3.output,a3.tape⟩,a4⟩
 .obtain⟨bb,c1,c2⟩:=a1.ok k l hk trivial;cases k with
  |l k=>exact⟨bb,c1,c2⟩
  |h b=>
   rcases JF b bb c1 with⟨e,_⟩|⟨cs,cs',rfl,p,e⟩
   .exact⟨bb,e,c2⟩
   refine⟨_,e,?_⟩;cases l with
   |obj r o=>exact c2.elim
   |cells ls=>exact⟨cs',p,c2⟩
 .obtain⟨bb,c1,_⟩:=a1.ok k l hk trivial;refine a1.own k k' l l' bb iI hk pJ trivial c1 ?_;cases k with
  |l k=>have hc:lq h1 (.l k)=some b:=hc;rw[c1]at hc;cases hc;exact hw
  |h i=>
   have hc:h[i]? = some b:=hc;rcases JF i bb c1 with⟨e,_⟩|⟨cs,cs',rfl,p,e⟩
   .rw[hc]at e;cases e;exact hw
   rfl
 rcases hk with hk|hk
 .exact .inl (by rw[hs];exact hk)
 refine .inr ?_;have:=hs k;rw[hk]at this;cases e:lq h1 k with
 |none=>rfl
 |some x=>rw[e]at this;cases this
theorem abp{P f call}(hC:iK P call):iK P (a4z f call):=by
 intro fv args h v h' ws hc M w x xs hV vI hx Gy;unfold a4z at hc;split at hc
 rotate_left
 .cases hc
 rename_i hb;have hs:=aaj hb;simp only[a08,a1n]at hc;obtain⟨rfl,rfl,rfl⟩:=hc;obtain⟨hv,hfn,Gx⟩:=hs;obtain⟨h1,hu,hV1⟩:=Yg hV;obtain⟨h2,yP⟩:=Gx h1 hu;obtain⟨d,e1,e2⟩:=hC _ _ _ _ _ _ yP M w x xs hV1 vI hx Gy;refine⟨d,e1,?_⟩;rcases e2 with⟨⟨f',az,q1,q2⟩,r⟩|⟨⟨l,f',tmps,vU,body,q1,q2⟩,r⟩
 .refine .inl ⟨⟨f',az,q1,fun n=>CallsIn.mono (F:=Fence.wide) (q2 n) fun en w3 Xw=>?_⟩,r⟩;cases en with
  |panicked c=>exact Xw.elim
  |outgrown=>exact Xw.elim
  |returned y=>
   refine a0H hu hv (jA.norm (nT:=false) hV1 vI ?_ Xw);obtain⟨k,n,e⟩:=hv;rw[e];simp[Ph,CV,xK,og,DF,Vj,Nc]
 obtain⟨l',e⟩:=r;exact absurd hfn (by rw[e];nofun)
theorem abq{f call args h k n}(hb:agA f call (.fn f [] []) args h (.int k n))(iI:∃h',Ql h h'):a4z f call (.fn f [] []) args h=some (.int k n,h,[]):=by
 have hx:∃v,agA f call (.fn f [] []) args h v:=⟨_,hb⟩;unfold a4z;rw[dif_pos hx];obtain⟨h',hu⟩:=iI;obtain⟨h2,h1⟩:=(aaj hx).2.2 h' hu;obtain⟨h3,h4⟩:=hb.2.2 h' hu;rw[h4]at h1;have:Classical.choose hx=.int k n:=by simp only[a08,a1n]at h1;exact h1.1.symm
 rw[this]
open Go.ChangeShapes
section
variable{H:Type}{nZ:LI2×LI3->H}{P:LI1}{w:LI4}
def Rd(nZ:LI2×LI3->H)(P:LI1)(w:LI4)(t:LI2)(d:DataW H):Prop:=∃cs,Reads nZ P w t cs d
theorem agB{t k d}(ht:P.underlying t=some (.int k))(hd:Rd nZ P w t d):∃n,d=.lit (.int k n)/\(Lit.int k n).wf=true:=by
 obtain⟨cs,fuel,ps,hd⟩:=hd;cases fuel with
 |zero=>simp[DataW.trod]at hd
 |succ n=>
  unfold DataW.trod at hd;rw[ht]at hd;split at hd<;>simp_all
  obtain⟨⟨_,h1⟩,rfl,_⟩:=hd;exact⟨_,rfl,h1⟩
theorem a4A{t fs d}(ht:P.underlying t=some (.struct fs))(hd:Rd nZ P w t d) :∃ds,d=.agg ds/\ds.length=fs.size/\∀(i:Nat) f d',fs[i]? = some f->ds[i]? = some d'->Rd nZ P w f.type d':=by
 obtain⟨cs,fuel,ps,hd⟩:=hd;obtain⟨zs,n,_,hx,nV,Xm,JF⟩:=DataW.trod_struct ht hd;simp only[a1n]at hx;refine⟨zs.map (·.1),hx.1,by simpa using Xm,fun i f d' e1 e2=>?_⟩;simp only[a5F,a0z]at e2;obtain⟨z,hz,rfl⟩:=e2;exact⟨_,n,z.2,by rw[JF i f e1,hz]⟩
theorem a7T{t e d}(ht:P.underlying t=some (.slice e))(hd:Rd nZ P w t d) :d=.nil\/∃xs ys,d=.slice xs ys/\∀y∈xs++ys,Rd nZ P w e y:=by
 obtain⟨cs,fuel,ps,hd⟩:=hd;rcases Deep.open_slice ht hd with⟨rfl,hx⟩|⟨a,len,cap,m,n,Dt,Pl,rfl,_,ZO,_,hm,hx,JF⟩
 .left;cases hx;rfl
 .right;simp only[a2r]at hm;subst hm;simp only[a1n]at hx;refine⟨_,_,hx.1,fun y hy=>?_⟩;have:∃i,i<m/\y=Dt i:=by
   rcases a3N.mp hy with hy|hy
   .obtain⟨i,hi,rfl⟩:=a1z.mp hy;exact⟨i,by have:=a5D.mp hi;omega,rfl⟩
   .obtain⟨i,hi,rfl⟩:=a1z.mp hy;exact⟨len+i,by have:=a5D.mp hi;omega,rfl⟩
  obtain⟨i,hi,rfl⟩:=this;obtain⟨cs',_,e2⟩:=JF i hi;exact⟨cs',n,_,e2⟩
theorem Yh{t:LI2}{fs:Array Field}{g:Nat}{ds:List (DataW H)}{h:List HB}(ht:P.underlying t=some (.struct fs)) :
  DI P (g+1) t (.agg ds) h=match Nh P (DI P g) 0 fs.toList ds h with
   |some (cs,h1)=>if cs.length=P.cellsOf t then some (cs,h1)else none
   |none=>none:=by
 simp only[DI,ht]<;>rfl
end
end Tw
namespace Pv
open Go Tw
structure qc(X:ny)(P:LI1)(kt:LI2)(α:Type)[DecidableEq α] where
 pv:α->PV X.Γ
 tv:α->TV
 v:α->LI3
 hp:∀x,qG (pv x)=some (tv x)
 ht:∀x,(tv x).zk=some (v x)
 hc:∀em x,aC P (Instr.checkKey em 10000 kt (v x))=some ()
 hf:∀(x:α) (l:List α),aC P (Instr.findKey kt (v x) (l.map fun y=>⟨v y,.bool false,0⟩))=some ((l.findIdx? fun y=>decide (x=y)).map fun i=>(i,.bool false))
 hk:∃kind,aC P (underlying kt)=some kind/\((∀x y,Instr.sameNow kind (v x) (v y)=some (decide (x=y)))\/∀x y,Instr.sameNow kind (v x) (v y)=none/\aC P (Op.equal kt (v x) (v y))=some (decide (x=y)))
variable{X:ny}{P:LI1}{kt:LI2}{α:Type}[DecidableEq α](C:qc X P kt α)
abbrev qc.es(l:List (α×PV X.Γ)):List (PV X.Γ×PV X.Γ):=l.map fun e=>(C.pv e.1,e.2)
theorem qc.tvs:∀l:List α,Tw.CQ (l.map C.tv)=some (l.map C.v)
 | []=>rfl
 |a::l=>by show(match(C.tv a).zk,Tw.CQ (l.map C.tv)with|some v,some vs=>some (v::vs)|_,_=>none)=_;rw[C.ht,qc.tvs l];rfl
theorem qc.find(x)(l:List α)(r)(hr:(l.findIdx? fun y=>decide (x=y))=r)(hs:∀(i) y,l[i]? = some y->decide (x=y)=(some i==r)):wE P kt (C.v x) (l.map C.tv)=some r:=by
 unfold wE;rw[C.tvs];simp only[];rw[bK,C.hc,a5J,a8l];show(match aC P (Instr.findKey kt (C.v x) (l.map fun y=>⟨C.v y,.bool false,0⟩))with|some r=>if Xc P kt (C.v x) (l.map C.v) (Option.map (fun(q:Nat×LI3)=>q.1) r)then some (Option.map (fun(q:Nat×LI3)=>q.1) r)else none|none=>none)=_;rw[C.hf,hr];have e:Option.map (fun(q:Nat×LI3)=>q.1) (r.map fun i=>(i,Value.bool false))=r:=by cases r<;>rfl
 simp only[e];rw[a18];obtain⟨kind,h1,h2⟩:=C.hk;simp only[Xc,h1,a2K,aag,a5L];constructor
 .cases r with
  |none=>rfl
  |some j=>
   have:=(aaK.1 hr).1;simpa using this
 have hz:∀p∈(l.map C.v).zipIdx,∃y,p.1=C.v y/\decide (x=y)=(some p.2==r):=fun p hp=>by have:=aau.1 hp;rw[a5F,a0z]at this;obtain⟨y,hy,e⟩:=this;exact⟨y,e.symm,hs _ _ hy⟩
 rcases h2 with h2|h2
 .left;intro p hp;obtain⟨y,e1,e2⟩:=hz p hp;rw[e1,h2,e2];simp
 right;intro p hp;obtain⟨y,e1,e2⟩:=hz p hp;rw[e1,(h2 x y).1,(h2 x y).2,e2];simp
theorem qc.pk:∀l,wC X (C.es l)=some ((l.map (·.1)).map C.tv)
 | []=>rfl
 |a::l=>by show(match qG (C.pv a.1),wC X (C.es l)with|some v,some vs=>some (v::vs)|_,_=>none)=_;rw[C.hp,qc.pk l];rfl
theorem qc.ck(x):∃kv,(C.tv x).zk=some kv/\aC P (Instr.checkKey false 10000 kt kv)=some ():=⟨C.v x,C.ht x,C.hc false x⟩
theorem qc.fresh{l x}(h:x∉l.map (·.1)):oH X P kt (C.es l) (C.tv x):=by
 refine⟨C.v x,_,C.ht x,C.pk l,?_⟩;have Zu:∀y∈l.map (·.1),decide (x=y)=false:=fun y hy=>by simp only[a3L];intro e;exact h (e▸hy)
 exact C.find x _ none (List.findIdx?_eq_none_iff.2 Zu) fun i y hy=>by rw[Zu y (a5M hy)];rfl
theorem qc.found{l x v}(hn:(l.map (·.1)).Nodup)(h:(x,v)∈l):qM X P kt (C.es l) (C.tv x) v:=by
 obtain⟨j,hj,e⟩:=a5Q.1 h;refine⟨C.v x,_,j,C.pv x,C.ht x,C.pk l,?_,?_⟩
 .have hxj:(l.map (·.1))[j]? = some x:=by simp[a0N hj,e]
  have hu:∀(i:Nat) y,(l.map (·.1))[i]? = some y->decide (x=y)=(some i==some j):=fun i y hy=>by
   rw[a5R];simp only[a1F,a6E,a08];constructor
   .rintro rfl;have i1:=a0w.1 hy;have i2:=a0w.1 hxj;exact(aaT hn (h₀:=i1.1) (h₁:=i2.1)).1 (i1.2.trans i2.2.symm)
   rintro rfl;rw[hxj]at hy;exact aai hy
  refine C.find x _ (some j) ?_ hu;rw[aaK];refine⟨by simpa using hj,by simp[e],fun i hi=>?_⟩;have hil:i<(l.map (·.1)).length:=by simp;omega
  rw[hu i _ (a0N hil)];simp;omega
 simp[qc.es,a0N hj,e]
theorem KG{t d}(h:P.underlying t=some d):aC P (underlying t)=some d:=by simp only[underlying,bK];show Option.bind (some P) _=_;simp[h];rfl
theorem a0I{v:α->LI3}(he:∀x y,aC P (Op.equal kt (v x) (v y))=some (decide (x=y)))(x):∀(l:List α) (i),aC P (Instr.findAsking kt (v x) (l.map fun y=>⟨v y,.bool false,0⟩) i)=some ((l.findIdx? fun y=>decide (x=y)).map fun j=>(j+i,.bool false))
 | [],i=>rfl
 |y::l,i=>by
  simp only[a4W,Instr.findAsking];rw[bK,he,a5J,List.findIdx?_cons];cases decide (x=y)with
  |true=>simp only[a2r,a1t,a3O];rfl
  |false=>
   simp only[a3F,a3V];rw[a0I he x l (i+1)];cases l.findIdx? fun y=>decide (x=y)with
   |none=>rfl
   |some j=>simp;omega
theorem a2C{v:α->LI3}{fs}(hu:P.underlying kt=some (.struct fs))(he:∀x y,aC P (Op.equal kt (v x) (v y))=some (decide (x=y)))(x)(l:List α):aC P (Instr.findKey kt (v x) (l.map fun y=>⟨v y,.bool false,0⟩))=some ((l.findIdx? fun y=>decide (x=y)).map fun i=>(i,.bool false)):=by
 have h:=a0I he x l 0;unfold Instr.findKey;rw[bK,KG hu,a5J];cases l with
 |nil=>rfl
 |cons y l=>
  rw[show Instr.findNow (.struct fs) (v x) ((y::l).map fun y=>⟨v y,.bool false,0⟩) 0=none by simp[Instr.findNow,Instr.sameNow]];exact h
theorem a2D{k}(x):∀(l:LI0) (i),Instr.findNow (.int k) (.int k x) (l.map fun y=>⟨.int k y,.bool false,0⟩) i=some ((l.findIdx? fun y=>decide (x=y)).map fun j=>(j+i,.bool false))
 | [],i=>rfl
 |y::l,i=>by
  simp only[a4W,Instr.findNow,Instr.sameNow,a2r];rw[List.findIdx?_cons];by_cases h:x=y
  .subst h;simp
  rw[show(x==y)=false by simpa using h,afk h];simp only[a3F,a3V];rw[a2D x l (i+1)];cases l.findIdx? fun y=>decide (x=y)with
  |none=>rfl
  |some j=>simp;omega
theorem agC{k}(hu:P.underlying kt=some (.int k))(x)(l:LI0):aC P (Instr.findKey kt (.int k x) (l.map fun y=>⟨.int k y,.bool false,0⟩))=some ((l.findIdx? fun y=>decide (x=y)).map fun i=>(i,.bool false)):=by unfold Instr.findKey;rw[bK,KG hu,a5J,a2D x l 0];cases l.findIdx? fun y=>decide (x=y)<;>rfl
theorem a2E{v:α->LI3}{fs}(hu:P.underlying kt=some (.struct fs))(he:∀x y,aC P (Op.equal kt (v x) (v y))=some (decide (x=y))) :∃kind,aC P (underlying kt)=some kind/\((∀x y,Instr.sameNow kind (v x) (v y)=some (decide (x=y)))\/∀x y,Instr.sameNow kind (v x) (v y)=none/\aC P (Op.equal kt (v x) (v y))=some (decide (x=y))):=
 ⟨_,KG hu,.inr fun x y=>⟨by simp[Instr.sameNow],he x y⟩⟩
theorem agD{k}(hu:P.underlying kt=some (.int k)) :∃kind,aC P (underlying kt)=some kind/\((∀x y,Instr.sameNow kind (.int k x) (.int k y)=some (decide (x=y)))\/∀x y,Instr.sameNow kind (.int k x) (.int k y)=none/\aC P (Op.equal kt (.int k x) (.int k y))=some (decide (x=y))):=
 ⟨_,KG hu,.inl fun x y=>by simp only[Instr.sameNow,a2r];congr 1⟩
theorem agE{v:α->LI3}{n e}(hu:P.underlying kt=some (.array n e))(he:∀x y,aC P (Op.equal kt (v x) (v y))=some (decide (x=y)))(x)(l:List α):aC P (Instr.findKey kt (v x) (l.map fun y=>⟨v y,.bool false,0⟩))=some ((l.findIdx? fun y=>decide (x=y)).map fun i=>(i,.bool false)):=by
 have h:=a0I he x l 0;unfold Instr.findKey;rw[bK,KG hu,a5J];cases l with
 |nil=>rfl
 |cons y l=>
  rw[show Instr.findNow (.array n e) (v x) ((y::l).map fun y=>⟨v y,.bool false,0⟩) 0=none by simp[Instr.findNow,Instr.sameNow]];exact h
theorem agF{v:α->LI3}{n e}(hu:P.underlying kt=some (.array n e))(he:∀x y,aC P (Op.equal kt (v x) (v y))=some (decide (x=y))) :∃kind,aC P (underlying kt)=some kind/\((∀x y,Instr.sameNow kind (v x) (v y)=some (decide (x=y)))\/∀x y,Instr.sameNow kind (v x) (v y)=none/\aC P (Op.equal kt (v x) (v y))=some (decide (x=y))):=
 ⟨_,KG hu,.inr fun x y=>⟨by simp[Instr.sameNow],he x y⟩⟩
end Pv
namespace Tw
open Go
section
variable{P:LI1}
theorem E5{e}(hg:aC P (isAgg e)=some false){xs i v}(h:xs[i]? = some v):aC P (part e xs i)=some v:=by unfold part;rw[bK,hg,a5J];simp only[a3F,a3V,h];rfl
def a4B(d:Nat)(e:LI2)(c:Nat)(xs ys:Array LI3):List Nat->Sem Bool
 | []=>pure true
 |i::is=>do
  let a <-part e xs (i*c)
  let b <-part e ys (i*c)
  let r <-Op.equalIn d e a b
  if(!r)=true then pure false else a4B d e c xs ys is
theorem KH(d){t e n c}(xs ys)(hu:P.underlying t=some (.array n e))(hs:aC P (sizeOf e)=some c) :aC P (Op.equalIn (d+1) t (.agg xs) (.agg ys))=aC P (a4B d e c xs ys (List.range' 0 n)):=by
 have hu':aC P (underlying t)=some (.array n e):=by simp only[underlying,bK];have:aC P program=some P:=rfl;simp[this,hu,aC];rfl
 simp only[Op.equalIn,bK,hu',a5J,hs];simp only[Std.Legacy.Range.forIn_eq_forIn_range',Std.Legacy.Range.size,Nat.sub_zero,Nat.add_one_sub_one,Nat.div_one];generalize List.range' 0 n=is;clear hu hu' hs
 induction is with
 |nil=>simp[a4B,aC,bK];rfl
 |cons j is ih=>
  simp only[List.forIn_cons,a4B,bK]at ih ⊢;generalize aC P (part e xs (j*c))=r1;cases r1 with
  |none=>simp
  |some a=>
   simp only[a5J];generalize aC P (part e ys (j*c))=r2;cases r2 with
   |none=>simp
   |some b=>
    simp only[a5J];generalize aC P (Op.equalIn d e a b)=r3;cases r3 with
    |none=>simp
    |some r=>
     cases r with
     |false=>simp only[a5J,abh,a2r];rfl
     |true=>simp only[a5J,aac,a3F,a3V];exact ih
abbrev E8(k:IntKind)(l:LI0):Array LI3:=(l.map fun x=>Value.int k x).toArray
theorem Qm{k l}{i:Nat}(h):(E8 k l)[i]? = some (.int k l[i]):=by simp[E8,h]
theorem MP{d e k k'}(hu:P.underlying e=some (.int k'))(hg:aC P (isAgg e)=some false)(l l')(hl:l.length=l'.length):∀(m i),i+m=l.length->aC P (a4B (d+1) e 1 (E8 k l) (E8 k l') (List.range' i m))=some (decide (l.drop i=l'.drop i))
 | 0,i,h=>by rw[agz (by omega),agz (by omega)];rfl
 |m+1,i,h=>by
  have h1:i<l.length:=by omega
  have h2:i<l'.length:=by omega
  rw[List.range'_succ];simp only[a4B,aiz];rw[bK,E5 hg (Qm h1),a5J,bK,E5 hg (Qm h2),a5J,bK,sD d e k k' _ _ hu,a5J];rw[a6u h1,a6u h2];by_cases hc:l[i]=l'[i]
  .have:=MP (d:=d) (k:=k) hu hg l l' hl m (i+1) (by omega);simp only[hc,beq_self_eq_true,aac,a3F,a3V,this,afj,true_and]
  have:(l[i]==l'[i])=false:=by simpa using hc
  simp only[this,abh,a2r,afj,hc,false_and,decide_false];rfl
theorem CG(d){t e n k k'}(ht:P.underlying t=some (.array n e))(hs:aC P (sizeOf e)=some 1)(hu:P.underlying e=some (.int k'))(hg:aC P (isAgg e)=some false){l l'}(hl:l.length=n)(hl':l'.length=n) :aC P (Op.equalIn (d+2) t (.agg (E8 k l)) (.agg (E8 k l')))=some (decide (l=l')):=by
 rw[KH (d+1) _ _ ht hs,MP hu hg l l' (by omega) n 0 (by omega),aaU,aaU]
end
end Tw
namespace Pv
open Go Tw
def yZ:Code->Option (Code×Code)
 |.seq a b=>match yZ a with
  |some r=>some r
  |none=>yZ b
 |.cond _ a b=>match yZ a with
  |some r=>some r
  |none=>yZ b
 |.block _ b=>yZ b
 |.loop b=>yZ b
 |.rangeFunc _ _ a b=>some (a,b)
 |_=>none
def xX(P:LI1)(f:Nat):Code:=
 match UR P f with
 |some t=>match yZ t.body with
  |some (a,_)=>a
  |none=>.skip
 |none=>.skip
def BF(P:LI1)(f:Nat):Code:=
 match UR P f with
 |some t=>match yZ t.body with
  |some (_,b)=>b
  |none=>.skip
 |none=>.skip
section
variable{X:ny}{P:LI1}
theorem EX{A m h}:∀{a b} {z:List TV},bZ X P A m h (a++b) z->∃x y,z=x++y/\bZ X P A m h a x/\bZ X P A m h b y
 | [],b,z,hz=>⟨[],z,rfl,.nil,hz⟩
 |v::a,b,z,hz=>by obtain⟨x0,r,rfl,v0,vr⟩:=bZ.inv (v:=v) (vs:=a++b) hz;obtain⟨x,y,rfl,h1,h2⟩:=EX vr;exact⟨x0::x,y,rfl,.cons v0 h1,h2⟩
theorem dI.fz(hX:bW X P){call f cs ws rest xs H H1 v}(is)(hs:dI X P call (.fn f [] []) (.agg (ws++rest)::xs) (bf is H) v H1)(hv:views H cs=some ws)(ho:∀i,i∈lG.kT cs->i∈is):dI X P call (.fn f [] []) (.agg (cs++rest)::xs) H v H1:=by
 intro A m h tf rJ hr hf hx;obtain⟨x0,r,rfl,v0,vr⟩:=hx.inv;cases v0 with
 |gone hi _ _=>simp[bC]at hi
 |agg a1 a2=>
  rename_i cs';have ha:bZ X P (AA A m) m h (cs++rest) cs':=⟨a1,a2⟩;obtain⟨c1,c2,rfl,b1,b2⟩:=EX ha;have hF:=iP (h:=h) is m;have w1:=(lX (m':=cu is m) hX hr b1 hv ho).mono fun b hb=>FA.gone hr hb;have w2:=b2.step hF.1 hF.2;have w3:=w1.app w2;obtain⟨w,h',Xe,m1,k1,k2,k3,k4,k5,k6⟩:=hs A (cu is m) h tf (.agg (c1++c2)::r) (hr.bf is) (hf.step hF.1 hF.2) (.cons (.agg w3.1 w3.2) (vr.step hF.1 hF.2));refine⟨w,h',Xe,m1,k1,k2,k3,hF.1.trans k4,hF.2.trans k5,fun b hb=>?_⟩;rcases hF.1.new b (k6 b hb)with g|g
  .exact g
  have:=(hr.bf is).inb (k6 b hb);omega
end
theorem Good.a7U{X P T L α β f a}{r:Ar X P β}{S}{pre:α->List Prop}{fU Y8 a7V:fV X.Γ}(d:Nat)(hg:Good X P T L fU)(hg2:Good X P T L Y8)(hg3:Good X P T L a7V)(hf:∀n,d<=n->(∀m,n-d<=m->jR X P (kR P T L m) fU)->(∀m,n-d<=m->jR X P (kR P T L m) Y8)->(∀m,n-d<=m->jR X P (kR P T L m) a7V)->∀x,(∀p∈pre x,p)->nN X P (kR P T L (n+1)) f (a.put x) (r.put (S x)) []):Good X P T L (bU f a r S pre fU):=by
 obtain⟨N2,hN2⟩:=hg2;obtain⟨N3,hN3⟩:=hg3;obtain⟨M,hM⟩:=hg;refine⟨M+N2+N3+d+1,fun n hn=>?_⟩;obtain⟨k,rfl⟩:∃k,n=k+1:=⟨n-1,by omega⟩;intro g vs v ext ps ho hp;unfold bU at ho;split at ho
 .rename_i e;have e:=aa6 e;subst e;split at ho
  .rename_i x hx;cases ho;intro A h first args cap G5 hv
   exact hf k (by omega) (fun m hm=>hM m (by omega)) (fun m hm=>hN2 m (by omega)) (fun m hm=>hN3 m (by omega)) x hp A h first args cap G5 (a.ok hx hv)
  .exact hM (k+1) (by omega) g vs v ext ps ho hp
 .exact hM (k+1) (by omega) g vs v ext ps ho hp
end Pv
namespace bV
open Tw
section
variable{κ:Type}[DecidableEq κ]
def uf(m:List (κ×Int))(k:κ)(n:Int):List (κ×Int):=
 if k∈m.map (·.1)then m.modify ((m.map (·.1)).idxOf k) (fun e=>(e.1,e.2+n))else m++[(k,n)]
def dL(φ:κ->Int):List (κ×Int)->Int
 | []=>0
 |e::m=>e.2*φ e.1+dL φ m
theorem Yi(φ:κ->Int):∀a b,dL φ (a++b)=dL φ a+dL φ b
 | [],b=>by simp[dL]
 |e::a,b=>by simp only[List.cons_append,dL,Yi φ a b];omega
theorem Yj(φ:κ->Int){k n}:∀{m},k∈m.map (·.1)->dL φ (m.modify ((m.map (·.1)).idxOf k) fun e=>(e.1,e.2+n))=dL φ m+n*φ k
 | [],h=>by simp at h
 |e::m,h=>by
  by_cases e1:e.1=k
  .have:((e::m).map (·.1)).idxOf k=0:=(by simp[aeJ,e1]);rw[this];simp only[List.modify_zero_cons,dL,aiy,e1];omega
  have h2:k∈m.map (·.1):=by rw[a4W,a1G]at h;exact h.resolve_left fun h=>e1 h.symm
  have:((e::m).map (·.1)).idxOf k=(m.map (·.1)).idxOf k+1:=by simp[aeJ,aiv.2 e1]
  rw[this];simp only[List.modify_succ_cons,dL,Yj φ h2];omega
theorem Ad(φ:κ->Int)(m k n):dL φ (uf m k n)=dL φ m+n*φ k:=by
 unfold uf;split
 .exact Yj φ ‹_›
 rw[Yi];simp[dL]
theorem Yk{f:Int->Int}:∀(m:List (κ×Int)) (j:Nat),(m.modify j fun e=>(e.1,f e.2)).map (·.1)=m.map (·.1)
 | [],j=>by simp
 |e::m,0=>by simp
 |e::m,j+1=>by simp[Yk m j]
theorem Ua(m:List (κ×Int))(k n):(uf m k n).map (·.1)=if k∈m.map (·.1)then m.map (·.1)else m.map (·.1)++[k]:=by
 unfold uf;split
 .exact Yk (f:=fun x=>x+n) m _
 simp
theorem H7{m:List (κ×Int)}(h:(m.map (·.1)).Nodup)(k n):((uf m k n).map (·.1)).Nodup:=by
 rw[Ua];split
 .exact h
 rename_i h2;rw[a9M];exact⟨h,by simp,fun x hx y hy e=>by simp at hy;subst hy;subst e;exact h2 hx⟩
theorem a2F{f}:∀{m:List (κ×Int)} {j:Nat} {e:κ×Int},e∈m.modify j f->e∈m\/∃e'∈m,e=f e'
 | [],j,e,h=>by simp at h
 |x::m,0,e,h=>by
  rw[List.modify_zero_cons,a1G]at h;rcases h with h|h
  .exact .inr ⟨x,by simp,h⟩
  exact .inl (by simp[h])
 |x::m,j+1,e,h=>by
  rw[List.modify_succ_cons,a1G]at h;rcases h with h|h
  .exact .inl (by simp[h])
  rcases a2F h with h|⟨e',h1,h2⟩
  .exact .inl (by simp[h])
  exact .inr ⟨e',by simp[h1],h2⟩
theorem Qn{m:List (κ×Int)}{k n}(hn:0<n)(h:∀e∈m,0<e.2):∀e∈uf m k n,0<e.2:=fun e he=>by
 unfold uf at he;split at he
 .rcases a2F he with h1|⟨e',h1,rfl⟩
  .exact h e h1
  .have:=h e' h1;show 0<e'.2+n;omega
 .rcases a3N.1 he with h1|h1
  .exact h e h1
  .rw[a2p.1 h1];exact hn
theorem a7W{m:List (κ×Int)}{k n e}(he:e∈uf m k n):e.1=k\/∃e'∈m,e'.1=e.1:=by
 have:e.1∈(uf m k n).map (·.1):=a1z.2 ⟨e,he,rfl⟩;rw[Ua]at this;split at this
 .obtain⟨e',h1,h2⟩:=a1z.1 this;exact .inr ⟨e',h1,h2⟩
 rcases a3N.1 this with h1|h1
 .obtain⟨e',h1,h2⟩:=a1z.1 h1;exact .inr ⟨e',h1,h2⟩
 exact .inl (by simpa using h1)
def ind(k:κ)(x:κ):Int:=if x=k then 1 else 0
theorem VP{k:κ}:∀{m},k∉m.map (·.1)->dL (ind k) m=0
 | [],_=>rfl
 |e::m,h=>by rw[a4W,a1G,adk]at h;simp only[dL,VP h.2,ind,a0U (fun e1:e.1=k=>h.1 e1.symm)];omega
theorem J8:∀{m} {e:κ×Int},(m.map (·.1)).Nodup->e∈m->dL (ind e.1) m=e.2
 |x::m,e,hn,h=>by
  rw[a4W,a5I]at hn;rcases a1G.1 h with rfl|h
  .simp only[dL,VP hn.1,ind,a2r];omega
  have:¬x.1=e.1:=fun e1=>hn.1 (a1z.2 ⟨e,h,e1.symm⟩);simp only[dL,J8 hn.2 h,ind,a0U this];omega
theorem Yl{m:List (κ×Int)}(hn:(m.map (·.1)).Nodup)(hp:∀e∈m,0<e.2)(e):e∈m↔0<e.2/\dL (ind e.1) m=e.2:=by
 constructor
 .exact fun h=>⟨hp e h,J8 hn h⟩
 rintro⟨h1,h2⟩;by_cases h:e.1∈m.map (·.1)
 .obtain⟨e',h3,h4⟩:=a1z.1 h;have:=J8 hn h3;have h4:e'.1=e.1:=h4;rw[h4,h2]at this;have:e'=e:=abk h4 this.symm;rw[<-this];exact h3
 rw[VP h]at h2;omega
theorem J9{β:Type}{f:κ×Int->β}{l:List (κ×Int)}(h:(l.map f).Nodup):l.Nodup:=by rw[List.Nodup,agy]at h;exact h.imp fun{a b} h (e:a=b)=>h (congrArg f e)
theorem VQ{m m':List (κ×Int)}(h1:(m.map (·.1)).Nodup)(h2:(m'.map (·.1)).Nodup)(p1:∀e∈m,0<e.2)(p2:∀e∈m',0<e.2)(h:∀φ,dL φ m=dL φ m'):m.Perm m':=
 (a7t (J9 h1) (J9 h2)).2 fun e=>by rw[Yl h1 p1,Yl h2 p2,h]
theorem a4C(φ:κ->Int){m m'}(h:m.Perm m'):dL φ m=dL φ m':=by
 induction h with
 |nil=>rfl
 |cons x _ ih=>simp only[dL,ih]
 |swap x y l=>simp only[dL];omega
 |trans _ _ h1 h2=>exact h1.trans h2
def BG(l:List κ):List (κ×Int):=l.foldl (fun m k=>uf m k 1) []
def eF(φ:κ->Int):List κ->Int
 | []=>0
 |k::l=>φ k+eF φ l
theorem Ym(φ:κ->Int):∀(l) (m),dL φ (l.foldl (fun m k=>uf m k 1) m)=dL φ m+eF φ l
 | [],m=>by simp[eF]
 |k::l,m=>by rw[aey,Ym φ l,Ad,eF];omega
theorem Ub(φ:κ->Int)(l):dL φ (BG l)=eF φ l:=by unfold BG;rw[Ym];simp[dL]
theorem H8(l:List κ):((BG l).map (·.1)).Nodup/\∀e∈BG l,0<e.2:=by
 have:∀(l:List κ) (m:List (κ×Int)),(m.map (·.1)).Nodup->(∀e∈m,0<e.2)->((l.foldl (fun m k=>uf m k 1) m).map (·.1)).Nodup/\∀e∈l.foldl (fun m k=>uf m k 1) m,0<e.2:=by
  intro l
  induction l with
  |nil=>exact fun m h1 h2=>⟨h1,h2⟩
  |cons k l ih=>exact fun m h1 h2=>ih _ (H7 h1 k 1) (Qn (by omega) h2)
 exact this l [] (by simp) (by simp)
theorem KI(φ:κ->Int){l l'}(h:l.Perm l'):eF φ l=eF φ l':=by
 induction h with
 |nil=>rfl
 |cons x _ ih=>simp only[eF,ih]
 |swap x y l=>simp only[eF];omega
 |trans _ _ h1 h2=>exact h1.trans h2
theorem Ja(φ:κ->Int):∀a b,eF φ (a++b)=eF φ a+eF φ b
 | [],b=>by simp[eF]
 |e::a,b=>by simp only[List.cons_append,eF,Ja φ a b];omega
end
theorem KJ:∀a b,lU a b=true\/lU b a=true
 | [],_=>.inl rfl
 |_::_,[]=>.inr rfl
 |a::az,b::bs=>by
  simp only[lU];rcases Int.lt_trichotomy a b with h|h|h
  .simp[h]
  .subst h;simpa using KJ az bs
  simp[h]
theorem Ea:∀a b,lU a b=true->lU b a=true->a=b
 | [],[],_,_=>rfl
 | [],_::_,_,h=>by cases h
 |_::_,[],h,_=>by cases h
 |a::az,b::bs,h1,h2=>by
  simp only[lU]at h1 h2;rcases Int.lt_trichotomy a b with h|h|h
  .rw[a0U (by omega),a18 h]at h2;cases h2
  .subst h;simp at h1 h2;rw[Ea az bs h1 h2]
  rw[a0U (by omega),a18 h]at h1;cases h1
theorem lex_trans:∀a b c,lU a b=true->lU b c=true->lU a c=true
 | [],_,_,_,_=>rfl
 |_::_,[],_,h,_=>by cases h
 |_::_,_::_,[],_,h=>by cases h
 |a::az,b::bs,c::cs,h1,h2=>by
  simp only[lU]at h1 h2 ⊢;split at h1
  .split at h2
   .rw[a18 (by omega)]
   split at h2
   .cases h2
   rw[a18 (by omega)]
  split at h1
  .cases h1
  split at h2
  .rw[a18 (by omega)]
  split at h2
  .cases h2
  rw[a0U (by omega),a0U (by omega)];exact lex_trans az bs cs h1 h2
section
variable{α:Type}{key:α->LI0}
theorem Uc{a b}(h:key a=key b->a=b):∀s,FC key a (FC key b s)=FC key b (FC key a s)
 | []=>by
  by_cases e:a=b
  .rw[e]
  simp only[FC];rcases KJ (key a) (key b)with h1|h1
  .have:lU (key b) (key a)=false:=by
    cases h2:lU (key b) (key a)
    .rfl
    exact absurd (h (Ea _ _ h1 h2)) e
   simp[h1,this]
  have:lU (key a) (key b)=false:=by
   cases h2:lU (key a) (key b)
   .rfl
   exact absurd (h (Ea _ _ h2 h1)) e
  simp[h1,this]
 |c::s=>by
  by_cases e:a=b
  .rw[e]
  have hx:lU (key a) (key b)=!lU (key b) (key a):=by
   rcases KJ (key a) (key b)with h1|h1
   .cases h2:lU (key b) (key a)
    .rw[h1];rfl
    exact absurd (h (Ea _ _ h1 h2)) e
   cases h2:lU (key a) (key b)
   .rw[h1];rfl
   exact absurd (h (Ea _ _ h2 h1)) e
  cases h1:lU (key a) (key c)<;>cases h2:lU (key b) (key c)
  .simp only[FC,h1,h2,a3F,a3V,Uc h s]
  .have h3:lU (key a) (key b)=false:=by
    cases h3:lU (key a) (key b)
    .rfl
    rw[lex_trans _ _ _ h3 h2]at h1;cases h1
   simp only[FC,h1,h2,h3,a3F,a3V,a2r]
  .have h3:lU (key b) (key a)=false:=by
    cases h3:lU (key b) (key a)
    .rfl
    rw[lex_trans _ _ _ h3 h1]at h2;cases h2
   simp only[FC,h1,h2,h3,a3F,a3V,a2r]
  cases h3:lU (key b) (key a)<;>rw[h3]at hx<;>simp[FC,h1,h2,h3,hx]
theorem Gj{l l'}(h:l.Perm l')(hi:∀a∈l,∀b∈l,key a=key b->a=b):zV key l=zV key l':=by
 induction h with
 |nil=>rfl
 |cons x _ ih=>simp only[zV,ih fun a ha b hb=>hi a (by simp[ha]) b (by simp[hb])]
 |swap x y l=>exact Uc (hi y (by simp) x (by simp)) _
 |trans h1 h2 i1 i2=>exact(i1 hi).trans (i2 fun a ha b hb=>hi a (h1.mem_iff.2 ha) b (h1.mem_iff.2 hb))
theorem Ud{β}{g:α->β}{key2}(h:∀a,key2 (g a)=key a):∀l,zV key2 (l.map g)=(zV key l).map g:=by
 have hi:∀(a:α) (s:List α),FC key2 (g a) (s.map g)=(FC key a s).map g:=by
  intro a s
  induction s with
  |nil=>rfl
  |cons c s ih=>
   simp only[a4W,FC,h];split
   .rfl
   rw[a4W,ih]
 intro l
 induction l with
 |nil=>rfl
 |cons a l ih=>simp only[a4W,zV,ih,hi]
end
end bV
namespace Pv
open Go Tw
section
variable{P:LI1}{T:vw}{call:dN}{cd:xJ}{L f:Nat}{fl nt:Nat}
def oO:Code->Bool
 |.rangeFunc ..=>false
 |.region _ ops _=>(Bc ops).isNone
 |.seq a b=>oO a&&oO b
 |.cond _ a b=>oO a&&oO b
 |.block _ b=>oO b
 |.scope b=>oO b
 |.loop b=>oO b
 |_=>true
theorem a7X:∀(c) {s s'} {e} {Q},oO c=true->exec P T call L f false fl nt c s=some (e,s')->Q e s'->fJ P T call cd L f fl nt c s Q:=by
 intro c
 induction c with
 |region id ops draw=>
  intro s s' e Q hn h hq;simp only[oO,Option.isNone_iff_eq_none]at hn;simp only[fJ,hn];exact⟨_,_,h,hq⟩
 |seq x y Xx ihy=>
  intro s s' e Q hn h hq;simp only[oO,a2K]at hn;simp only[fJ];simp only[exec]at h;split at h
  .rename_i s1 hx;exact Xx hn.1 hx (ihy hn.2 h hq)
  rename_i iI;refine Xx hn.1 h ?_;cases e with
  |norm=>exact(iI s' h).elim
  |exit i=>exact hq
  |ret=>exact hq
 |cond c x y Xx ihy=>
  intro s s' e Q hn h hq;simp only[oO,a2K]at hn;simp only[fJ];simp only[exec]at h;split at h
  .rename_i hc;simp only[hc];exact Xx hn.1 h hq
  .rename_i hc;simp only[hc];exact ihy hn.2 h hq
  cases h
 |block id b ih=>
  intro s s' e Q hn h hq;simp only[oO]at hn;simp only[fJ];simp only[exec]at h;split at h
  .rename_i i s1 hb;cases h;exact ih hn hb hq
  rename_i iI;refine ih hn h ?_;cases e with
  |exit i=>exact(iI i s' h).elim
  |norm=>exact hq
  |ret=>exact hq
 |scope b ih=>
  intro s s' e Q hn h hq;simp only[oO]at hn;simp only[fJ];simp only[exec]at h;exact ih hn h hq
 |loop b ih=>
  intro s s' e Q hn h hq;simp only[oO]at hn;simp only[fJ];simp only[exec]at h;have:∀(k:Nat) {s:St},iter (fun s=>exec P T call L f false fl nt b (kJ (T.eY f (dW b)) s)) k s=some (e,s')->Iu (fun s Q=>fJ P T call cd L f fl nt b (kJ (T.eY f (dW b)) s) Q) k s Q:=by
   intro k
   induction k with
   |zero=>intro s h;simp[iter]at h
   |succ k ihk=>
    intro s h;simp only[iter]at h;split at h
    .rename_i s1 h1;exact ih hn h1 (ihk h)
    rename_i iI;refine ih hn h ?_;cases e with
    |norm=>exact(iI s' h).elim
    |exit i=>exact hq
    |ret=>exact hq
  exact this L h
 |rangeFunc=>intro s s' e Q hn;cases hn
 |_=>
  intro s s' e Q hn h hq;simp only[fJ];exact⟨_,_,h,hq⟩
end
section
variable{X:ny}{P:LI1}{T:vw}{call:dN}{cd:xJ}{L f nt B:Nat}
def aJ(X:ny)(P:LI1)(T:vw)(call:dN)(cd:xJ)(L f nt B:Nat)(c:Code)(ps:bT X.Γ)(Q:Ex->bT X.Γ->Prop):Prop:=
 ∀(A W:Nat->Prop) (fl:Nat) (m:List MB) (ts:St) (R:Ex->St->Prop),SR X P A W fl m ps ts->(∀e iT ps1 m1,Q e ps1->SR X P A W fl m1 ps1 iT->Fr m ts.heap m1 iT.heap->O6 B m m1->R e iT)->fJ P T call cd L f fl nt c ts R
theorem aJ.mono{c ps Q Q'}(hq:∀e s,Q e s->Q' e s)(h:aJ X P T call cd L f nt B c ps Q):aJ X P T call cd L f nt B c ps Q':=fun A W fl m ts R hS hR=>
 h A W fl m ts R hS fun e iT ps1 m1 a1=>hR e iT ps1 m1 (hq _ _ a1)
theorem dR.dem{c ps ps1 e Q}(hn:oO c=true)(h:dR X P T call L f false nt B c ps e ps1)(hq:Q e ps1):aJ X P T call cd L f nt B c ps Q:=fun A W fl m ts R hS hR=>by obtain⟨iT,m1,h1,h2,h3,h4⟩:=h A W fl m ts hS;exact a7X c hn h1 (hR _ _ ps1 m1 hq h2 h3 h4)
theorem aJ.seq{a b ps Q R}(ha:aJ X P T call cd L f nt B a ps R)(hb:∀s,R .norm s->aJ X P T call cd L f nt B b s Q)(he:∀i s,R (.exit i) s->Q (.exit i) s)(hr:∀s,R .ret s->Q .ret s):aJ X P T call cd L f nt B (.seq a b) ps Q:=fun A W fl m ts R' hS hR=>by
 simp only[fJ];refine ha A W fl m ts _ hS fun e iT ps1 m1 a1 a2 a3 a4=>?_;cases e with
 |norm=>exact hb ps1 a1 A W fl m1 iT R' a2 fun e ts2 Dq m2 b1 b2 b3 b4=>hR e ts2 Dq m2 b1 b2 (a3.trans b3) (a4.trans b4)
 |exit i=>exact hR _ _ ps1 m1 (he _ _ a1) a2 a3 a4
 |ret=>exact hR _ _ ps1 m1 (hr _ a1) a2 a3 a4
theorem aJ.block{id:Nat}{b:Code}{ps:bT X.Γ}{Q:Ex->bT X.Γ->Prop}(h:aJ X P T call cd L f nt B b ps fun e s=>Q (match e with|.exit i=>if i=id then .norm else .exit i|e=>e) s):aJ X P T call cd L f nt B (.block id b) ps Q:=fun A W fl m ts R hS hR=>by simp only[fJ];exact h A W fl m ts _ hS fun e iT ps1 m1 a1 a2 a3 a4=>hR _ iT ps1 m1 a1 a2 a3 a4
theorem aJ.loop{b:Code}{Q:Ex->bT X.Γ->Prop}(I:Nat->bT X.Γ->Prop)
  (h:∀k s,I k s->aJ X P T call cd L f nt B b (iq X (T.eY f (dW b)) s) fun e s=>match e with|.norm=>∃j,j<k/\I j s|e=>Q e s) {k:Nat} {ps:bT X.Γ} (hi:I k ps) (hk:k<L):aJ X P T call cd L f nt B (.loop b) ps Q:=fun A W fl m ts R hS hR=>by
 simp only[fJ];have key:∀(n k:Nat) (ps:bT X.Γ) (m1:List MB) (iT:St),k<n->I k ps->SR X P A W fl m1 ps iT->Fr m ts.heap m1 iT.heap->O6 B m m1->Iu (fun s Q=>fJ P T call cd L f fl nt b (kJ (T.eY f (dW b)) s) Q) n iT R:=by
  intro n
  induction n with
  |zero=>intro k ps m ts hk;omega
  |succ n ih=>
   intro k ps m1 iT hk hi hS hF hU;simp only[Iu];refine h k ps hi A W fl m1 _ _ (hS.head _) fun e ts2 Dq m2 a1 a2 a3 a4=>?_;have a3:Fr m1 iT.heap m2 ts2.heap:=a3;cases e with
   |norm=>
    obtain⟨j,hj,AY⟩:=a1;exact ih j Dq m2 ts2 (by omega) AY a2 (hF.trans a3) (hU.trans a4)
   |exit i=>exact hR _ _ Dq m2 a1 a2 (hF.trans a3) (hU.trans a4)
   |ret=>exact hR _ _ Dq m2 a1 a2 (hF.trans a3) (hU.trans a4)
 exact key L k ps m ts hk hi hS .refl Up.refl.b
theorem aJ.cond{c a b ps t Q}(hc:Az ps.env c=some (.bool t))(h:aJ X P T call cd L f nt B (if t then a else b) ps Q):aJ X P T call cd L f nt B (.cond c a b) ps Q:=fun A W fl m ts R hS=>by
 obtain⟨x,g1,g2⟩:=jJ hS.st.env hc;have hx:x=.bool t:=by
  cases g2 with
  |bool=>rfl
  |gone hi _ _=>simp[bC]at hi
 subst hx;simp only[fJ,g1];cases t with
 |true=>exact h A W fl m ts R hS
 |false=>exact h A W fl m ts R hS
theorem aJ.next{id it nx mo b r n seen ops draw o1 o2 ps es Q}(hn:Bc ops=some (it,nx,o1,o2))(hd:nx<nt)(hd2:mo<nt)(h2:o2.op=.extract (.tmp nx) 0) (h3:o2.dst=some mo) (h4:o2.guard=none)(RQ:Az ps.env (.tmp it)=some (.iter b)) (hb:ps.heap[b]? = some (.dh r n seen)) (hr:Me X ps.heap r=some es) (hl:es.length=n)(wZ:(∀j,j<n->j∈seen)->Q .norm { ps with env:=jB (T.iJ f id) ((mo,.val (.bool false))::(nx,.val (.dK [.bool false]))::ps.env) })(pick:∀j e,j∉seen->es[j]? = some e->Q .norm { ps with env:=jB (T.iJ f id) ((mo,.val (.bool true))::(nx,.val (.dK [.bool true,e.1,e.2]))::ps.env),heap:=ps.heap.set b (.dh r n (j::seen)) }) :aJ X P T call cd L f nt B (.region id ops draw) ps Q:=fun A W fl m ts R hS hR0=>by
 obtain⟨x,g1,g2⟩:=jJ hS.st.env RQ;obtain⟨mb,q1,q2⟩:=hS.st.heap.at_ b _ hb;obtain⟨cr,gQ,q3,z1,z2,z3⟩:=DT hS.st.heap hr;cases mb with
 |gJ cb=>
   obtain⟨c,p1,p2,p3⟩:=q2;have:=p3 cr (by rcases q3 with q|⟨q,_⟩;exact .inl q;exact .inr q);subst this;cases g2 with
   |gone hi e _=>simp only[bC,a08]at hi;subst hi;rw[q1]at e;cases e
   |iter e1=>
    rw[q1]at e1;cases e1;have aqy:dQ it ts.env=some (.val (.iter cb)):=by
     unfold rM at g1;split at g1
     .rename_i v hv;cases g1;exact hv
     .cases g1
    have run:∀(s:St) (t:Bool) (vs:List TV),lQ P call (fun d=>T.UU f d) fl nt ops [o2] (s.put (some nx) (.val (.dK (.bool t::vs))))=some ({ s with env:=(mo,.val (.bool t))::(nx,.val (.dK (.bool t::vs)))::s.env },[cO]):=by intro s t vs;have e1:Ox nt o2=true:=(by simp[Ox,h3,hd2]);have e2:∀env,Dl ops env o2=some true:=fun env=>(by simp[Dl,h4]);simp only[lQ,e1,e2,aac,a3F,a3V,qo,h2];simp[St.put,JD,dQ,h3,kH,cO,zI]
    simp only[fJ,hn];refine⟨hd,cb,cr,n,seen,gQ,aqy,p1,z1,by rw[<-z2];exact hl,fun Gx=>?_,fun j e hj he=>?_⟩
    .refine⟨_,_,run ts false [],hR0 _ _ { ps with env:=_ } m (wZ Gx) ?_ .refl Up.refl.b⟩;have hS2:vZ X P A m { ps with env:=(mo,.val (.bool false))::(nx,.val (.dK [.bool false]))::ps.env } { ts with env:=(mo,.val (.bool false))::(nx,.val (.dK [.bool false]))::ts.env }:=
      ⟨hS.st.heap,hS.st.llen,hS.st.loc,.cons (.bool false) (.cons (bZ.cons (.bool false) .nil |> fun h=>.dK h.1 h.2) hS.st.env)⟩
     exact SR.pick ⟨hS2,hS.own,hS.ws,hS.fl⟩ _
    .have aQ:j<es.length:=by rw[z2];exact(a0w.1 he).1
     have hej:=a0N aQ;have hv:=z3 j _ _ hej he;have hcb:=(a0w.1 p1).1;obtain⟨u1,u2⟩:=hS.st.heap.set (pb:=.dh r n (j::seen)) (hb:=.dh cr n (j::seen)) q1 (c:=cb) rfl (fun cs hc=>by simp[aV,p1]at hc) fun hF=>⟨cr,by simp[hcb],p2,p3⟩;refine⟨_,_,run _ true [e.1,e.2],hR0 _ _ { ps with env:=_,heap:=_ } m (pick j _ hj hej) ?_ u2 Up.refl.b⟩;have hS1:=hS.st.step u1 u2 .refl;have hS2:vZ X P A m { ps with env:=(mo,.val (.bool true))::(nx,.val (.dK [.bool true,es[j].1,es[j].2]))::ps.env,heap:=ps.heap.set b (.dh r n (j::seen)) } { ts with env:=(mo,.val (.bool true))::(nx,.val (.dK [.bool true,e.1,e.2]))::ts.env,heap:=ts.heap.set cb (.dh cr n (j::seen)),ws:=kH fl [.h cb] ts.ws }:=
      ⟨hS1.heap,hS1.llen,hS1.loc,.cons (.bool true) (.cons (bZ.cons (.bool true) (bZ.cons (oK hv.1) (bZ.cons (oK hv.2) .nil)) |> fun h=>.dK h.1 h.2) hS1.env)⟩
     refine SR.pick ⟨hS2,hS.own,fun b2 yN=>?_,by simpa using hS.fl⟩ _;rcases pO.1 yN with h5|⟨h5,h6⟩
     .exact hS.ws b2 h5
     .simp at h5;subst h5;exact(hS.own _ (aY q1 rfl)).resolve_right (by omega)
 |_=>exact q2.elim
def abr(X:ny)(P:LI1)(cd:xJ)(fv:PV X.Γ)(xs:List (PV X.Γ))(H:List (PB X.Γ))(K:PV X.Γ->List (PB X.Γ)->Prop):Prop:=
 ∀(A:Nat->Prop) (m:List MB) (h:List HB) (tf:TV) (rJ:List TV) (R:TV->List HB->List Nat->Prop),HR X P A m H h->VR X P (AA A m) m h fv tf->bZ X P (AA A m) m h xs rJ ->
  (∀w h1 ws m1 v H1,K v H1->HR X P A m1 H1 h1->VR X P (AA A m1) m1 h1 v w->Fr m h m1 h1->Up m m1->(∀b∈ws,b∈aZ m)->R w h1 ws)->cd tf rJ h R
theorem a2G{n t first xs cap H K}(hX:bW X P)(ht:UR P f=some t)(hE:aJ X P T (kR P T L n) DC L f t.nt H.length t.body ⟨lM X 0 (first++xs++cap),[],H⟩ fun e s=>(e=.norm\/e=.ret)/\∃us,Gg X P s t.results=some us/\K (a0r X us) s.heap):abr X P (vW P T (kR P T L n) L) (.fn f first cap) xs H K:=by
 intro A m h tf rJ R hr hf Gy hR;cases hf with
 |gone hi _ _=>simp[bC]at hi
 |fn p1 p2 p3 p4=>
  rename_i a' c';have G8:=(bZ.app ⟨p1,p2⟩ Gy).app ⟨p3,p4⟩;refine⟨t,ht,hE A (fun b=>b∈aZ m) _ m _ _ ⟨⟨hr,rfl,fun k cs hk=>by simp at hk,O7 G8⟩,fun b h1=>.inl h1,fun b hb=>(by cases hb),a1p _⟩ fun e iT ps1 m1 ⟨he,us,hus,hk⟩ h3 h4 h5=>?_⟩;obtain⟨ws,g1,g2⟩:=JY hX h3.st hus;refine⟨he,ws,g1,hR _ _ _ m1 _ _ hk h3.st.heap (VJ g2) h4 (fun i mb hi=>h5 i mb ?_ hi) h3.ws⟩;rw[<-hr.len];exact(a0w.1 hi).1
theorem aJ.range(hX:bW X P){g}{qs:Array Nat}{vU body ps f1 a1 b1 K Q}(hg:Az ps.env g=some (.fn f1 a1 b1)) (hd:T.din.contains f1=true) (Gx:(ps.env.all fun p=>a0G p.2)=true)(aqz:abr X P cd (.fn f1 a1 b1) [.l9 (ps.heap.length+1)] (ps.heap++[.mark]++[.loop true f nt ps.env qs.toList vU body none]) K)(hk:∀v H1,K v H1->∃rd f2 RF e2 Dq a2 b2 jU e,H1[ps.heap.length+1]? = some (.loop rd f2 RF e2 Dq a2 b2 jU)/\SH rd jU=some e/\Q e { ps with heap:=H1.set (ps.heap.length+1) (.loop false f2 RF e2 Dq a2 b2 (some .skip)) }) :aJ X P T call cd L f nt B (.rangeFunc g qs vU body) ps Q:=by
 intro A W fl m ts R hS hR;obtain⟨tg,g1,g2⟩:=jJ hS.st.env hg;have hm:=hS.st.heap.len;obtain⟨p1,p2,p3⟩:=hS.st.heap.push (pb:=.mark) (hb:=.mark) (mb:=.gJ ts.heap.length) (.inl rfl) (by simp[BR]);obtain⟨q1,q2,q3⟩:=p1.push (pb:=.loop true f nt ps.env qs.toList vU body none) (hb:=.loop true f nt ts.env qs.toList vU body none) (mb:=.gJ (ts.heap.length+1)) (.inl (by simp[MB.own])) (by
  refine⟨ts.env,by simp,?_⟩;refine kG.step (m:=m) (h:=ts.heap) (A:=A) ?_ ?_ hS.st.env
  .have r2:Fr (m++[MB.gJ ts.heap.length]) (ts.heap++[HB.mark]) (m++[MB.gJ ts.heap.length]++[MB.gJ (ts.heap.length+1)]) (ts.heap++[HB.mark]++[HB.loop true f nt ts.env qs.toList vU body none]):=by
    refine⟨by simp,fun b hb _=>by rw[a0Q hb],fun b hb=>?_,fun b cs hc=>⟨cs,?_,a1p _⟩⟩
    .rw[jw,a3N,kU]at hb;rcases hb with hb|hb
     .exact .inl hb
     .simp[MB.own]at hb;subst hb;exact .inr (by simp)
    .rw[fF (a0Q (fG hc)),hc]
   exact p2.trans r2
  .exact p3.trans (xQ _))
 have hF:=p2.trans q2;have hU:=p3.trans q3;have hyl:VR X P (AA A (m++[MB.gJ ts.heap.length]++[MB.gJ (ts.heap.length+1)])) (m++[MB.gJ ts.heap.length]++[MB.gJ (ts.heap.length+1)]) (ts.heap++[HB.mark]++[HB.loop true f nt ts.env qs.toList vU body none]) (.l9 (ps.heap.length+1)) (.l9 (ts.heap.length+1)):=by refine .l9 ?_;rw[<-hm,a1y (by simp)];simp
 have hg':∃a1' b1',tg=.fn f1 a1' b1':=by
  cases g2 with
  |gone hi _ _=>simp[bC]at hi
  |fn _ _ _ _=>exact⟨_,_,rfl⟩
 obtain⟨a1',b1',rfl⟩:=hg';have aqC:a6M T ts.env g=true:=by unfold a6M;rw[g1];exact hd
 simp only[fJ,aqC,a2r];refine⟨f1,a1',b1',g1,a7N hS.st.env Gx,?_⟩;rw[show ts.heap++[HB.mark,HB.loop true f nt ts.env qs.toList vU body none]=ts.heap++[HB.mark]++[HB.loop true f nt ts.env qs.toList vU body none] by simp];refine aqz A _ _ _ [.l9 (ts.heap.length+1)] _ q1 (g2.step hF hU) (.cons hyl .nil) fun w h1 ws m1 v H1 CY c2 c3 c4 c5 c6=>?_;obtain⟨rd,f2,RF,e2,Dq,a2,b2,jU,e,hl,hj,hq⟩:=hk v H1 CY;have hm1:m1[ps.heap.length+1]? = some (.gJ (ts.heap.length+1)):=by
  rcases c5 (ps.heap.length+1) (.gJ (ts.heap.length+1)) (by rw[<-hm,a1y (by simp)];simp)with e|e
  .exact e
  .obtain⟨mb,k1,k2⟩:=c2.at_ _ _ hl;rw[e]at k1;cases k1;exact k2.elim
 obtain⟨mb,k1,k2⟩:=c2.at_ _ _ hl;rw[hm1]at k1;cases k1;obtain⟨e2',k3,k4⟩:=k2;obtain⟨s1,s2⟩:=c2.set (i:=ps.heap.length+1) (c:=ts.heap.length+1) (pb:=.loop false f2 RF e2 Dq a2 b2 (some .skip)) (hb:=.loop false f2 RF e2' Dq a2 b2 (some .skip)) hm1 rfl (fun cs hc=>by unfold aV at hc;rw[k3]at hc;cases hc) (fun hF=>⟨e2',by rw[a2y (a0w.1 k3).1],k4.step hF .refl⟩);have hF2:=hF.trans (c4.trans s2);have hU2:=hU.trans c5;refine⟨_,_,_,_,_,_,_,_,e,k3,hj,hR _ _ _ m1 hq ⟨?_,fun b hb=>?_,fun b hb=>?_,?_⟩ hF2 hU2.b⟩
 .have q:=hS.st.step s1 hF2 hU2;exact⟨q.heap,q.llen,q.loc,q.env⟩
 .rcases hF2.new b hb with k|k
  .exact hS.own b k
  .exact .inr (a5W hS.fl k)
 .rcases wV hb with k|⟨k,k'⟩
  .exact hS.ws b k
  .obtain⟨b',rC,e⟩:=a1z.1 k;cases e;rcases hF.new b (c6 b rC)with k2|k2
   .rcases hS.own b k2 with k3|k3
    .exact k3
    .omega
   .have:=hS.fl;omega
 .exact a5W hS.fl hF2.len
end
section
variable{X:ny}{P:LI1}{A B:Nat->Prop}{m m' m1:List MB}{h h':List HB}{g:Nat->Option Nat}
def CJ:List (PB X.Γ)->Bool
 | []=>true
 |.aF _::H=>CJ H
 |.iO _::H=>CJ H
 |.gone::H=>CJ H
 |_=>false
theorem Yn:∀{H:List (PB X.Γ)},CJ H=true->∀(i:Nat) b,H[i]? = some b->CJ [b]=true
 | [],_,i,b,h=>by simp at h
 |a::H,hn,i,b,h=>by
  cases i with
  |zero=>simp at h;subst h;cases a<;>simp_all [CJ]
  |succ i=>
   have ED:CJ H=true:=by cases a<;>simp_all [CJ]
   exact Yn ED i b (by simpa using h)
theorem a0J{H}(hn:CJ H=true)(hr:HR X P A m H h):aZ m=[]:=by
 refine a6S.2 fun b hb=>?_;obtain⟨i,mb,h1,h2⟩:=kW hb;have hl:i<H.length:=by rw[<-hr.len];exact(a0w.1 h1).1
 obtain⟨Nk,g1,g2⟩:=hr.at_ i _ (a0N hl);rw[h1]at g1;cases g1;have h3:=Yn hn i _ (a0N hl);generalize H[i]=b9 at g2 h3;cases b9<;>first|(cases h3;done)|skip
 all_goals (cases mb<;>first|exact g2.elim|cases h2)
theorem Qo{v:PV X.Γ}{t}(h:rZ v=some t):(∀l,CV t l=l)/\(∀g,og g t=some t)/\∀fl,Nc fl t=t:=by cases v<;>simp only[rZ,a08,reduceCtorEq]at h<;>subst h<;>exact⟨fun _=>rfl,fun _=>rfl,fun _=>rfl⟩
theorem zf:∀{vs:List (PV X.Γ)} {ts:List TV},iV vs=some ts->(∀l,CV.G6 ts l=l)/\∀g,og.zU g ts=some ts
 | [],ts,h=>by simp only[iV,a08]at h;subst h;exact⟨fun _=>rfl,fun _=>rfl⟩
 |v::vs,ts,h=>by
  simp only[iV]at h;split at h
  .rename_i a b h1 h2;cases h;have e1:=Qo h1;have e2:=zf h2;exact⟨fun l=>by simp only[CV.G6,e2.1,e1.1],fun g=>by simp only[og.zU,e1.2.1,e2.2]⟩
  cases h
theorem O9{v:PV X.Γ}{t}(h:qG v=some t):(∀l,CV t l=l)/\(∀g,og g t=some t)/\∀fl,Nc fl t=t:=by
 unfold qG at h;split at h
 .simp only[a0z]at h;obtain⟨ts,h1,rfl⟩:=h;have e:=zf h1;exact⟨fun l=>by simp only[CV,e.1],fun g=>by simp only[og,e.2,a1t],fun _=>rfl⟩
 exact Qo h
def a4E(X:ny)(P:LI1)(nT:Bool)(u:PV X.Γ)(Hs:List (PB X.Γ))(tv:Nat->TV)(tN:List HB):Prop:=
 ∀(A:Nat->Prop) (m:List MB) (h h1:List HB) (w:TV),HR X P A m Hs h1->VR X P (AA A m) m h1 u w->(∀b,b∈aZ m->h.length<=b)->Ph nT h w h1=some (tv h.length,h++tN)
theorem Eb(hX:bW X P){T L n f t first xs cap H N v tv tN}(hd:T.dem.contains f=true)(hx:T.exts.contains f=false)(ht:UR P f=some t)(hN:CJ H=true)(Pn:∀A m h,HR X P A m H h->∃m1,HR X P A m1 (H++N) (h++tN)/\VR X P (AA A m1) m1 (h++tN) v (tv h.length)/\Fr m h m1 (h++tN)/\Up m m1)(hE:aJ X P T (kR P T L n) (vW P T (kR P T L n) L) L f t.nt H.length t.body ⟨lM X 0 (first++xs++cap),[],H⟩ fun e s=>(e=.norm\/e=.ret)/\∃us,Gg X P s t.results=some us/\a4E X P (T.aao.contains f) (a0r X us) s.heap tv tN):dI X P (kR P T L (n+1)) (.fn f first cap) xs H v (H++N):=by
 intro A m h tf rJ hr hf Gy;cases hf with
 |gone hi _ _=>simp[bC]at hi
 |fn p1 p2 p3 p4=>
  rename_i a' c';have G8:=(bZ.app ⟨p1,p2⟩ Gy).app ⟨p3,p4⟩;have hb:=a0J hN hr;have hS:SR X P A (fun _=>False) h.length m ⟨lM X 0 (first++xs++cap),[],H⟩ ⟨oz 0 (a'++rJ++c'),[],h,[]⟩:=
   ⟨⟨hr,rfl,fun k cs hk=>by simp at hk,O7 G8⟩,fun b h1=>(by rw[hb]at h1;cases h1),fun b hb=>(by cases hb),a1p _⟩
  have hO:XD P T (kR P T L n) L f t (a'++rJ++c') h (tv h.length,h++tN):=by refine hE A _ _ m _ _ hS fun e iT ps1 m1 ⟨he,us,hus,hpv⟩ h3 h4 h5=>?_;obtain⟨ws,g1,g2⟩:=JY hX h3.st hus;exact⟨he,ws,g1,a6S.2 fun b hb=>h3.ws b hb,hpv A m1 h iT.heap _ h3.st.heap (VJ g2) fun b hb=>(h3.own b hb).resolve_left id⟩
  obtain⟨m1,q1,q2,q3,q4⟩:=Pn A m h hr;refine⟨tv h.length,h++tN,[],m1,?_,q1,q2,q3,q4,fun b hb=>by cases hb⟩;simp only[kR,hx,hd,a3F,a3V,a2r];exact aaL ht hO
theorem a0K{nT u Hs tu}(hu:qG u=some tu)(ht:∀cs,tu≠.dK cs):a4E X P nT u Hs (fun _=>tu) []:=fun A m h h1 w hr hw _=>by
 have:=jX hw hu;subst this;obtain⟨e1,e2,e3⟩:=O9 hu;have e4:Vj h.length w=w:=by
  cases w with
  |dK cs=>exact absurd rfl (ht cs)
  |_=>exact e3 h.length
 unfold Ph;simp only[e1,xK,e2,DF,e4,abM,a6l]
theorem abt(hX:bW X P){T L n f t first xs cap H v tv}(hd:T.dem.contains f=true)(hx:T.exts.contains f=false)(ht:UR P f=some t)(hN:CJ H=true)(hv:qG v=some tv)(hE:aJ X P T (kR P T L n) (vW P T (kR P T L n) L) L f t.nt H.length t.body ⟨lM X 0 (first++xs++cap),[],H⟩ fun e s=>(e=.norm\/e=.ret)/\∃us,Gg X P s t.results=some us/\a0r X us=v):dI X P (kR P T L (n+1)) (.fn f first cap) xs H v H:=by
 have:=Eb (N:=[]) (v:=v) (tv:=fun _=>tv) (tN:=[]) hX hd hx ht hN (fun A m h hr=>⟨m,by simpa using hr,oK hv,by simpa using Fr.refl,.refl⟩) (hE.mono fun e s ⟨h1,us,h2,h3⟩=>⟨h1,us,h2,by rw[h3];exact a0K hv fun cs hc=>by subst hc;cases v<;>simp[qG,rZ]at hv⟩)
 rwa [a6l]at this
def xY:List (PV X.Γ×PV X.Γ)->Option (List (TV×TV))
 | []=>some []
 |(k,v)::r=>match qG k,qG v,xY r with
  |some k,some v,some r=>some ((k,v)::r)
  |_,_,_=>none
theorem Yo:∀{es:List (PV X.Γ×PV X.Γ)} {gQ Oa:List (TV×TV)},xY es=some Oa->es.length=gQ.length->(∀(i:Nat) x y,es[i]? = some x->gQ[i]? = some y->qG x.1=some y.1/\qG x.2=some y.2)->gQ=Oa
 | [],gQ,Oa,h,hl,_=>by simp only[xY,a08]at h;subst h;exact a4D hl.symm
 |(k,v)::r,gQ,Oa,h,hl,he=>by
  cases gQ with
  |nil=>simp at hl
  |cons y gQ=>
   simp only[xY]at h;split at h
   .rename_i a b c h1 h2 h3;cases h;have e0:=he 0 _ _ rfl rfl;have e1:y.1=a:=by have:=e0.1.symm.trans h1;exact aai this
    have e2:y.2=b:=by have:=e0.2.symm.trans h2;exact aai this
    have e3:=Yo h3 (by simpa using hl) fun i x z hx hz=>he (i+1) x z (by simpa using hx) (by simpa using hz);rw[e3,<-e1,<-e2]
   cases h
theorem Qq:∀{es:List (PV X.Γ×PV X.Γ)} {Oa:List (TV×TV)},xY es=some Oa->es.length=Oa.length/\∀(i:Nat) x y,es[i]? = some x->Oa[i]? = some y->qG x.1=some y.1/\qG x.2=some y.2
 | [],Oa,h=>by simp only[xY,a08]at h;subst h;exact⟨rfl,by simp⟩
 |(k,v)::r,Oa,h=>by
  simp only[xY]at h;split at h
  .rename_i a b c h1 h2 h3;cases h;obtain⟨i1,i2⟩:=Qq h3;refine⟨by simp[i1],fun i x y hx hy=>?_⟩;cases i with
   |zero=>simp at hx hy;subst hx;subst hy;exact⟨h1,h2⟩
   |succ i=>exact i2 i x y (by simpa using hx) (by simpa using hy)
  cases h
theorem Ue:∀{es:List (PV X.Γ×PV X.Γ)} {Oa:List (TV×TV)},xY es=some Oa->(∀l,aaG.a1U Oa l=l)/\∀g,Tw.qj g Oa=some Oa
 | [],Oa,h=>by simp only[xY,a08]at h;subst h;exact⟨fun _=>rfl,fun _=>rfl⟩
 |(k,v)::r,Oa,h=>by
  simp only[xY]at h;split at h
  .rename_i a b c h1 h2 h3;cases h;have e1:=O9 h1;have e2:=O9 h2;have e3:=Ue h3;exact⟨fun l=>by simp only[aaG.a1U,e1.1,e2.1,e3.1],fun g=>by simp only[Tw.qj,e1.2.1,e2.2.1,e3.2]⟩
  cases h
theorem Qr{h h1:List HB}{c}(hc:h.length<=c)(hr:∀l,aaG h1[c]? l=l):xK h1 h.length 5000 [c] []=[c]/\Xz h.length [c] c=some h.length:=by
 have e1:Nat.blt c h.length=false:=by
  cases e:Nat.blt c h.length with
  |false=>rfl
  |true=>have:=ahA e;omega
 constructor
 .simp only[xK,e1,a6T,Bool.or_false,hr]
 simp only[Xz,e1,a6R,Nat.beq_refl,a1t,a3O]
theorem a7Y{nT r Hs es Oa}(hm:Hs[r]? = some (.map es))(he:xY es=some Oa):a4E X P nT (.map r) Hs (fun n=>.map n) [.map (TD Oa)]:=fun A m h h1 w hr hw hn=>by
 obtain⟨mb,g1,g2⟩:=hr.at_ r _ hm;cases mb with
 |gJ c=>
  obtain⟨gQ,g3,g4,g5⟩:=g2;have:=Yo he g4 g5;subst this;have hw:w=.map c:=by
   cases hw with
   |map e=>rw[g1]at e;cases e;rfl
   |gone hi e _=>simp only[bC,a08]at hi;subst hi;rw[g1]at e;cases e
  subst hw;have hc:=hn c (aY g1 rfl);obtain⟨e1,e2⟩:=Ue he;obtain⟨k1,k2⟩:=Qr (h:=h) (h1:=h1) hc fun l=>by rw[g3];exact e1 l
  unfold Ph;simp only[CV,k1,og,k2,a1t,DF,g3,vM,e2,Vj,Nc,a4W,abM,RU]
 |_=>exact g2.elim
theorem a7Z(hX:bW X P){T L n f t first xs cap H es0 a4F}(hd:T.dem.contains f=true)(hx:T.exts.contains f=false)(ht:UR P f=some t)(hN:CJ H=true)(h0:xY es0=some a4F)(hE:aJ X P T (kR P T L n) (vW P T (kR P T L n) L) L f t.nt H.length t.body ⟨lM X 0 (first++xs++cap),[],H⟩ fun e s=>(e=.norm\/e=.ret)/\∃us,Gg X P s t.results=some us/\∃r es Oa,a0r X us=.map r/\s.heap[r]? = some (.map es)/\xY es=some Oa/\TD Oa=a4F):dI X P (kR P T L (n+1)) (.fn f first cap) xs H (.map H.length) (H++[.map es0]):=by
 refine Eb (tv:=fun n=>.map n) (tN:=[.map a4F]) hX hd hx ht hN (fun A m h hr=>?_) (hE.mono fun e s ⟨h1,us,h2,r,es,Oa,h3,h4,h5,h6⟩=>⟨h1,us,h2,by rw[h3,<-h6];exact a7Y h4 h5⟩);obtain⟨p1,p2,p3⟩:=hr.push (pb:=.map es0) (hb:=.map a4F) (mb:=.gJ h.length) (.inl rfl) ⟨a4F,by simp,(Qq h0).1,(Qq h0).2⟩;exact⟨_,p1,.map (by rw[<-hr.len];simp),p2,p3⟩
theorem Yp(hX:bW X P){A m Hs h1 i ty k ex l w tcs}(hr:HR X P A m Hs h1)(hi:Hs[i]? = some (.list k ex ty l))(hl:l≠[])(hc:iV (FD X ty l)=some tcs)(hw:VR X P (AA A m) m h1 (.own i) w) :∃c sz e kk,w=.aO c 0 l.length l.length sz e/\dH P ty=some sz/\c∈aZ m/\h1[c]? = some (.cells kk tcs)/\kk≠.ro:=by
 obtain⟨mb,g1,g2⟩:=hr.at_ i _ hi;cases mb with
 |dw x=>
  have hwx:w=x:=by
   cases hw with
   |own e _=>rw[g1]at e;cases e;rfl
   |gone hi e _=>simp only[bC,a08]at hi;subst hi;rw[g1]at e;cases e
  subst hwx;cases(g2:LR X P (AA A m) m h1 k ex ty l w)with
  |nil=>exact absurd rfl hl
  |emp=>exact absurd rfl hl
  |some _ q2 q3 q4 q5 q6 q7 q8 q9=>
   have hv:=eu.vrs q9 q8;have JQ:=GX hv hc;subst JQ;exact⟨_,_,_,_,rfl,q2,aY g1 (by simp only[MB.own];rw[a0U (by simpa using hl)]),q4,q5⟩
 |_=>exact g2.elim
theorem a81(hX:bW X P){i ty sz k ex l Hs tcs}(hi:Hs[i]? = some (.list k ex ty l))(hl:l≠[])(hc:iV (FD X ty l)=some tcs)(hs:dH P ty=some sz):a4E X P true (.own i) Hs (fun n=>.aO n 0 l.length l.length sz false) [.nT (TF tcs)]:=fun A m h h1 w hr hw hn=>by
 obtain⟨c,sz',e,kk,rfl,g1,g2,g3,g4⟩:=Yp hX hr hi hl hc hw;rw[hs]at g1;cases g1;have nV:=hn c g2;obtain⟨e1,e2⟩:=zf hc;obtain⟨k1,k2⟩:=Qr (h:=h) (h1:=h1) nV fun l=>by rw[g3];exact e1 l
 have e3:RU true (.cells kk tcs)=.nT (TF tcs):=by cases kk<;>first|rfl|exact absurd rfl g4
 unfold Ph;simp only[CV,k1,og,k2,a1t,DF,g3,vM,e2,Vj,Nc,a4W,abM,e3,Nat.lt_irrefl,a3V]
theorem a88(hX:bW X P){i ty sz k ex l Hs tcs p tp}(hi:Hs[i]? = some (.list k ex ty l))(hl:l≠[])(hc:iV (FD X ty l)=some tcs)(hs:dH P ty=some sz)(hp:qG p=some tp):a4E X P false (.dK [.own i,p]) Hs (fun n=>.dK [.aO n 0 l.length l.length sz false,tp]) [.cells .last tcs]:=fun A m h h1 w hr hw hn=>by
 cases hw with
 |gone hi _ _=>simp[bC]at hi
 |dK a1 a2=>
  rename_i cs';obtain⟨x,r,rfl,v0,v1⟩:=bZ.inv (⟨a1,a2⟩:bZ X P _ _ _ _ _);obtain⟨y,r,rfl,v2,v3⟩:=v1.inv;have:=v3.inv0;subst this;have:=jX v2 hp;subst this;obtain⟨c,sz',e,kk,rfl,g1,g2,g3,g4⟩:=Yp hX hr hi hl hc v0;rw[hs]at g1;cases g1;have nV:=hn c g2;obtain⟨e1,e2⟩:=zf hc;obtain⟨q1,q2,q3⟩:=O9 hp;obtain⟨k1,k2⟩:=Qr (h:=h) (h1:=h1) nV fun l=>by rw[g3];exact e1 l
  have e3:RU false (.cells kk tcs)=.cells .last tcs:=by cases kk<;>first|rfl|exact absurd rfl g4
  unfold Ph;have q4:Nc h.length (.aO h.length 0 l.length l.length sz e)=.aO h.length 0 l.length l.length sz false:=by simp only[Nc,Nat.lt_irrefl,a3V]
  simp only[CV,CV.G6,q1,k1,og,og.zU,q2,k2,a1t,DF,g3,vM,e2,Vj,q3,q4,a4W,abM,e3]
theorem abu{H n sz cs ts}(h0:Vo cs=some ts){A m h}(hr:HR X P A m H h):∃m1,HR X P A m1 (H++[.nT cs]) (h++[.nT ts])/\VR X P (AA A m1) m1 (h++[.nT ts]) (.aO H.length 0 n n sz false) (.aO h.length 0 n n sz false)/\Fr m h m1 (h++[.nT ts])/\Up m m1:=by obtain⟨p1,p2,p3⟩:=hr.push (pb:=.nT cs) (hb:=.nT ts) (mb:=.gJ h.length) (.inl rfl) ⟨ts,by simp,h0⟩;exact⟨_,p1,.aO (by rw[<-hr.len];simp),p2,p3⟩
theorem Yq{ty sz}:∀{l},(∀(j:Nat) a,l[j]? = some a->(X.enc ty a).length=sz)->(FD X ty l).length=l.length*sz/\∀(j) a (i:Nat) c,l[j]? = some a->(X.enc ty a)[i]? = some c->(FD X ty l)[j*sz+i]? = some c
 | [],_=>⟨by simp[FD],by simp⟩
 |a::l,he=>by
  obtain⟨h1,h2⟩:=Yq (l:=l) fun j b hb=>he (j+1) b (by simpa using hb);have h0:=he 0 a rfl;refine⟨by simp only[FD,a1D,h0,h1,a4T,a4p,abm];omega,fun j b i c hb hc=>?_⟩;cases j with
  |zero=>
   simp at hb;subst hb;simp only[FD,adl,a3O];rw[a0Q (a0w.1 hc).1];exact hc
  |succ j=>
   simp only[FD];rw[a1y (by rw[h0,a4p];omega),h0,show(j+1)*sz+i-sz=j*sz+i by rw[a4p];omega];exact h2 j b i c (by simpa using hb) hc
theorem a4G{ty sz l tcs A m h}(he:∀(j:Nat) a,l[j]? = some a->(X.enc ty a).length=sz)(hc:iV (FD X ty l)=some tcs):tcs.length=l.length*sz/\eu X P A m h ty l tcs 0 sz:=by
 have hv:=GY (X:=X) (P:=P) (A:=A) (m:=m) (h:=h) hc;obtain⟨h1,h2⟩:=Yq he;have hl:tcs.length=l.length*sz:=by rw[<-hv.1,h1]
 exact⟨hl,he,by rw[hl];omega,fun j a i c v a1 a2 a3=>hv.2 (j*sz+i) c v (h2 j a i c a1 a2) (by rw[a3O]at a3;exact a3)⟩
theorem abv(hX:bW X P){H ty sz l tcs p tp}(hl:l≠[])(hc:iV (FD X ty l)=some tcs)(hs:dH P ty=some sz)(h0:0<sz)(he:∀(j:Nat) a,l[j]? = some a->(X.enc ty a).length=sz)(hp:qG p=some tp){A m h}(hr:HR X P A m H h) :∃m1,HR X P A m1 (H++[.list false false ty l]) (h++[.cells .last tcs])/\VR X P (AA A m1) m1 (h++[.cells .last tcs]) (.dK [.own H.length,p]) (.dK [.aO h.length 0 l.length l.length sz false,tp])/\Fr m h m1 (h++[.cells .last tcs])/\Up m m1:=by
 obtain⟨p1,p2,p3⟩:=hr.push (pb:=.list false false ty l) (hb:=.cells .last tcs) (mb:=.dw (.aO h.length 0 l.length l.length sz false)) (.inl (by simp only[MB.own];rw[a0U (by simpa using hl)])) (by obtain⟨r1,r2⟩:=a4G (A:=AA A (m++[MB.dw (.aO h.length 0 l.length l.length sz false)])) (m:=m++[MB.dw (.aO h.length 0 l.length l.length sz false)]) (h:=h++[.cells .last tcs]) (P:=P) he hc;exact LR.some (kk:=.last) (cs:=tcs) hl hs h0 (by simp) (by simp) (by simp) (by simp) r1 r2)
 exact⟨_,p1,bZ.cons (.own (by rw[<-hr.len];simp) rfl) (.cons (oK hp) .nil) |> fun h=>.dK h.1 h.2,p2,p3⟩
end
def eU:Code->Code
 |.seq a _=>a
 |.block _ b=>b
 |.loop b=>b
 |.scope b=>b
 |.cond _ a _=>a
 |c=>c
def eX:Code->Code
 |.seq _ b=>b
 |.cond _ _ b=>b
 |c=>c
def a8a:Code->Array Oper
 |.region _ o _=>o
 |_=>#[]
def Uf(P:LI1)(f:Nat):FnT:=match UR P f with
 |some t=>t
 |none=>⟨0,.skip,[]⟩
def VT(ops:Array Oper)(it nx mo:Nat):Bool:=match Bc ops with
 |some (a,b,_,o2)=>a==it&&b==nx&&(match o2.op,o2.dst,o2.guard with
  |.extract (.tmp k) 0,some d,none=>k==nx&&d==mo
  |_,_,_=>false)
 |none=>false
theorem a4H{ops it nx mo}(h:VT ops it nx mo=true):∃o1 o2,Bc ops=some (it,nx,o1,o2)/\o2.op=.extract (.tmp nx) 0/\o2.dst=some mo/\o2.guard=none:=by
 unfold VT at h;split at h
 .rename_i a b o1 o2 e;simp only[a2K,a6E]at h;obtain⟨⟨rfl,rfl⟩,h⟩:=h;split at h
  .rename_i k d e1 e2 e3;simp only[a2K,a6E]at h;obtain⟨rfl,rfl⟩:=h;exact⟨o1,o2,e,e1,e2,e3⟩
  cases h
 cases h
section
variable{X:ny}{P:LI1}{T:vw}{call:dN}{cd:xJ}{fU:fV X.Γ}{L f nt B:Nat}
theorem Ae(hX:bW X P)(hO:jR X P call fU){c ps ps1 an o e}(hk:jW X P T fU (dI X P call) (dR X P T call L f false nt B) B L f false nt c ps an agi=o)(ht:Fp (fun r=>r=(e,ps1)) an o):dR X P T call L f false nt B c ps e ps1:=by obtain⟨y,h1,h2⟩:=ht.aK;subst h2;rw[<-hk]at h1;exact Y3 hX hO h1
theorem a2H{n j seen}(hj:j<n)(hn:j∉seen):((List.range n).filter fun i=>!(j::seen).contains i).length<((List.range n).filter fun i=>!seen.contains i).length:=by
 have e:((List.range n).filter fun i=>!(j::seen).contains i)=((List.range n).filter fun i=>!seen.contains i).filter fun i=>!(i==j):=by rw[List.filter_filter];refine List.filter_congr fun i _=>?_;rw[aiA];cases i==j<;>simp
 rw[e];refine List.length_filter_lt_length_iff_exists.2 ⟨j,a7y.2 ⟨a5D.2 hj,by simpa using hn⟩,by simp⟩
end
section
variable{X:ny}{P:LI1}{T:vw}{call:dN}{cd:xJ}{L f nt B:Nat}
theorem aJ.ghost(hX:bW X P){gs c ps ps1 Q}(hg:lW B gs ps=some ps1)(h:aJ X P T call cd L f nt B c ps1 Q):aJ X P T call cd L f nt B c ps Q:=fun A W fl m ts R hS hR=>by obtain⟨m2,q1,q2,q3⟩:=nU hX hg A W fl m ts hS;exact h A W fl m2 ts R q1 fun e iT ps1 m1 a1 a2 a3 a4=>hR e iT ps1 m1 a1 a2 (q2.trans a3) (q3.trans a4)
theorem Qs(hX:bW X P){x i0 i1 id it nx mo b r n ops draw s0 es}{Q:bT X.Γ->Prop}(I:List Nat->bT X.Γ->Prop)(hnx:VT ops it nx mo=true) (hd:nx<nt) (hd2:mo<nt) (hl:es.length=n) (hL:n<L) (hI:I [] s0)(hinv:∀seen s,I seen s->∃gs s',lW B gs (iq X (T.eY f (dW (.seq (.region id ops draw) (.seq (.cond (.tmp mo) .skip (.exit i0)) (.block i1 x))))) s)=some s'/\Az s'.env (.tmp it)=some (.iter b)/\s'.heap[b]? = some (.dh r n seen)/\Me X s'.heap r=some es /\((∀j,j<n->j∈seen)->Az (jB (T.iJ f id) ((mo,.val (.bool false))::(nx,.val (.dK [.bool false]))::s'.env)) (.tmp mo)=some (.bool false)/\Q { s' with env:=jB (T.iJ f id) ((mo,.val (.bool false))::(nx,.val (.dK [.bool false]))::s'.env) }) /\∀j e,j∉seen->es[j]? = some e->Az (jB (T.iJ f id) ((mo,.val (.bool true))::(nx,.val (.dK [.bool true,e.1,e.2]))::s'.env)) (.tmp mo)=some (.bool true) /\aJ X P T call cd L f nt B x { s' with env:=jB (T.iJ f id) ((mo,.val (.bool true))::(nx,.val (.dK [.bool true,e.1,e.2]))::s'.env),heap:=s'.heap.set b (.dh r n (j::seen)) } fun e s=>(e=.norm\/e=.exit i1)/\I (j::seen) s) :aJ X P T call cd L f nt B (.block i0 (.loop (.seq (.region id ops draw) (.seq (.cond (.tmp mo) .skip (.exit i0)) (.block i1 x))))) s0 fun e s=>e=.norm/\Q s:=by
 obtain⟨o1,o2,hn,h2,h3,h4⟩:=a4H hnx;have skp:∀{s:bT X.Γ} {Q':Ex->bT X.Γ->Prop},Q' .norm s->aJ X P T call cd L f nt B .skip s Q':=fun{s Q'} hq=>by intro A W fl m ts R hS hR;simp only[fJ];exact⟨_,_,rfl,hR _ _ s m hq hS .refl Up.refl.b⟩
 have ext:∀{i:Nat} {s:bT X.Γ} {Q':Ex->bT X.Γ->Prop},Q' (.exit i) s->aJ X P T call cd L f nt B (.exit i) s Q':=fun{i s Q'} hq=>by intro A W fl m ts R hS hR;simp only[fJ];exact⟨_,_,rfl,hR _ _ s m hq hS .refl Up.refl.b⟩
 refine aJ.block ?_;refine aJ.loop (fun k s=>∃seen,I seen s/\k=((List.range n).filter fun i=>!seen.contains i).length) (fun k s hi=>?_) (k:=n) ⟨[],hI,by rw[show((List.range n).filter fun i=>!([]:List Nat).contains i)=List.range n from List.filter_eq_self.2 fun a _=>rfl,a6w]⟩ hL;obtain⟨seen,hi,rfl⟩:=hi;obtain⟨gs,s',e1,e2,e3,e4,e5,e6⟩:=hinv seen s hi;refine aJ.ghost hX e1 ?_;refine aJ.seq (R:=fun e s=>e=.norm/\(((∀j,j<n->j∈seen)/\s={ s' with env:=jB (T.iJ f id) ((mo,.val (.bool false))::(nx,.val (.dK [.bool false]))::s'.env) })\/∃j e,j∉seen/\es[j]? = some e/\s={ s' with env:=jB (T.iJ f id) ((mo,.val (.bool true))::(nx,.val (.dK [.bool true,e.1,e.2]))::s'.env),heap:=s'.heap.set b (.dh r n (j::seen)) })) ?_ (fun s hs=>?_) (fun i s h=>by cases h.1) (fun s h=>by cases h.1)
 .exact aJ.next hn hd hd2 h2 h3 h4 e2 e3 e4 hl (fun ho=>⟨rfl,.inl ⟨ho,rfl⟩⟩) (fun j e hj he=>⟨rfl,.inr ⟨j,e,hj,he,rfl⟩⟩)
 .obtain⟨_,⟨h5,rfl⟩|⟨j,e,hj,he,rfl⟩⟩:=hs
  .obtain⟨m1,q1⟩:=e5 h5;refine aJ.seq (R:=fun e s=>e=.exit i0/\s={ s' with env:=jB (T.iJ f id) ((mo,.val (.bool false))::(nx,.val (.dK [.bool false]))::s'.env) }) (aJ.cond (t:=false) m1 (ext ⟨rfl,rfl⟩)) (fun s h=>by cases h.1) (fun i s h=>?_) (fun s h=>by cases h.1);obtain⟨h7,rfl⟩:=h;cases h7;dsimp only;rw[a18 rfl];exact⟨rfl,q1⟩
  .obtain⟨m2,hx⟩:=e6 j e hj he;have hjn:j<n:=by rw[<-hl];exact(a0w.1 he).1
   refine aJ.seq (R:=fun e1 s=>e1=.norm/\s={ s' with env:=jB (T.iJ f id) ((mo,.val (.bool true))::(nx,.val (.dK [.bool true,e.1,e.2]))::s'.env),heap:=s'.heap.set b (.dh r n (j::seen)) }) (aJ.cond (t:=true) m2 (skp ⟨rfl,rfl⟩)) (fun s h=>?_) (fun i s h=>by cases h.1) (fun s h=>by cases h.1);obtain⟨_,rfl⟩:=h;refine aJ.block ?_;refine hx.mono fun e s h=>?_;obtain⟨h1|h1,h2⟩:=h
   .subst h1;exact⟨_,a2H hjn hj,j::seen,h2,rfl⟩
   .subst h1;dsimp only;rw[a18 rfl];exact⟨_,a2H hjn hj,j::seen,h2,rfl⟩
theorem VU(hX:bW X P){x i0 i1 id it nx mo b r n ops draw s0 es}{Q:bT X.Γ->Prop}(I:List Nat->bT X.Γ->Prop)(hnx:VT ops it nx mo=true) (hd:nx<nt) (hd2:mo<nt) (hl:es.length=n) (hL:n<L) (hI:I [] s0)(hinv:∀seen s,I seen s->∃s',iq X (T.eY f (dW (.seq (.region id ops draw) (.seq (.cond (.tmp mo) .skip (.exit i0)) (.block i1 x))))) s=s'/\Az s'.env (.tmp it)=some (.iter b)/\s'.heap[b]? = some (.dh r n seen)/\Me X s'.heap r=some es /\((∀j,j<n->j∈seen)->Az (jB (T.iJ f id) ((mo,.val (.bool false))::(nx,.val (.dK [.bool false]))::s'.env)) (.tmp mo)=some (.bool false)/\Q { s' with env:=jB (T.iJ f id) ((mo,.val (.bool false))::(nx,.val (.dK [.bool false]))::s'.env) }) /\∀j e,j∉seen->es[j]? = some e->Az (jB (T.iJ f id) ((mo,.val (.bool true))::(nx,.val (.dK [.bool true,e.1,e.2]))::s'.env)) (.tmp mo)=some (.bool true) /\aJ X P T call cd L f nt B x { s' with env:=jB (T.iJ f id) ((mo,.val (.bool true))::(nx,.val (.dK [.bool true,e.1,e.2]))::s'.env),heap:=s'.heap.set b (.dh r n (j::seen)) } fun e s=>(e=.norm\/e=.exit i1)/\I (j::seen) s) :aJ X P T call cd L f nt B (.block i0 (.loop (.seq (.region id ops draw) (.seq (.cond (.tmp mo) .skip (.exit i0)) (.block i1 x))))) s0 fun e s=>e=.norm/\Q s:=
 Qs hX I hnx hd hd2 hl hL hI fun seen s hi=>let ⟨s',e1,h⟩:=hinv seen s hi;⟨[],s',congrArg some e1,h⟩
end
theorem Good.a2I{X P T L α β f a}{r:Ar X P β}{S}{pre:α->List Prop}{fU Y8 a7V aks:fV X.Γ}(d:Nat)(hg:Good X P T L fU)(hg2:Good X P T L Y8)(hg3:Good X P T L a7V)(hg4:Good X P T L aks)(hf:∀n,d<=n->(∀m,n-d<=m->jR X P (kR P T L m) fU)->(∀m,n-d<=m->jR X P (kR P T L m) Y8)->(∀m,n-d<=m->jR X P (kR P T L m) a7V)->(∀m,n-d<=m->jR X P (kR P T L m) aks)->∀x,(∀p∈pre x,p)->nN X P (kR P T L (n+1)) f (a.put x) (r.put (S x)) []):Good X P T L (bU f a r S pre fU):=by
 obtain⟨N2,hN2⟩:=hg2;obtain⟨N3,hN3⟩:=hg3;obtain⟨N4,hN4⟩:=hg4;obtain⟨M,hM⟩:=hg;refine⟨M+N2+N3+N4+d+1,fun n hn=>?_⟩;obtain⟨k,rfl⟩:∃k,n=k+1:=⟨n-1,by omega⟩;intro g vs v ext ps ho hp;unfold bU at ho;split at ho
 .rename_i e;have e:=aa6 e;subst e;split at ho
  .rename_i x hx;cases ho;intro A h first args cap G5 hv
   exact hf k (by omega) (fun m hm=>hM m (by omega)) (fun m hm=>hN2 m (by omega)) (fun m hm=>hN3 m (by omega)) (fun m hm=>hN4 m (by omega)) x hp A h first args cap G5 (a.ok hx hv)
  .exact hM (k+1) (by omega) g vs v ext ps ho hp
 .exact hM (k+1) (by omega) g vs v ext ps ho hp
section
variable{X:ny}{P:LI1}
theorem dI.lend(hX:bW X P){call f cs ws rest xs H es}(is)(hs:dI X P call (.fn f [] []) (.agg (ws++rest)::xs) (bf is H) (.map H.length) (bf is H++[.map es]))(hv:views H cs=some ws) (ho:∀i,i∈lG.kT cs->i∈is) (hg:bf is H=List.replicate H.length .gone):dI X P call (.fn f [] []) (.agg (cs++rest)::xs) H (.map H.length) (H++[.map es]):=by
 intro A m h tf rJ hr hf hx;obtain⟨x0,r,rfl,v0,vr⟩:=hx.inv;cases v0 with
 |gone hi _ _=>simp[bC]at hi
 |agg a1 a2=>
  rename_i cs';have ha:bZ X P (AA A m) m h (cs++rest) cs':=⟨a1,a2⟩;obtain⟨c1,c2,rfl,b1,b2⟩:=EX ha;have hF:=iP (h:=h) is m;have w1:=(lX (m':=cu is m) hX hr b1 hv ho).mono fun b hb=>FA.gone hr hb;have w2:=b2.step hF.1 hF.2;have w3:=w1.app w2;have hr0:=hr.bf is;obtain⟨w,h',Xe,m1,k1,k2,k3,k4,k5,k6⟩:=hs A (cu is m) h tf (.agg (c1++c2)::r) hr0 (hf.step hF.1 hF.2) (.cons (.agg w3.1 w3.2) (vr.step hF.1 hF.2));have e0:∀b,b∉aZ (cu is m):=fun b hb=>by
   unfold aZ at hb;obtain⟨mb,h1,h2⟩:=a6q.1 hb;obtain⟨i,hi,e⟩:=aaf h1;have LW:i<H.length:=by have:=hr0.len;rw[oJ]at this;omega
   obtain⟨mb2,g1,g2⟩:=hr0.at_ i .gone (by rw[hg,agh,a18 LW]);rw[a0N hi,e]at g1;cases g1;cases mb with
   |gone=>cases h2
   |_=>exact g2.elim
  obtain⟨mb,g1,g2⟩:=k2.at_ H.length (.map es) (by rw[a1y (by rw[oJ];exact a1p _),oJ];simp);cases mb with
  |gJ c=>
   have hc:c∈aZ m1:=a6q.2 ⟨_,a5M g1,rfl⟩;have LY:h.length<=c:=(k4.new c hc).resolve_left (e0 c);have yN:aZ (m++[.gJ c])=aZ m++[c]:=by unfold aZ;rw[List.filterMap_append];rfl
   have hF2:Fr m h (m++[.gJ c]) h':=⟨k4.len,fun b hb _=>k4.same b hb (e0 b),fun b hb=>by
    rw[yN]at hb;rcases a3N.1 hb with hb|hb
    .exact .inl hb
    .rw[a2p.1 hb];exact .inr LY,k4.grow⟩
   have hU2:Up m (m++[.gJ c]):=fun i mb hi=>.inl (by rw[a0Q (a0w.1 hi).1];exact hi);have hm:(m++[MB.gJ c])[H.length]? = some (.gJ c):=by rw[<-hr.len];simp
   refine⟨w,h',Xe,m++[.gJ c],k1,⟨by simp[hr.len],fun i b hi=>?_,?_,k2.up,fun b hb=>?_⟩,?_,hF2,hU2,fun b hb=>absurd (k6 b hb) (e0 b)⟩
   .by_cases aQ:i<H.length
    .rw[a0Q aQ]at hi;obtain⟨mb,q1,q2⟩:=hr.at_ i b hi;exact⟨mb,by rw[a0Q (by rw[hr.len];exact aQ)];exact q1,q2.step hF2 hU2 fun d hd=>k4.same d (BR.has q2 hd) (e0 d)⟩
    .have LW:i=H.length:=by have:=(a0w.1 hi).1;rw[a1D,a4O]at this;omega
     subst LW;rw[a1y (a1p _)]at hi;simp at hi;subst hi;exact⟨_,hm,g2⟩
   .rw[yN];refine a9M.2 ⟨hr.nodup,by simp,fun a ha b hb=>?_⟩;rw[a2p.1 hb];have:=hr.inb ha;omega
   .rw[yN]at hb;rcases a3N.1 hb with hb|hb
    .exact hr.DR b hb
    .rw[a2p.1 hb];exact k2.DR c hc
   .cases k3 with
    |map e=>rw[g1]at e;cases e;exact .map hm
    |gone hi e o=>simp only[bC,a08]at hi;subst hi;rw[g1]at e;cases e
  |_=>exact g2.elim
variable{A:Nat->Prop}{m m':List MB}{H:List (PB X.Γ)}{h:List HB}
end
section
variable{X:ny}{P:LI1}
theorem dI.cell1(hX:bW X P){call fv v TT ws1 cs EO ws2 H H1}{i e sz:Nat}{row}(is)(hi:H[i]? = some (.cells cs))(hz:dH P e=some sz)(h0:0<sz)(hl:cs.length=sz)(hr0:(X.enc e row).length=sz)(hs:dI X P call fv [.agg (ws1++(.dw e [row] false::ws2))] (bf (i::is) H) v H1) (v1:views H TT=some ws1) (v2:views H cs=some (X.enc e row)) (v3:views H EO=some ws2)(o1:∀j,j∈lG.kT TT->j∈i::is) (o2:∀j,j∈lG.kT cs->j∈i::is) (o3:∀j,j∈lG.kT EO->j∈i::is):dI X P call fv [.agg (TT++(.aO i 0 1 1 sz true::EO))] H v H1:=by
 intro A m h tf rJ hr hf hx;obtain⟨x0,r,rfl,v0,vr⟩:=hx.inv;cases v0 with
 |gone hi _ _=>simp[bC]at hi
 |agg a1 a2=>
  rename_i cs';have ha:bZ X P (AA A m) m h (TT++(.aO i 0 1 1 sz true::EO)) cs':=⟨a1,a2⟩;obtain⟨c1,c2,rfl,b1,b2⟩:=EX ha;obtain⟨y,c3,rfl,b3,b4⟩:=b2.inv;obtain⟨mb,g1,g2⟩:=hr.at_ i _ hi;cases mb with
  |gJ b=>
   obtain⟨ts,g3,g4⟩:=g2;have hy:y=.aO b 0 1 1 sz true:=by
    cases b3 with
    |aO q=>rw[g1]at q;cases q;rfl
    |gone hi q _=>simp only[bC,a08]at hi;subst hi;rw[g1]at q;cases q
   subst hy;have hF:=iP (h:=h) (i::is) m;have w1:=(lX (m':=cu (i::is) m) hX hr b1 v1 o1).mono fun b hb=>FA.gone hr hb;have w3:=(lX (m':=cu (i::is) m) hX hr b4 v3 o3).mono fun b hb=>FA.gone hr hb;have w2:=lX (m':=cu (i::is) m) hX hr g4 v2 o2;have hb:FA A m (i::is) b:=.inr ⟨i,_,a3M,g1,rfl⟩;have q2:VR X P (FA A m (i::is)) (cu (i::is) m) h (.dw e [row] false) (.aO b 0 [row].length 1 sz true):=.dw (cs:=ts) hb (by unfold aV;rw[g3]) (fun _=>xP g3 (by simp)) hz h0 (by rw[<-g4.1,hl];simp) (a1p _) (fun e=>by cases e)
    (fun j a hj=>by
     cases j with
     |zero=>simp only[a3H,a08]at hj;subst hj;exact hr0
     |succ j=>simp at hj) (fun j a q c w hj hq hw=>by
     cases j with
     |zero=>simp only[a3H,a08]at hj;subst hj;exact w2.2 q c w hq (by simpa using hw)
     |succ j=>simp at hj)
   have w4:=w1.app (.cons (q2.mono fun b hb=>FA.gone hr hb) w3);obtain⟨w,h',Xe,m1,k1,k2,k3,k4,k5,k6⟩:=hs A (cu (i::is) m) h tf (.agg (c1++(.aO b 0 1 1 sz true::c3))::r) (hr.bf (i::is)) (hf.step hF.1 hF.2) (.cons (.agg w4.1 w4.2) (vr.step hF.1 hF.2));refine⟨w,h',Xe,m1,k1,k2,k3,hF.1.trans k4,hF.2.trans k5,fun b hb=>?_⟩;rcases hF.1.new b (k6 b hb)with g|g
   .exact g
   .have:=(hr.bf (i::is)).inb (k6 b hb);omega
  |_=>exact g2.elim
end
end Pv
namespace Tw
open Go Go.ChangeShapes Go.WideShapes Go.RowKit
theorem Ug{H}{enc:LI2×LI3->H}{P w t ts vs ds ps}(h:DataW.TrodAll enc P w 0 (fun _=>true) true (t::ts) vs ds ps):∃d e,ds=d::e/\Rd enc P w t d/\∃vs ps,DataW.TrodAll enc P w 0 (fun _=>true) true ts vs e ps:=by obtain⟨v,vs',d,ds',p,q,rfl,rfl,rfl,⟨fuel,hd⟩,OO⟩:=trodAll_cons h;exact⟨d,ds',rfl,⟨_,fuel,p,hd⟩,_,_,OO⟩
section
variable{H:Type}{P:LI1}{g:Nat}{t:LI2}{ts:List LI2}{d:DataW H}{ds:List (DataW H)}{h h1 h2:List HB}{xs:List TV}
theorem a8b{cs}(ha:xg P t=some true)(he:DI P g t d h=some (cs,h1))(hr:Vl P g ts ds h1=some (xs,h2)):Vl P g (t::ts) (d::ds) h=some (.agg cs::xs,h2):=by simp only[Vl,he,ha,hr]
theorem agG:Vl (H:=H) P g [] [] h=some ([],h):=rfl
end
end Tw
namespace Pv
open Go Tw
section
variable{X:ny}{P:LI1}{H:Type}{nZ:LI2×LI3->H}{w:LI4}
abbrev AT:Nat->Prop:=fun _=>True
def RdP(nZ:LI2×LI3->H)(X:ny)(P:LI1)(w:LI4)(g t:Nat){α:Type}(ps:α->List (PV X.Γ))(Q:α->Prop):Prop:=
 ∀d,Rd nZ P w t d->∃a,Q a/\∀h,∃xs ext,DI P g t d h=some (xs,h++ext)/\∀e,bZ X P AT [] (h++ext++e) (ps a) xs
theorem a2J{t g:Nat}{k}(ht:P.underlying t=some (.int k)):RdP nZ X P w (g+1) t (fun n:Int=>[.int k n]) (fun n=>(Lit.int k n).wf=true):=fun d hd=>by obtain⟨n,rfl,hn⟩:=agB ht hd;exact⟨n,hn,fun h=>⟨[.int k n],[],by simp[DI,ht],fun e=>.cons (.int _ _) .nil⟩⟩
theorem Uh{e g sz Q}(hlen:∀a,(X.enc e a).length=sz)(hr:RdP nZ X P w g e (X.enc e) Q):∀(ds),(∀y∈ds,Rd nZ P w e y) ->∃l:List (X.Γ e),l.length=ds.length/\(∀a∈l,Q a)/\∀h,∃cs ext,XE (DI P g e) sz ds h=some (cs,h++ext)/\cs.length=l.length*sz/\∀e2 (j:Nat) a (i:Nat) c v,l[j]? = some a->(X.enc e a)[i]? = some c->cs[j*sz+i]? = some v->VR X P AT [] (h++ext++e2) c v
 | [],_=>⟨[],rfl,by simp,fun h=>⟨[],[],by simp[XE],by simp,fun e2 j a i c v h1=>by simp at h1⟩⟩
 |d::ds,hd=>by
  obtain⟨a,qa,ha⟩:=hr d (hd d (a3M ..));obtain⟨l,l1,l2,l3⟩:=Uh hlen hr ds fun y hy=>hd y (a3J _ hy);refine⟨a::l,by simp[l1],fun b hb=>(a1G.1 hb).elim (fun e=>e▸qa) (l2 b),fun h=>?_⟩;obtain⟨xs,e1,h1,v1⟩:=ha h;obtain⟨cs,e2,h2,c2,v2⟩:=l3 (h++e1);have hx:xs.length=sz:=by rw[<-(v1 []).1];exact hlen a
  refine⟨xs++cs,e1++e2,?_,by simp only[a1D,a4T,hx,c2,a4p];omega,fun e3 j b i c v hj hi hv=>?_⟩
  .simp only[XE,h1,hx,a2r,h2,a6j]
  .cases j with
   |zero=>
    simp only[a3H,a08]at hj;subst hj;have LW:i<sz:=by rw[<-hlen a];exact(a0w.1 hi).1
    rw[adl,a3O,a0Q (by omega)]at hv;have:=(v1 (e2++e3)).2 i c v hi hv;simp only[a6j]at this ⊢;exact this
   |succ j=>
    rw[aax]at hj;rw[a1y (by rw[hx,a4p];omega),hx,show(j+1)*sz+i-sz=j*sz+i by rw[a4p];omega]at hv;have:=v2 e3 j b i c v hj hi hv;simp only[a6j]at this ⊢;exact this
theorem Qu{t e g sz:Nat}{Q}(ht:P.underlying t=some (.slice e))(qX:P.cellsOf e=sz)(hz:dH P e=some sz)(h0:0<sz)(hlen:∀a,(X.enc e a).length=sz)(hr:RdP nZ X P w g e (X.enc e) Q):RdP nZ X P w (g+1) t (fun l:List (X.Γ e)=>[.dw e l false]) (fun l=>∀a∈l,Q a):=fun d hd=>by
 rcases a7T ht hd with rfl|⟨xs,ys,rfl,hy⟩
 .exact⟨[],by simp,fun h=>⟨[.nil .aO],[],by simp[DI,ht],fun e=>.cons .qx .nil⟩⟩
 .obtain⟨l,l1,l2,l3⟩:=Uh hlen hr (xs++ys) hy;have hl:xs.length<=l.length:=by rw[l1,a1D];omega
  refine⟨l.take xs.length,fun a ha=>l2 a (aa8 ha),fun h=>?_⟩;obtain⟨cs,e1,h1,c1,v1⟩:=l3 h;refine⟨[.aO (h++e1).length 0 xs.length (xs.length+ys.length) sz true],e1++[.cells .ro cs],?_,fun e2=>.cons ?_ .nil⟩
  .have iI:¬sz=0:=(by omega);simp only[DI,ht,qX,h1,iI,a3V,a6j]
  .have hln:(l.take xs.length).length=xs.length:=(by rw[a4w,a7x hl]);have hb:(h++(e1++[HB.cells .ro cs])++e2)[(h++e1).length]? = some (.cells .ro cs):=by rw[show h++(e1++[HB.cells .ro cs])++e2=(h++e1)++(HB.cells .ro cs::e2) by simp,a1y (a1p _),afs];rfl
   have tZ:(l.take xs.length).length<=xs.length+ys.length:=(by omega);have tX:∀(j:Nat) a,(l.take xs.length)[j]? = some a->l[j]? = some a:=fun j a hj=>by
    rw[a5G]at hj;split at hj
    .exact hj
    .cases hj
   have hle:(l.take xs.length).length*sz<=cs.length:=by rw[c1,hln];exact a3X sz hl
   generalize xs.length+ys.length=cp at tZ ⊢;generalize l.take xs.length=l' at tZ tX hle hln ⊢;rw[<-hln];exact VR.dw (X:=X) (P:=P) (A:=AT) (m:=[]) (t:=e) (l:=l') (fu:=false) (b:=(h++e1).length) (off:=0) (cap:=cp) (sz:=sz) (ex:=true) (cs:=cs) trivial (by unfold aV;rw[hb]) (fun _=>by unfold nG;rw[hb];simp) hz h0 (by omega) tZ (by simp) (fun j a _=>hlen a) (fun j a i c v hj hi hv=>by rw[a3O]at hv;have:=v1 ([HB.cells .ro cs]++e2) j a i c v (tX j a hj) hi hv;simp only[a6j]at this ⊢;exact this)
def RdF(nZ:LI2×LI3->H)(X:ny)(P:LI1)(w:LI4)(g o:Nat)(fs:List Field){α:Type}(ps:α->List (PV X.Γ))(Q:α->Prop):Prop:=
 ∀ds:List (DataW H),ds.length=fs.length->(∀(i:Nat) f d,fs[i]? = some f->ds[i]? = some d->Rd nZ P w f.type d)->∃a,Q a/\∀h,∃xs ext,Nh P (DI P g) o fs ds h=some (xs,h++ext)/\∀e,bZ X P AT [] (h++ext++e) (ps a) xs
theorem VW{g o}:RdF nZ X P w g o [] (fun _:Unit=>[]) (fun _=>True):=fun ds hl _=>by have:=a4D hl;subst this;exact⟨(),trivial,fun h=>⟨[],[],by simp[Nh],fun e=>.nil⟩⟩
theorem sQ{g o n f fs α β p1 p2 Q1 Q2}(ho:f.offset=o)(hc:P.cellsOf f.type=n)(hn:∀a,(p1 a).length=n)(h1:RdP nZ X P w g f.type p1 Q1)(h2:RdF nZ X P w g (o+n) fs p2 Q2):RdF nZ X P w g o (f::fs) (fun x:α×β=>p1 x.1++p2 x.2) (fun x=>Q1 x.1/\Q2 x.2):=fun ds hl hd=>by
 cases ds with
 |nil=>cases hl
 |cons d ds=>
  obtain⟨a,qa,ha⟩:=h1 d (hd 0 f d rfl rfl);obtain⟨b,qb,hb⟩:=h2 ds (by simpa using hl) fun i f' d' e1 e2=>hd (i+1) f' d' e1 e2;refine⟨(a,b),⟨qa,qb⟩,fun h=>?_⟩;obtain⟨xs,e1,g1,v1⟩:=ha h;obtain⟨ys,e2,g2,v2⟩:=hb (h++e1);have hx:xs.length=n:=by rw[<-(v1 []).1];exact hn a
  refine⟨xs++ys,e1++e2,?_,fun e=>?_⟩
  .simp only[Nh,g1,ho,hx,hc,adx,a2r,g2,a6j]
  .have w1:=v1 (e2++e);have w2:=v2 e;simp only[a6j]at w1 w2 ⊢;exact w1.app w2
theorem H9{t g n:Nat}{fs α}{ps:α->List (PV X.Γ)}{Q}(ht:P.underlying t=some (.struct fs))(hc:P.cellsOf t=n)(hn:∀a,(ps a).length=n)(hf:RdF nZ X P w g 0 fs.toList ps Q):RdP nZ X P w (g+1) t ps Q:=fun d hd=>by
 obtain⟨ds,rfl,hl,JF⟩:=a4A ht hd;obtain⟨a,qa,ha⟩:=hf ds (by simpa using hl) fun i f d e1 e2=>JF i f d (by simpa using e1) e2;refine⟨a,qa,fun h=>?_⟩;obtain⟨xs,e1,g1,v1⟩:=ha h;have hx:xs.length=n:=by rw[<-(v1 []).1];exact hn a
 refine⟨xs,e1,?_,v1⟩;rw[Yh ht,g1];simp[hx,hc]
theorem RdP.iso{t g α β ps Q}(h:RdP nZ X P w g t ps Q)(f:α->β){p2 Q2}(hp:∀a,p2 (f a)=ps a)(hq:∀a,Q a->Q2 (f a)):RdP nZ X P w g t p2 Q2:=fun d hd=>by obtain⟨a,qa,ha⟩:=h d hd;exact⟨f a,hq a qa,fun h=>by rw[hp];exact ha h⟩
theorem agH{T}{L n f:Nat}{vs xs h}(hc:nN X P (kR P T L (n+1)) f vs (PV.bool true) [])(hv:bZ X P AT [] h vs xs):∃h',kR P T L (n+1) (TV.fn f [] []) xs h=some (TV.bool true,h',[]):=by
 obtain⟨x,h',m',c1,_,c3,_⟩:=hc AT h [] xs [] (fun _ _=>trivial) (by simpa using hv);have:x=TV.bool true:=by
  cases c3 with
  |bool=>rfl
  |gone hi _ _=>simp[bC]at hi
 subst this;exact⟨h',c1⟩
end
end Pv
